/- A part of the proof: the walks of the functions that it reaches. TIGHT. -/
import Derived.Test.YtclkbedbocnpkaaGreatDoorMFlo7
set_option linter.unusedVariables false
set_option linter.unusedSimpArgs false
namespace Go.Proofs.YtclkbedbocnpkaaGreatDoor.C
open Go.RowKit Go.Proofs.YtclkbedbocnpkaaGreatDoorW.PrintWords Go.Proofs.YtclkbedbocnpkaaGreatDoorW.PrintLast Go.Proofs.YtclkbedbocnpkaaGreatDoorW.PrintMore
set_option linter.unusedVariables false
set_option linter.unusedSimpArgs false
set_option maxHeartbeats 16000000
set_option maxRecDepth 100000
def ga_isNet_2.f (l0_0 : List S37) (l0_1 : List S65) (x : S65) : Option Bool:=(ga_isPoint.f l0_0 l0_1 x.f0).bind fun t1=>if t1 = true then (ga_isPoint.f l0_0 l0_1 x.f1).bind fun t2=>(if t2 = true then (if x.f0 = x.f1 then some true else (ga_isCups.f x.f2).bind fun t3=>some (!t3)) else some true) else some true
theorem ga_isNet_2.calls (g : Nat) (A0_0 : Option Addr) (c0_0 : Nat) (l0_0 : List S37) (A0_1 : Option Addr) (c0_1 : Nat) (l0_1 : List S65) (x : S65) (r : Bool) (w : World) (hb : w.heap[g]? = some (.cells #[.slice A0_0 l0_0.length c0_0,.slice A0_1 l0_1.length c0_1] 25 (0,0))) (hr0_0 : Kd.C k37 w A0_0 l0_0.length l0_0) (hc0_0 : l0_0.length≤c0_0) (hr0_1 : Kd.C k65 w A0_1 l0_1.length l0_1) (hc0_1 : l0_1.length≤c0_1) (h : ga_isNet_2.f l0_0 l0_1 x = some r) :
 Calls Tryz.prog 101 #[.agg #[.int .i64 x.f0,.int .i64 x.f1,.int .i64 x.f2,.bool x.f3],.pointer (some ⟨g,0,none⟩)] w fun e w'=>e = .returned (.bool r)∧Below w.heap.size w w':=by
 have hu:=Tryz.underlying25
 have huc:=Tryz.underlying65
 have HB:=am (Below.refl w.heap.size w)
 have BKg:=am hb
 have HR:=am hr0_0
 have HC:=am hc0_0
 have HR1:=am hr0_1
 have HC1:=am hc0_1
 clear hb hr0_0 hc0_0 hr0_1 hc0_1
 unfold ga_isNet_2.f at h
 obtain ⟨t1,ht,h⟩:=obm h
 have H1:=am ht
 clear ht
 cases t1 with
 | false =>
  rw [if_neg (by decide)] at h
  obtain rfl:=Option.some.inj h
  clear h
  go_enter Tryz.func101,Tryz.ntmps101
  go_wp2_with (first | ((refine ga_dst (N:=2) rfl ?_);(try (refine ga_guard (by rfl) ?_;dsimp only));refine box_event rfl (N:=2) rfl (cs:=#[.int .i64 x.f0,.int .i64 x.f1,.int .i64 x.f2,.bool x.f3]) (t:=65) ?hr ?_;(case hr=>go_simp;try rfl);intro q hg w2 hbox hb;replace HB:=(bmv HB hb);replace HR:=(cmv HR hb);replace HR1:=(cmv HR1 hb);replace BKg:=(kmv hb BKg);clear hg;have BKq:=am hbox;clear hbox;(try clear hczg_0 hczg_1);obtain ⟨hczg_0,hczg_1⟩:=cO2 BKg.out;(try clear hczq_0 hczq_1 hczq_2 hczq_3);obtain ⟨hczq_0,hczq_1,hczq_2,hczq_3⟩:=cO4 BKq.out;clear hb) | (go_at_call 70;(refine (ga_isPoint.calls A0_0 c0_0 l0_0 A0_1 c0_1 l0_1 x.f0 false _ HR.out HC.out HR1.out HC1.out H1.out).mono ?_);rintro e w1 ⟨rfl,hb⟩;replace HB:=(bmv HB hb);replace HR:=(cmv HR hb);replace HR1:=(cmv HR1 hb);replace BKg:=(kmv hb BKg);replace BKq:=(kmv hb BKq);(try clear hczg_0 hczg_1);obtain ⟨hczg_0,hczg_1⟩:=cO2 BKg.out;(try clear hczq_0 hczq_1 hczq_2 hczq_3);obtain ⟨hczq_0,hczq_1,hczq_2,hczq_3⟩:=cO4 BKq.out;clear H1;clear hb))
  go_ret
  exact ⟨rfl,HB.out⟩
 | true =>
  rw [if_pos rfl] at h
  obtain ⟨t2,ht,h⟩:=obm h
  have H2:=am ht
  clear ht
  cases t2 with
  | false =>
   rw [if_neg (by decide)] at h
   obtain rfl:=Option.some.inj h
   clear h
   go_enter Tryz.func101,Tryz.ntmps101
   go_wp2_with (first | ((refine ga_dst (N:=2) rfl ?_);(try (refine ga_guard (by rfl) ?_;dsimp only));refine box_event rfl (N:=2) rfl (cs:=#[.int .i64 x.f0,.int .i64 x.f1,.int .i64 x.f2,.bool x.f3]) (t:=65) ?hr ?_;(case hr=>go_simp;try rfl);intro q hg w2 hbox hb;replace HB:=(bmv HB hb);replace HR:=(cmv HR hb);replace HR1:=(cmv HR1 hb);replace BKg:=(kmv hb BKg);clear hg;have BKq:=am hbox;clear hbox;(try clear hczg_0 hczg_1);obtain ⟨hczg_0,hczg_1⟩:=cO2 BKg.out;(try clear hczq_0 hczq_1 hczq_2 hczq_3);obtain ⟨hczq_0,hczq_1,hczq_2,hczq_3⟩:=cO4 BKq.out;clear hb) | (go_at_call 70;(refine (ga_isPoint.calls A0_0 c0_0 l0_0 A0_1 c0_1 l0_1 x.f0 true _ HR.out HC.out HR1.out HC1.out H1.out).mono ?_);rintro e w1 ⟨rfl,hb⟩;replace HB:=(bmv HB hb);replace HR:=(cmv HR hb);replace HR1:=(cmv HR1 hb);replace BKg:=(kmv hb BKg);replace BKq:=(kmv hb BKq);(try clear hczg_0 hczg_1);obtain ⟨hczg_0,hczg_1⟩:=cO2 BKg.out;(try clear hczq_0 hczq_1 hczq_2 hczq_3);obtain ⟨hczq_0,hczq_1,hczq_2,hczq_3⟩:=cO4 BKq.out;clear H1;clear hb) | (go_at_call 70;(refine (ga_isPoint.calls A0_0 c0_0 l0_0 A0_1 c0_1 l0_1 x.f1 false _ HR.out HC.out HR1.out HC1.out H2.out).mono ?_);rintro e w1 ⟨rfl,hb⟩;replace HB:=(bmv HB hb);replace HR:=(cmv HR hb);replace HR1:=(cmv HR1 hb);replace BKg:=(kmv hb BKg);replace BKq:=(kmv hb BKq);(try clear hczg_0 hczg_1);obtain ⟨hczg_0,hczg_1⟩:=cO2 BKg.out;(try clear hczq_0 hczq_1 hczq_2 hczq_3);obtain ⟨hczq_0,hczq_1,hczq_2,hczq_3⟩:=cO4 BKq.out;clear H2;clear hb))
   go_ret
   exact ⟨rfl,HB.out⟩
  | true =>
   rw [if_pos rfl] at h
   by_cases he : x.f0 = x.f1
   ·rw [if_pos he] at h
    obtain rfl:=Option.some.inj h
    have b1 : (x.f0 == x.f1) = true:=by rw [he];exact beq_self_eq_true _
    clear h he
    go_enter Tryz.func101,Tryz.ntmps101
    go_wp2_with (first | ((refine ga_dst (N:=2) rfl ?_);(try (refine ga_guard (by rfl) ?_;dsimp only));refine box_event rfl (N:=2) rfl (cs:=#[.int .i64 x.f0,.int .i64 x.f1,.int .i64 x.f2,.bool x.f3]) (t:=65) ?hr ?_;(case hr=>go_simp;try rfl);intro q hg w2 hbox hb;replace HB:=(bmv HB hb);replace HR:=(cmv HR hb);replace HR1:=(cmv HR1 hb);replace BKg:=(kmv hb BKg);clear hg;have BKq:=am hbox;clear hbox;(try clear hczg_0 hczg_1);obtain ⟨hczg_0,hczg_1⟩:=cO2 BKg.out;(try clear hczq_0 hczq_1 hczq_2 hczq_3);obtain ⟨hczq_0,hczq_1,hczq_2,hczq_3⟩:=cO4 BKq.out;clear hb) | (go_at_call 70;(refine (ga_isPoint.calls A0_0 c0_0 l0_0 A0_1 c0_1 l0_1 x.f0 true _ HR.out HC.out HR1.out HC1.out H1.out).mono ?_);rintro e w1 ⟨rfl,hb⟩;replace HB:=(bmv HB hb);replace HR:=(cmv HR hb);replace HR1:=(cmv HR1 hb);replace BKg:=(kmv hb BKg);replace BKq:=(kmv hb BKq);(try clear hczg_0 hczg_1);obtain ⟨hczg_0,hczg_1⟩:=cO2 BKg.out;(try clear hczq_0 hczq_1 hczq_2 hczq_3);obtain ⟨hczq_0,hczq_1,hczq_2,hczq_3⟩:=cO4 BKq.out;clear H1;clear hb) | (go_at_call 70;(refine (ga_isPoint.calls A0_0 c0_0 l0_0 A0_1 c0_1 l0_1 x.f1 true _ HR.out HC.out HR1.out HC1.out H2.out).mono ?_);rintro e w1 ⟨rfl,hb⟩;replace HB:=(bmv HB hb);replace HR:=(cmv HR hb);replace HR1:=(cmv HR1 hb);replace BKg:=(kmv hb BKg);replace BKq:=(kmv hb BKq);(try clear hczg_0 hczg_1);obtain ⟨hczg_0,hczg_1⟩:=cO2 BKg.out;(try clear hczq_0 hczq_1 hczq_2 hczq_3);obtain ⟨hczq_0,hczq_1,hczq_2,hczq_3⟩:=cO4 BKq.out;clear H2;clear hb))
    go_ret
    exact ⟨rfl,HB.out⟩
   ·rw [if_neg he] at h
    obtain ⟨t3,ht,h⟩:=obm h
    obtain rfl:=Option.some.inj h
    have H3:=am ht
    have b1 : (x.f0 == x.f1) = false:=beq_eq_false_iff_ne.2 he
    clear h he ht
    go_enter Tryz.func101,Tryz.ntmps101
    go_wp2_with (first | ((refine ga_dst (N:=2) rfl ?_);(try (refine ga_guard (by rfl) ?_;dsimp only));refine box_event rfl (N:=2) rfl (cs:=#[.int .i64 x.f0,.int .i64 x.f1,.int .i64 x.f2,.bool x.f3]) (t:=65) ?hr ?_;(case hr=>go_simp;try rfl);intro q hg w2 hbox hb;replace HB:=(bmv HB hb);replace HR:=(cmv HR hb);replace HR1:=(cmv HR1 hb);replace BKg:=(kmv hb BKg);clear hg;have BKq:=am hbox;clear hbox;(try clear hczg_0 hczg_1);obtain ⟨hczg_0,hczg_1⟩:=cO2 BKg.out;(try clear hczq_0 hczq_1 hczq_2 hczq_3);obtain ⟨hczq_0,hczq_1,hczq_2,hczq_3⟩:=cO4 BKq.out;clear hb) | (go_at_call 70;(refine (ga_isPoint.calls A0_0 c0_0 l0_0 A0_1 c0_1 l0_1 x.f0 true _ HR.out HC.out HR1.out HC1.out H1.out).mono ?_);rintro e w1 ⟨rfl,hb⟩;replace HB:=(bmv HB hb);replace HR:=(cmv HR hb);replace HR1:=(cmv HR1 hb);replace BKg:=(kmv hb BKg);replace BKq:=(kmv hb BKq);(try clear hczg_0 hczg_1);obtain ⟨hczg_0,hczg_1⟩:=cO2 BKg.out;(try clear hczq_0 hczq_1 hczq_2 hczq_3);obtain ⟨hczq_0,hczq_1,hczq_2,hczq_3⟩:=cO4 BKq.out;clear H1;clear hb) | (go_at_call 70;(refine (ga_isPoint.calls A0_0 c0_0 l0_0 A0_1 c0_1 l0_1 x.f1 true _ HR.out HC.out HR1.out HC1.out H2.out).mono ?_);rintro e w1 ⟨rfl,hb⟩;replace HB:=(bmv HB hb);replace HR:=(cmv HR hb);replace HR1:=(cmv HR1 hb);replace BKg:=(kmv hb BKg);replace BKq:=(kmv hb BKq);(try clear hczg_0 hczg_1);obtain ⟨hczg_0,hczg_1⟩:=cO2 BKg.out;(try clear hczq_0 hczq_1 hczq_2 hczq_3);obtain ⟨hczq_0,hczq_1,hczq_2,hczq_3⟩:=cO4 BKq.out;clear H2;clear hb) | (go_at_call 59;(refine (ga_isCups.calls x.f2 t3 _ H3.out).mono ?_);rintro e w1 ⟨rfl,hd⟩;have hb:=hd.below;clear hd;replace HB:=(bmv HB hb);replace HR:=(cmv HR hb);replace HR1:=(cmv HR1 hb);replace BKg:=(kmv hb BKg);replace BKq:=(kmv hb BKq);(try clear hczg_0 hczg_1);obtain ⟨hczg_0,hczg_1⟩:=cO2 BKg.out;(try clear hczq_0 hczq_1 hczq_2 hczq_3);obtain ⟨hczq_0,hczq_1,hczq_2,hczq_3⟩:=cO4 BKq.out;clear hb))
    go_ret
    exact ⟨rfl,HB.out⟩
def ga_isNet.f (k : Nat) (l0_0 : List S37) (l0_1 : List S65) : Option Bool:=
 (ga_in.f (l0_0.length : Int) 1 7).bind fun t1=>if t1 = true then (if (10 : Int) < (l0_1.length : Int) then some false else (anyM (fun x=>ga_isNet_1.f x.f0.f0 x.f0.f1 x.f1) l0_0).bind fun t2=>(if t2 = true then some false else (anyM (ga_isNet_2.f l0_0 l0_1) l0_1).bind fun t3=>(if t3 = true then some false else (ga_gates.f k l0_0 l0_1).bind fun gs=>some (decide ((gs.length : Int)≤7))))) else some false
theorem ga_isNet.calls (k : Nat) (A0_0 : Option Addr) (c0_0 : Nat) (l0_0 : List S37) (A0_1 : Option Addr) (c0_1 : Nat) (l0_1 : List S65) (r : Bool) (w : World) (hr0_0 : Kd.C k37 w A0_0 l0_0.length l0_0) (hc0_0 : l0_0.length≤c0_0) (hr0_1 : Kd.C k65 w A0_1 l0_1.length l0_1) (hc0_1 : l0_1.length≤c0_1) (h : ga_isNet.f k l0_0 l0_1 = some r) :
 Calls Tryz.prog 55 #[.agg #[.slice A0_0 l0_0.length c0_0,.slice A0_1 l0_1.length c0_1]] w fun e w'=>e = .returned (.bool r)∧Below w.heap.size w w':=by
 have hu:=Tryz.underlying25
 have hmf : ∀ (fn : Fn) (first cap : Array Value) (w : World),(Instr.makeFunc fn first cap).run Tryz.prog w = .ok (.func fn first cap) w:=fun _ _ _ _=>rfl
 have hm : l0_0.length≤9223372036854775807:=Kd.C_max hr0_0
 have hm1 : l0_1.length≤9223372036854775807:=Kd.C_max hr0_1
 have HR:=am hr0_0
 have HC:=am hc0_0
 have HR1:=am hr0_1
 have HC1:=am hc0_1
 have HB:=am (Below.refl w.heap.size w)
 clear hr0_0 hc0_0 hr0_1 hc0_1
 unfold ga_isNet.f at h
 obtain ⟨t1,ht,h⟩:=obm h
 have H1:=am ht
 clear ht
 cases t1 with
 | false =>
  rw [if_neg (by decide)] at h
  obtain rfl:=Option.some.inj h
  clear h
  go_enter Tryz.func55,Tryz.ntmps55
  go_wp2_with (first | ((refine ga_dst (N:=1) rfl ?_);(try (refine ga_guard (by rfl) ?_;dsimp only));refine box_event rfl (N:=1) rfl (cs:=#[.slice A0_0 l0_0.length c0_0,.slice A0_1 l0_1.length c0_1]) (t:=25) ?hr ?_;(case hr=>go_simp;try rfl);intro g hg w2 hbox hb;replace HR:=(cmv HR hb);replace HR1:=(cmv HR1 hb);replace HB:=(bmv HB hb);clear hg;have BKg:=am hbox;clear hbox;(try clear hczg_0 hczg_1);obtain ⟨hczg_0,hczg_1⟩:=cO2 BKg.out;clear hb) | (go_at_call 88;(refine (ga_in.calls (l0_0.length : Int) 1 7 false _ H1.out).mono ?_);rintro e w1 ⟨rfl,hd⟩;have hb:=hd.below;clear hd;replace HR:=(cmv HR hb);replace HR1:=(cmv HR1 hb);replace HB:=(bmv HB hb);replace BKg:=(kmv hb BKg);(try clear hczg_0 hczg_1);obtain ⟨hczg_0,hczg_1⟩:=cO2 BKg.out;clear hb))
  go_ret
  exact ⟨rfl,HB.out⟩
 | true =>
  rw [if_pos rfl] at h
  by_cases hn : (10 : Int) < (l0_1.length : Int)
  ·rw [if_pos hn] at h
   have b1 : decide ((10 : Int) < (l0_1.length : Int)) = true:=decide_eq_true hn
   clear hn
   obtain rfl:=Option.some.inj h
   clear h
   go_enter Tryz.func55,Tryz.ntmps55
   go_wp2_with (first | ((refine ga_dst (N:=1) rfl ?_);(try (refine ga_guard (by rfl) ?_;dsimp only));refine box_event rfl (N:=1) rfl (cs:=#[.slice A0_0 l0_0.length c0_0,.slice A0_1 l0_1.length c0_1]) (t:=25) ?hr ?_;(case hr=>go_simp;try rfl);intro g hg w2 hbox hb;replace HR:=(cmv HR hb);replace HR1:=(cmv HR1 hb);replace HB:=(bmv HB hb);clear hg;have BKg:=am hbox;clear hbox;(try clear hczg_0 hczg_1);obtain ⟨hczg_0,hczg_1⟩:=cO2 BKg.out;clear hb) | (go_at_call 88;(refine (ga_in.calls (l0_0.length : Int) 1 7 true _ H1.out).mono ?_);rintro e w1 ⟨rfl,hd⟩;have hb:=hd.below;clear hd;replace HR:=(cmv HR hb);replace HR1:=(cmv HR1 hb);replace HB:=(bmv HB hb);replace BKg:=(kmv hb BKg);(try clear hczg_0 hczg_1);obtain ⟨hczg_0,hczg_1⟩:=cO2 BKg.out;clear hb))
   go_ret
   exact ⟨rfl,HB.out⟩
  ·rw [if_neg hn] at h
   have b1 : decide ((10 : Int) < (l0_1.length : Int)) = false:=decide_eq_false hn
   clear hn
   obtain ⟨t2,ht,h⟩:=obm h
   have H2:=am ht
   clear ht
   cases t2 with
   | true =>
    rw [if_pos rfl] at h
    obtain rfl:=Option.some.inj h
    clear h
    go_enter Tryz.func55,Tryz.ntmps55
    go_wp2_with (first | ((refine ga_dst (N:=1) rfl ?_);(try (refine ga_guard (by rfl) ?_;dsimp only));refine box_event rfl (N:=1) rfl (cs:=#[.slice A0_0 l0_0.length c0_0,.slice A0_1 l0_1.length c0_1]) (t:=25) ?hr ?_;(case hr=>go_simp;try rfl);intro g hg w2 hbox hb;replace HR:=(cmv HR hb);replace HR1:=(cmv HR1 hb);replace HB:=(bmv HB hb);clear hg;have BKg:=am hbox;clear hbox;(try clear hczg_0 hczg_1);obtain ⟨hczg_0,hczg_1⟩:=cO2 BKg.out;clear hb) | (go_at_call 88;(refine (ga_in.calls (l0_0.length : Int) 1 7 true _ H1.out).mono ?_);rintro e w1 ⟨rfl,hd⟩;have hb:=hd.below;clear hd;replace HR:=(cmv HR hb);replace HR1:=(cmv HR1 hb);replace HB:=(bmv HB hb);replace BKg:=(kmv hb BKg);(try clear hczg_0 hczg_1);obtain ⟨hczg_0,hczg_1⟩:=cO2 BKg.out;clear hb) | (go_at_call 102;refine (any_isNet1 (fun x=>ga_isNet_1.f x.f0.f0 x.f0.f1 x.f1) A0_0 c0_0 l0_0 true _ HR.out (fun x b W hx hq hb=>ga_isNet_1.calls _ _ _ b W hq) H2.out).mono ?_;rintro e w1 ⟨rfl,hb⟩;replace HR:=(cmv HR hb);replace HR1:=(cmv HR1 hb);replace HB:=(bmv HB hb);replace BKg:=(kmv hb BKg);(try clear hczg_0 hczg_1);obtain ⟨hczg_0,hczg_1⟩:=cO2 BKg.out;clear hb))
    go_ret
    exact ⟨rfl,HB.out⟩
   | false =>
    rw [if_neg (by decide)] at h
    obtain ⟨t3,ht,h⟩:=obm h
    have H3:=am ht
    clear ht
    cases t3 with
    | true =>
     rw [if_pos rfl] at h
     obtain rfl:=Option.some.inj h
     clear h
     go_enter Tryz.func55,Tryz.ntmps55
     go_wp2_with (first | ((refine ga_dst (N:=1) rfl ?_);(try (refine ga_guard (by rfl) ?_;dsimp only));refine box_event rfl (N:=1) rfl (cs:=#[.slice A0_0 l0_0.length c0_0,.slice A0_1 l0_1.length c0_1]) (t:=25) ?hr ?_;(case hr=>go_simp;try rfl);intro g hg w2 hbox hb;replace HR:=(cmv HR hb);replace HR1:=(cmv HR1 hb);replace HB:=(bmv HB hb);clear hg;have BKg:=am hbox;clear hbox;(try clear hczg_0 hczg_1);obtain ⟨hczg_0,hczg_1⟩:=cO2 BKg.out;clear hb) | (go_at_call 88;(refine (ga_in.calls (l0_0.length : Int) 1 7 true _ H1.out).mono ?_);rintro e w1 ⟨rfl,hd⟩;have hb:=hd.below;clear hd;replace HR:=(cmv HR hb);replace HR1:=(cmv HR1 hb);replace HB:=(bmv HB hb);replace BKg:=(kmv hb BKg);(try clear hczg_0 hczg_1);obtain ⟨hczg_0,hczg_1⟩:=cO2 BKg.out;clear hb) | (go_at_call 102;refine (any_isNet1 (fun x=>ga_isNet_1.f x.f0.f0 x.f0.f1 x.f1) A0_0 c0_0 l0_0 false _ HR.out (fun x b W hx hq hb=>ga_isNet_1.calls _ _ _ b W hq) H2.out).mono ?_;rintro e w1 ⟨rfl,hb⟩;replace HR:=(cmv HR hb);replace HR1:=(cmv HR1 hb);replace HB:=(bmv HB hb);replace BKg:=(kmv hb BKg);(try clear hczg_0 hczg_1);obtain ⟨hczg_0,hczg_1⟩:=cO2 BKg.out;clear hb) | (go_at_call 103;refine (any_isNet2 g (ga_isNet_2.f l0_0 l0_1) A0_1 c0_1 l0_1 true _ HR1.out (fun x b W hx hq hb=>ga_isNet_2.calls g A0_0 c0_0 l0_0 A0_1 c0_1 l0_1 x b W (blk_below BKg.out hb) (kC HR.out hb) HC.out (kC HR1.out hb) HC1.out hq) H3.out).mono ?_;rintro e w1 ⟨rfl,hb⟩;replace HR:=(cmv HR hb);replace HR1:=(cmv HR1 hb);replace HB:=(bmv HB hb);replace BKg:=(kmv hb BKg);(try clear hczg_0 hczg_1);obtain ⟨hczg_0,hczg_1⟩:=cO2 BKg.out;clear hb))
     go_ret
     exact ⟨rfl,HB.out⟩
    | false =>
     rw [if_neg (by decide)] at h
     obtain ⟨gs,ht,h⟩:=obm h
     have H4:=am ht
     clear ht
     obtain rfl:=Option.some.inj h
     clear h
     go_enter Tryz.func55,Tryz.ntmps55
     go_wp2_with (first | ((refine ga_dst (N:=1) rfl ?_);(try (refine ga_guard (by rfl) ?_;dsimp only));refine box_event rfl (N:=1) rfl (cs:=#[.slice A0_0 l0_0.length c0_0,.slice A0_1 l0_1.length c0_1]) (t:=25) ?hr ?_;(case hr=>go_simp;try rfl);intro g hg w2 hbox hb;replace HR:=(cmv HR hb);replace HR1:=(cmv HR1 hb);replace HB:=(bmv HB hb);clear hg;have BKg:=am hbox;clear hbox;(try clear hczg_0 hczg_1);obtain ⟨hczg_0,hczg_1⟩:=cO2 BKg.out;clear hb) | (go_at_call 88;(refine (ga_in.calls (l0_0.length : Int) 1 7 true _ H1.out).mono ?_);rintro e w1 ⟨rfl,hd⟩;have hb:=hd.below;clear hd;replace HR:=(cmv HR hb);replace HR1:=(cmv HR1 hb);replace HB:=(bmv HB hb);replace BKg:=(kmv hb BKg);(try clear hczg_0 hczg_1);obtain ⟨hczg_0,hczg_1⟩:=cO2 BKg.out;clear hb) | (go_at_call 102;refine (any_isNet1 (fun x=>ga_isNet_1.f x.f0.f0 x.f0.f1 x.f1) A0_0 c0_0 l0_0 false _ HR.out (fun x b W hx hq hb=>ga_isNet_1.calls _ _ _ b W hq) H2.out).mono ?_;rintro e w1 ⟨rfl,hb⟩;replace HR:=(cmv HR hb);replace HR1:=(cmv HR1 hb);replace HB:=(bmv HB hb);replace BKg:=(kmv hb BKg);(try clear hczg_0 hczg_1);obtain ⟨hczg_0,hczg_1⟩:=cO2 BKg.out;clear hb) | (go_at_call 103;refine (any_isNet2 g (ga_isNet_2.f l0_0 l0_1) A0_1 c0_1 l0_1 false _ HR1.out (fun x b W hx hq hb=>ga_isNet_2.calls g A0_0 c0_0 l0_0 A0_1 c0_1 l0_1 x b W (blk_below BKg.out hb) (kC HR.out hb) HC.out (kC HR1.out hb) HC1.out hq) H3.out).mono ?_;rintro e w1 ⟨rfl,hb⟩;replace HR:=(cmv HR hb);replace HR1:=(cmv HR1 hb);replace HB:=(bmv HB hb);replace BKg:=(kmv hb BKg);(try clear hczg_0 hczg_1);obtain ⟨hczg_0,hczg_1⟩:=cO2 BKg.out;clear hb) | (go_at_call 76;(refine (ga_gates.calls k A0_0 c0_0 l0_0 A0_1 c0_1 l0_1 gs _ HR.out HC.out HR1.out HC1.out H4.out).mono ?_);rintro e w1 ⟨v9,rfl,hr9,hb⟩;replace HR:=(cmv HR hb);replace HR1:=(cmv HR1 hb);replace HB:=(bmv HB hb);replace BKg:=(kmv hb BKg);(try clear hczg_0 hczg_1);obtain ⟨hczg_0,hczg_1⟩:=cO2 BKg.out;obtain ⟨A9,c9,rfl,hl9,hC9⟩:=Kd.R_reads hr9;clear hr9 hl9 hC9;clear hb))
     go_ret
     exact ⟨rfl,HB.out⟩
def ga_isGate.f (l0_0 : List (S37)) (l0_1 : List (S65)) (a1 : Int) : Option (Bool):=(ga_in.f a1 0 (wrap64 ((l0_1.length : Int) - 1))).bind fun t109=>(if t109 = true then (if 0≤a1 then (if a1 < (l0_1.length : Int) then (some ((rd_T65 l0_1 a1).f3)) else (none)) else (none)) else (some false))
theorem ga_isGate.calls (A0_0 : Option Addr) (c0_0 : Nat) (l0_0 : List (S37)) (A0_1 : Option Addr) (c0_1 : Nat) (l0_1 : List (S65)) (a1 : Int) (r : Bool) (w : World) (hr0_0 : Kd.C k37 w A0_0 l0_0.length l0_0) (hc0_0 : l0_0.length≤c0_0) (hr0_1 : Kd.C k65 w A0_1 l0_1.length l0_1) (hc0_1 : l0_1.length≤c0_1) (h : ga_isGate.f l0_0 l0_1 a1 = some r) :
 Calls Tryz.prog 90 #[.agg #[.slice A0_0 l0_0.length c0_0,.slice A0_1 l0_1.length c0_1],.int .i64 a1] w fun e w'=>e = .returned (.bool r)∧Below w.heap.size w w':=by
 have hu25:=Tryz.underlying25
 have HR0_0:=am hr0_0
 have HC0_0:=am hc0_0
 clear hr0_0 hc0_0
 have HR0_1:=am hr0_1
 have HC0_1:=am hc0_1
 clear hr0_1 hc0_1
 have HB:=am (Below.refl w.heap.size w)
 have H : ((ga_in.f a1 0 (wrap64 ((l0_1.length : Int) - 1))).bind fun t109=>(if t109 = true then (if 0≤a1 then (if a1 < (l0_1.length : Int) then (some ((rd_T65 l0_1 a1).f3)) else (none)) else (none)) else (some false))) = some r:=h
 clear h
 replace H:=obm H
 obtain ⟨t109,A30,H⟩:=H
 replace H : (if t109 = true then (if 0≤a1 then (if a1 < (l0_1.length : Int) then (some ((rd_T65 l0_1 a1).f3)) else (none)) else (none)) else (some false)) = some r:=H
 have A3:=am A30
 clear A30
 by_cases c4 : t109 = true
 case neg =>
  replace c4:=Bool.eq_false_iff.mpr c4
  subst c4
  replace H : (some false) = some r:=by rw [if_neg (show ¬ (false = true) by decide)] at H;exact H
  obtain rfl:=Option.some.inj H
  go_enter Tryz.func90,Tryz.ntmps90
  go_wp2_with (first | ((refine ga_dst (N:=2) rfl ?_);refine box_event rfl (N:=2) rfl (cs:=#[.slice A0_0 l0_0.length c0_0,.slice A0_1 l0_1.length c0_1]) (t:=25) ?hr ?_;(case hr=>go_simp;try rfl);intro gb108 hg w9 hbox hb;have BK108:=am (hbox);have GW108:=am (ge_new (HB.out) hg);have GE108:=am (ge_new (HB.out) hg);replace HB:=am (below_step (HB.out) hb);clear hb hbox hg;obtain ⟨hcz10_0,hcz10_1⟩:=cO2 BK108.out) | ((with_reducible refine ga_callee (f:=88) rfl ?_);refine goesL_ (some 10) rfl rfl Tryz.func88 (by kernel_rfl) rfl #[.int .i64 a1,.int .i64 0,.int .i64 (wrap64 ((l0_1.length : Int) - 1))] rfl (by (try simp only [List.map_toArray,List.map_cons,List.map_nil]);first | done | rfl | (simp only [List.length_drop,List.length_take];rfl)) ?_;(refine (ga_in.calls a1 0 (wrap64 ((l0_1.length : Int) - 1)) false _ A3.out).mono ?_);rintro e w' ⟨rfl,⟨nd,rfl⟩⟩;refine ⟨_,rfl,?_⟩))
  go_ret
  exact ⟨by first | rfl | (simp [*]<;>rfl),pw_below_drewN HB.out _⟩
 subst c4
 replace H : (if 0≤a1 then (if a1 < (l0_1.length : Int) then (some ((rd_T65 l0_1 a1).f3)) else (none)) else (none)) = some r:=by rw [if_pos rfl] at H;exact H
 by_cases c5 : 0≤a1
 case neg =>
  rw [if_neg c5] at H
  exact absurd H (by simp)
 rw [if_pos c5] at H
 have c5b0 : decide (0≤a1) = true:=decide_eq_true c5
 clear c5
 by_cases c6 : a1 < (l0_1.length : Int)
 case neg =>
  rw [if_neg c6] at H
  exact absurd H (by simp)
 rw [if_pos c6] at H
 have c6b0 : decide (a1 < (l0_1.length : Int)) = true:=decide_eq_true c6
 clear c6
 obtain rfl:=Option.some.inj H
 go_enter Tryz.func90,Tryz.ntmps90
 go_wp2_with (first | ((refine ga_dst (N:=2) rfl ?_);refine box_event rfl (N:=2) rfl (cs:=#[.slice A0_0 l0_0.length c0_0,.slice A0_1 l0_1.length c0_1]) (t:=25) ?hr ?_;(case hr=>go_simp;try rfl);intro gb108 hg w7 hbox hb;have BK108:=am (hbox);have GW108:=am (ge_new (HB.out) hg);have GE108:=am (ge_new (HB.out) hg);replace HB:=am (below_step (HB.out) hb);clear hb hbox hg;obtain ⟨hcz8_0,hcz8_1⟩:=cO2 BK108.out) | ((with_reducible refine ga_callee (f:=88) rfl ?_);refine goesL_ (some 10) rfl rfl Tryz.func88 (by kernel_rfl) rfl #[.int .i64 a1,.int .i64 0,.int .i64 (wrap64 ((l0_1.length : Int) - 1))] rfl (by (try simp only [List.map_toArray,List.map_cons,List.map_nil]);first | done | rfl | (simp only [List.length_drop,List.length_take];rfl)) ?_;(refine (ga_in.calls a1 0 (wrap64 ((l0_1.length : Int) - 1)) true _ A3.out).mono ?_);rintro e w' ⟨rfl,⟨nd,rfl⟩⟩;refine ⟨_,rfl,?_⟩;have p110 : 0≤(a1 : Int):=of_decide_eq_true (by assumption);have q110 : a1 < (l0_1.length : Int):=of_decide_eq_true (by assumption);obtain ⟨ad110,e110,hx110_0,hx110_1,hx110_2,hx110_3⟩:=at_T65 HR0_1.out a1 p110 q110;cases e110;replace hx110_0:=(HB.out.cell (wbl hx110_0)).trans hx110_0;replace hx110_1:=(HB.out.cell (wbl hx110_1)).trans hx110_1;replace hx110_2:=(HB.out.cell (wbl hx110_2)).trans hx110_2;replace hx110_3:=(HB.out.cell (wbl hx110_3)).trans hx110_3;replace p110:=eq_true p110;replace q110:=eq_true q110))
 go_ret
 exact ⟨by first | rfl | (simp [*]<;>rfl),pw_below_drewN HB.out _⟩
def ga_areGates.l0 : Nat→List Int→List Int→Int→Int→List (S37)→List (S65)→Option (Bool)
 | 0,_,_,_,_,_,_=>none
 | k + 1,x1,x7,x8,x9,x112000,x112001=>if x9 < x8 then (if 0≤x9 then (if x9 < (x7.length : Int) then ((ga_isGate.f x112000 x112001 (rd x7 x9)).bind fun t113=>(if t113 = true then (if x9 > 0 then (if 0≤(wrap64 (x9 - 1)) then (if (wrap64 (x9 - 1)) < (x1.length : Int) then (if (rd x7 x9)≤(rd x1 (wrap64 (x9 - 1))) then (some false) else (ga_areGates.l0 k x1 x7 x8 (wrap64 (x9 + 1)) x112000 x112001)) else (none)) else (none)) else (ga_areGates.l0 k x1 x7 x8 (wrap64 (x9 + 1)) x112000 x112001)) else (some false))) else (none)) else (none)) else (some true)
def ga_areGates.f (k : Nat) (l0_0 : List (S37)) (l0_1 : List (S65)) (l1 : List Int) : Option (Bool):=ga_areGates.l0 k l1 l1 (l1.length : Int) 0 l0_0 l0_1
theorem ga_areGates.calls (k : Nat) (A0_0 : Option Addr) (c0_0 : Nat) (l0_0 : List (S37)) (A0_1 : Option Addr) (c0_1 : Nat) (l0_1 : List (S65)) (A1 : Option Addr) (c1 : Nat) (l1 : List Int) (r : Bool) (w : World) (hr0_0 : Kd.C k37 w A0_0 l0_0.length l0_0) (hc0_0 : l0_0.length≤c0_0) (hr0_1 : Kd.C k65 w A0_1 l0_1.length l0_1) (hc0_1 : l0_1.length≤c0_1) (hr1 : Kd.C (Kd.int .i64) w A1 l1.length l1) (hc1 : l1.length≤c1) (h : ga_areGates.f k l0_0 l0_1 l1 = some r) :
 Calls Tryz.prog 56 #[.agg #[.slice A0_0 l0_0.length c0_0,.slice A0_1 l0_1.length c0_1],.slice A1 l1.length c1] w fun e w'=>e = .returned (.bool r)∧Below w.heap.size w w':=by
 have hu25:=Tryz.underlying25
 have HR0_0:=am hr0_0
 have HC0_0:=am hc0_0
 clear hr0_0 hc0_0
 have HR0_1:=am hr0_1
 have HC0_1:=am hc0_1
 clear hr0_1 hc0_1
 have HR1:=am hr1
 have HC1:=am hc1
 clear hr1 hc1
 have HB:=am (Below.refl w.heap.size w)
 have H : (ga_areGates.l0 k l1 l1 (l1.length : Int) 0 l0_0 l0_1) = some r:=h
 clear h
 replace H':=am H
 go_enter Tryz.func56,Tryz.ntmps56
 go_wp2_with (first | ((refine ga_dst (N:=2) rfl ?_);refine box_event rfl (N:=2) rfl (cs:=#[.slice A0_0 l0_0.length c0_0,.slice A0_1 l0_1.length c0_1]) (t:=25) ?hr ?_;(case hr=>go_simp;try rfl);intro gb111 hg w3 hbox hb;have BK111:=am (hbox);have GW111:=am (ge_new (HB.out) hg);have GE111:=am (ge_new (HB.out) hg);replace HB:=am (below_step (HB.out) hb);clear hb hbox hg))
 go_loopg [9] k (fun kq v9 w'=>∃ (x9_1 : Int),v9 = .int .i64 x9_1∧Aside0 (ga_areGates.l0 kq l1 l1 (l1.length : Int) x9_1 l0_0 l0_1 = some r)∧Aside0 (kq≤k)∧Aside0 (w'.heap[gb111]? = some (.cells #[(.slice A0_0 l0_0.length c0_0),(.slice A0_1 l0_1.length c0_1)] 25 (0,0)))∧Aside0 (Below w.heap.size w w'))
 case atStart=>exact ⟨(0),(by first | rfl | (simp;done) | (simp [*];done)),H',⟨Nat.le_refl _⟩,⟨BK111.out⟩,⟨HB.out⟩⟩
 case round =>
  clear H'
  obtain ⟨x9_1,rfl,HA,HK1,BK111,HB⟩:=hrel
  cases gk with
  | zero=>exact absurd HA.out (by simp [ga_areGates.l0])
  | succ k1 =>
   have H:=HA.out
   clear HA
   simp only [ga_areGates.l0] at H
   by_cases c4 : x9_1 < (l1.length : Int)
   case neg =>
    rw [if_neg c4] at H
    have c4b0 : decide (x9_1 < (l1.length : Int)) = false:=decide_eq_false c4
    clear c4
    obtain rfl:=Option.some.inj H
    go_wp2
    go_ret
    exact ⟨by first | rfl | (simp [*]<;>rfl),HB.out⟩
   rw [if_pos c4] at H
   have c4b0 : decide (x9_1 < (l1.length : Int)) = true:=decide_eq_true c4
   clear c4
   by_cases c5 : 0≤x9_1
   case neg =>
    rw [if_neg c5] at H
    exact absurd H (by simp)
   rw [if_pos c5] at H
   have c5b0 : decide (0≤x9_1) = true:=decide_eq_true c5
   clear c5
   by_cases c6 : x9_1 < (l1.length : Int)
   case neg =>
    rw [if_neg c6] at H
    exact absurd H (by simp)
   rw [if_pos c6] at H
   have c6b0 : decide (x9_1 < (l1.length : Int)) = true:=decide_eq_true c6
   clear c6
   replace H:=obm H
   obtain ⟨t113,A70,H⟩:=H
   replace H : (if t113 = true then (if x9_1 > 0 then (if 0≤(wrap64 (x9_1 - 1)) then (if (wrap64 (x9_1 - 1)) < (l1.length : Int) then (if (rd l1 x9_1)≤(rd l1 (wrap64 (x9_1 - 1))) then (some false) else (ga_areGates.l0 k1 l1 l1 (l1.length : Int) (wrap64 (x9_1 + 1)) l0_0 l0_1)) else (none)) else (none)) else (ga_areGates.l0 k1 l1 l1 (l1.length : Int) (wrap64 (x9_1 + 1)) l0_0 l0_1)) else (some false)) = some r:=H
   have A7:=am A70
   clear A70
   by_cases c8 : t113 = true
   case neg =>
    replace c8:=Bool.eq_false_iff.mpr c8
    subst c8
    replace H : (some false) = some r:=by rw [if_neg (show ¬ (false = true) by decide)] at H;exact H
    obtain rfl:=Option.some.inj H
    have p112 : 0≤(x9_1 : Int):=of_decide_eq_true (by assumption)
    have q112 : x9_1 < (l1.length : Int):=of_decide_eq_true (by assumption)
    obtain ⟨ad112,e112,hx112_0⟩:=Kd.at_int HR1.out x9_1 p112 q112
    cases e112
    replace hx112_0:=(HB.out.cell (wbl hx112_0)).trans hx112_0
    replace p112:=eq_true p112
    replace q112:=eq_true q112
    obtain ⟨hcz20_0,hcz20_1⟩:=cO2 BK111.out
    go_wp2_with (first | ((with_reducible refine ga_callee (f:=90) rfl ?_);refine goesL_ (some 16) rfl rfl Tryz.func90 (by kernel_rfl) rfl #[.agg #[.slice A0_0 l0_0.length c0_0,.slice A0_1 l0_1.length c0_1],.int .i64 (rd l1 x9_1)] rfl (by (try simp only [List.map_toArray,List.map_cons,List.map_nil]);first | done | rfl | (simp only [List.length_drop,List.length_take];rfl)) ?_;(refine (ga_isGate.calls _ _ l0_0 _ _ l0_1 (rd l1 x9_1) false _ ?side1 ?side2 ?side3 ?side4 A7.out).mono ?_);(case side1=>exact kC HR0_0.out HB.out);(case side2=>exact HC0_0.out);(case side3=>exact kC HR0_1.out HB.out);(case side4=>exact HC0_1.out);rintro e w21 ⟨rfl,hb⟩;refine ⟨_,rfl,?_⟩;replace BK111:=(kmv hb BK111);replace HB:=am (below_step (HB.out) hb);(try clear hb);(try clear hb2);(try clear hk);(try clear hi)))
    go_ret
    exact ⟨by first | rfl | (simp [*]<;>rfl),HB.out⟩
   subst c8
   replace H : (if x9_1 > 0 then (if 0≤(wrap64 (x9_1 - 1)) then (if (wrap64 (x9_1 - 1)) < (l1.length : Int) then (if (rd l1 x9_1)≤(rd l1 (wrap64 (x9_1 - 1))) then (some false) else (ga_areGates.l0 k1 l1 l1 (l1.length : Int) (wrap64 (x9_1 + 1)) l0_0 l0_1)) else (none)) else (none)) else (ga_areGates.l0 k1 l1 l1 (l1.length : Int) (wrap64 (x9_1 + 1)) l0_0 l0_1)) = some r:=by rw [if_pos rfl] at H;exact H
   by_cases c9 : x9_1 > 0
   case neg =>
    rw [if_neg c9] at H
    have c9b0 : decide (0 < x9_1) = false:=decide_eq_false c9
    clear c9
    replace H':=am H
    have p112 : 0≤(x9_1 : Int):=of_decide_eq_true (by assumption)
    have q112 : x9_1 < (l1.length : Int):=of_decide_eq_true (by assumption)
    obtain ⟨ad112,e112,hx112_0⟩:=Kd.at_int HR1.out x9_1 p112 q112
    cases e112
    replace hx112_0:=(HB.out.cell (wbl hx112_0)).trans hx112_0
    replace p112:=eq_true p112
    replace q112:=eq_true q112
    obtain ⟨hcz18_0,hcz18_1⟩:=cO2 BK111.out
    go_wp2_with (first | ((with_reducible refine ga_callee (f:=90) rfl ?_);refine goesL_ (some 16) rfl rfl Tryz.func90 (by kernel_rfl) rfl #[.agg #[.slice A0_0 l0_0.length c0_0,.slice A0_1 l0_1.length c0_1],.int .i64 (rd l1 x9_1)] rfl (by (try simp only [List.map_toArray,List.map_cons,List.map_nil]);first | done | rfl | (simp only [List.length_drop,List.length_take];rfl)) ?_;(refine (ga_isGate.calls _ _ l0_0 _ _ l0_1 (rd l1 x9_1) true _ ?side1 ?side2 ?side3 ?side4 A7.out).mono ?_);(case side1=>exact kC HR0_0.out HB.out);(case side2=>exact HC0_0.out);(case side3=>exact kC HR0_1.out HB.out);(case side4=>exact HC0_1.out);rintro e w19 ⟨rfl,hb⟩;refine ⟨_,rfl,?_⟩;replace BK111:=(kmv hb BK111);replace HB:=am (below_step (HB.out) hb);(try clear hb);(try clear hb2);(try clear hk);(try clear hi)))
    go_roundg k1
    case measure=>have:=HK1.out;omega
    case rel=>exact ⟨(wrap64 (x9_1 + 1)),(by first | rfl | (simp;done) | (simp [*];done)),H',⟨by have:=HK1.out;omega⟩,⟨BK111.out⟩,⟨HB.out⟩⟩
   rw [if_pos c9] at H
   have c9b0 : decide (0 < x9_1) = true:=decide_eq_true c9
   clear c9
   obtain ⟨ji10,hji10⟩ : ∃ j_ : Int,(wrap64 (x9_1 - 1)) = j_:=⟨_,rfl⟩
   replace H : (if 0≤(ji10) then (if (ji10) < (l1.length : Int) then (if (rd l1 x9_1)≤(rd l1 (ji10)) then (some false) else (ga_areGates.l0 k1 l1 l1 (l1.length : Int) (wrap64 (x9_1 + 1)) l0_0 l0_1)) else (none)) else (none)) = some r:=by first | (rw [hji10] at H;exact H) | (simp only [hji10] at H ⊢;exact H)
   (try rw [hji10] at A7)
   have hji10w : (IntKind.i64.wrap (x9_1 - 1)) = ji10:=(i64_w _).trans hji10
   by_cases c11 : 0≤(ji10)
   case neg =>
    rw [if_neg c11] at H
    exact absurd H (by simp)
   rw [if_pos c11] at H
   have c11b0 : decide (0≤(ji10)) = true:=decide_eq_true c11
   clear c11
   by_cases c12 : (ji10) < (l1.length : Int)
   case neg =>
    rw [if_neg c12] at H
    exact absurd H (by simp)
   rw [if_pos c12] at H
   have c12b0 : decide ((ji10) < (l1.length : Int)) = true:=decide_eq_true c12
   clear c12
   by_cases c13 : (rd l1 x9_1)≤(rd l1 (ji10))
   ·rw [if_pos c13] at H
    have c13b0 : decide ((rd l1 x9_1)≤(rd l1 (ji10))) = true:=decide_eq_true c13
    clear c13
    obtain rfl:=Option.some.inj H
    have p112 : 0≤(x9_1 : Int):=of_decide_eq_true (by assumption)
    have q112 : x9_1 < (l1.length : Int):=of_decide_eq_true (by assumption)
    obtain ⟨ad112,e112,hx112_0⟩:=Kd.at_int HR1.out x9_1 p112 q112
    cases e112
    replace hx112_0:=(HB.out.cell (wbl hx112_0)).trans hx112_0
    replace p112:=eq_true p112
    replace q112:=eq_true q112
    obtain ⟨hcz14_0,hcz14_1⟩:=cO2 BK111.out
    go_wp2_with (first | ((with_reducible refine ga_callee (f:=90) rfl ?_);refine goesL_ (some 16) rfl rfl Tryz.func90 (by kernel_rfl) rfl #[.agg #[.slice A0_0 l0_0.length c0_0,.slice A0_1 l0_1.length c0_1],.int .i64 (rd l1 x9_1)] rfl (by (try simp only [List.map_toArray,List.map_cons,List.map_nil]);first | done | rfl | (simp only [List.length_drop,List.length_take];rfl)) ?_;(refine (ga_isGate.calls _ _ l0_0 _ _ l0_1 (rd l1 x9_1) true _ ?side1 ?side2 ?side3 ?side4 A7.out).mono ?_);(case side1=>exact kC HR0_0.out HB.out);(case side2=>exact HC0_0.out);(case side3=>exact kC HR0_1.out HB.out);(case side4=>exact HC0_1.out);rintro e w15 ⟨rfl,hb⟩;refine ⟨_,rfl,?_⟩;replace BK111:=(kmv hb BK111);replace HB:=am (below_step (HB.out) hb);(try clear hb);(try clear hb2);(try clear hk);(try clear hi);have p114 : 0≤((ji10) : Int):=of_decide_eq_true (by assumption);have q114 : (ji10) < (l1.length : Int):=of_decide_eq_true (by assumption);obtain ⟨ad114,e114,hx114_0⟩:=Kd.at_int HR1.out (ji10) p114 q114;obtain rfl : ad112 = ad114:=(by injection e114);replace hx114_0:=(HB.out.cell (wbl hx114_0)).trans hx114_0;replace p114:=eq_true p114;replace q114:=eq_true q114))
    go_ret
    exact ⟨by first | rfl | (simp [errW_none,errW_some]<;>rfl) | (simp only [← hji10];first | rfl | (simp [errW_none,errW_some]<;>rfl)) | (simp [*,errW_none,errW_some]<;>rfl),HB.out⟩
   ·rw [if_neg c13] at H
    have c13b0 : decide ((rd l1 x9_1)≤(rd l1 (ji10))) = false:=decide_eq_false c13
    clear c13
    replace H':=am H
    have p112 : 0≤(x9_1 : Int):=of_decide_eq_true (by assumption)
    have q112 : x9_1 < (l1.length : Int):=of_decide_eq_true (by assumption)
    obtain ⟨ad112,e112,hx112_0⟩:=Kd.at_int HR1.out x9_1 p112 q112
    cases e112
    replace hx112_0:=(HB.out.cell (wbl hx112_0)).trans hx112_0
    replace p112:=eq_true p112
    replace q112:=eq_true q112
    obtain ⟨hcz16_0,hcz16_1⟩:=cO2 BK111.out
    go_wp2_with (first | ((with_reducible refine ga_callee (f:=90) rfl ?_);refine goesL_ (some 16) rfl rfl Tryz.func90 (by kernel_rfl) rfl #[.agg #[.slice A0_0 l0_0.length c0_0,.slice A0_1 l0_1.length c0_1],.int .i64 (rd l1 x9_1)] rfl (by (try simp only [List.map_toArray,List.map_cons,List.map_nil]);first | done | rfl | (simp only [List.length_drop,List.length_take];rfl)) ?_;(refine (ga_isGate.calls _ _ l0_0 _ _ l0_1 (rd l1 x9_1) true _ ?side1 ?side2 ?side3 ?side4 A7.out).mono ?_);(case side1=>exact kC HR0_0.out HB.out);(case side2=>exact HC0_0.out);(case side3=>exact kC HR0_1.out HB.out);(case side4=>exact HC0_1.out);rintro e w17 ⟨rfl,hb⟩;refine ⟨_,rfl,?_⟩;replace BK111:=(kmv hb BK111);replace HB:=am (below_step (HB.out) hb);(try clear hb);(try clear hb2);(try clear hk);(try clear hi);have p114 : 0≤((ji10) : Int):=of_decide_eq_true (by assumption);have q114 : (ji10) < (l1.length : Int):=of_decide_eq_true (by assumption);obtain ⟨ad114,e114,hx114_0⟩:=Kd.at_int HR1.out (ji10) p114 q114;obtain rfl : ad112 = ad114:=(by injection e114);replace hx114_0:=(HB.out.cell (wbl hx114_0)).trans hx114_0;replace p114:=eq_true p114;replace q114:=eq_true q114))
    go_roundg k1
    case measure=>have:=HK1.out;omega
    case rel=>exact ⟨(wrap64 (x9_1 + 1)),(by first | rfl | (simp;done) | (simp [*];done)),H',⟨by have:=HK1.out;omega⟩,⟨BK111.out⟩,⟨HB.out⟩⟩
def q8_in.f (a0 : Int) (a1 : Int) (a2 : Int) : Option (Bool):=if a0 ≥ a1 then (some (decide (a0≤a2))) else (some false)
theorem q8_in.calls (a0 : Int) (a1 : Int) (a2 : Int) (r : Bool) (w : World) (h : q8_in.f a0 a1 a2 = some r) :
 Calls Tryz.prog 63 #[.int .i64 a0,.int .i64 a1,.int .i64 a2] w fun e w'=>e = .returned (.bool r)∧Drawn0 w w':=by
 have H : (if a0 ≥ a1 then (some (decide (a0≤a2))) else (some false)) = some r:=h
 clear h
 by_cases c4 : a0 ≥ a1
 ·rw [if_pos c4] at H
  have c4b0 : decide (a1≤a0) = true:=decide_eq_true c4
  clear c4
  obtain rfl:=Option.some.inj H
  go_enter Tryz.func63,Tryz.ntmps63
  go_wp2
  go_ret
  exact ⟨by first | rfl | (simp;done) | (simp [*];done),by repeat (first | exact Drawn0.refl _ | apply Drawn0.step)⟩
 ·rw [if_neg c4] at H
  have c4b0 : decide (a1≤a0) = false:=decide_eq_false c4
  clear c4
  obtain rfl:=Option.some.inj H
  go_enter Tryz.func63,Tryz.ntmps63
  go_wp2
  go_ret
  exact ⟨by first | rfl | (simp;done) | (simp [*];done),by repeat (first | exact Drawn0.refl _ | apply Drawn0.step)⟩
def q8_Point.f (l0_0 : List (S37)) (l0_1 : List (S65)) (a1 : Int) : Option (Bool):=(q8_in.f a1 0 (wrap64 ((l0_0.length : Int) - 1))).bind fun t255=>(some t255)
theorem q8_Point.calls (A0_0 : Option Addr) (c0_0 : Nat) (l0_0 : List (S37)) (A0_1 : Option Addr) (c0_1 : Nat) (l0_1 : List (S65)) (a1 : Int) (r : Bool) (w : World) (hr0_0 : Kd.C k37 w A0_0 l0_0.length l0_0) (hc0_0 : l0_0.length≤c0_0) (hr0_1 : Kd.C k65 w A0_1 l0_1.length l0_1) (hc0_1 : l0_1.length≤c0_1) (h : q8_Point.f l0_0 l0_1 a1 = some r) :
 Calls Tryz.prog 30 #[.agg #[.slice A0_0 l0_0.length c0_0,.slice A0_1 l0_1.length c0_1],.int .i64 a1] w fun e w'=>e = .returned (.bool r)∧Below w.heap.size w w':=by
 have hu25:=Tryz.underlying25
 have HR0_0:=am hr0_0
 have HC0_0:=am hc0_0
 clear hr0_0 hc0_0
 have HR0_1:=am hr0_1
 have HC0_1:=am hc0_1
 clear hr0_1 hc0_1
 have HB:=am (Below.refl w.heap.size w)
 have H : ((q8_in.f a1 0 (wrap64 ((l0_0.length : Int) - 1))).bind fun t255=>(some t255)) = some r:=h
 clear h
 replace H:=obm H
 obtain ⟨t255,A30,H⟩:=H
 replace H : (some t255) = some r:=H
 have A3:=am A30
 clear A30
 obtain rfl:=Option.some.inj H
 go_enter Tryz.func30,Tryz.ntmps30
 go_wp2_with (first | ((refine ga_dst (N:=2) rfl ?_);refine box_event rfl (N:=2) rfl (cs:=#[.slice A0_0 l0_0.length c0_0,.slice A0_1 l0_1.length c0_1]) (t:=25) ?hr ?_;(case hr=>go_simp;try rfl);intro gb254 hg w4 hbox hb;have BK254:=am (hbox);have GW254:=am (ge_new (HB.out) hg);have GE254:=am (ge_new (HB.out) hg);replace HB:=am (below_step (HB.out) hb);clear hb hbox hg;obtain ⟨hcz5_0,hcz5_1⟩:=cO2 BK254.out) | ((with_reducible refine ga_callee (f:=63) rfl ?_);refine goesL_ (some 10) rfl rfl Tryz.func63 (by kernel_rfl) rfl #[.int .i64 a1,.int .i64 0,.int .i64 (wrap64 ((l0_0.length : Int) - 1))] rfl (by (try simp only [List.map_toArray,List.map_cons,List.map_nil]);first | done | rfl | (simp only [List.length_drop,List.length_take];rfl)) ?_;(refine (q8_in.calls a1 0 (wrap64 ((l0_0.length : Int) - 1)) t255 _ A3.out).mono ?_);rintro e w' ⟨rfl,⟨nd,rfl⟩⟩;refine ⟨_,rfl,?_⟩))
 go_ret
 exact ⟨by first | rfl | (simp [*]<;>rfl),pw_below_drewN HB.out _⟩
def q8_cups.f (a0 : Int) : Option (Bool):=(q8_in.f a0 0 10000).bind fun t256=>(some t256)
theorem q8_cups.calls (a0 : Int) (r : Bool) (w : World) (h : q8_cups.f a0 = some r) :
 Calls Tryz.prog 62 #[.int .i64 a0] w fun e w'=>e = .returned (.bool r)∧Drawn0 w w':=by
 have H : ((q8_in.f a0 0 10000).bind fun t256=>(some t256)) = some r:=h
 clear h
 replace H:=obm H
 obtain ⟨t256,A20,H⟩:=H
 replace H : (some t256) = some r:=H
 have A2:=am A20
 clear A20
 obtain rfl:=Option.some.inj H
 go_enter Tryz.func62,Tryz.ntmps62
 go_wp2_with (first | ((with_reducible refine ga_callee (f:=63) rfl ?_);refine goesL_ (some 4) rfl rfl Tryz.func63 (by kernel_rfl) rfl #[.int .i64 a0,.int .i64 0,.int .i64 10000] rfl (by (try simp only [List.map_toArray,List.map_cons,List.map_nil]);first | done | rfl | (simp only [List.length_drop,List.length_take];rfl)) ?_;(refine (q8_in.calls a0 0 10000 t256 _ A2.out).mono ?_);rintro e w' ⟨rfl,⟨nd,rfl⟩⟩;refine ⟨_,rfl,?_⟩))
 go_ret
 exact ⟨by first | rfl | (simp;done) | (simp [*];done),by repeat (first | exact Drawn0.refl _ | apply Drawn0.step)⟩
mutual
def q8_Net.l0 : Nat→Int→List (S37)→List (S65)→Option (Bool)
 | 0,_,_,_=>none
 | k + 1,x3,x258000,x258001=>if x3 < (x258000.length : Int) then (if 0≤x3 then ((q8_cups.f ((rd_T37 x258000 x3).f0.f0)).bind fun t260=>(if t260 = true then ((q8_cups.f ((rd_T37 x258000 x3).f0.f1)).bind fun t261=>(if t261 = true then (if ((rd_T37 x258000 x3).f0.f0) > ((rd_T37 x258000 x3).f0.f1) then (some false) else ((q8_cups.f ((rd_T37 x258000 x3).f1)).bind fun t262=>(if t262 = true then (q8_Net.l0 k (wrap64 (x3 + 1)) x258000 x258001) else (some false)))) else (some false))) else (some false))) else (none)) else (q8_Net.l1 k 0 0 x258000 x258001)
def q8_Net.l1 : Nat→Int→Int→List (S37)→List (S65)→Option (Bool)
 | 0,_,_,_,_=>none
 | k + 1,x5,x6,x258000,x258001=>if x6 < (x258001.length : Int) then (if 0≤x6 then ((q8_Point.f x258000 x258001 ((rd_T65 x258001 x6).f0)).bind fun t266=>(if t266 = true then ((q8_Point.f x258000 x258001 ((rd_T65 x258001 x6).f1)).bind fun t267=>(if t267 = true then (if ((rd_T65 x258001 x6).f0) = ((rd_T65 x258001 x6).f1) then (q8_Net.j2 k x5 x6 true x258000 x258001 ((rd_T65 x258001 x6).f0) ((rd_T65 x258001 x6).f1) ((rd_T65 x258001 x6).f2) ((rd_T65 x258001 x6).f3)) else ((q8_cups.f ((rd_T65 x258001 x6).f2)).bind fun t268=>(q8_Net.j2 k x5 x6 (!t268) x258000 x258001 ((rd_T65 x258001 x6).f0) ((rd_T65 x258001 x6).f1) ((rd_T65 x258001 x6).f2) ((rd_T65 x258001 x6).f3)))) else (q8_Net.j2 k x5 x6 true x258000 x258001 ((rd_T65 x258001 x6).f0) ((rd_T65 x258001 x6).f1) ((rd_T65 x258001 x6).f2) ((rd_T65 x258001 x6).f3)))) else (q8_Net.j2 k x5 x6 true x258000 x258001 ((rd_T65 x258001 x6).f0) ((rd_T65 x258001 x6).f1) ((rd_T65 x258001 x6).f2) ((rd_T65 x258001 x6).f3)))) else (none)) else ((q8_in.f (x258000.length : Int) 1 7).bind fun t263=>(if t263 = true then (if (x258001.length : Int)≤10 then (some (decide (x5≤7))) else (some false)) else (some false)))
def q8_Net.j2 : Nat→Int→Int→Bool→List (S37)→List (S65)→Int→Int→Int→Bool→Option (Bool)
 | 0,_,_,_,_,_,_,_,_,_=>none
 | k + 1,x5,x6,x83,x258000,x258001,x266000,x266001,x266002,x266003=>if x83 = true then (some false) else (if x266003 = true then (q8_Net.l1 k (wrap64 (x5 + 1)) (wrap64 (x6 + 1)) x258000 x258001) else (q8_Net.l1 k x5 (wrap64 (x6 + 1)) x258000 x258001))
end
def q8_Net.f (k : Nat) (l0_0 : List (S37)) (l0_1 : List (S65)) : Option (Bool):=q8_Net.l0 k 0 l0_0 l0_1
theorem q8_Net.calls (k : Nat) (A0_0 : Option Addr) (c0_0 : Nat) (l0_0 : List (S37)) (A0_1 : Option Addr) (c0_1 : Nat) (l0_1 : List (S65)) (r : Bool) (w : World) (hr0_0 : Kd.C k37 w A0_0 l0_0.length l0_0) (hc0_0 : l0_0.length≤c0_0) (hr0_1 : Kd.C k65 w A0_1 l0_1.length l0_1) (hc0_1 : l0_1.length≤c0_1) (h : q8_Net.f k l0_0 l0_1 = some r) :
 Calls Tryz.prog 17 #[.agg #[.slice A0_0 l0_0.length c0_0,.slice A0_1 l0_1.length c0_1]] w fun e w'=>e = .returned (.bool r)∧Below w.heap.size w w':=by
 have hu25:=Tryz.underlying25
 have hu37:=Tryz.underlying37
 have hu65:=Tryz.underlying65
 have HR0_0:=am hr0_0
 have HC0_0:=am hc0_0
 clear hr0_0 hc0_0
 have HR0_1:=am hr0_1
 have HC0_1:=am hc0_1
 clear hr0_1 hc0_1
 have HB:=am (Below.refl w.heap.size w)
 have H : (q8_Net.l0 k 0 l0_0 l0_1) = some r:=h
 clear h
 replace H':=am H
 go_enter Tryz.func17,Tryz.ntmps17
 go_wp2_with (first | ((with_reducible refine ga_dst (N:=1) rfl ?_);(try (refine ga_guard (by rfl) ?_;dsimp only));refine box_event ?hg (N:=1) ?hd (cs:=#[.slice A0_0 l0_0.length c0_0,.slice A0_1 l0_1.length c0_1]) (t:=25) ?hr ?_;(case hd=>rfl);(case hg=>rfl);(case hr=>go_simp;try rfl);intro gb257 hg w2 hbox hb;have BK257:=am (hbox);have GW257:=am (ge_new (HB.out) hg);have GE257:=am (ge_new (HB.out) hg);replace HB:=am (below_step (HB.out) hb);clear hb hbox hg))
 go_loopg [3] k (fun kq v3 w'=>∃ (x3_1 : Int),v3 = .int .i64 x3_1∧Aside0 (q8_Net.l0 kq x3_1 l0_0 l0_1 = some r)∧Aside0 (kq≤k)∧Aside0 (w'.heap[gb257]? = some (.cells #[(.slice A0_0 l0_0.length c0_0),(.slice A0_1 l0_1.length c0_1)] 25 (0,0)))∧Aside0 (Below w.heap.size w w'))
 case atStart=>exact ⟨(0),(by first | rfl | (simp;done) | (simp [*];done)),H',⟨Nat.le_refl _⟩,⟨by (with_reducible repeat (first | refine blk_drewN ?_ _ | refine blk_drew ?_ | refine blk_alloc ?_ _));exact BK257.out⟩,⟨HB.out⟩⟩
 case round =>
  clear H'
  obtain ⟨x3_1,rfl,HA,HK1,BK257,HB⟩:=hrel
  cases gk with
  | zero=>exact absurd HA.out (by simp [q8_Net.l0])
  | succ k1 =>
   have H:=HA.out
   clear HA
   simp only [q8_Net.l0] at H
   by_cases c3 : x3_1 < (l0_0.length : Int)
   ·rw [if_pos c3] at H
    have c3b0 : decide (x3_1 < (l0_0.length : Int)) = true:=decide_eq_true c3
    clear c3
    by_cases c4 : 0≤x3_1
    case neg =>
     rw [if_neg c4] at H
     exact absurd H (by simp)
    rw [if_pos c4] at H
    have c4b0 : decide (0≤x3_1) = true:=decide_eq_true c4
    clear c4
    replace H:=obm H
    obtain ⟨t260,A50,H⟩:=H
    replace H : (if t260 = true then ((q8_cups.f ((rd_T37 l0_0 x3_1).f0.f1)).bind fun t261=>(if t261 = true then (if ((rd_T37 l0_0 x3_1).f0.f0) > ((rd_T37 l0_0 x3_1).f0.f1) then (some false) else ((q8_cups.f ((rd_T37 l0_0 x3_1).f1)).bind fun t262=>(if t262 = true then (q8_Net.l0 k1 (wrap64 (x3_1 + 1)) l0_0 l0_1) else (some false)))) else (some false))) else (some false)) = some r:=H
    have A5:=am A50
    clear A50
    by_cases c6 : t260 = true
    case neg =>
     replace c6:=Bool.eq_false_iff.mpr c6
     subst c6
     replace H : (some false) = some r:=by rw [if_neg (show ¬ (false = true) by decide)] at H;exact H
     obtain rfl:=Option.some.inj H
     obtain ⟨hcz28_0,hcz28_1⟩:=cO2 BK257.out
     have hfz28_0:=blk_frozen BK257.out 0
     have hfz28_1:=blk_frozen BK257.out 1
     have p258 : 0≤(x3_1 : Int):=of_decide_eq_true (by assumption)
     have q258 : x3_1 < (l0_0.length : Int):=of_decide_eq_true (by assumption)
     obtain ⟨ad258,e258,hx258_0,hx258_1,hx258_2⟩:=at_T37 HR0_0.out x3_1 p258 q258
     cases e258
     replace hx258_0:=(HB.out.cell (wbl hx258_0)).trans hx258_0
     replace hx258_1:=(HB.out.cell (wbl hx258_1)).trans hx258_1
     replace hx258_2:=(HB.out.cell (wbl hx258_2)).trans hx258_2
     replace p258:=eq_true p258
     replace q258:=eq_true q258
     go_wp2_with (first | ((with_reducible refine ga_dst (N:=4) rfl ?_);(try (refine ga_guard (by rfl) ?_;dsimp only));refine box_event ?hg (N:=4) ?hd (cs:=#[.int .i64 0,.int .i64 0,.int .i64 0]) (t:=37) ?hr ?_;(case hd=>rfl);(case hg=>rfl);(case hr=>go_simp;try rfl);intro gb259 hg w29 hbox hb;have BK259:=am (hbox);have GW259:=am (ge_new (HB.out) hg);have GE259:=am (ge_new (HB.out) hg);have NB257_259:=am ((by rw [hg];exact Nat.ne_of_lt (blk_lt (g:=gb257) (o:=.cells #[.slice (some ad258) l0_0.length c0_0,.slice A0_1 l0_1.length c0_1] 25 (0,0)) (by (with_reducible repeat (first | refine blk_drewN ?_ _ | refine blk_drew ?_ | refine blk_alloc ?_ _));exact BK257.out)) : gb257 ≠ gb259));have NB259_257:=am ((by rw [hg];exact Nat.ne_of_gt (blk_lt (g:=gb257) (o:=.cells #[.slice (some ad258) l0_0.length c0_0,.slice A0_1 l0_1.length c0_1] 25 (0,0)) (by (with_reducible repeat (first | refine blk_drewN ?_ _ | refine blk_drew ?_ | refine blk_alloc ?_ _));exact BK257.out)) : gb259 ≠ gb257));replace BK257:=am (blk_below (g:=gb257) (o:=.cells #[.slice (some ad258) l0_0.length c0_0,.slice A0_1 l0_1.length c0_1] 25 (0,0)) (by (with_reducible repeat (first | refine blk_drewN ?_ _ | refine blk_drew ?_ | refine blk_alloc ?_ _));exact BK257.out) hb);replace HB:=am (below_step (HB.out) hb);clear hb hbox hg;have hnb30:=NB259_257.out;have hnc30:=NB257_259.out;obtain ⟨hcz31_0,hcz31_1,hcz31_2⟩:=cO3 BK259.out;have hfz31_0:=blk_frozen BK259.out 0;have hfz31_1:=blk_frozen BK259.out 1;have hfz31_2:=blk_frozen BK259.out 2) | ((with_reducible refine ga_callee (f:=62) rfl ?_);refine goesL_ (some 23) rfl rfl Tryz.func62 (by kernel_rfl) rfl #[.int .i64 ((rd_T37 l0_0 x3_1).f0.f0)] rfl (by (try simp only [List.map_toArray,List.map_cons,List.map_nil]);first | done | rfl | (simp only [List.length_drop,List.length_take];rfl)) ?_;(with_reducible refine (q8_cups.calls ((rd_T37 l0_0 x3_1).f0.f0) false _ A5.out).mono ?_);rintro e w' ⟨rfl,⟨nd,rfl⟩⟩;refine ⟨_,rfl,?_⟩))
     go_ret
     exact ⟨by first | rfl | (simp [*]<;>rfl),by repeat (first | (with_reducible first | exact HB.out | refine below_set ?_ (Aside0.out (by assumption)) | apply below_alloc | apply pw_below_drewN) | exact HB.out)⟩
    subst c6
    replace H : ((q8_cups.f ((rd_T37 l0_0 x3_1).f0.f1)).bind fun t261=>(if t261 = true then (if ((rd_T37 l0_0 x3_1).f0.f0) > ((rd_T37 l0_0 x3_1).f0.f1) then (some false) else ((q8_cups.f ((rd_T37 l0_0 x3_1).f1)).bind fun t262=>(if t262 = true then (q8_Net.l0 k1 (wrap64 (x3_1 + 1)) l0_0 l0_1) else (some false)))) else (some false))) = some r:=by rw [if_pos rfl] at H;exact H
    replace H:=obm H
    obtain ⟨t261,A70,H⟩:=H
    replace H : (if t261 = true then (if ((rd_T37 l0_0 x3_1).f0.f0) > ((rd_T37 l0_0 x3_1).f0.f1) then (some false) else ((q8_cups.f ((rd_T37 l0_0 x3_1).f1)).bind fun t262=>(if t262 = true then (q8_Net.l0 k1 (wrap64 (x3_1 + 1)) l0_0 l0_1) else (some false)))) else (some false)) = some r:=H
    have A7:=am A70
    clear A70
    by_cases c8 : t261 = true
    case neg =>
     replace c8:=Bool.eq_false_iff.mpr c8
     subst c8
     replace H : (some false) = some r:=by rw [if_neg (show ¬ (false = true) by decide)] at H;exact H
     obtain rfl:=Option.some.inj H
     obtain ⟨hcz24_0,hcz24_1⟩:=cO2 BK257.out
     have hfz24_0:=blk_frozen BK257.out 0
     have hfz24_1:=blk_frozen BK257.out 1
     have p258 : 0≤(x3_1 : Int):=of_decide_eq_true (by assumption)
     have q258 : x3_1 < (l0_0.length : Int):=of_decide_eq_true (by assumption)
     obtain ⟨ad258,e258,hx258_0,hx258_1,hx258_2⟩:=at_T37 HR0_0.out x3_1 p258 q258
     cases e258
     replace hx258_0:=(HB.out.cell (wbl hx258_0)).trans hx258_0
     replace hx258_1:=(HB.out.cell (wbl hx258_1)).trans hx258_1
     replace hx258_2:=(HB.out.cell (wbl hx258_2)).trans hx258_2
     replace p258:=eq_true p258
     replace q258:=eq_true q258
     go_wp2_with (first | ((with_reducible refine ga_dst (N:=4) rfl ?_);(try (refine ga_guard (by rfl) ?_;dsimp only));refine box_event ?hg (N:=4) ?hd (cs:=#[.int .i64 0,.int .i64 0,.int .i64 0]) (t:=37) ?hr ?_;(case hd=>rfl);(case hg=>rfl);(case hr=>go_simp;try rfl);intro gb259 hg w25 hbox hb;have BK259:=am (hbox);have GW259:=am (ge_new (HB.out) hg);have GE259:=am (ge_new (HB.out) hg);have NB257_259:=am ((by rw [hg];exact Nat.ne_of_lt (blk_lt (g:=gb257) (o:=.cells #[.slice (some ad258) l0_0.length c0_0,.slice A0_1 l0_1.length c0_1] 25 (0,0)) (by (with_reducible repeat (first | refine blk_drewN ?_ _ | refine blk_drew ?_ | refine blk_alloc ?_ _));exact BK257.out)) : gb257 ≠ gb259));have NB259_257:=am ((by rw [hg];exact Nat.ne_of_gt (blk_lt (g:=gb257) (o:=.cells #[.slice (some ad258) l0_0.length c0_0,.slice A0_1 l0_1.length c0_1] 25 (0,0)) (by (with_reducible repeat (first | refine blk_drewN ?_ _ | refine blk_drew ?_ | refine blk_alloc ?_ _));exact BK257.out)) : gb259 ≠ gb257));replace BK257:=am (blk_below (g:=gb257) (o:=.cells #[.slice (some ad258) l0_0.length c0_0,.slice A0_1 l0_1.length c0_1] 25 (0,0)) (by (with_reducible repeat (first | refine blk_drewN ?_ _ | refine blk_drew ?_ | refine blk_alloc ?_ _));exact BK257.out) hb);replace HB:=am (below_step (HB.out) hb);clear hb hbox hg;have hnb26:=NB259_257.out;have hnc26:=NB257_259.out;obtain ⟨hcz27_0,hcz27_1,hcz27_2⟩:=cO3 BK259.out;have hfz27_0:=blk_frozen BK259.out 0;have hfz27_1:=blk_frozen BK259.out 1;have hfz27_2:=blk_frozen BK259.out 2) | ((with_reducible refine ga_callee (f:=62) rfl ?_);refine goesL_ (some 23) rfl rfl Tryz.func62 (by kernel_rfl) rfl #[.int .i64 ((rd_T37 l0_0 x3_1).f0.f0)] rfl (by (try simp only [List.map_toArray,List.map_cons,List.map_nil]);first | done | rfl | (simp only [List.length_drop,List.length_take];rfl)) ?_;(with_reducible refine (q8_cups.calls ((rd_T37 l0_0 x3_1).f0.f0) true _ A5.out).mono ?_);rintro e w' ⟨rfl,⟨nd,rfl⟩⟩;refine ⟨_,rfl,?_⟩) | (go_at_call 62;(with_reducible refine (q8_cups.calls ((rd_T37 l0_0 x3_1).f0.f1) false _ A7.out).mono ?_);rintro e w' ⟨rfl,⟨nd,rfl⟩⟩))
     go_ret
     exact ⟨by first | rfl | (simp [*]<;>rfl),by repeat (first | (with_reducible first | exact HB.out | refine below_set ?_ (Aside0.out (by assumption)) | apply below_alloc | apply pw_below_drewN) | exact HB.out)⟩
    subst c8
    replace H : (if ((rd_T37 l0_0 x3_1).f0.f0) > ((rd_T37 l0_0 x3_1).f0.f1) then (some false) else ((q8_cups.f ((rd_T37 l0_0 x3_1).f1)).bind fun t262=>(if t262 = true then (q8_Net.l0 k1 (wrap64 (x3_1 + 1)) l0_0 l0_1) else (some false)))) = some r:=by rw [if_pos rfl] at H;exact H
    by_cases c9 : ((rd_T37 l0_0 x3_1).f0.f0) > ((rd_T37 l0_0 x3_1).f0.f1)
    ·rw [if_pos c9] at H
     have c9b0 : decide (((rd_T37 l0_0 x3_1).f0.f1) < ((rd_T37 l0_0 x3_1).f0.f0)) = true:=decide_eq_true c9
     clear c9
     obtain rfl:=Option.some.inj H
     obtain ⟨hcz10_0,hcz10_1⟩:=cO2 BK257.out
     have hfz10_0:=blk_frozen BK257.out 0
     have hfz10_1:=blk_frozen BK257.out 1
     have p258 : 0≤(x3_1 : Int):=of_decide_eq_true (by assumption)
     have q258 : x3_1 < (l0_0.length : Int):=of_decide_eq_true (by assumption)
     obtain ⟨ad258,e258,hx258_0,hx258_1,hx258_2⟩:=at_T37 HR0_0.out x3_1 p258 q258
     cases e258
     replace hx258_0:=(HB.out.cell (wbl hx258_0)).trans hx258_0
     replace hx258_1:=(HB.out.cell (wbl hx258_1)).trans hx258_1
     replace hx258_2:=(HB.out.cell (wbl hx258_2)).trans hx258_2
     replace p258:=eq_true p258
     replace q258:=eq_true q258
     go_wp2_with (first | ((with_reducible refine ga_dst (N:=4) rfl ?_);(try (refine ga_guard (by rfl) ?_;dsimp only));refine box_event ?hg (N:=4) ?hd (cs:=#[.int .i64 0,.int .i64 0,.int .i64 0]) (t:=37) ?hr ?_;(case hd=>rfl);(case hg=>rfl);(case hr=>go_simp;try rfl);intro gb259 hg w11 hbox hb;have BK259:=am (hbox);have GW259:=am (ge_new (HB.out) hg);have GE259:=am (ge_new (HB.out) hg);have NB257_259:=am ((by rw [hg];exact Nat.ne_of_lt (blk_lt (g:=gb257) (o:=.cells #[.slice (some ad258) l0_0.length c0_0,.slice A0_1 l0_1.length c0_1] 25 (0,0)) (by (with_reducible repeat (first | refine blk_drewN ?_ _ | refine blk_drew ?_ | refine blk_alloc ?_ _));exact BK257.out)) : gb257 ≠ gb259));have NB259_257:=am ((by rw [hg];exact Nat.ne_of_gt (blk_lt (g:=gb257) (o:=.cells #[.slice (some ad258) l0_0.length c0_0,.slice A0_1 l0_1.length c0_1] 25 (0,0)) (by (with_reducible repeat (first | refine blk_drewN ?_ _ | refine blk_drew ?_ | refine blk_alloc ?_ _));exact BK257.out)) : gb259 ≠ gb257));replace BK257:=am (blk_below (g:=gb257) (o:=.cells #[.slice (some ad258) l0_0.length c0_0,.slice A0_1 l0_1.length c0_1] 25 (0,0)) (by (with_reducible repeat (first | refine blk_drewN ?_ _ | refine blk_drew ?_ | refine blk_alloc ?_ _));exact BK257.out) hb);replace HB:=am (below_step (HB.out) hb);clear hb hbox hg;have hnb12:=NB259_257.out;have hnc12:=NB257_259.out;obtain ⟨hcz13_0,hcz13_1,hcz13_2⟩:=cO3 BK259.out;have hfz13_0:=blk_frozen BK259.out 0;have hfz13_1:=blk_frozen BK259.out 1;have hfz13_2:=blk_frozen BK259.out 2) | ((with_reducible refine ga_callee (f:=62) rfl ?_);refine goesL_ (some 23) rfl rfl Tryz.func62 (by kernel_rfl) rfl #[.int .i64 ((rd_T37 l0_0 x3_1).f0.f0)] rfl (by (try simp only [List.map_toArray,List.map_cons,List.map_nil]);first | done | rfl | (simp only [List.length_drop,List.length_take];rfl)) ?_;(with_reducible refine (q8_cups.calls ((rd_T37 l0_0 x3_1).f0.f0) true _ A5.out).mono ?_);rintro e w' ⟨rfl,⟨nd,rfl⟩⟩;refine ⟨_,rfl,?_⟩) | (go_at_call 62;(with_reducible refine (q8_cups.calls ((rd_T37 l0_0 x3_1).f0.f1) true _ A7.out).mono ?_);rintro e w' ⟨rfl,⟨nd,rfl⟩⟩))
     go_ret
     exact ⟨by first | rfl | (simp [*]<;>rfl),by repeat (first | (with_reducible first | exact HB.out | refine below_set ?_ (Aside0.out (by assumption)) | apply below_alloc | apply pw_below_drewN) | exact HB.out)⟩
    ·rw [if_neg c9] at H
     have c9b0 : decide (((rd_T37 l0_0 x3_1).f0.f1) < ((rd_T37 l0_0 x3_1).f0.f0)) = false:=decide_eq_false c9
     clear c9
     replace H:=obm H
     obtain ⟨t262,A140,H⟩:=H
     replace H : (if t262 = true then (q8_Net.l0 k1 (wrap64 (x3_1 + 1)) l0_0 l0_1) else (some false)) = some r:=H
     have A14:=am A140
     clear A140
     by_cases c15 : t262 = true
     ·subst c15
      replace H : (q8_Net.l0 k1 (wrap64 (x3_1 + 1)) l0_0 l0_1) = some r:=by rw [if_pos rfl] at H;exact H
      replace H':=am H
      obtain ⟨hcz16_0,hcz16_1⟩:=cO2 BK257.out
      have hfz16_0:=blk_frozen BK257.out 0
      have hfz16_1:=blk_frozen BK257.out 1
      have p258 : 0≤(x3_1 : Int):=of_decide_eq_true (by assumption)
      have q258 : x3_1 < (l0_0.length : Int):=of_decide_eq_true (by assumption)
      obtain ⟨ad258,e258,hx258_0,hx258_1,hx258_2⟩:=at_T37 HR0_0.out x3_1 p258 q258
      cases e258
      replace hx258_0:=(HB.out.cell (wbl hx258_0)).trans hx258_0
      replace hx258_1:=(HB.out.cell (wbl hx258_1)).trans hx258_1
      replace hx258_2:=(HB.out.cell (wbl hx258_2)).trans hx258_2
      replace p258:=eq_true p258
      replace q258:=eq_true q258
      go_wp2_with (first | ((with_reducible refine ga_dst (N:=4) rfl ?_);(try (refine ga_guard (by rfl) ?_;dsimp only));refine box_event ?hg (N:=4) ?hd (cs:=#[.int .i64 0,.int .i64 0,.int .i64 0]) (t:=37) ?hr ?_;(case hd=>rfl);(case hg=>rfl);(case hr=>go_simp;try rfl);intro gb259 hg w17 hbox hb;have BK259:=am (hbox);have GW259:=am (ge_new (HB.out) hg);have GE259:=am (ge_new (HB.out) hg);have NB257_259:=am ((by rw [hg];exact Nat.ne_of_lt (blk_lt (g:=gb257) (o:=.cells #[.slice (some ad258) l0_0.length c0_0,.slice A0_1 l0_1.length c0_1] 25 (0,0)) (by (with_reducible repeat (first | refine blk_drewN ?_ _ | refine blk_drew ?_ | refine blk_alloc ?_ _));exact BK257.out)) : gb257 ≠ gb259));have NB259_257:=am ((by rw [hg];exact Nat.ne_of_gt (blk_lt (g:=gb257) (o:=.cells #[.slice (some ad258) l0_0.length c0_0,.slice A0_1 l0_1.length c0_1] 25 (0,0)) (by (with_reducible repeat (first | refine blk_drewN ?_ _ | refine blk_drew ?_ | refine blk_alloc ?_ _));exact BK257.out)) : gb259 ≠ gb257));replace BK257:=am (blk_below (g:=gb257) (o:=.cells #[.slice (some ad258) l0_0.length c0_0,.slice A0_1 l0_1.length c0_1] 25 (0,0)) (by (with_reducible repeat (first | refine blk_drewN ?_ _ | refine blk_drew ?_ | refine blk_alloc ?_ _));exact BK257.out) hb);replace HB:=am (below_step (HB.out) hb);clear hb hbox hg;have hnb18:=NB259_257.out;have hnc18:=NB257_259.out;obtain ⟨hcz19_0,hcz19_1,hcz19_2⟩:=cO3 BK259.out;have hfz19_0:=blk_frozen BK259.out 0;have hfz19_1:=blk_frozen BK259.out 1;have hfz19_2:=blk_frozen BK259.out 2) | ((with_reducible refine ga_callee (f:=62) rfl ?_);refine goesL_ (some 23) rfl rfl Tryz.func62 (by kernel_rfl) rfl #[.int .i64 ((rd_T37 l0_0 x3_1).f0.f0)] rfl (by (try simp only [List.map_toArray,List.map_cons,List.map_nil]);first | done | rfl | (simp only [List.length_drop,List.length_take];rfl)) ?_;(with_reducible refine (q8_cups.calls ((rd_T37 l0_0 x3_1).f0.f0) true _ A5.out).mono ?_);rintro e w' ⟨rfl,⟨nd,rfl⟩⟩;refine ⟨_,rfl,?_⟩) | (go_at_call 62;(with_reducible refine (q8_cups.calls ((rd_T37 l0_0 x3_1).f0.f1) true _ A7.out).mono ?_);rintro e w' ⟨rfl,⟨nd,rfl⟩⟩) | (go_at_call 62;(with_reducible refine (q8_cups.calls ((rd_T37 l0_0 x3_1).f1) true _ A14.out).mono ?_);rintro e w' ⟨rfl,⟨nd,rfl⟩⟩))
      go_roundg k1
      case measure=>have:=HK1.out;omega
      case rel=>exact ⟨(wrap64 (x3_1 + 1)),(by first | rfl | (simp;done) | (simp [*];done)),H',⟨by have:=HK1.out;omega⟩,⟨by (with_reducible repeat (first | refine blk_drewN ?_ _ | refine blk_drew ?_ | refine blk_alloc ?_ _));refine blk_far ?_ NB257_259.out _;(with_reducible repeat (first | refine blk_drewN ?_ _ | refine blk_drew ?_ | refine blk_alloc ?_ _));refine blk_far ?_ NB257_259.out _;(with_reducible repeat (first | refine blk_drewN ?_ _ | refine blk_drew ?_ | refine blk_alloc ?_ _));refine blk_far ?_ NB257_259.out _;(with_reducible repeat (first | refine blk_drewN ?_ _ | refine blk_drew ?_ | refine blk_alloc ?_ _));exact BK257.out⟩,⟨by repeat (first | (with_reducible first | exact HB.out | refine below_set ?_ (Aside0.out (by assumption)) | apply below_alloc | apply pw_below_drewN) | exact HB.out)⟩⟩
     ·replace c15:=Bool.eq_false_iff.mpr c15
      subst c15
      replace H : (some false) = some r:=by rw [if_neg (show ¬ (false = true) by decide)] at H;exact H
      obtain rfl:=Option.some.inj H
      obtain ⟨hcz20_0,hcz20_1⟩:=cO2 BK257.out
      have hfz20_0:=blk_frozen BK257.out 0
      have hfz20_1:=blk_frozen BK257.out 1
      have p258 : 0≤(x3_1 : Int):=of_decide_eq_true (by assumption)
      have q258 : x3_1 < (l0_0.length : Int):=of_decide_eq_true (by assumption)
      obtain ⟨ad258,e258,hx258_0,hx258_1,hx258_2⟩:=at_T37 HR0_0.out x3_1 p258 q258
      cases e258
      replace hx258_0:=(HB.out.cell (wbl hx258_0)).trans hx258_0
      replace hx258_1:=(HB.out.cell (wbl hx258_1)).trans hx258_1
      replace hx258_2:=(HB.out.cell (wbl hx258_2)).trans hx258_2
      replace p258:=eq_true p258
      replace q258:=eq_true q258
      go_wp2_with (first | ((with_reducible refine ga_dst (N:=4) rfl ?_);(try (refine ga_guard (by rfl) ?_;dsimp only));refine box_event ?hg (N:=4) ?hd (cs:=#[.int .i64 0,.int .i64 0,.int .i64 0]) (t:=37) ?hr ?_;(case hd=>rfl);(case hg=>rfl);(case hr=>go_simp;try rfl);intro gb259 hg w21 hbox hb;have BK259:=am (hbox);have GW259:=am (ge_new (HB.out) hg);have GE259:=am (ge_new (HB.out) hg);have NB257_259:=am ((by rw [hg];exact Nat.ne_of_lt (blk_lt (g:=gb257) (o:=.cells #[.slice (some ad258) l0_0.length c0_0,.slice A0_1 l0_1.length c0_1] 25 (0,0)) (by (with_reducible repeat (first | refine blk_drewN ?_ _ | refine blk_drew ?_ | refine blk_alloc ?_ _));exact BK257.out)) : gb257 ≠ gb259));have NB259_257:=am ((by rw [hg];exact Nat.ne_of_gt (blk_lt (g:=gb257) (o:=.cells #[.slice (some ad258) l0_0.length c0_0,.slice A0_1 l0_1.length c0_1] 25 (0,0)) (by (with_reducible repeat (first | refine blk_drewN ?_ _ | refine blk_drew ?_ | refine blk_alloc ?_ _));exact BK257.out)) : gb259 ≠ gb257));replace BK257:=am (blk_below (g:=gb257) (o:=.cells #[.slice (some ad258) l0_0.length c0_0,.slice A0_1 l0_1.length c0_1] 25 (0,0)) (by (with_reducible repeat (first | refine blk_drewN ?_ _ | refine blk_drew ?_ | refine blk_alloc ?_ _));exact BK257.out) hb);replace HB:=am (below_step (HB.out) hb);clear hb hbox hg;have hnb22:=NB259_257.out;have hnc22:=NB257_259.out;obtain ⟨hcz23_0,hcz23_1,hcz23_2⟩:=cO3 BK259.out;have hfz23_0:=blk_frozen BK259.out 0;have hfz23_1:=blk_frozen BK259.out 1;have hfz23_2:=blk_frozen BK259.out 2) | ((with_reducible refine ga_callee (f:=62) rfl ?_);refine goesL_ (some 23) rfl rfl Tryz.func62 (by kernel_rfl) rfl #[.int .i64 ((rd_T37 l0_0 x3_1).f0.f0)] rfl (by (try simp only [List.map_toArray,List.map_cons,List.map_nil]);first | done | rfl | (simp only [List.length_drop,List.length_take];rfl)) ?_;(with_reducible refine (q8_cups.calls ((rd_T37 l0_0 x3_1).f0.f0) true _ A5.out).mono ?_);rintro e w' ⟨rfl,⟨nd,rfl⟩⟩;refine ⟨_,rfl,?_⟩) | (go_at_call 62;(with_reducible refine (q8_cups.calls ((rd_T37 l0_0 x3_1).f0.f1) true _ A7.out).mono ?_);rintro e w' ⟨rfl,⟨nd,rfl⟩⟩) | (go_at_call 62;(with_reducible refine (q8_cups.calls ((rd_T37 l0_0 x3_1).f1) false _ A14.out).mono ?_);rintro e w' ⟨rfl,⟨nd,rfl⟩⟩))
      go_ret
      exact ⟨by first | rfl | (simp [*]<;>rfl),by repeat (first | (with_reducible first | exact HB.out | refine below_set ?_ (Aside0.out (by assumption)) | apply below_alloc | apply pw_below_drewN) | exact HB.out)⟩
   ·rw [if_neg c3] at H
    have c3b0 : decide (x3_1 < (l0_0.length : Int)) = false:=decide_eq_false c3
    clear c3
    replace H':=am H
    obtain ⟨hcz32_0,hcz32_1⟩:=cO2 BK257.out
    have hfz32_0:=blk_frozen BK257.out 0
    have hfz32_1:=blk_frozen BK257.out 1
    go_wp2
    go_loopg [5,6] k1 (fun kq v5 v6 w'=>∃ (x5_2 : Int) (x6_2 : Int),v5 = .int .i64 x5_2∧v6 = .int .i64 x6_2∧Aside0 (q8_Net.l1 kq x5_2 x6_2 l0_0 l0_1 = some r)∧Aside0 (kq≤k1)∧Aside0 (w'.heap[gb257]? = some (.cells #[(.slice A0_0 l0_0.length c0_0),(.slice A0_1 l0_1.length c0_1)] 25 (0,0)))∧Aside0 (Below w.heap.size w w'))
    case atStart=>exact ⟨(0),(0),(by first | rfl | (simp;done) | (simp [*];done)),(by first | rfl | (simp;done) | (simp [*];done)),H',⟨Nat.le_refl _⟩,⟨by (with_reducible repeat (first | refine blk_drewN ?_ _ | refine blk_drew ?_ | refine blk_alloc ?_ _));exact BK257.out⟩,⟨HB.out⟩⟩
    case round =>
     clear H'
     obtain ⟨x5_2,x6_2,rfl,rfl,HA,HK2,BK257,HB⟩:=hrel
     cases gk with
     | zero=>exact absurd HA.out (by simp [q8_Net.l1])
     | succ k2 =>
      have H:=HA.out
      clear HA
      simp only [q8_Net.l1] at H
      by_cases c33 : x6_2 < (l0_1.length : Int)
      case neg =>
       rw [if_neg c33] at H
       have c33b0 : decide (x6_2 < (l0_1.length : Int)) = false:=decide_eq_false c33
       clear c33
       replace H:=obm H
       obtain ⟨t263,A790,H⟩:=H
       replace H : (if t263 = true then (if (l0_1.length : Int)≤10 then (some (decide (x5_2≤7))) else (some false)) else (some false)) = some r:=H
       have A79:=am A790
       clear A790
       by_cases c80 : t263 = true
       case neg =>
        replace c80:=Bool.eq_false_iff.mpr c80
        subst c80
        replace H : (some false) = some r:=by rw [if_neg (show ¬ (false = true) by decide)] at H;exact H
        obtain rfl:=Option.some.inj H
        obtain ⟨hcz84_0,hcz84_1⟩:=cO2 BK257.out
        have hfz84_0:=blk_frozen BK257.out 0
        have hfz84_1:=blk_frozen BK257.out 1
        go_wp2_with (first | ((with_reducible refine ga_callee (f:=63) rfl ?_);refine goesL_ (some 91) rfl rfl Tryz.func63 (by kernel_rfl) rfl #[.int .i64 (l0_0.length : Int),.int .i64 1,.int .i64 7] rfl (by (try simp only [List.map_toArray,List.map_cons,List.map_nil]);first | done | rfl | (simp only [List.length_drop,List.length_take];rfl)) ?_;(with_reducible refine (q8_in.calls (l0_0.length : Int) 1 7 false _ A79.out).mono ?_);rintro e w' ⟨rfl,⟨nd,rfl⟩⟩;refine ⟨_,rfl,?_⟩))
        go_ret
        exact ⟨by first | rfl | (simp [*]<;>rfl),pw_below_drewN HB.out _⟩
       subst c80
       replace H : (if (l0_1.length : Int)≤10 then (some (decide (x5_2≤7))) else (some false)) = some r:=by rw [if_pos rfl] at H;exact H
       by_cases c81 : (l0_1.length : Int)≤10
       ·rw [if_pos c81] at H
        have c81b0 : decide ((l0_1.length : Int)≤10) = true:=decide_eq_true c81
        have c81b1 : decide (l0_1.length≤10) = true:=decide_eq_true (by omega)
        clear c81
        obtain rfl:=Option.some.inj H
        obtain ⟨hcz82_0,hcz82_1⟩:=cO2 BK257.out
        have hfz82_0:=blk_frozen BK257.out 0
        have hfz82_1:=blk_frozen BK257.out 1
        go_wp2_with (first | ((with_reducible refine ga_callee (f:=63) rfl ?_);refine goesL_ (some 91) rfl rfl Tryz.func63 (by kernel_rfl) rfl #[.int .i64 (l0_0.length : Int),.int .i64 1,.int .i64 7] rfl (by (try simp only [List.map_toArray,List.map_cons,List.map_nil]);first | done | rfl | (simp only [List.length_drop,List.length_take];rfl)) ?_;(with_reducible refine (q8_in.calls (l0_0.length : Int) 1 7 true _ A79.out).mono ?_);rintro e w' ⟨rfl,⟨nd,rfl⟩⟩;refine ⟨_,rfl,?_⟩))
        go_ret
        exact ⟨by first | rfl | (simp [*]<;>rfl),pw_below_drewN HB.out _⟩
       ·rw [if_neg c81] at H
        have c81b0 : decide ((l0_1.length : Int)≤10) = false:=decide_eq_false c81
        have c81b1 : decide (l0_1.length≤10) = false:=decide_eq_false (by omega)
        clear c81
        obtain rfl:=Option.some.inj H
        obtain ⟨hcz83_0,hcz83_1⟩:=cO2 BK257.out
        have hfz83_0:=blk_frozen BK257.out 0
        have hfz83_1:=blk_frozen BK257.out 1
        go_wp2_with (first | ((with_reducible refine ga_callee (f:=63) rfl ?_);refine goesL_ (some 91) rfl rfl Tryz.func63 (by kernel_rfl) rfl #[.int .i64 (l0_0.length : Int),.int .i64 1,.int .i64 7] rfl (by (try simp only [List.map_toArray,List.map_cons,List.map_nil]);first | done | rfl | (simp only [List.length_drop,List.length_take];rfl)) ?_;(with_reducible refine (q8_in.calls (l0_0.length : Int) 1 7 true _ A79.out).mono ?_);rintro e w' ⟨rfl,⟨nd,rfl⟩⟩;refine ⟨_,rfl,?_⟩))
        go_ret
        exact ⟨by first | rfl | (simp [*]<;>rfl),pw_below_drewN HB.out _⟩
      rw [if_pos c33] at H
      have c33b0 : decide (x6_2 < (l0_1.length : Int)) = true:=decide_eq_true c33
      clear c33
      by_cases c34 : 0≤x6_2
      case neg =>
       rw [if_neg c34] at H
       exact absurd H (by simp)
      rw [if_pos c34] at H
      have c34b0 : decide (0≤x6_2) = true:=decide_eq_true c34
      clear c34
      have HC35:=am H
      clear H
      obtain ⟨hcz36_0,hcz36_1⟩:=cO2 BK257.out
      have hfz36_0:=blk_frozen BK257.out 0
      have hfz36_1:=blk_frozen BK257.out 1
      have p264 : 0≤(x6_2 : Int):=of_decide_eq_true (by assumption)
      have q264 : x6_2 < (l0_1.length : Int):=of_decide_eq_true (by assumption)
      obtain ⟨ad264,e264,hx264_0,hx264_1,hx264_2,hx264_3⟩:=at_T65 HR0_1.out x6_2 p264 q264
      cases e264
      replace hx264_0:=(HB.out.cell (wbl hx264_0)).trans hx264_0
      replace hx264_1:=(HB.out.cell (wbl hx264_1)).trans hx264_1
      replace hx264_2:=(HB.out.cell (wbl hx264_2)).trans hx264_2
      replace hx264_3:=(HB.out.cell (wbl hx264_3)).trans hx264_3
      replace p264:=eq_true p264
      replace q264:=eq_true q264
      go_upto_region 12 with (first | ((with_reducible refine ga_dst (N:=7) rfl ?_);(try (refine ga_guard (by rfl) ?_;dsimp only));refine box_event ?hg (N:=7) ?hd (cs:=#[.int .i64 0,.int .i64 0,.int .i64 0,.bool false]) (t:=65) ?hr ?_;(case hd=>rfl);(case hg=>rfl);(case hr=>go_simp;try rfl);intro gb265 hg w37 hbox hb;have BK265:=am (hbox);have GW265:=am (ge_new (HB.out) hg);have GE265:=am (ge_new (HB.out) hg);have NB257_265:=am ((by rw [hg];exact Nat.ne_of_lt (blk_lt (g:=gb257) (o:=.cells #[.slice A0_0 l0_0.length c0_0,.slice (some ad264) l0_1.length c0_1] 25 (0,0)) (by (with_reducible repeat (first | refine blk_drewN ?_ _ | refine blk_drew ?_ | refine blk_alloc ?_ _));exact BK257.out)) : gb257 ≠ gb265));have NB265_257:=am ((by rw [hg];exact Nat.ne_of_gt (blk_lt (g:=gb257) (o:=.cells #[.slice A0_0 l0_0.length c0_0,.slice (some ad264) l0_1.length c0_1] 25 (0,0)) (by (with_reducible repeat (first | refine blk_drewN ?_ _ | refine blk_drew ?_ | refine blk_alloc ?_ _));exact BK257.out)) : gb265 ≠ gb257));replace BK257:=am (blk_below (g:=gb257) (o:=.cells #[.slice A0_0 l0_0.length c0_0,.slice (some ad264) l0_1.length c0_1] 25 (0,0)) (by (with_reducible repeat (first | refine blk_drewN ?_ _ | refine blk_drew ?_ | refine blk_alloc ?_ _));exact BK257.out) hb);replace HB:=am (below_step (HB.out) hb);clear hb hbox hg;have hnb38:=NB265_257.out;have hnc38:=NB257_265.out;obtain ⟨hcz39_0,hcz39_1,hcz39_2,hcz39_3⟩:=cO4 BK265.out;have hfz39_0:=blk_frozen BK265.out 0;have hfz39_1:=blk_frozen BK265.out 1;have hfz39_2:=blk_frozen BK265.out 2;have hfz39_3:=blk_frozen BK265.out 3))
      (try simp only [Act.put,List.setIfInBounds_toArray,List.set_cons_zero,List.set_cons_succ])
      go_cut [83] (fun v83 wc=>∃ (kq : Nat) (x83_34 : Bool),v83 = .bool x83_34∧Aside0 (q8_Net.j2 kq x5_2 x6_2 x83_34 l0_0 l0_1 ((rd_T65 l0_1 x6_2).f0) ((rd_T65 l0_1 x6_2).f1) ((rd_T65 l0_1 x6_2).f2) ((rd_T65 l0_1 x6_2).f3) = some r)∧Aside0 (kq≤k2)∧Aside0 (wc.heap[gb257]? = some (.cells #[(.slice A0_0 l0_0.length c0_0),(.slice (some ad264) l0_1.length c0_1)] 25 (0,0)))∧Aside0 (wc.heap[gb265]? = some (.cells #[.int .i64 ((rd_T65 l0_1 x6_2).f0),.int .i64 ((rd_T65 l0_1 x6_2).f1),.int .i64 ((rd_T65 l0_1 x6_2).f2),.bool ((rd_T65 l0_1 x6_2).f3)] 65 (0,0)))∧Aside0 (Below w.heap.size w wc))
      case first =>
       have H:=HC35.out
       clear HC35
       replace H:=obm H
       obtain ⟨t266,A400,H⟩:=H
       replace H : (if t266 = true then ((q8_Point.f l0_0 l0_1 ((rd_T65 l0_1 x6_2).f1)).bind fun t267=>(if t267 = true then (if ((rd_T65 l0_1 x6_2).f0) = ((rd_T65 l0_1 x6_2).f1) then (q8_Net.j2 k2 x5_2 x6_2 true l0_0 l0_1 ((rd_T65 l0_1 x6_2).f0) ((rd_T65 l0_1 x6_2).f1) ((rd_T65 l0_1 x6_2).f2) ((rd_T65 l0_1 x6_2).f3)) else ((q8_cups.f ((rd_T65 l0_1 x6_2).f2)).bind fun t268=>(q8_Net.j2 k2 x5_2 x6_2 (!t268) l0_0 l0_1 ((rd_T65 l0_1 x6_2).f0) ((rd_T65 l0_1 x6_2).f1) ((rd_T65 l0_1 x6_2).f2) ((rd_T65 l0_1 x6_2).f3)))) else (q8_Net.j2 k2 x5_2 x6_2 true l0_0 l0_1 ((rd_T65 l0_1 x6_2).f0) ((rd_T65 l0_1 x6_2).f1) ((rd_T65 l0_1 x6_2).f2) ((rd_T65 l0_1 x6_2).f3)))) else (q8_Net.j2 k2 x5_2 x6_2 true l0_0 l0_1 ((rd_T65 l0_1 x6_2).f0) ((rd_T65 l0_1 x6_2).f1) ((rd_T65 l0_1 x6_2).f2) ((rd_T65 l0_1 x6_2).f3))) = some r:=H
       have A40:=am A400
       clear A400
       by_cases c41 : t266 = true
       case neg =>
        replace c41:=Bool.eq_false_iff.mpr c41
        subst c41
        replace H : (q8_Net.j2 k2 x5_2 x6_2 true l0_0 l0_1 ((rd_T65 l0_1 x6_2).f0) ((rd_T65 l0_1 x6_2).f1) ((rd_T65 l0_1 x6_2).f2) ((rd_T65 l0_1 x6_2).f3)) = some r:=by rw [if_neg (show ¬ (false = true) by decide)] at H;exact H
        replace H':=am H
        have hnb69:=NB257_265.out
        have hnc69:=NB265_257.out
        obtain ⟨hcz70_0,hcz70_1⟩:=cO2 BK257.out
        have hfz70_0:=blk_frozen BK257.out 0
        have hfz70_1:=blk_frozen BK257.out 1
        obtain ⟨hcz71_0,hcz71_1,hcz71_2,hcz71_3⟩:=cO4 BK265.out
        have hfz71_0:=blk_frozen BK265.out 0
        have hfz71_1:=blk_frozen BK265.out 1
        have hfz71_2:=blk_frozen BK265.out 2
        have hfz71_3:=blk_frozen BK265.out 3
        go_wp2_with (first | ((with_reducible refine ga_callee (f:=30) rfl ?_);refine goesL_ (some 62) rfl rfl Tryz.func30 (by kernel_rfl) rfl #[.agg #[.slice A0_0 l0_0.length c0_0,.slice (some ad264) l0_1.length c0_1],.int .i64 ((rd_T65 l0_1 x6_2).f0)] rfl (by (try simp only [List.map_toArray,List.map_cons,List.map_nil]);first | done | rfl | (simp only [List.length_drop,List.length_take];rfl)) ?_;(with_reducible refine (q8_Point.calls _ _ l0_0 _ _ l0_1 ((rd_T65 l0_1 x6_2).f0) false _ ?side1 ?side2 ?side3 ?side4 A40.out).mono ?_);(case side1=>exact kC HR0_0.out (by repeat (first | (with_reducible first | exact HB.out | refine below_set ?_ (Aside0.out (by assumption)) | apply below_alloc | apply pw_below_drewN) | exact HB.out)));(case side2=>exact HC0_0.out);(case side3=>exact kC HR0_1.out (by repeat (first | (with_reducible first | exact HB.out | refine below_set ?_ (Aside0.out (by assumption)) | apply below_alloc | apply pw_below_drewN) | exact HB.out)));(case side4=>exact HC0_1.out);rintro e w72 ⟨rfl,hb⟩;refine ⟨_,rfl,?_⟩;replace BK257:=am (blk_below (g:=gb257) (o:=.cells #[.slice A0_0 l0_0.length c0_0,.slice (some ad264) l0_1.length c0_1] 25 (0,0)) (by (with_reducible repeat (first | refine blk_drewN ?_ _ | refine blk_drew ?_ | refine blk_alloc ?_ _));refine blk_far ?_ NB257_265.out _;(with_reducible repeat (first | refine blk_drewN ?_ _ | refine blk_drew ?_ | refine blk_alloc ?_ _));refine blk_far ?_ NB257_265.out _;(with_reducible repeat (first | refine blk_drewN ?_ _ | refine blk_drew ?_ | refine blk_alloc ?_ _));refine blk_far ?_ NB257_265.out _;(with_reducible repeat (first | refine blk_drewN ?_ _ | refine blk_drew ?_ | refine blk_alloc ?_ _));refine blk_far ?_ NB257_265.out _;(with_reducible repeat (first | refine blk_drewN ?_ _ | refine blk_drew ?_ | refine blk_alloc ?_ _));exact BK257.out) hb);replace BK265:=am (blk_below (g:=gb265) (o:=.cells #[.int .i64 ((rd_T65 l0_1 x6_2).f0),.int .i64 ((rd_T65 l0_1 x6_2).f1),.int .i64 ((rd_T65 l0_1 x6_2).f2),.bool ((rd_T65 l0_1 x6_2).f3)] 65 (0,0)) (by (with_reducible repeat (first | refine blk_drewN ?_ _ | refine blk_drew ?_ | refine blk_alloc ?_ _));refine blk_put (cs:=#[.int .i64 ((rd_T65 l0_1 x6_2).f0),.int .i64 ((rd_T65 l0_1 x6_2).f1),.int .i64 ((rd_T65 l0_1 x6_2).f2),.bool false]) ?_ 3 _ rfl;(with_reducible repeat (first | refine blk_drewN ?_ _ | refine blk_drew ?_ | refine blk_alloc ?_ _));refine blk_put (cs:=#[.int .i64 ((rd_T65 l0_1 x6_2).f0),.int .i64 ((rd_T65 l0_1 x6_2).f1),.int .i64 0,.bool false]) ?_ 2 _ rfl;(with_reducible repeat (first | refine blk_drewN ?_ _ | refine blk_drew ?_ | refine blk_alloc ?_ _));refine blk_put (cs:=#[.int .i64 ((rd_T65 l0_1 x6_2).f0),.int .i64 0,.int .i64 0,.bool false]) ?_ 1 _ rfl;(with_reducible repeat (first | refine blk_drewN ?_ _ | refine blk_drew ?_ | refine blk_alloc ?_ _));refine blk_put (cs:=#[.int .i64 0,.int .i64 0,.int .i64 0,.bool false]) ?_ 0 _ rfl;(with_reducible repeat (first | refine blk_drewN ?_ _ | refine blk_drew ?_ | refine blk_alloc ?_ _));exact BK265.out) hb);replace HB:=am (below_step (by repeat (first | (with_reducible first | exact HB.out | refine below_set ?_ (Aside0.out (by assumption)) | apply below_alloc | apply pw_below_drewN) | exact HB.out)) hb);(try clear hb);(try clear hb2);(try clear hk);(try clear hi)))
        go_meet
        case rel=>exact ⟨_,(true),(by first | rfl | (simp;done) | (simp [*];done)),H',⟨by have:=HK1.out;have:=HK2.out;first | omega | exact Nat.le_refl _⟩,⟨by (with_reducible repeat (first | refine blk_drewN ?_ _ | refine blk_drew ?_ | refine blk_alloc ?_ _));exact BK257.out⟩,⟨by (with_reducible repeat (first | refine blk_drewN ?_ _ | refine blk_drew ?_ | refine blk_alloc ?_ _));exact BK265.out⟩,⟨HB.out⟩⟩
       subst c41
       replace H : ((q8_Point.f l0_0 l0_1 ((rd_T65 l0_1 x6_2).f1)).bind fun t267=>(if t267 = true then (if ((rd_T65 l0_1 x6_2).f0) = ((rd_T65 l0_1 x6_2).f1) then (q8_Net.j2 k2 x5_2 x6_2 true l0_0 l0_1 ((rd_T65 l0_1 x6_2).f0) ((rd_T65 l0_1 x6_2).f1) ((rd_T65 l0_1 x6_2).f2) ((rd_T65 l0_1 x6_2).f3)) else ((q8_cups.f ((rd_T65 l0_1 x6_2).f2)).bind fun t268=>(q8_Net.j2 k2 x5_2 x6_2 (!t268) l0_0 l0_1 ((rd_T65 l0_1 x6_2).f0) ((rd_T65 l0_1 x6_2).f1) ((rd_T65 l0_1 x6_2).f2) ((rd_T65 l0_1 x6_2).f3)))) else (q8_Net.j2 k2 x5_2 x6_2 true l0_0 l0_1 ((rd_T65 l0_1 x6_2).f0) ((rd_T65 l0_1 x6_2).f1) ((rd_T65 l0_1 x6_2).f2) ((rd_T65 l0_1 x6_2).f3)))) = some r:=by rw [if_pos rfl] at H;exact H
       replace H:=obm H
       obtain ⟨t267,A420,H⟩:=H
       replace H : (if t267 = true then (if ((rd_T65 l0_1 x6_2).f0) = ((rd_T65 l0_1 x6_2).f1) then (q8_Net.j2 k2 x5_2 x6_2 true l0_0 l0_1 ((rd_T65 l0_1 x6_2).f0) ((rd_T65 l0_1 x6_2).f1) ((rd_T65 l0_1 x6_2).f2) ((rd_T65 l0_1 x6_2).f3)) else ((q8_cups.f ((rd_T65 l0_1 x6_2).f2)).bind fun t268=>(q8_Net.j2 k2 x5_2 x6_2 (!t268) l0_0 l0_1 ((rd_T65 l0_1 x6_2).f0) ((rd_T65 l0_1 x6_2).f1) ((rd_T65 l0_1 x6_2).f2) ((rd_T65 l0_1 x6_2).f3)))) else (q8_Net.j2 k2 x5_2 x6_2 true l0_0 l0_1 ((rd_T65 l0_1 x6_2).f0) ((rd_T65 l0_1 x6_2).f1) ((rd_T65 l0_1 x6_2).f2) ((rd_T65 l0_1 x6_2).f3))) = some r:=H
       have A42:=am A420
       clear A420
       by_cases c43 : t267 = true
       case neg =>
        replace c43:=Bool.eq_false_iff.mpr c43
        subst c43
        replace H : (q8_Net.j2 k2 x5_2 x6_2 true l0_0 l0_1 ((rd_T65 l0_1 x6_2).f0) ((rd_T65 l0_1 x6_2).f1) ((rd_T65 l0_1 x6_2).f2) ((rd_T65 l0_1 x6_2).f3)) = some r:=by rw [if_neg (show ¬ (false = true) by decide)] at H;exact H
        replace H':=am H
        have hnb62:=NB257_265.out
        have hnc62:=NB265_257.out
        obtain ⟨hcz63_0,hcz63_1⟩:=cO2 BK257.out
        have hfz63_0:=blk_frozen BK257.out 0
        have hfz63_1:=blk_frozen BK257.out 1
        obtain ⟨hcz64_0,hcz64_1,hcz64_2,hcz64_3⟩:=cO4 BK265.out
        have hfz64_0:=blk_frozen BK265.out 0
        have hfz64_1:=blk_frozen BK265.out 1
        have hfz64_2:=blk_frozen BK265.out 2
        have hfz64_3:=blk_frozen BK265.out 3
        go_wp2_with (first | ((with_reducible refine ga_callee (f:=30) rfl ?_);refine goesL_ (some 62) rfl rfl Tryz.func30 (by kernel_rfl) rfl #[.agg #[.slice A0_0 l0_0.length c0_0,.slice (some ad264) l0_1.length c0_1],.int .i64 ((rd_T65 l0_1 x6_2).f0)] rfl (by (try simp only [List.map_toArray,List.map_cons,List.map_nil]);first | done | rfl | (simp only [List.length_drop,List.length_take];rfl)) ?_;(with_reducible refine (q8_Point.calls _ _ l0_0 _ _ l0_1 ((rd_T65 l0_1 x6_2).f0) true _ ?side1 ?side2 ?side3 ?side4 A40.out).mono ?_);(case side1=>exact kC HR0_0.out (by repeat (first | (with_reducible first | exact HB.out | refine below_set ?_ (Aside0.out (by assumption)) | apply below_alloc | apply pw_below_drewN) | exact HB.out)));(case side2=>exact HC0_0.out);(case side3=>exact kC HR0_1.out (by repeat (first | (with_reducible first | exact HB.out | refine below_set ?_ (Aside0.out (by assumption)) | apply below_alloc | apply pw_below_drewN) | exact HB.out)));(case side4=>exact HC0_1.out);rintro e w65 ⟨rfl,hb⟩;refine ⟨_,rfl,?_⟩;replace BK257:=am (blk_below (g:=gb257) (o:=.cells #[.slice A0_0 l0_0.length c0_0,.slice (some ad264) l0_1.length c0_1] 25 (0,0)) (by (with_reducible repeat (first | refine blk_drewN ?_ _ | refine blk_drew ?_ | refine blk_alloc ?_ _));refine blk_far ?_ NB257_265.out _;(with_reducible repeat (first | refine blk_drewN ?_ _ | refine blk_drew ?_ | refine blk_alloc ?_ _));refine blk_far ?_ NB257_265.out _;(with_reducible repeat (first | refine blk_drewN ?_ _ | refine blk_drew ?_ | refine blk_alloc ?_ _));refine blk_far ?_ NB257_265.out _;(with_reducible repeat (first | refine blk_drewN ?_ _ | refine blk_drew ?_ | refine blk_alloc ?_ _));refine blk_far ?_ NB257_265.out _;(with_reducible repeat (first | refine blk_drewN ?_ _ | refine blk_drew ?_ | refine blk_alloc ?_ _));exact BK257.out) hb);replace BK265:=am (blk_below (g:=gb265) (o:=.cells #[.int .i64 ((rd_T65 l0_1 x6_2).f0),.int .i64 ((rd_T65 l0_1 x6_2).f1),.int .i64 ((rd_T65 l0_1 x6_2).f2),.bool ((rd_T65 l0_1 x6_2).f3)] 65 (0,0)) (by (with_reducible repeat (first | refine blk_drewN ?_ _ | refine blk_drew ?_ | refine blk_alloc ?_ _));refine blk_put (cs:=#[.int .i64 ((rd_T65 l0_1 x6_2).f0),.int .i64 ((rd_T65 l0_1 x6_2).f1),.int .i64 ((rd_T65 l0_1 x6_2).f2),.bool false]) ?_ 3 _ rfl;(with_reducible repeat (first | refine blk_drewN ?_ _ | refine blk_drew ?_ | refine blk_alloc ?_ _));refine blk_put (cs:=#[.int .i64 ((rd_T65 l0_1 x6_2).f0),.int .i64 ((rd_T65 l0_1 x6_2).f1),.int .i64 0,.bool false]) ?_ 2 _ rfl;(with_reducible repeat (first | refine blk_drewN ?_ _ | refine blk_drew ?_ | refine blk_alloc ?_ _));refine blk_put (cs:=#[.int .i64 ((rd_T65 l0_1 x6_2).f0),.int .i64 0,.int .i64 0,.bool false]) ?_ 1 _ rfl;(with_reducible repeat (first | refine blk_drewN ?_ _ | refine blk_drew ?_ | refine blk_alloc ?_ _));refine blk_put (cs:=#[.int .i64 0,.int .i64 0,.int .i64 0,.bool false]) ?_ 0 _ rfl;(with_reducible repeat (first | refine blk_drewN ?_ _ | refine blk_drew ?_ | refine blk_alloc ?_ _));exact BK265.out) hb);replace HB:=am (below_step (by repeat (first | (with_reducible first | exact HB.out | refine below_set ?_ (Aside0.out (by assumption)) | apply below_alloc | apply pw_below_drewN) | exact HB.out)) hb);(try clear hb);(try clear hb2);(try clear hk);(try clear hi);obtain ⟨hcz66_0,hcz66_1⟩:=cO2 BK257.out;have hfz66_0:=blk_frozen BK257.out 0;have hfz66_1:=blk_frozen BK257.out 1;obtain ⟨hcz67_0,hcz67_1,hcz67_2,hcz67_3⟩:=cO4 BK265.out;have hfz67_0:=blk_frozen BK265.out 0;have hfz67_1:=blk_frozen BK265.out 1;have hfz67_2:=blk_frozen BK265.out 2;have hfz67_3:=blk_frozen BK265.out 3) | (go_at_call 30;(with_reducible refine (q8_Point.calls _ _ l0_0 _ _ l0_1 ((rd_T65 l0_1 x6_2).f1) false _ ?side1 ?side2 ?side3 ?side4 A42.out).mono ?_);(case side1=>exact kC HR0_0.out HB.out);(case side2=>exact HC0_0.out);(case side3=>exact kC HR0_1.out HB.out);(case side4=>exact HC0_1.out);rintro e w68 ⟨rfl,hb⟩;replace BK257:=am (blk_below (g:=gb257) (o:=.cells #[.slice A0_0 l0_0.length c0_0,.slice (some ad264) l0_1.length c0_1] 25 (0,0)) (by (with_reducible repeat (first | refine blk_drewN ?_ _ | refine blk_drew ?_ | refine blk_alloc ?_ _));exact BK257.out) hb);replace BK265:=am (blk_below (g:=gb265) (o:=.cells #[.int .i64 ((rd_T65 l0_1 x6_2).f0),.int .i64 ((rd_T65 l0_1 x6_2).f1),.int .i64 ((rd_T65 l0_1 x6_2).f2),.bool ((rd_T65 l0_1 x6_2).f3)] 65 (0,0)) (by (with_reducible repeat (first | refine blk_drewN ?_ _ | refine blk_drew ?_ | refine blk_alloc ?_ _));exact BK265.out) hb);replace HB:=am (below_step (HB.out) hb);(try clear hb);(try clear hb2);(try clear hk);(try clear hi)))
        go_meet
        case rel=>exact ⟨_,(true),(by first | rfl | (simp;done) | (simp [*];done)),H',⟨by have:=HK1.out;have:=HK2.out;first | omega | exact Nat.le_refl _⟩,⟨by (with_reducible repeat (first | refine blk_drewN ?_ _ | refine blk_drew ?_ | refine blk_alloc ?_ _));exact BK257.out⟩,⟨by (with_reducible repeat (first | refine blk_drewN ?_ _ | refine blk_drew ?_ | refine blk_alloc ?_ _));exact BK265.out⟩,⟨HB.out⟩⟩
       subst c43
       replace H : (if ((rd_T65 l0_1 x6_2).f0) = ((rd_T65 l0_1 x6_2).f1) then (q8_Net.j2 k2 x5_2 x6_2 true l0_0 l0_1 ((rd_T65 l0_1 x6_2).f0) ((rd_T65 l0_1 x6_2).f1) ((rd_T65 l0_1 x6_2).f2) ((rd_T65 l0_1 x6_2).f3)) else ((q8_cups.f ((rd_T65 l0_1 x6_2).f2)).bind fun t268=>(q8_Net.j2 k2 x5_2 x6_2 (!t268) l0_0 l0_1 ((rd_T65 l0_1 x6_2).f0) ((rd_T65 l0_1 x6_2).f1) ((rd_T65 l0_1 x6_2).f2) ((rd_T65 l0_1 x6_2).f3)))) = some r:=by rw [if_pos rfl] at H;exact H
       by_cases c44 : ((rd_T65 l0_1 x6_2).f0) = ((rd_T65 l0_1 x6_2).f1)
       ·rw [if_pos c44] at H
        have c44b0 : (((rd_T65 l0_1 x6_2).f0) == ((rd_T65 l0_1 x6_2).f1)) = true:=beq_iff_eq.mpr c44
        have c44b1 : (((rd_T65 l0_1 x6_2).f0) != ((rd_T65 l0_1 x6_2).f1)) = false:=bne_eq_false_iff_eq.mpr c44
        clear c44
        (first | rw [c44b0] | (simp only [i64_w,i32_w];rw [c44b0]) | skip)
        replace H':=am H
        have hnb45:=NB257_265.out
        have hnc45:=NB265_257.out
        obtain ⟨hcz46_0,hcz46_1⟩:=cO2 BK257.out
        have hfz46_0:=blk_frozen BK257.out 0
        have hfz46_1:=blk_frozen BK257.out 1
        obtain ⟨hcz47_0,hcz47_1,hcz47_2,hcz47_3⟩:=cO4 BK265.out
        have hfz47_0:=blk_frozen BK265.out 0
        have hfz47_1:=blk_frozen BK265.out 1
        have hfz47_2:=blk_frozen BK265.out 2
        have hfz47_3:=blk_frozen BK265.out 3
        go_wp2_with (first | ((with_reducible refine ga_callee (f:=30) rfl ?_);refine goesL_ (some 62) rfl rfl Tryz.func30 (by kernel_rfl) rfl #[.agg #[.slice A0_0 l0_0.length c0_0,.slice (some ad264) l0_1.length c0_1],.int .i64 ((rd_T65 l0_1 x6_2).f0)] rfl (by (try simp only [List.map_toArray,List.map_cons,List.map_nil]);first | done | rfl | (simp only [List.length_drop,List.length_take];rfl)) ?_;(with_reducible refine (q8_Point.calls _ _ l0_0 _ _ l0_1 ((rd_T65 l0_1 x6_2).f0) true _ ?side1 ?side2 ?side3 ?side4 A40.out).mono ?_);(case side1=>exact kC HR0_0.out (by repeat (first | (with_reducible first | exact HB.out | refine below_set ?_ (Aside0.out (by assumption)) | apply below_alloc | apply pw_below_drewN) | exact HB.out)));(case side2=>exact HC0_0.out);(case side3=>exact kC HR0_1.out (by repeat (first | (with_reducible first | exact HB.out | refine below_set ?_ (Aside0.out (by assumption)) | apply below_alloc | apply pw_below_drewN) | exact HB.out)));(case side4=>exact HC0_1.out);rintro e w48 ⟨rfl,hb⟩;refine ⟨_,rfl,?_⟩;replace BK257:=am (blk_below (g:=gb257) (o:=.cells #[.slice A0_0 l0_0.length c0_0,.slice (some ad264) l0_1.length c0_1] 25 (0,0)) (by (with_reducible repeat (first | refine blk_drewN ?_ _ | refine blk_drew ?_ | refine blk_alloc ?_ _));refine blk_far ?_ NB257_265.out _;(with_reducible repeat (first | refine blk_drewN ?_ _ | refine blk_drew ?_ | refine blk_alloc ?_ _));refine blk_far ?_ NB257_265.out _;(with_reducible repeat (first | refine blk_drewN ?_ _ | refine blk_drew ?_ | refine blk_alloc ?_ _));refine blk_far ?_ NB257_265.out _;(with_reducible repeat (first | refine blk_drewN ?_ _ | refine blk_drew ?_ | refine blk_alloc ?_ _));refine blk_far ?_ NB257_265.out _;(with_reducible repeat (first | refine blk_drewN ?_ _ | refine blk_drew ?_ | refine blk_alloc ?_ _));exact BK257.out) hb);replace BK265:=am (blk_below (g:=gb265) (o:=.cells #[.int .i64 ((rd_T65 l0_1 x6_2).f0),.int .i64 ((rd_T65 l0_1 x6_2).f1),.int .i64 ((rd_T65 l0_1 x6_2).f2),.bool ((rd_T65 l0_1 x6_2).f3)] 65 (0,0)) (by (with_reducible repeat (first | refine blk_drewN ?_ _ | refine blk_drew ?_ | refine blk_alloc ?_ _));refine blk_put (cs:=#[.int .i64 ((rd_T65 l0_1 x6_2).f0),.int .i64 ((rd_T65 l0_1 x6_2).f1),.int .i64 ((rd_T65 l0_1 x6_2).f2),.bool false]) ?_ 3 _ rfl;(with_reducible repeat (first | refine blk_drewN ?_ _ | refine blk_drew ?_ | refine blk_alloc ?_ _));refine blk_put (cs:=#[.int .i64 ((rd_T65 l0_1 x6_2).f0),.int .i64 ((rd_T65 l0_1 x6_2).f1),.int .i64 0,.bool false]) ?_ 2 _ rfl;(with_reducible repeat (first | refine blk_drewN ?_ _ | refine blk_drew ?_ | refine blk_alloc ?_ _));refine blk_put (cs:=#[.int .i64 ((rd_T65 l0_1 x6_2).f0),.int .i64 0,.int .i64 0,.bool false]) ?_ 1 _ rfl;(with_reducible repeat (first | refine blk_drewN ?_ _ | refine blk_drew ?_ | refine blk_alloc ?_ _));refine blk_put (cs:=#[.int .i64 0,.int .i64 0,.int .i64 0,.bool false]) ?_ 0 _ rfl;(with_reducible repeat (first | refine blk_drewN ?_ _ | refine blk_drew ?_ | refine blk_alloc ?_ _));exact BK265.out) hb);replace HB:=am (below_step (by repeat (first | (with_reducible first | exact HB.out | refine below_set ?_ (Aside0.out (by assumption)) | apply below_alloc | apply pw_below_drewN) | exact HB.out)) hb);(try clear hb);(try clear hb2);(try clear hk);(try clear hi);obtain ⟨hcz49_0,hcz49_1⟩:=cO2 BK257.out;have hfz49_0:=blk_frozen BK257.out 0;have hfz49_1:=blk_frozen BK257.out 1;obtain ⟨hcz50_0,hcz50_1,hcz50_2,hcz50_3⟩:=cO4 BK265.out;have hfz50_0:=blk_frozen BK265.out 0;have hfz50_1:=blk_frozen BK265.out 1;have hfz50_2:=blk_frozen BK265.out 2;have hfz50_3:=blk_frozen BK265.out 3) | (go_at_call 30;(with_reducible refine (q8_Point.calls _ _ l0_0 _ _ l0_1 ((rd_T65 l0_1 x6_2).f1) true _ ?side1 ?side2 ?side3 ?side4 A42.out).mono ?_);(case side1=>exact kC HR0_0.out HB.out);(case side2=>exact HC0_0.out);(case side3=>exact kC HR0_1.out HB.out);(case side4=>exact HC0_1.out);rintro e w51 ⟨rfl,hb⟩;replace BK257:=am (blk_below (g:=gb257) (o:=.cells #[.slice A0_0 l0_0.length c0_0,.slice (some ad264) l0_1.length c0_1] 25 (0,0)) (by (with_reducible repeat (first | refine blk_drewN ?_ _ | refine blk_drew ?_ | refine blk_alloc ?_ _));exact BK257.out) hb);replace BK265:=am (blk_below (g:=gb265) (o:=.cells #[.int .i64 ((rd_T65 l0_1 x6_2).f0),.int .i64 ((rd_T65 l0_1 x6_2).f1),.int .i64 ((rd_T65 l0_1 x6_2).f2),.bool ((rd_T65 l0_1 x6_2).f3)] 65 (0,0)) (by (with_reducible repeat (first | refine blk_drewN ?_ _ | refine blk_drew ?_ | refine blk_alloc ?_ _));exact BK265.out) hb);replace HB:=am (below_step (HB.out) hb);(try clear hb);(try clear hb2);(try clear hk);(try clear hi);obtain ⟨hcz52_0,hcz52_1,hcz52_2,hcz52_3⟩:=cO4 BK265.out;have hfz52_0:=blk_frozen BK265.out 0;have hfz52_1:=blk_frozen BK265.out 1;have hfz52_2:=blk_frozen BK265.out 2;have hfz52_3:=blk_frozen BK265.out 3))
        go_meet
        case rel=>exact ⟨_,(true),(by first | rfl | (simp;done) | (simp [*];done)),H',⟨by have:=HK1.out;have:=HK2.out;first | omega | exact Nat.le_refl _⟩,⟨by (with_reducible repeat (first | refine blk_drewN ?_ _ | refine blk_drew ?_ | refine blk_alloc ?_ _));exact BK257.out⟩,⟨by (with_reducible repeat (first | refine blk_drewN ?_ _ | refine blk_drew ?_ | refine blk_alloc ?_ _));exact BK265.out⟩,⟨HB.out⟩⟩
       ·rw [if_neg c44] at H
        have c44b0 : (((rd_T65 l0_1 x6_2).f0) == ((rd_T65 l0_1 x6_2).f1)) = false:=beq_eq_false_iff_ne.mpr c44
        have c44b1 : (((rd_T65 l0_1 x6_2).f0) != ((rd_T65 l0_1 x6_2).f1)) = true:=bne_iff_ne.mpr c44
        (first | rw [c44b0] | (simp only [i64_w,i32_w];rw [c44b0]) | skip)
        replace H:=obm H
        obtain ⟨t268,A530,H⟩:=H
        replace H : (q8_Net.j2 k2 x5_2 x6_2 (!t268) l0_0 l0_1 ((rd_T65 l0_1 x6_2).f0) ((rd_T65 l0_1 x6_2).f1) ((rd_T65 l0_1 x6_2).f2) ((rd_T65 l0_1 x6_2).f3)) = some r:=H
        have A53:=am A530
        clear A530
        replace H':=am H
        have hnb54:=NB257_265.out
        have hnc54:=NB265_257.out
        obtain ⟨hcz55_0,hcz55_1⟩:=cO2 BK257.out
        have hfz55_0:=blk_frozen BK257.out 0
        have hfz55_1:=blk_frozen BK257.out 1
        obtain ⟨hcz56_0,hcz56_1,hcz56_2,hcz56_3⟩:=cO4 BK265.out
        have hfz56_0:=blk_frozen BK265.out 0
        have hfz56_1:=blk_frozen BK265.out 1
        have hfz56_2:=blk_frozen BK265.out 2
        have hfz56_3:=blk_frozen BK265.out 3
        go_wp2_with (first | ((with_reducible refine ga_callee (f:=30) rfl ?_);refine goesL_ (some 62) rfl rfl Tryz.func30 (by kernel_rfl) rfl #[.agg #[.slice A0_0 l0_0.length c0_0,.slice (some ad264) l0_1.length c0_1],.int .i64 ((rd_T65 l0_1 x6_2).f0)] rfl (by (try simp only [List.map_toArray,List.map_cons,List.map_nil]);first | done | rfl | (simp only [List.length_drop,List.length_take];rfl)) ?_;(with_reducible refine (q8_Point.calls _ _ l0_0 _ _ l0_1 ((rd_T65 l0_1 x6_2).f0) true _ ?side1 ?side2 ?side3 ?side4 A40.out).mono ?_);(case side1=>exact kC HR0_0.out (by repeat (first | (with_reducible first | exact HB.out | refine below_set ?_ (Aside0.out (by assumption)) | apply below_alloc | apply pw_below_drewN) | exact HB.out)));(case side2=>exact HC0_0.out);(case side3=>exact kC HR0_1.out (by repeat (first | (with_reducible first | exact HB.out | refine below_set ?_ (Aside0.out (by assumption)) | apply below_alloc | apply pw_below_drewN) | exact HB.out)));(case side4=>exact HC0_1.out);rintro e w57 ⟨rfl,hb⟩;refine ⟨_,rfl,?_⟩;replace BK257:=am (blk_below (g:=gb257) (o:=.cells #[.slice A0_0 l0_0.length c0_0,.slice (some ad264) l0_1.length c0_1] 25 (0,0)) (by (with_reducible repeat (first | refine blk_drewN ?_ _ | refine blk_drew ?_ | refine blk_alloc ?_ _));refine blk_far ?_ NB257_265.out _;(with_reducible repeat (first | refine blk_drewN ?_ _ | refine blk_drew ?_ | refine blk_alloc ?_ _));refine blk_far ?_ NB257_265.out _;(with_reducible repeat (first | refine blk_drewN ?_ _ | refine blk_drew ?_ | refine blk_alloc ?_ _));refine blk_far ?_ NB257_265.out _;(with_reducible repeat (first | refine blk_drewN ?_ _ | refine blk_drew ?_ | refine blk_alloc ?_ _));refine blk_far ?_ NB257_265.out _;(with_reducible repeat (first | refine blk_drewN ?_ _ | refine blk_drew ?_ | refine blk_alloc ?_ _));exact BK257.out) hb);replace BK265:=am (blk_below (g:=gb265) (o:=.cells #[.int .i64 ((rd_T65 l0_1 x6_2).f0),.int .i64 ((rd_T65 l0_1 x6_2).f1),.int .i64 ((rd_T65 l0_1 x6_2).f2),.bool ((rd_T65 l0_1 x6_2).f3)] 65 (0,0)) (by (with_reducible repeat (first | refine blk_drewN ?_ _ | refine blk_drew ?_ | refine blk_alloc ?_ _));refine blk_put (cs:=#[.int .i64 ((rd_T65 l0_1 x6_2).f0),.int .i64 ((rd_T65 l0_1 x6_2).f1),.int .i64 ((rd_T65 l0_1 x6_2).f2),.bool false]) ?_ 3 _ rfl;(with_reducible repeat (first | refine blk_drewN ?_ _ | refine blk_drew ?_ | refine blk_alloc ?_ _));refine blk_put (cs:=#[.int .i64 ((rd_T65 l0_1 x6_2).f0),.int .i64 ((rd_T65 l0_1 x6_2).f1),.int .i64 0,.bool false]) ?_ 2 _ rfl;(with_reducible repeat (first | refine blk_drewN ?_ _ | refine blk_drew ?_ | refine blk_alloc ?_ _));refine blk_put (cs:=#[.int .i64 ((rd_T65 l0_1 x6_2).f0),.int .i64 0,.int .i64 0,.bool false]) ?_ 1 _ rfl;(with_reducible repeat (first | refine blk_drewN ?_ _ | refine blk_drew ?_ | refine blk_alloc ?_ _));refine blk_put (cs:=#[.int .i64 0,.int .i64 0,.int .i64 0,.bool false]) ?_ 0 _ rfl;(with_reducible repeat (first | refine blk_drewN ?_ _ | refine blk_drew ?_ | refine blk_alloc ?_ _));exact BK265.out) hb);replace HB:=am (below_step (by repeat (first | (with_reducible first | exact HB.out | refine below_set ?_ (Aside0.out (by assumption)) | apply below_alloc | apply pw_below_drewN) | exact HB.out)) hb);(try clear hb);(try clear hb2);(try clear hk);(try clear hi);obtain ⟨hcz58_0,hcz58_1⟩:=cO2 BK257.out;have hfz58_0:=blk_frozen BK257.out 0;have hfz58_1:=blk_frozen BK257.out 1;obtain ⟨hcz59_0,hcz59_1,hcz59_2,hcz59_3⟩:=cO4 BK265.out;have hfz59_0:=blk_frozen BK265.out 0;have hfz59_1:=blk_frozen BK265.out 1;have hfz59_2:=blk_frozen BK265.out 2;have hfz59_3:=blk_frozen BK265.out 3) | (go_at_call 30;(with_reducible refine (q8_Point.calls _ _ l0_0 _ _ l0_1 ((rd_T65 l0_1 x6_2).f1) true _ ?side1 ?side2 ?side3 ?side4 A42.out).mono ?_);(case side1=>exact kC HR0_0.out HB.out);(case side2=>exact HC0_0.out);(case side3=>exact kC HR0_1.out HB.out);(case side4=>exact HC0_1.out);rintro e w60 ⟨rfl,hb⟩;replace BK257:=am (blk_below (g:=gb257) (o:=.cells #[.slice A0_0 l0_0.length c0_0,.slice (some ad264) l0_1.length c0_1] 25 (0,0)) (by (with_reducible repeat (first | refine blk_drewN ?_ _ | refine blk_drew ?_ | refine blk_alloc ?_ _));exact BK257.out) hb);replace BK265:=am (blk_below (g:=gb265) (o:=.cells #[.int .i64 ((rd_T65 l0_1 x6_2).f0),.int .i64 ((rd_T65 l0_1 x6_2).f1),.int .i64 ((rd_T65 l0_1 x6_2).f2),.bool ((rd_T65 l0_1 x6_2).f3)] 65 (0,0)) (by (with_reducible repeat (first | refine blk_drewN ?_ _ | refine blk_drew ?_ | refine blk_alloc ?_ _));exact BK265.out) hb);replace HB:=am (below_step (HB.out) hb);(try clear hb);(try clear hb2);(try clear hk);(try clear hi);obtain ⟨hcz61_0,hcz61_1,hcz61_2,hcz61_3⟩:=cO4 BK265.out;have hfz61_0:=blk_frozen BK265.out 0;have hfz61_1:=blk_frozen BK265.out 1;have hfz61_2:=blk_frozen BK265.out 2;have hfz61_3:=blk_frozen BK265.out 3) | (go_at_call 62;(with_reducible refine (q8_cups.calls ((rd_T65 l0_1 x6_2).f2) t268 _ A53.out).mono ?_);rintro e w' ⟨rfl,⟨nd,rfl⟩⟩))
        go_meet
        case rel=>exact ⟨_,(!t268),(by first | rfl | (simp;done) | (simp [*];done)),H',⟨by have:=HK1.out;have:=HK2.out;first | omega | exact Nat.le_refl _⟩,⟨by (with_reducible repeat (first | refine blk_drewN ?_ _ | refine blk_drew ?_ | refine blk_alloc ?_ _));exact BK257.out⟩,⟨by (with_reducible repeat (first | refine blk_drewN ?_ _ | refine blk_drew ?_ | refine blk_alloc ?_ _));exact BK265.out⟩,⟨pw_below_drewN HB.out _⟩⟩
      case rest =>
       clear HC35
       obtain ⟨kq,x83_34,rfl,HA,HJ34,BK257,BK265,HB⟩:=hcut
       cases kq with
       | zero=>exact absurd HA.out (by simp [q8_Net.j2])
       | succ kj34 =>
        have H:=HA.out
        clear HA
        simp only [q8_Net.j2] at H
        by_cases c73 : x83_34 = true
        ·subst c73
         replace H : (some false) = some r:=by rw [if_pos rfl] at H;exact H
         obtain rfl:=Option.some.inj H
         go_wp2
         go_ret
         exact ⟨by first | rfl | (simp [*]<;>rfl),HB.out⟩
        ·replace c73:=Bool.eq_false_iff.mpr c73
         subst c73
         replace H : (if ((rd_T65 l0_1 x6_2).f3) = true then (q8_Net.l1 kj34 (wrap64 (x5_2 + 1)) (wrap64 (x6_2 + 1)) l0_0 l0_1) else (q8_Net.l1 kj34 x5_2 (wrap64 (x6_2 + 1)) l0_0 l0_1)) = some r:=by rw [if_neg (show ¬ (false = true) by decide)] at H;exact H
         by_cases c74 : ((rd_T65 l0_1 x6_2).f3) = true
         ·rw [if_pos c74] at H
          have c74b0 : ((rd_T65 l0_1 x6_2).f3) = true:=c74
          clear c74
          replace H':=am H
          have hnb75:=NB265_257.out
          have hnc75:=NB257_265.out
          obtain ⟨hcz76_0,hcz76_1,hcz76_2,hcz76_3⟩:=cO4 BK265.out
          have hfz76_0:=blk_frozen BK265.out 0
          have hfz76_1:=blk_frozen BK265.out 1
          have hfz76_2:=blk_frozen BK265.out 2
          have hfz76_3:=blk_frozen BK265.out 3
          go_wp2
          go_roundg kj34
          case measure=>have:=HK1.out;have:=HK2.out;have:=HJ34.out;omega
          case rel=>exact ⟨(wrap64 (x5_2 + 1)),(wrap64 (x6_2 + 1)),(by first | rfl | (simp;done) | (simp [*];done)),(by first | rfl | (simp;done) | (simp [*];done)),H',⟨by have:=HK1.out;have:=HK2.out;have:=HJ34.out;omega⟩,⟨by (with_reducible repeat (first | refine blk_drewN ?_ _ | refine blk_drew ?_ | refine blk_alloc ?_ _));exact BK257.out⟩,⟨HB.out⟩⟩
         ·rw [if_neg c74] at H
          have c74b0 : ((rd_T65 l0_1 x6_2).f3) = false:=by simpa using c74
          clear c74
          replace H':=am H
          have hnb77:=NB265_257.out
          have hnc77:=NB257_265.out
          obtain ⟨hcz78_0,hcz78_1,hcz78_2,hcz78_3⟩:=cO4 BK265.out
          have hfz78_0:=blk_frozen BK265.out 0
          have hfz78_1:=blk_frozen BK265.out 1
          have hfz78_2:=blk_frozen BK265.out 2
          have hfz78_3:=blk_frozen BK265.out 3
          go_wp2
          go_roundg kj34
          case measure=>have:=HK1.out;have:=HK2.out;have:=HJ34.out;omega
          case rel=>exact ⟨(x5_2),(wrap64 (x6_2 + 1)),(by first | rfl | (simp;done) | (simp [*];done)),(by first | rfl | (simp;done) | (simp [*];done)),H',⟨by have:=HK1.out;have:=HK2.out;have:=HJ34.out;omega⟩,⟨by (with_reducible repeat (first | refine blk_drewN ?_ _ | refine blk_drew ?_ | refine blk_alloc ?_ _));exact BK257.out⟩,⟨HB.out⟩⟩
def q8_Gate.f (l0_0 : List (S37)) (l0_1 : List (S65)) (a1 : Int) : Option (Bool):=(q8_in.f a1 0 (wrap64 ((l0_1.length : Int) - 1))).bind fun t270=>(if t270 = true then (if 0≤a1 then (if a1 < (l0_1.length : Int) then (some ((rd_T65 l0_1 a1).f3)) else (none)) else (none)) else (some false))
theorem q8_Gate.calls (A0_0 : Option Addr) (c0_0 : Nat) (l0_0 : List (S37)) (A0_1 : Option Addr) (c0_1 : Nat) (l0_1 : List (S65)) (a1 : Int) (r : Bool) (w : World) (hr0_0 : Kd.C k37 w A0_0 l0_0.length l0_0) (hc0_0 : l0_0.length≤c0_0) (hr0_1 : Kd.C k65 w A0_1 l0_1.length l0_1) (hc0_1 : l0_1.length≤c0_1) (h : q8_Gate.f l0_0 l0_1 a1 = some r) :
 Calls Tryz.prog 42 #[.agg #[.slice A0_0 l0_0.length c0_0,.slice A0_1 l0_1.length c0_1],.int .i64 a1] w fun e w'=>e = .returned (.bool r)∧Below w.heap.size w w':=by
 have hu25:=Tryz.underlying25
 have HR0_0:=am hr0_0
 have HC0_0:=am hc0_0
 clear hr0_0 hc0_0
 have HR0_1:=am hr0_1
 have HC0_1:=am hc0_1
 clear hr0_1 hc0_1
 have HB:=am (Below.refl w.heap.size w)
 have H : ((q8_in.f a1 0 (wrap64 ((l0_1.length : Int) - 1))).bind fun t270=>(if t270 = true then (if 0≤a1 then (if a1 < (l0_1.length : Int) then (some ((rd_T65 l0_1 a1).f3)) else (none)) else (none)) else (some false))) = some r:=h
 clear h
 replace H:=obm H
 obtain ⟨t270,A30,H⟩:=H
 replace H : (if t270 = true then (if 0≤a1 then (if a1 < (l0_1.length : Int) then (some ((rd_T65 l0_1 a1).f3)) else (none)) else (none)) else (some false)) = some r:=H
 have A3:=am A30
 clear A30
 by_cases c4 : t270 = true
 case neg =>
  replace c4:=Bool.eq_false_iff.mpr c4
  subst c4
  replace H : (some false) = some r:=by rw [if_neg (show ¬ (false = true) by decide)] at H;exact H
  obtain rfl:=Option.some.inj H
  go_enter Tryz.func42,Tryz.ntmps42
  go_wp2_with (first | ((refine ga_dst (N:=2) rfl ?_);refine box_event rfl (N:=2) rfl (cs:=#[.slice A0_0 l0_0.length c0_0,.slice A0_1 l0_1.length c0_1]) (t:=25) ?hr ?_;(case hr=>go_simp;try rfl);intro gb269 hg w9 hbox hb;have BK269:=am (hbox);have GW269:=am (ge_new (HB.out) hg);have GE269:=am (ge_new (HB.out) hg);replace HB:=am (below_step (HB.out) hb);clear hb hbox hg;obtain ⟨hcz10_0,hcz10_1⟩:=cO2 BK269.out) | ((with_reducible refine ga_callee (f:=63) rfl ?_);refine goesL_ (some 10) rfl rfl Tryz.func63 (by kernel_rfl) rfl #[.int .i64 a1,.int .i64 0,.int .i64 (wrap64 ((l0_1.length : Int) - 1))] rfl (by (try simp only [List.map_toArray,List.map_cons,List.map_nil]);first | done | rfl | (simp only [List.length_drop,List.length_take];rfl)) ?_;(refine (q8_in.calls a1 0 (wrap64 ((l0_1.length : Int) - 1)) false _ A3.out).mono ?_);rintro e w' ⟨rfl,⟨nd,rfl⟩⟩;refine ⟨_,rfl,?_⟩))
  go_ret
  exact ⟨by first | rfl | (simp [*]<;>rfl),pw_below_drewN HB.out _⟩
 subst c4
 replace H : (if 0≤a1 then (if a1 < (l0_1.length : Int) then (some ((rd_T65 l0_1 a1).f3)) else (none)) else (none)) = some r:=by rw [if_pos rfl] at H;exact H
 by_cases c5 : 0≤a1
 case neg =>
  rw [if_neg c5] at H
  exact absurd H (by simp)
 rw [if_pos c5] at H
 have c5b0 : decide (0≤a1) = true:=decide_eq_true c5
 clear c5
 by_cases c6 : a1 < (l0_1.length : Int)
 case neg =>
  rw [if_neg c6] at H
  exact absurd H (by simp)
 rw [if_pos c6] at H
 have c6b0 : decide (a1 < (l0_1.length : Int)) = true:=decide_eq_true c6
 clear c6
 obtain rfl:=Option.some.inj H
 go_enter Tryz.func42,Tryz.ntmps42
 go_wp2_with (first | ((refine ga_dst (N:=2) rfl ?_);refine box_event rfl (N:=2) rfl (cs:=#[.slice A0_0 l0_0.length c0_0,.slice A0_1 l0_1.length c0_1]) (t:=25) ?hr ?_;(case hr=>go_simp;try rfl);intro gb269 hg w7 hbox hb;have BK269:=am (hbox);have GW269:=am (ge_new (HB.out) hg);have GE269:=am (ge_new (HB.out) hg);replace HB:=am (below_step (HB.out) hb);clear hb hbox hg;obtain ⟨hcz8_0,hcz8_1⟩:=cO2 BK269.out) | ((with_reducible refine ga_callee (f:=63) rfl ?_);refine goesL_ (some 10) rfl rfl Tryz.func63 (by kernel_rfl) rfl #[.int .i64 a1,.int .i64 0,.int .i64 (wrap64 ((l0_1.length : Int) - 1))] rfl (by (try simp only [List.map_toArray,List.map_cons,List.map_nil]);first | done | rfl | (simp only [List.length_drop,List.length_take];rfl)) ?_;(refine (q8_in.calls a1 0 (wrap64 ((l0_1.length : Int) - 1)) true _ A3.out).mono ?_);rintro e w' ⟨rfl,⟨nd,rfl⟩⟩;refine ⟨_,rfl,?_⟩;have p271 : 0≤(a1 : Int):=of_decide_eq_true (by assumption);have q271 : a1 < (l0_1.length : Int):=of_decide_eq_true (by assumption);obtain ⟨ad271,e271,hx271_0,hx271_1,hx271_2,hx271_3⟩:=at_T65 HR0_1.out a1 p271 q271;cases e271;replace hx271_0:=(HB.out.cell (wbl hx271_0)).trans hx271_0;replace hx271_1:=(HB.out.cell (wbl hx271_1)).trans hx271_1;replace hx271_2:=(HB.out.cell (wbl hx271_2)).trans hx271_2;replace hx271_3:=(HB.out.cell (wbl hx271_3)).trans hx271_3;replace p271:=eq_true p271;replace q271:=eq_true q271))
 go_ret
 exact ⟨by first | rfl | (simp [*]<;>rfl),pw_below_drewN HB.out _⟩
end Go.Proofs.YtclkbedbocnpkaaGreatDoor.C

/- A part of the proof: the walks of the functions that it reaches. TIGHT. -/
import Derived.Test.YtclkbedbocnpkaaGreatDoorMFew12
set_option linter.unusedVariables false
set_option linter.unusedSimpArgs false
namespace Go.Proofs.YtclkbedbocnpkaaGreatDoor.C
open Go.RowKit Go.Proofs.YtclkbedbocnpkaaGreatDoorW.PrintWords Go.Proofs.YtclkbedbocnpkaaGreatDoorW.PrintLast Go.Proofs.YtclkbedbocnpkaaGreatDoorW.PrintMore
set_option linter.unusedVariables false
set_option linter.unusedSimpArgs false
set_option maxHeartbeats 16000000
set_option maxRecDepth 100000
def firstE : Option (List Int)→List Int × Int
 | none=>([],5)
 | some l=>(l,0)
theorem firstE_V {r : Option (List Int)} : ∃ r1 r2,firstV r = (r1,r2)∧(r2 = true→firstE r = (r1,0))∧(r2 = false→firstE r = ([],5)):=by
 cases r with
 | none=>exact ⟨[],false,rfl,(fun h=>Bool.noConfusion h),fun _=>rfl⟩
 | some l=>exact ⟨l,true,rfl,(fun _=>rfl),fun h=>Bool.noConfusion h⟩
def ga_Fewest.f (k : Nat) (l0_0 : List S37) (l0_1 : List S65) : Option (List Int × Int):=(ga_isNet.f k l0_0 l0_1).bind fun t=>if t = true then (ga_gates.f k l0_0 l0_1).bind fun gs=>(if gs.length < 1000000 then (firstT (ga_surely.f k l0_0 l0_1) (shortestOf gs)).bind fun r=>some (firstE r) else none) else some ([],2)
theorem fewestq.calls (k g : Nat) (A0_0 : Option Addr) (c0_0 : Nat) (l0_0 : List S37) (A0_1 : Option Addr) (c0_1 : Nat) (l0_1 : List S65) (A1 : Option Addr) (c1 : Nat) (l1 : List Int) (r : Bool) (w : World) (hb : w.heap[g]? = some (.cells #[.slice A0_0 l0_0.length c0_0,.slice A0_1 l0_1.length c0_1] 25 (0,0))) (hr0_0 : Kd.C k37 w A0_0 l0_0.length l0_0) (hc0_0 : l0_0.length≤c0_0) (hr0_1 : Kd.C k65 w A0_1 l0_1.length l0_1) (hc0_1 : l0_1.length≤c0_1) (hr1 : Kd.C (Kd.int .i64) w A1 l1.length l1) (hc1 : l1.length≤c1) (h : ga_surely.f k l0_0 l0_1 l1 = some r) :
 Calls Tryz.prog 77 #[.slice A1 l1.length c1,.pointer (some ⟨g,0,none⟩)] w fun e w'=>e = .returned (.bool r)∧Below w.heap.size w w':=by
 have hun:=Tryz.underlying25
 have c0:=(blk_cell hb 0).trans rfl
 have c1_:=(blk_cell hb 1).trans rfl
 have HC:=am (ga_surely.calls k A0_0 c0_0 l0_0 A0_1 c0_1 l0_1 A1 c1 l1 r w hr0_0 hc0_0 hr0_1 hc0_1 hr1 hc1 h)
 clear h hb hr0_0 hc0_0 hr0_1 hc0_1 hr1 hc1
 go_enter Tryz.func77,Tryz.ntmps77
 go_wp2_with (go_at_call 65;refine (HC.out).mono ?_;rintro e w1 ⟨rfl,hb⟩)
 go_ret
 exact ⟨rfl,hb⟩
theorem ga_Fewest.calls (k : Nat) (A0_0 : Option Addr) (c0_0 : Nat) (l0_0 : List S37) (A0_1 : Option Addr) (c0_1 : Nat) (l0_1 : List S65) (r1 : List Int) (r2 : Int) (w : World) (hr0_0 : Kd.C k37 w A0_0 l0_0.length l0_0) (hc0_0 : l0_0.length≤c0_0) (hr0_1 : Kd.C k65 w A0_1 l0_1.length l0_1) (hc0_1 : l0_1.length≤c0_1) (h : ga_Fewest.f k l0_0 l0_1 = some (r1,r2)) :
 Calls Tryz.prog 34 #[.agg #[.slice A0_0 l0_0.length c0_0,.slice A0_1 l0_1.length c0_1]] w fun e w'=>∃ v0_ : Value,e = .returned (.tuple #[v0_,.int .i64 r2])∧Kd.R (Kd.int .i64) 3 w' w.heap.size (fun _=>True) v0_ r1∧Below w.heap.size w w':=by
 have hun:=Tryz.underlying25
 have hmf : ∀ (fn : Fn) (first cap : Array Value) (w : World),(Instr.makeFunc fn first cap).run Tryz.prog w = .ok (.func fn first cap) w:=fun _ _ _ _=>rfl
 have HR0:=am hr0_0
 have HC0:=am hc0_0
 have HR1:=am hr0_1
 have HC1:=am hc0_1
 have HB:=am (Below.refl w.heap.size w)
 clear hr0_0 hc0_0 hr0_1 hc0_1
 unfold ga_Fewest.f at h
 obtain ⟨t,ht,h⟩:=obm h
 have H1:=am ht
 clear ht
 cases t with
 | false =>
  rw [if_neg (by decide)] at h
  have h:=Option.some.inj h
  obtain ⟨rfl,rfl⟩:=Prod.mk.inj h
  clear h
  go_enter Tryz.func34,Tryz.ntmps34
  go_wp2_with (first | ((refine ga_dst (N:=1) rfl ?_);(try (refine ga_guard (by rfl) ?_;dsimp only));refine box_event rfl (N:=1) rfl (cs:=#[.slice A0_0 l0_0.length c0_0,.slice A0_1 l0_1.length c0_1]) (t:=25) ?hr ?_;(case hr=>go_simp;try rfl);intro g hg w1 hbox hb;replace HR0:=(cmv HR0 hb);replace HR1:=(cmv HR1 hb);replace HB:=(bmv HB hb);clear hg;have BKg:=am hbox;clear hbox;(try clear hczg_0 hczg_1);obtain ⟨hczg_0,hczg_1⟩:=cO2 BKg.out;clear hb) | (go_at_call 55;(refine (ga_isNet.calls k A0_0 c0_0 l0_0 A0_1 c0_1 l0_1 false _ HR0.out HC0.out HR1.out HC1.out H1.out).mono ?_);rintro e w2 ⟨rfl,hb⟩;replace HR0:=(cmv HR0 hb);replace HR1:=(cmv HR1 hb);replace HB:=(bmv HB hb);replace BKg:=(kmv hb BKg);(try clear hczg_0 hczg_1);obtain ⟨hczg_0,hczg_1⟩:=cO2 BKg.out;clear hb))
  go_ret2
  exact ⟨_,rfl,Kd.R_nil _ _ _ _ _,HB.out⟩
 | true =>
  rw [if_pos rfl] at h
  obtain ⟨gs,hgs,h⟩:=obm h
  by_cases hgl : gs.length < 1000000
  rotate_left
  ·rw [if_neg hgl] at h;cases h
  rw [if_pos hgl] at h
  obtain ⟨r,hr,h⟩:=obm h
  have h:=Option.some.inj h
  obtain ⟨htot,hfm⟩:=firstT_total hr
  have H2:=am hgs
  have H3:=am htot
  have H4:=am hfm
  have H5:=am hgl
  obtain ⟨q1,q2,hq,hqt,hqf⟩:=firstE_V (r:=r)
  have HQ:=am hq
  clear hgs htot hfm hgl hr hq
  cases q2 with
  | true =>
   rw [hqt rfl] at h
   obtain ⟨rfl,rfl⟩:=Prod.mk.inj h
   clear h hqt hqf
   go_enter Tryz.func34,Tryz.ntmps34
   go_wp2_with (first | ((refine ga_dst (N:=1) rfl ?_);(try (refine ga_guard (by rfl) ?_;dsimp only));refine box_event rfl (N:=1) rfl (cs:=#[.slice A0_0 l0_0.length c0_0,.slice A0_1 l0_1.length c0_1]) (t:=25) ?hr ?_;(case hr=>go_simp;try rfl);intro g hg w1 hbox hb;replace HR0:=(cmv HR0 hb);replace HR1:=(cmv HR1 hb);replace HB:=(bmv HB hb);clear hg;have BKg:=am hbox;clear hbox;(try clear hczg_0 hczg_1);obtain ⟨hczg_0,hczg_1⟩:=cO2 BKg.out;clear hb) | (go_at_call 55;(refine (ga_isNet.calls k A0_0 c0_0 l0_0 A0_1 c0_1 l0_1 true _ HR0.out HC0.out HR1.out HC1.out H1.out).mono ?_);rintro e w2 ⟨rfl,hb⟩;replace HR0:=(cmv HR0 hb);replace HR1:=(cmv HR1 hb);replace HB:=(bmv HB hb);replace BKg:=(kmv hb BKg);(try clear hczg_0 hczg_1);obtain ⟨hczg_0,hczg_1⟩:=cO2 BKg.out;clear hb) | (go_at_call 76;(refine (ga_gates.calls k A0_0 c0_0 l0_0 A0_1 c0_1 l0_1 gs _ HR0.out HC0.out HR1.out HC1.out H2.out).mono ?_);rintro e w8 ⟨v9,rfl,hr9,hb⟩;replace HR0:=(cmv HR0 hb);replace HR1:=(cmv HR1 hb);replace HB:=(bmv HB hb);replace BKg:=(kmv hb BKg);(try clear hczg_0 hczg_1);obtain ⟨hczg_0,hczg_1⟩:=cO2 BKg.out;obtain ⟨Ap,cp,rfl,hlp,hCp⟩:=Kd.R_reads hr9;have HCp:=am hCp;clear hr9 hlp hCp;clear hb) | (go_at_call 75;(refine (ga_shortest.calls Ap gs.length cp _).mono ?_);rintro e w9 ⟨gl,rfl,hbl,hgl,hb⟩;replace HR0:=(cmv HR0 hb);replace HR1:=(cmv HR1 hb);replace HB:=(bmv HB hb);replace BKg:=(kmv hb BKg);replace HCp:=(cmv HCp hb);(try clear hczg_0 hczg_1);obtain ⟨hczg_0,hczg_1⟩:=cO2 BKg.out;have BL:=am hbl;clear hbl hgl;clear hb) | (go_at_call 74;refine (first_calls 110 #[.pointer (some ⟨gl,0,none⟩)] (enters_of Tryz.func110 (by kernel_rfl) rfl) 77 #[.pointer (some ⟨g,0,none⟩)] (enters_of Tryz.func77 (by kernel_rfl) rfl) _ (shortestOf gs) (fun l=>l ∈ shortestOf gs) (ga_surely.f k l0_0 l0_1) r _ (shortest_stops gl Ap cp gs _ _ BL.out HCp.out H5.out (fun y hy=>hy) 8) (fun x W hb hok=>by obtain ⟨b,hb2⟩:=H3.out x.1 hok.1;exact ⟨b,hb2,fewestq.calls k g A0_0 c0_0 l0_0 A0_1 c0_1 l0_1 x.2.1 x.2.2 x.1 b W (blk_below BKg.out hb) (kC HR0.out hb) HC0.out (kC HR1.out hb) HC1.out hok.2.2.1 hok.2.1 hb2⟩) H4.out).mono ?_;rintro e w10 ⟨hres,hb⟩;have hB2:=below_then HB.out HB.out.size hb;have hB3:=HB.out.size;obtain ⟨v0,hv0,hRv⟩:=first_res hres HQ.out hB3;subst hv0;clear hres hb))
   go_ret2
   exact ⟨v0,rfl,hRv,hB2⟩
  | false =>
   rw [hqf rfl] at h
   obtain ⟨rfl,rfl⟩:=Prod.mk.inj h
   clear h hqt hqf
   go_enter Tryz.func34,Tryz.ntmps34
   go_wp2_with (first | ((refine ga_dst (N:=1) rfl ?_);(try (refine ga_guard (by rfl) ?_;dsimp only));refine box_event rfl (N:=1) rfl (cs:=#[.slice A0_0 l0_0.length c0_0,.slice A0_1 l0_1.length c0_1]) (t:=25) ?hr ?_;(case hr=>go_simp;try rfl);intro g hg w1 hbox hb;replace HR0:=(cmv HR0 hb);replace HR1:=(cmv HR1 hb);replace HB:=(bmv HB hb);clear hg;have BKg:=am hbox;clear hbox;(try clear hczg_0 hczg_1);obtain ⟨hczg_0,hczg_1⟩:=cO2 BKg.out;clear hb) | (go_at_call 55;(refine (ga_isNet.calls k A0_0 c0_0 l0_0 A0_1 c0_1 l0_1 true _ HR0.out HC0.out HR1.out HC1.out H1.out).mono ?_);rintro e w2 ⟨rfl,hb⟩;replace HR0:=(cmv HR0 hb);replace HR1:=(cmv HR1 hb);replace HB:=(bmv HB hb);replace BKg:=(kmv hb BKg);(try clear hczg_0 hczg_1);obtain ⟨hczg_0,hczg_1⟩:=cO2 BKg.out;clear hb) | (go_at_call 76;(refine (ga_gates.calls k A0_0 c0_0 l0_0 A0_1 c0_1 l0_1 gs _ HR0.out HC0.out HR1.out HC1.out H2.out).mono ?_);rintro e w8 ⟨v9,rfl,hr9,hb⟩;replace HR0:=(cmv HR0 hb);replace HR1:=(cmv HR1 hb);replace HB:=(bmv HB hb);replace BKg:=(kmv hb BKg);(try clear hczg_0 hczg_1);obtain ⟨hczg_0,hczg_1⟩:=cO2 BKg.out;obtain ⟨Ap,cp,rfl,hlp,hCp⟩:=Kd.R_reads hr9;have HCp:=am hCp;clear hr9 hlp hCp;clear hb) | (go_at_call 75;(refine (ga_shortest.calls Ap gs.length cp _).mono ?_);rintro e w9 ⟨gl,rfl,hbl,hgl,hb⟩;replace HR0:=(cmv HR0 hb);replace HR1:=(cmv HR1 hb);replace HB:=(bmv HB hb);replace BKg:=(kmv hb BKg);replace HCp:=(cmv HCp hb);(try clear hczg_0 hczg_1);obtain ⟨hczg_0,hczg_1⟩:=cO2 BKg.out;have BL:=am hbl;clear hbl hgl;clear hb) | (go_at_call 74;refine (first_calls 110 #[.pointer (some ⟨gl,0,none⟩)] (enters_of Tryz.func110 (by kernel_rfl) rfl) 77 #[.pointer (some ⟨g,0,none⟩)] (enters_of Tryz.func77 (by kernel_rfl) rfl) _ (shortestOf gs) (fun l=>l ∈ shortestOf gs) (ga_surely.f k l0_0 l0_1) r _ (shortest_stops gl Ap cp gs _ _ BL.out HCp.out H5.out (fun y hy=>hy) 8) (fun x W hb hok=>by obtain ⟨b,hb2⟩:=H3.out x.1 hok.1;exact ⟨b,hb2,fewestq.calls k g A0_0 c0_0 l0_0 A0_1 c0_1 l0_1 x.2.1 x.2.2 x.1 b W (blk_below BKg.out hb) (kC HR0.out hb) HC0.out (kC HR1.out hb) HC1.out hok.2.2.1 hok.2.1 hb2⟩) H4.out).mono ?_;rintro e w10 ⟨hres,hb⟩;have hB2:=below_then HB.out HB.out.size hb;have hB3:=HB.out.size;obtain ⟨v0,hv0,hRv⟩:=first_res hres HQ.out hB3;subst hv0;clear hres hb))
   go_ret2
   exact ⟨_,rfl,Kd.R_nil _ _ _ _ _,hB2⟩
def Pred_Moves11 (g : Nat) (q : Int→Option Bool) (w : World) (xs : List Int) : Prop:=∀ (x : Int) (b : Bool) (W : World) ,x ∈ xs→q x = some b→Below w.heap.size w W→
 Calls Tryz.prog 80 #[.int .i64 x,.pointer (some ⟨g,0,none⟩)] W fun e W'=>e = .returned (.bool b)∧Below W.heap.size W W'
theorem idx_Moves11 (g : Nat) (q : Int→Option Bool) (A : Option Addr) (c : Nat) (xs : List Int) (r : Int) (w : World) (hr : Kd.C (Kd.int .i64) w A xs.length xs) (hp : Pred_Moves11 g q w xs) (h : idxM q xs 0 = some r) :
 Calls Tryz.prog 104 #[.slice A xs.length c,.func (.func 80) #[] #[.pointer (some ⟨g,0,none⟩)]] w fun e w'=>e = .returned (.int .i64 r)∧Below w.heap.size w w':=by
 have HR:=Aside0.mk hr
 have HP:=Aside0.mk hp
 have HQ:=Aside0.mk (show idxM q (xs.drop (0 : Int).toNat) 0 = some r from h)
 have hm : xs.length≤9223372036854775807:=Kd.C_max hr
 clear hr hp h
 go_enter Tryz.func104,Tryz.ntmps104
 go_wp2
 go_loopw [5,8] (fun v5 v8 w'=>∃ i : Int,0≤i∧i≤xs.length∧v8 = .int .i64 i∧Aside0 (idxM q (xs.drop i.toNat) i = some r)∧Aside0 (Below w.heap.size w w')) (fun _ v8 _=>xs.length - (intOf v8).toNat)
 case atStart=>exact ⟨0,by omega,by omega,rfl,HQ,⟨Below.refl _ _⟩⟩
 case round =>
  clear HQ
  obtain ⟨i,p1,hi,rfl,HQ,HB⟩:=hrel
  by_cases hlt : i < (xs.length : Int)
  ·obtain ⟨ad,e1,hx0⟩:=Kd.at_int HR.out i p1 hlt
   cases e1
   replace hx0:=(HB.out.cell (wbl hx0)).trans hx0
   rcases idxM_step (0 : Int) p1 hlt HQ.out with ⟨hq,he⟩ | ⟨hq,hn⟩
   ·have H1:=Aside0.mk hq
    have X1:=Aside0.mk (getD_mem (0 : Int) p1 hlt)
    have H2:=Aside0.mk he
    clear hq he
    go_wp2_with (go_at_call 80;refine (HP.out (xs.getD i.toNat (0 : Int)) _ _ X1.out H1.out HB.out).mono ?_;rintro e W' ⟨rfl,hb⟩)
    go_ret
    exact ⟨ret_int_eq H2.out,below_then HB.out HB.out.size hb⟩
   ·have H1:=Aside0.mk hq
    have X1:=Aside0.mk (getD_mem (0 : Int) p1 hlt)
    have H2:=Aside0.mk hn
    clear hq hn
    go_wp2_with (go_at_call 80;refine (HP.out (xs.getD i.toNat (0 : Int)) _ _ X1.out H1.out HB.out).mono ?_;rintro e W' ⟨rfl,hb⟩)
    go_roundw
    case rel=>exact ⟨i + 1,by omega,by omega,by go_num,H2,⟨below_then HB.out HB.out.size hb⟩⟩
    case measure=>simp [intOf];omega
  ·go_wp2
   go_ret
   exact ⟨ret_int_eq (idxM_end (by omega) HQ.out),HB.out⟩
theorem any_Moves11 (g : Nat) (q : Int→Option Bool) (A : Option Addr) (c : Nat) (xs : List Int) (r : Bool) (w : World) (hr : Kd.C (Kd.int .i64) w A xs.length xs) (hp : Pred_Moves11 g q w xs) (h : anyM q xs = some r) :
 Calls Tryz.prog 57 #[.slice A xs.length c,.func (.func 80) #[] #[.pointer (some ⟨g,0,none⟩)]] w fun e w'=>e = .returned (.bool r)∧Below w.heap.size w w':=by
 obtain ⟨j,hj,hd⟩:=idxM_of_anyM q xs 0 r (by omega) h
 have H1:=Aside0.mk hj
 have H2:=Aside0.mk hd
 have HR:=Aside0.mk hr
 have HP:=Aside0.mk hp
 clear hr hp h hj hd
 go_enter Tryz.func57,Tryz.ntmps57
 go_wp2_with (go_at_call 104;refine (idx_Moves11 g q _ _ xs j _ HR.out HP.out H1.out).mono ?_;rintro e W' ⟨rfl,hb⟩)
 go_ret
 exact ⟨ret_bool_eq H2.out,hb⟩
theorem moves11.calls (k g : Nat) (A1 : Option Addr) (c1 : Nat) (l1 : List Int) (x : Int) (r : Bool) (w : World) (hb : w.heap[g]? = some (.cells #[.slice A1 l1.length c1] 26 (0,0))) (hr1 : Kd.C (Kd.int .i64) w A1 l1.length l1) (hc1 : l1.length≤c1) (h : sl_Contains_int_int.f k l1 x = some r) :
 Calls Tryz.prog 80 #[.int .i64 x,.pointer (some ⟨g,0,none⟩)] w fun e w'=>e = .returned (.bool r)∧Below w.heap.size w w':=by
 have c0:=(blk_cell hb 0).trans rfl
 have HC:=am (sl_Contains_int_int.calls k A1 c1 l1 x r w hr1 hc1 h)
 clear h hb hr1 hc1
 go_enter Tryz.func80,Tryz.ntmps80
 go_wp2_with (go_at_call 81;refine (HC.out).mono ?_;rintro e w1 ⟨rfl,hd⟩;have hb:=hd.below;clear hd)
 go_ret
 exact ⟨rfl,hb⟩
def movesq.f (k : Nat) (l0_0 : List S37) (l0_1 : List S65) (l1 l2 l : List Int) : Option Bool:=(ga_moved.f k l0_0 l0_1 l1 l).bind fun now=>(anyM (sl_Contains_int_int.f k now) l2).bind fun t=>if t = true then some false else ga_surely.f k l0_0 l0_1 now
theorem movesq.calls (k gn go gu : Nat) (A0_0 : Option Addr) (c0_0 : Nat) (l0_0 : List S37) (A0_1 : Option Addr) (c0_1 : Nat) (l0_1 : List S65) (A1 : Option Addr) (c1 : Nat) (l1 : List Int) (A2 : Option Addr) (c2 : Nat) (l2 : List Int) (A3 : Option Addr) (c3 : Nat) (l3 : List Int) (r : Bool) (w : World) (hbn : w.heap[gn]? = some (.cells #[.slice A0_0 l0_0.length c0_0,.slice A0_1 l0_1.length c0_1] 25 (0,0))) (hbo : w.heap[go]? = some (.cells #[.slice A1 l1.length c1] 26 (0,0))) (hbu : w.heap[gu]? = some (.cells #[.slice A2 l2.length c2] 26 (0,0))) (hr0_0 : Kd.C k37 w A0_0 l0_0.length l0_0) (hc0_0 : l0_0.length≤c0_0) (hr0_1 : Kd.C k65 w A0_1 l0_1.length l0_1) (hc0_1 : l0_1.length≤c0_1) (hr1 : Kd.C (Kd.int .i64) w A1 l1.length l1) (hc1 : l1.length≤c1) (hr2 : Kd.C (Kd.int .i64) w A2 l2.length l2) (hc2 : l2.length≤c2) (hr3 : Kd.C (Kd.int .i64) w A3 l3.length l3) (hc3 : l3.length≤c3) (h : movesq.f k l0_0 l0_1 l1 l2 l3 = some r) :
 Calls Tryz.prog 78 #[.slice A3 l3.length c3,.pointer (some ⟨gn,0,none⟩),.pointer (some ⟨go,0,none⟩),.pointer (some ⟨gu,0,none⟩)] w fun e w'=>e = .returned (.bool r)∧Below w.heap.size w w':=by
 have hun:=Tryz.underlying25
 have hmf : ∀ (fn : Fn) (first cap : Array Value) (w : World),(Instr.makeFunc fn first cap).run Tryz.prog w = .ok (.func fn first cap) w:=fun _ _ _ _=>rfl
 have HG:=am (show go ≠ gu∨True from .inr trivial)
 clear HG
 have HR0:=am hr0_0
 have HC0:=am hc0_0
 have HR1:=am hr0_1
 have HC1:=am hc0_1
 have HB:=am (Below.refl w.heap.size w)
 clear hr0_0 hc0_0 hr0_1 hc0_1
 have HO1:=am hr1
 have HOC1:=am hc1
 have HO2:=am hr2
 have HOC2:=am hc2
 clear hr1 hc1 hr2 hc2
 have HO3:=am hr3
 have HOC3:=am hc3
 have BKgn:=am hbn
 have BKgo:=am hbo
 have BKgu:=am hbu
 clear hr3 hc3 hbn hbo hbu
 unfold movesq.f at h
 obtain ⟨now,hnow,h⟩:=obm h
 obtain ⟨t,ht,h⟩:=obm h
 have H1:=am hnow
 have H2:=am ht
 clear hnow ht
 cases t with
 | true =>
  rw [if_pos rfl] at h
  obtain rfl:=Option.some.inj h
  clear h
  have HR00:=HR0;have HR10:=HR1;have HO10:=HO1;have HO20:=HO2;have HO30:=HO3
  (try clear hczgn_0 hfzgn_0);have hczgn_0 : w.cell? ⟨gn,0,none⟩ = some (.slice A0_0 l0_0.length c0_0):=(blk_cell BKgn.out 0).trans rfl;have hfzgn_0:=blk_frozen BKgn.out 0
  (try clear hczgn_1 hfzgn_1);have hczgn_1 : w.cell? ⟨gn,1,none⟩ = some (.slice A0_1 l0_1.length c0_1):=(blk_cell BKgn.out 1).trans rfl;have hfzgn_1:=blk_frozen BKgn.out 1
  (try clear hczgo_0 hfzgo_0);have hczgo_0 : w.cell? ⟨go,0,none⟩ = some (.slice A1 l1.length c1):=(blk_cell BKgo.out 0).trans rfl;have hfzgo_0:=blk_frozen BKgo.out 0
  (try clear hczgu_0 hfzgu_0);have hczgu_0 : w.cell? ⟨gu,0,none⟩ = some (.slice A2 l2.length c2):=(blk_cell BKgu.out 0).trans rfl;have hfzgu_0:=blk_frozen BKgu.out 0
  go_enter Tryz.func78,Tryz.ntmps78
  go_wp2_with (first | (go_at_call 79;(refine (ga_moved.calls k A0_0 c0_0 l0_0 A0_1 c0_1 l0_1 A1 c1 l1 A3 c3 l3 now _ HR0.out HC0.out HR1.out HC1.out HO1.out HOC1.out HO3.out HOC3.out H1.out).mono ?_);rintro e w2 ⟨v9,rfl,hr9,hb⟩;replace HR0:=(cmv HR0 hb);replace HR1:=(cmv HR1 hb);replace HB:=(bmv HB hb);replace HO1:=(cmv HO1 hb);replace HO2:=(cmv HO2 hb);replace HO3:=(cmv HO3 hb);replace BKgn:=(kmv hb BKgn);replace BKgo:=(kmv hb BKgo);replace BKgu:=(kmv hb BKgu);(try clear hczgn_0 hfzgn_0);have hczgn_0:=cO1 BKgn.out;(try clear hczgn_1 hfzgn_1);have hczgn_1 : w2.cell? ⟨gn,1,none⟩ = some (.slice A0_1 l0_1.length c0_1):=(blk_cell BKgn.out 1).trans rfl;(try clear hczgo_0 hfzgo_0);have hczgo_0:=cO1 BKgo.out;(try clear hczgu_0 hfzgu_0);have hczgu_0:=cO1 BKgu.out;obtain ⟨An,cn,rfl,hln,hCn⟩:=Kd.R_reads hr9;have HCn:=am hCn;have HLn:=am hln;clear hr9 hln hCn;clear hb) | ((refine ga_dst (N:=6) rfl ?_);(try (refine ga_guard (by rfl) ?_;dsimp only));refine box_event rfl (N:=6) rfl (cs:=#[.slice none 0 0]) (t:=26) ?hr ?_;(case hr=>go_simp;try rfl);intro gw hg w3 hbox hb;have HNgn_gw:=am (show gn ≠ gw by have:=blk_lt BKgn.out;omega);have HNgo_gw:=am (show go ≠ gw by have:=blk_lt BKgo.out;omega);have HNgu_gw:=am (show gu ≠ gw by have:=blk_lt BKgu.out;omega);have HGW:=am (show w.heap.size≤gw by rw [hg];exact HB.out.size);replace HR0:=(cmv HR0 hb);replace HR1:=(cmv HR1 hb);replace HB:=(bmv HB hb);replace HO1:=(cmv HO1 hb);replace HO2:=(cmv HO2 hb);replace HO3:=(cmv HO3 hb);replace BKgn:=(kmv hb BKgn);replace BKgo:=(kmv hb BKgo);replace BKgu:=(kmv hb BKgu);replace HCn:=(cmv HCn hb);clear hg;have BKgw:=am hbox;clear hbox;(try clear hczgn_0 hfzgn_0);have hczgn_0:=cO1 BKgn.out;(try clear hczgn_1 hfzgn_1);have hczgn_1 : w3.cell? ⟨gn,1,none⟩ = some (.slice A0_1 l0_1.length c0_1):=(blk_cell BKgn.out 1).trans rfl;(try clear hczgo_0 hfzgo_0);have hczgo_0:=cO1 BKgo.out;(try clear hczgu_0 hfzgu_0);have hczgu_0:=cO1 BKgu.out;(try clear hczgw_0 hfzgw_0);have hczgw_0:=cO1 BKgw.out;have hfzgw_0:=blk_frozen BKgw.out 0;clear hb) | ((with_reducible refine ga_store (t:=26) (p:=6) rfl ?_);have hgw:=grown_set (W:=w3) (g:=gw) (i:=0) (v:=.slice An now.length cn);have hbw:=blkF_set1 (v:=.slice An now.length cn) BKgw.out;have m1:=blk_grown1 BKgn.out hgw (fun r e=>by cases e;exact HNgn_gw.out.symm);have m2:=blk_grown1 BKgo.out hgw (fun r e=>by cases e;exact HNgo_gw.out.symm);have m3:=blk_grown1 BKgu.out hgw (fun r e=>by cases e;exact HNgu_gw.out.symm);have m4:=HB.out.grown hgw HB.out.size (fun r e=>by cases e;exact HGW.out);refine skip_abs (fun W'=>W'.heap[gw]? = some (.cells #[.slice An now.length cn] 26 (0,0))∧W'.heap[gn]? = some (.cells #[.slice A0_0 l0_0.length c0_0,.slice A0_1 l0_1.length c0_1] 25 (0,0))∧W'.heap[go]? = some (.cells #[.slice A1 l1.length c1] 26 (0,0))∧W'.heap[gu]? = some (.cells #[.slice A2 l2.length c2] 26 (0,0))∧Below w.heap.size w W'∧(Kd.int .i64).C W' An now.length now) (W1:=w3.setCell ⟨gw,0,none⟩ (.slice An now.length cn)) (by rfl) (by rfl) ?hrun ⟨hbw,m1,m2,m3,m4,C_int_set BKgw.out (fun p e=>by cases e) HCn.out⟩ ?_;(case hrun=>first | (go_simp;done) | (go_simp;rfl));clear hgw hbw m1 m2 m3 m4 HCn BKgw BKgn BKgo BKgu HB;rintro w4 ⟨p1,p2,p3,p4,p5,p6⟩;have BKgw:=am p1;have BKgn:=am p2;have BKgo:=am p3;have BKgu:=am p4;have HB:=am p5;have HCn:=am p6;clear p1 p2 p3 p4 p5 p6 HR0 HR1 HO1 HO2 HO3;have HR0:=am (kC HR00.out HB.out);have HR1:=am (kC HR10.out HB.out);have HO1:=am (kC HO10.out HB.out);have HO2:=am (kC HO20.out HB.out);have HO3:=am (kC HO30.out HB.out);(try clear hczgn_0 hfzgn_0);have hczgn_0:=cO1 BKgn.out;(try clear hczgn_1 hfzgn_1);have hczgn_1 : w4.cell? ⟨gn,1,none⟩ = some (.slice A0_1 l0_1.length c0_1):=(blk_cell BKgn.out 1).trans rfl;(try clear hczgo_0 hfzgo_0);have hczgo_0:=cO1 BKgo.out;(try clear hczgu_0 hfzgu_0);have hczgu_0:=cO1 BKgu.out;(try clear hczgw_0 hfzgw_0);have hczgw_0:=cO1 BKgw.out;have hfzgw_0:=blk_frozen BKgw.out 0) | (go_at_call 57;refine (any_Moves11 gw (sl_Contains_int_int.f k now) A2 c2 l2 true _ HO2.out (fun x b W hx hq hb=>moves11.calls k gw An cn now x b W (blk_below BKgw.out hb) (kC HCn.out hb) HLn.out hq) H2.out).mono ?_;rintro e w5 ⟨rfl,hb⟩;replace HR0:=(cmv HR0 hb);replace HR1:=(cmv HR1 hb);replace HB:=(bmv HB hb);replace HO1:=(cmv HO1 hb);replace HO2:=(cmv HO2 hb);replace HO3:=(cmv HO3 hb);replace BKgn:=(kmv hb BKgn);replace BKgo:=(kmv hb BKgo);replace BKgu:=(kmv hb BKgu);replace HCn:=(cmv HCn hb);replace BKgw:=(kmv hb BKgw);(try clear hczgn_0 hfzgn_0);have hczgn_0:=cO1 BKgn.out;(try clear hczgn_1 hfzgn_1);have hczgn_1 : w5.cell? ⟨gn,1,none⟩ = some (.slice A0_1 l0_1.length c0_1):=(blk_cell BKgn.out 1).trans rfl;(try clear hczgo_0 hfzgo_0);have hczgo_0:=cO1 BKgo.out;(try clear hczgu_0 hfzgu_0);have hczgu_0:=cO1 BKgu.out;(try clear hczgw_0 hfzgw_0);have hczgw_0:=cO1 BKgw.out;have hfzgw_0:=blk_frozen BKgw.out 0;clear hb))
  go_ret
  exact ⟨rfl,HB.out⟩
 | false =>
  rw [if_neg (by decide)] at h
  have H3:=am h
  clear h
  have HR00:=HR0;have HR10:=HR1;have HO10:=HO1;have HO20:=HO2;have HO30:=HO3
  (try clear hczgn_0 hfzgn_0);have hczgn_0 : w.cell? ⟨gn,0,none⟩ = some (.slice A0_0 l0_0.length c0_0):=(blk_cell BKgn.out 0).trans rfl;have hfzgn_0:=blk_frozen BKgn.out 0
  (try clear hczgn_1 hfzgn_1);have hczgn_1 : w.cell? ⟨gn,1,none⟩ = some (.slice A0_1 l0_1.length c0_1):=(blk_cell BKgn.out 1).trans rfl;have hfzgn_1:=blk_frozen BKgn.out 1
  (try clear hczgo_0 hfzgo_0);have hczgo_0 : w.cell? ⟨go,0,none⟩ = some (.slice A1 l1.length c1):=(blk_cell BKgo.out 0).trans rfl;have hfzgo_0:=blk_frozen BKgo.out 0
  (try clear hczgu_0 hfzgu_0);have hczgu_0 : w.cell? ⟨gu,0,none⟩ = some (.slice A2 l2.length c2):=(blk_cell BKgu.out 0).trans rfl;have hfzgu_0:=blk_frozen BKgu.out 0
  go_enter Tryz.func78,Tryz.ntmps78
  go_wp2_with (first | (go_at_call 79;(refine (ga_moved.calls k A0_0 c0_0 l0_0 A0_1 c0_1 l0_1 A1 c1 l1 A3 c3 l3 now _ HR0.out HC0.out HR1.out HC1.out HO1.out HOC1.out HO3.out HOC3.out H1.out).mono ?_);rintro e w2 ⟨v9,rfl,hr9,hb⟩;replace HR0:=(cmv HR0 hb);replace HR1:=(cmv HR1 hb);replace HB:=(bmv HB hb);replace HO1:=(cmv HO1 hb);replace HO2:=(cmv HO2 hb);replace HO3:=(cmv HO3 hb);replace BKgn:=(kmv hb BKgn);replace BKgo:=(kmv hb BKgo);replace BKgu:=(kmv hb BKgu);(try clear hczgn_0 hfzgn_0);have hczgn_0:=cO1 BKgn.out;(try clear hczgn_1 hfzgn_1);have hczgn_1 : w2.cell? ⟨gn,1,none⟩ = some (.slice A0_1 l0_1.length c0_1):=(blk_cell BKgn.out 1).trans rfl;(try clear hczgo_0 hfzgo_0);have hczgo_0:=cO1 BKgo.out;(try clear hczgu_0 hfzgu_0);have hczgu_0:=cO1 BKgu.out;obtain ⟨An,cn,rfl,hln,hCn⟩:=Kd.R_reads hr9;have HCn:=am hCn;have HLn:=am hln;clear hr9 hln hCn;clear hb) | ((refine ga_dst (N:=6) rfl ?_);(try (refine ga_guard (by rfl) ?_;dsimp only));refine box_event rfl (N:=6) rfl (cs:=#[.slice none 0 0]) (t:=26) ?hr ?_;(case hr=>go_simp;try rfl);intro gw hg w3 hbox hb;have HNgn_gw:=am (show gn ≠ gw by have:=blk_lt BKgn.out;omega);have HNgo_gw:=am (show go ≠ gw by have:=blk_lt BKgo.out;omega);have HNgu_gw:=am (show gu ≠ gw by have:=blk_lt BKgu.out;omega);have HGW:=am (show w.heap.size≤gw by rw [hg];exact HB.out.size);replace HR0:=(cmv HR0 hb);replace HR1:=(cmv HR1 hb);replace HB:=(bmv HB hb);replace HO1:=(cmv HO1 hb);replace HO2:=(cmv HO2 hb);replace HO3:=(cmv HO3 hb);replace BKgn:=(kmv hb BKgn);replace BKgo:=(kmv hb BKgo);replace BKgu:=(kmv hb BKgu);replace HCn:=(cmv HCn hb);clear hg;have BKgw:=am hbox;clear hbox;(try clear hczgn_0 hfzgn_0);have hczgn_0:=cO1 BKgn.out;(try clear hczgn_1 hfzgn_1);have hczgn_1 : w3.cell? ⟨gn,1,none⟩ = some (.slice A0_1 l0_1.length c0_1):=(blk_cell BKgn.out 1).trans rfl;(try clear hczgo_0 hfzgo_0);have hczgo_0:=cO1 BKgo.out;(try clear hczgu_0 hfzgu_0);have hczgu_0:=cO1 BKgu.out;(try clear hczgw_0 hfzgw_0);have hczgw_0:=cO1 BKgw.out;have hfzgw_0:=blk_frozen BKgw.out 0;clear hb) | ((with_reducible refine ga_store (t:=26) (p:=6) rfl ?_);have hgw:=grown_set (W:=w3) (g:=gw) (i:=0) (v:=.slice An now.length cn);have hbw:=blkF_set1 (v:=.slice An now.length cn) BKgw.out;have m1:=blk_grown1 BKgn.out hgw (fun r e=>by cases e;exact HNgn_gw.out.symm);have m2:=blk_grown1 BKgo.out hgw (fun r e=>by cases e;exact HNgo_gw.out.symm);have m3:=blk_grown1 BKgu.out hgw (fun r e=>by cases e;exact HNgu_gw.out.symm);have m4:=HB.out.grown hgw HB.out.size (fun r e=>by cases e;exact HGW.out);refine skip_abs (fun W'=>W'.heap[gw]? = some (.cells #[.slice An now.length cn] 26 (0,0))∧W'.heap[gn]? = some (.cells #[.slice A0_0 l0_0.length c0_0,.slice A0_1 l0_1.length c0_1] 25 (0,0))∧W'.heap[go]? = some (.cells #[.slice A1 l1.length c1] 26 (0,0))∧W'.heap[gu]? = some (.cells #[.slice A2 l2.length c2] 26 (0,0))∧Below w.heap.size w W'∧(Kd.int .i64).C W' An now.length now) (W1:=w3.setCell ⟨gw,0,none⟩ (.slice An now.length cn)) (by rfl) (by rfl) ?hrun ⟨hbw,m1,m2,m3,m4,C_int_set BKgw.out (fun p e=>by cases e) HCn.out⟩ ?_;(case hrun=>first | (go_simp;done) | (go_simp;rfl));clear hgw hbw m1 m2 m3 m4 HCn BKgw BKgn BKgo BKgu HB;rintro w4 ⟨p1,p2,p3,p4,p5,p6⟩;have BKgw:=am p1;have BKgn:=am p2;have BKgo:=am p3;have BKgu:=am p4;have HB:=am p5;have HCn:=am p6;clear p1 p2 p3 p4 p5 p6 HR0 HR1 HO1 HO2 HO3;have HR0:=am (kC HR00.out HB.out);have HR1:=am (kC HR10.out HB.out);have HO1:=am (kC HO10.out HB.out);have HO2:=am (kC HO20.out HB.out);have HO3:=am (kC HO30.out HB.out);(try clear hczgn_0 hfzgn_0);have hczgn_0:=cO1 BKgn.out;(try clear hczgn_1 hfzgn_1);have hczgn_1 : w4.cell? ⟨gn,1,none⟩ = some (.slice A0_1 l0_1.length c0_1):=(blk_cell BKgn.out 1).trans rfl;(try clear hczgo_0 hfzgo_0);have hczgo_0:=cO1 BKgo.out;(try clear hczgu_0 hfzgu_0);have hczgu_0:=cO1 BKgu.out;(try clear hczgw_0 hfzgw_0);have hczgw_0:=cO1 BKgw.out;have hfzgw_0:=blk_frozen BKgw.out 0) | (go_at_call 57;refine (any_Moves11 gw (sl_Contains_int_int.f k now) A2 c2 l2 false _ HO2.out (fun x b W hx hq hb=>moves11.calls k gw An cn now x b W (blk_below BKgw.out hb) (kC HCn.out hb) HLn.out hq) H2.out).mono ?_;rintro e w5 ⟨rfl,hb⟩;replace HR0:=(cmv HR0 hb);replace HR1:=(cmv HR1 hb);replace HB:=(bmv HB hb);replace HO1:=(cmv HO1 hb);replace HO2:=(cmv HO2 hb);replace HO3:=(cmv HO3 hb);replace BKgn:=(kmv hb BKgn);replace BKgo:=(kmv hb BKgo);replace BKgu:=(kmv hb BKgu);replace HCn:=(cmv HCn hb);replace BKgw:=(kmv hb BKgw);(try clear hczgn_0 hfzgn_0);have hczgn_0:=cO1 BKgn.out;(try clear hczgn_1 hfzgn_1);have hczgn_1 : w5.cell? ⟨gn,1,none⟩ = some (.slice A0_1 l0_1.length c0_1):=(blk_cell BKgn.out 1).trans rfl;(try clear hczgo_0 hfzgo_0);have hczgo_0:=cO1 BKgo.out;(try clear hczgu_0 hfzgu_0);have hczgu_0:=cO1 BKgu.out;(try clear hczgw_0 hfzgw_0);have hczgw_0:=cO1 BKgw.out;have hfzgw_0:=blk_frozen BKgw.out 0;clear hb) | (go_at_call 65;(refine (ga_surely.calls k A0_0 c0_0 l0_0 A0_1 c0_1 l0_1 An cn now r _ HR0.out HC0.out HR1.out HC1.out HCn.out HLn.out H3.out).mono ?_);rintro e w6 ⟨rfl,hb⟩;replace HR0:=(cmv HR0 hb);replace HR1:=(cmv HR1 hb);replace HB:=(bmv HB hb);replace HO1:=(cmv HO1 hb);replace HO2:=(cmv HO2 hb);replace HO3:=(cmv HO3 hb);replace BKgn:=(kmv hb BKgn);replace BKgo:=(kmv hb BKgo);replace BKgu:=(kmv hb BKgu);replace HCn:=(cmv HCn hb);replace BKgw:=(kmv hb BKgw);(try clear hczgn_0 hfzgn_0);have hczgn_0:=cO1 BKgn.out;(try clear hczgn_1 hfzgn_1);have hczgn_1 : w6.cell? ⟨gn,1,none⟩ = some (.slice A0_1 l0_1.length c0_1):=(blk_cell BKgn.out 1).trans rfl;(try clear hczgo_0 hfzgo_0);have hczgo_0:=cO1 BKgo.out;(try clear hczgu_0 hfzgu_0);have hczgu_0:=cO1 BKgu.out;(try clear hczgw_0 hfzgw_0);have hczgw_0:=cO1 BKgw.out;have hfzgw_0:=blk_frozen BKgw.out 0;clear hb))
  go_ret
  exact ⟨rfl,HB.out⟩
def ga_Moves.f (k : Nat) (l0_0 : List S37) (l0_1 : List S65) (l1 l2 : List Int) : Option (List Int × Int):=(ga_isNet.f k l0_0 l0_1).bind fun t1=>if t1 = true then (ga_areGates.f k l0_0 l0_1 l1).bind fun t2=>(if t2 = true then (ga_areGates.f k l0_0 l0_1 l2).bind fun t3=>(if t3 = true then (ga_gates.f k l0_0 l0_1).bind fun gs=>(if gs.length < 1000000 then (firstT (movesq.f k l0_0 l0_1 l1 l2) (shortestOf gs)).bind fun r=>some (firstE r) else none) else some ([],2)) else some ([],2)) else some ([],2)
theorem ga_Moves.calls (k : Nat) (A0_0 : Option Addr) (c0_0 : Nat) (l0_0 : List S37) (A0_1 : Option Addr) (c0_1 : Nat) (l0_1 : List S65) (A1 : Option Addr) (c1 : Nat) (l1 : List Int) (A2 : Option Addr) (c2 : Nat) (l2 : List Int) (r1 : List Int) (r2 : Int) (w : World) (hr0_0 : Kd.C k37 w A0_0 l0_0.length l0_0) (hc0_0 : l0_0.length≤c0_0) (hr0_1 : Kd.C k65 w A0_1 l0_1.length l0_1) (hc0_1 : l0_1.length≤c0_1) (hr1 : Kd.C (Kd.int .i64) w A1 l1.length l1) (hc1 : l1.length≤c1) (hr2 : Kd.C (Kd.int .i64) w A2 l2.length l2) (hc2 : l2.length≤c2) (h : ga_Moves.f k l0_0 l0_1 l1 l2 = some (r1,r2)) :
 Calls Tryz.prog 35 #[.agg #[.slice A0_0 l0_0.length c0_0,.slice A0_1 l0_1.length c0_1],.slice A1 l1.length c1,.slice A2 l2.length c2] w fun e w'=>∃ v0_ : Value,e = .returned (.tuple #[v0_,.int .i64 r2])∧Kd.R (Kd.int .i64) 3 w' w.heap.size (fun _=>True) v0_ r1∧Below w.heap.size w w':=by
 have hun:=Tryz.underlying25
 have hmf : ∀ (fn : Fn) (first cap : Array Value) (w : World),(Instr.makeFunc fn first cap).run Tryz.prog w = .ok (.func fn first cap) w:=fun _ _ _ _=>rfl
 have HR0:=am hr0_0
 have HC0:=am hc0_0
 have HR1:=am hr0_1
 have HC1:=am hc0_1
 have HB:=am (Below.refl w.heap.size w)
 clear hr0_0 hc0_0 hr0_1 hc0_1
 have HO1:=am hr1
 have HOC1:=am hc1
 have HO2:=am hr2
 have HOC2:=am hc2
 clear hr1 hc1 hr2 hc2
 unfold ga_Moves.f at h
 obtain ⟨t,ht,h⟩:=obm h
 have H1:=am ht
 clear ht
 cases t with
 | false =>
  rw [if_neg (by decide)] at h
  have h:=Option.some.inj h
  obtain ⟨rfl,rfl⟩:=Prod.mk.inj h
  clear h
  go_enter Tryz.func35,Tryz.ntmps35
  go_wp2_with (first | ((refine ga_dst (N:=3) rfl ?_);(try (refine ga_guard (by rfl) ?_;dsimp only));refine box_event rfl (N:=3) rfl (cs:=#[.slice A0_0 l0_0.length c0_0,.slice A0_1 l0_1.length c0_1]) (t:=25) ?hr ?_;(case hr=>go_simp;try rfl);intro g hg w1 hbox hb;replace HR0:=(cmv HR0 hb);replace HR1:=(cmv HR1 hb);replace HB:=(bmv HB hb);replace HO1:=(cmv HO1 hb);replace HO2:=(cmv HO2 hb);clear hg;have BKg:=am hbox;clear hbox;(try clear hczg_0 hfzg_0);have hczg_0:=cO1 BKg.out;(try clear hczg_1 hfzg_1);have hczg_1 : w1.cell? ⟨g,1,none⟩ = some (.slice A0_1 l0_1.length c0_1):=(blk_cell BKg.out 1).trans rfl;clear hb) | ((refine ga_dst (N:=4) rfl ?_);(try (refine ga_guard (by rfl) ?_;dsimp only));refine box_event rfl (N:=4) rfl (cs:=#[.slice A1 l1.length c1]) (t:=26) ?hr ?_;(case hr=>go_simp;try rfl);intro go hg w2 hbox hb;replace HR0:=(cmv HR0 hb);replace HR1:=(cmv HR1 hb);replace HB:=(bmv HB hb);replace HO1:=(cmv HO1 hb);replace HO2:=(cmv HO2 hb);replace BKg:=(kmv hb BKg);clear hg;have BKgo:=am hbox;clear hbox;(try clear hczg_0 hfzg_0);have hczg_0:=cO1 BKg.out;(try clear hczg_1 hfzg_1);have hczg_1 : w2.cell? ⟨g,1,none⟩ = some (.slice A0_1 l0_1.length c0_1):=(blk_cell BKg.out 1).trans rfl;(try clear hczgo_0 hfzgo_0);have hczgo_0:=cO1 BKgo.out;clear hb) | ((refine ga_dst (N:=5) rfl ?_);(try (refine ga_guard (by rfl) ?_;dsimp only));refine box_event rfl (N:=5) rfl (cs:=#[.slice A2 l2.length c2]) (t:=26) ?hr ?_;(case hr=>go_simp;try rfl);intro gu hg w3 hbox hb;replace HR0:=(cmv HR0 hb);replace HR1:=(cmv HR1 hb);replace HB:=(bmv HB hb);replace HO1:=(cmv HO1 hb);replace HO2:=(cmv HO2 hb);replace BKg:=(kmv hb BKg);replace BKgo:=(kmv hb BKgo);clear hg;have BKgu:=am hbox;clear hbox;(try clear hczg_0 hfzg_0);have hczg_0:=cO1 BKg.out;(try clear hczg_1 hfzg_1);have hczg_1 : w3.cell? ⟨g,1,none⟩ = some (.slice A0_1 l0_1.length c0_1):=(blk_cell BKg.out 1).trans rfl;(try clear hczgo_0 hfzgo_0);have hczgo_0:=cO1 BKgo.out;(try clear hczgu_0 hfzgu_0);have hczgu_0:=cO1 BKgu.out;clear hb) | (go_at_call 55;(refine (ga_isNet.calls k A0_0 c0_0 l0_0 A0_1 c0_1 l0_1 false _ HR0.out HC0.out HR1.out HC1.out H1.out).mono ?_);rintro e w4 ⟨rfl,hb⟩;replace HR0:=(cmv HR0 hb);replace HR1:=(cmv HR1 hb);replace HB:=(bmv HB hb);replace HO1:=(cmv HO1 hb);replace HO2:=(cmv HO2 hb);replace BKg:=(kmv hb BKg);replace BKgo:=(kmv hb BKgo);replace BKgu:=(kmv hb BKgu);(try clear hczg_0 hfzg_0);have hczg_0:=cO1 BKg.out;(try clear hczg_1 hfzg_1);have hczg_1 : w4.cell? ⟨g,1,none⟩ = some (.slice A0_1 l0_1.length c0_1):=(blk_cell BKg.out 1).trans rfl;(try clear hczgo_0 hfzgo_0);have hczgo_0:=cO1 BKgo.out;(try clear hczgu_0 hfzgu_0);have hczgu_0:=cO1 BKgu.out;clear hb))
  go_ret2
  exact ⟨_,rfl,Kd.R_nil _ _ _ _ _,HB.out⟩
 | true =>
  rw [if_pos rfl] at h
  obtain ⟨t,ht,h⟩:=obm h
  have H6:=am ht
  clear ht
  cases t with
  | false =>
   rw [if_neg (by decide)] at h
   have h:=Option.some.inj h
   obtain ⟨rfl,rfl⟩:=Prod.mk.inj h
   clear h
   go_enter Tryz.func35,Tryz.ntmps35
   go_wp2_with (first | ((refine ga_dst (N:=3) rfl ?_);(try (refine ga_guard (by rfl) ?_;dsimp only));refine box_event rfl (N:=3) rfl (cs:=#[.slice A0_0 l0_0.length c0_0,.slice A0_1 l0_1.length c0_1]) (t:=25) ?hr ?_;(case hr=>go_simp;try rfl);intro g hg w1 hbox hb;replace HR0:=(cmv HR0 hb);replace HR1:=(cmv HR1 hb);replace HB:=(bmv HB hb);replace HO1:=(cmv HO1 hb);replace HO2:=(cmv HO2 hb);clear hg;have BKg:=am hbox;clear hbox;(try clear hczg_0 hfzg_0);have hczg_0:=cO1 BKg.out;(try clear hczg_1 hfzg_1);have hczg_1 : w1.cell? ⟨g,1,none⟩ = some (.slice A0_1 l0_1.length c0_1):=(blk_cell BKg.out 1).trans rfl;clear hb) | ((refine ga_dst (N:=4) rfl ?_);(try (refine ga_guard (by rfl) ?_;dsimp only));refine box_event rfl (N:=4) rfl (cs:=#[.slice A1 l1.length c1]) (t:=26) ?hr ?_;(case hr=>go_simp;try rfl);intro go hg w2 hbox hb;replace HR0:=(cmv HR0 hb);replace HR1:=(cmv HR1 hb);replace HB:=(bmv HB hb);replace HO1:=(cmv HO1 hb);replace HO2:=(cmv HO2 hb);replace BKg:=(kmv hb BKg);clear hg;have BKgo:=am hbox;clear hbox;(try clear hczg_0 hfzg_0);have hczg_0:=cO1 BKg.out;(try clear hczg_1 hfzg_1);have hczg_1 : w2.cell? ⟨g,1,none⟩ = some (.slice A0_1 l0_1.length c0_1):=(blk_cell BKg.out 1).trans rfl;(try clear hczgo_0 hfzgo_0);have hczgo_0:=cO1 BKgo.out;clear hb) | ((refine ga_dst (N:=5) rfl ?_);(try (refine ga_guard (by rfl) ?_;dsimp only));refine box_event rfl (N:=5) rfl (cs:=#[.slice A2 l2.length c2]) (t:=26) ?hr ?_;(case hr=>go_simp;try rfl);intro gu hg w3 hbox hb;replace HR0:=(cmv HR0 hb);replace HR1:=(cmv HR1 hb);replace HB:=(bmv HB hb);replace HO1:=(cmv HO1 hb);replace HO2:=(cmv HO2 hb);replace BKg:=(kmv hb BKg);replace BKgo:=(kmv hb BKgo);clear hg;have BKgu:=am hbox;clear hbox;(try clear hczg_0 hfzg_0);have hczg_0:=cO1 BKg.out;(try clear hczg_1 hfzg_1);have hczg_1 : w3.cell? ⟨g,1,none⟩ = some (.slice A0_1 l0_1.length c0_1):=(blk_cell BKg.out 1).trans rfl;(try clear hczgo_0 hfzgo_0);have hczgo_0:=cO1 BKgo.out;(try clear hczgu_0 hfzgu_0);have hczgu_0:=cO1 BKgu.out;clear hb) | (go_at_call 55;(refine (ga_isNet.calls k A0_0 c0_0 l0_0 A0_1 c0_1 l0_1 true _ HR0.out HC0.out HR1.out HC1.out H1.out).mono ?_);rintro e w4 ⟨rfl,hb⟩;replace HR0:=(cmv HR0 hb);replace HR1:=(cmv HR1 hb);replace HB:=(bmv HB hb);replace HO1:=(cmv HO1 hb);replace HO2:=(cmv HO2 hb);replace BKg:=(kmv hb BKg);replace BKgo:=(kmv hb BKgo);replace BKgu:=(kmv hb BKgu);(try clear hczg_0 hfzg_0);have hczg_0:=cO1 BKg.out;(try clear hczg_1 hfzg_1);have hczg_1 : w4.cell? ⟨g,1,none⟩ = some (.slice A0_1 l0_1.length c0_1):=(blk_cell BKg.out 1).trans rfl;(try clear hczgo_0 hfzgo_0);have hczgo_0:=cO1 BKgo.out;(try clear hczgu_0 hfzgu_0);have hczgu_0:=cO1 BKgu.out;clear hb) | (go_at_call 56;(refine (ga_areGates.calls k A0_0 c0_0 l0_0 A0_1 c0_1 l0_1 A1 c1 l1 false _ HR0.out HC0.out HR1.out HC1.out HO1.out HOC1.out H6.out).mono ?_);rintro e w5 ⟨rfl,hb⟩;replace HR0:=(cmv HR0 hb);replace HR1:=(cmv HR1 hb);replace HB:=(bmv HB hb);replace HO1:=(cmv HO1 hb);replace HO2:=(cmv HO2 hb);replace BKg:=(kmv hb BKg);replace BKgo:=(kmv hb BKgo);replace BKgu:=(kmv hb BKgu);(try clear hczg_0 hfzg_0);have hczg_0:=cO1 BKg.out;(try clear hczg_1 hfzg_1);have hczg_1 : w5.cell? ⟨g,1,none⟩ = some (.slice A0_1 l0_1.length c0_1):=(blk_cell BKg.out 1).trans rfl;(try clear hczgo_0 hfzgo_0);have hczgo_0:=cO1 BKgo.out;(try clear hczgu_0 hfzgu_0);have hczgu_0:=cO1 BKgu.out;clear H6;clear hb))
   go_ret2
   exact ⟨_,rfl,Kd.R_nil _ _ _ _ _,HB.out⟩
  | true =>
   rw [if_pos rfl] at h
   obtain ⟨t,ht,h⟩:=obm h
   have H7:=am ht
   clear ht
   cases t with
   | false =>
    rw [if_neg (by decide)] at h
    have h:=Option.some.inj h
    obtain ⟨rfl,rfl⟩:=Prod.mk.inj h
    clear h
    go_enter Tryz.func35,Tryz.ntmps35
    go_wp2_with (first | ((refine ga_dst (N:=3) rfl ?_);(try (refine ga_guard (by rfl) ?_;dsimp only));refine box_event rfl (N:=3) rfl (cs:=#[.slice A0_0 l0_0.length c0_0,.slice A0_1 l0_1.length c0_1]) (t:=25) ?hr ?_;(case hr=>go_simp;try rfl);intro g hg w1 hbox hb;replace HR0:=(cmv HR0 hb);replace HR1:=(cmv HR1 hb);replace HB:=(bmv HB hb);replace HO1:=(cmv HO1 hb);replace HO2:=(cmv HO2 hb);clear hg;have BKg:=am hbox;clear hbox;(try clear hczg_0 hfzg_0);have hczg_0:=cO1 BKg.out;(try clear hczg_1 hfzg_1);have hczg_1 : w1.cell? ⟨g,1,none⟩ = some (.slice A0_1 l0_1.length c0_1):=(blk_cell BKg.out 1).trans rfl;clear hb) | ((refine ga_dst (N:=4) rfl ?_);(try (refine ga_guard (by rfl) ?_;dsimp only));refine box_event rfl (N:=4) rfl (cs:=#[.slice A1 l1.length c1]) (t:=26) ?hr ?_;(case hr=>go_simp;try rfl);intro go hg w2 hbox hb;replace HR0:=(cmv HR0 hb);replace HR1:=(cmv HR1 hb);replace HB:=(bmv HB hb);replace HO1:=(cmv HO1 hb);replace HO2:=(cmv HO2 hb);replace BKg:=(kmv hb BKg);clear hg;have BKgo:=am hbox;clear hbox;(try clear hczg_0 hfzg_0);have hczg_0:=cO1 BKg.out;(try clear hczg_1 hfzg_1);have hczg_1 : w2.cell? ⟨g,1,none⟩ = some (.slice A0_1 l0_1.length c0_1):=(blk_cell BKg.out 1).trans rfl;(try clear hczgo_0 hfzgo_0);have hczgo_0:=cO1 BKgo.out;clear hb) | ((refine ga_dst (N:=5) rfl ?_);(try (refine ga_guard (by rfl) ?_;dsimp only));refine box_event rfl (N:=5) rfl (cs:=#[.slice A2 l2.length c2]) (t:=26) ?hr ?_;(case hr=>go_simp;try rfl);intro gu hg w3 hbox hb;replace HR0:=(cmv HR0 hb);replace HR1:=(cmv HR1 hb);replace HB:=(bmv HB hb);replace HO1:=(cmv HO1 hb);replace HO2:=(cmv HO2 hb);replace BKg:=(kmv hb BKg);replace BKgo:=(kmv hb BKgo);clear hg;have BKgu:=am hbox;clear hbox;(try clear hczg_0 hfzg_0);have hczg_0:=cO1 BKg.out;(try clear hczg_1 hfzg_1);have hczg_1 : w3.cell? ⟨g,1,none⟩ = some (.slice A0_1 l0_1.length c0_1):=(blk_cell BKg.out 1).trans rfl;(try clear hczgo_0 hfzgo_0);have hczgo_0:=cO1 BKgo.out;(try clear hczgu_0 hfzgu_0);have hczgu_0:=cO1 BKgu.out;clear hb) | (go_at_call 55;(refine (ga_isNet.calls k A0_0 c0_0 l0_0 A0_1 c0_1 l0_1 true _ HR0.out HC0.out HR1.out HC1.out H1.out).mono ?_);rintro e w4 ⟨rfl,hb⟩;replace HR0:=(cmv HR0 hb);replace HR1:=(cmv HR1 hb);replace HB:=(bmv HB hb);replace HO1:=(cmv HO1 hb);replace HO2:=(cmv HO2 hb);replace BKg:=(kmv hb BKg);replace BKgo:=(kmv hb BKgo);replace BKgu:=(kmv hb BKgu);(try clear hczg_0 hfzg_0);have hczg_0:=cO1 BKg.out;(try clear hczg_1 hfzg_1);have hczg_1 : w4.cell? ⟨g,1,none⟩ = some (.slice A0_1 l0_1.length c0_1):=(blk_cell BKg.out 1).trans rfl;(try clear hczgo_0 hfzgo_0);have hczgo_0:=cO1 BKgo.out;(try clear hczgu_0 hfzgu_0);have hczgu_0:=cO1 BKgu.out;clear hb) | (go_at_call 56;(refine (ga_areGates.calls k A0_0 c0_0 l0_0 A0_1 c0_1 l0_1 A1 c1 l1 true _ HR0.out HC0.out HR1.out HC1.out HO1.out HOC1.out H6.out).mono ?_);rintro e w5 ⟨rfl,hb⟩;replace HR0:=(cmv HR0 hb);replace HR1:=(cmv HR1 hb);replace HB:=(bmv HB hb);replace HO1:=(cmv HO1 hb);replace HO2:=(cmv HO2 hb);replace BKg:=(kmv hb BKg);replace BKgo:=(kmv hb BKgo);replace BKgu:=(kmv hb BKgu);(try clear hczg_0 hfzg_0);have hczg_0:=cO1 BKg.out;(try clear hczg_1 hfzg_1);have hczg_1 : w5.cell? ⟨g,1,none⟩ = some (.slice A0_1 l0_1.length c0_1):=(blk_cell BKg.out 1).trans rfl;(try clear hczgo_0 hfzgo_0);have hczgo_0:=cO1 BKgo.out;(try clear hczgu_0 hfzgu_0);have hczgu_0:=cO1 BKgu.out;clear H6;clear hb) | (go_at_call 56;(refine (ga_areGates.calls k A0_0 c0_0 l0_0 A0_1 c0_1 l0_1 A2 c2 l2 false _ HR0.out HC0.out HR1.out HC1.out HO2.out HOC2.out H7.out).mono ?_);rintro e w6 ⟨rfl,hb⟩;replace HR0:=(cmv HR0 hb);replace HR1:=(cmv HR1 hb);replace HB:=(bmv HB hb);replace HO1:=(cmv HO1 hb);replace HO2:=(cmv HO2 hb);replace BKg:=(kmv hb BKg);replace BKgo:=(kmv hb BKgo);replace BKgu:=(kmv hb BKgu);(try clear hczg_0 hfzg_0);have hczg_0:=cO1 BKg.out;(try clear hczg_1 hfzg_1);have hczg_1 : w6.cell? ⟨g,1,none⟩ = some (.slice A0_1 l0_1.length c0_1):=(blk_cell BKg.out 1).trans rfl;(try clear hczgo_0 hfzgo_0);have hczgo_0:=cO1 BKgo.out;(try clear hczgu_0 hfzgu_0);have hczgu_0:=cO1 BKgu.out;clear H7;clear hb))
    go_ret2
    exact ⟨_,rfl,Kd.R_nil _ _ _ _ _,HB.out⟩
   | true =>
    rw [if_pos rfl] at h
    obtain ⟨gs,hgs,h⟩:=obm h
    by_cases hgl : gs.length < 1000000
    rotate_left
    ·rw [if_neg hgl] at h;cases h
    rw [if_pos hgl] at h
    obtain ⟨r,hr,h⟩:=obm h
    have h:=Option.some.inj h
    obtain ⟨htot,hfm⟩:=firstT_total hr
    have H2:=am hgs
    have H3:=am htot
    have H4:=am hfm
    have H5:=am hgl
    obtain ⟨q1,q2,hq,hqt,hqf⟩:=firstE_V (r:=r)
    have HQ:=am hq
    clear hgs htot hfm hgl hr hq
    cases q2 with
    | true =>
     rw [hqt rfl] at h
     obtain ⟨rfl,rfl⟩:=Prod.mk.inj h
     clear h hqt hqf
     go_enter Tryz.func35,Tryz.ntmps35
     go_wp2_with (first | ((refine ga_dst (N:=3) rfl ?_);(try (refine ga_guard (by rfl) ?_;dsimp only));refine box_event rfl (N:=3) rfl (cs:=#[.slice A0_0 l0_0.length c0_0,.slice A0_1 l0_1.length c0_1]) (t:=25) ?hr ?_;(case hr=>go_simp;try rfl);intro g hg w1 hbox hb;replace HR0:=(cmv HR0 hb);replace HR1:=(cmv HR1 hb);replace HB:=(bmv HB hb);replace HO1:=(cmv HO1 hb);replace HO2:=(cmv HO2 hb);clear hg;have BKg:=am hbox;clear hbox;(try clear hczg_0 hfzg_0);have hczg_0:=cO1 BKg.out;(try clear hczg_1 hfzg_1);have hczg_1 : w1.cell? ⟨g,1,none⟩ = some (.slice A0_1 l0_1.length c0_1):=(blk_cell BKg.out 1).trans rfl;clear hb) | ((refine ga_dst (N:=4) rfl ?_);(try (refine ga_guard (by rfl) ?_;dsimp only));refine box_event rfl (N:=4) rfl (cs:=#[.slice A1 l1.length c1]) (t:=26) ?hr ?_;(case hr=>go_simp;try rfl);intro go hg w2 hbox hb;replace HR0:=(cmv HR0 hb);replace HR1:=(cmv HR1 hb);replace HB:=(bmv HB hb);replace HO1:=(cmv HO1 hb);replace HO2:=(cmv HO2 hb);replace BKg:=(kmv hb BKg);clear hg;have BKgo:=am hbox;clear hbox;(try clear hczg_0 hfzg_0);have hczg_0:=cO1 BKg.out;(try clear hczg_1 hfzg_1);have hczg_1 : w2.cell? ⟨g,1,none⟩ = some (.slice A0_1 l0_1.length c0_1):=(blk_cell BKg.out 1).trans rfl;(try clear hczgo_0 hfzgo_0);have hczgo_0:=cO1 BKgo.out;clear hb) | ((refine ga_dst (N:=5) rfl ?_);(try (refine ga_guard (by rfl) ?_;dsimp only));refine box_event rfl (N:=5) rfl (cs:=#[.slice A2 l2.length c2]) (t:=26) ?hr ?_;(case hr=>go_simp;try rfl);intro gu hg w3 hbox hb;replace HR0:=(cmv HR0 hb);replace HR1:=(cmv HR1 hb);replace HB:=(bmv HB hb);replace HO1:=(cmv HO1 hb);replace HO2:=(cmv HO2 hb);replace BKg:=(kmv hb BKg);replace BKgo:=(kmv hb BKgo);clear hg;have BKgu:=am hbox;clear hbox;(try clear hczg_0 hfzg_0);have hczg_0:=cO1 BKg.out;(try clear hczg_1 hfzg_1);have hczg_1 : w3.cell? ⟨g,1,none⟩ = some (.slice A0_1 l0_1.length c0_1):=(blk_cell BKg.out 1).trans rfl;(try clear hczgo_0 hfzgo_0);have hczgo_0:=cO1 BKgo.out;(try clear hczgu_0 hfzgu_0);have hczgu_0:=cO1 BKgu.out;clear hb) | (go_at_call 55;(refine (ga_isNet.calls k A0_0 c0_0 l0_0 A0_1 c0_1 l0_1 true _ HR0.out HC0.out HR1.out HC1.out H1.out).mono ?_);rintro e w4 ⟨rfl,hb⟩;replace HR0:=(cmv HR0 hb);replace HR1:=(cmv HR1 hb);replace HB:=(bmv HB hb);replace HO1:=(cmv HO1 hb);replace HO2:=(cmv HO2 hb);replace BKg:=(kmv hb BKg);replace BKgo:=(kmv hb BKgo);replace BKgu:=(kmv hb BKgu);(try clear hczg_0 hfzg_0);have hczg_0:=cO1 BKg.out;(try clear hczg_1 hfzg_1);have hczg_1 : w4.cell? ⟨g,1,none⟩ = some (.slice A0_1 l0_1.length c0_1):=(blk_cell BKg.out 1).trans rfl;(try clear hczgo_0 hfzgo_0);have hczgo_0:=cO1 BKgo.out;(try clear hczgu_0 hfzgu_0);have hczgu_0:=cO1 BKgu.out;clear hb) | (go_at_call 56;(refine (ga_areGates.calls k A0_0 c0_0 l0_0 A0_1 c0_1 l0_1 A1 c1 l1 true _ HR0.out HC0.out HR1.out HC1.out HO1.out HOC1.out H6.out).mono ?_);rintro e w5 ⟨rfl,hb⟩;replace HR0:=(cmv HR0 hb);replace HR1:=(cmv HR1 hb);replace HB:=(bmv HB hb);replace HO1:=(cmv HO1 hb);replace HO2:=(cmv HO2 hb);replace BKg:=(kmv hb BKg);replace BKgo:=(kmv hb BKgo);replace BKgu:=(kmv hb BKgu);(try clear hczg_0 hfzg_0);have hczg_0:=cO1 BKg.out;(try clear hczg_1 hfzg_1);have hczg_1 : w5.cell? ⟨g,1,none⟩ = some (.slice A0_1 l0_1.length c0_1):=(blk_cell BKg.out 1).trans rfl;(try clear hczgo_0 hfzgo_0);have hczgo_0:=cO1 BKgo.out;(try clear hczgu_0 hfzgu_0);have hczgu_0:=cO1 BKgu.out;clear H6;clear hb) | (go_at_call 56;(refine (ga_areGates.calls k A0_0 c0_0 l0_0 A0_1 c0_1 l0_1 A2 c2 l2 true _ HR0.out HC0.out HR1.out HC1.out HO2.out HOC2.out H7.out).mono ?_);rintro e w6 ⟨rfl,hb⟩;replace HR0:=(cmv HR0 hb);replace HR1:=(cmv HR1 hb);replace HB:=(bmv HB hb);replace HO1:=(cmv HO1 hb);replace HO2:=(cmv HO2 hb);replace BKg:=(kmv hb BKg);replace BKgo:=(kmv hb BKgo);replace BKgu:=(kmv hb BKgu);(try clear hczg_0 hfzg_0);have hczg_0:=cO1 BKg.out;(try clear hczg_1 hfzg_1);have hczg_1 : w6.cell? ⟨g,1,none⟩ = some (.slice A0_1 l0_1.length c0_1):=(blk_cell BKg.out 1).trans rfl;(try clear hczgo_0 hfzgo_0);have hczgo_0:=cO1 BKgo.out;(try clear hczgu_0 hfzgu_0);have hczgu_0:=cO1 BKgu.out;clear H7;clear hb) | (go_at_call 76;(refine (ga_gates.calls k A0_0 c0_0 l0_0 A0_1 c0_1 l0_1 gs _ HR0.out HC0.out HR1.out HC1.out H2.out).mono ?_);rintro e w8 ⟨v9,rfl,hr9,hb⟩;replace HR0:=(cmv HR0 hb);replace HR1:=(cmv HR1 hb);replace HB:=(bmv HB hb);replace HO1:=(cmv HO1 hb);replace HO2:=(cmv HO2 hb);replace BKg:=(kmv hb BKg);replace BKgo:=(kmv hb BKgo);replace BKgu:=(kmv hb BKgu);(try clear hczg_0 hfzg_0);have hczg_0:=cO1 BKg.out;(try clear hczg_1 hfzg_1);have hczg_1 : w8.cell? ⟨g,1,none⟩ = some (.slice A0_1 l0_1.length c0_1):=(blk_cell BKg.out 1).trans rfl;(try clear hczgo_0 hfzgo_0);have hczgo_0:=cO1 BKgo.out;(try clear hczgu_0 hfzgu_0);have hczgu_0:=cO1 BKgu.out;obtain ⟨Ap,cp,rfl,hlp,hCp⟩:=Kd.R_reads hr9;have HCp:=am hCp;clear hr9 hlp hCp;clear hb) | (go_at_call 75;(refine (ga_shortest.calls Ap gs.length cp _).mono ?_);rintro e w9 ⟨gl,rfl,hbl,hgl,hb⟩;replace HR0:=(cmv HR0 hb);replace HR1:=(cmv HR1 hb);replace HB:=(bmv HB hb);replace HO1:=(cmv HO1 hb);replace HO2:=(cmv HO2 hb);replace BKg:=(kmv hb BKg);replace BKgo:=(kmv hb BKgo);replace BKgu:=(kmv hb BKgu);replace HCp:=(cmv HCp hb);(try clear hczg_0 hfzg_0);have hczg_0:=cO1 BKg.out;(try clear hczg_1 hfzg_1);have hczg_1 : w9.cell? ⟨g,1,none⟩ = some (.slice A0_1 l0_1.length c0_1):=(blk_cell BKg.out 1).trans rfl;(try clear hczgo_0 hfzgo_0);have hczgo_0:=cO1 BKgo.out;(try clear hczgu_0 hfzgu_0);have hczgu_0:=cO1 BKgu.out;have BL:=am hbl;clear hbl hgl;clear hb) | (go_at_call 74;refine (first_calls 110 #[.pointer (some ⟨gl,0,none⟩)] (enters_of Tryz.func110 (by kernel_rfl) rfl) 78 #[.pointer (some ⟨g,0,none⟩),.pointer (some ⟨go,0,none⟩),.pointer (some ⟨gu,0,none⟩)] (enters_of Tryz.func78 (by kernel_rfl) rfl) _ (shortestOf gs) (fun l=>l ∈ shortestOf gs) (movesq.f k l0_0 l0_1 l1 l2) r _ (shortest_stops gl Ap cp gs _ _ BL.out HCp.out H5.out (fun y hy=>hy) 8) (fun x W hb hok=>by obtain ⟨b,hb2⟩:=H3.out x.1 hok.1;exact ⟨b,hb2,movesq.calls k g go gu A0_0 c0_0 l0_0 A0_1 c0_1 l0_1 A1 c1 l1 A2 c2 l2 x.2.1 x.2.2 x.1 b W (blk_below BKg.out hb) (blk_below BKgo.out hb) (blk_below BKgu.out hb) (kC HR0.out hb) HC0.out (kC HR1.out hb) HC1.out (kC HO1.out hb) HOC1.out (kC HO2.out hb) HOC2.out hok.2.2.1 hok.2.1 hb2⟩) H4.out).mono ?_;rintro e w10 ⟨hres,hb⟩;have hB2:=below_then HB.out HB.out.size hb;have hB3:=HB.out.size;obtain ⟨v0,hv0,hRv⟩:=first_res hres HQ.out hB3;subst hv0;clear hres hb))
     go_ret2
     exact ⟨v0,rfl,hRv,hB2⟩
    | false =>
     rw [hqf rfl] at h
     obtain ⟨rfl,rfl⟩:=Prod.mk.inj h
     clear h hqt hqf
     go_enter Tryz.func35,Tryz.ntmps35
     go_wp2_with (first | ((refine ga_dst (N:=3) rfl ?_);(try (refine ga_guard (by rfl) ?_;dsimp only));refine box_event rfl (N:=3) rfl (cs:=#[.slice A0_0 l0_0.length c0_0,.slice A0_1 l0_1.length c0_1]) (t:=25) ?hr ?_;(case hr=>go_simp;try rfl);intro g hg w1 hbox hb;replace HR0:=(cmv HR0 hb);replace HR1:=(cmv HR1 hb);replace HB:=(bmv HB hb);replace HO1:=(cmv HO1 hb);replace HO2:=(cmv HO2 hb);clear hg;have BKg:=am hbox;clear hbox;(try clear hczg_0 hfzg_0);have hczg_0:=cO1 BKg.out;(try clear hczg_1 hfzg_1);have hczg_1 : w1.cell? ⟨g,1,none⟩ = some (.slice A0_1 l0_1.length c0_1):=(blk_cell BKg.out 1).trans rfl;clear hb) | ((refine ga_dst (N:=4) rfl ?_);(try (refine ga_guard (by rfl) ?_;dsimp only));refine box_event rfl (N:=4) rfl (cs:=#[.slice A1 l1.length c1]) (t:=26) ?hr ?_;(case hr=>go_simp;try rfl);intro go hg w2 hbox hb;replace HR0:=(cmv HR0 hb);replace HR1:=(cmv HR1 hb);replace HB:=(bmv HB hb);replace HO1:=(cmv HO1 hb);replace HO2:=(cmv HO2 hb);replace BKg:=(kmv hb BKg);clear hg;have BKgo:=am hbox;clear hbox;(try clear hczg_0 hfzg_0);have hczg_0:=cO1 BKg.out;(try clear hczg_1 hfzg_1);have hczg_1 : w2.cell? ⟨g,1,none⟩ = some (.slice A0_1 l0_1.length c0_1):=(blk_cell BKg.out 1).trans rfl;(try clear hczgo_0 hfzgo_0);have hczgo_0:=cO1 BKgo.out;clear hb) | ((refine ga_dst (N:=5) rfl ?_);(try (refine ga_guard (by rfl) ?_;dsimp only));refine box_event rfl (N:=5) rfl (cs:=#[.slice A2 l2.length c2]) (t:=26) ?hr ?_;(case hr=>go_simp;try rfl);intro gu hg w3 hbox hb;replace HR0:=(cmv HR0 hb);replace HR1:=(cmv HR1 hb);replace HB:=(bmv HB hb);replace HO1:=(cmv HO1 hb);replace HO2:=(cmv HO2 hb);replace BKg:=(kmv hb BKg);replace BKgo:=(kmv hb BKgo);clear hg;have BKgu:=am hbox;clear hbox;(try clear hczg_0 hfzg_0);have hczg_0:=cO1 BKg.out;(try clear hczg_1 hfzg_1);have hczg_1 : w3.cell? ⟨g,1,none⟩ = some (.slice A0_1 l0_1.length c0_1):=(blk_cell BKg.out 1).trans rfl;(try clear hczgo_0 hfzgo_0);have hczgo_0:=cO1 BKgo.out;(try clear hczgu_0 hfzgu_0);have hczgu_0:=cO1 BKgu.out;clear hb) | (go_at_call 55;(refine (ga_isNet.calls k A0_0 c0_0 l0_0 A0_1 c0_1 l0_1 true _ HR0.out HC0.out HR1.out HC1.out H1.out).mono ?_);rintro e w4 ⟨rfl,hb⟩;replace HR0:=(cmv HR0 hb);replace HR1:=(cmv HR1 hb);replace HB:=(bmv HB hb);replace HO1:=(cmv HO1 hb);replace HO2:=(cmv HO2 hb);replace BKg:=(kmv hb BKg);replace BKgo:=(kmv hb BKgo);replace BKgu:=(kmv hb BKgu);(try clear hczg_0 hfzg_0);have hczg_0:=cO1 BKg.out;(try clear hczg_1 hfzg_1);have hczg_1 : w4.cell? ⟨g,1,none⟩ = some (.slice A0_1 l0_1.length c0_1):=(blk_cell BKg.out 1).trans rfl;(try clear hczgo_0 hfzgo_0);have hczgo_0:=cO1 BKgo.out;(try clear hczgu_0 hfzgu_0);have hczgu_0:=cO1 BKgu.out;clear hb) | (go_at_call 56;(refine (ga_areGates.calls k A0_0 c0_0 l0_0 A0_1 c0_1 l0_1 A1 c1 l1 true _ HR0.out HC0.out HR1.out HC1.out HO1.out HOC1.out H6.out).mono ?_);rintro e w5 ⟨rfl,hb⟩;replace HR0:=(cmv HR0 hb);replace HR1:=(cmv HR1 hb);replace HB:=(bmv HB hb);replace HO1:=(cmv HO1 hb);replace HO2:=(cmv HO2 hb);replace BKg:=(kmv hb BKg);replace BKgo:=(kmv hb BKgo);replace BKgu:=(kmv hb BKgu);(try clear hczg_0 hfzg_0);have hczg_0:=cO1 BKg.out;(try clear hczg_1 hfzg_1);have hczg_1 : w5.cell? ⟨g,1,none⟩ = some (.slice A0_1 l0_1.length c0_1):=(blk_cell BKg.out 1).trans rfl;(try clear hczgo_0 hfzgo_0);have hczgo_0:=cO1 BKgo.out;(try clear hczgu_0 hfzgu_0);have hczgu_0:=cO1 BKgu.out;clear H6;clear hb) | (go_at_call 56;(refine (ga_areGates.calls k A0_0 c0_0 l0_0 A0_1 c0_1 l0_1 A2 c2 l2 true _ HR0.out HC0.out HR1.out HC1.out HO2.out HOC2.out H7.out).mono ?_);rintro e w6 ⟨rfl,hb⟩;replace HR0:=(cmv HR0 hb);replace HR1:=(cmv HR1 hb);replace HB:=(bmv HB hb);replace HO1:=(cmv HO1 hb);replace HO2:=(cmv HO2 hb);replace BKg:=(kmv hb BKg);replace BKgo:=(kmv hb BKgo);replace BKgu:=(kmv hb BKgu);(try clear hczg_0 hfzg_0);have hczg_0:=cO1 BKg.out;(try clear hczg_1 hfzg_1);have hczg_1 : w6.cell? ⟨g,1,none⟩ = some (.slice A0_1 l0_1.length c0_1):=(blk_cell BKg.out 1).trans rfl;(try clear hczgo_0 hfzgo_0);have hczgo_0:=cO1 BKgo.out;(try clear hczgu_0 hfzgu_0);have hczgu_0:=cO1 BKgu.out;clear H7;clear hb) | (go_at_call 76;(refine (ga_gates.calls k A0_0 c0_0 l0_0 A0_1 c0_1 l0_1 gs _ HR0.out HC0.out HR1.out HC1.out H2.out).mono ?_);rintro e w8 ⟨v9,rfl,hr9,hb⟩;replace HR0:=(cmv HR0 hb);replace HR1:=(cmv HR1 hb);replace HB:=(bmv HB hb);replace HO1:=(cmv HO1 hb);replace HO2:=(cmv HO2 hb);replace BKg:=(kmv hb BKg);replace BKgo:=(kmv hb BKgo);replace BKgu:=(kmv hb BKgu);(try clear hczg_0 hfzg_0);have hczg_0:=cO1 BKg.out;(try clear hczg_1 hfzg_1);have hczg_1 : w8.cell? ⟨g,1,none⟩ = some (.slice A0_1 l0_1.length c0_1):=(blk_cell BKg.out 1).trans rfl;(try clear hczgo_0 hfzgo_0);have hczgo_0:=cO1 BKgo.out;(try clear hczgu_0 hfzgu_0);have hczgu_0:=cO1 BKgu.out;obtain ⟨Ap,cp,rfl,hlp,hCp⟩:=Kd.R_reads hr9;have HCp:=am hCp;clear hr9 hlp hCp;clear hb) | (go_at_call 75;(refine (ga_shortest.calls Ap gs.length cp _).mono ?_);rintro e w9 ⟨gl,rfl,hbl,hgl,hb⟩;replace HR0:=(cmv HR0 hb);replace HR1:=(cmv HR1 hb);replace HB:=(bmv HB hb);replace HO1:=(cmv HO1 hb);replace HO2:=(cmv HO2 hb);replace BKg:=(kmv hb BKg);replace BKgo:=(kmv hb BKgo);replace BKgu:=(kmv hb BKgu);replace HCp:=(cmv HCp hb);(try clear hczg_0 hfzg_0);have hczg_0:=cO1 BKg.out;(try clear hczg_1 hfzg_1);have hczg_1 : w9.cell? ⟨g,1,none⟩ = some (.slice A0_1 l0_1.length c0_1):=(blk_cell BKg.out 1).trans rfl;(try clear hczgo_0 hfzgo_0);have hczgo_0:=cO1 BKgo.out;(try clear hczgu_0 hfzgu_0);have hczgu_0:=cO1 BKgu.out;have BL:=am hbl;clear hbl hgl;clear hb) | (go_at_call 74;refine (first_calls 110 #[.pointer (some ⟨gl,0,none⟩)] (enters_of Tryz.func110 (by kernel_rfl) rfl) 78 #[.pointer (some ⟨g,0,none⟩),.pointer (some ⟨go,0,none⟩),.pointer (some ⟨gu,0,none⟩)] (enters_of Tryz.func78 (by kernel_rfl) rfl) _ (shortestOf gs) (fun l=>l ∈ shortestOf gs) (movesq.f k l0_0 l0_1 l1 l2) r _ (shortest_stops gl Ap cp gs _ _ BL.out HCp.out H5.out (fun y hy=>hy) 8) (fun x W hb hok=>by obtain ⟨b,hb2⟩:=H3.out x.1 hok.1;exact ⟨b,hb2,movesq.calls k g go gu A0_0 c0_0 l0_0 A0_1 c0_1 l0_1 A1 c1 l1 A2 c2 l2 x.2.1 x.2.2 x.1 b W (blk_below BKg.out hb) (blk_below BKgo.out hb) (blk_below BKgu.out hb) (kC HR0.out hb) HC0.out (kC HR1.out hb) HC1.out (kC HO1.out hb) HOC1.out (kC HO2.out hb) HOC2.out hok.2.2.1 hok.2.1 hb2⟩) H4.out).mono ?_;rintro e w10 ⟨hres,hb⟩;have hB2:=below_then HB.out HB.out.size hb;have hB3:=HB.out.size;obtain ⟨v0,hv0,hRv⟩:=first_res hres HQ.out hB3;subst hv0;clear hres hb))
     go_ret2
     exact ⟨_,rfl,Kd.R_nil _ _ _ _ _,hB2⟩
def q8_Fewest.l0 : Nat→List (List Int)→Int→List (S37)→List (S65)→Option (List Int × Bool)
 | 0,_,_,_,_=>none
 | k + 1,x4,x5,x523000,x523001=>if x5 < (x4.length : Int) then (if 0≤x5 then ((q8_Surely.f k x523000 x523001 (rd_L1 x4 x5)).bind fun t530=>(if t530 = true then (some (rd_L1 x4 x5,true)) else (q8_Fewest.l0 k x4 (wrap64 (x5 + 1)) x523000 x523001))) else (none)) else (some (([] : List Int),false))
def q8_Fewest.f (k : Nat) (l0_0 : List (S37)) (l0_1 : List (S65)) : Option (List Int × Bool):=(q8_Gates.f k l0_0 l0_1).bind fun t523=>((q8_Shortest.f k t523).bind fun t526=>(q8_Fewest.l0 k t526 0 l0_0 l0_1))
theorem q8_Fewest.calls (k : Nat) (A0_0 : Option Addr) (c0_0 : Nat) (l0_0 : List (S37)) (A0_1 : Option Addr) (c0_1 : Nat) (l0_1 : List (S65)) (r1 : List Int) (r2 : Bool) (w : World) (hr0_0 : Kd.C k37 w A0_0 l0_0.length l0_0) (hc0_0 : l0_0.length≤c0_0) (hr0_1 : Kd.C k65 w A0_1 l0_1.length l0_1) (hc0_1 : l0_1.length≤c0_1) (h : q8_Fewest.f k l0_0 l0_1 = some (r1,r2)) :
 Calls Tryz.prog 36 #[.agg #[.slice A0_0 l0_0.length c0_0,.slice A0_1 l0_1.length c0_1]] w fun e w'=>∃ v0_ : Value,e = .returned (.tuple #[v0_,.bool r2])∧Kd.V (Kd.int .i64) 3 w' w.heap.size (fun k_=>(w.heap.size≤k_)) v0_ r1∧Below w.heap.size w w':=by
 have hu25:=Tryz.underlying25
 have HR0_0:=am hr0_0
 have HC0_0:=am hc0_0
 clear hr0_0 hc0_0
 have HR0_1:=am hr0_1
 have HC0_1:=am hc0_1
 clear hr0_1 hc0_1
 have HB:=am (Below.refl w.heap.size w)
 have H : ((q8_Gates.f k l0_0 l0_1).bind fun t523=>((q8_Shortest.f k t523).bind fun t526=>(q8_Fewest.l0 k t526 0 l0_0 l0_1))) = some (r1,r2):=h
 clear h
 replace H:=obm H
 obtain ⟨t523,A20,H⟩:=H
 replace H : ((q8_Shortest.f k t523).bind fun t526=>(q8_Fewest.l0 k t526 0 l0_0 l0_1)) = some (r1,r2):=H
 have A2:=am A20
 clear A20
 replace H:=obm H
 obtain ⟨t526,A30,H⟩:=H
 replace H : (q8_Fewest.l0 k t526 0 l0_0 l0_1) = some (r1,r2):=H
 have A3:=am A30
 clear A30
 replace H':=am H
 go_enter Tryz.func36,Tryz.ntmps36
 go_wp2_with (first | ((refine ga_dst (N:=1) rfl ?_);refine box_event rfl (N:=1) rfl (cs:=#[.slice A0_0 l0_0.length c0_0,.slice A0_1 l0_1.length c0_1]) (t:=25) ?hr ?_;(case hr=>go_simp;try rfl);intro gb522 hg w4 hbox hb;have BK522:=am (hbox);have GW522:=am (ge_new (HB.out) hg);have GE522:=am (ge_new (HB.out) hg);replace HB:=am (below_step (HB.out) hb);clear hb hbox hg;obtain ⟨hcz5_0,hcz5_1⟩:=cO2 BK522.out) | ((with_reducible refine ga_callee (f:=82) rfl ?_);refine goesL_ (some 7) rfl rfl Tryz.func82 (by kernel_rfl) rfl #[.agg #[.slice A0_0 l0_0.length c0_0,.slice A0_1 l0_1.length c0_1]] rfl (by (try simp only [List.map_toArray,List.map_cons,List.map_nil]);first | done | rfl | (simp only [List.length_drop,List.length_take];rfl)) ?_;(refine (q8_Gates.calls k _ _ l0_0 _ _ l0_1 t523 _ ?side1 ?side2 ?side3 ?side4 A2.out).mono ?_);(case side1=>exact kC HR0_0.out HB.out);(case side2=>exact HC0_0.out);(case side3=>exact kC HR0_1.out HB.out);(case side4=>exact HC0_1.out);rintro e w6 ⟨v524,rfl,ho0,hb⟩;refine ⟨_,rfl,?_⟩;have HO525:=am (Kd.R_lower (Kd.R_newM (M:=fun k_=>(w.heap.size≤k_)) ho0 (below_size (HB.out)) (fun k_ h_=>h_)) (below_size (HB.out)));replace BK522:=(kmv hb BK522);replace HB:=am (below_step (HB.out) hb);(try clear hb);(try clear hb2);(try clear hk);(try clear hi);(try clear ho0);obtain ⟨Ao7,co7,eo7⟩:=Kd.R_slice HO525.out;subst eo7) | ((with_reducible refine ga_callee (f:=67) rfl ?_);refine goesL_ (some 8) rfl rfl Tryz.func67 (by kernel_rfl) rfl #[.slice Ao7 t523.length co7] rfl (by (try simp only [List.map_toArray,List.map_cons,List.map_nil]);first | done | rfl | (simp only [List.length_drop,List.length_take];rfl)) ?_;(refine (q8_Shortest.calls k _ _ t523 t526 _ ?side1 ?side2 A3.out).mono ?_);(case side1=>repeat (first | exact (Kd.R_reads' HO525.out).2.2 | (with_reducible refine Kd.C_alloc ?_ _) | (with_reducible refine Kd.C_drewN ?_ _) | (with_reducible refine Kd.C_drew ?_)));(case side2=>exact (Kd.R_reads' HO525.out).2.1);rintro e w8 ⟨v527,rfl,ho0,hb⟩;refine ⟨_,rfl,?_⟩;have HO528:=am (Kd.N_lower (Kd.N_mono (ok':=fun k_=>(w.heap.size≤k_)∧some k_ ≠ (.slice Ao7 t523.length co7 : Value).ownBlock∧k_ ≠ gb522) ho0 (fun k_ hk_=>⟨(Nat.le_trans (below_size (HB.out)) hk_),(Kd.fresh' (Kd.R_lt HO525.out) k_ hk_),(Kd.freshB (g:=gb522) (o:=.cells #[.slice A0_0 l0_0.length c0_0,.slice A0_1 l0_1.length c0_1] 25 (0,0)) BK522.out k_ hk_)⟩)) (below_size (HB.out)));replace HO525:=am (Kd.R_below HO525.out hb);replace BK522:=(kmv hb BK522);replace HB:=am (below_step (HB.out) hb);(try clear hb);(try clear hb2);(try clear hk);(try clear hi);(try clear ho0)))
 go_loopg [5] k (fun kq v5 w'=>∃ (x5_1 : Int),v5 = .int .i64 x5_1∧Aside0 (q8_Fewest.l0 kq t526 x5_1 l0_0 l0_1 = some (r1,r2))∧Aside0 (kq≤k)∧Aside0 (Kd.N (Kd.slice 3 (Kd.int .i64)) 26 w' w.heap.size (fun k_=>(w.heap.size≤k_)∧k_ ≠ gb522) v527 t526)∧Aside0 (w'.heap[gb522]? = some (.cells #[(.slice A0_0 l0_0.length c0_0),(.slice A0_1 l0_1.length c0_1)] 25 (0,0)))∧Aside0 (Below w.heap.size w w'))
 case atStart=>exact ⟨(0),(by first | rfl | (simp;done) | (simp [*];done)),H',⟨Nat.le_refl _⟩,⟨by (with_reducible repeat (first | apply Kd.N_alloc | apply Kd.N_drewN | apply Kd.N_drew));exact Kd.N_mono HO528.out (fun _ hk=>⟨hk.1,hk.2.2⟩)⟩,⟨BK522.out⟩,⟨HB.out⟩⟩
 case round =>
  clear H'
  obtain ⟨x5_1,rfl,HA,HK1,HO_4,BK522,HB⟩:=hrel
  cases gk with
  | zero=>exact absurd HA.out (by simp [q8_Fewest.l0])
  | succ k1 =>
   have H:=HA.out
   clear HA
   simp only [q8_Fewest.l0] at H
   by_cases c9 : x5_1 < (t526.length : Int)
   case neg =>
    rw [if_neg c9] at H
    have c9b0 : decide (x5_1 < (t526.length : Int)) = false:=decide_eq_false c9
    clear c9
    simp only [Option.some.injEq,Prod.mk.injEq] at H
    obtain ⟨rfl,rfl⟩:=H
    obtain ⟨Ao19,co19,eo19⟩:=Kd.N_slice HO_4.out
    subst eo19
    go_wp2
    go_ret2
    exact ⟨_,by first | rfl | (simp [*]<;>rfl),(by first | exact Kd.V_nil _ _ _ _ _ | exact Kd.R_V (by first | exact Kd.R_nil _ _ _ _ _ | exact Kd.N_nil _ _ _ _ _ | exact Kd.V_nil _ _ _ _ _ | exact Kd.Q_nil _ _ _ _ _ | exact Kd.S_nil _ _ _ _ _)),HB.out⟩
   rw [if_pos c9] at H
   have c9b0 : decide (x5_1 < (t526.length : Int)) = true:=decide_eq_true c9
   clear c9
   by_cases c10 : 0≤x5_1
   case neg =>
    rw [if_neg c10] at H
    exact absurd H (by simp)
   rw [if_pos c10] at H
   have c10b0 : decide (0≤x5_1) = true:=decide_eq_true c10
   clear c10
   replace H:=obm H
   obtain ⟨t530,A110,H⟩:=H
   replace H : (if t530 = true then (some (rd_L1 t526 x5_1,true)) else (q8_Fewest.l0 k1 t526 (wrap64 (x5_1 + 1)) l0_0 l0_1)) = some (r1,r2):=H
   have A11:=am A110
   clear A110
   by_cases c12 : t530 = true
   case neg =>
    replace c12:=Bool.eq_false_iff.mpr c12
    subst c12
    replace H : (q8_Fewest.l0 k1 t526 (wrap64 (x5_1 + 1)) l0_0 l0_1) = some (r1,r2):=by rw [if_neg (show ¬ (false = true) by decide)] at H;exact H
    replace H':=am H
    obtain ⟨Ao16,co16,eo16⟩:=Kd.N_slice HO_4.out
    subst eo16
    try go_wp2
    replace HO_4:=am (Kd.N_drew HO_4.out)
    replace BK522:=am (blk_drew BK522.out)
    replace HB:=am (below_drew1 HB.out)
    have p529 : 0≤(x5_1 : Int):=of_decide_eq_true (by assumption)
    have q529 : x5_1 < (t526.length : Int):=of_decide_eq_true (by assumption)
    obtain ⟨ad529,A529_0,c529_0,e529,hx529_0,hl529_0,hi529_0⟩:=at_L1 (Kd.N_reads' HO_4.out).2.2 x5_1 p529 q529
    cases e529
    obtain ⟨ce529,hce529,hMe529,hcc529⟩:=Kd.N_get HO_4.out [] x5_1 p529 (by first | exact q529 | exact of_decide_eq_true (by assumption) | (have e_:=(Kd.N_reads' HO_4.out).1;omega))
    obtain ⟨ua529_0,uc529_0,rfl,ul529_0,ge529_0⟩:=Kd.FK_slice_open hMe529
    have hv529_0:=hcc529 0 _ rfl
    rw [Nat.add_zero,show ((Kd.slice 3 (Kd.int .i64))).sz = 1 from rfl,Nat.mul_one] at hv529_0
    replace hv529_0:=Option.some.inj (hv529_0.symm.trans hx529_0)
    injection hv529_0 with hva_ hvn_ hvc_
    rw [hva_] at ge529_0
    rw [hvc_] at ul529_0
    have HL529_0:=am (show Kd.V (Kd.int .i64) 3 _ w.heap.size _ _ (rd_L1 t526 x5_1) from Kd.V_mk ul529_0 ge529_0)
    clear hva_ hvn_ hvc_ ge529_0 ul529_0
    clear hcc529 hce529
    have HR529_0:=am hi529_0
    have HC529_0:=am hl529_0
    clear hi529_0 hl529_0
    replace p529:=eq_true p529
    replace q529:=eq_true q529
    refine start_ (n:=6) (S:=fun w'=>w'.cell? ⟨gb522,0,none⟩ = some (.slice A0_0 l0_0.length c0_0)∧w'.cell? ⟨gb522,1,none⟩ = some (.slice A0_1 l0_1.length c0_1)∧w'.cell? (ad529.add (x5_1).toNat) = some (.slice A529_0 (rd_L1 t526 x5_1).length c529_0)) (ds:=[]) (ba 6 0) (by kernel_rfl) rfl rfl ⟨(blk_cell BK522.out 0).trans rfl,(blk_cell BK522.out 1).trans rfl,hx529_0⟩ (fun hHeld=>?_)
    generalize wr.drew = w17 at HO_4 BK522 HB HL529_0 HR529_0 hx529_0 hHeld ⊢
    refine pure_ (i:=1) (N:=some 16) (v:=?_) (a':=?_) (ba 6 2) rfl rfl (by kernel_rfl) (fun _ _ _ h=>h) (Or.inl ⟨by rfl,?_⟩) ?_ ?_
    rotate_left
    ·intro w'
     go_simp
     with_reducible rfl
    rotate_left
    ·simp only [Act.put,NRM]
     rfl
    refine pure_ (i:=2) (N:=some 17) (v:=?_) (a':=?_) (ba 6 6) rfl rfl (by kernel_rfl) (fun _ _ _ h=>h) (Or.inl ⟨by rfl,?_⟩) ?_ ?_
    rotate_left
    ·intro w'
     go_simp
     with_reducible rfl
    rotate_left
    ·simp only [Act.put,NRM]
     rfl
    refine pure_ (i:=3) (N:=some 18) (v:=?_) (a':=?_) (ba 6 14) rfl rfl (by kernel_rfl) (fun _ _ _ h=>h) (Or.inl ⟨by rfl,?_⟩) ?_ ?_
    rotate_left
    ·intro w'
     go_simp
     with_reducible rfl
    rotate_left
    ·simp only [Act.put,NRM]
     rfl
    refine take_ (i:=0) (N:=some 15) (v:=?_) (a':=?_) (ba 6 15) rfl rfl (by kernel_rfl) (fun _ _ _ h=>h) (Or.inl ⟨by rfl,?_⟩) hHeld ?_ ?_
    rotate_left
    ·rintro w' ⟨s0,s1,s2⟩
     go_simp
     with_reducible rfl
    rotate_left
    ·simp only [Act.put,NRM]
     rfl
    refine take_ (i:=4) (N:=some 19) (v:=?_) (a':=?_) (ba 6 31) rfl rfl (by kernel_rfl) (fun _ _ _ h=>h) (Or.inl ⟨by rfl,?_⟩) hHeld ?_ ?_
    rotate_left
    ·rintro w' ⟨s0,s1,s2⟩
     go_simp
     with_reducible rfl
    rotate_left
    ·simp only [Act.put,NRM]
     rfl
    refine one_ (i:=5) (N:=some 20) (ba 6 63) rfl rfl (by kernel_rfl) (by decide) (fun K hK=>?_)
    refine goes_ Tryz.func31 (by kernel_rfl) rfl #[.agg #[.slice A0_0 l0_0.length c0_0,.slice A0_1 l0_1.length c0_1],.slice A529_0 (rd_L1 t526 x5_1).length c529_0] (by rfl) rfl rfl (by (try simp only [List.map_toArray,List.map_cons,List.map_nil]);first | done | rfl | (simp only [List.length_drop,List.length_take];rfl)) ?_
    with_reducible refine (q8_Surely.calls k1 _ _ l0_0 _ _ l0_1 _ _ (rd_L1 t526 x5_1) false _ ?side1 ?side2 ?side3 ?side4 ?side5 ?side6 A11.out).mono ?_
    (case side1=>exact kC HR0_0.out HB.out)
    (case side2=>exact HC0_0.out)
    (case side3=>exact kC HR0_1.out HB.out)
    (case side4=>exact HC0_1.out)
    (case side5=>repeat (first | exact (by repeat (first | (with_reducible exact HR529_0.out) | (with_reducible refine Kd.C_alloc ?_ _) | (with_reducible refine Kd.C_drewN ?_ _) | (with_reducible refine Kd.C_drew ?_) | exact HR529_0.out)) | (with_reducible refine Kd.C_alloc ?_ _) | (with_reducible refine Kd.C_drewN ?_ _) | (with_reducible refine Kd.C_drew ?_)))
    (case side6=>exact HC529_0.out)
    rintro e w18 ⟨rfl,hb⟩
    have HS2_:=(hb.cell (World.block_lt_of_cell? _ _ (hHeld.2.2))).trans (hHeld.2.2)
    refine ⟨_,rfl,?_⟩
    replace HO_4:=am (Kd.N_below HO_4.out hb)
    replace HL529_0:=am (Kd.V_below HL529_0.out hb)
    replace BK522:=(kmv hb BK522)
    replace HR529_0:=am (kC (by repeat (first | (with_reducible exact HR529_0.out) | (with_reducible refine Kd.C_alloc ?_ _) | (with_reducible refine Kd.C_drewN ?_ _) | (with_reducible refine Kd.C_drew ?_) | exact HR529_0.out)) hb)
    replace HB:=am (below_step (HB.out) hb)
    (try clear hb)
    (try clear hb2)
    (try clear hk)
    (try clear hi)
    refine hK.out _ _ ⟨(blk_cell BK522.out 0).trans rfl,(blk_cell BK522.out 1).trans rfl,HS2_⟩ (fun hHeld=>?_)
    clear hK K
    refine norm_ (a':=?_) ?_ ?_
    rotate_left
    ·show Act.put _ (some 20) _ = _
     simp only [Act.put,NRM]
     rfl
    refine done_ (by kernel_rfl) ?_
    try go_wp2
    go_roundg k1
    case measure=>have:=HK1.out;omega
    case rel=>exact ⟨(wrap64 (x5_1 + 1)),(by first | rfl | (simp;done) | (simp [*];done)),H',⟨by have:=HK1.out;omega⟩,⟨by (with_reducible repeat (first | apply Kd.N_alloc | apply Kd.N_drewN | apply Kd.N_drew));exact HO_4.out⟩,⟨BK522.out⟩,⟨HB.out⟩⟩
   subst c12
   replace H : (some (rd_L1 t526 x5_1,true)) = some (r1,r2):=by rw [if_pos rfl] at H;exact H
   simp only [Option.some.injEq,Prod.mk.injEq] at H
   obtain ⟨rfl,rfl⟩:=H
   obtain ⟨Ao13,co13,eo13⟩:=Kd.N_slice HO_4.out
   subst eo13
   try go_wp2
   replace HO_4:=am (Kd.N_drew HO_4.out)
   replace BK522:=am (blk_drew BK522.out)
   replace HB:=am (below_drew1 HB.out)
   have p529 : 0≤(x5_1 : Int):=of_decide_eq_true (by assumption)
   have q529 : x5_1 < (t526.length : Int):=of_decide_eq_true (by assumption)
   obtain ⟨ad529,A529_0,c529_0,e529,hx529_0,hl529_0,hi529_0⟩:=at_L1 (Kd.N_reads' HO_4.out).2.2 x5_1 p529 q529
   cases e529
   obtain ⟨ce529,hce529,hMe529,hcc529⟩:=Kd.N_get HO_4.out [] x5_1 p529 (by first | exact q529 | exact of_decide_eq_true (by assumption) | (have e_:=(Kd.N_reads' HO_4.out).1;omega))
   obtain ⟨ua529_0,uc529_0,rfl,ul529_0,ge529_0⟩:=Kd.FK_slice_open hMe529
   have hv529_0:=hcc529 0 _ rfl
   rw [Nat.add_zero,show ((Kd.slice 3 (Kd.int .i64))).sz = 1 from rfl,Nat.mul_one] at hv529_0
   replace hv529_0:=Option.some.inj (hv529_0.symm.trans hx529_0)
   injection hv529_0 with hva_ hvn_ hvc_
   rw [hva_] at ge529_0
   rw [hvc_] at ul529_0
   have HL529_0:=am (show Kd.V (Kd.int .i64) 3 _ w.heap.size _ _ (rd_L1 t526 x5_1) from Kd.V_mk ul529_0 ge529_0)
   clear hva_ hvn_ hvc_ ge529_0 ul529_0
   clear hcc529 hce529
   have HR529_0:=am hi529_0
   have HC529_0:=am hl529_0
   clear hi529_0 hl529_0
   replace p529:=eq_true p529
   replace q529:=eq_true q529
   refine start_ (n:=6) (S:=fun w'=>w'.cell? ⟨gb522,0,none⟩ = some (.slice A0_0 l0_0.length c0_0)∧w'.cell? ⟨gb522,1,none⟩ = some (.slice A0_1 l0_1.length c0_1)∧w'.cell? (ad529.add (x5_1).toNat) = some (.slice A529_0 (rd_L1 t526 x5_1).length c529_0)) (ds:=[]) (ba 6 0) (by kernel_rfl) rfl rfl ⟨(blk_cell BK522.out 0).trans rfl,(blk_cell BK522.out 1).trans rfl,hx529_0⟩ (fun hHeld=>?_)
   generalize wr.drew = w14 at HO_4 BK522 HB HL529_0 HR529_0 hx529_0 hHeld ⊢
   refine pure_ (i:=1) (N:=some 16) (v:=?_) (a':=?_) (ba 6 2) rfl rfl (by kernel_rfl) (fun _ _ _ h=>h) (Or.inl ⟨by rfl,?_⟩) ?_ ?_
   rotate_left
   ·intro w'
    go_simp
    with_reducible rfl
   rotate_left
   ·simp only [Act.put,NRM]
    rfl
   refine pure_ (i:=2) (N:=some 17) (v:=?_) (a':=?_) (ba 6 6) rfl rfl (by kernel_rfl) (fun _ _ _ h=>h) (Or.inl ⟨by rfl,?_⟩) ?_ ?_
   rotate_left
   ·intro w'
    go_simp
    with_reducible rfl
   rotate_left
   ·simp only [Act.put,NRM]
    rfl
   refine pure_ (i:=3) (N:=some 18) (v:=?_) (a':=?_) (ba 6 14) rfl rfl (by kernel_rfl) (fun _ _ _ h=>h) (Or.inl ⟨by rfl,?_⟩) ?_ ?_
   rotate_left
   ·intro w'
    go_simp
    with_reducible rfl
   rotate_left
   ·simp only [Act.put,NRM]
    rfl
   refine take_ (i:=0) (N:=some 15) (v:=?_) (a':=?_) (ba 6 15) rfl rfl (by kernel_rfl) (fun _ _ _ h=>h) (Or.inl ⟨by rfl,?_⟩) hHeld ?_ ?_
   rotate_left
   ·rintro w' ⟨s0,s1,s2⟩
    go_simp
    with_reducible rfl
   rotate_left
   ·simp only [Act.put,NRM]
    rfl
   refine take_ (i:=4) (N:=some 19) (v:=?_) (a':=?_) (ba 6 31) rfl rfl (by kernel_rfl) (fun _ _ _ h=>h) (Or.inl ⟨by rfl,?_⟩) hHeld ?_ ?_
   rotate_left
   ·rintro w' ⟨s0,s1,s2⟩
    go_simp
    with_reducible rfl
   rotate_left
   ·simp only [Act.put,NRM]
    rfl
   refine one_ (i:=5) (N:=some 20) (ba 6 63) rfl rfl (by kernel_rfl) (by decide) (fun K hK=>?_)
   refine goes_ Tryz.func31 (by kernel_rfl) rfl #[.agg #[.slice A0_0 l0_0.length c0_0,.slice A0_1 l0_1.length c0_1],.slice A529_0 (rd_L1 t526 x5_1).length c529_0] (by rfl) rfl rfl (by (try simp only [List.map_toArray,List.map_cons,List.map_nil]);first | done | rfl | (simp only [List.length_drop,List.length_take];rfl)) ?_
   with_reducible refine (q8_Surely.calls k1 _ _ l0_0 _ _ l0_1 _ _ (rd_L1 t526 x5_1) true _ ?side1 ?side2 ?side3 ?side4 ?side5 ?side6 A11.out).mono ?_
   (case side1=>exact kC HR0_0.out HB.out)
   (case side2=>exact HC0_0.out)
   (case side3=>exact kC HR0_1.out HB.out)
   (case side4=>exact HC0_1.out)
   (case side5=>repeat (first | exact (by repeat (first | (with_reducible exact HR529_0.out) | (with_reducible refine Kd.C_alloc ?_ _) | (with_reducible refine Kd.C_drewN ?_ _) | (with_reducible refine Kd.C_drew ?_) | exact HR529_0.out)) | (with_reducible refine Kd.C_alloc ?_ _) | (with_reducible refine Kd.C_drewN ?_ _) | (with_reducible refine Kd.C_drew ?_)))
   (case side6=>exact HC529_0.out)
   rintro e w15 ⟨rfl,hb⟩
   have HS2_:=(hb.cell (World.block_lt_of_cell? _ _ (hHeld.2.2))).trans (hHeld.2.2)
   refine ⟨_,rfl,?_⟩
   replace HO_4:=am (Kd.N_below HO_4.out hb)
   replace HL529_0:=am (Kd.V_below HL529_0.out hb)
   replace BK522:=(kmv hb BK522)
   replace HR529_0:=am (kC (by repeat (first | (with_reducible exact HR529_0.out) | (with_reducible refine Kd.C_alloc ?_ _) | (with_reducible refine Kd.C_drewN ?_ _) | (with_reducible refine Kd.C_drew ?_) | exact HR529_0.out)) hb)
   replace HB:=am (below_step (HB.out) hb)
   (try clear hb)
   (try clear hb2)
   (try clear hk)
   (try clear hi)
   refine hK.out _ _ ⟨(blk_cell BK522.out 0).trans rfl,(blk_cell BK522.out 1).trans rfl,HS2_⟩ (fun hHeld=>?_)
   clear hK K
   refine norm_ (a':=?_) ?_ ?_
   rotate_left
   ·show Act.put _ (some 20) _ = _
    simp only [Act.put,NRM]
    rfl
   refine done_ (by kernel_rfl) ?_
   have p531 : 0≤(x5_1 : Int):=of_decide_eq_true (by assumption)
   have q531 : x5_1 < (t526.length : Int):=of_decide_eq_true (by assumption)
   obtain ⟨ad531,A531_0,c531_0,e531,hx531_0,hl531_0,hi531_0⟩:=at_L1 (Kd.N_reads' HO_4.out).2.2 x5_1 p531 q531
   obtain rfl : ad529 = ad531:=(by injection e531)
   obtain ⟨ce531,hce531,hMe531,hcc531⟩:=Kd.N_get HO_4.out [] x5_1 p531 (by first | exact q531 | exact of_decide_eq_true (by assumption) | (have e_:=(Kd.N_reads' HO_4.out).1;omega))
   obtain ⟨ua531_0,uc531_0,rfl,ul531_0,ge531_0⟩:=Kd.FK_slice_open hMe531
   have hv531_0:=hcc531 0 _ rfl
   rw [Nat.add_zero,show ((Kd.slice 3 (Kd.int .i64))).sz = 1 from rfl,Nat.mul_one] at hv531_0
   replace hv531_0:=Option.some.inj (hv531_0.symm.trans hx531_0)
   injection hv531_0 with hva_ hvn_ hvc_
   rw [hva_] at ge531_0
   rw [hvc_] at ul531_0
   have HL531_0:=am (show Kd.V (Kd.int .i64) 3 _ w.heap.size _ _ (rd_L1 t526 x5_1) from Kd.V_mk ul531_0 ge531_0)
   clear hva_ hvn_ hvc_ ge531_0 ul531_0
   clear hcc531 hce531
   have HR531_0:=am hi531_0
   have HC531_0:=am hl531_0
   clear hi531_0 hl531_0
   replace p531:=eq_true p531
   replace q531:=eq_true q531
   try go_wp2
   go_ret2
   exact ⟨_,by first | rfl | (simp [*]<;>rfl),by (with_reducible repeat (first | apply Kd.V_alloc | apply Kd.V_drewN | apply Kd.V_drew));first | (exact Kd.V_mono HL531_0.out (fun _ hk=>hk.1.1)) | (exact Kd.V_mono HL529_0.out (fun _ hk=>hk.1.1)),HB.out⟩
def q8_Clear.l0 : Nat→List Int→List Int→Int→List (S37)→List (S65)→Option (Bool)
 | 0,_,_,_,_,_=>none
 | k + 1,x1,x2,x7,x539000,x539001=>if x7 < (x2.length : Int) then (if 0≤x7 then ((q8_Listed.f k x1 (rd x2 x7)).bind fun t540=>(if t540 = true then (some false) else (q8_Clear.l0 k x1 x2 (wrap64 (x7 + 1)) x539000 x539001))) else (none)) else ((q8_Surely.f k x539000 x539001 x1).bind fun t541=>(some t541))
def q8_Clear.f (k : Nat) (l0_0 : List (S37)) (l0_1 : List (S65)) (l1 : List Int) (l2 : List Int) : Option (Bool):=q8_Clear.l0 k l1 l2 0 l0_0 l0_1
theorem q8_Clear.calls (k : Nat) (A0_0 : Option Addr) (c0_0 : Nat) (l0_0 : List (S37)) (A0_1 : Option Addr) (c0_1 : Nat) (l0_1 : List (S65)) (A1 : Option Addr) (c1 : Nat) (l1 : List Int) (A2 : Option Addr) (c2 : Nat) (l2 : List Int) (r : Bool) (w : World) (hr0_0 : Kd.C k37 w A0_0 l0_0.length l0_0) (hc0_0 : l0_0.length≤c0_0) (hr0_1 : Kd.C k65 w A0_1 l0_1.length l0_1) (hc0_1 : l0_1.length≤c0_1) (hr1 : Kd.C (Kd.int .i64) w A1 l1.length l1) (hc1 : l1.length≤c1) (hr2 : Kd.C (Kd.int .i64) w A2 l2.length l2) (hc2 : l2.length≤c2) (h : q8_Clear.f k l0_0 l0_1 l1 l2 = some r) :
 Calls Tryz.prog 83 #[.agg #[.slice A0_0 l0_0.length c0_0,.slice A0_1 l0_1.length c0_1],.slice A1 l1.length c1,.slice A2 l2.length c2] w fun e w'=>e = .returned (.bool r)∧Below w.heap.size w w':=by
 have hu25:=Tryz.underlying25
 have HR0_0:=am hr0_0
 have HC0_0:=am hc0_0
 clear hr0_0 hc0_0
 have HR0_1:=am hr0_1
 have HC0_1:=am hc0_1
 clear hr0_1 hc0_1
 have HR1:=am hr1
 have HC1:=am hc1
 clear hr1 hc1
 have HR2:=am hr2
 have HC2:=am hc2
 clear hr2 hc2
 have HB:=am (Below.refl w.heap.size w)
 have H : (q8_Clear.l0 k l1 l2 0 l0_0 l0_1) = some r:=h
 clear h
 replace H':=am H
 go_enter Tryz.func83,Tryz.ntmps83
 go_wp2_with (first | ((refine ga_dst (N:=3) rfl ?_);refine box_event rfl (N:=3) rfl (cs:=#[.slice A0_0 l0_0.length c0_0,.slice A0_1 l0_1.length c0_1]) (t:=25) ?hr ?_;(case hr=>go_simp;try rfl);intro gb538 hg w4 hbox hb;have BK538:=am (hbox);have GW538:=am (ge_new (HB.out) hg);have GE538:=am (ge_new (HB.out) hg);replace HB:=am (below_step (HB.out) hb);clear hb hbox hg))
 go_loopg [7] k (fun kq v7 w'=>∃ (x7_1 : Int),v7 = .int .i64 x7_1∧Aside0 (q8_Clear.l0 kq l1 l2 x7_1 l0_0 l0_1 = some r)∧Aside0 (kq≤k)∧Aside0 (w'.heap[gb538]? = some (.cells #[(.slice A0_0 l0_0.length c0_0),(.slice A0_1 l0_1.length c0_1)] 25 (0,0)))∧Aside0 (Below w.heap.size w w'))
 case atStart=>exact ⟨(0),(by first | rfl | (simp;done) | (simp [*];done)),H',⟨Nat.le_refl _⟩,⟨BK538.out⟩,⟨HB.out⟩⟩
 case round =>
  clear H'
  obtain ⟨x7_1,rfl,HA,HK1,BK538,HB⟩:=hrel
  cases gk with
  | zero=>exact absurd HA.out (by simp [q8_Clear.l0])
  | succ k1 =>
   have H:=HA.out
   clear HA
   simp only [q8_Clear.l0] at H
   by_cases c5 : x7_1 < (l2.length : Int)
   case neg =>
    rw [if_neg c5] at H
    have c5b0 : decide (x7_1 < (l2.length : Int)) = false:=decide_eq_false c5
    clear c5
    replace H:=obm H
    obtain ⟨t541,A90,H⟩:=H
    replace H : (some t541) = some r:=H
    have A9:=am A90
    clear A90
    obtain rfl:=Option.some.inj H
    obtain ⟨hcz10_0,hcz10_1⟩:=cO2 BK538.out
    go_wp2_with (first | ((with_reducible refine ga_callee (f:=31) rfl ?_);refine goesL_ (some 22) rfl rfl Tryz.func31 (by kernel_rfl) rfl #[.agg #[.slice A0_0 l0_0.length c0_0,.slice A0_1 l0_1.length c0_1],.slice A1 l1.length c1] rfl (by (try simp only [List.map_toArray,List.map_cons,List.map_nil]);first | done | rfl | (simp only [List.length_drop,List.length_take];rfl)) ?_;(refine (q8_Surely.calls k1 _ _ l0_0 _ _ l0_1 _ _ l1 t541 _ ?side1 ?side2 ?side3 ?side4 ?side5 ?side6 A9.out).mono ?_);(case side1=>exact kC HR0_0.out HB.out);(case side2=>exact HC0_0.out);(case side3=>exact kC HR0_1.out HB.out);(case side4=>exact HC0_1.out);(case side5=>exact kC HR1.out HB.out);(case side6=>exact HC1.out);rintro e w11 ⟨rfl,hb⟩;refine ⟨_,rfl,?_⟩;replace BK538:=(kmv hb BK538);replace HB:=am (below_step (HB.out) hb);(try clear hb);(try clear hb2);(try clear hk);(try clear hi)))
    go_ret
    exact ⟨by first | rfl | (simp [*]<;>rfl),HB.out⟩
   rw [if_pos c5] at H
   have c5b0 : decide (x7_1 < (l2.length : Int)) = true:=decide_eq_true c5
   clear c5
   by_cases c6 : 0≤x7_1
   case neg =>
    rw [if_neg c6] at H
    exact absurd H (by simp)
   rw [if_pos c6] at H
   have c6b0 : decide (0≤x7_1) = true:=decide_eq_true c6
   clear c6
   replace H:=obm H
   obtain ⟨t540,A70,H⟩:=H
   replace H : (if t540 = true then (some false) else (q8_Clear.l0 k1 l1 l2 (wrap64 (x7_1 + 1)) l0_0 l0_1)) = some r:=H
   have A7:=am A70
   clear A70
   by_cases c8 : t540 = true
   ·subst c8
    replace H : (some false) = some r:=by rw [if_pos rfl] at H;exact H
    obtain rfl:=Option.some.inj H
    have p539 : 0≤(x7_1 : Int):=of_decide_eq_true (by assumption)
    have q539 : x7_1 < (l2.length : Int):=of_decide_eq_true (by assumption)
    obtain ⟨ad539,e539,hx539_0⟩:=Kd.at_int HR2.out x7_1 p539 q539
    cases e539
    replace hx539_0:=(HB.out.cell (wbl hx539_0)).trans hx539_0
    replace p539:=eq_true p539
    replace q539:=eq_true q539
    go_wp2_with (first | ((with_reducible refine ga_callee (f:=43) rfl ?_);refine goesL_ (some 19) rfl rfl Tryz.func43 (by kernel_rfl) rfl #[.slice A1 l1.length c1,.int .i64 (rd l2 x7_1)] rfl (by (try simp only [List.map_toArray,List.map_cons,List.map_nil]);first | done | rfl | (simp only [List.length_drop,List.length_take];rfl)) ?_;(refine (q8_Listed.calls k1 _ _ l1 (rd l2 x7_1) true _ ?side1 ?side2 A7.out).mono ?_);(case side1=>exact kC HR1.out HB.out);(case side2=>exact HC1.out);rintro e w' ⟨rfl,⟨nd,rfl⟩⟩;refine ⟨_,rfl,?_⟩))
    go_ret
    exact ⟨by first | rfl | (simp [*]<;>rfl),pw_below_drewN HB.out _⟩
   ·replace c8:=Bool.eq_false_iff.mpr c8
    subst c8
    replace H : (q8_Clear.l0 k1 l1 l2 (wrap64 (x7_1 + 1)) l0_0 l0_1) = some r:=by rw [if_neg (show ¬ (false = true) by decide)] at H;exact H
    replace H':=am H
    have p539 : 0≤(x7_1 : Int):=of_decide_eq_true (by assumption)
    have q539 : x7_1 < (l2.length : Int):=of_decide_eq_true (by assumption)
    obtain ⟨ad539,e539,hx539_0⟩:=Kd.at_int HR2.out x7_1 p539 q539
    cases e539
    replace hx539_0:=(HB.out.cell (wbl hx539_0)).trans hx539_0
    replace p539:=eq_true p539
    replace q539:=eq_true q539
    go_wp2_with (first | ((with_reducible refine ga_callee (f:=43) rfl ?_);refine goesL_ (some 19) rfl rfl Tryz.func43 (by kernel_rfl) rfl #[.slice A1 l1.length c1,.int .i64 (rd l2 x7_1)] rfl (by (try simp only [List.map_toArray,List.map_cons,List.map_nil]);first | done | rfl | (simp only [List.length_drop,List.length_take];rfl)) ?_;(refine (q8_Listed.calls k1 _ _ l1 (rd l2 x7_1) false _ ?side1 ?side2 A7.out).mono ?_);(case side1=>exact kC HR1.out HB.out);(case side2=>exact HC1.out);rintro e w' ⟨rfl,⟨nd,rfl⟩⟩;refine ⟨_,rfl,?_⟩))
    go_roundg k1
    case measure=>have:=HK1.out;omega
    case rel=>exact ⟨(wrap64 (x7_1 + 1)),(by first | rfl | (simp;done) | (simp [*];done)),H',⟨by have:=HK1.out;omega⟩,⟨BK538.out⟩,⟨pw_below_drewN HB.out _⟩⟩
def q8_Moves.l0 : Nat→List Int→List Int→List (List Int)→Int→List (S37)→List (S65)→Option (List Int × Bool)
 | 0,_,_,_,_,_,_=>none
 | k + 1,x1,x2,x8,x9,x543000,x543001=>if x9 < (x8.length : Int) then (if 0≤x9 then ((q8_Moved.f k x543000 x543001 x1 (rd_L1 x8 x9)).bind fun t550=>((q8_Clear.f k x543000 x543001 t550 x2).bind fun t553=>(if t553 = true then (some (rd_L1 x8 x9,true)) else (q8_Moves.l0 k x1 x2 x8 (wrap64 (x9 + 1)) x543000 x543001)))) else (none)) else (some (([] : List Int),false))
def q8_Moves.f (k : Nat) (l0_0 : List (S37)) (l0_1 : List (S65)) (l1 : List Int) (l2 : List Int) : Option (List Int × Bool):=(q8_Gates.f k l0_0 l0_1).bind fun t543=>((q8_Shortest.f k t543).bind fun t546=>(q8_Moves.l0 k l1 l2 t546 0 l0_0 l0_1))
def q8_Moves.T5 : Bool × List (List Nat × List Nat):=(true,[([],[]),([],[]),([],[]),([],[]),([],[]),([3,4],[3,4]),([5],[5]),([1,2,6],[1,2,6]),([],[]),([0,7,8,7],[0,7,8])])
def q8_Moves.B5 : List Nat:=[0,0,0,0,0,24,56,126,0,511]
theorem q8_Moves.tab5 : rtab .any (opsOf Tryz.f37 5) = q8_Moves.T5:=by kernel_rfl
theorem q8_Moves.bits5 : waitsOk q8_Moves.T5.2 q8_Moves.B5 = true:=by kernel_rfl
theorem q8_Moves.calls (k : Nat) (A0_0 : Option Addr) (c0_0 : Nat) (l0_0 : List (S37)) (A0_1 : Option Addr) (c0_1 : Nat) (l0_1 : List (S65)) (A1 : Option Addr) (c1 : Nat) (l1 : List Int) (A2 : Option Addr) (c2 : Nat) (l2 : List Int) (r1 : List Int) (r2 : Bool) (w : World) (hr0_0 : Kd.C k37 w A0_0 l0_0.length l0_0) (hc0_0 : l0_0.length≤c0_0) (hr0_1 : Kd.C k65 w A0_1 l0_1.length l0_1) (hc0_1 : l0_1.length≤c0_1) (hr1 : Kd.C (Kd.int .i64) w A1 l1.length l1) (hc1 : l1.length≤c1) (hr2 : Kd.C (Kd.int .i64) w A2 l2.length l2) (hc2 : l2.length≤c2) (h : q8_Moves.f k l0_0 l0_1 l1 l2 = some (r1,r2)) :
 Calls Tryz.prog 37 #[.agg #[.slice A0_0 l0_0.length c0_0,.slice A0_1 l0_1.length c0_1],.slice A1 l1.length c1,.slice A2 l2.length c2] w fun e w'=>∃ v0_ : Value,e = .returned (.tuple #[v0_,.bool r2])∧Kd.V (Kd.int .i64) 3 w' w.heap.size (fun k_=>(w.heap.size≤k_)) v0_ r1∧Below w.heap.size w w':=by
 have hu25:=Tryz.underlying25
 have HR0_0:=am hr0_0
 have HC0_0:=am hc0_0
 clear hr0_0 hc0_0
 have HR0_1:=am hr0_1
 have HC0_1:=am hc0_1
 clear hr0_1 hc0_1
 have HR1:=am hr1
 have HC1:=am hc1
 clear hr1 hc1
 have HR2:=am hr2
 have HC2:=am hc2
 clear hr2 hc2
 have HB:=am (Below.refl w.heap.size w)
 have H : ((q8_Gates.f k l0_0 l0_1).bind fun t543=>((q8_Shortest.f k t543).bind fun t546=>(q8_Moves.l0 k l1 l2 t546 0 l0_0 l0_1))) = some (r1,r2):=h
 clear h
 replace H:=obm H
 obtain ⟨t543,A40,H⟩:=H
 replace H : ((q8_Shortest.f k t543).bind fun t546=>(q8_Moves.l0 k l1 l2 t546 0 l0_0 l0_1)) = some (r1,r2):=H
 have A4:=am A40
 clear A40
 replace H:=obm H
 obtain ⟨t546,A50,H⟩:=H
 replace H : (q8_Moves.l0 k l1 l2 t546 0 l0_0 l0_1) = some (r1,r2):=H
 have A5:=am A50
 clear A50
 replace H':=am H
 go_enter Tryz.func37,Tryz.ntmps37
 go_wp2_with (first | ((refine ga_dst (N:=3) rfl ?_);refine box_event rfl (N:=3) rfl (cs:=#[.slice A0_0 l0_0.length c0_0,.slice A0_1 l0_1.length c0_1]) (t:=25) ?hr ?_;(case hr=>go_simp;try rfl);intro gb542 hg w6 hbox hb;have BK542:=am (hbox);have GW542:=am (ge_new (HB.out) hg);have GE542:=am (ge_new (HB.out) hg);replace HB:=am (below_step (HB.out) hb);clear hb hbox hg;obtain ⟨hcz7_0,hcz7_1⟩:=cO2 BK542.out) | ((with_reducible refine ga_callee (f:=82) rfl ?_);refine goesL_ (some 11) rfl rfl Tryz.func82 (by kernel_rfl) rfl #[.agg #[.slice A0_0 l0_0.length c0_0,.slice A0_1 l0_1.length c0_1]] rfl (by (try simp only [List.map_toArray,List.map_cons,List.map_nil]);first | done | rfl | (simp only [List.length_drop,List.length_take];rfl)) ?_;(refine (q8_Gates.calls k _ _ l0_0 _ _ l0_1 t543 _ ?side1 ?side2 ?side3 ?side4 A4.out).mono ?_);(case side1=>exact kC HR0_0.out HB.out);(case side2=>exact HC0_0.out);(case side3=>exact kC HR0_1.out HB.out);(case side4=>exact HC0_1.out);rintro e w8 ⟨v544,rfl,ho0,hb⟩;refine ⟨_,rfl,?_⟩;have HO545:=am (Kd.R_lower (Kd.R_newM (M:=fun k_=>(w.heap.size≤k_)) ho0 (below_size (HB.out)) (fun k_ h_=>h_)) (below_size (HB.out)));replace BK542:=(kmv hb BK542);replace HB:=am (below_step (HB.out) hb);(try clear hb);(try clear hb2);(try clear hk);(try clear hi);(try clear ho0);obtain ⟨Ao9,co9,eo9⟩:=Kd.R_slice HO545.out;subst eo9) | ((with_reducible refine ga_callee (f:=67) rfl ?_);refine goesL_ (some 12) rfl rfl Tryz.func67 (by kernel_rfl) rfl #[.slice Ao9 t543.length co9] rfl (by (try simp only [List.map_toArray,List.map_cons,List.map_nil]);first | done | rfl | (simp only [List.length_drop,List.length_take];rfl)) ?_;(refine (q8_Shortest.calls k _ _ t543 t546 _ ?side1 ?side2 A5.out).mono ?_);(case side1=>repeat (first | exact (Kd.R_reads' HO545.out).2.2 | (with_reducible refine Kd.C_alloc ?_ _) | (with_reducible refine Kd.C_drewN ?_ _) | (with_reducible refine Kd.C_drew ?_)));(case side2=>exact (Kd.R_reads' HO545.out).2.1);rintro e w10 ⟨v547,rfl,ho0,hb⟩;refine ⟨_,rfl,?_⟩;have HO548:=am (Kd.N_lower (Kd.N_mono (ok':=fun k_=>(w.heap.size≤k_)∧some k_ ≠ (.slice Ao9 t543.length co9 : Value).ownBlock∧k_ ≠ gb542) ho0 (fun k_ hk_=>⟨(Nat.le_trans (below_size (HB.out)) hk_),(Kd.fresh' (Kd.R_lt HO545.out) k_ hk_),(Kd.freshB (g:=gb542) (o:=.cells #[.slice A0_0 l0_0.length c0_0,.slice A0_1 l0_1.length c0_1] 25 (0,0)) BK542.out k_ hk_)⟩)) (below_size (HB.out)));replace HO545:=am (Kd.R_below HO545.out hb);replace BK542:=(kmv hb BK542);replace HB:=am (below_step (HB.out) hb);(try clear hb);(try clear hb2);(try clear hk);(try clear hi);(try clear ho0)))
 go_loopg [9] k (fun kq v9 w'=>∃ (x9_1 : Int),v9 = .int .i64 x9_1∧Aside0 (q8_Moves.l0 kq l1 l2 t546 x9_1 l0_0 l0_1 = some (r1,r2))∧Aside0 (kq≤k)∧Aside0 (Kd.N (Kd.slice 3 (Kd.int .i64)) 26 w' w.heap.size (fun k_=>(w.heap.size≤k_)∧k_ ≠ gb542) v547 t546)∧Aside0 (w'.heap[gb542]? = some (.cells #[(.slice A0_0 l0_0.length c0_0),(.slice A0_1 l0_1.length c0_1)] 25 (0,0)))∧Aside0 (Below w.heap.size w w'))
 case atStart=>exact ⟨(0),(by first | rfl | (simp;done) | (simp [*];done)),H',⟨Nat.le_refl _⟩,⟨by (with_reducible repeat (first | apply Kd.N_alloc | apply Kd.N_drewN | apply Kd.N_drew));exact Kd.N_mono HO548.out (fun _ hk=>⟨hk.1,hk.2.2⟩)⟩,⟨BK542.out⟩,⟨HB.out⟩⟩
 case round =>
  clear H'
  obtain ⟨x9_1,rfl,HA,HK1,HO_8,BK542,HB⟩:=hrel
  cases gk with
  | zero=>exact absurd HA.out (by simp [q8_Moves.l0])
  | succ k1 =>
   have H:=HA.out
   clear HA
   simp only [q8_Moves.l0] at H
   by_cases c11 : x9_1 < (t546.length : Int)
   case neg =>
    rw [if_neg c11] at H
    have c11b0 : decide (x9_1 < (t546.length : Int)) = false:=decide_eq_false c11
    clear c11
    simp only [Option.some.injEq,Prod.mk.injEq] at H
    obtain ⟨rfl,rfl⟩:=H
    obtain ⟨Ao26,co26,eo26⟩:=Kd.N_slice HO_8.out
    subst eo26
    go_wp2
    go_ret2
    exact ⟨_,by first | rfl | (simp [*]<;>rfl),(by first | exact Kd.V_nil _ _ _ _ _ | exact Kd.R_V (by first | exact Kd.R_nil _ _ _ _ _ | exact Kd.N_nil _ _ _ _ _ | exact Kd.V_nil _ _ _ _ _ | exact Kd.Q_nil _ _ _ _ _ | exact Kd.S_nil _ _ _ _ _)),HB.out⟩
   rw [if_pos c11] at H
   have c11b0 : decide (x9_1 < (t546.length : Int)) = true:=decide_eq_true c11
   clear c11
   by_cases c12 : 0≤x9_1
   case neg =>
    rw [if_neg c12] at H
    exact absurd H (by simp)
   rw [if_pos c12] at H
   have c12b0 : decide (0≤x9_1) = true:=decide_eq_true c12
   clear c12
   replace H:=obm H
   obtain ⟨t550,A130,H⟩:=H
   replace H : ((q8_Clear.f k1 l0_0 l0_1 t550 l2).bind fun t553=>(if t553 = true then (some (rd_L1 t546 x9_1,true)) else (q8_Moves.l0 k1 l1 l2 t546 (wrap64 (x9_1 + 1)) l0_0 l0_1))) = some (r1,r2):=H
   have A13:=am A130
   clear A130
   replace H:=obm H
   obtain ⟨t553,A140,H⟩:=H
   replace H : (if t553 = true then (some (rd_L1 t546 x9_1,true)) else (q8_Moves.l0 k1 l1 l2 t546 (wrap64 (x9_1 + 1)) l0_0 l0_1)) = some (r1,r2):=H
   have A14:=am A140
   clear A140
   by_cases c15 : t553 = true
   case neg =>
    replace c15:=Bool.eq_false_iff.mpr c15
    subst c15
    replace H : (q8_Moves.l0 k1 l1 l2 t546 (wrap64 (x9_1 + 1)) l0_0 l0_1) = some (r1,r2):=by rw [if_neg (show ¬ (false = true) by decide)] at H;exact H
    replace H':=am H
    obtain ⟨Ao21,co21,eo21⟩:=Kd.N_slice HO_8.out
    subst eo21
    try go_wp2
    replace HO_8:=am (Kd.N_drew HO_8.out)
    replace BK542:=am (blk_drew BK542.out)
    replace HB:=am (below_drew1 HB.out)
    have p549 : 0≤(x9_1 : Int):=of_decide_eq_true (by assumption)
    have q549 : x9_1 < (t546.length : Int):=of_decide_eq_true (by assumption)
    obtain ⟨ad549,A549_0,c549_0,e549,hx549_0,hl549_0,hi549_0⟩:=at_L1 (Kd.N_reads' HO_8.out).2.2 x9_1 p549 q549
    cases e549
    obtain ⟨ce549,hce549,hMe549,hcc549⟩:=Kd.N_get HO_8.out [] x9_1 p549 (by first | exact q549 | exact of_decide_eq_true (by assumption) | (have e_:=(Kd.N_reads' HO_8.out).1;omega))
    obtain ⟨ua549_0,uc549_0,rfl,ul549_0,ge549_0⟩:=Kd.FK_slice_open hMe549
    have hv549_0:=hcc549 0 _ rfl
    rw [Nat.add_zero,show ((Kd.slice 3 (Kd.int .i64))).sz = 1 from rfl,Nat.mul_one] at hv549_0
    replace hv549_0:=Option.some.inj (hv549_0.symm.trans hx549_0)
    injection hv549_0 with hva_ hvn_ hvc_
    rw [hva_] at ge549_0
    rw [hvc_] at ul549_0
    have HL549_0:=am (show Kd.V (Kd.int .i64) 3 _ w.heap.size _ _ (rd_L1 t546 x9_1) from Kd.V_mk ul549_0 ge549_0)
    clear hva_ hvn_ hvc_ ge549_0 ul549_0
    clear hcc549 hce549
    have HR549_0:=am hi549_0
    have HC549_0:=am hl549_0
    clear hi549_0 hl549_0
    replace p549:=eq_true p549
    replace q549:=eq_true q549
    refine start_ (n:=10) (S:=fun w'=>w'.cell? ⟨gb542,0,none⟩ = some (.slice A0_0 l0_0.length c0_0)∧w'.cell? ⟨gb542,1,none⟩ = some (.slice A0_1 l0_1.length c0_1)∧w'.cell? (ad549.add (x9_1).toNat) = some (.slice A549_0 (rd_L1 t546 x9_1).length c549_0)) (ds:=[]) (ba 10 0) (by kernel_rfl) rfl rfl ⟨(blk_cell BK542.out 0).trans rfl,(blk_cell BK542.out 1).trans rfl,hx549_0⟩ (fun hHeld=>?_);refine with_tabW q8_Moves.tab5 q8_Moves.bits5 (fun HT_ HW_=>?_)
    generalize wr.drew = w22 at HO_8 BK542 HB HL549_0 HR549_0 hx549_0 hHeld ⊢
    refine pure_ (i:=2) (N:=some 21) (v:=?_) (a':=?_) (ba 10 4) rfl rfl (any_of HT_.out (by kernel_rfl)) (fun _ _ _ h=>h) (Or.inl ⟨by rfl,?_⟩) ?_ ?_
    rotate_left
    ·intro w'
     go_simp
     with_reducible rfl
    rotate_left
    ·simp only [Act.put,NRM]
     rfl
    refine pure_ (i:=3) (N:=some 22) (v:=?_) (a':=?_) (ba 10 12) rfl rfl (any_of HT_.out (by kernel_rfl)) (fun _ _ _ h=>h) (Or.inl ⟨by rfl,?_⟩) ?_ ?_
    rotate_left
    ·intro w'
     go_simp
     with_reducible rfl
    rotate_left
    ·simp only [Act.put,NRM]
     rfl
    refine pure_ (i:=4) (N:=some 23) (v:=?_) (a':=?_) (ba 10 28) rfl rfl (any_of HT_.out (by kernel_rfl)) (fun _ _ _ h=>h) (Or.inl ⟨by rfl,?_⟩) ?_ ?_
    rotate_left
    ·intro w'
     go_simp
     with_reducible rfl
    rotate_left
    ·simp only [Act.put,NRM]
     rfl
    refine pure_ (i:=5) (N:=some 24) (v:=?_) (a':=?_) (ba 10 60) rfl rfl (any_of HT_.out (by kernel_rfl)) (fun _ _ _ h=>h) (Or.inl ⟨by rfl,?_⟩) ?_ ?_
    rotate_left
    ·intro w'
     go_simp
     with_reducible rfl
    rotate_left
    ·simp only [Act.put,NRM]
     rfl
    refine pure_ (i:=8) (N:=some 27) (v:=?_) (a':=?_) (ba 10 316) rfl rfl (any_of HT_.out (by kernel_rfl)) (fun _ _ _ h=>h) (Or.inl ⟨by rfl,?_⟩) ?_ ?_
    rotate_left
    ·intro w'
     go_simp
     with_reducible rfl
    rotate_left
    ·simp only [Act.put,NRM]
     rfl
    refine take_ (i:=0) (N:=some 19) (v:=?_) (a':=?_) (ba 10 317) rfl rfl (take_ofW HT_.out HW_.out (by kernel_rfl)) (fun _ _ _ h=>h) (Or.inl ⟨by rfl,?_⟩) hHeld ?_ ?_
    rotate_left
    ·rintro w' ⟨s0,s1,s2⟩
     go_simp
     with_reducible rfl
    rotate_left
    ·simp only [Act.put,NRM]
     rfl
    refine take_ (i:=1) (N:=some 20) (v:=?_) (a':=?_) (ba 10 319) rfl rfl (take_ofW HT_.out HW_.out (by kernel_rfl)) (fun _ _ _ h=>h) (Or.inl ⟨by rfl,?_⟩) hHeld ?_ ?_
    rotate_left
    ·rintro w' ⟨s0,s1,s2⟩
     go_simp
     with_reducible rfl
    rotate_left
    ·simp only [Act.put,NRM]
     rfl
    refine take_ (i:=6) (N:=some 25) (v:=?_) (a':=?_) (ba 10 383) rfl rfl (take_ofW HT_.out HW_.out (by kernel_rfl)) (fun _ _ _ h=>h) (Or.inl ⟨by rfl,?_⟩) hHeld ?_ ?_
    rotate_left
    ·rintro w' ⟨s0,s1,s2⟩
     go_simp
     with_reducible rfl
    rotate_left
    ·simp only [Act.put,NRM]
     rfl
    refine one_ (i:=7) (N:=some 26) (ba 10 511) rfl rfl (one_of HT_.out (by kernel_rfl)) (by decide) (fun K hK=>?_)
    refine goes_ Tryz.func44 (by kernel_rfl) rfl #[.agg #[.slice A0_0 l0_0.length c0_0,.slice A0_1 l0_1.length c0_1],.slice A1 l1.length c1,.slice A549_0 (rd_L1 t546 x9_1).length c549_0] (by rfl) rfl rfl (by (try simp only [List.map_toArray,List.map_cons,List.map_nil]);first | done | rfl | (simp only [List.length_drop,List.length_take];rfl)) ?_
    with_reducible refine (q8_Moved.calls k1 _ _ l0_0 _ _ l0_1 _ _ l1 _ _ (rd_L1 t546 x9_1) t550 _ ?side1 ?side2 ?side3 ?side4 ?side5 ?side6 ?side7 ?side8 A13.out).mono ?_
    (case side1=>exact kC HR0_0.out HB.out)
    (case side2=>exact HC0_0.out)
    (case side3=>exact kC HR0_1.out HB.out)
    (case side4=>exact HC0_1.out)
    (case side5=>exact kC HR1.out HB.out)
    (case side6=>exact HC1.out)
    (case side7=>repeat (first | exact (by repeat (first | (with_reducible exact HR549_0.out) | (with_reducible refine Kd.C_alloc ?_ _) | (with_reducible refine Kd.C_drewN ?_ _) | (with_reducible refine Kd.C_drew ?_) | exact HR549_0.out)) | (with_reducible refine Kd.C_alloc ?_ _) | (with_reducible refine Kd.C_drewN ?_ _) | (with_reducible refine Kd.C_drew ?_)))
    (case side8=>exact HC549_0.out)
    rintro e w23 ⟨v551,rfl,ho0,hb⟩
    have HS2_:=(hb.cell (World.block_lt_of_cell? _ _ (hHeld.2.2))).trans (hHeld.2.2)
    refine ⟨_,rfl,?_⟩
    have HO552:=am (Kd.R_lower (Kd.R_newM (M:=fun k_=>(w.heap.size≤k_)) ho0 (below_size (HB.out)) (fun k_ h_=>h_)) (below_size (HB.out)))
    replace HO_8:=am (Kd.N_elder' HO_8.out (Kd.R_base ho0) hb)
    replace HL549_0:=am (Kd.V_elder' HL549_0.out (Kd.R_base ho0) hb)
    replace BK542:=(kmv hb BK542)
    replace HR549_0:=am (kC (by repeat (first | (with_reducible exact HR549_0.out) | (with_reducible refine Kd.C_alloc ?_ _) | (with_reducible refine Kd.C_drewN ?_ _) | (with_reducible refine Kd.C_drew ?_) | exact HR549_0.out)) hb)
    replace HB:=am (below_step (HB.out) hb)
    (try clear hb)
    (try clear hb2)
    (try clear hk)
    (try clear hi)
    (try clear ho0)
    obtain ⟨Ao24,co24,eo24⟩:=Kd.R_slice HO552.out
    (first | subst eo24 | (injection eo24 with f1_ f2_ f3_;have f4_:=f1_.symm;have f5_:=f3_.symm;clear f1_ f2_ f3_;subst f4_;subst f5_))
    refine hK.out _ _ ⟨(blk_cell BK542.out 0).trans rfl,(blk_cell BK542.out 1).trans rfl,HS2_⟩ (fun hHeld=>?_)
    clear hK K
    refine norm_ (a':=?_) ?_ ?_
    rotate_left
    ·show Act.put _ (some 26) _ = _
     simp only [Act.put,NRM]
     rfl
    refine one_ (i:=9) (N:=some 28) (ba 10 1023) rfl rfl (one_of HT_.out (by kernel_rfl)) (by decide) (fun K hK=>?_)
    refine goes_ Tryz.func83 (by kernel_rfl) rfl #[.agg #[.slice A0_0 l0_0.length c0_0,.slice A0_1 l0_1.length c0_1],.slice Ao24 t550.length co24,.slice A2 l2.length c2] (by rfl) rfl rfl (by (try simp only [List.map_toArray,List.map_cons,List.map_nil]);first | done | rfl | (simp only [List.length_drop,List.length_take];rfl)) ?_
    with_reducible refine (q8_Clear.calls k1 _ _ l0_0 _ _ l0_1 _ _ t550 _ _ l2 false _ ?side1 ?side2 ?side3 ?side4 ?side5 ?side6 ?side7 ?side8 A14.out).mono ?_
    (case side1=>exact kC HR0_0.out HB.out)
    (case side2=>exact HC0_0.out)
    (case side3=>exact kC HR0_1.out HB.out)
    (case side4=>exact HC0_1.out)
    (case side5=>repeat (first | exact (Kd.R_reads' HO552.out).2.2 | (with_reducible refine Kd.C_alloc ?_ _) | (with_reducible refine Kd.C_drewN ?_ _) | (with_reducible refine Kd.C_drew ?_)))
    (case side6=>exact (Kd.R_reads' HO552.out).2.1)
    (case side7=>exact kC HR2.out HB.out)
    (case side8=>exact HC2.out)
    rintro e w25 ⟨rfl,hb⟩
    have HS2_:=(hb.cell (World.block_lt_of_cell? _ _ (hHeld.2.2))).trans (hHeld.2.2)
    refine ⟨_,rfl,?_⟩
    replace HO_8:=am (Kd.N_below HO_8.out hb)
    replace HL549_0:=am (Kd.V_below HL549_0.out hb)
    replace HO552:=am (Kd.R_below HO552.out hb)
    replace BK542:=(kmv hb BK542)
    replace HR549_0:=am (kC (by repeat (first | (with_reducible exact HR549_0.out) | (with_reducible refine Kd.C_alloc ?_ _) | (with_reducible refine Kd.C_drewN ?_ _) | (with_reducible refine Kd.C_drew ?_) | exact HR549_0.out)) hb)
    replace HB:=am (below_step (HB.out) hb)
    (try clear hb)
    (try clear hb2)
    (try clear hk)
    (try clear hi)
    refine hK.out _ _ ⟨(blk_cell BK542.out 0).trans rfl,(blk_cell BK542.out 1).trans rfl,HS2_⟩ (fun hHeld=>?_)
    clear hK K
    refine norm_ (a':=?_) ?_ ?_
    rotate_left
    ·show Act.put _ (some 28) _ = _
     simp only [Act.put,NRM]
     rfl
    refine done_ (done_of HT_.out (by kernel_rfl)) ?_
    try go_wp2
    go_roundg k1
    case measure=>have:=HK1.out;omega
    case rel=>exact ⟨(wrap64 (x9_1 + 1)),(by first | rfl | (simp;done) | (simp [*];done)),H',⟨by have:=HK1.out;omega⟩,⟨by (with_reducible repeat (first | apply Kd.N_alloc | apply Kd.N_drewN | apply Kd.N_drew));exact Kd.N_mono HO_8.out (fun _ hk=>⟨hk.1.1,hk.1.2⟩)⟩,⟨BK542.out⟩,⟨HB.out⟩⟩
   subst c15
   replace H : (some (rd_L1 t546 x9_1,true)) = some (r1,r2):=by rw [if_pos rfl] at H;exact H
   simp only [Option.some.injEq,Prod.mk.injEq] at H
   obtain ⟨rfl,rfl⟩:=H
   obtain ⟨Ao16,co16,eo16⟩:=Kd.N_slice HO_8.out
   subst eo16
   try go_wp2
   replace HO_8:=am (Kd.N_drew HO_8.out)
   replace BK542:=am (blk_drew BK542.out)
   replace HB:=am (below_drew1 HB.out)
   have p549 : 0≤(x9_1 : Int):=of_decide_eq_true (by assumption)
   have q549 : x9_1 < (t546.length : Int):=of_decide_eq_true (by assumption)
   obtain ⟨ad549,A549_0,c549_0,e549,hx549_0,hl549_0,hi549_0⟩:=at_L1 (Kd.N_reads' HO_8.out).2.2 x9_1 p549 q549
   cases e549
   obtain ⟨ce549,hce549,hMe549,hcc549⟩:=Kd.N_get HO_8.out [] x9_1 p549 (by first | exact q549 | exact of_decide_eq_true (by assumption) | (have e_:=(Kd.N_reads' HO_8.out).1;omega))
   obtain ⟨ua549_0,uc549_0,rfl,ul549_0,ge549_0⟩:=Kd.FK_slice_open hMe549
   have hv549_0:=hcc549 0 _ rfl
   rw [Nat.add_zero,show ((Kd.slice 3 (Kd.int .i64))).sz = 1 from rfl,Nat.mul_one] at hv549_0
   replace hv549_0:=Option.some.inj (hv549_0.symm.trans hx549_0)
   injection hv549_0 with hva_ hvn_ hvc_
   rw [hva_] at ge549_0
   rw [hvc_] at ul549_0
   have HL549_0:=am (show Kd.V (Kd.int .i64) 3 _ w.heap.size _ _ (rd_L1 t546 x9_1) from Kd.V_mk ul549_0 ge549_0)
   clear hva_ hvn_ hvc_ ge549_0 ul549_0
   clear hcc549 hce549
   have HR549_0:=am hi549_0
   have HC549_0:=am hl549_0
   clear hi549_0 hl549_0
   replace p549:=eq_true p549
   replace q549:=eq_true q549
   refine start_ (n:=10) (S:=fun w'=>w'.cell? ⟨gb542,0,none⟩ = some (.slice A0_0 l0_0.length c0_0)∧w'.cell? ⟨gb542,1,none⟩ = some (.slice A0_1 l0_1.length c0_1)∧w'.cell? (ad549.add (x9_1).toNat) = some (.slice A549_0 (rd_L1 t546 x9_1).length c549_0)) (ds:=[]) (ba 10 0) (by kernel_rfl) rfl rfl ⟨(blk_cell BK542.out 0).trans rfl,(blk_cell BK542.out 1).trans rfl,hx549_0⟩ (fun hHeld=>?_);refine with_tabW q8_Moves.tab5 q8_Moves.bits5 (fun HT_ HW_=>?_)
   generalize wr.drew = w17 at HO_8 BK542 HB HL549_0 HR549_0 hx549_0 hHeld ⊢
   refine pure_ (i:=2) (N:=some 21) (v:=?_) (a':=?_) (ba 10 4) rfl rfl (any_of HT_.out (by kernel_rfl)) (fun _ _ _ h=>h) (Or.inl ⟨by rfl,?_⟩) ?_ ?_
   rotate_left
   ·intro w'
    go_simp
    with_reducible rfl
   rotate_left
   ·simp only [Act.put,NRM]
    rfl
   refine pure_ (i:=3) (N:=some 22) (v:=?_) (a':=?_) (ba 10 12) rfl rfl (any_of HT_.out (by kernel_rfl)) (fun _ _ _ h=>h) (Or.inl ⟨by rfl,?_⟩) ?_ ?_
   rotate_left
   ·intro w'
    go_simp
    with_reducible rfl
   rotate_left
   ·simp only [Act.put,NRM]
    rfl
   refine pure_ (i:=4) (N:=some 23) (v:=?_) (a':=?_) (ba 10 28) rfl rfl (any_of HT_.out (by kernel_rfl)) (fun _ _ _ h=>h) (Or.inl ⟨by rfl,?_⟩) ?_ ?_
   rotate_left
   ·intro w'
    go_simp
    with_reducible rfl
   rotate_left
   ·simp only [Act.put,NRM]
    rfl
   refine pure_ (i:=5) (N:=some 24) (v:=?_) (a':=?_) (ba 10 60) rfl rfl (any_of HT_.out (by kernel_rfl)) (fun _ _ _ h=>h) (Or.inl ⟨by rfl,?_⟩) ?_ ?_
   rotate_left
   ·intro w'
    go_simp
    with_reducible rfl
   rotate_left
   ·simp only [Act.put,NRM]
    rfl
   refine pure_ (i:=8) (N:=some 27) (v:=?_) (a':=?_) (ba 10 316) rfl rfl (any_of HT_.out (by kernel_rfl)) (fun _ _ _ h=>h) (Or.inl ⟨by rfl,?_⟩) ?_ ?_
   rotate_left
   ·intro w'
    go_simp
    with_reducible rfl
   rotate_left
   ·simp only [Act.put,NRM]
    rfl
   refine take_ (i:=0) (N:=some 19) (v:=?_) (a':=?_) (ba 10 317) rfl rfl (take_ofW HT_.out HW_.out (by kernel_rfl)) (fun _ _ _ h=>h) (Or.inl ⟨by rfl,?_⟩) hHeld ?_ ?_
   rotate_left
   ·rintro w' ⟨s0,s1,s2⟩
    go_simp
    with_reducible rfl
   rotate_left
   ·simp only [Act.put,NRM]
    rfl
   refine take_ (i:=1) (N:=some 20) (v:=?_) (a':=?_) (ba 10 319) rfl rfl (take_ofW HT_.out HW_.out (by kernel_rfl)) (fun _ _ _ h=>h) (Or.inl ⟨by rfl,?_⟩) hHeld ?_ ?_
   rotate_left
   ·rintro w' ⟨s0,s1,s2⟩
    go_simp
    with_reducible rfl
   rotate_left
   ·simp only [Act.put,NRM]
    rfl
   refine take_ (i:=6) (N:=some 25) (v:=?_) (a':=?_) (ba 10 383) rfl rfl (take_ofW HT_.out HW_.out (by kernel_rfl)) (fun _ _ _ h=>h) (Or.inl ⟨by rfl,?_⟩) hHeld ?_ ?_
   rotate_left
   ·rintro w' ⟨s0,s1,s2⟩
    go_simp
    with_reducible rfl
   rotate_left
   ·simp only [Act.put,NRM]
    rfl
   refine one_ (i:=7) (N:=some 26) (ba 10 511) rfl rfl (one_of HT_.out (by kernel_rfl)) (by decide) (fun K hK=>?_)
   refine goes_ Tryz.func44 (by kernel_rfl) rfl #[.agg #[.slice A0_0 l0_0.length c0_0,.slice A0_1 l0_1.length c0_1],.slice A1 l1.length c1,.slice A549_0 (rd_L1 t546 x9_1).length c549_0] (by rfl) rfl rfl (by (try simp only [List.map_toArray,List.map_cons,List.map_nil]);first | done | rfl | (simp only [List.length_drop,List.length_take];rfl)) ?_
   with_reducible refine (q8_Moved.calls k1 _ _ l0_0 _ _ l0_1 _ _ l1 _ _ (rd_L1 t546 x9_1) t550 _ ?side1 ?side2 ?side3 ?side4 ?side5 ?side6 ?side7 ?side8 A13.out).mono ?_
   (case side1=>exact kC HR0_0.out HB.out)
   (case side2=>exact HC0_0.out)
   (case side3=>exact kC HR0_1.out HB.out)
   (case side4=>exact HC0_1.out)
   (case side5=>exact kC HR1.out HB.out)
   (case side6=>exact HC1.out)
   (case side7=>repeat (first | exact (by repeat (first | (with_reducible exact HR549_0.out) | (with_reducible refine Kd.C_alloc ?_ _) | (with_reducible refine Kd.C_drewN ?_ _) | (with_reducible refine Kd.C_drew ?_) | exact HR549_0.out)) | (with_reducible refine Kd.C_alloc ?_ _) | (with_reducible refine Kd.C_drewN ?_ _) | (with_reducible refine Kd.C_drew ?_)))
   (case side8=>exact HC549_0.out)
   rintro e w18 ⟨v551,rfl,ho0,hb⟩
   have HS2_:=(hb.cell (World.block_lt_of_cell? _ _ (hHeld.2.2))).trans (hHeld.2.2)
   refine ⟨_,rfl,?_⟩
   have HO552:=am (Kd.R_lower (Kd.R_newM (M:=fun k_=>(w.heap.size≤k_)) ho0 (below_size (HB.out)) (fun k_ h_=>h_)) (below_size (HB.out)))
   replace HO_8:=am (Kd.N_elder' HO_8.out (Kd.R_base ho0) hb)
   replace HL549_0:=am (Kd.V_elder' HL549_0.out (Kd.R_base ho0) hb)
   replace BK542:=(kmv hb BK542)
   replace HR549_0:=am (kC (by repeat (first | (with_reducible exact HR549_0.out) | (with_reducible refine Kd.C_alloc ?_ _) | (with_reducible refine Kd.C_drewN ?_ _) | (with_reducible refine Kd.C_drew ?_) | exact HR549_0.out)) hb)
   replace HB:=am (below_step (HB.out) hb)
   (try clear hb)
   (try clear hb2)
   (try clear hk)
   (try clear hi)
   (try clear ho0)
   obtain ⟨Ao19,co19,eo19⟩:=Kd.R_slice HO552.out
   (first | subst eo19 | (injection eo19 with f1_ f2_ f3_;have f4_:=f1_.symm;have f5_:=f3_.symm;clear f1_ f2_ f3_;subst f4_;subst f5_))
   refine hK.out _ _ ⟨(blk_cell BK542.out 0).trans rfl,(blk_cell BK542.out 1).trans rfl,HS2_⟩ (fun hHeld=>?_)
   clear hK K
   refine norm_ (a':=?_) ?_ ?_
   rotate_left
   ·show Act.put _ (some 26) _ = _
    simp only [Act.put,NRM]
    rfl
   refine one_ (i:=9) (N:=some 28) (ba 10 1023) rfl rfl (one_of HT_.out (by kernel_rfl)) (by decide) (fun K hK=>?_)
   refine goes_ Tryz.func83 (by kernel_rfl) rfl #[.agg #[.slice A0_0 l0_0.length c0_0,.slice A0_1 l0_1.length c0_1],.slice Ao19 t550.length co19,.slice A2 l2.length c2] (by rfl) rfl rfl (by (try simp only [List.map_toArray,List.map_cons,List.map_nil]);first | done | rfl | (simp only [List.length_drop,List.length_take];rfl)) ?_
   with_reducible refine (q8_Clear.calls k1 _ _ l0_0 _ _ l0_1 _ _ t550 _ _ l2 true _ ?side1 ?side2 ?side3 ?side4 ?side5 ?side6 ?side7 ?side8 A14.out).mono ?_
   (case side1=>exact kC HR0_0.out HB.out)
   (case side2=>exact HC0_0.out)
   (case side3=>exact kC HR0_1.out HB.out)
   (case side4=>exact HC0_1.out)
   (case side5=>repeat (first | exact (Kd.R_reads' HO552.out).2.2 | (with_reducible refine Kd.C_alloc ?_ _) | (with_reducible refine Kd.C_drewN ?_ _) | (with_reducible refine Kd.C_drew ?_)))
   (case side6=>exact (Kd.R_reads' HO552.out).2.1)
   (case side7=>exact kC HR2.out HB.out)
   (case side8=>exact HC2.out)
   rintro e w20 ⟨rfl,hb⟩
   have HS2_:=(hb.cell (World.block_lt_of_cell? _ _ (hHeld.2.2))).trans (hHeld.2.2)
   refine ⟨_,rfl,?_⟩
   replace HO_8:=am (Kd.N_below HO_8.out hb)
   replace HL549_0:=am (Kd.V_below HL549_0.out hb)
   replace HO552:=am (Kd.R_below HO552.out hb)
   replace BK542:=(kmv hb BK542)
   replace HR549_0:=am (kC (by repeat (first | (with_reducible exact HR549_0.out) | (with_reducible refine Kd.C_alloc ?_ _) | (with_reducible refine Kd.C_drewN ?_ _) | (with_reducible refine Kd.C_drew ?_) | exact HR549_0.out)) hb)
   replace HB:=am (below_step (HB.out) hb)
   (try clear hb)
   (try clear hb2)
   (try clear hk)
   (try clear hi)
   refine hK.out _ _ ⟨(blk_cell BK542.out 0).trans rfl,(blk_cell BK542.out 1).trans rfl,HS2_⟩ (fun hHeld=>?_)
   clear hK K
   refine norm_ (a':=?_) ?_ ?_
   rotate_left
   ·show Act.put _ (some 28) _ = _
    simp only [Act.put,NRM]
    rfl
   refine done_ (done_of HT_.out (by kernel_rfl)) ?_
   have p554 : 0≤(x9_1 : Int):=of_decide_eq_true (by assumption)
   have q554 : x9_1 < (t546.length : Int):=of_decide_eq_true (by assumption)
   obtain ⟨ad554,A554_0,c554_0,e554,hx554_0,hl554_0,hi554_0⟩:=at_L1 (Kd.N_reads' HO_8.out).2.2 x9_1 p554 q554
   obtain rfl : ad549 = ad554:=(by injection e554)
   obtain ⟨ce554,hce554,hMe554,hcc554⟩:=Kd.N_get HO_8.out [] x9_1 p554 (by first | exact q554 | exact of_decide_eq_true (by assumption) | (have e_:=(Kd.N_reads' HO_8.out).1;omega))
   obtain ⟨ua554_0,uc554_0,rfl,ul554_0,ge554_0⟩:=Kd.FK_slice_open hMe554
   have hv554_0:=hcc554 0 _ rfl
   rw [Nat.add_zero,show ((Kd.slice 3 (Kd.int .i64))).sz = 1 from rfl,Nat.mul_one] at hv554_0
   replace hv554_0:=Option.some.inj (hv554_0.symm.trans hx554_0)
   injection hv554_0 with hva_ hvn_ hvc_
   rw [hva_] at ge554_0
   rw [hvc_] at ul554_0
   have HL554_0:=am (show Kd.V (Kd.int .i64) 3 _ w.heap.size _ _ (rd_L1 t546 x9_1) from Kd.V_mk ul554_0 ge554_0)
   clear hva_ hvn_ hvc_ ge554_0 ul554_0
   clear hcc554 hce554
   have HR554_0:=am hi554_0
   have HC554_0:=am hl554_0
   clear hi554_0 hl554_0
   replace p554:=eq_true p554
   replace q554:=eq_true q554
   try go_wp2
   go_ret2
   exact ⟨_,by first | rfl | (simp [*]<;>rfl),by (with_reducible repeat (first | apply Kd.V_alloc | apply Kd.V_drewN | apply Kd.V_drew));first | (exact Kd.V_mono HL554_0.out (fun _ hk=>hk.1.1.1)) | (exact Kd.V_mono HL549_0.out (fun _ hk=>hk.1.1.1)),HB.out⟩
end Go.Proofs.YtclkbedbocnpkaaGreatDoor.C

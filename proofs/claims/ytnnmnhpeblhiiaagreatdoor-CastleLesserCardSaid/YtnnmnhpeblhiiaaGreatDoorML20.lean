/- A part of the proof: the walks of the functions that it reaches. TIGHT. -/
import Derived.Test.YtnnmnhpeblhiiaaGreatDoorML19
import Derived.Laws.EntriesVeiled
set_option linter.unusedSimpArgs false
set_option linter.unusedVariables false
namespace Go.Proofs.YtnnmnhpeblhiiaaGreatDoor.C
open Go.RowKit Go.Proofs.YtnnmnhpeblhiiaaGreatDoorW.PrintWords Go.Proofs.YtnnmnhpeblhiiaaGreatDoorW.PrintLast Go.Proofs.YtnnmnhpeblhiiaaGreatDoorW.PrintMore
set_option maxHeartbeats 16000000
set_option maxRecDepth 100000
def sufGo (shares : List Int) : List Int→Int→Option Bool
 | [],_=>some true
 | n :: rest,i=>if i < (shares.length : Int) then (if rd shares i < n then some false else sufGo shares rest (i + 1)) else none
def suffice.f (k : Nat) (lA : List S126) (aA : Int) (lB : List S48) (a0_3 aC : Int) (cups : Int) (claims l1 : List Int) : Option Bool:=
 (ca_moved.f k lA aA lB a0_3 aC l1).bind fun x=>(ca_fill.f (fillK x.2.1.length) lA x.1 x.2.1 x.2.2.1 x.2.2.2).bind fun y=>(gf_shares.f k lA y.1 x.2.1 y.2.1 y.2.2.1 y.2.2.2 cups).bind fun z=>sufGo z.1 claims 0
theorem suffice.calls (k : Nat) (gb gq gc : Nat) (AX : Option Addr) (c0_0 : Nat) (lA : List S126) (aA : Int) (AY : Option Addr) (cB : Nat) (lB : List S48) (a0_3 aC cups : Int) (A3 : Option Addr) (c3 : Nat) (claims : List Int) (A1 : Option Addr) (c1 : Nat) (l1 : List Int) (r : Bool) (w : World)
 (bb : w.heap[gb]? = some (.cells #[.slice AX lA.length c0_0,.int .i64 aA,.slice AY lB.length cB,.int .i64 a0_3,.int .i64 aC] 27 (0,0))) (bq : w.heap[gq]? = some (.cells #[.int .i64 cups] 3 (0,0))) (bc : w.heap[gc]? = some (.cells #[.slice A3 claims.length c3] 28 (0,0)))
 (hra : Kd.C k126 w AX lA.length lA) (hc0_0 : lA.length≤c0_0) (hrb : Kd.C k48 w AY lB.length lB) (hcb : lB.length≤cB) (hr3 : Kd.C (Kd.int .i64) w A3 claims.length claims) (hr1 : Kd.C (Kd.int .i64) w A1 l1.length l1) (hc1 : l1.length≤c1)
 (h : suffice.f k lA aA lB a0_3 aC cups claims l1 = some r) :
 Calls Tryz.prog 68 #[.slice A1 l1.length c1,.pointer (some ⟨gb,0,none⟩),.pointer (some ⟨gq,0,none⟩),.pointer (some ⟨gc,0,none⟩)] w fun e w'=>e = .returned (.bool r)∧Below w.heap.size w w':=by
 have hu:=Tryz.underlying27
 have hm:=am (Kd.C_max hr3)
 unfold suffice.f at h
 obtain ⟨⟨x1,x2,x3,x4⟩,hx,h⟩:=obm h
 obtain ⟨⟨y1,y2,y3,y4⟩,hy,h⟩:=obm h
 obtain ⟨⟨z1,z2⟩,hz,h⟩:=obm h
 dsimp only at h hx hy hz
 have H1:=am hx
 have H2:=am hy
 have H3:=am hz
 have HQ:=am h
 clear hx hy hz h
 have HR0:=am hra
 have HC0:=am hc0_0
 have HR2:=am hrb
 have HC2:=am hcb
 have HR3:=am hr3
 have HR1:=am hr1
 have HC1:=am hc1
 clear hra hc0_0 hrb hcb hr3 hr1 hc1
 have HB:=am (Below.refl w.heap.size w)
 have BKb:=am bb
 have BKq:=am bq
 have BKc:=am bc
 clear bb bq bc
 obtain ⟨hczb_0,hczb_1,hczb_2,hczb_3,hczb_4⟩:=cO5 BKb.out
 have hczq_0:=cO1 BKq.out
 have hczc_0:=cO1 BKc.out
 go_enter Tryz.func68,Tryz.ntmps68
 go_wp2
 go_region_held3 (fun W=>W.cell? ⟨gb,0,none⟩ = some (.slice AX lA.length c0_0)∧W.cell? ⟨gb,1,none⟩ = some (.int .i64 aA)∧W.cell? ⟨gb,2,none⟩ = some (.slice AY lB.length cB)∧W.cell? ⟨gb,3,none⟩ = some (.int .i64 a0_3)∧W.cell? ⟨gb,4,none⟩ = some (.int .i64 aC)∧W.cell? ⟨gq,0,none⟩ = some (.int .i64 cups)) (first | go_keep | (exact ⟨(zqe BKb.out 0).trans rfl,(zqe BKb.out 1).trans rfl,(zqe BKb.out 2).trans rfl,(zqe BKb.out 3).trans rfl,(zqe BKb.out 4).trans rfl,(zqe BKq.out 0).trans rfl⟩)) ((first | (go_at_call 70;refine (ca_moved.calls k AX c0_0 lA aA AY cB lB a0_3 aC A1 c1 l1 x1 x2 x3 x4 _ (kC HR0.out (zw1 HB.out)) HC0.out (kC HR2.out (zw1 HB.out)) HC2.out (kC HR1.out (zw1 HB.out)) HC1.out H1.out).mono ?_;rintro e wm ⟨vm,rfl,hr,hb⟩;have n0:=am (zq0 (zw1 HB.out) ((zw1 HB.out)).size hb);have nb:=am (zqh (zqj BKb.out) hb);have nq:=am (zqh (zqj BKq.out) hb);have nc:=am (zqh (zqj BKc.out) hb);obtain ⟨Am,cm,rfl,hlm,hcm⟩:=Kd.R_reads hr;have HRm:=am hcm;have HCm:=am hlm;clear hr hcm hlm;clear HB hb BKb BKq BKc;have HB:=n0;have BKb:=nb;clear nb;have BKq:=nq;clear nq;have BKc:=nc;clear nc;clear n0;(try clear hczb_0 hczb_1 hczb_2 hczb_3 hczb_4 hczq_0 hczc_0);obtain ⟨hczb_0,hczb_1,hczb_2,hczb_3,hczb_4⟩:=cO5 BKb.out;have hczq_0:=cO1 BKq.out;have hczc_0:=cO1 BKc.out) | (go_at_call 69;refine (ca_fill.calls (fillK x2.length) AX c0_0 lA x1 Am cm x2 x3 x4 y1 y2 y3 y4 _ (kC HR0.out HB.out) HC0.out HRm.out HCm.out H2.out).mono ?_;rintro e wg ⟨vf,rfl,hs,hb⟩;have n0:=am (zq0 HB.out (HB.out).size hb);have nb:=(kmv hb BKb);have nq:=(kmv hb BKq);have nc:=(kmv hb BKc);obtain ⟨Af,cf,rfl,hlf,hcf⟩:=Kd.S_reads hs;have HRf:=am hcf;have HCf:=am hlf;have nm:=(cmv HRm hb);clear hs hcf hlf HRm;have HRm:=nm;clear nm;clear HB hb BKb BKq BKc;have HB:=n0;have BKb:=nb;clear nb;have BKq:=nq;clear nq;have BKc:=nc;clear nc;clear n0;(try clear hczb_0 hczb_1 hczb_2 hczb_3 hczb_4 hczq_0 hczc_0);obtain ⟨hczb_0,hczb_1,hczb_2,hczb_3,hczb_4⟩:=cO5 BKb.out;have hczq_0:=cO1 BKq.out;have hczc_0:=cO1 BKc.out) | (go_at_call 71;refine (gf_shares.calls k AX c0_0 lA y1 Am cm x2 y2 y3 Af cf y4 cups z1 z2 _ (kC HR0.out HB.out) HC0.out HRm.out HCm.out HRf.out HCf.out H3.out).mono ?_;rintro e ws ⟨vs,rfl,hr,hb⟩;have n0:=am (zq0 HB.out (HB.out).size hb);have nb:=(kmv hb BKb);have nq:=(kmv hb BKq);have nc:=(kmv hb BKc);obtain ⟨As,cs,rfl,hls,hcs⟩:=Kd.R_reads hr;have HRs:=am hcs;clear hr hcs hls;clear HB hb BKb BKq BKc;have HB:=n0;have BKb:=nb;clear nb;have BKq:=nq;clear nq;have BKc:=nc;clear nc;clear n0;(try clear hczb_0 hczb_1 hczb_2 hczb_3 hczb_4 hczq_0 hczc_0);obtain ⟨hczb_0,hczb_1,hczb_2,hczb_3,hczb_4⟩:=cO5 BKb.out;have hczq_0:=cO1 BKq.out;have hczc_0:=cO1 BKc.out)))
 have NB:=am (Below.refl ws.heap.size ws)
 go_wp2
 go_loopw [21] (fun v21 w'=>∃ i : Int,0≤i∧i≤claims.length∧v21 = .int .i64 i∧zqk (sufGo z1 (claims.drop i.toNat) i = some r)∧zqk (Below w.heap.size w w')∧zqk (Below ws.heap.size ws w')) (fun v21 _=>claims.length - (intOf v21).toNat)
 case atStart=>exact ⟨0,by omega,by omega,rfl,HQ,(by first | exact HB | exact ⟨by repeat (first | exact HB.out | apply zwc | apply zqa)⟩),(by first | exact NB | exact ⟨by repeat (first | exact NB.out | apply zwc | apply zqa)⟩)⟩
 case round =>
  clear HQ HB NB
  (try clear hczb_0 hczb_1 hczb_2 hczb_3 hczb_4 hczq_0 hczc_0)
  obtain ⟨i,p1,hi,rfl,HQ,HB,NB⟩:=hrel
  have hmm:=hm.out
  by_cases hlt : i < (claims.length : Int)
  case neg =>
   go_wp2
   go_ret
   have hq:=HQ.out
   rw [List.drop_of_length_le (by omega)] at hq
   exact ⟨zvu (Option.some.inj hq),HB.out⟩
  obtain ⟨ad,e1,hx0⟩:=Kd.at_int HR3.out i p1 hlt
  cases e1
  replace hx0:=(HB.out.cell (wbl hx0)).trans hx0
  have hq:=HQ.out
  rw [zj2 0 claims i p1 hlt,show claims.getD i.toNat 0 = rd claims i from rfl] at hq
  simp only [sufGo] at hq
  clear HQ
  generalize rd claims i = n at *
  by_cases h2 : i < (z1.length : Int)
  case neg=>rw [if_neg h2] at hq;cases hq
  rw [if_pos h2] at hq
  obtain ⟨ads,e2,hy0⟩:=Kd.at_int HRs.out i p1 h2
  cases e2
  replace hy0:=(NB.out.cell (World.block_lt_of_cell? ws _ hy0)).trans hy0
  generalize rd z1 i = s at *
  by_cases h3 : s < n
  ·rw [if_pos h3] at hq
   have hd:=decide_eq_true h3
   obtain rfl:=Option.some.inj hq
   clear hq h3
   go_wp2
   go_ret
   exact ⟨rfl,HB.out⟩
  ·rw [if_neg h3] at hq
   have hd:=decide_eq_false h3
   have HQ:=am hq
   clear hq h3
   go_wp2
   go_roundw
   case rel=>exact ⟨i + 1,by omega,by omega,by go_num,HQ,HB,NB⟩
   case measure=>simp [intOf];omega
end Go.Proofs.YtnnmnhpeblhiiaaGreatDoor.C
namespace Go.Proofs.YtnnmnhpeblhiiaaGreatDoor.C
open Go Go.RowKit Go.Shelf Go.Proofs.YtnnmnhpeblhiiaaGreatDoorW.PrintWords Go.Proofs.YtnnmnhpeblhiiaaGreatDoorW.PrintLast Go.Proofs.YtnnmnhpeblhiiaaGreatDoorW.PrintMore
set_option maxHeartbeats 16000000
set_option maxRecDepth 100000
section
attribute [local go_sem] Oper.semAt_some
def zx3 (q : List Int→Option Bool) : List (List Int)→Option (Option (List Int))
 | []=>some none
 | x :: xs=>(q x).bind fun b=>if b = true then some (some x) else zx3 q xs
theorem zj0 (q : List Int→Option Bool) : ∀ (pre rest : List (List Int)),(∀ y ∈ pre,q y = some false)→zx3 q (pre ++ rest) = zx3 q rest
 | [],_,_=>rfl
 | y :: pre,rest,h=>by
  rw [List.cons_append,zx3,h y List.mem_cons_self]
  exact zj0 q pre rest fun z hz=>h z (List.mem_cons_of_mem _ hz)
theorem firstM_none {q : List Int→Option Bool} {hs : List (List Int)} {r : Option (List Int)} (h : zx3 q hs = some r) (hp : ∀ y ∈ hs,q y = some false) : r = none:=by
 have h2:=zj0 q hs [] hp
 rw [List.append_nil,h] at h2
 exact Option.some.inj h2
theorem firstM_some {q : List Int→Option Bool} {hs pre : List (List Int)} {x : List Int} {r : Option (List Int)} (h : zx3 q hs = some r) (hp : ∀ y ∈ pre,q y = some false) (hx : q x = some true) (hs2 : pre ++ [x] <+: hs) : r = some x:=by
 obtain ⟨rest,rfl⟩:=hs2
 rw [List.append_assoc,zj0 q pre _ hp,List.singleton_append,zx3,hx] at h
 exact (Option.some.inj h).symm
theorem zj7 {W W' : World} {row : Option Nat} {B b : Nat} {o : Obj} (h : W.heap[b]? = some o) (hg : W.grownBy W' row) (hr : ∀ r,row = some r→B≤r) (hb : b < B) : W'.heap[b]? = some o:=
 (hg.block b (Array.getElem?_eq_some_iff.1 h).1 (fun e=>by have:=hr b e.symm;omega)).trans h
theorem zvn {W : World} {l b : Nat} {o o' p : Obj} (h : W.heap[b]? = some o) (hc : o.isCells = true) (hl : W.heap[l]? = some p) (hp : p.isCells = false) : (W.putObj l o').heap[b]? = some o:=
 (World.putObj_heap_other (fun e=>by subst e;rw [hl] at h;injection h with h;subst h;rw [hc] at hp;cases hp)).trans h
theorem zm5 {W W' : World} (h : Below W.heap.size W W') : KeepsOthers W W':=KeepsOthers.of_grownBy (zx0 h) (fun j o e=>by cases e)
theorem zxp {W : World} {b g i : Nat} {o : Obj} {v : Value} (h : W.heap[b]? = some o) (hne : b ≠ g) : (W.setCell ⟨g,i,none⟩ v).heap[b]? = some o:=
 (zjr (p:=⟨g,i,none⟩) h (fun e=>hne e) _)
theorem zjl {W : World} {g t : Nat} {v0 v : Value} (h : W.heap[g]? = some (.cells #[v0] t (0,0))) : (W.setCell ⟨g,0,none⟩ v).heap[g]? = some (.cells #[v] t (0,0)):=by
 have hlt:=(Array.getElem?_eq_some_iff.1 h).1
 simp [World.setCell,Array.getElem?_modify,h]
theorem C_int_set {W : World} {A : Option Addr} {n : Nat} {xs : List Int} {g t : Nat} {v0 v : Value} (hg : W.heap[g]? = some (.cells #[v0] t (0,0))) (hv : ∀ p,v0 ≠ .int .i64 p) (h : (Kd.int .i64).C W A n xs) : (Kd.int .i64).C (W.setCell ⟨g,0,none⟩ v) A n xs:=
 ⟨h.1,h.2.1,fun hn=>by
  obtain ⟨ad,e,hc⟩:=h.2.2 hn
  refine ⟨ad,e,fun j p hj=>?_⟩
  obtain ⟨c,hl,hK,hcc⟩:=hc j p hj
  refine ⟨c,hl,hK,fun i u hu=>?_⟩
  have h3:=hcc i u hu
  have hK2 : c = [.int .i64 p]:=hK
  rw [World.cell?_setCell_far _ _ _ _ ?_]
  ·exact h3
  ·intro e2
   have e2 : g = (ad.add (j * (Kd.int .i64).sz + i)).block:=e2
   have h4:=h3
   unfold World.cell? at h4
   rw [← e2,hg] at h4
   simp only at h4
   split at h4
   ·cases h4
   ·subst hK2
    cases i with
    | succ i=>simp at hu
    | zero =>
     have hu2 : Value.int .i64 p = u:=by simpa using hu
     obtain ⟨hlt,h5⟩:=Array.getElem?_eq_some_iff.1 h4
     have h6 : v0 = u:=by
      have : (ad.add (j * (Kd.int .i64).sz + 0)).off = 0:=by simpa using hlt
      simpa [this] using h5
     exact hv p (h6.trans hu2.symm)⟩
theorem ca_first.calls (k gb gch sb sq sc : Nat) (AX : Option Addr) (c0_0 : Nat) (lA : List S126) (aA : Int) (AY : Option Addr) (cB : Nat) (lB : List S48) (a0_3 aC change cups : Int) (A3 : Option Addr) (c3 : Nat) (claims : List Int) (r : Option (List Int)) (w : World)
 (bb : w.heap[gb]? = some (.cells #[.slice AX lA.length c0_0,.int .i64 aA,.slice AY lB.length cB,.int .i64 a0_3,.int .i64 aC] 27 (0,0))) (bch : w.heap[gch]? = some (.cells #[.int .i64 change] 3 (0,0)))
 (sbb : w.heap[sb]? = some (.cells #[.slice AX lA.length c0_0,.int .i64 aA,.slice AY lB.length cB,.int .i64 a0_3,.int .i64 aC] 27 (0,0))) (sbq : w.heap[sq]? = some (.cells #[.int .i64 cups] 3 (0,0))) (sbc : w.heap[sc]? = some (.cells #[.slice A3 claims.length c3] 28 (0,0)))
 (hra : Kd.C k126 w AX lA.length lA) (hc0_0 : lA.length≤c0_0) (hrb : Kd.C k48 w AY lB.length lB) (hcb : lB.length≤cB) (hr3 : Kd.C (Kd.int .i64) w A3 claims.length claims)
 (h0 : 0≤change) (h1 : change≤1000) (hh : ∀ h ∈ lB.map (·.f1),0≤h∧h≤40) (hnl : lB.length≤1000000)
 (hq : ∀ l : List Int,l.length = lB.length→(∀ z ∈ l,0≤z∧z≤40)→∃ b,suffice.f k lA aA lB a0_3 aC cups claims l = some b)
 (h : zx3 (suffice.f k lA aA lB a0_3 aC cups claims) (hsOf (lB.map (·.f1)) [] change) = some r) :
 Calls Tryz.prog 72 #[.func (.func 111) #[] #[.pointer (some ⟨gb,0,none⟩),.pointer (some ⟨gch,0,none⟩)],.func (.func 68) #[] #[.pointer (some ⟨sb,0,none⟩),.pointer (some ⟨sq,0,none⟩),.pointer (some ⟨sc,0,none⟩)]] w fun e w'=>((r = none∧e = .returned (.tuple #[.slice none 0 0,.bool false]))∨(∃ l A c,r = some l∧e = .returned (.tuple #[.slice A l.length c,.bool true])∧l.length≤c∧Kd.C (Kd.int .i64) w' A l.length l∧Kd.R (Kd.int .i64) 3 w' w.heap.size (fun _=>True) (.slice A l.length c) l))∧Below w.heap.size w w':=by
 refine (callsIn_wide (n:=9)).1 ?_
 have HH:=am h
 have HB0:=(((Below.refl w.heap.size w).alloc (Nat.le_refl _) (.cells #[.func (.func 68) #[] #[.pointer (some ⟨sb,0,none⟩),.pointer (some ⟨sq,0,none⟩),.pointer (some ⟨sc,0,none⟩)]] 113)).alloc (by simp) (.cells #[.slice none 0 0] 28)).alloc (by simp;omega) (.cells #[.bool false] 4)
 obtain ⟨W0,hW0⟩ : ∃ W0,((w.alloc (.cells #[.func (.func 68) #[] #[.pointer (some ⟨sb,0,none⟩),.pointer (some ⟨sq,0,none⟩),.pointer (some ⟨sc,0,none⟩)]] 113)).alloc (.cells #[.slice none 0 0] 28)).alloc (.cells #[.bool false] 4) = W0:=⟨_,rfl⟩
 have hsz : W0.heap.size = w.heap.size + 3:=by rw [← hW0];simp
 have g3 : W0.heap[w.heap.size]? = some (.cells #[.func (.func 68) #[] #[.pointer (some ⟨sb,0,none⟩),.pointer (some ⟨sq,0,none⟩),.pointer (some ⟨sc,0,none⟩)]] 113 (0,0)):=by
  rw [← hW0];exact (Below.heap_alloc _ _ _ (by simp;omega)).trans ((Below.heap_alloc _ _ _ (by simp)).trans (World.alloc_heap_new w _))
 have g4 : W0.heap[w.heap.size + 1]? = some (.cells #[.slice none 0 0] 28 (0,0)):=by
  rw [← hW0];refine (Below.heap_alloc _ _ _ (by simp)).trans ?_
  have:=World.alloc_heap_new (w.alloc (.cells #[.func (.func 68) #[] #[.pointer (some ⟨sb,0,none⟩),.pointer (some ⟨sq,0,none⟩),.pointer (some ⟨sc,0,none⟩)]] 113)) (.cells #[.slice none 0 0] 28);rwa [World.size_alloc] at this
 have g5 : W0.heap[w.heap.size + 1 + 1]? = some (.cells #[.bool false] 4 (0,0)):=by
  rw [← hW0]
  have:=World.alloc_heap_new ((w.alloc (.cells #[.func (.func 68) #[] #[.pointer (some ⟨sb,0,none⟩),.pointer (some ⟨sq,0,none⟩),.pointer (some ⟨sc,0,none⟩)]] 113)).alloc (.cells #[.slice none 0 0] 28)) (.cells #[.bool false] 4);rwa [World.size_alloc,World.size_alloc] at this
 rw [hW0] at HB0
 have HH0:=am hh
 have HQ:=am hq
 clear h hh hq
 refine callsIn_of_wp_marks Tryz.func72 rfl trivial ?_ rfl
 simp only [Tryz.ntmps72,List.size_toArray,List.length_cons,List.length_nil,Nat.reduceAdd,Nat.reduceSub,Array.replicate_succ,Array.replicate_zero,List.push_toArray,List.append_toArray,List.nil_append,List.cons_append]
 gi_wp2
 (try rw [hW0])
 clear hW0
 refine rangeC (α:=HX) (n:=9) rfl (by decide) (gf:=111) (lb:=#[.pointer (some ⟨gb,0,none⟩),.pointer (some ⟨gch,0,none⟩)]) rfl trivial (enters_of Tryz.func111 (by kernel_rfl) rfl)
  (zpb gb gch AX c0_0 lA.length aA AY cB lB a0_3 aC change w bb bch hrb h0 h1 HH0.out hnl (9 - 1))
  (fun x W l o o' hx hl ho=>⟨hx.1,hx.2.1,keeps_C (fun hk=>hk) (zqp.putObj W l o o' hl ho) hx.2.2.1,zmb hx.2.2.2 (fun k cells hc=>zvn hc rfl hl ho)⟩)
  zqp.trans (fun W l o o' _ hl ho _=>zqp.putObj W l o o' hl ho) HB0 (fun _=>rfl)
  (fun pre W=>(∀ y ∈ pre,suffice.f k lA aA lB a0_3 aC cups claims y.1 = some false)∧W.heap[w.heap.size]? = some (.cells #[.func (.func 68) #[] #[.pointer (some ⟨sb,0,none⟩),.pointer (some ⟨sq,0,none⟩),.pointer (some ⟨sc,0,none⟩)]] 113 (0,0))∧W.heap[w.heap.size + 1]? = some (.cells #[.slice none 0 0] 28 (0,0))∧W.heap[w.heap.size + 1 + 1]? = some (.cells #[.bool false] 4 (0,0))∧Below w.heap.size w W)
  (fun c pre W=>c = .ret∧(∃ (p0 : List HX) (x : HX),pre = p0 ++ [x]∧(∀ y ∈ p0,suffice.f k lA aA lB a0_3 aC cups claims y.1 = some false)∧suffice.f k lA aA lB a0_3 aC cups claims x.1 = some true∧W.heap[w.heap.size + 1]? = some (.cells #[.slice x.2.1 x.1.length x.2.2] 28 (0,0))∧x.1.length≤x.2.2∧Kd.C (Kd.int .i64) W x.2.1 x.1.length x.1∧Kd.R (Kd.int .i64) 3 W w.heap.size (fun _=>True) (.slice x.2.1 x.1.length x.2.2) x.1)∧W.heap[w.heap.size + 1 + 1]? = some (.cells #[.bool true] 4 (0,0))∧Below w.heap.size w W)
  (fun s A B row hs hg hr=>⟨hs.1,zj7 hs.2.1 hg hr (by omega),zj7 hs.2.2.1 hg hr (by omega),zj7 hs.2.2.2.1 hg hr (by omega),hs.2.2.2.2.grown hg hs.2.2.2.2.size (fun k e=>by have:=hr k e;omega)⟩)
  (fun c pre W l o o' hl hs ho hc hw=>by
   obtain ⟨rfl,⟨p0,x,rfl,hp,hx,h4,hle,hC,hR⟩,h5,hB⟩:=hs
   exact ⟨rfl,⟨p0,x,rfl,hp,hx,zvn h4 rfl ho hc,hle,keeps_C (fun hk=>hk) (zqp.putObj W l o o' ho hc) hC,zmb hR (fun k cells h=>zvn h rfl ho hc)⟩,zvn h5 rfl ho hc,hB.trans (belowK_b (w:=w) (Nat.le_refl _) W l _ _ (by omega) ho hc hw)⟩)
  ⟨(fun y hy=>by cases hy),g3,g4,g5,HB0⟩
  (fun x=>{ tmps:=#[Value.func (Fn.func 111) #[] #[.pointer (some ⟨gb,0,none⟩),.pointer (some ⟨gch,0,none⟩)],Value.func (Fn.func 68) #[] #[.pointer (some ⟨sb,0,none⟩),.pointer (some ⟨sq,0,none⟩),.pointer (some ⟨sc,0,none⟩)],undef,.pointer (some ⟨w.heap.size,0,none⟩),.pointer (some ⟨w.heap.size + 1,0,none⟩),.pointer (some ⟨w.heap.size + 1 + 1,0,none⟩),.slice x.2.1 x.1.length x.2.2,undef,Value.func (Fn.func 111) #[] #[.pointer (some ⟨gb,0,none⟩),.pointer (some ⟨gch,0,none⟩)],.slice x.2.1 x.1.length x.2.2,undef,undef,undef,undef,undef],defers:=[] }) ?assign ?body ?done ?stop
 case assign =>
  intro l x W K hK
  simp only [hEnc]
  gi_wp2
  exact hK
 case body =>
  rintro l pre ⟨xl,xA,xc⟩ W ⟨hpre,b3,b4,b5,hB⟩ ⟨hxl,hxle,hxC,hxR⟩
  dsimp only at hxl hxle hxC hxR ⊢
  obtain ⟨bv,hbv⟩:=HQ.out xl hxl.1 hxl.2
  have HV:=am hbv
  have HXL:=am hxl
  have HP:=am hpre
  clear hbv hxl hpre
  have hc3 : W.cell? ⟨w.heap.size,0,none⟩ = some (Value.func (Fn.func 68) #[] #[.pointer (some ⟨sb,0,none⟩),.pointer (some ⟨sq,0,none⟩),.pointer (some ⟨sc,0,none⟩)]):=(zqe b3 0).trans rfl
  have b3:=am b3
  have b4:=am b4
  have b5:=am b5
  have hB:=am hB
  have hxC:=am hxC
  have hxR:=am hxR
  have HC:=am (suffice.calls k sb sq sc AX c0_0 lA aA AY cB lB a0_3 aC cups A3 c3 claims xA xc xl bv W (zqh sbb hB.out) (zqh sbq hB.out) (zqh sbc hB.out) (kC hra hB.out) hc0_0 (kC hrb hB.out) hcb (kC hr3 hB.out) hxC.out hxle HV.out)
  cases bv with
  | false =>
   gi_wp2
   refine ⟨trivial,?_⟩
   refine (CallsIn.inRound l (callsIn_wide.2 HC.out)).mono ?_
   rintro e W2 ⟨rfl,hb⟩
   gi_wp2
   exact ⟨zm5 hb,zqp.of_below hb,fun y hy=>(List.mem_append.1 hy).elim (HP.out y) (fun e=>by rw [List.mem_singleton.1 e];exact HV.out),zqh b3.out hb,zqh b4.out hb,zqh b5.out hb,zq0 hB.out hB.out.size hb⟩
  | true =>
   gi_wp2
   refine ⟨trivial,?_⟩
   refine (CallsIn.inRound l (callsIn_wide.2 HC.out)).mono ?_
   rintro e W2 ⟨rfl,hb⟩
   have q4:=zqh b4.out hb
   have q5:=zqh b5.out hb
   have hc4 : W2.cell? ⟨w.heap.size + 1,0,none⟩ = some (.slice none 0 0):=(zqe q4 0).trans rfl
   have hf4:=zqd q4 0
   have hc5 : W2.cell? ⟨w.heap.size + 1 + 1,0,none⟩ = some (.bool false):=(zqe q5 0).trans rfl
   have hf5:=zqd q5 0
   have q4:=am q4
   have q5:=am q5
   gi_wp2
   have hC2:=kC hxC.out hb
   have hR2:=zmb hxR.out (fun k cells h=>zqh h hb)
   have hR3:=zmb (W':=(W2.setCell ⟨w.heap.size + 1,0,none⟩ (.slice xA xl.length xc)).setCell ⟨w.heap.size + 1 + 1,0,none⟩ (.bool true)) hR2 (fun k cells h=>zxp (zxp h (zxy h q4.out (by decide))) (zxy h q5.out (by decide)))
   have e5:=zjl (v:=.bool true) (zxp (g:=w.heap.size + 1) (i:=0) (v:=.slice xA xl.length xc) q5.out (by omega))
   have e4:=zxp (g:=w.heap.size + 1 + 1) (i:=0) (v:=.bool true) (zjl (v:=.slice xA xl.length xc) q4.out) (by omega)
   have hB2:=zq0 hB.out hB.out.size hb
   have hB3:=(hB2.setCell (p:=⟨w.heap.size + 1,0,none⟩) (by simp) (.slice xA xl.length xc)).setCell (p:=⟨w.heap.size + 1 + 1,0,none⟩) (by simp;omega) (.bool true)
   exact ⟨((zm5 hb).trans (KeepsOthers.setCell _ _ _)).trans (KeepsOthers.setCell _ _ _),rfl,⟨pre,(xl,xA,xc),rfl,HP.out,HV.out,e4,hxle,C_int_set (zxp (g:=w.heap.size + 1) (i:=0) (v:=.slice xA xl.length xc) q5.out (by omega)) (fun p e=>by cases e) (C_int_set q4.out (fun p e=>by cases e) hC2),hR3⟩,e5,hB3⟩
 case done =>
  rintro D xs W hD hS ⟨hp,b3,b4,b5,hB⟩ hK
  have hc4 : W.cell? ⟨w.heap.size + 1,0,none⟩ = some (.slice none 0 0):=(zqe b4 0).trans rfl
  have hf4:=zqd b4 0
  have hc5 : W.cell? ⟨w.heap.size + 1 + 1,0,none⟩ = some (.bool false):=(zqe b5 0).trans rfl
  have hf5:=zqd b5 0
  have HN:=am (firstM_none HH.out (fun y hy=>by rw [← hS] at hy;obtain ⟨z,hz,rfl⟩:=List.mem_map.1 hy;exact hp z hz))
  have b4:=am b4
  have b5:=am b5
  have hB:=am hB
  have hK:=am hK
  clear hp hS b3
  gi_wp2
  have e5:=zjl (v:=.bool false) (zxp (g:=w.heap.size + 1) (i:=0) (v:=.slice none 0 0) b5.out (by omega))
  have e4:=zxp (g:=w.heap.size + 1 + 1) (i:=0) (v:=.bool false) (zjl (v:=.slice none 0 0) b4.out) (by omega)
  have hK':=((KeepsOthers.setCell W ⟨w.heap.size + 1,0,none⟩ (.slice none 0 0)).trans (KeepsOthers.setCell _ ⟨w.heap.size + 1 + 1,0,none⟩ (.bool false))).same D _ hK.out rfl
  refine ⟨by simp,.inl ⟨_,_,rfl,run_takeDeferred hK',?_⟩⟩
  have p4:=(zqe (zvn (o':=.deferred none) e4 rfl hK' rfl) 0).trans rfl
  have p5:=(zqe (zvn (o':=.deferred none) e5 rfl hK' rfl) 0).trans rfl
  refine ⟨.tuple #[.slice none 0 0,.bool false],?_,.inl ⟨HN.out,rfl⟩,((hB.out.setCell (p:=⟨w.heap.size + 1,0,none⟩) (by simp) (.slice none 0 0)).setCell (p:=⟨w.heap.size + 1 + 1,0,none⟩) (by simp;omega) (.bool false)).trans (belowK_b (w:=w) (Nat.le_refl _) _ D _ _ (by omega) hK' rfl rfl)⟩
  simp [results,Tryz.f72,go_sem,p4,p5]
 case stop =>
  rintro D c pre W hD hSp ⟨rfl,⟨p0,x,rfl,hp,hx,b4,hle,hC,hR⟩,b5,hB⟩ hK
  have HN:=am (firstM_some HH.out (pre:=p0.map (·.1)) (x:=x.1) (fun y hy=>by obtain ⟨z,hz,rfl⟩:=List.mem_map.1 hy;exact hp z hz) hx (by simpa using hSp))
  have b4:=am b4
  have b5:=am b5
  have hB:=am hB
  have hK:=am hK
  have hC:=am hC
  have hR:=am hR
  clear hp hSp hx
  gi_wp2
  refine ⟨by simp,.inl ⟨_,_,rfl,run_takeDeferred hK.out,?_⟩⟩
  have p4:=(zqe (zvn (o':=.deferred none) b4.out rfl hK.out rfl) 0).trans rfl
  have p5:=(zqe (zvn (o':=.deferred none) b5.out rfl hK.out rfl) 0).trans rfl
  refine ⟨.tuple #[.slice x.2.1 x.1.length x.2.2,.bool true],?_,.inr ⟨x.1,x.2.1,x.2.2,HN.out,rfl,hle,keeps_C (fun hk=>hk) (zqp.putObj W D _ _ hK.out rfl) hC.out,zmb hR.out (fun k cells h=>zvn h rfl hK.out rfl)⟩,hB.out.trans (belowK_b (w:=w) (Nat.le_refl _) W D _ _ (by omega) hK.out rfl rfl)⟩
  simp [results,Tryz.f72,go_sem,p4,p5]
end
end Go.Proofs.YtnnmnhpeblhiiaaGreatDoor.C
namespace Go.Proofs.YtnnmnhpeblhiiaaGreatDoor.C
open Go.RowKit Go.Proofs.YtnnmnhpeblhiiaaGreatDoorW.PrintWords Go.Proofs.YtnnmnhpeblhiiaaGreatDoorW.PrintLast Go.Proofs.YtnnmnhpeblhiiaaGreatDoorW.PrintMore
set_option maxHeartbeats 16000000
set_option maxRecDepth 100000
section
attribute [local go_sem] zwa zq9 zwf zwe
def ca_Mends_1.f (a0 : Int) : Option (Bool):=(ca_isFlow.f a0).bind fun t1057=>(some (!t1057))
theorem ca_Mends_1.calls (a0 : Int) (r : Bool) (w : World) (h : ca_Mends_1.f a0 = some r) :
 Calls Tryz.prog 66 #[.int .i64 a0] w fun e w'=>e = .returned (.bool r)∧zqt w w':=by
 have H : ((ca_isFlow.f a0).bind fun t1057=>(some (!t1057))) = some r:=h
 clear h
 replace H:=obm H
 obtain ⟨t1057,A20,H⟩:=H
 replace H : (some (!t1057)) = some r:=H
 have A2:=am A20
 clear A20
 obtain rfl:=Option.some.inj H
 go_enter Tryz.func66,Tryz.ntmps66
 go_wp2_with (first | ((with_reducible refine zqo (f:=67) rfl ?_);refine zq3 (some 4) rfl rfl Tryz.func67 (by kernel_rfl) rfl #[.int .i64 a0] rfl (by (try simp only [List.map_toArray,List.map_cons,List.map_nil]);first | done | rfl | (simp only [List.length_drop,List.length_take];rfl)) ?_;(with_reducible refine (ca_isFlow.calls a0 t1057 _ A2.out).mono ?_);rintro e w' ⟨rfl,⟨nd,rfl⟩⟩;refine ⟨_,rfl,?_⟩))
 go_ret
 exact ⟨by first | rfl | (simp;done) | (simp [*];done),by repeat (first | exact zqt.refl _ | apply zqt.step)⟩
end
def zno (q : Int→Option Bool) (w : World) (xs : List Int) : Prop:=∀ (x : Int) (b : Bool) (W : World) ,x ∈ xs→q x = some b→Below w.heap.size w W→
 Calls Tryz.prog 66 #[.int .i64 x] W fun e W'=>e = .returned (.bool b)∧Below W.heap.size W W'
theorem idx_Mends (q : Int→Option Bool) (A : Option Addr) (c : Nat) (xs : List Int) (r : Int) (w : World) (hr : Kd.C (Kd.int .i64) w A xs.length xs) (hp : zno q w xs) (h : idxM q xs 0 = some r) :
 Calls Tryz.prog 105 #[.slice A xs.length c,.func (.func 66) #[] #[]] w fun e w'=>e = .returned (.int .i64 r)∧Below w.heap.size w w':=by
 have HR:=am hr
 have HP:=am hp
 have HQ:=am (show idxM q (xs.drop (0 : Int).toNat) 0 = some r from h)
 have hm : xs.length≤9223372036854775807:=Kd.C_max hr
 clear hr hp h
 go_enter Tryz.func105,Tryz.ntmps105
 go_wp2
 go_loopw [5,8] (fun v5 v8 w'=>∃ i : Int,0≤i∧i≤xs.length∧v8 = .int .i64 i∧zqk (idxM q (xs.drop i.toNat) i = some r)∧zqk (Below w.heap.size w w')) (fun _ v8 _=>xs.length - (intOf v8).toNat)
 case atStart=>exact ⟨0,by omega,by omega,rfl,HQ,⟨Below.refl _ _⟩⟩
 case round =>
  clear HQ
  obtain ⟨i,p1,hi,rfl,HQ,HB⟩:=hrel
  by_cases hlt : i < (xs.length : Int)
  case neg =>
   go_wp2
   go_ret
   exact ⟨zwi (zbp (by omega) HQ.out),HB.out⟩
  obtain ⟨ad,e1,hx0⟩:=Kd.at_int HR.out i p1 hlt
  cases e1
  replace hx0:=(HB.out.cell (wbl hx0)).trans hx0
  rcases zjd (0 : Int) p1 hlt HQ.out with ⟨hq,he⟩ | ⟨hq,hn⟩
  ·have H1:=am hq
   have X1:=am (zwz (0 : Int) p1 hlt)
   have H2:=am he
   clear hq he
   go_wp2_with (go_at_call 66;refine (HP.out (xs.getD i.toNat (0 : Int)) _ _ X1.out H1.out HB.out).mono ?_;rintro e W' ⟨rfl,hb⟩)
   go_ret
   exact ⟨zwi H2.out,zq0 HB.out HB.out.size hb⟩
  ·have H1:=am hq
   have X1:=am (zwz (0 : Int) p1 hlt)
   have H2:=am hn
   clear hq hn
   go_wp2_with (go_at_call 66;refine (HP.out (xs.getD i.toNat (0 : Int)) _ _ X1.out H1.out HB.out).mono ?_;rintro e W' ⟨rfl,hb⟩)
   go_roundw
   case rel=>exact ⟨i + 1,by omega,by omega,by go_num,H2,⟨zq0 HB.out HB.out.size hb⟩⟩
   case measure=>simp [intOf];omega
theorem any_Mends (q : Int→Option Bool) (A : Option Addr) (c : Nat) (xs : List Int) (r : Bool) (w : World) (hr : Kd.C (Kd.int .i64) w A xs.length xs) (hp : zno q w xs) (h : anyM q xs = some r) :
 Calls Tryz.prog 65 #[.slice A xs.length c,.func (.func 66) #[] #[]] w fun e w'=>e = .returned (.bool r)∧Below w.heap.size w w':=by
 obtain ⟨j,hj,hd⟩:=zvg q xs 0 r (by omega) h
 have H1:=am hj
 have H2:=am hd
 have HR:=am hr
 have HP:=am hp
 clear hr hp h hj hd
 go_enter Tryz.func65,Tryz.ntmps65
 go_wp2_with (go_at_call 105;refine (idx_Mends q _ _ xs j _ HR.out HP.out H1.out).mono ?_;rintro e W' ⟨rfl,hb⟩)
 go_ret
 exact ⟨zvu H2.out,hb⟩
def cf_Mends.f (l0 : List Int) : Option Bool:=anyM ca_Mends_1.f l0
theorem cf_Mends.calls (A0 : Option Addr) (c0 : Nat) (l0 : List Int) (r : Bool) (w : World) (hr0 : Kd.C (Kd.int .i64) w A0 l0.length l0) (hc0 : l0.length≤c0) (h : cf_Mends.f l0 = some r) :
 Calls Tryz.prog 65 #[.slice A0 l0.length c0,.func (.func 66) #[] #[]] w fun e w'=>e = .returned (.bool r)∧Below w.heap.size w w':=
 any_Mends ca_Mends_1.f A0 c0 l0 r w hr0 (fun x b W hx hq hb=>(ca_Mends_1.calls _ b W hq).mono fun e W' ⟨he,hd⟩=>⟨he,hd.below⟩) h
def zko (q : List Int→Option Bool) (hs : Int→List (List Int)) : Nat→Int→Option (List Int × Int × Int)
 | 0,_=>some ([],0,5)
 | n + 1,c=>(zx3 q (hs c)).bind fun x=>match x with | some l=>some (l,c,0) | none=>zko q hs n (c + 1)
def ca_MendsK.f (k : Nat) (lA : List S126) (aA : Int) (lB : List S48) (a0_3 aC : Int) (claims : List Int) (cups : Int) : Option (List Int × Int × Int):=
 (ca_isBasin.f lA aA lB a0_3 aC).bind fun t1=>if t1 = true then (if claims.length = lB.length then (cf_Mends.f claims).bind fun t2=>(if t2 = false then (ca_isFlow.f cups).bind fun t3=>(if t3 = true then zko (suffice.f k lA aA lB a0_3 aC cups claims) (hsOf (lB.map (·.f1)) []) (2 * lB.length + 1) 0 else some ([],0,2)) else some ([],0,2)) else some ([],0,2)) else some ([],0,2)
theorem firstPostN {e : Ending} {X Bl : Prop} {Y : List Int→Option Addr→Nat→Prop} (h : (((none : Option (List Int)) = none∧X)∨∃ l A c,(none : Option (List Int)) = some l∧Y l A c)∧Bl) : X∧Bl:=⟨h.1.elim And.right (fun ⟨_,_,_,hl,_⟩=>by cases hl),h.2⟩
theorem firstPostS {e : Ending} {X Bl : Prop} {l : List Int} {Y : List Int→Option Addr→Nat→Prop} (h : ((some l = none∧X)∨∃ l2 A c,some l = some l2∧Y l2 A c)∧Bl) : ∃ A c,Y l A c∧Bl:=h.1.elim (fun hh=>by cases hh.1) (fun ⟨_,A,c,hl,hy⟩=>by cases hl;exact ⟨A,c,hy,h.2⟩)
def MendsPost (r1 : List Int) (r2 r3 : Int) (w : World) (e : Ending) (w' : World) : Prop:=∃ v,e = .returned (.tuple #[v,.int .i64 r2,.int .i64 r3])∧Kd.R (Kd.int .i64) 3 w' w.heap.size (fun _=>True) v r1∧Below w.heap.size w w'
theorem ca_MendsK.calls (k : Nat) (AX : Option Addr) (c0_0 : Nat) (lA : List S126) (aA : Int) (AY : Option Addr) (cB : Nat) (lB : List S48) (a0_3 aC : Int) (A3 : Option Addr) (c3 : Nat) (claims : List Int) (cups : Int) (r1 : List Int) (r2 r3 : Int) (w : World) (hra : Kd.C k126 w AX lA.length lA) (hc0_0 : lA.length≤c0_0) (hrb : Kd.C k48 w AY lB.length lB) (hcb : lB.length≤cB) (hr3 : Kd.C (Kd.int .i64) w A3 claims.length claims) (hc3 : claims.length≤c3)
 (hh : ca_isBasin.f lA aA lB a0_3 aC = some true→(∀ h ∈ lB.map (·.f1),0≤h∧h≤40)∧lB.length≤6)
 (hq : ca_isBasin.f lA aA lB a0_3 aC = some true→claims.length = lB.length→ca_isFlow.f cups = some true→∀ l : List Int,l.length = lB.length→(∀ z ∈ l,0≤z∧z≤40)→∃ b,suffice.f k lA aA lB a0_3 aC cups claims l = some b)
 (h : ca_MendsK.f k lA aA lB a0_3 aC claims cups = some (r1,r2,r3)) :
 Calls Tryz.prog 20 #[.agg #[.slice AX lA.length c0_0,.int .i64 aA,.slice AY lB.length cB,.int .i64 a0_3,.int .i64 aC],.slice A3 claims.length c3,.int .i64 cups] w (MendsPost r1 r2 r3 w):=by
 have hu:=Tryz.underlying27
 have hmf : ∀ (fn : Fn) (first cap : Array Value) (w : World),(Instr.makeFunc fn first cap).run Tryz.prog w = .ok (.func fn first cap) w:=fun _ _ _ _=>rfl
 have hmx:=Kd.C_max hrb
 have HR0:=am hra
 have HC0:=am hc0_0
 have HR2:=am hrb
 have HC2:=am hcb
 have HR3:=am hr3
 have HC3:=am hc3
 have HB:=am (Below.refl w.heap.size w)
 have HMX:=am (Kd.C_max hr3)
 clear hra hc0_0 hrb hcb hr3 hc3
 unfold ca_MendsK.f at h
 obtain ⟨t1,ht1,h2⟩:=obm h
 clear h
 have h:=h2;clear h2
 have H1:=am ht1
 have HH:=am hh
 have HQ:=am hq
 clear hh hq ht1
 cases t1 with
 | false =>
  rw [if_neg (by decide)] at h
  simp only [Option.some.injEq,Prod.mk.injEq] at h
  obtain ⟨rfl,rfl,rfl⟩:=h
  go_enter Tryz.func20,Tryz.ntmps20
  go_wp2_with (first | ((refine zqn (N:=3) rfl ?_);(try (refine zqu (by rfl) ?_;dsimp only));refine zqm rfl (N:=3) rfl (cs:=#[.slice AX lA.length c0_0,.int .i64 aA,.slice AY lB.length cB,.int .i64 a0_3,.int .i64 aC]) (t:=27) ?hr ?_;(case hr=>go_simp;try rfl);intro gb hg w2 hbox hb;replace HR0:=(cmv HR0 hb);replace HR2:=(cmv HR2 hb);replace HR3:=(cmv HR3 hb);replace HB:=(bmv HB hb);clear hg;have BKgb:=am hbox;clear hbox;(try clear hczgb_0 hczgb_1 hczgb_2 hczgb_3 hczgb_4);obtain ⟨hczgb_0,hczgb_1,hczgb_2,hczgb_3,hczgb_4⟩:=cO5 BKgb.out;clear hb) | ((refine zqn (N:=4) rfl ?_);(try (refine zqu (by rfl) ?_;dsimp only));refine zqm rfl (N:=4) rfl (cs:=#[.slice A3 claims.length c3]) (t:=28) ?hr ?_;(case hr=>go_simp;try rfl);intro gc hg w2 hbox hb;replace HR0:=(cmv HR0 hb);replace HR2:=(cmv HR2 hb);replace HR3:=(cmv HR3 hb);replace HB:=(bmv HB hb);replace BKgb:=(kmv hb BKgb);clear hg;have BKgc:=am hbox;clear hbox;(try clear hczgb_0 hczgb_1 hczgb_2 hczgb_3 hczgb_4);obtain ⟨hczgb_0,hczgb_1,hczgb_2,hczgb_3,hczgb_4⟩:=cO5 BKgb.out;(try clear hczgc_0);have hczgc_0:=cO1 BKgc.out;clear hb) | ((refine zqn (N:=5) rfl ?_);(try (refine zqu (by rfl) ?_;dsimp only));refine zqm rfl (N:=5) rfl (cs:=#[.int .i64 cups]) (t:=3) ?hr ?_;(case hr=>go_simp;try rfl);intro gq hg w2 hbox hb;replace HR0:=(cmv HR0 hb);replace HR2:=(cmv HR2 hb);replace HR3:=(cmv HR3 hb);replace HB:=(bmv HB hb);replace BKgb:=(kmv hb BKgb);replace BKgc:=(kmv hb BKgc);clear hg;have BKgq:=am hbox;clear hbox;(try clear hczgb_0 hczgb_1 hczgb_2 hczgb_3 hczgb_4);obtain ⟨hczgb_0,hczgb_1,hczgb_2,hczgb_3,hczgb_4⟩:=cO5 BKgb.out;(try clear hczgc_0);have hczgc_0:=cO1 BKgc.out;(try clear hczgq_0);have hczgq_0:=cO1 BKgq.out;clear hb) | (go_at_call 64;(refine (ca_isBasin.calls AX c0_0 lA aA AY cB lB a0_3 aC false _ HR0.out HC0.out HR2.out HC2.out H1.out).mono ?_);rintro e w1 ⟨rfl,hb⟩;replace HR0:=(cmv HR0 hb);replace HR2:=(cmv HR2 hb);replace HR3:=(cmv HR3 hb);replace HB:=(bmv HB hb);replace BKgb:=(kmv hb BKgb);replace BKgc:=(kmv hb BKgc);replace BKgq:=(kmv hb BKgq);(try clear hczgb_0 hczgb_1 hczgb_2 hczgb_3 hczgb_4);obtain ⟨hczgb_0,hczgb_1,hczgb_2,hczgb_3,hczgb_4⟩:=cO5 BKgb.out;(try clear hczgc_0);have hczgc_0:=cO1 BKgc.out;(try clear hczgq_0);have hczgq_0:=cO1 BKgq.out;clear hb))
  go_ret3
  exact ⟨_,rfl,Kd.R_nil _ _ _ _ _,HB.out⟩
 | true =>
  rw [if_pos rfl] at h
  by_cases hlen : claims.length = lB.length
  case neg =>
   rw [if_neg hlen] at h
   have hd : ((claims.length : Int) != (lB.length : Int)) = true:=by simp;omega
   simp only [Option.some.injEq,Prod.mk.injEq] at h
   obtain ⟨rfl,rfl,rfl⟩:=h
   go_enter Tryz.func20,Tryz.ntmps20
   go_wp2_with (first | ((refine zqn (N:=3) rfl ?_);(try (refine zqu (by rfl) ?_;dsimp only));refine zqm rfl (N:=3) rfl (cs:=#[.slice AX lA.length c0_0,.int .i64 aA,.slice AY lB.length cB,.int .i64 a0_3,.int .i64 aC]) (t:=27) ?hr ?_;(case hr=>go_simp;try rfl);intro gb hg w2 hbox hb;replace HR0:=(cmv HR0 hb);replace HR2:=(cmv HR2 hb);replace HR3:=(cmv HR3 hb);replace HB:=(bmv HB hb);clear hg;have BKgb:=am hbox;clear hbox;(try clear hczgb_0 hczgb_1 hczgb_2 hczgb_3 hczgb_4);obtain ⟨hczgb_0,hczgb_1,hczgb_2,hczgb_3,hczgb_4⟩:=cO5 BKgb.out;clear hb) | ((refine zqn (N:=4) rfl ?_);(try (refine zqu (by rfl) ?_;dsimp only));refine zqm rfl (N:=4) rfl (cs:=#[.slice A3 claims.length c3]) (t:=28) ?hr ?_;(case hr=>go_simp;try rfl);intro gc hg w2 hbox hb;replace HR0:=(cmv HR0 hb);replace HR2:=(cmv HR2 hb);replace HR3:=(cmv HR3 hb);replace HB:=(bmv HB hb);replace BKgb:=(kmv hb BKgb);clear hg;have BKgc:=am hbox;clear hbox;(try clear hczgb_0 hczgb_1 hczgb_2 hczgb_3 hczgb_4);obtain ⟨hczgb_0,hczgb_1,hczgb_2,hczgb_3,hczgb_4⟩:=cO5 BKgb.out;(try clear hczgc_0);have hczgc_0:=cO1 BKgc.out;clear hb) | ((refine zqn (N:=5) rfl ?_);(try (refine zqu (by rfl) ?_;dsimp only));refine zqm rfl (N:=5) rfl (cs:=#[.int .i64 cups]) (t:=3) ?hr ?_;(case hr=>go_simp;try rfl);intro gq hg w2 hbox hb;replace HR0:=(cmv HR0 hb);replace HR2:=(cmv HR2 hb);replace HR3:=(cmv HR3 hb);replace HB:=(bmv HB hb);replace BKgb:=(kmv hb BKgb);replace BKgc:=(kmv hb BKgc);clear hg;have BKgq:=am hbox;clear hbox;(try clear hczgb_0 hczgb_1 hczgb_2 hczgb_3 hczgb_4);obtain ⟨hczgb_0,hczgb_1,hczgb_2,hczgb_3,hczgb_4⟩:=cO5 BKgb.out;(try clear hczgc_0);have hczgc_0:=cO1 BKgc.out;(try clear hczgq_0);have hczgq_0:=cO1 BKgq.out;clear hb) | (go_at_call 64;(refine (ca_isBasin.calls AX c0_0 lA aA AY cB lB a0_3 aC true _ HR0.out HC0.out HR2.out HC2.out H1.out).mono ?_);rintro e w1 ⟨rfl,hb⟩;replace HR0:=(cmv HR0 hb);replace HR2:=(cmv HR2 hb);replace HR3:=(cmv HR3 hb);replace HB:=(bmv HB hb);replace BKgb:=(kmv hb BKgb);replace BKgc:=(kmv hb BKgc);replace BKgq:=(kmv hb BKgq);(try clear hczgb_0 hczgb_1 hczgb_2 hczgb_3 hczgb_4);obtain ⟨hczgb_0,hczgb_1,hczgb_2,hczgb_3,hczgb_4⟩:=cO5 BKgb.out;(try clear hczgc_0);have hczgc_0:=cO1 BKgc.out;(try clear hczgq_0);have hczgq_0:=cO1 BKgq.out;clear hb))
   go_ret3
   exact ⟨_,rfl,Kd.R_nil _ _ _ _ _,HB.out⟩
  rw [if_pos hlen] at h
  have hd : ((claims.length : Int) != (lB.length : Int)) = false:=by simp;omega
  have HL:=am hlen
  clear hlen
  obtain ⟨t2,ht2,h2⟩:=obm h;clear h;have h:=h2;clear h2
  have H2:=am ht2
  clear ht2
  cases t2 with
  | true =>
   rw [if_neg (by decide)] at h
   simp only [Option.some.injEq,Prod.mk.injEq] at h
   obtain ⟨rfl,rfl,rfl⟩:=h
   go_enter Tryz.func20,Tryz.ntmps20
   go_wp2_with (first | ((refine zqn (N:=3) rfl ?_);(try (refine zqu (by rfl) ?_;dsimp only));refine zqm rfl (N:=3) rfl (cs:=#[.slice AX lA.length c0_0,.int .i64 aA,.slice AY lB.length cB,.int .i64 a0_3,.int .i64 aC]) (t:=27) ?hr ?_;(case hr=>go_simp;try rfl);intro gb hg w2 hbox hb;replace HR0:=(cmv HR0 hb);replace HR2:=(cmv HR2 hb);replace HR3:=(cmv HR3 hb);replace HB:=(bmv HB hb);clear hg;have BKgb:=am hbox;clear hbox;(try clear hczgb_0 hczgb_1 hczgb_2 hczgb_3 hczgb_4);obtain ⟨hczgb_0,hczgb_1,hczgb_2,hczgb_3,hczgb_4⟩:=cO5 BKgb.out;clear hb) | ((refine zqn (N:=4) rfl ?_);(try (refine zqu (by rfl) ?_;dsimp only));refine zqm rfl (N:=4) rfl (cs:=#[.slice A3 claims.length c3]) (t:=28) ?hr ?_;(case hr=>go_simp;try rfl);intro gc hg w2 hbox hb;replace HR0:=(cmv HR0 hb);replace HR2:=(cmv HR2 hb);replace HR3:=(cmv HR3 hb);replace HB:=(bmv HB hb);replace BKgb:=(kmv hb BKgb);clear hg;have BKgc:=am hbox;clear hbox;(try clear hczgb_0 hczgb_1 hczgb_2 hczgb_3 hczgb_4);obtain ⟨hczgb_0,hczgb_1,hczgb_2,hczgb_3,hczgb_4⟩:=cO5 BKgb.out;(try clear hczgc_0);have hczgc_0:=cO1 BKgc.out;clear hb) | ((refine zqn (N:=5) rfl ?_);(try (refine zqu (by rfl) ?_;dsimp only));refine zqm rfl (N:=5) rfl (cs:=#[.int .i64 cups]) (t:=3) ?hr ?_;(case hr=>go_simp;try rfl);intro gq hg w2 hbox hb;replace HR0:=(cmv HR0 hb);replace HR2:=(cmv HR2 hb);replace HR3:=(cmv HR3 hb);replace HB:=(bmv HB hb);replace BKgb:=(kmv hb BKgb);replace BKgc:=(kmv hb BKgc);clear hg;have BKgq:=am hbox;clear hbox;(try clear hczgb_0 hczgb_1 hczgb_2 hczgb_3 hczgb_4);obtain ⟨hczgb_0,hczgb_1,hczgb_2,hczgb_3,hczgb_4⟩:=cO5 BKgb.out;(try clear hczgc_0);have hczgc_0:=cO1 BKgc.out;(try clear hczgq_0);have hczgq_0:=cO1 BKgq.out;clear hb) | (go_at_call 64;(refine (ca_isBasin.calls AX c0_0 lA aA AY cB lB a0_3 aC true _ HR0.out HC0.out HR2.out HC2.out H1.out).mono ?_);rintro e w1 ⟨rfl,hb⟩;replace HR0:=(cmv HR0 hb);replace HR2:=(cmv HR2 hb);replace HR3:=(cmv HR3 hb);replace HB:=(bmv HB hb);replace BKgb:=(kmv hb BKgb);replace BKgc:=(kmv hb BKgc);replace BKgq:=(kmv hb BKgq);(try clear hczgb_0 hczgb_1 hczgb_2 hczgb_3 hczgb_4);obtain ⟨hczgb_0,hczgb_1,hczgb_2,hczgb_3,hczgb_4⟩:=cO5 BKgb.out;(try clear hczgc_0);have hczgc_0:=cO1 BKgc.out;(try clear hczgq_0);have hczgq_0:=cO1 BKgq.out;clear hb) | (go_at_call 65;(refine (cf_Mends.calls A3 c3 claims true _ HR3.out HC3.out H2.out).mono ?_);rintro e w2 ⟨rfl,hb⟩;replace HR0:=(cmv HR0 hb);replace HR2:=(cmv HR2 hb);replace HR3:=(cmv HR3 hb);replace HB:=(bmv HB hb);replace BKgb:=(kmv hb BKgb);replace BKgc:=(kmv hb BKgc);replace BKgq:=(kmv hb BKgq);(try clear hczgb_0 hczgb_1 hczgb_2 hczgb_3 hczgb_4);obtain ⟨hczgb_0,hczgb_1,hczgb_2,hczgb_3,hczgb_4⟩:=cO5 BKgb.out;(try clear hczgc_0);have hczgc_0:=cO1 BKgc.out;(try clear hczgq_0);have hczgq_0:=cO1 BKgq.out;clear hb))
   go_ret3
   exact ⟨_,rfl,Kd.R_nil _ _ _ _ _,HB.out⟩
  | false =>
   rw [if_pos rfl] at h
   obtain ⟨t3,ht3,h2⟩:=obm h;clear h;have h:=h2;clear h2
   have H3:=am ht3
   clear ht3
   cases t3 with
   | false =>
    rw [if_neg (by decide)] at h
    simp only [Option.some.injEq,Prod.mk.injEq] at h
    obtain ⟨rfl,rfl,rfl⟩:=h
    go_enter Tryz.func20,Tryz.ntmps20
    go_wp2_with (first | ((refine zqn (N:=3) rfl ?_);(try (refine zqu (by rfl) ?_;dsimp only));refine zqm rfl (N:=3) rfl (cs:=#[.slice AX lA.length c0_0,.int .i64 aA,.slice AY lB.length cB,.int .i64 a0_3,.int .i64 aC]) (t:=27) ?hr ?_;(case hr=>go_simp;try rfl);intro gb hg w2 hbox hb;replace HR0:=(cmv HR0 hb);replace HR2:=(cmv HR2 hb);replace HR3:=(cmv HR3 hb);replace HB:=(bmv HB hb);clear hg;have BKgb:=am hbox;clear hbox;(try clear hczgb_0 hczgb_1 hczgb_2 hczgb_3 hczgb_4);obtain ⟨hczgb_0,hczgb_1,hczgb_2,hczgb_3,hczgb_4⟩:=cO5 BKgb.out;clear hb) | ((refine zqn (N:=4) rfl ?_);(try (refine zqu (by rfl) ?_;dsimp only));refine zqm rfl (N:=4) rfl (cs:=#[.slice A3 claims.length c3]) (t:=28) ?hr ?_;(case hr=>go_simp;try rfl);intro gc hg w2 hbox hb;replace HR0:=(cmv HR0 hb);replace HR2:=(cmv HR2 hb);replace HR3:=(cmv HR3 hb);replace HB:=(bmv HB hb);replace BKgb:=(kmv hb BKgb);clear hg;have BKgc:=am hbox;clear hbox;(try clear hczgb_0 hczgb_1 hczgb_2 hczgb_3 hczgb_4);obtain ⟨hczgb_0,hczgb_1,hczgb_2,hczgb_3,hczgb_4⟩:=cO5 BKgb.out;(try clear hczgc_0);have hczgc_0:=cO1 BKgc.out;clear hb) | ((refine zqn (N:=5) rfl ?_);(try (refine zqu (by rfl) ?_;dsimp only));refine zqm rfl (N:=5) rfl (cs:=#[.int .i64 cups]) (t:=3) ?hr ?_;(case hr=>go_simp;try rfl);intro gq hg w2 hbox hb;replace HR0:=(cmv HR0 hb);replace HR2:=(cmv HR2 hb);replace HR3:=(cmv HR3 hb);replace HB:=(bmv HB hb);replace BKgb:=(kmv hb BKgb);replace BKgc:=(kmv hb BKgc);clear hg;have BKgq:=am hbox;clear hbox;(try clear hczgb_0 hczgb_1 hczgb_2 hczgb_3 hczgb_4);obtain ⟨hczgb_0,hczgb_1,hczgb_2,hczgb_3,hczgb_4⟩:=cO5 BKgb.out;(try clear hczgc_0);have hczgc_0:=cO1 BKgc.out;(try clear hczgq_0);have hczgq_0:=cO1 BKgq.out;clear hb) | (go_at_call 64;(refine (ca_isBasin.calls AX c0_0 lA aA AY cB lB a0_3 aC true _ HR0.out HC0.out HR2.out HC2.out H1.out).mono ?_);rintro e w1 ⟨rfl,hb⟩;replace HR0:=(cmv HR0 hb);replace HR2:=(cmv HR2 hb);replace HR3:=(cmv HR3 hb);replace HB:=(bmv HB hb);replace BKgb:=(kmv hb BKgb);replace BKgc:=(kmv hb BKgc);replace BKgq:=(kmv hb BKgq);(try clear hczgb_0 hczgb_1 hczgb_2 hczgb_3 hczgb_4);obtain ⟨hczgb_0,hczgb_1,hczgb_2,hczgb_3,hczgb_4⟩:=cO5 BKgb.out;(try clear hczgc_0);have hczgc_0:=cO1 BKgc.out;(try clear hczgq_0);have hczgq_0:=cO1 BKgq.out;clear hb) | (go_at_call 65;(refine (cf_Mends.calls A3 c3 claims false _ HR3.out HC3.out H2.out).mono ?_);rintro e w2 ⟨rfl,hb⟩;replace HR0:=(cmv HR0 hb);replace HR2:=(cmv HR2 hb);replace HR3:=(cmv HR3 hb);replace HB:=(bmv HB hb);replace BKgb:=(kmv hb BKgb);replace BKgc:=(kmv hb BKgc);replace BKgq:=(kmv hb BKgq);(try clear hczgb_0 hczgb_1 hczgb_2 hczgb_3 hczgb_4);obtain ⟨hczgb_0,hczgb_1,hczgb_2,hczgb_3,hczgb_4⟩:=cO5 BKgb.out;(try clear hczgc_0);have hczgc_0:=cO1 BKgc.out;(try clear hczgq_0);have hczgq_0:=cO1 BKgq.out;clear hb) | (go_at_call 67;(refine (ca_isFlow.calls cups false _ H3.out).mono ?_);rintro e w3 ⟨rfl,hd⟩;have hb:=hd.below;clear hd;replace HR0:=(cmv HR0 hb);replace HR2:=(cmv HR2 hb);replace HR3:=(cmv HR3 hb);replace HB:=(bmv HB hb);replace BKgb:=(kmv hb BKgb);replace BKgc:=(kmv hb BKgc);replace BKgq:=(kmv hb BKgq);(try clear hczgb_0 hczgb_1 hczgb_2 hczgb_3 hczgb_4);obtain ⟨hczgb_0,hczgb_1,hczgb_2,hczgb_3,hczgb_4⟩:=cO5 BKgb.out;(try clear hczgc_0);have hczgc_0:=cO1 BKgc.out;(try clear hczgq_0);have hczgq_0:=cO1 BKgq.out;clear hb))
    go_ret3
    exact ⟨_,rfl,Kd.R_nil _ _ _ _ _,HB.out⟩
   | true =>
    rw [if_pos rfl] at h
    have HG:=am h
    clear h
    obtain ⟨hh1,hh2⟩:=HH.out H1.out
    have HHH:=am hh1
    clear hh1
    go_enter Tryz.func20,Tryz.ntmps20
    go_wp2_with (first | ((refine zqn (N:=3) rfl ?_);(try (refine zqu (by rfl) ?_;dsimp only));refine zqm rfl (N:=3) rfl (cs:=#[.slice AX lA.length c0_0,.int .i64 aA,.slice AY lB.length cB,.int .i64 a0_3,.int .i64 aC]) (t:=27) ?hr ?_;(case hr=>go_simp;try rfl);intro gb hg w2 hbox hb;replace HR0:=(cmv HR0 hb);replace HR2:=(cmv HR2 hb);replace HR3:=(cmv HR3 hb);replace HB:=(bmv HB hb);clear hg;have BKgb:=am hbox;clear hbox;(try clear hczgb_0 hczgb_1 hczgb_2 hczgb_3 hczgb_4);obtain ⟨hczgb_0,hczgb_1,hczgb_2,hczgb_3,hczgb_4⟩:=cO5 BKgb.out;clear hb) | ((refine zqn (N:=4) rfl ?_);(try (refine zqu (by rfl) ?_;dsimp only));refine zqm rfl (N:=4) rfl (cs:=#[.slice A3 claims.length c3]) (t:=28) ?hr ?_;(case hr=>go_simp;try rfl);intro gc hg w2 hbox hb;replace HR0:=(cmv HR0 hb);replace HR2:=(cmv HR2 hb);replace HR3:=(cmv HR3 hb);replace HB:=(bmv HB hb);replace BKgb:=(kmv hb BKgb);clear hg;have BKgc:=am hbox;clear hbox;(try clear hczgb_0 hczgb_1 hczgb_2 hczgb_3 hczgb_4);obtain ⟨hczgb_0,hczgb_1,hczgb_2,hczgb_3,hczgb_4⟩:=cO5 BKgb.out;(try clear hczgc_0);have hczgc_0:=cO1 BKgc.out;clear hb) | ((refine zqn (N:=5) rfl ?_);(try (refine zqu (by rfl) ?_;dsimp only));refine zqm rfl (N:=5) rfl (cs:=#[.int .i64 cups]) (t:=3) ?hr ?_;(case hr=>go_simp;try rfl);intro gq hg w2 hbox hb;replace HR0:=(cmv HR0 hb);replace HR2:=(cmv HR2 hb);replace HR3:=(cmv HR3 hb);replace HB:=(bmv HB hb);replace BKgb:=(kmv hb BKgb);replace BKgc:=(kmv hb BKgc);clear hg;have BKgq:=am hbox;clear hbox;(try clear hczgb_0 hczgb_1 hczgb_2 hczgb_3 hczgb_4);obtain ⟨hczgb_0,hczgb_1,hczgb_2,hczgb_3,hczgb_4⟩:=cO5 BKgb.out;(try clear hczgc_0);have hczgc_0:=cO1 BKgc.out;(try clear hczgq_0);have hczgq_0:=cO1 BKgq.out;clear hb) | (go_at_call 64;(refine (ca_isBasin.calls AX c0_0 lA aA AY cB lB a0_3 aC true _ HR0.out HC0.out HR2.out HC2.out H1.out).mono ?_);rintro e w1 ⟨rfl,hb⟩;replace HR0:=(cmv HR0 hb);replace HR2:=(cmv HR2 hb);replace HR3:=(cmv HR3 hb);replace HB:=(bmv HB hb);replace BKgb:=(kmv hb BKgb);replace BKgc:=(kmv hb BKgc);replace BKgq:=(kmv hb BKgq);(try clear hczgb_0 hczgb_1 hczgb_2 hczgb_3 hczgb_4);obtain ⟨hczgb_0,hczgb_1,hczgb_2,hczgb_3,hczgb_4⟩:=cO5 BKgb.out;(try clear hczgc_0);have hczgc_0:=cO1 BKgc.out;(try clear hczgq_0);have hczgq_0:=cO1 BKgq.out;clear hb) | (go_at_call 65;(refine (cf_Mends.calls A3 c3 claims false _ HR3.out HC3.out H2.out).mono ?_);rintro e w2 ⟨rfl,hb⟩;replace HR0:=(cmv HR0 hb);replace HR2:=(cmv HR2 hb);replace HR3:=(cmv HR3 hb);replace HB:=(bmv HB hb);replace BKgb:=(kmv hb BKgb);replace BKgc:=(kmv hb BKgc);replace BKgq:=(kmv hb BKgq);(try clear hczgb_0 hczgb_1 hczgb_2 hczgb_3 hczgb_4);obtain ⟨hczgb_0,hczgb_1,hczgb_2,hczgb_3,hczgb_4⟩:=cO5 BKgb.out;(try clear hczgc_0);have hczgc_0:=cO1 BKgc.out;(try clear hczgq_0);have hczgq_0:=cO1 BKgq.out;clear hb) | (go_at_call 67;(refine (ca_isFlow.calls cups true _ H3.out).mono ?_);rintro e w3 ⟨rfl,hd⟩;have hb:=hd.below;clear hd;replace HR0:=(cmv HR0 hb);replace HR2:=(cmv HR2 hb);replace HR3:=(cmv HR3 hb);replace HB:=(bmv HB hb);replace BKgb:=(kmv hb BKgb);replace BKgc:=(kmv hb BKgc);replace BKgq:=(kmv hb BKgq);(try clear hczgb_0 hczgb_1 hczgb_2 hczgb_3 hczgb_4);obtain ⟨hczgb_0,hczgb_1,hczgb_2,hczgb_3,hczgb_4⟩:=cO5 BKgb.out;(try clear hczgc_0);have hczgc_0:=cO1 BKgc.out;(try clear hczgq_0);have hczgq_0:=cO1 BKgq.out;clear hb))
    have hw1 : IntKind.i64.wrap (2 * (lB.length : Int)) = 2 * (lB.length : Int):=(i64_w _).trans (by unfold wrap64;omega)
    have hw2 : IntKind.i64.wrap (2 * (lB.length : Int) + 1) = 2 * (lB.length : Int) + 1:=(i64_w _).trans (by unfold wrap64;omega)
    go_loopw [39] (fun v39 w'=>∃ i : Int,0≤i∧i≤2 * (lB.length : Int) + 1∧v39 = .int .i64 i∧zqk (zko (suffice.f k lA aA lB a0_3 aC cups claims) (hsOf (lB.map (·.f1)) []) (2 * (lB.length : Int) + 1 - i).toNat i = some (r1,r2,r3))∧zqk (Below w.heap.size w w')∧zqk (Kd.C k126 w' AX lA.length lA)∧zqk (Kd.C k48 w' AY lB.length lB)∧zqk (Kd.C (Kd.int .i64) w' A3 claims.length claims)∧zqk (w'.heap[gb]? = some (.cells #[.slice AX lA.length c0_0,.int .i64 aA,.slice AY lB.length cB,.int .i64 a0_3,.int .i64 aC] 27 (0,0)))∧zqk (w'.heap[gc]? = some (.cells #[.slice A3 claims.length c3] 28 (0,0)))∧zqk (w'.heap[gq]? = some (.cells #[.int .i64 cups] 3 (0,0)))) (fun v39 _=>(2 * (lB.length : Int) + 1 - intOf v39).toNat)
    case atStart=>exact ⟨0,by omega,by omega,rfl,HG,HB,HR0,HR2,HR3,BKgb,BKgc,BKgq⟩
    case round =>
     clear HG HB HR0 HR2 HR3 BKgb BKgc BKgq
     (try clear hczgb_0 hczgb_1 hczgb_2 hczgb_3 hczgb_4 hczgc_0 hczgq_0)
     obtain ⟨i,p1,hi,rfl,HG,HB,HR0,HR2,HR3,BKgb,BKgc,BKgq⟩:=hrel
     by_cases hlt : i < 2 * (lB.length : Int) + 1
     case neg =>
      have hg:=HG.out
      rw [show (2 * (lB.length : Int) + 1 - i).toNat = 0 by omega] at hg
      simp only [zko,Option.some.injEq,Prod.mk.injEq] at hg
      obtain ⟨rfl,rfl,rfl⟩:=hg
      go_wp2
      go_ret3
      exact ⟨_,rfl,Kd.R_nil _ _ _ _ _,HB.out⟩
     have hg:=HG.out
     rw [show (2 * (lB.length : Int) + 1 - i).toNat = (2 * (lB.length : Int) + 1 - (i + 1)).toNat + 1 by omega] at hg
     simp only [zko] at hg
     obtain ⟨x,hx,hg2⟩:=obm hg
     clear hg HG
     have HX:=am hx
     clear hx
     have hw3 : IntKind.i64.wrap (i + 1) = i + 1:=(i64_w _).trans (by unfold wrap64;omega)
     have hch : 0≤i∧i≤1000:=by omega
     (try clear hczgb_0 hfzgb_0);have hczgb_0 : wr.cell? ⟨gb,0,none⟩ = some (.slice AX lA.length c0_0):=(zqe BKgb.out 0).trans rfl;have hfzgb_0:=zqd BKgb.out 0
     (try clear hczgb_1 hfzgb_1);have hczgb_1 : wr.cell? ⟨gb,1,none⟩ = some (.int .i64 aA):=(zqe BKgb.out 1).trans rfl;have hfzgb_1:=zqd BKgb.out 1
     (try clear hczgb_2 hfzgb_2);have hczgb_2 : wr.cell? ⟨gb,2,none⟩ = some (.slice AY lB.length cB):=(zqe BKgb.out 2).trans rfl;have hfzgb_2:=zqd BKgb.out 2
     (try clear hczgb_3 hfzgb_3);have hczgb_3 : wr.cell? ⟨gb,3,none⟩ = some (.int .i64 a0_3):=(zqe BKgb.out 3).trans rfl;have hfzgb_3:=zqd BKgb.out 3
     (try clear hczgb_4 hfzgb_4);have hczgb_4 : wr.cell? ⟨gb,4,none⟩ = some (.int .i64 aC):=(zqe BKgb.out 4).trans rfl;have hfzgb_4:=zqd BKgb.out 4
     (try clear hczgc_0 hfzgc_0);have hczgc_0 : wr.cell? ⟨gc,0,none⟩ = some (.slice A3 claims.length c3):=(zqe BKgc.out 0).trans rfl;have hfzgc_0:=zqd BKgc.out 0
     (try clear hczgq_0 hfzgq_0);have hczgq_0 : wr.cell? ⟨gq,0,none⟩ = some (.int .i64 cups):=(zqe BKgq.out 0).trans rfl;have hfzgq_0:=zqd BKgq.out 0
     cases x with
     | none =>
      dsimp only at hg2
      have HG:=am hg2
      clear hg2
      go_wp2_with (first | (go_at_call 73;(refine (ca_heights.calls AX lA.length c0_0 aA AY lB.length cB a0_3 aC i _).mono ?_);rintro e w1 ⟨hgb,hgch,rfl,hbb,hbch,hb⟩;replace HR0:=(cmv HR0 hb);replace HR2:=(cmv HR2 hb);replace HR3:=(cmv HR3 hb);replace HB:=(bmv HB hb);replace BKgb:=(kmv hb BKgb);replace BKgc:=(kmv hb BKgc);replace BKgq:=(kmv hb BKgq);(try clear hczgb_0 hczgb_1 hczgb_2 hczgb_3 hczgb_4);obtain ⟨hczgb_0,hczgb_1,hczgb_2,hczgb_3,hczgb_4⟩:=cO5 BKgb.out;(try clear hczgc_0);have hczgc_0:=cO1 BKgc.out;(try clear hczgq_0);have hczgq_0:=cO1 BKgq.out;have BB1:=am hbb;have BB2:=am hbch;clear hbb hbch;clear hb) | (go_at_call 72;(with_reducible refine ((ca_first.calls k hgb hgch gb gq gc AX c0_0 lA aA AY cB lB a0_3 aC i cups A3 c3 claims _ _ BB1.out BB2.out BKgb.out BKgq.out BKgc.out HR0.out HC0.out HR2.out HC2.out HR3.out hch.1 hch.2 HHH.out (Nat.le_trans hh2 (by decide)) (HQ.out H1.out HL.out H3.out) HX.out).mono (fun e _ h_=>firstPostN (e:=e) h_)).mono ?_);rintro e w2 ⟨rfl,hb⟩;replace HR0:=(cmv HR0 hb);replace HR2:=(cmv HR2 hb);replace HR3:=(cmv HR3 hb);replace HB:=(bmv HB hb);replace BKgb:=(kmv hb BKgb);replace BKgc:=(kmv hb BKgc);replace BKgq:=(kmv hb BKgq);(try clear hczgb_0 hczgb_1 hczgb_2 hczgb_3 hczgb_4);obtain ⟨hczgb_0,hczgb_1,hczgb_2,hczgb_3,hczgb_4⟩:=cO5 BKgb.out;(try clear hczgc_0);have hczgc_0:=cO1 BKgc.out;(try clear hczgq_0);have hczgq_0:=cO1 BKgq.out;clear hb))
      go_roundw
      case rel=>exact ⟨i + 1,by omega,by omega,by go_num,HG,HB,HR0,HR2,HR3,BKgb,BKgc,BKgq⟩
      case measure=>simp [intOf];omega
     | some l =>
      dsimp only at hg2
      simp only [Option.some.injEq,Prod.mk.injEq] at hg2
      obtain ⟨rfl,rfl,rfl⟩:=hg2
      go_wp2_with (first | (go_at_call 73;(refine (ca_heights.calls AX lA.length c0_0 aA AY lB.length cB a0_3 aC i _).mono ?_);rintro e w1 ⟨hgb,hgch,rfl,hbb,hbch,hb⟩;replace HR0:=(cmv HR0 hb);replace HR2:=(cmv HR2 hb);replace HR3:=(cmv HR3 hb);replace HB:=(bmv HB hb);replace BKgb:=(kmv hb BKgb);replace BKgc:=(kmv hb BKgc);replace BKgq:=(kmv hb BKgq);(try clear hczgb_0 hczgb_1 hczgb_2 hczgb_3 hczgb_4);obtain ⟨hczgb_0,hczgb_1,hczgb_2,hczgb_3,hczgb_4⟩:=cO5 BKgb.out;(try clear hczgc_0);have hczgc_0:=cO1 BKgc.out;(try clear hczgq_0);have hczgq_0:=cO1 BKgq.out;have BB1:=am hbb;have BB2:=am hbch;clear hbb hbch;clear hb) | (go_at_call 72;(with_reducible refine ((ca_first.calls k hgb hgch gb gq gc AX c0_0 lA aA AY cB lB a0_3 aC i cups A3 c3 claims _ _ BB1.out BB2.out BKgb.out BKgq.out BKgc.out HR0.out HC0.out HR2.out HC2.out HR3.out hch.1 hch.2 HHH.out (Nat.le_trans hh2 (by decide)) (HQ.out H1.out HL.out H3.out) HX.out).mono (fun e _ h_=>firstPostS (e:=e) h_)).mono ?_);rintro e w2 ⟨A,c,⟨rfl,hle,hC,hR⟩,hb⟩;have HRR:=am (Kd.R_lower hR (by first | exact HB.out.size | (have:=HB.out.size;simpa using this)));clear hR;replace HR0:=(cmv HR0 hb);replace HR2:=(cmv HR2 hb);replace HR3:=(cmv HR3 hb);replace HB:=(bmv HB hb);replace BKgb:=(kmv hb BKgb);replace BKgc:=(kmv hb BKgc);replace BKgq:=(kmv hb BKgq);(try clear hczgb_0 hczgb_1 hczgb_2 hczgb_3 hczgb_4);obtain ⟨hczgb_0,hczgb_1,hczgb_2,hczgb_3,hczgb_4⟩:=cO5 BKgb.out;(try clear hczgc_0);have hczgc_0:=cO1 BKgc.out;(try clear hczgq_0);have hczgq_0:=cO1 BKgq.out;have HLE:=am hle;have HRX:=am hC;clear hle hC;clear hb))
      go_ret3
      exact ⟨_,rfl,HRR.out,HB.out⟩
theorem w64 {n : Int} (h : -9223372036854775808≤n∧n≤9223372036854775807) : wrap64 n = n:=by unfold wrap64;omega
theorem ksucc {k : Nat} (h : 0 < k) : ∃ m,k = m + 1:=⟨k - 1,by omega⟩
def rowOk (r : S126) : Bool:=decide (1≤r.f0∧r.f0≤60) && (decide (1≤r.f1∧r.f1≤60) && decide (1≤r.f2∧r.f2≤1000))
def nozOk (n : Int) (z : S48) : Bool:=decide (0≤z.f0∧z.f0≤n - 1) && decide (0≤z.f1∧z.f1≤40)
def okT (rows : List S126) (draw : Int) : Bool:=decide (1≤(rows.length : Int)∧(rows.length : Int)≤12) && (decide (0≤draw∧draw≤100) && rows.all rowOk)
def okB (rows : List S126) (draw : Int) (noz : List S48) (weir spill : Int) : Bool:=
 okT rows draw && (decide (1≤(noz.length : Int)∧(noz.length : Int)≤6) && (decide (0≤weir∧weir≤40) && (decide (0≤spill∧spill≤100) && noz.all (nozOk rows.length))))
theorem c_in (a b c : Int) : ca_in.f a b c = some (decide (b≤a∧a≤c)):=by
 unfold ca_in.f
 by_cases h : a ≥ b
 ·rw [if_pos h];have : b≤a:=h;simp [this]
 ·rw [if_neg h];have : ¬ b≤a:=h;simp [this]
theorem n_in (a b c : Int) : nz_in.f a b c = some (decide (b≤a∧a≤c)):=c_in a b c
theorem r4_in (a b c : Int) : q4_in.f a b c = some (decide (b≤a∧a≤c)):=c_in a b c
theorem r3_in (a b c : Int) : q3_in.f a b c = some (decide (b≤a∧a≤c)):=c_in a b c
theorem zpi (a : Int) : ca_isHeight.f a = some (decide (0≤a∧a≤40)):=by unfold ca_isHeight.f;rw [c_in];rfl
theorem c_flow (a : Int) : ca_isFlow.f a = some (decide (0≤a∧a≤10000)):=by unfold ca_isFlow.f;rw [c_in];rfl
theorem zn2 (a : Int) : q4_Height.f a = some (decide (0≤a∧a≤40)):=by unfold q4_Height.f;rw [r4_in];rfl
theorem r_cups (a : Int) : q4_Cups.f a = some (decide (0≤a∧a≤10000)):=by unfold q4_Cups.f;rw [r4_in];rfl
theorem zke {α : Type} {q : α→Option Bool} {p : α→Bool} (h : ∀ x,q x = some (p x)) : ∀ xs,anyM q xs = some (xs.any p)
 | []=>rfl
 | x :: xs=>by
  simp only [anyM,h,Option.bind_some,List.any_cons,zke h xs]
  cases p x<;>rfl
theorem row_bad (x : S126) : nz_isTable_1.f x.f0 x.f1 x.f2 = some (!rowOk x):=by
 unfold nz_isTable_1.f rowOk
 simp only [n_in,Option.bind_some]
 cases decide (1≤x.f0∧x.f0≤60)<;>cases decide (1≤x.f1∧x.f1≤60)<;>cases decide (1≤x.f2∧x.f2≤1000)<;>rfl
theorem noz_bad {rows : List S126} (hl : rows.length≤1000) (x : S48) : ca_isBasin_1.f rows x = some (!nozOk rows.length x):=by
 unfold ca_isBasin_1.f nozOk
 rw [w64 (by omega)]
 simp only [c_in,zpi,Option.bind_some]
 cases decide (0≤x.f0∧x.f0≤(rows.length : Int) - 1)<;>cases decide (0≤x.f1∧x.f1≤40)<;>rfl
theorem zm7 (rows : List S126) (draw : Int) : nz_isTable.f rows draw = some (okT rows draw):=by
 unfold nz_isTable.f okT cf_isTable.f
 rw [zke row_bad,← List.not_all_eq_any_not]
 simp only [n_in,Option.bind_some]
 cases decide (1≤(rows.length : Int)∧(rows.length : Int)≤12)<;>cases decide (0≤draw∧draw≤100)<;>cases rows.all rowOk<;>rfl
theorem zjx {rows : List S126} {draw : Int} {noz : List S48} {weir spill : Int} (hl : rows.length≤1000) : ca_isBasin.f rows draw noz weir spill = some (okB rows draw noz weir spill):=by
 unfold ca_isBasin.f okB nz_Check.f
 rw [zke (noz_bad hl),← List.not_all_eq_any_not,zm7]
 simp only [c_in,zpi,Option.bind_some]
 cases okT rows draw<;>cases decide (1≤(noz.length : Int)∧(noz.length : Int)≤6)<;>cases decide (0≤weir∧weir≤40)<;>cases decide (0≤spill∧spill≤100)<;>cases noz.all (nozOk rows.length)<;>rfl
theorem zb4 (rows : List S126) (draw : Int) (hl : rows.length≤1000) : ∀ (d k : Nat) (i : Int),0≤i→i + d = rows.length→d < k→
 q3_Table.l0 k i rows draw = some ((rows.drop i.toNat).all rowOk && (decide (1≤(rows.length : Int)∧(rows.length : Int)≤12) && decide (0≤draw∧draw≤100)))
 | 0,k,i,h0,hi,hk=>by
  obtain ⟨k,rfl⟩:=ksucc hk
  simp only [q3_Table.l0]
  rw [if_neg (by omega),List.drop_of_length_le (by omega)]
  simp only [r3_in,Option.bind_some,List.all_nil,Bool.true_and]
  cases decide (1≤(rows.length : Int)∧(rows.length : Int)≤12)<;>cases decide (0≤draw∧draw≤100)<;>rfl
 | d + 1,k,i,h0,hi,hk=>by
  obtain ⟨k,rfl⟩:=ksucc (by omega : 0 < k)
  simp only [q3_Table.l0]
  rw [if_pos (by omega),if_pos h0,w64 (by omega),zb4 rows draw hl d k (i + 1) (by omega) (by omega) (by omega),zj2 z126 rows i h0 (by omega),List.all_cons]
  show _ = some ((rowOk (zqw rows i) && _) && _)
  unfold rowOk
  simp only [r3_in,Option.bind_some]
  cases decide (1≤(zqw rows i).f0∧(zqw rows i).f0≤60)<;>cases decide (1≤(zqw rows i).f1∧(zqw rows i).f1≤60)<;>cases decide (1≤(zqw rows i).f2∧(zqw rows i).f2≤1000)<;>rfl
theorem refTable_eq {rows : List S126} {draw : Int} {k : Nat} (hl : rows.length≤1000) (hk : rows.length < k) : q3_Table.f k rows draw = some (okT rows draw):=by
 unfold q3_Table.f okT
 rw [zb4 rows draw hl rows.length k 0 (by omega) (by omega) hk]
 show some (rows.all rowOk && _) = _
 cases decide (1≤(rows.length : Int)∧(rows.length : Int)≤12)<;>cases decide (0≤draw∧draw≤100)<;>cases rows.all rowOk<;>rfl
theorem zb5 (rows : List S126) (draw : Int) (noz : List S48) (weir spill : Int) (hl : rows.length≤1000) (hn : noz.length≤1000) : ∀ (d k : Nat) (i : Int),0≤i→i + d = noz.length→rows.length + d + 1 < k→
 q4_Basin.l0 k i rows draw noz weir spill = some ((noz.drop i.toNat).all (nozOk rows.length) && (okT rows draw && (decide (1≤(noz.length : Int)∧(noz.length : Int)≤6) && (decide (0≤weir∧weir≤40) && decide (0≤spill∧spill≤100)))))
 | 0,k,i,h0,hi,hk=>by
  obtain ⟨k,rfl⟩:=ksucc (by omega : 0 < k)
  simp only [q4_Basin.l0]
  rw [if_neg (by omega),List.drop_of_length_le (by omega),refTable_eq hl (by omega)]
  simp only [r4_in,zn2,Option.bind_some,List.all_nil,Bool.true_and]
  cases okT rows draw<;>cases decide (1≤(noz.length : Int)∧(noz.length : Int)≤6)<;>cases decide (0≤weir∧weir≤40)<;>cases decide (0≤spill∧spill≤100)<;>rfl
 | d + 1,k,i,h0,hi,hk=>by
  obtain ⟨k,rfl⟩:=ksucc (by omega : 0 < k)
  simp only [q4_Basin.l0]
  rw [if_pos (by omega),if_pos h0,w64 (n:=i + 1) (by omega),w64 (by omega),zb5 rows draw noz weir spill hl hn d k (i + 1) (by omega) (by omega) (by omega),zj2 z48 noz i h0 (by omega),List.all_cons]
  show _ = some ((nozOk rows.length (zql noz i) && _) && _)
  unfold nozOk
  simp only [r4_in,zn2,Option.bind_some]
  cases decide (0≤(zql noz i).f0∧(zql noz i).f0≤(rows.length : Int) - 1)<;>cases decide (0≤(zql noz i).f1∧(zql noz i).f1≤40)<;>rfl
theorem refBasin_eq {rows : List S126} {draw : Int} {noz : List S48} {weir spill : Int} {k : Nat} (hl : rows.length≤1000) (hn : noz.length≤1000) (hk : rows.length + noz.length + 1 < k) :
 q4_Basin.f k rows draw noz weir spill = some (okB rows draw noz weir spill):=by
 unfold q4_Basin.f okB
 rw [zb5 rows draw noz weir spill hl hn noz.length k 0 (by omega) (by omega) hk]
 show some (noz.all (nozOk rows.length) && _) = _
 cases okT rows draw<;>cases decide (1≤(noz.length : Int)∧(noz.length : Int)≤6)<;>cases decide (0≤weir∧weir≤40)<;>cases decide (0≤spill∧spill≤100)<;>cases noz.all (nozOk rows.length)<;>rfl
structure OkB (rows : List S126) (draw : Int) (noz : List S48) (weir spill : Int) : Prop where
 r1 : 1≤rows.length
 r2 : rows.length≤12
 tab : okT rows draw = true
 rr : ∀ r ∈ rows,1≤r.f2∧r.f2≤1000
 n1 : 1≤noz.length
 n2 : noz.length≤6
 w0 : 0≤weir
 w1 : weir≤40
 s0 : 0≤spill
 s1 : spill≤100
 nn : ∀ z ∈ noz,0≤z.f0∧z.f0 < rows.length∧0≤z.f1∧z.f1≤40
theorem zgd {rows : List S126} {draw : Int} {noz : List S48} {weir spill : Int} : okB rows draw noz weir spill = true↔OkB rows draw noz weir spill:=by
 constructor
 ·intro h
  unfold okB at h
  simp only [Bool.and_eq_true,decide_eq_true_eq,List.all_eq_true] at h
  obtain ⟨ht,h2,h3,h4,h5⟩:=h
  have ht':=ht
  unfold okT at ht'
  simp only [Bool.and_eq_true,decide_eq_true_eq,List.all_eq_true] at ht'
  obtain ⟨h0,h1,hr⟩:=ht'
  refine ⟨by omega,by omega,ht,fun r hm=>?_,by omega,by omega,by omega,by omega,by omega,by omega,fun z hm=>?_⟩
  ·have:=hr r hm;unfold rowOk at this;simp only [Bool.and_eq_true,decide_eq_true_eq] at this;omega
  ·have:=h5 z hm;unfold nozOk at this;simp only [Bool.and_eq_true,decide_eq_true_eq] at this;omega
 ·intro h
  unfold okB
  simp only [Bool.and_eq_true,decide_eq_true_eq,List.all_eq_true]
  have a1:=h.n1;have a2:=h.n2
  refine ⟨h.tab,by omega,⟨h.w0,h.w1⟩,⟨h.s0,h.s1⟩,fun z hz=>?_⟩
  have:=h.nn z hz
  unfold nozOk;simp only [Bool.and_eq_true,decide_eq_true_eq];omega
def gvz (rows : List S126) (z : S48) : Int:=(zqw rows z.f0).f2
def pour (rows : List S126) (h : Int) (z : S48) : Int:=gvz rows z * mx 0 (mn 5 (h - z.f1)) / 5
def gat (rows : List S126) (noz : List S48) (h : Int) : List Int:=noz.map (pour rows h)
theorem gvz_in {rows : List S126} {draw : Int} {noz : List S48} {weir spill : Int} (h : OkB rows draw noz weir spill) {z : S48} (hz : z ∈ noz) : 1≤gvz rows z∧gvz rows z≤1000:=by
 have a:=h.nn z hz
 exact h.rr _ (zwz z126 a.1 a.2.1)
theorem zn8 (x : Int) : mx 0 (mn 5 x) = 0∨mx 0 (mn 5 x) = 1∨mx 0 (mn 5 x) = 2∨mx 0 (mn 5 x) = 3∨mx 0 (mn 5 x) = 4∨mx 0 (mn 5 x) = 5:=by
 unfold mx mn;split<;>split<;>omega
theorem mm_swap (x : Int) : mn 5 (mx 0 x) = mx 0 (mn 5 x):=by unfold mx mn;(repeat' split)<;>omega
theorem zp4 {g m : Int} (h0 : 0≤g) (h1 : g≤1000) (hm : m = 0∨m = 1∨m = 2∨m = 3∨m = 4∨m = 5) : wrap64 (Int.tdiv (wrap64 (g * m)) 5) = g * m / 5:=by
 have : 0≤g * m∧g * m≤5000:=by rcases hm with rfl | rfl | rfl | rfl | rfl | rfl<;>omega
 rw [w64 (n:=g * m) (by omega),Int.tdiv_eq_ediv_of_nonneg this.1,w64 (by omega)]
theorem pour_in {rows : List S126} {draw : Int} {noz : List S48} {weir spill : Int} (h : OkB rows draw noz weir spill) {z : S48} (hz : z ∈ noz) (x : Int) : 0≤pour rows x z∧pour rows x z≤1000:=by
 have a:=gvz_in h hz
 unfold pour
 rcases zn8 (x - z.f1) with e | e | e | e | e | e<;>rw [e]<;>omega
theorem rd_map (f : S48→Int) {noz : List S48} {i : Int} (h0 : 0≤i) (h1 : i < noz.length) : rd (noz.map f) i = f (zql noz i):=by
 unfold rd zql
 rw [List.getD_eq_getElem?_getD,List.getD_eq_getElem?_getD,List.getElem?_map,List.getElem?_eq_getElem (show i.toNat < noz.length by omega)]
 rfl
theorem zbv {α β : Type} (d : α) (f : α→β) (l : List α) {i : Int} (h0 : 0≤i) (h1 : i < l.length) : (l.take (i + 1).toNat).map f = (l.take i.toNat).map f ++ [f (l.getD i.toNat d)]:=by
 rw [show (i + 1).toNat = i.toNat + 1 by omega,List.take_succ_eq_append_getElem (show i.toNat < l.length by omega),List.map_append,List.getD_eq_getElem?_getD,List.getElem?_eq_getElem (show i.toNat < l.length by omega)]
 rfl
end Go.Proofs.YtnnmnhpeblhiiaaGreatDoor.C

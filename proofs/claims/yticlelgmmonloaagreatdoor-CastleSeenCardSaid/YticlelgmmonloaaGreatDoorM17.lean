/- A part of the proof: the walks of the functions that it reaches. TIGHT. -/
import Derived.Test.YticlelgmmonloaaGreatDoorM16
import Derived.Tactics2
import Derived.Defers
import Derived.Recover
import Derived.Laws.Pointers
import Derived.Lib.Hide
set_option linter.unusedVariables false
set_option linter.unusedSimpArgs false
namespace Go.Proofs.YticlelgmmonloaaGreatDoor.C
open Go.RowKit Go.Abs Go.Proofs.YticlelgmmonloaaGreatDoorW.PrintWords Go.Proofs.YticlelgmmonloaaGreatDoorW.PrintLast Go.Proofs.YticlelgmmonloaaGreatDoorW.PrintMore
set_option linter.unusedVariables false
set_option linter.unusedSimpArgs false
set_option maxHeartbeats 16000000
set_option maxRecDepth 100000
def decRows : List AV → Option (List S126)
 | [] => some []
 | .int .i64 a :: .int .i64 b :: .int .i64 c :: l => (decRows l).map (⟨a,b,c⟩ :: ·)
 | _ => none
theorem decRows_eq : ∀ {cs : List AV} {xs : List S126} {e : Env} {vs : List Value},decRows cs = some xs → concL e cs = some vs → ∀ (j : Nat) p,xs[j]? = some p → (vs.drop (j * 3)).take 3 = [.int .i64 p.f0,.int .i64 p.f1,.int .i64 p.f2]
 | [],_,e,vs,h,hv,j,p,hj => by cases h;simp at hj
 | a :: l,xs,e,vs,h,hv,j,p,hj => by
  unfold decRows at h
  split at h
  · cases ‹_ :: _ = []›
  · rename_i heq;cases heq
    simp only [Option.map_eq_some_iff] at h
    obtain ⟨ys,h1,rfl⟩ := h
    simp only [concL,conc,Option.bind_some,Option.map_eq_some_iff] at hv
    obtain ⟨_,⟨_,⟨zs,hz,rfl⟩,rfl⟩,rfl⟩ := hv
    cases j with
    | zero => cases hj;rfl
    | succ j => rw [show (j + 1) * 3 = j * 3 + 3 by omega];exact decRows_eq h1 hz j p (by simpa using hj)
  · cases h
def decNoz : List AV → Option (List S64)
 | [] => some []
 | .int .i64 a :: .int .i64 b :: l => (decNoz l).map (⟨a,b⟩ :: ·)
 | _ => none
theorem decNoz_eq : ∀ {cs : List AV} {xs : List S64} {e : Env} {vs : List Value},decNoz cs = some xs → concL e cs = some vs → ∀ (j : Nat) p,xs[j]? = some p → (vs.drop (j * 2)).take 2 = [.int .i64 p.f0,.int .i64 p.f1]
 | [],_,e,vs,h,hv,j,p,hj => by cases h;simp at hj
 | a :: l,xs,e,vs,h,hv,j,p,hj => by
  unfold decNoz at h
  split at h
  · cases ‹_ :: _ = []›
  · rename_i heq;cases heq
    simp only [Option.map_eq_some_iff] at h
    obtain ⟨ys,h1,rfl⟩ := h
    simp only [concL,conc,Option.bind_some,Option.map_eq_some_iff] at hv
    obtain ⟨_,⟨zs,hz,rfl⟩,rfl⟩ := hv
    cases j with
    | zero => cases hj;rfl
    | succ j => rw [show (j + 1) * 2 = j * 2 + 2 by omega];exact decNoz_eq h1 hz j p (by simpa using hj)
  · cases h
noncomputable def rdRows : St → AV → Option (List S126) := rdG 3 decRows
noncomputable def rdNoz : St → AV → Option (List S64) := rdG 2 decNoz
theorem rdRows_ok {e : Env} {s : St} {w : World} (hs : Sim e s w) {v : AV} {xs : List S126} {x : Value} (h : rdRows s v = some xs) (hx : conc e v = some x) : ∃ A c,x = .slice A xs.length c ∧ xs.length ≤ c ∧ Kd.C k126 w A xs.length xs :=
 rdG_ok (d := k126) hs (by show 0 < 3;omega) (fun cs xs vs h1 h2 j p hj => by
  show k126.K w p ((vs.drop (j * 3)).take 3)
  rw [decRows_eq h1 h2 j p hj];exact k126_mk w p) h hx
theorem rdNoz_ok {e : Env} {s : St} {w : World} (hs : Sim e s w) {v : AV} {xs : List S64} {x : Value} (h : rdNoz s v = some xs) (hx : conc e v = some x) : ∃ A c,x = .slice A xs.length c ∧ xs.length ≤ c ∧ Kd.C k64 w A xs.length xs :=
 rdG_ok (d := k64) hs (by show 0 < 2;omega) (fun cs xs vs h1 h2 j p hj => by
  show k64.K w p ((vs.drop (j * 2)).take 2)
  rw [decNoz_eq h1 h2 j p hj];exact k64_mk w p) h hx
noncomputable def fillG (args : List AV) (s : St) : Option (Rt × St) :=
 match args with
 | [.agg [t,.int .i64 d,z,.int .i64 wr,.int .i64 sp]] => (rdRows s t).bind fun rs => (rdNoz s z).bind fun zs => (ca_fill.f 400 rs d zs wr sp).bind fun r =>
  if r.2.2.2.all (fun l => !l.isEmpty) && !r.2.2.2.isEmpty then
   some (.ret (.agg [t,.int .i64 r.1,z,.int .i64 r.2.1,.int .i64 r.2.2.1,.opn (s.next + r.2.2.2.length) r.2.2.2.length]),(addInts 3 r.2.2.2 s).2.add (.ro 30 (some 1) (addInts 3 r.2.2.2 s).1))
  else none
 | _ => none
noncomputable def levelG (args : List AV) (s : St) : Option (Rt × St) :=
 match args with
 | [.agg [t,.int .i64 d,z,.int .i64 wr,.int .i64 sp,g],.int .i64 c] => (rdRows s t).bind fun rs => (rdNoz s z).bind fun zs => (rdLists s g).bind fun gs => (gf_level.f rs d zs wr sp gs c).bind fun r => some (.ret (.int .i64 r),s)
 | _ => none
noncomputable def sharesG (args : List AV) (s : St) : Option (Rt × St) :=
 match args with
 | [.agg [t,.int .i64 d,z,.int .i64 wr,.int .i64 sp,g],.int .i64 c] => (rdRows s t).bind fun rs => (rdNoz s z).bind fun zs => (rdLists s g).bind fun gs => (gf_shares.f 400 rs d zs wr sp gs c).bind fun r =>
  if r.1.isEmpty then none else some (.ret (.tup [.opn s.next r.1.length,.int .i64 r.2]),s.add (.cells 3 (some 1) (r.1.map (.int .i64))))
 | _ => none
noncomputable def castleHook : Hook := fun f => if Nat.beq f 59 then some fillG else if Nat.beq f 67 then some levelG else if Nat.beq f 60 then some sharesG else none
theorem fillG_ok {args : List AV} {s : St} {r : Rt} {s' : St} (h : fillG args s = some (r,s')) {e : Env} {w : World} (hs : Sim e s w) (hf : Free e s.next s'.next) {xs : List Value} (hxs : concL e args = some xs) (c : Frame) (cs : List Frame) :
 ∃ e' w',Sim e' s' w' ∧ Goes e s w e' s' w' ∧ EndsAt Tryz.prog (lone (Frame.enter Tryz.prog 59 xs.toArray .normal) (c :: cs) w) c cs e' r w' := by
 unfold fillG at h
 split at h
 case h_2 => cases h
 rename_i t d z wr sp
 simp only [Option.bind_eq_some_iff] at h
 obtain ⟨rs,hrs,zs,hzs,⟨r1,r2,r3,r4⟩,hr,h⟩ := h
 split at h
 case isFalse => cases h
 rename_i hne
 simp only [Bool.and_eq_true,Bool.not_eq_true',List.all_eq_true,List.isEmpty_eq_false_iff] at hne
 obtain ⟨hne1,hne2⟩ := hne
 cases h
 simp only [concL,conc,Option.bind_eq_some_iff,Option.map_eq_some_iff,Option.some.injEq] at hxs
 obtain ⟨_,⟨_,⟨xt,hxt,_,⟨_,rfl,_,⟨xz,hxz,_,⟨_,rfl,_,⟨_,rfl,_,rfl,rfl⟩,rfl⟩,rfl⟩,rfl⟩,rfl⟩,rfl⟩,_,rfl,rfl⟩ := hxs
 obtain ⟨A0,c0,rfl,hc0,hC0⟩ := rdRows_ok hs hrs hxt
 obtain ⟨A2,c2,rfl,hc2,hC2⟩ := rdNoz_ok hs hzs hxz
 obtain ⟨en,w',⟨v3,rfl,hS,hB⟩,hst⟩ := endsC (ca_fill.calls 400 A0 c0 rs d A2 c2 zs wr sp r1 r2 r3 r4 w hC0 hc0 hC2 hc2 hr) c cs
 obtain ⟨hg1,hg2⟩ := grow hs hB
 obtain ⟨_,inner,ho,hrep⟩ := Kd.S_R hS
 obtain ⟨ho1,ho2⟩ := ho
 rcases ho2 with ⟨_,ho2⟩ | ⟨g,cap,cur,rfl,o1,o2,o3,o4,o5,o6⟩
 · exact absurd (List.length_eq_zero_iff.1 ho2) hne2
 have hsz : (Kd.slice 3 (Kd.int .i64)).sz = 1 := rfl
 rw [hsz] at ho1 o5 o6
 have hfree : Free e s.next (s.next + r4.length + 1) := fun n a b => hf n a (by simp only [St.add,addInts_next];exact b)
 obtain ⟨e1,p1,p2,p3,p4,p5,p6⟩ := addInts_ok (t := 3) (ok := fun k => True ∧ some k ≠ (Value.slice (some ⟨g,0,none⟩) r4.length cap).ownBlock) (l := r4) (vs := inner) hg2 hg1 (fun n x b q hx hr he => rwBelow hs n x b q hx hr he) (fun n a b => hfree n a (Nat.lt_succ_of_lt b)) (by rw [ho1];omega)
  (fun j ys hj => by
   obtain ⟨v,hv1,hv2⟩ := hrep.2 j ys hj
   refine ⟨hne1 ys (List.mem_of_getElem? hj),v,?_,hv2⟩
   have : ((inner.drop (j * 1)).take 1)[0]? = some v := by rw [show (inner.drop (j * 1)).take 1 = [v] from hv1];rfl
   rw [List.getElem?_take,if_pos (by omega),List.getElem?_drop] at this
   simpa using this)
 have hn1 : (addInts 3 r4 s).2.next = s.next + r4.length := addInts_next ..
 have hfr1 : e1 (addInts 3 r4 s).2.next = none := by
  rw [hn1];exact p6 _ (Nat.le_refl _) (hfree _ (by omega) (by omega))
 have hob : w'.heap[g]? = some (.cells (inner ++ cur.toList.drop (r4.length * 1)).toArray 30 (0,0)) := by
  rw [o2,← o6,List.take_append_drop]
 obtain ⟨q1,q2,_⟩ := addAt (q := cap) (blk := .ro 30 (some 1) (addInts 3 r4 s).1) p1 p2 p3 hfr1 o1 (Array.getElem?_eq_some_iff.1 o2).1 (.inl fun z => z) hob
  ⟨_,_,concL_le (Env.le_upd _ hfr1) _ _ p5,rfl,fun m hm => by cases hm;rw [← o6,List.take_append_drop,Array.length_toList];exact o5⟩
 refine ⟨_,w',q1,q2,?_⟩
 have hle := p4.trans (Env.le_upd (g,cap) hfr1)
 have hup : (e1.upd (addInts 3 r4 s).2.next (g,cap)) (s.next + r4.length) = some (g,cap) := by rw [← hn1];exact Env.upd_self ..
 refine ⟨_,?_,hst _ rfl⟩
 simp only [conc,concL,conc_le hle _ _ hxt,conc_le hle _ _ hxz,hup,Option.map_some,Option.bind_some]
theorem levelG_ok {args : List AV} {s : St} {r : Rt} {s' : St} (h : levelG args s = some (r,s')) {e : Env} {w : World} (hs : Sim e s w) (hf : Free e s.next s'.next) {xs : List Value} (hxs : concL e args = some xs) (c : Frame) (cs : List Frame) :
 ∃ e' w',Sim e' s' w' ∧ Goes e s w e' s' w' ∧ EndsAt Tryz.prog (lone (Frame.enter Tryz.prog 67 xs.toArray .normal) (c :: cs) w) c cs e' r w' := by
 unfold levelG at h
 split at h
 case h_2 => cases h
 rename_i t d z wr sp gv cc
 simp only [Option.bind_eq_some_iff] at h
 obtain ⟨rs,hrs,zs,hzs,gs,hgs,rr,hr,h⟩ := h
 cases h
 simp only [concL,conc,Option.bind_eq_some_iff,Option.map_eq_some_iff,Option.some.injEq] at hxs
 obtain ⟨_,⟨_,⟨xt,hxt,_,⟨_,rfl,_,⟨xz,hxz,_,⟨_,rfl,_,⟨_,rfl,_,⟨xg,hxg,_,rfl,rfl⟩,rfl⟩,rfl⟩,rfl⟩,rfl⟩,rfl⟩,rfl⟩,_,⟨_,rfl,_,rfl,rfl⟩,rfl⟩ := hxs
 obtain ⟨A0,c0,rfl,hc0,hC0⟩ := rdRows_ok hs hrs hxt
 obtain ⟨A2,c2,rfl,hc2,hC2⟩ := rdNoz_ok hs hzs hxz
 obtain ⟨A5,c5,rfl,hc5,hC5⟩ := rdLists_ok hs hgs hxg
 obtain ⟨en,w',⟨rfl,hB⟩,hst⟩ := endsC (gf_level.calls A0 c0 rs d A2 c2 zs wr sp A5 c5 gs cc rr w hC0 hc0 hC2 hc2 hC5 hc5 hr) c cs
 obtain ⟨hg1,hg2⟩ := grow hs hB
 exact ⟨e,w',hg1,hg2,_,rfl,hst _ rfl⟩
theorem sharesG_ok {args : List AV} {s : St} {r : Rt} {s' : St} (h : sharesG args s = some (r,s')) {e : Env} {w : World} (hs : Sim e s w) (hf : Free e s.next s'.next) {xs : List Value} (hxs : concL e args = some xs) (c : Frame) (cs : List Frame) :
 ∃ e' w',Sim e' s' w' ∧ Goes e s w e' s' w' ∧ EndsAt Tryz.prog (lone (Frame.enter Tryz.prog 60 xs.toArray .normal) (c :: cs) w) c cs e' r w' := by
 unfold sharesG at h
 split at h
 case h_2 => cases h
 rename_i t d z wr sp gv cc
 simp only [Option.bind_eq_some_iff] at h
 obtain ⟨rs,hrs,zs,hzs,gs,hgs,⟨r1,r2⟩,hr,h⟩ := h
 split at h
 case isTrue => cases h
 rename_i hne
 have hne : r1 ≠ [] := fun e0 => hne (by simp only [e0,List.isEmpty_nil])
 cases h
 simp only [concL,conc,Option.bind_eq_some_iff,Option.map_eq_some_iff,Option.some.injEq] at hxs
 obtain ⟨_,⟨_,⟨xt,hxt,_,⟨_,rfl,_,⟨xz,hxz,_,⟨_,rfl,_,⟨_,rfl,_,⟨xg,hxg,_,rfl,rfl⟩,rfl⟩,rfl⟩,rfl⟩,rfl⟩,rfl⟩,rfl⟩,_,⟨_,rfl,_,rfl,rfl⟩,rfl⟩ := hxs
 obtain ⟨A0,c0,rfl,hc0,hC0⟩ := rdRows_ok hs hrs hxt
 obtain ⟨A2,c2,rfl,hc2,hC2⟩ := rdNoz_ok hs hzs hxz
 obtain ⟨A5,c5,rfl,hc5,hC5⟩ := rdLists_ok hs hgs hxg
 obtain ⟨en,w',⟨v0,rfl,hR,hB⟩,hst⟩ := endsC (gf_shares.calls 400 A0 c0 rs d A2 c2 zs wr sp A5 c5 gs cc r1 r2 w hC0 hc0 hC2 hc2 hC5 hc5 hr) c cs
 obtain ⟨hg1,hg2⟩ := grow hs hB
 obtain ⟨g,cap,rest,rfl,h1,h2,h3,h4⟩ := row_of (d := Kd.int .i64) (n := 0) hR hne
 have hfree : e s.next = none := hf _ (Nat.le_refl _) (by simp only [St.add];omega)
 obtain ⟨q1,q2,_⟩ := addAt (q := cap) (blk := .cells 3 (some 1) (r1.map (.int .i64))) hg2 hg1 (fun n x b q hx hr he => rwBelow hs n x b q hx hr he) hfree h1 h2
  (.inr fun n x q _ he => absurd (hs.bound n g q he) (by omega)) h3 ⟨_,rest,concL_ints _ r1,rfl,h4⟩
 refine ⟨_,w',q1,q2,_,?_,hst _ rfl⟩
 simp only [conc,concL,Env.upd_self,Option.map_some,Option.bind_some]
theorem castleHook_ok : HookOk Tryz.prog castleHook := by
 intro f g hg args s r s' h e w hs hf xs hxs c cs
 unfold castleHook at hg
 split at hg
 · rename_i hb;cases hg;cases Nat.eq_of_beq_eq_true hb;exact fillG_ok h hs hf hxs c cs
 · split at hg
   · rename_i hb;cases hg;cases Nat.eq_of_beq_eq_true hb;exact levelG_ok h hs hf hxs c cs
   · split at hg
     · rename_i hb;cases hg;cases Nat.eq_of_beq_eq_true hb;exact sharesG_ok h hs hf hxs c cs
     · cases hg
end Go.Proofs.YticlelgmmonloaaGreatDoor.C
namespace Go.Proofs.YticlelgmmonloaaGreatDoor.C
open Go Go.Abs Go.RowKit
set_option linter.unusedVariables false
set_option linter.unusedSimpArgs false
set_option maxHeartbeats 16000000
set_option maxRecDepth 100000
abbrev I (n : Int) : AV := .int .i64 n
abbrev U : AV := .tup []
abbrev L {α : Type} : T4 α := .leaf
abbrev N {α : Type} (v : α) (a b c d : T4 α) : T4 α := .node v a b c d
abbrev N0 {α : Type} (v : α) : T4 α := .node v .leaf .leaf .leaf .leaf
abbrev N1 {α : Type} (v : α) (a : T4 α) : T4 α := .node v a .leaf .leaf .leaf
abbrev N2 {α : Type} (v : α) (a : T4 α) : T4 α := .node v .leaf a .leaf .leaf
abbrev N3 {α : Type} (v : α) (a : T4 α) : T4 α := .node v .leaf .leaf a .leaf
abbrev N4 {α : Type} (v : α) (a : T4 α) : T4 α := .node v .leaf .leaf .leaf a
noncomputable def knownCall : CallF := fCall Tryz.prog Go.Proofs.YticlelgmmonloaaGreatDoor.C.castleHook 100000 60
noncomputable def kt0 : FT := ofL []
noncomputable def kg0 : Sg := sgOf ⟨.leaf,0,[]⟩
noncomputable def kt1 : FT := (N U (N U L (N (.ptr 318 0) (N0 (I 0)) L L L) (N (.ptr 175 0) (N0 (I 0)) L L L) (N0 (.opn 36 3))) (N U (N0 (I 1)) (N1 U (N0 (I 0))) (N (I 3) (N0 (.bool false)) L L L) L) (N U (N (.opn 710 3) (N0 (I 0)) L L L) (N (.ptr 244 0) (N0 (I 0)) L L L) (N0 (.opn 114 3)) L) (N U (N (.opn 424 3) (N0 (I 0)) L L L) (N (.opn 243 3) (N0 (I 0)) L L L) (N0 (I 10)) L))
noncomputable def kg1 : Sg := sgOf ⟨(N none (N none (N3 none (N1 none (N0 (some (.cells 126 none [(I 5),(I 4),(I 10),(I 10),(I 8),(I 20),(I 20),(I 15),(I 45)]))))) L (N none L (N2 none (N1 none (N0 (some (.cells 3 none [(I 8),(I 12),(I 12)]))))) (N0 (some (.cells 64 none [(I 0),(I 10),(I 1),(I 10),(I 2),(I 12)]))) L) (N3 none (N4 none (N0 (some (.cells 126 none [(I 5),(I 4),(I 10),(I 10),(I 8),(I 20),(I 20),(I 15),(I 45)])))))) (N (some (.cells 126 none [(I 5),(I 4),(I 10),(I 10),(I 8),(I 20),(I 20),(I 15),(I 45)])) (N none L L (N1 none (N0 (some (.cells 64 none [(I 0),(I 10),(I 1),(I 10),(I 2),(I 12)])))) (N2 none (N2 none (N0 (some (.cells 3 (some 1) [(I 10),(I 11),(I 12)])))))) L (N3 none (N4 none (N0 (some (.cells 40 none [(I 27),(I 56)]))))) (N none L (N none (N0 (some (.cells 3 (some 1) [(I 10),(I 20),(I 45)]))) (N0 (some (.cells 126 none [(I 5),(I 4),(I 10),(I 10),(I 8),(I 20),(I 20),(I 15),(I 45)]))) L L) (N4 none (N0 (some (.cells 64 none [(I 0),(I 10),(I 1),(I 10),(I 2),(I 12)])))) L)) (N (some (.cells 64 none [(I 0),(I 10),(I 1),(I 10),(I 2),(I 12)])) (N3 none (N3 none (N0 (some (.cells 126 none [(I 5),(I 4),(I 10),(I 10),(I 8),(I 20),(I 20),(I 15),(I 45)]))))) (N2 none (N2 none (N1 none (N0 (some (.cells 126 none [(I 5),(I 4),(I 10),(I 10),(I 8),(I 20),(I 20),(I 15),(I 45)])))))) (N2 none (N2 none (N0 (some (.cells 40 none [(I 13),(I 15)]))))) (N2 none (N none L (N0 (some (.cells 64 none [(I 0),(I 10),(I 1),(I 10),(I 2),(I 12)]))) (N0 (some (.cells 40 (some 2) [(I 8),(I 10),(I 13),(I 20),(I 9),(I 30)]))) L))) (N none (N none L (N2 none (N1 none (N0 (some (.cells 3 (some 1) [(I (-4)),(I (-5)),(I 9)]))))) (N3 none (N0 (some (.cells 64 none [(I 0),(I 10),(I 1),(I 10),(I 2),(I 12)])))) L) (N none L (N2 none (N1 none (N0 (some (.cells 64 none [(I 0),(I 10),(I 1),(I 10),(I 2),(I 12)]))))) (N0 (some (.cells 126 none [(I 5),(I 4),(I 10),(I 10),(I 8),(I 20),(I 20),(I 15),(I 45)]))) L) L (N none (N0 (some (.ro 3 (some 1) [(I 10),(I 20),(I 45)]))) (N3 none (N0 (some (.cells 40 none [(I 0),(I 0)])))) L L))),758,[710,429,428,427,424,322,321,318,318,248,247,244,244,243,179,178,175,175,118,117,114,61,60,36,3,2]⟩
noncomputable def kt2 : FT := (N U (N U (N0 (.opn 5340 2)) (N (.ptr 318 0) (N0 (I 0)) L L L) (N (.ptr 175 0) (N0 (I 0)) L L L) (N0 (.opn 36 3))) (N U (N (I 1) (N0 (I 0)) L L L) (N1 U (N0 (I 0))) (N (I 3) (N0 (.bool false)) L L L) L) (N U (N (.opn 710 3) (N0 (I 0)) L L L) (N (.ptr 244 0) (N0 (I 0)) L L L) (N0 (.opn 114 3)) L) (N U (N (.opn 424 3) (N0 (I 0)) L L L) (N (.opn 243 3) (N0 (I 0)) L L L) (N0 (I 10)) L))
noncomputable def kg2 : Sg := sgOf ⟨(N none (N none (N3 none (N1 none (N0 (some (.cells 126 none [(I 5),(I 4),(I 10),(I 10),(I 8),(I 20),(I 20),(I 15),(I 45)]))))) (N3 none (N3 none (N2 none (N0 (some (.cells 64 none [(I 0),(I 10),(I 1),(I 10),(I 2),(I 12)])))))) (N none L (N2 none (N1 none (N0 (some (.cells 3 none [(I 8),(I 12),(I 12)]))))) (N0 (some (.cells 64 none [(I 0),(I 10),(I 1),(I 10),(I 2),(I 12)]))) L) (N3 none (N4 none (N0 (some (.cells 126 none [(I 5),(I 4),(I 10),(I 10),(I 8),(I 20),(I 20),(I 15),(I 45)])))))) (N (some (.cells 126 none [(I 5),(I 4),(I 10),(I 10),(I 8),(I 20),(I 20),(I 15),(I 45)])) (N none L L (N1 none (N0 (some (.cells 64 none [(I 0),(I 10),(I 1),(I 10),(I 2),(I 12)])))) (N2 none (N2 none (N0 (some (.cells 3 (some 1) [(I 10),(I 11),(I 12)])))))) (N3 none (N3 none (N2 none (N0 (some (.cells 40 none [(I 4),(I 4),(I 8),(I 8),(I 18),(I 18)])))))) (N3 none (N4 none (N0 (some (.cells 40 none [(I 27),(I 56)]))))) (N none L (N none (N0 (some (.cells 3 (some 1) [(I 10),(I 20),(I 45)]))) (N0 (some (.cells 126 none [(I 5),(I 4),(I 10),(I 10),(I 8),(I 20),(I 20),(I 15),(I 45)]))) L L) (N4 none (N0 (some (.cells 64 none [(I 0),(I 10),(I 1),(I 10),(I 2),(I 12)])))) L)) (N (some (.cells 64 none [(I 0),(I 10),(I 1),(I 10),(I 2),(I 12)])) (N3 none (N3 none (N0 (some (.cells 126 none [(I 5),(I 4),(I 10),(I 10),(I 8),(I 20),(I 20),(I 15),(I 45)]))))) (N2 none (N2 none (N1 none (N0 (some (.cells 126 none [(I 5),(I 4),(I 10),(I 10),(I 8),(I 20),(I 20),(I 15),(I 45)])))))) (N2 none (N2 none (N0 (some (.cells 40 none [(I 13),(I 15)]))))) (N2 none (N none L (N0 (some (.cells 64 none [(I 0),(I 10),(I 1),(I 10),(I 2),(I 12)]))) (N0 (some (.cells 40 (some 2) [(I 8),(I 10),(I 13),(I 20),(I 9),(I 30)]))) L))) (N none (N none L (N2 none (N1 none (N0 (some (.cells 3 (some 1) [(I (-4)),(I (-5)),(I 9)]))))) (N3 none (N (some (.cells 64 none [(I 0),(I 10),(I 1),(I 10),(I 2),(I 12)])) L (N0 (some (.cells 126 none [(I 5),(I 4),(I 10),(I 10),(I 8),(I 20),(I 20),(I 15),(I 45)]))) L L)) L) (N none (N3 none (N4 none (N4 none (N0 (some (.cells 58 (some 2) [(I 2),(I 9),(I 2),(I 10)])))))) (N2 none (N1 none (N0 (some (.cells 64 none [(I 0),(I 10),(I 1),(I 10),(I 2),(I 12)]))))) (N0 (some (.cells 126 none [(I 5),(I 4),(I 10),(I 10),(I 8),(I 20),(I 20),(I 15),(I 45)]))) L) L (N none (N0 (some (.ro 3 (some 1) [(I 10),(I 20),(I 45)]))) (N3 none (N0 (some (.cells 40 none [(I 0),(I 0)])))) L L))),6791,[5340,762,761,760,710,429,428,427,424,322,321,318,318,248,247,244,244,243,179,178,175,175,118,117,114,61,60,36,3,2]⟩
theorem ks0 : ((kcOf Tryz.prog 15).drop 0).seqs 8 = true := by kernel_rfl
theorem kr0 (kx : KX) (k : KT) : warm 1 (runKX 100000 (((kcOf Tryz.prog 15).drop 0).take 8) ⟨Tryz.prog,knownCall,kx⟩ kt0 kg0 k) = k kt1 kg1 := by kernel_rfl
theorem ks1 : ((kcOf Tryz.prog 15).drop 8).seqs 1 = true := by kernel_rfl
theorem kr1 (kx : KX) (k : KT) : warm 12 (runKX 99992 (((kcOf Tryz.prog 15).drop 8).take 1) ⟨Tryz.prog,knownCall,kx⟩ kt1 kg1 k) = k kt2 kg2 := by kernel_rfl
theorem klast : okTrue (warm 107 (from_ Tryz.prog knownCall 15 9 99991 kt2 kg2)) = true := by kernel_rfl
theorem known_run : okTrue (runF Tryz.prog Go.Proofs.YticlelgmmonloaaGreatDoor.C.castleHook 100000 60 15 []) = true := by
 rw [runF_from]
 rw [show from_ Tryz.prog (fCall Tryz.prog Go.Proofs.YticlelgmmonloaaGreatDoor.C.castleHook 100000 60) 15 0 100000 (ofL []) (sgOf ⟨.leaf,0,[]⟩) = from_ Tryz.prog knownCall 15 0 100000 kt0 kg0 from rfl]
 rw [show from_ Tryz.prog knownCall 15 0 100000 kt0 kg0 = from_ Tryz.prog knownCall 15 8 99992 kt1 kg1 from from_step (K := 99991) (m := 8) ks0 fun kx k => (warm_eq 1 _).symm.trans (kr0 kx k)]
 rw [show from_ Tryz.prog knownCall 15 8 99992 kt1 kg1 = from_ Tryz.prog knownCall 15 9 99991 kt2 kg2 from from_step (K := 99990) (m := 1) ks1 fun kx k => (warm_eq 12 _).symm.trans (kr1 kx k)]
 exact (congrArg okTrue (warm_eq 107 _)).symm.trans klast
end Go.Proofs.YticlelgmmonloaaGreatDoor.C
namespace Go.Proofs.YticlelgmmonloaaGreatDoor.C
open Go Go.RowKit Go.Abs
set_option linter.unusedVariables false
set_option linter.unusedSimpArgs false
set_option maxHeartbeats 16000000
set_option maxRecDepth 100000
def l4_known.f : Option Bool := some true
theorem l4_known.calls (r : Bool) (w : World) (h : l4_known.f = some r) : Calls Tryz.prog 15 #[] w fun e w' => e = .returned (.bool r) ∧ Below w.heap.size w w' := by
 cases h
 exact calls_true castleHook_ok known_run w
theorem known_true : l4_known.f = some true := rfl
end Go.Proofs.YticlelgmmonloaaGreatDoor.C
namespace Go.Proofs.YticlelgmmonloaaGreatDoor.C
open Go.RowKit Go.Proofs.YticlelgmmonloaaGreatDoorW.PrintWords Go.Proofs.YticlelgmmonloaaGreatDoorW.PrintLast Go.Proofs.YticlelgmmonloaaGreatDoorW.PrintMore
set_option linter.unusedVariables false
set_option linter.unusedSimpArgs false
set_option maxHeartbeats 16000000
set_option maxRecDepth 100000
theorem catch_idle (p : Addr) (w : World) :
 CallsD Tryz.prog 102 #[.pointer (some p)] .returning w fun e u' w' => e = .returned (.tuple #[]) ∧ u' = .returning ∧ w' = w := by
 refine callsD_of_wpS Tryz.func102 rfl fun c₀ cs hu => ?_
 apply wpS_seq
 apply wpS_region
 simp [wpOpsS,go_sem,recoverD,hu,Tryz.ntmps102,Exit.thenS]
 refine wpS_of_wp ?_
 simp only [List.size_toArray,List.length_cons,List.length_nil,Nat.reduceAdd,Nat.reduceSub,Array.replicate_succ,Array.replicate_zero,List.push_toArray,List.append_toArray,List.nil_append,List.cons_append,List.setIfInBounds_toArray,List.set_cons_zero,List.set_cons_succ]
 go_wp2
 cases c₀
 simp_all [bodyPostS,results,Tryz.results102]
theorem catch_reading (p : Addr) (x : Int) (a b : Int) (older : List PanicEntry) (w : World) (hc : w.cell? p = some (.int .i64 x)) (hz : w.frozen? p = false) :
 CallsD Tryz.prog 102 #[.pointer (some p)] (.panicking ({ v := .iface 135 (.agg #[.int .i64 a,.int .i64 b]),recovered := false } :: older)) w fun e u' w' => e = .returned (.tuple #[]) ∧ u' = .panicking ({ v := .iface 135 (.agg #[.int .i64 a,.int .i64 b]),recovered := true } :: older) ∧ w' = (w.alloc (.cells #[.int .i64 a,.int .i64 b] 135)).setCell p (.int .i64 7) := by
 have hta : ∀ (v : Value) (W : World),(Instr.typeAssert (.iface 135 v) 20 135 true).run Tryz.prog W = .ok (.tuple #[v,.bool true]) W := fun v W => by kernel_rfl
 have huT := Tryz.underlying135
 have hc2 : (w.alloc (.cells #[.int .i64 a,.int .i64 b] 135)).cell? p = some (.int .i64 x) := pw_cell_below (below_alloc (Below.refl _ w) _) hc
 have hz2 : (w.alloc (.cells #[.int .i64 a,.int .i64 b] 135)).frozen? p = false := ((below_alloc (Below.refl w.heap.size w) _).frozen (World.block_lt_of_cell? w p hc)).trans hz
 refine callsD_of_wpS Tryz.func102 rfl fun c₀ cs hu => ?_
 apply wpS_seq
 apply wpS_region
 simp [wpOpsS,go_sem,recoverD,hu,Tryz.ntmps102,Exit.thenS]
 refine wpS_of_wp ?_
 simp only [List.size_toArray,List.length_cons,List.length_nil,Nat.reduceAdd,Nat.reduceSub,Array.replicate_succ,Array.replicate_zero,List.push_toArray,List.append_toArray,List.nil_append,List.cons_append,List.setIfInBounds_toArray,List.set_cons_zero,List.set_cons_succ]
 go_wp2
 cases c₀
 simp_all [bodyPostS,results,Tryz.results102]
theorem attempt_Proves_ok (g1 g2 g3 : Nat) (I : World → Prop) (w : World)
 (hX : Calls Tryz.prog 71 #[.pointer (some ⟨g1,0,none⟩),.pointer (some ⟨g2,0,none⟩),.pointer (some ⟨g3,0,none⟩)] (w.alloc (.cells #[.int .i64 0] 31)) fun e W' => e = .returned (.tuple #[]) ∧ I W') (hI : ∀ W',I W' → W'.cell? ⟨w.heap.size,0,none⟩ = some (.int .i64 0) ∧ W'.frozen? ⟨w.heap.size,0,none⟩ = false) :
 Calls Tryz.prog 70 #[.func (.func 71) #[] #[.pointer (some ⟨g1,0,none⟩),.pointer (some ⟨g2,0,none⟩),.pointer (some ⟨g3,0,none⟩)]] w fun e w' => e = .returned (.int .i64 0) ∧ ∃ W',I W' ∧ w' = W'.setCell ⟨w.heap.size,0,none⟩ (.int .i64 0) := by
 have hmf : ∀ (fn : Fn) (first cap : Array Value) (w : World),(Instr.makeFunc fn first cap).run Tryz.prog w = .ok (.func fn first cap) w := fun _ _ _ _ => rfl
 have HX := Lib.hid hX
 have HI := Lib.hid hI
 clear hX hI
 go_enter_defers Tryz.func70,Tryz.ntmps70
 go_wp2_with (go_at_call 71;refine (HX.out).mono ?_;rintro e W1 ⟨rfl,hi⟩;have hc0 := (HI.out _ hi).1;have hz0 := (HI.out _ hi).2)
 refine leaves_cons (f := 102) (args := #[.pointer (some ⟨w.heap.size,0,none⟩)]) (by simp) (by simp [go_sem]) ?_
 refine (catch_idle ⟨w.heap.size,0,none⟩ _).mono ?_
 rintro e u' w'' ⟨rfl,rfl,rfl⟩
 refine ⟨.int .i64 0,?_,rfl,W1,hi,rfl⟩
 simp [settle,results,Tryz.results70,go_sem,hc0,hz0]
theorem attempt_Proves_reading (g1 g2 g3 : Nat) (a b : Int) (I : World → Prop) (w : World)
 (hX : Calls Tryz.prog 71 #[.pointer (some ⟨g1,0,none⟩),.pointer (some ⟨g2,0,none⟩),.pointer (some ⟨g3,0,none⟩)] (w.alloc (.cells #[.int .i64 0] 31)) fun e W' => e = .panicked [{ v := .iface 135 (.agg #[.int .i64 a,.int .i64 b]),recovered := false }] ∧ I W') (hI : ∀ W',I W' → W'.cell? ⟨w.heap.size,0,none⟩ = some (.int .i64 0) ∧ W'.frozen? ⟨w.heap.size,0,none⟩ = false) :
 Calls Tryz.prog 70 #[.func (.func 71) #[] #[.pointer (some ⟨g1,0,none⟩),.pointer (some ⟨g2,0,none⟩),.pointer (some ⟨g3,0,none⟩)]] w fun e w' => e = .returned (.int .i64 7) ∧ ∃ W',I W' ∧ w' = (W'.alloc (.cells #[.int .i64 a,.int .i64 b] 135)).setCell ⟨w.heap.size,0,none⟩ (.int .i64 7) := by
 have hmf : ∀ (fn : Fn) (first cap : Array Value) (w : World),(Instr.makeFunc fn first cap).run Tryz.prog w = .ok (.func fn first cap) w := fun _ _ _ _ => rfl
 have HX := Lib.hid hX
 have HI := Lib.hid hI
 clear hX hI
 go_enter_defers Tryz.func70,Tryz.ntmps70
 go_wp2_with (go_at_call 71;refine (HX.out).mono ?_;rintro e W1 ⟨rfl,hi⟩;have hc0 := (HI.out _ hi).1;have hz0 := (HI.out _ hi).2)
 refine leaves_cons (f := 102) (args := #[.pointer (some ⟨w.heap.size,0,none⟩)]) (by simp) (by simp [go_sem]) ?_
 refine (catch_reading ⟨w.heap.size,0,none⟩ 0 a b [] _ hc0 hz0).mono ?_
 rintro e u' w'' ⟨rfl,rfl,rfl⟩
 refine ⟨.int .i64 7,?_,rfl,W1,hi,rfl⟩
 have hc2 : (W1.alloc (.cells #[.int .i64 a,.int .i64 b] 135)).cell? ⟨w.heap.size,0,none⟩ = some (.int .i64 0) := pw_cell_below (below_alloc (Below.refl _ W1) _) hc0
 simp [settle,results,Tryz.results70,go_sem]
 rw [World.cell?_setCell_same' _ _ _ (by rw [hc2];rfl)]
theorem goesP_ {P : Program} {ops : Array Oper} {Q : Exit → Act → World → Prop} {oi : Oper} {N : Option Tmp} {a : Act} {w : World} {K : Act → World → Prop} {f : FuncId} {fn : Func} {oas : Array Operand} {ts : Array TypeId} (hf : P.funcs[f]? = some fn) (hname : (fn.name == "runtime.NumGoroutine") = false) (hb : fn.body.isSome = true) (args : Array Value)
 (hw : Region.wanted oi (yielded ops a.tmps) = true) (hN : oi.dst = N) (hop : oi.op = .call { callee := .value (.func f),args := oas,argTypes := ts }) (hargs : oas.map a.eval = args)
 (h : Calls P f args w fun e w' => ∃ c,e = .panicked c ∧ Q (.panic c) a w') : if Region.wanted oi (yielded ops a.tmps) = true then Oper.wp P oi a w K Q else K (a.put N undef) w := by
 rw [if_pos hw]
 have he := enters_ hf hname hb args w
 have hrun : (execOp a.eval oi).run P w = .ok (.enter f args) w := by
  unfold execOp
  simp [hop,resolve,Deferred.ofValue,invoke,Act.eval,hargs,he]
 unfold Oper.wp
 rw [hrun]
 refine Calls.mono h ?_
 rintro e w' ⟨c,rfl,hq⟩
 exact hq
section
attribute [local go_sem] max2_int min2_int max_two min_two
def gf_proves.f (l0_0 : List (S126)) (a0_1 : Int) (l0_2 : List (S64)) (a0_3 : Int) (a0_4 : Int) (l0_5 : List (List Int)) (a1_0 : Int) (a1_1 : Int) : Option (Int × Int) := (gf_out.f l0_0 a0_1 l0_2 a0_3 a0_4 l0_5 a1_0).bind fun t1007 => (if a1_1 < 40 then ((gf_out.f l0_0 a0_1 l0_2 a0_3 a0_4 l0_5 (wrap64 (a1_1 + 1))).bind fun t1009 => (if t1007 > (mn 10000 (wrap64 (t1009 - 1))) then (none) else (some (t1007,mn 10000 (wrap64 (t1009 - 1)))))) else (if t1007 > 10000 then (none) else (some (t1007,10000))))
def gf_proves.T3 : Bool × List (List Nat × List Nat) := (true,[([],[]),([0],[0]),([],[]),([],[]),([3],[3]),([4],[4]),([2,5],[2,5]),([6],[6]),([1,7],[1,7]),([0,1,2,3,4,5,6,7,8],[]),([9,8,6,0,1,2,3,4,5,6,7,8],[8,9])])
def gf_proves.B3 : List Nat := [0,1,0,0,8,24,60,124,255,511,1023]
theorem gf_proves.tab3 : rtab .any (opsOf Tryz.f72 3) = gf_proves.T3 := by kernel_rfl
theorem gf_proves.bits3 : waitsOk gf_proves.T3.2 gf_proves.B3 = true := by kernel_rfl
theorem gf_proves.calls (A0_0 : Option Addr) (c0_0 : Nat) (l0_0 : List (S126)) (a0_1 : Int) (A0_2 : Option Addr) (c0_2 : Nat) (l0_2 : List (S64)) (a0_3 : Int) (a0_4 : Int) (A0_5 : Option Addr) (c0_5 : Nat) (l0_5 : List (List Int)) (a1_0 : Int) (a1_1 : Int) (r1 : Int) (r2 : Int) (w : World) (hr0_0 : Kd.C k126 w A0_0 l0_0.length l0_0) (hc0_0 : l0_0.length ≤ c0_0) (hr0_2 : Kd.C k64 w A0_2 l0_2.length l0_2) (hc0_2 : l0_2.length ≤ c0_2) (hr0_5 : Kd.C (Kd.slice 3 (Kd.int .i64)) w A0_5 l0_5.length l0_5) (hc0_5 : l0_5.length ≤ c0_5) (h : gf_proves.f l0_0 a0_1 l0_2 a0_3 a0_4 l0_5 a1_0 a1_1 = some (r1,r2)) :
 Calls Tryz.prog 72 #[.agg #[.slice A0_0 l0_0.length c0_0,.int .i64 a0_1,.slice A0_2 l0_2.length c0_2,.int .i64 a0_3,.int .i64 a0_4,.slice A0_5 l0_5.length c0_5],.agg #[.int .i64 a1_0,.int .i64 a1_1]] w fun e w' => e = .returned (.agg #[.int .i64 r1,.int .i64 r2]) ∧ Below w.heap.size w w' := by
 have hu99 := Tryz.underlying99
 have hu40 := Tryz.underlying40
 have hu135 := Tryz.underlying135
 have HR0_0 := am hr0_0
 have HC0_0 := am hc0_0
 clear hr0_0 hc0_0
 have HR0_2 := am hr0_2
 have HC0_2 := am hc0_2
 clear hr0_2 hc0_2
 have HR0_5 := am hr0_5
 have HC0_5 := am hc0_5
 clear hr0_5 hc0_5
 have HB := am (Below.refl w.heap.size w)
 have H : ((gf_out.f l0_0 a0_1 l0_2 a0_3 a0_4 l0_5 a1_0).bind fun t1007 => (if a1_1 < 40 then ((gf_out.f l0_0 a0_1 l0_2 a0_3 a0_4 l0_5 (wrap64 (a1_1 + 1))).bind fun t1009 => (if t1007 > (mn 10000 (wrap64 (t1009 - 1))) then (none) else (some (t1007,mn 10000 (wrap64 (t1009 - 1)))))) else (if t1007 > 10000 then (none) else (some (t1007,10000))))) = some (r1,r2) := h
 clear h
 replace H := obm H
 obtain ⟨t1007,A30,H⟩ := H
 replace H : (if a1_1 < 40 then ((gf_out.f l0_0 a0_1 l0_2 a0_3 a0_4 l0_5 (wrap64 (a1_1 + 1))).bind fun t1009 => (if t1007 > (mn 10000 (wrap64 (t1009 - 1))) then (none) else (some (t1007,mn 10000 (wrap64 (t1009 - 1)))))) else (if t1007 > 10000 then (none) else (some (t1007,10000)))) = some (r1,r2) := H
 have A3 := am A30
 clear A30
 by_cases c4 : a1_1 < 40
 case neg =>
  rw [if_neg c4] at H
  have c4b0 : decide (a1_1 < 40) = false := decide_eq_false c4
  clear c4
  by_cases c29 : t1007 > 10000
  · rw [if_pos c29] at H
    have c29b0 : decide (10000 < t1007) = true := decide_eq_true c29
    clear c29
    exact absurd H (by simp)
  · rw [if_neg c29] at H
    have c29b0 : decide (10000 < t1007) = false := decide_eq_false c29
    clear c29
    simp only [Option.some.injEq,Prod.mk.injEq] at H
    obtain ⟨rfl,rfl⟩ := H
    go_enter Tryz.func72,Tryz.ntmps72
    go_wp2_with (first | ((with_reducible refine gate_dst (N := 2) rfl ?_);refine box_event ?hg (N := 2) ?hd (cs := #[.slice A0_0 l0_0.length c0_0,.int .i64 a0_1,.slice A0_2 l0_2.length c0_2,.int .i64 a0_3,.int .i64 a0_4,.slice A0_5 l0_5.length c0_5]) (t := 99) ?hr ?_;(case hd => rfl);(case hg => rfl);(case hr => go_simp;try rfl);intro gb1004 hg w30 hbox hb;have BK1004 := am (hbox);have GW1004 := am (ge_new (by repeat (first | (with_reducible first | exact HB.out | apply below_alloc | apply pw_below_drewN) | exact HB.out)) hg);have GE1004 := am (ge_new (by repeat (first | (with_reducible first | exact HB.out | apply below_alloc | apply pw_below_drewN) | exact HB.out)) hg);replace HB := am (below_step (by repeat (first | (with_reducible first | exact HB.out | apply below_alloc | apply pw_below_drewN) | exact HB.out)) hb);clear hb hbox hg) | ((with_reducible refine gate_dst (N := 3) rfl ?_);refine box_event ?hg (N := 3) ?hd (cs := #[.int .i64 a1_0,.int .i64 a1_1]) (t := 40) ?hr ?_;(case hd => rfl);(case hg => rfl);(case hr => go_simp;try rfl);intro gb1005 hg w31 hbox hb;have BK1005 := am (hbox);have GW1005 := am (ge_new (by repeat (first | (with_reducible first | exact HB.out | refine below_set ?_ GE1004.out | apply below_alloc | apply pw_below_drewN) | exact HB.out)) hg);have GE1005 := am (ge_new (by repeat (first | (with_reducible first | exact HB.out | refine below_set ?_ GE1004.out | apply below_alloc | apply pw_below_drewN) | exact HB.out)) hg);have NB1004_1005 := am ((by rw [hg];exact Nat.ne_of_lt (blk_lt (g := gb1004) (o := .cells #[.slice A0_0 l0_0.length c0_0,.int .i64 a0_1,.slice A0_2 l0_2.length c0_2,.int .i64 a0_3,.int .i64 a0_4,.slice A0_5 l0_5.length c0_5] 99 (0,0)) (by (with_reducible repeat (first | refine blk_drewN ?_ _ | refine blk_drew ?_ | refine blk_alloc ?_ _));exact BK1004.out)) : gb1004 ≠ gb1005));have NB1005_1004 := am ((by rw [hg];exact Nat.ne_of_gt (blk_lt (g := gb1004) (o := .cells #[.slice A0_0 l0_0.length c0_0,.int .i64 a0_1,.slice A0_2 l0_2.length c0_2,.int .i64 a0_3,.int .i64 a0_4,.slice A0_5 l0_5.length c0_5] 99 (0,0)) (by (with_reducible repeat (first | refine blk_drewN ?_ _ | refine blk_drew ?_ | refine blk_alloc ?_ _));exact BK1004.out)) : gb1005 ≠ gb1004));replace BK1004 := am (blk_below (g := gb1004) (o := .cells #[.slice A0_0 l0_0.length c0_0,.int .i64 a0_1,.slice A0_2 l0_2.length c0_2,.int .i64 a0_3,.int .i64 a0_4,.slice A0_5 l0_5.length c0_5] 99 (0,0)) (by (with_reducible repeat (first | refine blk_drewN ?_ _ | refine blk_drew ?_ | refine blk_alloc ?_ _));exact BK1004.out) hb);replace HB := am (below_step (by repeat (first | (with_reducible first | exact HB.out | refine below_set ?_ GE1004.out | apply below_alloc | apply pw_below_drewN) | exact HB.out)) hb);clear hb hbox hg) | ((with_reducible refine gate_dst (N := 4) rfl ?_);refine box_event ?hg (N := 4) ?hd (cs := #[.int .i64 0,.int .i64 0]) (t := 40) ?hr ?_;(case hd => rfl);(case hg => rfl);(case hr => go_simp;try rfl);intro gb1006 hg w32 hbox hb;have BK1006 := am (hbox);have GW1006 := am (ge_new (by repeat (first | (with_reducible first | exact HB.out | refine below_set ?_ (Aside0.out (by assumption)) | apply below_alloc | apply pw_below_drewN) | exact HB.out)) hg);have GE1006 := am (ge_new (by repeat (first | (with_reducible first | exact HB.out | refine below_set ?_ (Aside0.out (by assumption)) | apply below_alloc | apply pw_below_drewN) | exact HB.out)) hg);have NB1004_1006 := am ((by rw [hg];exact Nat.ne_of_lt (blk_lt (g := gb1004) (o := .cells #[.slice A0_0 l0_0.length c0_0,.int .i64 a0_1,.slice A0_2 l0_2.length c0_2,.int .i64 a0_3,.int .i64 a0_4,.slice A0_5 l0_5.length c0_5] 99 (0,0)) (by (with_reducible repeat (first | refine blk_drewN ?_ _ | refine blk_drew ?_ | refine blk_alloc ?_ _));exact BK1004.out)) : gb1004 ≠ gb1006));have NB1006_1004 := am ((by rw [hg];exact Nat.ne_of_gt (blk_lt (g := gb1004) (o := .cells #[.slice A0_0 l0_0.length c0_0,.int .i64 a0_1,.slice A0_2 l0_2.length c0_2,.int .i64 a0_3,.int .i64 a0_4,.slice A0_5 l0_5.length c0_5] 99 (0,0)) (by (with_reducible repeat (first | refine blk_drewN ?_ _ | refine blk_drew ?_ | refine blk_alloc ?_ _));exact BK1004.out)) : gb1006 ≠ gb1004));have NB1005_1006 := am ((by rw [hg];exact Nat.ne_of_lt (blk_lt (g := gb1005) (o := .cells #[.int .i64 a1_0,.int .i64 a1_1] 40 (0,0)) (by (with_reducible repeat (first | refine blk_drewN ?_ _ | refine blk_drew ?_ | refine blk_alloc ?_ _));exact BK1005.out)) : gb1005 ≠ gb1006));have NB1006_1005 := am ((by rw [hg];exact Nat.ne_of_gt (blk_lt (g := gb1005) (o := .cells #[.int .i64 a1_0,.int .i64 a1_1] 40 (0,0)) (by (with_reducible repeat (first | refine blk_drewN ?_ _ | refine blk_drew ?_ | refine blk_alloc ?_ _));exact BK1005.out)) : gb1006 ≠ gb1005));replace BK1004 := am (blk_below (g := gb1004) (o := .cells #[.slice A0_0 l0_0.length c0_0,.int .i64 a0_1,.slice A0_2 l0_2.length c0_2,.int .i64 a0_3,.int .i64 a0_4,.slice A0_5 l0_5.length c0_5] 99 (0,0)) (by (with_reducible repeat (first | refine blk_drewN ?_ _ | refine blk_drew ?_ | refine blk_alloc ?_ _));exact BK1004.out) hb);replace BK1005 := am (blk_below (g := gb1005) (o := .cells #[.int .i64 a1_0,.int .i64 a1_1] 40 (0,0)) (by (with_reducible repeat (first | refine blk_drewN ?_ _ | refine blk_drew ?_ | refine blk_alloc ?_ _));exact BK1005.out) hb);replace HB := am (below_step (by repeat (first | (with_reducible first | exact HB.out | refine below_set ?_ (Aside0.out (by assumption)) | apply below_alloc | apply pw_below_drewN) | exact HB.out)) hb);clear hb hbox hg;have hnb33 := NB1004_1005.out;have hnc33 := NB1005_1004.out;have hnb34 := NB1004_1006.out;have hnc34 := NB1006_1004.out;obtain ⟨hcz35_0,hcz35_1,hcz35_2,hcz35_3,hcz35_4,hcz35_5⟩ := cO6 BK1004.out;have hfz35_0 := blk_frozen BK1004.out 0;have hfz35_1 := blk_frozen BK1004.out 1;have hfz35_2 := blk_frozen BK1004.out 2;have hfz35_3 := blk_frozen BK1004.out 3;have hfz35_4 := blk_frozen BK1004.out 4;have hfz35_5 := blk_frozen BK1004.out 5;have hnb36 := NB1005_1006.out;have hnc36 := NB1006_1005.out;obtain ⟨hcz37_0,hcz37_1⟩ := cO2 BK1005.out;have hfz37_0 := blk_frozen BK1005.out 0;have hfz37_1 := blk_frozen BK1005.out 1) | ((with_reducible refine gate_callee (f := 99) rfl ?_);refine goesL_ (some 9) rfl rfl Tryz.func99 (by kernel_rfl) rfl #[.agg #[.slice A0_0 l0_0.length c0_0,.int .i64 a0_1,.slice A0_2 l0_2.length c0_2,.int .i64 a0_3,.int .i64 a0_4,.slice A0_5 l0_5.length c0_5],.int .i64 a1_0] rfl (by (try simp only [List.map_toArray,List.map_cons,List.map_nil]);first | done | rfl | (simp only [List.length_drop,List.length_take];rfl)) ?_;(with_reducible refine (gf_out.calls _ _ l0_0 a0_1 _ _ l0_2 a0_3 a0_4 _ _ l0_5 a1_0 t1007 _ ?side1 ?side2 ?side3 ?side4 ?side5 ?side6 A3.out).mono ?_);(case side1 => repeat (first | exact (kC HR0_0.out HB.out) | (with_reducible refine Kd.C_alloc ?_ _) | (with_reducible refine Kd.C_drewN ?_ _) | (with_reducible refine Kd.C_drew ?_)));(case side2 => exact HC0_0.out);(case side3 => repeat (first | exact (kC HR0_2.out HB.out) | (with_reducible refine Kd.C_alloc ?_ _) | (with_reducible refine Kd.C_drewN ?_ _) | (with_reducible refine Kd.C_drew ?_)));(case side4 => exact HC0_2.out);(case side5 => repeat (first | exact (kC HR0_5.out HB.out) | (with_reducible refine Kd.C_alloc ?_ _) | (with_reducible refine Kd.C_drewN ?_ _) | (with_reducible refine Kd.C_drew ?_)));(case side6 => exact HC0_5.out);rintro e w38 ⟨rfl,hb⟩;refine ⟨_,rfl,?_⟩;replace BK1004 := am (blk_below (g := gb1004) (o := .cells #[.slice A0_0 l0_0.length c0_0,.int .i64 a0_1,.slice A0_2 l0_2.length c0_2,.int .i64 a0_3,.int .i64 a0_4,.slice A0_5 l0_5.length c0_5] 99 (0,0)) (by (with_reducible repeat (first | refine blk_drewN ?_ _ | refine blk_drew ?_ | refine blk_alloc ?_ _));exact BK1004.out) hb);replace BK1005 := am (blk_below (g := gb1005) (o := .cells #[.int .i64 a1_0,.int .i64 a1_1] 40 (0,0)) (by (with_reducible repeat (first | refine blk_drewN ?_ _ | refine blk_drew ?_ | refine blk_alloc ?_ _));exact BK1005.out) hb);replace BK1006 := am (blk_below (g := gb1006) (o := .cells #[.int .i64 0,.int .i64 0] 40 (0,0)) (by (with_reducible repeat (first | refine blk_drewN ?_ _ | refine blk_drew ?_ | refine blk_alloc ?_ _));exact BK1006.out) hb);replace HB := am (below_step (by repeat (first | (with_reducible first | exact HB.out | refine below_set ?_ (Aside0.out (by assumption)) | apply below_alloc | apply pw_below_drewN) | exact HB.out)) hb);(try clear hb);(try clear hb2);(try clear hk);(try clear hi)) | ((with_reducible refine gate_dst (N := 5) rfl ?_);refine box_event ?hg (N := 5) ?hd (cs := #[.int .i64 0,.int .i64 0]) (t := 40) ?hr ?_;(case hd => rfl);(case hg => rfl);(case hr => go_simp;try rfl);intro gb1008 hg w39 hbox hb;have BK1008 := am (hbox);have GW1008 := am (ge_new (by repeat (first | (with_reducible first | exact HB.out | refine below_set ?_ (Aside0.out (by assumption)) | apply below_alloc | apply pw_below_drewN) | exact HB.out)) hg);have GE1008 := am (ge_new (by repeat (first | (with_reducible first | exact HB.out | refine below_set ?_ (Aside0.out (by assumption)) | apply below_alloc | apply pw_below_drewN) | exact HB.out)) hg);have NB1004_1008 := am ((by rw [hg];exact Nat.ne_of_lt (blk_lt (g := gb1004) (o := .cells #[.slice A0_0 l0_0.length c0_0,.int .i64 a0_1,.slice A0_2 l0_2.length c0_2,.int .i64 a0_3,.int .i64 a0_4,.slice A0_5 l0_5.length c0_5] 99 (0,0)) (by (with_reducible repeat (first | refine blk_drewN ?_ _ | refine blk_drew ?_ | refine blk_alloc ?_ _));exact BK1004.out)) : gb1004 ≠ gb1008));have NB1008_1004 := am ((by rw [hg];exact Nat.ne_of_gt (blk_lt (g := gb1004) (o := .cells #[.slice A0_0 l0_0.length c0_0,.int .i64 a0_1,.slice A0_2 l0_2.length c0_2,.int .i64 a0_3,.int .i64 a0_4,.slice A0_5 l0_5.length c0_5] 99 (0,0)) (by (with_reducible repeat (first | refine blk_drewN ?_ _ | refine blk_drew ?_ | refine blk_alloc ?_ _));exact BK1004.out)) : gb1008 ≠ gb1004));have NB1005_1008 := am ((by rw [hg];exact Nat.ne_of_lt (blk_lt (g := gb1005) (o := .cells #[.int .i64 a1_0,.int .i64 a1_1] 40 (0,0)) (by (with_reducible repeat (first | refine blk_drewN ?_ _ | refine blk_drew ?_ | refine blk_alloc ?_ _));exact BK1005.out)) : gb1005 ≠ gb1008));have NB1008_1005 := am ((by rw [hg];exact Nat.ne_of_gt (blk_lt (g := gb1005) (o := .cells #[.int .i64 a1_0,.int .i64 a1_1] 40 (0,0)) (by (with_reducible repeat (first | refine blk_drewN ?_ _ | refine blk_drew ?_ | refine blk_alloc ?_ _));exact BK1005.out)) : gb1008 ≠ gb1005));have NB1006_1008 := am ((by rw [hg];exact Nat.ne_of_lt (blk_lt (g := gb1006) (o := .cells #[.int .i64 0,.int .i64 0] 40 (0,0)) (by (with_reducible repeat (first | refine blk_drewN ?_ _ | refine blk_drew ?_ | refine blk_alloc ?_ _));exact BK1006.out)) : gb1006 ≠ gb1008));have NB1008_1006 := am ((by rw [hg];exact Nat.ne_of_gt (blk_lt (g := gb1006) (o := .cells #[.int .i64 0,.int .i64 0] 40 (0,0)) (by (with_reducible repeat (first | refine blk_drewN ?_ _ | refine blk_drew ?_ | refine blk_alloc ?_ _));exact BK1006.out)) : gb1008 ≠ gb1006));replace BK1004 := am (blk_below (g := gb1004) (o := .cells #[.slice A0_0 l0_0.length c0_0,.int .i64 a0_1,.slice A0_2 l0_2.length c0_2,.int .i64 a0_3,.int .i64 a0_4,.slice A0_5 l0_5.length c0_5] 99 (0,0)) (by (with_reducible repeat (first | refine blk_drewN ?_ _ | refine blk_drew ?_ | refine blk_alloc ?_ _));exact BK1004.out) hb);replace BK1005 := am (blk_below (g := gb1005) (o := .cells #[.int .i64 a1_0,.int .i64 a1_1] 40 (0,0)) (by (with_reducible repeat (first | refine blk_drewN ?_ _ | refine blk_drew ?_ | refine blk_alloc ?_ _));exact BK1005.out) hb);replace BK1006 := am (blk_below (g := gb1006) (o := .cells #[.int .i64 0,.int .i64 0] 40 (0,0)) (by (with_reducible repeat (first | refine blk_drewN ?_ _ | refine blk_drew ?_ | refine blk_alloc ?_ _));exact BK1006.out) hb);replace HB := am (below_step (by repeat (first | (with_reducible first | exact HB.out | refine below_set ?_ (Aside0.out (by assumption)) | apply below_alloc | apply pw_below_drewN) | exact HB.out)) hb);clear hb hbox hg;have hnb40 := NB1008_1004.out;have hnc40 := NB1004_1008.out;have hnb41 := NB1008_1005.out;have hnc41 := NB1005_1008.out;have hnb42 := NB1008_1006.out;have hnc42 := NB1006_1008.out;obtain ⟨hcz43_0,hcz43_1⟩ := cO2 BK1008.out;have hfz43_0 := blk_frozen BK1008.out 0;have hfz43_1 := blk_frozen BK1008.out 1;obtain ⟨hcz44_0,hcz44_1⟩ := cO2 BK1005.out;have hfz44_0 := blk_frozen BK1005.out 0;have hfz44_1 := blk_frozen BK1005.out 1;obtain ⟨hcz45_0,hcz45_1⟩ := cO2 BK1006.out;have hfz45_0 := blk_frozen BK1006.out 0;have hfz45_1 := blk_frozen BK1006.out 1))
    refine bodyPost_ret (results_cell_row rfl _ _ gb1006 40 #[.int .i64 t1007,.int .i64 10000] (0,0) _ rfl (by (with_reducible repeat (first | refine blk_drewN ?_ _ | refine blk_drew ?_ | refine blk_alloc ?_ _));refine blk_put (cs := #[.int .i64 t1007,.int .i64 0]) ?_ 1 _ rfl;(with_reducible repeat (first | refine blk_drewN ?_ _ | refine blk_drew ?_ | refine blk_alloc ?_ _));refine blk_put (cs := #[.int .i64 0,.int .i64 0]) ?_ 0 _ rfl;(with_reducible repeat (first | refine blk_drewN ?_ _ | refine blk_drew ?_ | refine blk_alloc ?_ _));refine blk_far ?_ NB1006_1008.out _;(with_reducible repeat (first | refine blk_drewN ?_ _ | refine blk_drew ?_ | refine blk_alloc ?_ _));refine blk_far ?_ NB1006_1008.out _;(with_reducible repeat (first | refine blk_drewN ?_ _ | refine blk_drew ?_ | refine blk_alloc ?_ _));exact BK1006.out) Tryz.underlying40 rfl (by kernel_rfl)) rfl ?_
    exact ⟨by first | rfl | (simp [*] <;> rfl),by repeat (first | (with_reducible first | exact HB.out | refine below_set ?_ (Aside0.out (by assumption)) | apply below_alloc | apply pw_below_drewN) | exact HB.out)⟩
 rw [if_pos c4] at H
 have c4b0 : decide (a1_1 < 40) = true := decide_eq_true c4
 clear c4
 replace H := obm H
 obtain ⟨t1009,A50,H⟩ := H
 replace H : (if t1007 > (mn 10000 (wrap64 (t1009 - 1))) then (none) else (some (t1007,mn 10000 (wrap64 (t1009 - 1))))) = some (r1,r2) := H
 have A5 := am A50
 clear A50
 obtain ⟨ji6,hji6⟩ : ∃ j_ : Int,(mn 10000 (wrap64 (t1009 - 1))) = j_ := ⟨_,rfl⟩
 replace H : (if t1007 > (ji6) then (none) else (some (t1007,ji6))) = some (r1,r2) := by first | (rw [hji6] at H;exact H) | (simp only [hji6] at H ⊢;exact H)
 (try rw [hji6] at A3)
 (try rw [hji6] at A5)
 (try (have hji6h : ji6 ≤ 10000 := by (rw [← hji6];unfold mn;(repeat' split) <;> omega)))
 (try (have hji6g : ji6 ≤ 64 := by omega))
 have hji6_ : (if (wrap64 (t1009 - 1)) < 10000 then (wrap64 (t1009 - 1)) else 10000) = ji6 := hji6
 by_cases c7 : t1007 > (ji6)
 · rw [if_pos c7] at H
   have c7b0 : decide ((ji6) < t1007) = true := decide_eq_true c7
   clear c7
   exact absurd H (by simp)
 · rw [if_neg c7] at H
   have c7b0 : decide ((ji6) < t1007) = false := decide_eq_false c7
   clear c7
   simp only [Option.some.injEq,Prod.mk.injEq] at H
   obtain ⟨rfl,rfl⟩ := H
   go_enter Tryz.func72,Tryz.ntmps72
   try go_wp2_with (first | ((with_reducible refine gate_dst (N := 2) rfl ?_);refine box_event ?hg (N := 2) ?hd (cs := #[.slice A0_0 l0_0.length c0_0,.int .i64 a0_1,.slice A0_2 l0_2.length c0_2,.int .i64 a0_3,.int .i64 a0_4,.slice A0_5 l0_5.length c0_5]) (t := 99) ?hr ?_;(case hd => rfl);(case hg => rfl);(case hr => go_simp;try rfl);intro gb1004 hg w8 hbox hb;have BK1004 := am (hbox);have GW1004 := am (ge_new (by repeat (first | (with_reducible first | exact HB.out | apply below_alloc | apply pw_below_drewN) | exact HB.out)) hg);have GE1004 := am (ge_new (by repeat (first | (with_reducible first | exact HB.out | apply below_alloc | apply pw_below_drewN) | exact HB.out)) hg);replace HB := am (below_step (by repeat (first | (with_reducible first | exact HB.out | apply below_alloc | apply pw_below_drewN) | exact HB.out)) hb);clear hb hbox hg) | ((with_reducible refine gate_dst (N := 3) rfl ?_);refine box_event ?hg (N := 3) ?hd (cs := #[.int .i64 a1_0,.int .i64 a1_1]) (t := 40) ?hr ?_;(case hd => rfl);(case hg => rfl);(case hr => go_simp;try rfl);intro gb1005 hg w9 hbox hb;have BK1005 := am (hbox);have GW1005 := am (ge_new (by repeat (first | (with_reducible first | exact HB.out | refine below_set ?_ GE1004.out | apply below_alloc | apply pw_below_drewN) | exact HB.out)) hg);have GE1005 := am (ge_new (by repeat (first | (with_reducible first | exact HB.out | refine below_set ?_ GE1004.out | apply below_alloc | apply pw_below_drewN) | exact HB.out)) hg);have NB1004_1005 := am ((by rw [hg];exact Nat.ne_of_lt (blk_lt (g := gb1004) (o := .cells #[.slice A0_0 l0_0.length c0_0,.int .i64 a0_1,.slice A0_2 l0_2.length c0_2,.int .i64 a0_3,.int .i64 a0_4,.slice A0_5 l0_5.length c0_5] 99 (0,0)) (by (with_reducible repeat (first | refine blk_drewN ?_ _ | refine blk_drew ?_ | refine blk_alloc ?_ _));exact BK1004.out)) : gb1004 ≠ gb1005));have NB1005_1004 := am ((by rw [hg];exact Nat.ne_of_gt (blk_lt (g := gb1004) (o := .cells #[.slice A0_0 l0_0.length c0_0,.int .i64 a0_1,.slice A0_2 l0_2.length c0_2,.int .i64 a0_3,.int .i64 a0_4,.slice A0_5 l0_5.length c0_5] 99 (0,0)) (by (with_reducible repeat (first | refine blk_drewN ?_ _ | refine blk_drew ?_ | refine blk_alloc ?_ _));exact BK1004.out)) : gb1005 ≠ gb1004));replace BK1004 := am (blk_below (g := gb1004) (o := .cells #[.slice A0_0 l0_0.length c0_0,.int .i64 a0_1,.slice A0_2 l0_2.length c0_2,.int .i64 a0_3,.int .i64 a0_4,.slice A0_5 l0_5.length c0_5] 99 (0,0)) (by (with_reducible repeat (first | refine blk_drewN ?_ _ | refine blk_drew ?_ | refine blk_alloc ?_ _));exact BK1004.out) hb);replace HB := am (below_step (by repeat (first | (with_reducible first | exact HB.out | refine below_set ?_ GE1004.out | apply below_alloc | apply pw_below_drewN) | exact HB.out)) hb);clear hb hbox hg) | ((with_reducible refine gate_dst (N := 4) rfl ?_);refine box_event ?hg (N := 4) ?hd (cs := #[.int .i64 0,.int .i64 0]) (t := 40) ?hr ?_;(case hd => rfl);(case hg => rfl);(case hr => go_simp;try rfl);intro gb1006 hg w10 hbox hb;have BK1006 := am (hbox);have GW1006 := am (ge_new (by repeat (first | (with_reducible first | exact HB.out | refine below_set ?_ (Aside0.out (by assumption)) | apply below_alloc | apply pw_below_drewN) | exact HB.out)) hg);have GE1006 := am (ge_new (by repeat (first | (with_reducible first | exact HB.out | refine below_set ?_ (Aside0.out (by assumption)) | apply below_alloc | apply pw_below_drewN) | exact HB.out)) hg);have NB1004_1006 := am ((by rw [hg];exact Nat.ne_of_lt (blk_lt (g := gb1004) (o := .cells #[.slice A0_0 l0_0.length c0_0,.int .i64 a0_1,.slice A0_2 l0_2.length c0_2,.int .i64 a0_3,.int .i64 a0_4,.slice A0_5 l0_5.length c0_5] 99 (0,0)) (by (with_reducible repeat (first | refine blk_drewN ?_ _ | refine blk_drew ?_ | refine blk_alloc ?_ _));exact BK1004.out)) : gb1004 ≠ gb1006));have NB1006_1004 := am ((by rw [hg];exact Nat.ne_of_gt (blk_lt (g := gb1004) (o := .cells #[.slice A0_0 l0_0.length c0_0,.int .i64 a0_1,.slice A0_2 l0_2.length c0_2,.int .i64 a0_3,.int .i64 a0_4,.slice A0_5 l0_5.length c0_5] 99 (0,0)) (by (with_reducible repeat (first | refine blk_drewN ?_ _ | refine blk_drew ?_ | refine blk_alloc ?_ _));exact BK1004.out)) : gb1006 ≠ gb1004));have NB1005_1006 := am ((by rw [hg];exact Nat.ne_of_lt (blk_lt (g := gb1005) (o := .cells #[.int .i64 a1_0,.int .i64 a1_1] 40 (0,0)) (by (with_reducible repeat (first | refine blk_drewN ?_ _ | refine blk_drew ?_ | refine blk_alloc ?_ _));exact BK1005.out)) : gb1005 ≠ gb1006));have NB1006_1005 := am ((by rw [hg];exact Nat.ne_of_gt (blk_lt (g := gb1005) (o := .cells #[.int .i64 a1_0,.int .i64 a1_1] 40 (0,0)) (by (with_reducible repeat (first | refine blk_drewN ?_ _ | refine blk_drew ?_ | refine blk_alloc ?_ _));exact BK1005.out)) : gb1006 ≠ gb1005));replace BK1004 := am (blk_below (g := gb1004) (o := .cells #[.slice A0_0 l0_0.length c0_0,.int .i64 a0_1,.slice A0_2 l0_2.length c0_2,.int .i64 a0_3,.int .i64 a0_4,.slice A0_5 l0_5.length c0_5] 99 (0,0)) (by (with_reducible repeat (first | refine blk_drewN ?_ _ | refine blk_drew ?_ | refine blk_alloc ?_ _));exact BK1004.out) hb);replace BK1005 := am (blk_below (g := gb1005) (o := .cells #[.int .i64 a1_0,.int .i64 a1_1] 40 (0,0)) (by (with_reducible repeat (first | refine blk_drewN ?_ _ | refine blk_drew ?_ | refine blk_alloc ?_ _));exact BK1005.out) hb);replace HB := am (below_step (by repeat (first | (with_reducible first | exact HB.out | refine below_set ?_ (Aside0.out (by assumption)) | apply below_alloc | apply pw_below_drewN) | exact HB.out)) hb);clear hb hbox hg;have hnb11 := NB1004_1005.out;have hnc11 := NB1005_1004.out;have hnb12 := NB1004_1006.out;have hnc12 := NB1006_1004.out;obtain ⟨hcz13_0,hcz13_1,hcz13_2,hcz13_3,hcz13_4,hcz13_5⟩ := cO6 BK1004.out;have hfz13_0 := blk_frozen BK1004.out 0;have hfz13_1 := blk_frozen BK1004.out 1;have hfz13_2 := blk_frozen BK1004.out 2;have hfz13_3 := blk_frozen BK1004.out 3;have hfz13_4 := blk_frozen BK1004.out 4;have hfz13_5 := blk_frozen BK1004.out 5;have hnb14 := NB1005_1006.out;have hnc14 := NB1006_1005.out;obtain ⟨hcz15_0,hcz15_1⟩ := cO2 BK1005.out;have hfz15_0 := blk_frozen BK1005.out 0;have hfz15_1 := blk_frozen BK1005.out 1) | ((with_reducible refine gate_callee (f := 99) rfl ?_);refine goesL_ (some 9) rfl rfl Tryz.func99 (by kernel_rfl) rfl #[.agg #[.slice A0_0 l0_0.length c0_0,.int .i64 a0_1,.slice A0_2 l0_2.length c0_2,.int .i64 a0_3,.int .i64 a0_4,.slice A0_5 l0_5.length c0_5],.int .i64 a1_0] rfl (by (try simp only [List.map_toArray,List.map_cons,List.map_nil]);first | done | rfl | (simp only [List.length_drop,List.length_take];rfl)) ?_;(with_reducible refine (gf_out.calls _ _ l0_0 a0_1 _ _ l0_2 a0_3 a0_4 _ _ l0_5 a1_0 t1007 _ ?side1 ?side2 ?side3 ?side4 ?side5 ?side6 A3.out).mono ?_);(case side1 => repeat (first | exact (kC HR0_0.out HB.out) | (with_reducible refine Kd.C_alloc ?_ _) | (with_reducible refine Kd.C_drewN ?_ _) | (with_reducible refine Kd.C_drew ?_)));(case side2 => exact HC0_0.out);(case side3 => repeat (first | exact (kC HR0_2.out HB.out) | (with_reducible refine Kd.C_alloc ?_ _) | (with_reducible refine Kd.C_drewN ?_ _) | (with_reducible refine Kd.C_drew ?_)));(case side4 => exact HC0_2.out);(case side5 => repeat (first | exact (kC HR0_5.out HB.out) | (with_reducible refine Kd.C_alloc ?_ _) | (with_reducible refine Kd.C_drewN ?_ _) | (with_reducible refine Kd.C_drew ?_)));(case side6 => exact HC0_5.out);rintro e w16 ⟨rfl,hb⟩;refine ⟨_,rfl,?_⟩;replace BK1004 := am (blk_below (g := gb1004) (o := .cells #[.slice A0_0 l0_0.length c0_0,.int .i64 a0_1,.slice A0_2 l0_2.length c0_2,.int .i64 a0_3,.int .i64 a0_4,.slice A0_5 l0_5.length c0_5] 99 (0,0)) (by (with_reducible repeat (first | refine blk_drewN ?_ _ | refine blk_drew ?_ | refine blk_alloc ?_ _));exact BK1004.out) hb);replace BK1005 := am (blk_below (g := gb1005) (o := .cells #[.int .i64 a1_0,.int .i64 a1_1] 40 (0,0)) (by (with_reducible repeat (first | refine blk_drewN ?_ _ | refine blk_drew ?_ | refine blk_alloc ?_ _));exact BK1005.out) hb);replace BK1006 := am (blk_below (g := gb1006) (o := .cells #[.int .i64 0,.int .i64 0] 40 (0,0)) (by (with_reducible repeat (first | refine blk_drewN ?_ _ | refine blk_drew ?_ | refine blk_alloc ?_ _));exact BK1006.out) hb);replace HB := am (below_step (by repeat (first | (with_reducible first | exact HB.out | refine below_set ?_ (Aside0.out (by assumption)) | apply below_alloc | apply pw_below_drewN) | exact HB.out)) hb);(try clear hb);(try clear hb2);(try clear hk);(try clear hi)) | ((with_reducible refine gate_dst (N := 5) rfl ?_);refine box_event ?hg (N := 5) ?hd (cs := #[.int .i64 0,.int .i64 0]) (t := 40) ?hr ?_;(case hd => rfl);(case hg => rfl);(case hr => go_simp;try rfl);intro gb1008 hg w17 hbox hb;have BK1008 := am (hbox);have GW1008 := am (ge_new (by repeat (first | (with_reducible first | exact HB.out | refine below_set ?_ (Aside0.out (by assumption)) | apply below_alloc | apply pw_below_drewN) | exact HB.out)) hg);have GE1008 := am (ge_new (by repeat (first | (with_reducible first | exact HB.out | refine below_set ?_ (Aside0.out (by assumption)) | apply below_alloc | apply pw_below_drewN) | exact HB.out)) hg);have NB1004_1008 := am ((by rw [hg];exact Nat.ne_of_lt (blk_lt (g := gb1004) (o := .cells #[.slice A0_0 l0_0.length c0_0,.int .i64 a0_1,.slice A0_2 l0_2.length c0_2,.int .i64 a0_3,.int .i64 a0_4,.slice A0_5 l0_5.length c0_5] 99 (0,0)) (by (with_reducible repeat (first | refine blk_drewN ?_ _ | refine blk_drew ?_ | refine blk_alloc ?_ _));exact BK1004.out)) : gb1004 ≠ gb1008));have NB1008_1004 := am ((by rw [hg];exact Nat.ne_of_gt (blk_lt (g := gb1004) (o := .cells #[.slice A0_0 l0_0.length c0_0,.int .i64 a0_1,.slice A0_2 l0_2.length c0_2,.int .i64 a0_3,.int .i64 a0_4,.slice A0_5 l0_5.length c0_5] 99 (0,0)) (by (with_reducible repeat (first | refine blk_drewN ?_ _ | refine blk_drew ?_ | refine blk_alloc ?_ _));exact BK1004.out)) : gb1008 ≠ gb1004));have NB1005_1008 := am ((by rw [hg];exact Nat.ne_of_lt (blk_lt (g := gb1005) (o := .cells #[.int .i64 a1_0,.int .i64 a1_1] 40 (0,0)) (by (with_reducible repeat (first | refine blk_drewN ?_ _ | refine blk_drew ?_ | refine blk_alloc ?_ _));exact BK1005.out)) : gb1005 ≠ gb1008));have NB1008_1005 := am ((by rw [hg];exact Nat.ne_of_gt (blk_lt (g := gb1005) (o := .cells #[.int .i64 a1_0,.int .i64 a1_1] 40 (0,0)) (by (with_reducible repeat (first | refine blk_drewN ?_ _ | refine blk_drew ?_ | refine blk_alloc ?_ _));exact BK1005.out)) : gb1008 ≠ gb1005));have NB1006_1008 := am ((by rw [hg];exact Nat.ne_of_lt (blk_lt (g := gb1006) (o := .cells #[.int .i64 0,.int .i64 0] 40 (0,0)) (by (with_reducible repeat (first | refine blk_drewN ?_ _ | refine blk_drew ?_ | refine blk_alloc ?_ _));exact BK1006.out)) : gb1006 ≠ gb1008));have NB1008_1006 := am ((by rw [hg];exact Nat.ne_of_gt (blk_lt (g := gb1006) (o := .cells #[.int .i64 0,.int .i64 0] 40 (0,0)) (by (with_reducible repeat (first | refine blk_drewN ?_ _ | refine blk_drew ?_ | refine blk_alloc ?_ _));exact BK1006.out)) : gb1008 ≠ gb1006));replace BK1004 := am (blk_below (g := gb1004) (o := .cells #[.slice A0_0 l0_0.length c0_0,.int .i64 a0_1,.slice A0_2 l0_2.length c0_2,.int .i64 a0_3,.int .i64 a0_4,.slice A0_5 l0_5.length c0_5] 99 (0,0)) (by (with_reducible repeat (first | refine blk_drewN ?_ _ | refine blk_drew ?_ | refine blk_alloc ?_ _));exact BK1004.out) hb);replace BK1005 := am (blk_below (g := gb1005) (o := .cells #[.int .i64 a1_0,.int .i64 a1_1] 40 (0,0)) (by (with_reducible repeat (first | refine blk_drewN ?_ _ | refine blk_drew ?_ | refine blk_alloc ?_ _));exact BK1005.out) hb);replace BK1006 := am (blk_below (g := gb1006) (o := .cells #[.int .i64 0,.int .i64 0] 40 (0,0)) (by (with_reducible repeat (first | refine blk_drewN ?_ _ | refine blk_drew ?_ | refine blk_alloc ?_ _));exact BK1006.out) hb);replace HB := am (below_step (by repeat (first | (with_reducible first | exact HB.out | refine below_set ?_ (Aside0.out (by assumption)) | apply below_alloc | apply pw_below_drewN) | exact HB.out)) hb);clear hb hbox hg;have hnb18 := NB1008_1004.out;have hnc18 := NB1004_1008.out;have hnb19 := NB1008_1005.out;have hnc19 := NB1005_1008.out;have hnb20 := NB1008_1006.out;have hnc20 := NB1006_1008.out;obtain ⟨hcz21_0,hcz21_1⟩ := cO2 BK1008.out;have hfz21_0 := blk_frozen BK1008.out 0;have hfz21_1 := blk_frozen BK1008.out 1;obtain ⟨hcz22_0,hcz22_1⟩ := cO2 BK1005.out;have hfz22_0 := blk_frozen BK1005.out 0;have hfz22_1 := blk_frozen BK1005.out 1))
   have n0_ : Aside0 (((w17.setCell ⟨gb1008,0,none⟩ (.int .i64 t1007)).setCell ⟨gb1008,1,none⟩ (.int .i64 10000)).heap[gb1004]? = some (.cells #[.slice A0_0 l0_0.length c0_0,.int .i64 a0_1,.slice A0_2 l0_2.length c0_2,.int .i64 a0_3,.int .i64 a0_4,.slice A0_5 l0_5.length c0_5] 99 (0,0))) := ⟨by (with_reducible repeat (first | refine blk_drewN ?_ _ | refine blk_drew ?_ | refine blk_alloc ?_ _));refine blk_far ?_ NB1004_1008.out _;(with_reducible repeat (first | refine blk_drewN ?_ _ | refine blk_drew ?_ | refine blk_alloc ?_ _));refine blk_far ?_ NB1004_1008.out _;(with_reducible repeat (first | refine blk_drewN ?_ _ | refine blk_drew ?_ | refine blk_alloc ?_ _));exact BK1004.out⟩
   have n1_ : Aside0 (((w17.setCell ⟨gb1008,0,none⟩ (.int .i64 t1007)).setCell ⟨gb1008,1,none⟩ (.int .i64 10000)).heap[gb1005]? = some (.cells #[.int .i64 a1_0,.int .i64 a1_1] 40 (0,0))) := ⟨by (with_reducible repeat (first | refine blk_drewN ?_ _ | refine blk_drew ?_ | refine blk_alloc ?_ _));refine blk_far ?_ NB1005_1008.out _;(with_reducible repeat (first | refine blk_drewN ?_ _ | refine blk_drew ?_ | refine blk_alloc ?_ _));refine blk_far ?_ NB1005_1008.out _;(with_reducible repeat (first | refine blk_drewN ?_ _ | refine blk_drew ?_ | refine blk_alloc ?_ _));exact BK1005.out⟩
   have n2_ : Aside0 (((w17.setCell ⟨gb1008,0,none⟩ (.int .i64 t1007)).setCell ⟨gb1008,1,none⟩ (.int .i64 10000)).heap[gb1006]? = some (.cells #[.int .i64 0,.int .i64 0] 40 (0,0))) := ⟨by (with_reducible repeat (first | refine blk_drewN ?_ _ | refine blk_drew ?_ | refine blk_alloc ?_ _));refine blk_far ?_ NB1006_1008.out _;(with_reducible repeat (first | refine blk_drewN ?_ _ | refine blk_drew ?_ | refine blk_alloc ?_ _));refine blk_far ?_ NB1006_1008.out _;(with_reducible repeat (first | refine blk_drewN ?_ _ | refine blk_drew ?_ | refine blk_alloc ?_ _));exact BK1006.out⟩
   have n3_ : Aside0 (((w17.setCell ⟨gb1008,0,none⟩ (.int .i64 t1007)).setCell ⟨gb1008,1,none⟩ (.int .i64 10000)).heap[gb1008]? = some (.cells #[.int .i64 t1007,.int .i64 10000] 40 (0,0))) := ⟨by (with_reducible repeat (first | refine blk_drewN ?_ _ | refine blk_drew ?_ | refine blk_alloc ?_ _));refine blk_put (cs := #[.int .i64 t1007,.int .i64 0]) ?_ 1 _ rfl;(with_reducible repeat (first | refine blk_drewN ?_ _ | refine blk_drew ?_ | refine blk_alloc ?_ _));refine blk_put (cs := #[.int .i64 0,.int .i64 0]) ?_ 0 _ rfl;(with_reducible repeat (first | refine blk_drewN ?_ _ | refine blk_drew ?_ | refine blk_alloc ?_ _));exact BK1008.out⟩
   have n4_ : Aside0 (Below w.heap.size w ((w17.setCell ⟨gb1008,0,none⟩ (.int .i64 t1007)).setCell ⟨gb1008,1,none⟩ (.int .i64 10000))) := ⟨by repeat (first | (with_reducible first | exact HB.out | refine below_set ?_ (Aside0.out (by assumption)) | apply below_alloc | apply pw_below_drewN) | exact HB.out)⟩
   (try clear BK1004)
   (try clear BK1005)
   (try clear BK1006)
   (try clear BK1008)
   (try clear HB)
   generalize ((w17.setCell ⟨gb1008,0,none⟩ (.int .i64 t1007)).setCell ⟨gb1008,1,none⟩ (.int .i64 10000)) = w23 at n0_ n1_ n2_ n3_ n4_ ⊢
   have BK1004 := n0_
   have BK1005 := n1_
   have BK1006 := n2_
   have BK1008 := n3_
   have HB := n4_
   clear n0_ n1_ n2_ n3_ n4_
   replace BK1004 := am (blk_drew BK1004.out)
   replace BK1005 := am (blk_drew BK1005.out)
   replace BK1006 := am (blk_drew BK1006.out)
   replace BK1008 := am (blk_drew BK1008.out)
   replace HB := am (below_drew1 HB.out)
   refine start_ (n := 11) (S := fun w' => w'.cell? ⟨gb1008,0,none⟩ = some (.int .i64 t1007) ∧ w'.cell? ⟨gb1008,1,none⟩ = some (.int .i64 10000) ∧ w'.cell? ⟨gb1004,0,none⟩ = some (.slice A0_0 l0_0.length c0_0) ∧ w'.cell? ⟨gb1004,1,none⟩ = some (.int .i64 a0_1) ∧ w'.cell? ⟨gb1004,2,none⟩ = some (.slice A0_2 l0_2.length c0_2) ∧ w'.cell? ⟨gb1004,3,none⟩ = some (.int .i64 a0_3) ∧ w'.cell? ⟨gb1004,4,none⟩ = some (.int .i64 a0_4) ∧ w'.cell? ⟨gb1004,5,none⟩ = some (.slice A0_5 l0_5.length c0_5) ∧ w'.cell? ⟨gb1005,0,none⟩ = some (.int .i64 a1_0) ∧ w'.cell? ⟨gb1005,1,none⟩ = some (.int .i64 a1_1)) (ds := [10]) (ba 11 0) (by kernel_rfl) rfl rfl ⟨(blk_cell BK1008.out 0).trans rfl,(blk_cell BK1008.out 1).trans rfl,(blk_cell BK1004.out 0).trans rfl,(blk_cell BK1004.out 1).trans rfl,(blk_cell BK1004.out 2).trans rfl,(blk_cell BK1004.out 3).trans rfl,(blk_cell BK1004.out 4).trans rfl,(blk_cell BK1004.out 5).trans rfl,(blk_cell BK1005.out 0).trans rfl,(blk_cell BK1005.out 1).trans rfl⟩ (fun hHeld => ?_);refine with_tabW gf_proves.tab3 gf_proves.bits3 (fun HT_ HW_ => ?_)
   generalize w23.drew = w24 at BK1004 BK1005 BK1006 BK1008 HB hHeld ⊢
   refine pure_ (i := 0) (N := some 14) (v := ?_) (a' := ?_) (ba 11 1) rfl rfl (any_of HT_.out (by kernel_rfl)) (fun _ _ _ h => h) (Or.inl ⟨by rfl,?_⟩) ?_ ?_
   rotate_left
   · intro w'
     go_simp
     with_reducible rfl
   rotate_left
   · simp only [Act.put,NRM]
     rfl
   refine pure_ (i := 3) (N := some 17) (v := ?_) (a' := ?_) (ba 11 9) rfl rfl (any_of HT_.out (by kernel_rfl)) (fun _ _ _ h => h) (Or.inl ⟨by rfl,?_⟩) ?_ ?_
   rotate_left
   · intro w'
     go_simp
     with_reducible rfl
   rotate_left
   · simp only [Act.put,NRM]
     rfl
   refine take_ (i := 1) (N := some 15) (v := ?_) (a' := ?_) (ba 11 11) rfl rfl (take_ofW HT_.out HW_.out (by kernel_rfl)) (fun _ _ _ h => h) (Or.inl ⟨by rfl,?_⟩) hHeld ?_ ?_
   rotate_left
   · rintro w' ⟨s0,s1,s2,s3,s4,s5,s6,s7,s8,s9⟩
     go_simp
     with_reducible rfl
   rotate_left
   · simp only [Act.put,NRM]
     rfl
   refine take_ (i := 2) (N := some 16) (v := ?_) (a' := ?_) (ba 11 15) rfl rfl (take_ofW HT_.out HW_.out (by kernel_rfl)) (fun _ _ _ h => h) (Or.inl ⟨by rfl,?_⟩) hHeld ?_ ?_
   rotate_left
   · rintro w' ⟨s0,s1,s2,s3,s4,s5,s6,s7,s8,s9⟩
     go_simp
     with_reducible rfl
   rotate_left
   · simp only [Act.put,NRM]
     rfl
   refine take_ (i := 4) (N := some 18) (v := ?_) (a' := ?_) (ba 11 31) rfl rfl (take_ofW HT_.out HW_.out (by kernel_rfl)) (fun _ _ _ h => h) (Or.inl ⟨by rfl,?_⟩) hHeld ?_ ?_
   rotate_left
   · rintro w' ⟨s0,s1,s2,s3,s4,s5,s6,s7,s8,s9⟩
     go_simp
     with_reducible rfl
   rotate_left
   · simp only [Act.put,NRM]
     rfl
   refine pure_ (i := 5) (N := some 19) (v := ?_) (a' := ?_) (ba 11 63) rfl rfl (any_of HT_.out (by kernel_rfl)) (fun _ _ _ h => h) (Or.inl ⟨by rfl,?_⟩) ?_ ?_
   rotate_left
   · intro w'
     go_simp
     with_reducible rfl
   rotate_left
   · simp only [Act.put,NRM]
     rfl
   refine one_ (i := 6) (N := some 20) (ba 11 127) rfl rfl (one_of HT_.out (by kernel_rfl)) (by decide) (fun K hK => ?_)
   refine goes_ Tryz.func99 (by kernel_rfl) rfl #[.agg #[.slice A0_0 l0_0.length c0_0,.int .i64 a0_1,.slice A0_2 l0_2.length c0_2,.int .i64 a0_3,.int .i64 a0_4,.slice A0_5 l0_5.length c0_5],.int .i64 (wrap64 (a1_1 + 1))] (by rfl) rfl rfl (by (try simp only [List.map_toArray,List.map_cons,List.map_nil]);first | done | rfl | (simp only [List.length_drop,List.length_take];rfl)) ?_
   with_reducible refine (gf_out.calls _ _ l0_0 a0_1 _ _ l0_2 a0_3 a0_4 _ _ l0_5 (wrap64 (a1_1 + 1)) t1009 _ ?side1 ?side2 ?side3 ?side4 ?side5 ?side6 A5.out).mono ?_
   (case side1 => repeat (first | exact (kC HR0_0.out HB.out) | (with_reducible refine Kd.C_alloc ?_ _) | (with_reducible refine Kd.C_drewN ?_ _) | (with_reducible refine Kd.C_drew ?_)))
   (case side2 => exact HC0_0.out)
   (case side3 => repeat (first | exact (kC HR0_2.out HB.out) | (with_reducible refine Kd.C_alloc ?_ _) | (with_reducible refine Kd.C_drewN ?_ _) | (with_reducible refine Kd.C_drew ?_)))
   (case side4 => exact HC0_2.out)
   (case side5 => repeat (first | exact (kC HR0_5.out HB.out) | (with_reducible refine Kd.C_alloc ?_ _) | (with_reducible refine Kd.C_drewN ?_ _) | (with_reducible refine Kd.C_drew ?_)))
   (case side6 => exact HC0_5.out)
   rintro e w25 ⟨rfl,hb⟩
   refine ⟨_,rfl,?_⟩
   replace BK1004 := am (blk_below (g := gb1004) (o := .cells #[.slice A0_0 l0_0.length c0_0,.int .i64 a0_1,.slice A0_2 l0_2.length c0_2,.int .i64 a0_3,.int .i64 a0_4,.slice A0_5 l0_5.length c0_5] 99 (0,0)) (by (with_reducible repeat (first | refine blk_drewN ?_ _ | refine blk_drew ?_ | refine blk_alloc ?_ _));exact BK1004.out) hb)
   replace BK1005 := am (blk_below (g := gb1005) (o := .cells #[.int .i64 a1_0,.int .i64 a1_1] 40 (0,0)) (by (with_reducible repeat (first | refine blk_drewN ?_ _ | refine blk_drew ?_ | refine blk_alloc ?_ _));exact BK1005.out) hb)
   replace BK1006 := am (blk_below (g := gb1006) (o := .cells #[.int .i64 0,.int .i64 0] 40 (0,0)) (by (with_reducible repeat (first | refine blk_drewN ?_ _ | refine blk_drew ?_ | refine blk_alloc ?_ _));exact BK1006.out) hb)
   replace BK1008 := am (blk_below (g := gb1008) (o := .cells #[.int .i64 t1007,.int .i64 10000] 40 (0,0)) (by (with_reducible repeat (first | refine blk_drewN ?_ _ | refine blk_drew ?_ | refine blk_alloc ?_ _));exact BK1008.out) hb)
   replace HB := am (below_step (by repeat (first | (with_reducible first | exact HB.out | refine below_set ?_ (Aside0.out (by assumption)) | apply below_alloc | apply pw_below_drewN) | exact HB.out)) hb)
   (try clear hb)
   (try clear hb2)
   (try clear hk)
   (try clear hi)
   refine hK.out _ _ ⟨(blk_cell BK1008.out 0).trans rfl,(blk_cell BK1008.out 1).trans rfl,(blk_cell BK1004.out 0).trans rfl,(blk_cell BK1004.out 1).trans rfl,(blk_cell BK1004.out 2).trans rfl,(blk_cell BK1004.out 3).trans rfl,(blk_cell BK1004.out 4).trans rfl,(blk_cell BK1004.out 5).trans rfl,(blk_cell BK1005.out 0).trans rfl,(blk_cell BK1005.out 1).trans rfl⟩ (fun hHeld => ?_)
   clear hK K
   refine norm_ (a' := ?_) ?_ ?_
   rotate_left
   · show Act.put _ (some 20) _ = _
     simp only [Act.put,NRM]
     rfl
   refine pure_ (i := 7) (N := some 21) (v := ?_) (a' := ?_) (ba 11 255) rfl rfl (any_of HT_.out (by kernel_rfl)) (fun _ _ _ h => h) (Or.inl ⟨by rfl,?_⟩) ?_ ?_
   rotate_left
   · intro w'
     go_simp
     with_reducible rfl
   rotate_left
   · simp only [Act.put,NRM]
     rfl
   refine pure_ (i := 8) (N := some 22) (v := ?_) (a' := ?_) (ba 11 511) rfl rfl (any_of HT_.out (by kernel_rfl)) (fun _ _ _ h => h) (Or.inl ⟨by rfl,?_⟩) ?_ ?_
   rotate_left
   · intro w'
     go_simp
     with_reducible rfl
   rotate_left
   · simp only [Act.put,NRM]
     rfl
   refine pure_ (i := 9) (N := some 23) (v := ?_) (a' := ?_) (ba 11 1023) rfl rfl (any_of HT_.out (by kernel_rfl)) (fun _ _ _ h => h) (Or.inl ⟨by rfl,?_⟩) ?_ ?_
   rotate_left
   · intro w'
     go_simp
     with_reducible rfl
   rotate_left
   · simp only [Act.put,NRM]
     rfl
   refine last_ (i := 10) (N := none) (ba 11 2047) rfl rfl (one_of HT_.out (by kernel_rfl)) (by decide) (fun K hK => ?_)
   have hs26 : w25.cell? ⟨gb1008,1,none⟩ = some (.int .i64 10000) := (blk_cell BK1008.out 1).trans rfl
   have hfs26 := blk_frozen BK1008.out 1
   have hns26_0 := NB1004_1008.out
   have hns26_1 := NB1005_1008.out
   have hns26_2 := NB1006_1008.out
   have hms26_0 := NB1008_1004.out
   have hms26_1 := NB1008_1005.out
   have hms26_2 := NB1008_1006.out
   refine skip_ (w1 := ?_) (by rfl) rfl ?_ ?_
   rotate_left
   · go_simp
     rfl
   refine hK.out _ _ ?_
   clear hK K
   refine done_ (done_of HT_.out (by kernel_rfl)) ?_
   obtain ⟨hcz27_0,hcz27_1⟩ := cO2 BK1008.out
   have hfz27_0 := blk_frozen BK1008.out 0
   have hfz27_1 := blk_frozen BK1008.out 1
   obtain ⟨hcz28_0,hcz28_1⟩ := cO2 BK1006.out
   have hfz28_0 := blk_frozen BK1006.out 0
   have hfz28_1 := blk_frozen BK1006.out 1
   try go_wp2
   refine bodyPost_ret (results_cell_row rfl _ _ gb1006 40 #[.int .i64 t1007,.int .i64 ji6] (0,0) _ rfl (by (with_reducible repeat (first | refine blk_drewN ?_ _ | refine blk_drew ?_ | refine blk_alloc ?_ _));refine blk_put (cs := #[.int .i64 t1007,.int .i64 0]) ?_ 1 _ rfl;(with_reducible repeat (first | refine blk_drewN ?_ _ | refine blk_drew ?_ | refine blk_alloc ?_ _));refine blk_put (cs := #[.int .i64 0,.int .i64 0]) ?_ 0 _ rfl;(with_reducible repeat (first | refine blk_drewN ?_ _ | refine blk_drew ?_ | refine blk_alloc ?_ _));refine blk_far ?_ NB1006_1008.out _;(with_reducible repeat (first | refine blk_drewN ?_ _ | refine blk_drew ?_ | refine blk_alloc ?_ _));exact BK1006.out) Tryz.underlying40 rfl (by kernel_rfl)) rfl ?_
   exact ⟨by first | rfl | (simp [errW_none,errW_some] <;> rfl) | (simp only [← hji6];first | rfl | (simp [errW_none,errW_some] <;> rfl)) | (simp [*,errW_none,errW_some] <;> rfl),by repeat (first | (with_reducible first | exact HB.out | refine below_set ?_ (Aside0.out (by assumption)) | apply below_alloc | apply pw_below_drewN) | exact HB.out)⟩
end
end Go.Proofs.YticlelgmmonloaaGreatDoor.C

/- A part of the proof: the walks of the functions that it reaches. TIGHT. -/
import Derived.Test.YticlelgmmonloaaGreatDoorM16
set_option linter.unusedVariables false
set_option linter.unusedSimpArgs false
namespace Go.Proofs.YticlelgmmonloaaGreatDoor.C
open Go.RowKit Go.Abs Go.Proofs.YticlelgmmonloaaGreatDoorW.PrintWords Go.Proofs.YticlelgmmonloaaGreatDoorW.PrintLast Go.Proofs.YticlelgmmonloaaGreatDoorW.PrintMore
set_option linter.unusedVariables false
set_option linter.unusedSimpArgs false
set_option maxHeartbeats 16000000
set_option maxRecDepth 100000
def decRows : List AV → Option (List S126)
 | [] => some []
 | .int .i64 a :: .int .i64 b :: .int .i64 c :: l => (decRows l).map (⟨a,b,c⟩ :: ·)
 | _ => none
theorem decRows_eq : ∀ {cs : List AV} {xs : List S126} {e : Env} {vs : List Value},decRows cs = some xs → concL e cs = some vs → ∀ (j : Nat) p,xs[j]? = some p → (vs.drop (j * 3)).take 3 = [.int .i64 p.f0,.int .i64 p.f1,.int .i64 p.f2]
 | [],_,e,vs,h,hv,j,p,hj => by cases h;simp at hj
 | a :: l,xs,e,vs,h,hv,j,p,hj => by
  unfold decRows at h
  split at h
  · cases ‹_ :: _ = []›
  · rename_i heq;cases heq
    simp only [Option.map_eq_some_iff] at h
    obtain ⟨ys,h1,rfl⟩ := h
    simp only [concL,conc,Option.bind_some,Option.map_eq_some_iff] at hv
    obtain ⟨_,⟨_,⟨zs,hz,rfl⟩,rfl⟩,rfl⟩ := hv
    cases j with
    | zero => cases hj;rfl
    | succ j => rw [show (j + 1) * 3 = j * 3 + 3 by omega];exact decRows_eq h1 hz j p (by simpa using hj)
  · cases h
def decNoz : List AV → Option (List S64)
 | [] => some []
 | .int .i64 a :: .int .i64 b :: l => (decNoz l).map (⟨a,b⟩ :: ·)
 | _ => none
theorem decNoz_eq : ∀ {cs : List AV} {xs : List S64} {e : Env} {vs : List Value},decNoz cs = some xs → concL e cs = some vs → ∀ (j : Nat) p,xs[j]? = some p → (vs.drop (j * 2)).take 2 = [.int .i64 p.f0,.int .i64 p.f1]
 | [],_,e,vs,h,hv,j,p,hj => by cases h;simp at hj
 | a :: l,xs,e,vs,h,hv,j,p,hj => by
  unfold decNoz at h
  split at h
  · cases ‹_ :: _ = []›
  · rename_i heq;cases heq
    simp only [Option.map_eq_some_iff] at h
    obtain ⟨ys,h1,rfl⟩ := h
    simp only [concL,conc,Option.bind_some,Option.map_eq_some_iff] at hv
    obtain ⟨_,⟨zs,hz,rfl⟩,rfl⟩ := hv
    cases j with
    | zero => cases hj;rfl
    | succ j => rw [show (j + 1) * 2 = j * 2 + 2 by omega];exact decNoz_eq h1 hz j p (by simpa using hj)
  · cases h
noncomputable def rdRows : St → AV → Option (List S126) := rdG 3 decRows
noncomputable def rdNoz : St → AV → Option (List S64) := rdG 2 decNoz
theorem rdRows_ok {e : Env} {s : St} {w : World} (hs : Sim e s w) {v : AV} {xs : List S126} {x : Value} (h : rdRows s v = some xs) (hx : conc e v = some x) : ∃ A c,x = .slice A xs.length c ∧ xs.length ≤ c ∧ Kd.C k126 w A xs.length xs :=
 rdG_ok (d := k126) hs (by show 0 < 3;omega) (fun cs xs vs h1 h2 j p hj => by
  show k126.K w p ((vs.drop (j * 3)).take 3)
  rw [decRows_eq h1 h2 j p hj];exact k126_mk w p) h hx
theorem rdNoz_ok {e : Env} {s : St} {w : World} (hs : Sim e s w) {v : AV} {xs : List S64} {x : Value} (h : rdNoz s v = some xs) (hx : conc e v = some x) : ∃ A c,x = .slice A xs.length c ∧ xs.length ≤ c ∧ Kd.C k64 w A xs.length xs :=
 rdG_ok (d := k64) hs (by show 0 < 2;omega) (fun cs xs vs h1 h2 j p hj => by
  show k64.K w p ((vs.drop (j * 2)).take 2)
  rw [decNoz_eq h1 h2 j p hj];exact k64_mk w p) h hx
noncomputable def fillG (args : List AV) (s : St) : Option (Rt × St) :=
 match args with
 | [.agg [t,.int .i64 d,z,.int .i64 wr,.int .i64 sp]] => (rdRows s t).bind fun rs => (rdNoz s z).bind fun zs => (ca_fill.f 400 rs d zs wr sp).bind fun r =>
  if r.2.2.2.all (fun l => !l.isEmpty) && !r.2.2.2.isEmpty then
   some (.ret (.agg [t,.int .i64 r.1,z,.int .i64 r.2.1,.int .i64 r.2.2.1,.opn (s.next + r.2.2.2.length) r.2.2.2.length]),(addInts 3 r.2.2.2 s).2.add (.ro 30 (some 1) (addInts 3 r.2.2.2 s).1))
  else none
 | _ => none
noncomputable def levelG (args : List AV) (s : St) : Option (Rt × St) :=
 match args with
 | [.agg [t,.int .i64 d,z,.int .i64 wr,.int .i64 sp,g],.int .i64 c] => (rdRows s t).bind fun rs => (rdNoz s z).bind fun zs => (rdLists s g).bind fun gs => (gf_level.f rs d zs wr sp gs c).bind fun r => some (.ret (.int .i64 r),s)
 | _ => none
noncomputable def sharesG (args : List AV) (s : St) : Option (Rt × St) :=
 match args with
 | [.agg [t,.int .i64 d,z,.int .i64 wr,.int .i64 sp,g],.int .i64 c] => (rdRows s t).bind fun rs => (rdNoz s z).bind fun zs => (rdLists s g).bind fun gs => (gf_shares.f 400 rs d zs wr sp gs c).bind fun r =>
  if r.1.isEmpty then none else some (.ret (.tup [.opn s.next r.1.length,.int .i64 r.2]),s.add (.cells 3 (some 1) (r.1.map (.int .i64))))
 | _ => none
noncomputable def castleHook : Hook := fun f => if Nat.beq f 59 then some fillG else if Nat.beq f 67 then some levelG else if Nat.beq f 60 then some sharesG else none
theorem fillG_ok {args : List AV} {s : St} {r : Rt} {s' : St} (h : fillG args s = some (r,s')) {e : Env} {w : World} (hs : Sim e s w) (hf : Free e s.next s'.next) {xs : List Value} (hxs : concL e args = some xs) (c : Frame) (cs : List Frame) :
 ∃ e' w',Sim e' s' w' ∧ Goes e s w e' s' w' ∧ EndsAt Tryz.prog (lone (Frame.enter Tryz.prog 59 xs.toArray .normal) (c :: cs) w) c cs e' r w' := by
 unfold fillG at h
 split at h
 case h_2 => cases h
 rename_i t d z wr sp
 simp only [Option.bind_eq_some_iff] at h
 obtain ⟨rs,hrs,zs,hzs,⟨r1,r2,r3,r4⟩,hr,h⟩ := h
 split at h
 case isFalse => cases h
 rename_i hne
 simp only [Bool.and_eq_true,Bool.not_eq_true',List.all_eq_true,List.isEmpty_eq_false_iff] at hne
 obtain ⟨hne1,hne2⟩ := hne
 cases h
 simp only [concL,conc,Option.bind_eq_some_iff,Option.map_eq_some_iff,Option.some.injEq] at hxs
 obtain ⟨_,⟨_,⟨xt,hxt,_,⟨_,rfl,_,⟨xz,hxz,_,⟨_,rfl,_,⟨_,rfl,_,rfl,rfl⟩,rfl⟩,rfl⟩,rfl⟩,rfl⟩,rfl⟩,_,rfl,rfl⟩ := hxs
 obtain ⟨A0,c0,rfl,hc0,hC0⟩ := rdRows_ok hs hrs hxt
 obtain ⟨A2,c2,rfl,hc2,hC2⟩ := rdNoz_ok hs hzs hxz
 obtain ⟨en,w',⟨v3,rfl,hS,hB⟩,hst⟩ := endsC (ca_fill.calls 400 A0 c0 rs d A2 c2 zs wr sp r1 r2 r3 r4 w hC0 hc0 hC2 hc2 hr) c cs
 obtain ⟨hg1,hg2⟩ := grow hs hB
 obtain ⟨_,inner,ho,hrep⟩ := Kd.S_R hS
 obtain ⟨ho1,ho2⟩ := ho
 rcases ho2 with ⟨_,ho2⟩ | ⟨g,cap,cur,rfl,o1,o2,o3,o4,o5,o6⟩
 · exact absurd (List.length_eq_zero_iff.1 ho2) hne2
 have hsz : (Kd.slice 3 (Kd.int .i64)).sz = 1 := rfl
 rw [hsz] at ho1 o5 o6
 have hfree : Free e s.next (s.next + r4.length + 1) := fun n a b => hf n a (by simp only [St.add,addInts_next];exact b)
 obtain ⟨e1,p1,p2,p3,p4,p5,p6⟩ := addInts_ok (t := 3) (ok := fun k => True ∧ some k ≠ (Value.slice (some ⟨g,0,none⟩) r4.length cap).ownBlock) (l := r4) (vs := inner) hg2 hg1 (fun n x b q hx hr he => rwBelow hs n x b q hx hr he) (fun n a b => hfree n a (Nat.lt_succ_of_lt b)) (by rw [ho1];omega)
  (fun j ys hj => by
   obtain ⟨v,hv1,hv2⟩ := hrep.2 j ys hj
   refine ⟨hne1 ys (List.mem_of_getElem? hj),v,?_,hv2⟩
   have : ((inner.drop (j * 1)).take 1)[0]? = some v := by rw [show (inner.drop (j * 1)).take 1 = [v] from hv1];rfl
   rw [List.getElem?_take,if_pos (by omega),List.getElem?_drop] at this
   simpa using this)
 have hn1 : (addInts 3 r4 s).2.next = s.next + r4.length := addInts_next ..
 have hfr1 : e1 (addInts 3 r4 s).2.next = none := by
  rw [hn1];exact p6 _ (Nat.le_refl _) (hfree _ (by omega) (by omega))
 have hob : w'.heap[g]? = some (.cells (inner ++ cur.toList.drop (r4.length * 1)).toArray 30 (0,0)) := by
  rw [o2,← o6,List.take_append_drop]
 obtain ⟨q1,q2,_⟩ := addAt (q := cap) (blk := .ro 30 (some 1) (addInts 3 r4 s).1) p1 p2 p3 hfr1 o1 (Array.getElem?_eq_some_iff.1 o2).1 (.inl fun z => z) hob
  ⟨_,_,concL_le (Env.le_upd _ hfr1) _ _ p5,rfl,fun m hm => by cases hm;rw [← o6,List.take_append_drop,Array.length_toList];exact o5⟩
 refine ⟨_,w',q1,q2,?_⟩
 have hle := p4.trans (Env.le_upd (g,cap) hfr1)
 have hup : (e1.upd (addInts 3 r4 s).2.next (g,cap)) (s.next + r4.length) = some (g,cap) := by rw [← hn1];exact Env.upd_self ..
 refine ⟨_,?_,hst _ rfl⟩
 simp only [conc,concL,conc_le hle _ _ hxt,conc_le hle _ _ hxz,hup,Option.map_some,Option.bind_some]
theorem levelG_ok {args : List AV} {s : St} {r : Rt} {s' : St} (h : levelG args s = some (r,s')) {e : Env} {w : World} (hs : Sim e s w) (hf : Free e s.next s'.next) {xs : List Value} (hxs : concL e args = some xs) (c : Frame) (cs : List Frame) :
 ∃ e' w',Sim e' s' w' ∧ Goes e s w e' s' w' ∧ EndsAt Tryz.prog (lone (Frame.enter Tryz.prog 67 xs.toArray .normal) (c :: cs) w) c cs e' r w' := by
 unfold levelG at h
 split at h
 case h_2 => cases h
 rename_i t d z wr sp gv cc
 simp only [Option.bind_eq_some_iff] at h
 obtain ⟨rs,hrs,zs,hzs,gs,hgs,rr,hr,h⟩ := h
 cases h
 simp only [concL,conc,Option.bind_eq_some_iff,Option.map_eq_some_iff,Option.some.injEq] at hxs
 obtain ⟨_,⟨_,⟨xt,hxt,_,⟨_,rfl,_,⟨xz,hxz,_,⟨_,rfl,_,⟨_,rfl,_,⟨xg,hxg,_,rfl,rfl⟩,rfl⟩,rfl⟩,rfl⟩,rfl⟩,rfl⟩,rfl⟩,_,⟨_,rfl,_,rfl,rfl⟩,rfl⟩ := hxs
 obtain ⟨A0,c0,rfl,hc0,hC0⟩ := rdRows_ok hs hrs hxt
 obtain ⟨A2,c2,rfl,hc2,hC2⟩ := rdNoz_ok hs hzs hxz
 obtain ⟨A5,c5,rfl,hc5,hC5⟩ := rdLists_ok hs hgs hxg
 obtain ⟨en,w',⟨rfl,hB⟩,hst⟩ := endsC (gf_level.calls A0 c0 rs d A2 c2 zs wr sp A5 c5 gs cc rr w hC0 hc0 hC2 hc2 hC5 hc5 hr) c cs
 obtain ⟨hg1,hg2⟩ := grow hs hB
 exact ⟨e,w',hg1,hg2,_,rfl,hst _ rfl⟩
theorem sharesG_ok {args : List AV} {s : St} {r : Rt} {s' : St} (h : sharesG args s = some (r,s')) {e : Env} {w : World} (hs : Sim e s w) (hf : Free e s.next s'.next) {xs : List Value} (hxs : concL e args = some xs) (c : Frame) (cs : List Frame) :
 ∃ e' w',Sim e' s' w' ∧ Goes e s w e' s' w' ∧ EndsAt Tryz.prog (lone (Frame.enter Tryz.prog 60 xs.toArray .normal) (c :: cs) w) c cs e' r w' := by
 unfold sharesG at h
 split at h
 case h_2 => cases h
 rename_i t d z wr sp gv cc
 simp only [Option.bind_eq_some_iff] at h
 obtain ⟨rs,hrs,zs,hzs,gs,hgs,⟨r1,r2⟩,hr,h⟩ := h
 split at h
 case isTrue => cases h
 rename_i hne
 have hne : r1 ≠ [] := fun e0 => hne (by simp only [e0,List.isEmpty_nil])
 cases h
 simp only [concL,conc,Option.bind_eq_some_iff,Option.map_eq_some_iff,Option.some.injEq] at hxs
 obtain ⟨_,⟨_,⟨xt,hxt,_,⟨_,rfl,_,⟨xz,hxz,_,⟨_,rfl,_,⟨_,rfl,_,⟨xg,hxg,_,rfl,rfl⟩,rfl⟩,rfl⟩,rfl⟩,rfl⟩,rfl⟩,rfl⟩,_,⟨_,rfl,_,rfl,rfl⟩,rfl⟩ := hxs
 obtain ⟨A0,c0,rfl,hc0,hC0⟩ := rdRows_ok hs hrs hxt
 obtain ⟨A2,c2,rfl,hc2,hC2⟩ := rdNoz_ok hs hzs hxz
 obtain ⟨A5,c5,rfl,hc5,hC5⟩ := rdLists_ok hs hgs hxg
 obtain ⟨en,w',⟨v0,rfl,hR,hB⟩,hst⟩ := endsC (gf_shares.calls 400 A0 c0 rs d A2 c2 zs wr sp A5 c5 gs cc r1 r2 w hC0 hc0 hC2 hc2 hC5 hc5 hr) c cs
 obtain ⟨hg1,hg2⟩ := grow hs hB
 obtain ⟨g,cap,rest,rfl,h1,h2,h3,h4⟩ := row_of (d := Kd.int .i64) (n := 0) hR hne
 have hfree : e s.next = none := hf _ (Nat.le_refl _) (by simp only [St.add];omega)
 obtain ⟨q1,q2,_⟩ := addAt (q := cap) (blk := .cells 3 (some 1) (r1.map (.int .i64))) hg2 hg1 (fun n x b q hx hr he => rwBelow hs n x b q hx hr he) hfree h1 h2
  (.inr fun n x q _ he => absurd (hs.bound n g q he) (by omega)) h3 ⟨_,rest,concL_ints _ r1,rfl,h4⟩
 refine ⟨_,w',q1,q2,_,?_,hst _ rfl⟩
 simp only [conc,concL,Env.upd_self,Option.map_some,Option.bind_some]
theorem castleHook_ok : HookOk Tryz.prog castleHook := by
 intro f g hg args s r s' h e w hs hf xs hxs c cs
 unfold castleHook at hg
 split at hg
 · rename_i hb;cases hg;cases Nat.eq_of_beq_eq_true hb;exact fillG_ok h hs hf hxs c cs
 · split at hg
   · rename_i hb;cases hg;cases Nat.eq_of_beq_eq_true hb;exact levelG_ok h hs hf hxs c cs
   · split at hg
     · rename_i hb;cases hg;cases Nat.eq_of_beq_eq_true hb;exact sharesG_ok h hs hf hxs c cs
     · cases hg
end Go.Proofs.YticlelgmmonloaaGreatDoor.C
namespace Go.Proofs.YticlelgmmonloaaGreatDoor.C
open Go Go.Abs Go.RowKit
set_option linter.unusedVariables false
set_option linter.unusedSimpArgs false
set_option maxHeartbeats 16000000
set_option maxRecDepth 100000
abbrev I (n : Int) : AV := .int .i64 n
abbrev U : AV := .tup []
abbrev L {α : Type} : T4 α := .leaf
abbrev N {α : Type} (v : α) (a b c d : T4 α) : T4 α := .node v a b c d
abbrev N0 {α : Type} (v : α) : T4 α := .node v .leaf .leaf .leaf .leaf
abbrev N1 {α : Type} (v : α) (a : T4 α) : T4 α := .node v a .leaf .leaf .leaf
abbrev N2 {α : Type} (v : α) (a : T4 α) : T4 α := .node v .leaf a .leaf .leaf
abbrev N3 {α : Type} (v : α) (a : T4 α) : T4 α := .node v .leaf .leaf a .leaf
abbrev N4 {α : Type} (v : α) (a : T4 α) : T4 α := .node v .leaf .leaf .leaf a
noncomputable def knownCall : CallF := fCall Tryz.prog Go.Proofs.YticlelgmmonloaaGreatDoor.C.castleHook 100000 60
noncomputable def kt0 : FT := ofL []
noncomputable def kg0 : Sg := sgOf ⟨.leaf,0,[]⟩
noncomputable def kt1 : FT := (N U (N U L (N (.ptr 318 0) (N0 (I 0)) L L L) (N (.ptr 175 0) (N0 (I 0)) L L L) (N0 (.opn 36 3))) (N U (N0 (I 1)) (N1 U (N0 (I 0))) (N (I 3) (N0 (.bool false)) L L L) L) (N U (N (.opn 710 3) (N0 (I 0)) L L L) (N (.ptr 244 0) (N0 (I 0)) L L L) (N0 (.opn 114 3)) L) (N U (N (.opn 424 3) (N0 (I 0)) L L L) (N (.opn 243 3) (N0 (I 0)) L L L) (N0 (I 10)) L))
noncomputable def kg1 : Sg := sgOf ⟨(N none (N none (N3 none (N1 none (N0 (some (.cells 126 none [(I 5),(I 4),(I 10),(I 10),(I 8),(I 20),(I 20),(I 15),(I 45)]))))) L (N none L (N2 none (N1 none (N0 (some (.cells 3 none [(I 8),(I 12),(I 12)]))))) (N0 (some (.cells 64 none [(I 0),(I 10),(I 1),(I 10),(I 2),(I 12)]))) L) (N3 none (N4 none (N0 (some (.cells 126 none [(I 5),(I 4),(I 10),(I 10),(I 8),(I 20),(I 20),(I 15),(I 45)])))))) (N (some (.cells 126 none [(I 5),(I 4),(I 10),(I 10),(I 8),(I 20),(I 20),(I 15),(I 45)])) (N none L L (N1 none (N0 (some (.cells 64 none [(I 0),(I 10),(I 1),(I 10),(I 2),(I 12)])))) (N2 none (N2 none (N0 (some (.cells 3 (some 1) [(I 10),(I 11),(I 12)])))))) L (N3 none (N4 none (N0 (some (.cells 40 none [(I 27),(I 56)]))))) (N none L (N none (N0 (some (.cells 3 (some 1) [(I 10),(I 20),(I 45)]))) (N0 (some (.cells 126 none [(I 5),(I 4),(I 10),(I 10),(I 8),(I 20),(I 20),(I 15),(I 45)]))) L L) (N4 none (N0 (some (.cells 64 none [(I 0),(I 10),(I 1),(I 10),(I 2),(I 12)])))) L)) (N (some (.cells 64 none [(I 0),(I 10),(I 1),(I 10),(I 2),(I 12)])) (N3 none (N3 none (N0 (some (.cells 126 none [(I 5),(I 4),(I 10),(I 10),(I 8),(I 20),(I 20),(I 15),(I 45)]))))) (N2 none (N2 none (N1 none (N0 (some (.cells 126 none [(I 5),(I 4),(I 10),(I 10),(I 8),(I 20),(I 20),(I 15),(I 45)])))))) (N2 none (N2 none (N0 (some (.cells 40 none [(I 13),(I 15)]))))) (N2 none (N none L (N0 (some (.cells 64 none [(I 0),(I 10),(I 1),(I 10),(I 2),(I 12)]))) (N0 (some (.cells 40 (some 2) [(I 8),(I 10),(I 13),(I 20),(I 9),(I 30)]))) L))) (N none (N none L (N2 none (N1 none (N0 (some (.cells 3 (some 1) [(I (-4)),(I (-5)),(I 9)]))))) (N3 none (N0 (some (.cells 64 none [(I 0),(I 10),(I 1),(I 10),(I 2),(I 12)])))) L) (N none L (N2 none (N1 none (N0 (some (.cells 64 none [(I 0),(I 10),(I 1),(I 10),(I 2),(I 12)]))))) (N0 (some (.cells 126 none [(I 5),(I 4),(I 10),(I 10),(I 8),(I 20),(I 20),(I 15),(I 45)]))) L) L (N none (N0 (some (.ro 3 (some 1) [(I 10),(I 20),(I 45)]))) (N3 none (N0 (some (.cells 40 none [(I 0),(I 0)])))) L L))),758,[710,429,428,427,424,322,321,318,318,248,247,244,244,243,179,178,175,175,118,117,114,61,60,36,3,2]⟩
noncomputable def kt2 : FT := (N U (N U (N0 (.opn 5340 2)) (N (.ptr 318 0) (N0 (I 0)) L L L) (N (.ptr 175 0) (N0 (I 0)) L L L) (N0 (.opn 36 3))) (N U (N (I 1) (N0 (I 0)) L L L) (N1 U (N0 (I 0))) (N (I 3) (N0 (.bool false)) L L L) L) (N U (N (.opn 710 3) (N0 (I 0)) L L L) (N (.ptr 244 0) (N0 (I 0)) L L L) (N0 (.opn 114 3)) L) (N U (N (.opn 424 3) (N0 (I 0)) L L L) (N (.opn 243 3) (N0 (I 0)) L L L) (N0 (I 10)) L))
noncomputable def kg2 : Sg := sgOf ⟨(N none (N none (N3 none (N1 none (N0 (some (.cells 126 none [(I 5),(I 4),(I 10),(I 10),(I 8),(I 20),(I 20),(I 15),(I 45)]))))) (N3 none (N3 none (N2 none (N0 (some (.cells 64 none [(I 0),(I 10),(I 1),(I 10),(I 2),(I 12)])))))) (N none L (N2 none (N1 none (N0 (some (.cells 3 none [(I 8),(I 12),(I 12)]))))) (N0 (some (.cells 64 none [(I 0),(I 10),(I 1),(I 10),(I 2),(I 12)]))) L) (N3 none (N4 none (N0 (some (.cells 126 none [(I 5),(I 4),(I 10),(I 10),(I 8),(I 20),(I 20),(I 15),(I 45)])))))) (N (some (.cells 126 none [(I 5),(I 4),(I 10),(I 10),(I 8),(I 20),(I 20),(I 15),(I 45)])) (N none L L (N1 none (N0 (some (.cells 64 none [(I 0),(I 10),(I 1),(I 10),(I 2),(I 12)])))) (N2 none (N2 none (N0 (some (.cells 3 (some 1) [(I 10),(I 11),(I 12)])))))) (N3 none (N3 none (N2 none (N0 (some (.cells 40 none [(I 4),(I 4),(I 8),(I 8),(I 18),(I 18)])))))) (N3 none (N4 none (N0 (some (.cells 40 none [(I 27),(I 56)]))))) (N none L (N none (N0 (some (.cells 3 (some 1) [(I 10),(I 20),(I 45)]))) (N0 (some (.cells 126 none [(I 5),(I 4),(I 10),(I 10),(I 8),(I 20),(I 20),(I 15),(I 45)]))) L L) (N4 none (N0 (some (.cells 64 none [(I 0),(I 10),(I 1),(I 10),(I 2),(I 12)])))) L)) (N (some (.cells 64 none [(I 0),(I 10),(I 1),(I 10),(I 2),(I 12)])) (N3 none (N3 none (N0 (some (.cells 126 none [(I 5),(I 4),(I 10),(I 10),(I 8),(I 20),(I 20),(I 15),(I 45)]))))) (N2 none (N2 none (N1 none (N0 (some (.cells 126 none [(I 5),(I 4),(I 10),(I 10),(I 8),(I 20),(I 20),(I 15),(I 45)])))))) (N2 none (N2 none (N0 (some (.cells 40 none [(I 13),(I 15)]))))) (N2 none (N none L (N0 (some (.cells 64 none [(I 0),(I 10),(I 1),(I 10),(I 2),(I 12)]))) (N0 (some (.cells 40 (some 2) [(I 8),(I 10),(I 13),(I 20),(I 9),(I 30)]))) L))) (N none (N none L (N2 none (N1 none (N0 (some (.cells 3 (some 1) [(I (-4)),(I (-5)),(I 9)]))))) (N3 none (N (some (.cells 64 none [(I 0),(I 10),(I 1),(I 10),(I 2),(I 12)])) L (N0 (some (.cells 126 none [(I 5),(I 4),(I 10),(I 10),(I 8),(I 20),(I 20),(I 15),(I 45)]))) L L)) L) (N none (N3 none (N4 none (N4 none (N0 (some (.cells 58 (some 2) [(I 2),(I 9),(I 2),(I 10)])))))) (N2 none (N1 none (N0 (some (.cells 64 none [(I 0),(I 10),(I 1),(I 10),(I 2),(I 12)]))))) (N0 (some (.cells 126 none [(I 5),(I 4),(I 10),(I 10),(I 8),(I 20),(I 20),(I 15),(I 45)]))) L) L (N none (N0 (some (.ro 3 (some 1) [(I 10),(I 20),(I 45)]))) (N3 none (N0 (some (.cells 40 none [(I 0),(I 0)])))) L L))),6791,[5340,762,761,760,710,429,428,427,424,322,321,318,318,248,247,244,244,243,179,178,175,175,118,117,114,61,60,36,3,2]⟩
theorem ks0 : ((kcOf Tryz.prog 15).drop 0).seqs 8 = true := by kernel_rfl
theorem kr0 (kx : KX) (k : KT) : warm 1 (runKX 100000 (((kcOf Tryz.prog 15).drop 0).take 8) ⟨Tryz.prog,knownCall,kx⟩ kt0 kg0 k) = k kt1 kg1 := by kernel_rfl
theorem ks1 : ((kcOf Tryz.prog 15).drop 8).seqs 1 = true := by kernel_rfl
theorem kr1 (kx : KX) (k : KT) : warm 12 (runKX 99992 (((kcOf Tryz.prog 15).drop 8).take 1) ⟨Tryz.prog,knownCall,kx⟩ kt1 kg1 k) = k kt2 kg2 := by kernel_rfl
theorem klast : okTrue (warm 107 (from_ Tryz.prog knownCall 15 9 99991 kt2 kg2)) = true := by kernel_rfl
theorem known_run : okTrue (runF Tryz.prog Go.Proofs.YticlelgmmonloaaGreatDoor.C.castleHook 100000 60 15 []) = true := by
 rw [runF_from]
 rw [show from_ Tryz.prog (fCall Tryz.prog Go.Proofs.YticlelgmmonloaaGreatDoor.C.castleHook 100000 60) 15 0 100000 (ofL []) (sgOf ⟨.leaf,0,[]⟩) = from_ Tryz.prog knownCall 15 0 100000 kt0 kg0 from rfl]
 rw [show from_ Tryz.prog knownCall 15 0 100000 kt0 kg0 = from_ Tryz.prog knownCall 15 8 99992 kt1 kg1 from from_step (K := 99991) (m := 8) ks0 fun kx k => (warm_eq 1 _).symm.trans (kr0 kx k)]
 rw [show from_ Tryz.prog knownCall 15 8 99992 kt1 kg1 = from_ Tryz.prog knownCall 15 9 99991 kt2 kg2 from from_step (K := 99990) (m := 1) ks1 fun kx k => (warm_eq 12 _).symm.trans (kr1 kx k)]
 exact (congrArg okTrue (warm_eq 107 _)).symm.trans klast
end Go.Proofs.YticlelgmmonloaaGreatDoor.C
namespace Go.Proofs.YticlelgmmonloaaGreatDoor.C
open Go Go.RowKit Go.Abs
set_option linter.unusedVariables false
set_option linter.unusedSimpArgs false
set_option maxHeartbeats 16000000
set_option maxRecDepth 100000
def l4_known.f : Option Bool := some true
theorem l4_known.calls (r : Bool) (w : World) (h : l4_known.f = some r) : Calls Tryz.prog 15 #[] w fun e w' => e = .returned (.bool r) ∧ Below w.heap.size w w' := by
 cases h
 exact calls_true castleHook_ok known_run w
theorem known_true : l4_known.f = some true := rfl
end Go.Proofs.YticlelgmmonloaaGreatDoor.C

/- A part of the proof: the walks of the functions that it reaches. TIGHT. -/
import Derived.Test.YtnnmnhpeblhiiaaGreatDoorMV10
import Derived.Lib.Hide
import Derived.WideKeyRuns
import Derived.BigQuiet
import Derived.Laws.EntriesVeiled
import Derived.Lib.ConvBytes
import Derived.Laws.BytesString
set_option linter.unusedVariables false
set_option linter.unusedSimpArgs false
namespace Go.Proofs.YtnnmnhpeblhiiaaGreatDoor.C
open Go.RowKit Go.Abs Go.Proofs.YtnnmnhpeblhiiaaGreatDoorW.PrintWords Go.Proofs.YtnnmnhpeblhiiaaGreatDoorW.PrintLast Go.Proofs.YtnnmnhpeblhiiaaGreatDoorW.PrintMore
set_option linter.unusedVariables false
set_option linter.unusedSimpArgs false
set_option maxHeartbeats 16000000
set_option maxRecDepth 100000
def decRows : List AV→Option (List S126)
 | []=>some []
 | .int .i64 a :: .int .i64 b :: .int .i64 c :: l=>(decRows l).map (⟨a,b,c⟩ :: ·)
 | _=>none
theorem decRows_eq : ∀ {cs : List AV} {xs : List S126} {e : Env} {vs : List Value},decRows cs = some xs→concL e cs = some vs→∀ (j : Nat) p,xs[j]? = some p→(vs.drop (j * 3)).take 3 = [.int .i64 p.f0,.int .i64 p.f1,.int .i64 p.f2]
 | [],_,e,vs,h,hv,j,p,hj=>by cases h;simp at hj
 | a :: l,xs,e,vs,h,hv,j,p,hj=>by
  unfold decRows at h
  split at h
  ·cases ‹_ :: _ = []›
  ·rename_i heq;cases heq
   simp only [Option.map_eq_some_iff] at h
   obtain ⟨ys,h1,rfl⟩:=h
   simp only [concL,conc,Option.bind_some,Option.map_eq_some_iff] at hv
   obtain ⟨_,⟨_,⟨zs,hz,rfl⟩,rfl⟩,rfl⟩:=hv
   cases j with
   | zero=>cases hj;rfl
   | succ j=>rw [show (j + 1) * 3 = j * 3 + 3 by omega];exact decRows_eq h1 hz j p (by simpa using hj)
  ·cases h
def decNoz : List AV→Option (List S48)
 | []=>some []
 | .int .i64 a :: .int .i64 b :: l=>(decNoz l).map (⟨a,b⟩ :: ·)
 | _=>none
theorem decNoz_eq : ∀ {cs : List AV} {xs : List S48} {e : Env} {vs : List Value},decNoz cs = some xs→concL e cs = some vs→∀ (j : Nat) p,xs[j]? = some p→(vs.drop (j * 2)).take 2 = [.int .i64 p.f0,.int .i64 p.f1]
 | [],_,e,vs,h,hv,j,p,hj=>by cases h;simp at hj
 | a :: l,xs,e,vs,h,hv,j,p,hj=>by
  unfold decNoz at h
  split at h
  ·cases ‹_ :: _ = []›
  ·rename_i heq;cases heq
   simp only [Option.map_eq_some_iff] at h
   obtain ⟨ys,h1,rfl⟩:=h
   simp only [concL,conc,Option.bind_some,Option.map_eq_some_iff] at hv
   obtain ⟨_,⟨zs,hz,rfl⟩,rfl⟩:=hv
   cases j with
   | zero=>cases hj;rfl
   | succ j=>rw [show (j + 1) * 2 = j * 2 + 2 by omega];exact decNoz_eq h1 hz j p (by simpa using hj)
  ·cases h
noncomputable def rdRows : St→AV→Option (List S126):=rdG 3 decRows
noncomputable def rdNoz : St→AV→Option (List S48):=rdG 2 decNoz
theorem rdRows_ok {e : Env} {s : St} {w : World} (hs : Sim e s w) {v : AV} {xs : List S126} {x : Value} (h : rdRows s v = some xs) (hx : conc e v = some x) : ∃ A c,x = .slice A xs.length c∧xs.length≤c∧Kd.C k126 w A xs.length xs:=
 rdG_ok (d:=k126) hs (by show 0 < 3;omega) (fun cs xs vs h1 h2 j p hj=>by
  show k126.K w p ((vs.drop (j * 3)).take 3)
  rw [decRows_eq h1 h2 j p hj];exact k126_mk w p) h hx
theorem rdNoz_ok {e : Env} {s : St} {w : World} (hs : Sim e s w) {v : AV} {xs : List S48} {x : Value} (h : rdNoz s v = some xs) (hx : conc e v = some x) : ∃ A c,x = .slice A xs.length c∧xs.length≤c∧Kd.C k48 w A xs.length xs:=
 rdG_ok (d:=k48) hs (by show 0 < 2;omega) (fun cs xs vs h1 h2 j p hj=>by
  show k48.K w p ((vs.drop (j * 2)).take 2)
  rw [decNoz_eq h1 h2 j p hj];exact k48_mk w p) h hx
noncomputable def fillG (args : List AV) (s : St) : Option (Rt × St):=
 match args with
 | [.agg [t,.int .i64 d,z,.int .i64 wr,.int .i64 sp]]=>(rdRows s t).bind fun rs=>(rdNoz s z).bind fun zs=>(ca_fill.f 400 rs d zs wr sp).bind fun r =>
  if r.2.2.2.all (fun l=>!l.isEmpty) && !r.2.2.2.isEmpty then
   some (.ret (.agg [t,.int .i64 r.1,z,.int .i64 r.2.1,.int .i64 r.2.2.1,.opn (s.next + r.2.2.2.length) r.2.2.2.length]),(addInts 3 r.2.2.2 s).2.add (.ro 28 (some 1) (addInts 3 r.2.2.2 s).1))
  else none
 | _=>none
noncomputable def levelG (args : List AV) (s : St) : Option (Rt × St):=
 match args with
 | [.agg [t,.int .i64 d,z,.int .i64 wr,.int .i64 sp,g],.int .i64 c]=>(rdRows s t).bind fun rs=>(rdNoz s z).bind fun zs=>(rdLists s g).bind fun gs=>(gf_level.f rs d zs wr sp gs c).bind fun r=>some (.ret (.int .i64 r),s)
 | _=>none
noncomputable def sharesG (args : List AV) (s : St) : Option (Rt × St):=
 match args with
 | [.agg [t,.int .i64 d,z,.int .i64 wr,.int .i64 sp,g],.int .i64 c]=>(rdRows s t).bind fun rs=>(rdNoz s z).bind fun zs=>(rdLists s g).bind fun gs=>(gf_shares.f 400 rs d zs wr sp gs c).bind fun r =>
  if r.1.isEmpty then none else some (.ret (.tup [.opn s.next r.1.length,.int .i64 r.2]),s.add (.cells 3 (some 1) (r.1.map (.int .i64))))
 | _=>none
noncomputable def castleHook : Hook:=fun f=>if Nat.beq f 69 then some fillG else if Nat.beq f 85 then some levelG else if Nat.beq f 71 then some sharesG else none
theorem fillG_ok {args : List AV} {s : St} {r : Rt} {s' : St} (h : fillG args s = some (r,s')) {e : Env} {w : World} (hs : Sim e s w) (hf : Free e s.next s'.next) {xs : List Value} (hxs : concL e args = some xs) (c : Frame) (cs : List Frame) :
 ∃ e' w',Sim e' s' w'∧Goes e s w e' s' w'∧EndsAt Tryz.prog (lone (Frame.enter Tryz.prog 69 xs.toArray .normal) (c :: cs) w) c cs e' r w':=by
 unfold fillG at h
 split at h
 case h_2=>cases h
 rename_i t d z wr sp
 simp only [Option.bind_eq_some_iff] at h
 obtain ⟨rs,hrs,zs,hzs,⟨r1,r2,r3,r4⟩,hr,h⟩:=h
 split at h
 case isFalse=>cases h
 rename_i hne
 simp only [Bool.and_eq_true,Bool.not_eq_true',List.all_eq_true,List.isEmpty_eq_false_iff] at hne
 obtain ⟨hne1,hne2⟩:=hne
 cases h
 simp only [concL,conc,Option.bind_eq_some_iff,Option.map_eq_some_iff,Option.some.injEq] at hxs
 obtain ⟨_,⟨_,⟨xt,hxt,_,⟨_,rfl,_,⟨xz,hxz,_,⟨_,rfl,_,⟨_,rfl,_,rfl,rfl⟩,rfl⟩,rfl⟩,rfl⟩,rfl⟩,rfl⟩,_,rfl,rfl⟩:=hxs
 obtain ⟨A0,c0,rfl,hc0,hC0⟩:=rdRows_ok hs hrs hxt
 obtain ⟨A2,c2,rfl,hc2,hC2⟩:=rdNoz_ok hs hzs hxz
 obtain ⟨en,w',⟨v3,rfl,hS,hB⟩,hst⟩:=endsC (ca_fill.calls 400 A0 c0 rs d A2 c2 zs wr sp r1 r2 r3 r4 w hC0 hc0 hC2 hc2 hr) c cs
 obtain ⟨hg1,hg2⟩:=grow hs hB
 obtain ⟨_,inner,ho,hrep⟩:=Kd.S_R hS
 obtain ⟨ho1,ho2⟩:=ho
 rcases ho2 with ⟨_,ho2⟩ | ⟨g,cap,cur,rfl,o1,o2,o3,o4,o5,o6⟩
 ·exact absurd (List.length_eq_zero_iff.1 ho2) hne2
 have hsz : (Kd.slice 3 (Kd.int .i64)).sz = 1:=rfl
 rw [hsz] at ho1 o5 o6
 have hfree : Free e s.next (s.next + r4.length + 1):=fun n a b=>hf n a (by simp only [St.add,addInts_next];exact b)
 obtain ⟨e1,p1,p2,p3,p4,p5,p6⟩:=addInts_ok (t:=3) (ok:=fun k=>True∧some k ≠ (Value.slice (some ⟨g,0,none⟩) r4.length cap).ownBlock) (l:=r4) (vs:=inner) hg2 hg1 (fun n x b q hx hr he=>rwBelow hs n x b q hx hr he) (fun n a b=>hfree n a (Nat.lt_succ_of_lt b)) (by rw [ho1];omega)
  (fun j ys hj=>by
   obtain ⟨v,hv1,hv2⟩:=hrep.2 j ys hj
   refine ⟨hne1 ys (List.mem_of_getElem? hj),v,?_,hv2⟩
   have : ((inner.drop (j * 1)).take 1)[0]? = some v:=by rw [show (inner.drop (j * 1)).take 1 = [v] from hv1];rfl
   rw [List.getElem?_take,if_pos (by omega),List.getElem?_drop] at this
   simpa using this)
 have hn1 : (addInts 3 r4 s).2.next = s.next + r4.length:=addInts_next ..
 have hfr1 : e1 (addInts 3 r4 s).2.next = none:=by
  rw [hn1];exact p6 _ (Nat.le_refl _) (hfree _ (by omega) (by omega))
 have hob : w'.heap[g]? = some (.cells (inner ++ cur.toList.drop (r4.length * 1)).toArray 28 (0,0)):=by
  rw [o2,← o6,List.take_append_drop]
 obtain ⟨q1,q2,_⟩:=addAt (q:=cap) (blk:=.ro 28 (some 1) (addInts 3 r4 s).1) p1 p2 p3 hfr1 o1 (Array.getElem?_eq_some_iff.1 o2).1 (.inl fun z=>z) hob
  ⟨_,_,concL_le (Env.le_upd _ hfr1) _ _ p5,rfl,fun m hm=>by cases hm;rw [← o6,List.take_append_drop,Array.length_toList];exact o5⟩
 refine ⟨_,w',q1,q2,?_⟩
 have hle:=p4.trans (Env.le_upd (g,cap) hfr1)
 have hup : (e1.upd (addInts 3 r4 s).2.next (g,cap)) (s.next + r4.length) = some (g,cap):=by rw [← hn1];exact Env.upd_self ..
 refine ⟨_,?_,hst _ rfl⟩
 simp only [conc,concL,conc_le hle _ _ hxt,conc_le hle _ _ hxz,hup,Option.map_some,Option.bind_some]
theorem levelG_ok {args : List AV} {s : St} {r : Rt} {s' : St} (h : levelG args s = some (r,s')) {e : Env} {w : World} (hs : Sim e s w) (hf : Free e s.next s'.next) {xs : List Value} (hxs : concL e args = some xs) (c : Frame) (cs : List Frame) :
 ∃ e' w',Sim e' s' w'∧Goes e s w e' s' w'∧EndsAt Tryz.prog (lone (Frame.enter Tryz.prog 85 xs.toArray .normal) (c :: cs) w) c cs e' r w':=by
 unfold levelG at h
 split at h
 case h_2=>cases h
 rename_i t d z wr sp gv cc
 simp only [Option.bind_eq_some_iff] at h
 obtain ⟨rs,hrs,zs,hzs,gs,hgs,rr,hr,h⟩:=h
 cases h
 simp only [concL,conc,Option.bind_eq_some_iff,Option.map_eq_some_iff,Option.some.injEq] at hxs
 obtain ⟨_,⟨_,⟨xt,hxt,_,⟨_,rfl,_,⟨xz,hxz,_,⟨_,rfl,_,⟨_,rfl,_,⟨xg,hxg,_,rfl,rfl⟩,rfl⟩,rfl⟩,rfl⟩,rfl⟩,rfl⟩,rfl⟩,_,⟨_,rfl,_,rfl,rfl⟩,rfl⟩:=hxs
 obtain ⟨A0,c0,rfl,hc0,hC0⟩:=rdRows_ok hs hrs hxt
 obtain ⟨A2,c2,rfl,hc2,hC2⟩:=rdNoz_ok hs hzs hxz
 obtain ⟨A5,c5,rfl,hc5,hC5⟩:=rdLists_ok hs hgs hxg
 obtain ⟨en,w',⟨rfl,hB⟩,hst⟩:=endsC (gf_level.calls A0 c0 rs d A2 c2 zs wr sp A5 c5 gs cc rr w hC0 hc0 hC2 hc2 hC5 hc5 hr) c cs
 obtain ⟨hg1,hg2⟩:=grow hs hB
 exact ⟨e,w',hg1,hg2,_,rfl,hst _ rfl⟩
theorem sharesG_ok {args : List AV} {s : St} {r : Rt} {s' : St} (h : sharesG args s = some (r,s')) {e : Env} {w : World} (hs : Sim e s w) (hf : Free e s.next s'.next) {xs : List Value} (hxs : concL e args = some xs) (c : Frame) (cs : List Frame) :
 ∃ e' w',Sim e' s' w'∧Goes e s w e' s' w'∧EndsAt Tryz.prog (lone (Frame.enter Tryz.prog 71 xs.toArray .normal) (c :: cs) w) c cs e' r w':=by
 unfold sharesG at h
 split at h
 case h_2=>cases h
 rename_i t d z wr sp gv cc
 simp only [Option.bind_eq_some_iff] at h
 obtain ⟨rs,hrs,zs,hzs,gs,hgs,⟨r1,r2⟩,hr,h⟩:=h
 split at h
 case isTrue=>cases h
 rename_i hne
 have hne : r1 ≠ []:=fun e0=>hne (by simp only [e0,List.isEmpty_nil])
 cases h
 simp only [concL,conc,Option.bind_eq_some_iff,Option.map_eq_some_iff,Option.some.injEq] at hxs
 obtain ⟨_,⟨_,⟨xt,hxt,_,⟨_,rfl,_,⟨xz,hxz,_,⟨_,rfl,_,⟨_,rfl,_,⟨xg,hxg,_,rfl,rfl⟩,rfl⟩,rfl⟩,rfl⟩,rfl⟩,rfl⟩,rfl⟩,_,⟨_,rfl,_,rfl,rfl⟩,rfl⟩:=hxs
 obtain ⟨A0,c0,rfl,hc0,hC0⟩:=rdRows_ok hs hrs hxt
 obtain ⟨A2,c2,rfl,hc2,hC2⟩:=rdNoz_ok hs hzs hxz
 obtain ⟨A5,c5,rfl,hc5,hC5⟩:=rdLists_ok hs hgs hxg
 obtain ⟨en,w',⟨v0,rfl,hR,hB⟩,hst⟩:=endsC (gf_shares.calls 400 A0 c0 rs d A2 c2 zs wr sp A5 c5 gs cc r1 r2 w hC0 hc0 hC2 hc2 hC5 hc5 hr) c cs
 obtain ⟨hg1,hg2⟩:=grow hs hB
 obtain ⟨g,cap,rest,rfl,h1,h2,h3,h4⟩:=row_of (d:=Kd.int .i64) (n:=0) hR hne
 have hfree : e s.next = none:=hf _ (Nat.le_refl _) (by simp only [St.add];omega)
 obtain ⟨q1,q2,_⟩:=addAt (q:=cap) (blk:=.cells 3 (some 1) (r1.map (.int .i64))) hg2 hg1 (fun n x b q hx hr he=>rwBelow hs n x b q hx hr he) hfree h1 h2
  (.inr fun n x q _ he=>absurd (hs.bound n g q he) (by omega)) h3 ⟨_,rest,concL_ints _ r1,rfl,h4⟩
 refine ⟨_,w',q1,q2,_,?_,hst _ rfl⟩
 simp only [conc,concL,Env.upd_self,Option.map_some,Option.bind_some]
theorem castleHook_ok : HookOk Tryz.prog castleHook:=by
 intro f g hg args s r s' h e w hs hf xs hxs c cs
 unfold castleHook at hg
 split at hg
 ·rename_i hb;cases hg;cases Nat.eq_of_beq_eq_true hb;exact fillG_ok h hs hf hxs c cs
 ·split at hg
  ·rename_i hb;cases hg;cases Nat.eq_of_beq_eq_true hb;exact levelG_ok h hs hf hxs c cs
  ·split at hg
   ·rename_i hb;cases hg;cases Nat.eq_of_beq_eq_true hb;exact sharesG_ok h hs hf hxs c cs
   ·cases hg
end Go.Proofs.YtnnmnhpeblhiiaaGreatDoor.C
namespace Go.Proofs.YtnnmnhpeblhiiaaGreatDoor.C
open Go Go.Abs Go.RowKit
set_option linter.unusedVariables false
set_option linter.unusedSimpArgs false
set_option maxHeartbeats 16000000
set_option maxRecDepth 100000
abbrev I (n : Int) : AV:=.int .i64 n
abbrev U : AV:=.tup []
abbrev L {α : Type} : T4 α:=.leaf
abbrev N {α : Type} (v : α) (a b c d : T4 α) : T4 α:=.node v a b c d
abbrev N0 {α : Type} (v : α) : T4 α:=.node v .leaf .leaf .leaf .leaf
abbrev N1 {α : Type} (v : α) (a : T4 α) : T4 α:=.node v a .leaf .leaf .leaf
abbrev N2 {α : Type} (v : α) (a : T4 α) : T4 α:=.node v .leaf a .leaf .leaf
abbrev N3 {α : Type} (v : α) (a : T4 α) : T4 α:=.node v .leaf .leaf a .leaf
abbrev N4 {α : Type} (v : α) (a : T4 α) : T4 α:=.node v .leaf .leaf .leaf a
noncomputable def knownCall : CallF:=fCall Tryz.prog Go.Proofs.YtnnmnhpeblhiiaaGreatDoor.C.castleHook 100000 60
noncomputable def kt0 : FT:=ofL []
noncomputable def kg0 : Sg:=sgOf ⟨.leaf,0,[]⟩
noncomputable def kt1 : FT:=(N U (N U L (N (.ptr 318 0) (N0 (I 0)) L L L) (N (.ptr 175 0) (N0 (I 0)) L L L) (N0 (.opn 36 3))) (N U (N0 (I 1)) (N1 U (N0 (I 0))) (N (I 3) (N0 (.bool false)) L L L) L) (N U (N (.opn 710 3) (N0 (I 0)) L L L) (N (.ptr 244 0) (N0 (I 0)) L L L) (N0 (.opn 114 3)) L) (N U (N (.opn 424 3) (N0 (I 0)) L L L) (N (.opn 243 3) (N0 (I 0)) L L L) (N0 (I 10)) L))
noncomputable def kg1 : Sg:=sgOf ⟨(N none (N none (N3 none (N1 none (N0 (some (.cells 126 none [(I 5),(I 4),(I 10),(I 10),(I 8),(I 20),(I 20),(I 15),(I 45)]))))) L (N none L (N2 none (N1 none (N0 (some (.cells 3 none [(I 8),(I 12),(I 12)]))))) (N0 (some (.cells 48 none [(I 0),(I 10),(I 1),(I 10),(I 2),(I 12)]))) L) (N3 none (N4 none (N0 (some (.cells 126 none [(I 5),(I 4),(I 10),(I 10),(I 8),(I 20),(I 20),(I 15),(I 45)])))))) (N (some (.cells 126 none [(I 5),(I 4),(I 10),(I 10),(I 8),(I 20),(I 20),(I 15),(I 45)])) (N none L L (N1 none (N0 (some (.cells 48 none [(I 0),(I 10),(I 1),(I 10),(I 2),(I 12)])))) (N2 none (N2 none (N0 (some (.cells 3 (some 1) [(I 10),(I 11),(I 12)])))))) L (N3 none (N4 none (N0 (some (.cells 54 none [(I 27),(I 56)]))))) (N none L (N none (N0 (some (.cells 3 (some 1) [(I 10),(I 20),(I 45)]))) (N0 (some (.cells 126 none [(I 5),(I 4),(I 10),(I 10),(I 8),(I 20),(I 20),(I 15),(I 45)]))) L L) (N4 none (N0 (some (.cells 48 none [(I 0),(I 10),(I 1),(I 10),(I 2),(I 12)])))) L)) (N (some (.cells 48 none [(I 0),(I 10),(I 1),(I 10),(I 2),(I 12)])) (N3 none (N3 none (N0 (some (.cells 126 none [(I 5),(I 4),(I 10),(I 10),(I 8),(I 20),(I 20),(I 15),(I 45)]))))) (N2 none (N2 none (N1 none (N0 (some (.cells 126 none [(I 5),(I 4),(I 10),(I 10),(I 8),(I 20),(I 20),(I 15),(I 45)])))))) (N2 none (N2 none (N0 (some (.cells 54 none [(I 13),(I 15)]))))) (N2 none (N none L (N0 (some (.cells 48 none [(I 0),(I 10),(I 1),(I 10),(I 2),(I 12)]))) (N0 (some (.cells 54 (some 2) [(I 8),(I 10),(I 13),(I 20),(I 9),(I 30)]))) L))) (N none (N none L (N2 none (N1 none (N0 (some (.cells 3 (some 1) [(I (-4)),(I (-5)),(I 9)]))))) (N3 none (N0 (some (.cells 48 none [(I 0),(I 10),(I 1),(I 10),(I 2),(I 12)])))) L) (N none L (N2 none (N1 none (N0 (some (.cells 48 none [(I 0),(I 10),(I 1),(I 10),(I 2),(I 12)]))))) (N0 (some (.cells 126 none [(I 5),(I 4),(I 10),(I 10),(I 8),(I 20),(I 20),(I 15),(I 45)]))) L) L (N none (N0 (some (.ro 3 (some 1) [(I 10),(I 20),(I 45)]))) (N3 none (N0 (some (.cells 54 none [(I 0),(I 0)])))) L L))),758,[710,429,428,427,424,322,321,318,318,248,247,244,244,243,179,178,175,175,118,117,114,61,60,36,3,2]⟩
noncomputable def kt2 : FT:=(N U (N U (N0 (.opn 5340 2)) (N (.ptr 318 0) (N0 (I 0)) L L L) (N (.ptr 175 0) (N0 (I 0)) L L L) (N0 (.opn 36 3))) (N U (N (I 1) (N0 (I 0)) L L L) (N1 U (N0 (I 0))) (N (I 3) (N0 (.bool false)) L L L) L) (N U (N (.opn 710 3) (N0 (I 0)) L L L) (N (.ptr 244 0) (N0 (I 0)) L L L) (N0 (.opn 114 3)) L) (N U (N (.opn 424 3) (N0 (I 0)) L L L) (N (.opn 243 3) (N0 (I 0)) L L L) (N0 (I 10)) L))
noncomputable def kg2 : Sg:=sgOf ⟨(N none (N none (N3 none (N1 none (N0 (some (.cells 126 none [(I 5),(I 4),(I 10),(I 10),(I 8),(I 20),(I 20),(I 15),(I 45)]))))) (N3 none (N3 none (N2 none (N0 (some (.cells 48 none [(I 0),(I 10),(I 1),(I 10),(I 2),(I 12)])))))) (N none L (N2 none (N1 none (N0 (some (.cells 3 none [(I 8),(I 12),(I 12)]))))) (N0 (some (.cells 48 none [(I 0),(I 10),(I 1),(I 10),(I 2),(I 12)]))) L) (N3 none (N4 none (N0 (some (.cells 126 none [(I 5),(I 4),(I 10),(I 10),(I 8),(I 20),(I 20),(I 15),(I 45)])))))) (N (some (.cells 126 none [(I 5),(I 4),(I 10),(I 10),(I 8),(I 20),(I 20),(I 15),(I 45)])) (N none L L (N1 none (N0 (some (.cells 48 none [(I 0),(I 10),(I 1),(I 10),(I 2),(I 12)])))) (N2 none (N2 none (N0 (some (.cells 3 (some 1) [(I 10),(I 11),(I 12)])))))) (N3 none (N3 none (N2 none (N0 (some (.cells 54 none [(I 4),(I 4),(I 8),(I 8),(I 18),(I 18)])))))) (N3 none (N4 none (N0 (some (.cells 54 none [(I 27),(I 56)]))))) (N none L (N none (N0 (some (.cells 3 (some 1) [(I 10),(I 20),(I 45)]))) (N0 (some (.cells 126 none [(I 5),(I 4),(I 10),(I 10),(I 8),(I 20),(I 20),(I 15),(I 45)]))) L L) (N4 none (N0 (some (.cells 48 none [(I 0),(I 10),(I 1),(I 10),(I 2),(I 12)])))) L)) (N (some (.cells 48 none [(I 0),(I 10),(I 1),(I 10),(I 2),(I 12)])) (N3 none (N3 none (N0 (some (.cells 126 none [(I 5),(I 4),(I 10),(I 10),(I 8),(I 20),(I 20),(I 15),(I 45)]))))) (N2 none (N2 none (N1 none (N0 (some (.cells 126 none [(I 5),(I 4),(I 10),(I 10),(I 8),(I 20),(I 20),(I 15),(I 45)])))))) (N2 none (N2 none (N0 (some (.cells 54 none [(I 13),(I 15)]))))) (N2 none (N none L (N0 (some (.cells 48 none [(I 0),(I 10),(I 1),(I 10),(I 2),(I 12)]))) (N0 (some (.cells 54 (some 2) [(I 8),(I 10),(I 13),(I 20),(I 9),(I 30)]))) L))) (N none (N none L (N2 none (N1 none (N0 (some (.cells 3 (some 1) [(I (-4)),(I (-5)),(I 9)]))))) (N3 none (N (some (.cells 48 none [(I 0),(I 10),(I 1),(I 10),(I 2),(I 12)])) L (N0 (some (.cells 126 none [(I 5),(I 4),(I 10),(I 10),(I 8),(I 20),(I 20),(I 15),(I 45)]))) L L)) L) (N none (N3 none (N4 none (N4 none (N0 (some (.cells 44 (some 2) [(I 2),(I 9),(I 2),(I 10)])))))) (N2 none (N1 none (N0 (some (.cells 48 none [(I 0),(I 10),(I 1),(I 10),(I 2),(I 12)]))))) (N0 (some (.cells 126 none [(I 5),(I 4),(I 10),(I 10),(I 8),(I 20),(I 20),(I 15),(I 45)]))) L) L (N none (N0 (some (.ro 3 (some 1) [(I 10),(I 20),(I 45)]))) (N3 none (N0 (some (.cells 54 none [(I 0),(I 0)])))) L L))),6791,[5340,762,761,760,710,429,428,427,424,322,321,318,318,248,247,244,244,243,179,178,175,175,118,117,114,61,60,36,3,2]⟩
theorem ks0 : ((kcOf Tryz.prog 19).drop 0).seqs 8 = true:=by kernel_rfl
theorem kr0 (kx : KX) (k : KT) : warm 1 (runKX 100000 (((kcOf Tryz.prog 19).drop 0).take 8) ⟨Tryz.prog,knownCall,kx⟩ kt0 kg0 k) = k kt1 kg1:=by kernel_rfl
theorem ks1 : ((kcOf Tryz.prog 19).drop 8).seqs 1 = true:=by kernel_rfl
theorem kr1 (kx : KX) (k : KT) : warm 12 (runKX 99992 (((kcOf Tryz.prog 19).drop 8).take 1) ⟨Tryz.prog,knownCall,kx⟩ kt1 kg1 k) = k kt2 kg2:=by kernel_rfl
theorem klast : okTrue (warm 107 (from_ Tryz.prog knownCall 19 9 99991 kt2 kg2)) = true:=by kernel_rfl
theorem known_run : okTrue (runF Tryz.prog Go.Proofs.YtnnmnhpeblhiiaaGreatDoor.C.castleHook 100000 60 19 []) = true:=by
 rw [runF_from]
 rw [show from_ Tryz.prog (fCall Tryz.prog Go.Proofs.YtnnmnhpeblhiiaaGreatDoor.C.castleHook 100000 60) 19 0 100000 (ofL []) (sgOf ⟨.leaf,0,[]⟩) = from_ Tryz.prog knownCall 19 0 100000 kt0 kg0 from rfl]
 rw [show from_ Tryz.prog knownCall 19 0 100000 kt0 kg0 = from_ Tryz.prog knownCall 19 8 99992 kt1 kg1 from from_step (K:=99991) (m:=8) ks0 fun kx k=>(warm_eq 1 _).symm.trans (kr0 kx k)]
 rw [show from_ Tryz.prog knownCall 19 8 99992 kt1 kg1 = from_ Tryz.prog knownCall 19 9 99991 kt2 kg2 from from_step (K:=99990) (m:=1) ks1 fun kx k=>(warm_eq 12 _).symm.trans (kr1 kx k)]
 exact (congrArg okTrue (warm_eq 107 _)).symm.trans klast
end Go.Proofs.YtnnmnhpeblhiiaaGreatDoor.C
namespace Go.Proofs.YtnnmnhpeblhiiaaGreatDoor.C
open Go Go.RowKit Go.Abs
set_option linter.unusedVariables false
set_option linter.unusedSimpArgs false
set_option maxHeartbeats 16000000
set_option maxRecDepth 100000
def l4_known.f : Option Bool:=some true
theorem l4_known.calls (r : Bool) (w : World) (h : l4_known.f = some r) : Calls Tryz.prog 19 #[] w fun e w'=>e = .returned (.bool r)∧Below w.heap.size w w':=by
 cases h
 exact calls_true castleHook_ok known_run w
theorem known_true : l4_known.f = some true:=rfl
end Go.Proofs.YtnnmnhpeblhiiaaGreatDoor.C
namespace Go.Proofs.YtnnmnhpeblhiiaaGreatDoor.C
open Go.RowKit Go.Proofs.YtnnmnhpeblhiiaaGreatDoorW.PrintWords Go.Proofs.YtnnmnhpeblhiiaaGreatDoorW.PrintLast Go.Proofs.YtnnmnhpeblhiiaaGreatDoorW.PrintMore
set_option linter.unusedVariables false
set_option linter.unusedSimpArgs false
set_option maxHeartbeats 16000000
set_option maxRecDepth 100000
section
attribute [local go_sem] max2_int min2_int max_two min_two
mutual
def q1_Decimal.j0 : Nat→Int→Bool→Option (ByteArray)
 | 0,_,_=>none
 | k + 1,x0,x8=>if x8 = true then ((some (([(wrap64 (48 - x0)) % 256] : List Int) : List Int)).bind fun y930=>(if 1 + (strOfNums y930).size≤9223372036854775807 then (some ((⟨#[45]⟩ : ByteArray) ++ (strOfNums y930))) else (none))) else (if x0 < 0 then ((q1_Decimal.f k (wrap64 (Int.tdiv x0 10))).bind fun t933=>((some (([(wrap64 (48 - (Int.tmod x0 10))) % 256] : List Int) : List Int)).bind fun y934=>(if t933.size + (strOfNums y934).size≤9223372036854775807 then (some (t933 ++ (strOfNums y934))) else (none)))) else (if x0 < 10 then (some (strOfNums (([(wrap64 (48 + x0)) % 256] : List Int)))) else ((q1_Decimal.f k (wrap64 (Int.tdiv x0 10))).bind fun t940=>((some (([(wrap64 (48 + (Int.tmod x0 10))) % 256] : List Int) : List Int)).bind fun y941=>(if t940.size + (strOfNums y941).size≤9223372036854775807 then (some (t940 ++ (strOfNums y941))) else (none))))))
def q1_Decimal.f : Nat→Int→Option (ByteArray)
 | 0,_=>none
 | k + 1,a0=>if a0 > (-10) then (q1_Decimal.j0 k a0 (decide (a0 < 0))) else (q1_Decimal.j0 k a0 false)
end
set_option linter.unusedSimpArgs false
set_option linter.unusedSimpArgs false
set_option linter.unusedSimpArgs false
end
def ubl (b : ByteArray) : List UInt8:=b.data.toList
theorem bl_inj {a b : ByteArray} (h : ubl a = ubl b) : a = b:=ByteArray.ext (Array.toList_inj.1 h)
theorem bl_app (a b : ByteArray) : ubl (a ++ b) = ubl a ++ ubl b:=by simp [ubl]
theorem bl_size (a : ByteArray) : (ubl a).length = a.size:=by simp [ubl]
theorem bl_mk (l : List UInt8) : ubl ⟨l.toArray⟩ = l:=by simp [ubl]
def cut1 (c : UInt8) : List UInt8→List UInt8 × List (List UInt8)
 | []=>([],[])
 | x :: xs=>if x = c then ([],(cut1 c xs).1 :: (cut1 c xs).2) else (x :: (cut1 c xs).1,(cut1 c xs).2)
def cutL (c : UInt8) (s : List UInt8) : List (List UInt8):=(cut1 c s).1 :: (cut1 c s).2
theorem cut1_app {c : UInt8} (s : List UInt8) : ∀ {a : List UInt8},c ∉ a→cut1 c (a ++ c :: s) = (a,(cut1 c s).1 :: (cut1 c s).2)
 | [],_=>by rw [List.nil_append,cut1,if_pos rfl]
 | x :: xs,h=>by
  have h1 : x ≠ c:=fun e=>h (by simp [e])
  have h2 : c ∉ xs:=fun e=>h (by simp [e])
  rw [List.cons_append,cut1,if_neg h1,cut1_app s h2]
theorem cutL_app {c : UInt8} {a : List UInt8} (h : c ∉ a) (s : List UInt8) : cutL c (a ++ c :: s) = a :: cutL c s:=by rw [cutL,cut1_app s h];rfl
theorem cutL_lines {c : UInt8} (s : List UInt8) : ∀ {ls : List (List UInt8)},(∀ l ∈ ls,c ∉ l)→cutL c ((ls.map (· ++ [c])).flatten ++ s) = ls ++ cutL c s
 | [],_=>rfl
 | l :: ls,h=>by
  have ih:=cutL_lines s (ls:=ls) (fun x hx=>h x (by simp [hx]))
  have e : ((l :: ls).map (· ++ [c])).flatten ++ s = l ++ c :: ((ls.map (· ++ [c])).flatten ++ s):=by simp
  rw [e,cutL_app (h l (by simp)),ih];rfl
def dig (n : Nat) : UInt8:=UInt8.ofNat (48 + n)
theorem dec1 {n : Nat} (h : n < 10) : Lib.decDigits n = [dig n]:=by rw [Lib.decDigits,dif_pos h];rfl
theorem itB_nn {n : Int} (h : 0≤n) : ubl (itB n) = Lib.decDigits n.toNat:=by
 unfold itB Lib.itoa
 rw [if_neg (by omega),bl_mk]
theorem dig_toNat {n : Nat} (h : n < 10) : (dig n).toNat = 48 + n:=by
 unfold dig
 rw [UInt8.toNat_ofNat']
 omega
theorem dec_digit : ∀ (n : Nat) (x : UInt8),x ∈ Lib.decDigits n→48≤x.toNat∧x.toNat≤57:=by
 intro n
 induction n using Nat.strongRecOn with
 | _ n ih =>
  intro x hx
  rw [Lib.decDigits] at hx
  split at hx
  ·rename_i h
   rw [List.mem_singleton.1 hx]
   have:=dig_toNat h
   unfold dig at this
   omega
  ·rename_i h
   rcases List.mem_append.1 hx with hx | hx
   ·exact ih (n / 10) (by omega) x hx
   ·rw [List.mem_singleton.1 hx]
    have:=dig_toNat (n:=n % 10) (by omega)
    unfold dig at this
    omega
theorem itB_digit {n : Int} (h : 0≤n) {x : UInt8} (hx : x ∈ ubl (itB n)) : 48≤x.toNat∧x.toNat≤57:=by
 rw [itB_nn h] at hx;exact dec_digit _ _ hx
theorem bt_ubl (s : ByteArray) (p : Nat) : bt s (p : Int) = if h : p < (ubl s).length then (((ubl s)[p]'h).toNat : Int) else 0:=by
 unfold bt
 by_cases h : p < s.size
 ·rw [dif_pos (by simpa using h),dif_pos (by rw [bl_size];exact h)]
  simp [ubl]
  rfl
 ·rw [dif_neg (by simpa using h),dif_neg (by rw [bl_size];exact h)]
section
attribute [local go_sem] max2_int min2_int max_two min_two
set_option linter.unusedSimpArgs false
set_option linter.unusedSimpArgs false
end
theorem w64 {n : Int} (h : -9223372036854775808≤n∧n≤9223372036854775807) : wrap64 n = n:=by unfold wrap64;omega
theorem ksucc {k : Nat} (h : 0 < k) : ∃ m,k = m + 1:=⟨k - 1,by omega⟩
def rowOk (r : S126) : Bool:=decide (1≤r.f0∧r.f0≤60) && (decide (1≤r.f1∧r.f1≤60) && decide (1≤r.f2∧r.f2≤1000))
def nozOk (n : Int) (z : S48) : Bool:=decide (0≤z.f0∧z.f0≤n - 1) && decide (0≤z.f1∧z.f1≤40)
def okT (rows : List S126) (draw : Int) : Bool:=decide (1≤(rows.length : Int)∧(rows.length : Int)≤12) && (decide (0≤draw∧draw≤100) && rows.all rowOk)
def okB (rows : List S126) (draw : Int) (noz : List S48) (weir spill : Int) : Bool:=
 okT rows draw && (decide (1≤(noz.length : Int)∧(noz.length : Int)≤6) && (decide (0≤weir∧weir≤40) && (decide (0≤spill∧spill≤100) && noz.all (nozOk rows.length))))
theorem c_in (a b c : Int) : ca_in.f a b c = some (decide (b≤a∧a≤c)):=by
 unfold ca_in.f
 by_cases h : a ≥ b
 ·rw [if_pos h];have : b≤a:=h;simp [this]
 ·rw [if_neg h];have : ¬ b≤a:=h;simp [this]
theorem n_in (a b c : Int) : nz_in.f a b c = some (decide (b≤a∧a≤c)):=c_in a b c
theorem r4_in (a b c : Int) : q4_in.f a b c = some (decide (b≤a∧a≤c)):=c_in a b c
theorem r3_in (a b c : Int) : q3_in.f a b c = some (decide (b≤a∧a≤c)):=c_in a b c
theorem c_height (a : Int) : ca_isHeight.f a = some (decide (0≤a∧a≤40)):=by unfold ca_isHeight.f;rw [c_in];rfl
theorem r_height (a : Int) : q4_Height.f a = some (decide (0≤a∧a≤40)):=by unfold q4_Height.f;rw [r4_in];rfl
theorem anyM_total {α : Type} {q : α→Option Bool} {p : α→Bool} (h : ∀ x,q x = some (p x)) : ∀ xs,anyM q xs = some (xs.any p)
 | []=>rfl
 | x :: xs=>by
  simp only [anyM,h,Option.bind_some,List.any_cons,anyM_total h xs]
  cases p x<;>rfl
theorem row_bad (x : S126) : nz_isTable_1.f x.f0 x.f1 x.f2 = some (!rowOk x):=by
 unfold nz_isTable_1.f rowOk
 simp only [n_in,Option.bind_some]
 cases decide (1≤x.f0∧x.f0≤60)<;>cases decide (1≤x.f1∧x.f1≤60)<;>cases decide (1≤x.f2∧x.f2≤1000)<;>rfl
theorem noz_bad {rows : List S126} (hl : rows.length≤1000) (x : S48) : ca_isBasin_1.f rows x = some (!nozOk rows.length x):=by
 unfold ca_isBasin_1.f nozOk
 rw [w64 (by omega)]
 simp only [c_in,c_height,Option.bind_some]
 cases decide (0≤x.f0∧x.f0≤(rows.length : Int) - 1)<;>cases decide (0≤x.f1∧x.f1≤40)<;>rfl
theorem isTable_eq (rows : List S126) (draw : Int) : nz_isTable.f rows draw = some (okT rows draw):=by
 unfold nz_isTable.f okT cf_isTable.f
 rw [anyM_total row_bad,← List.not_all_eq_any_not]
 simp only [n_in,Option.bind_some]
 cases decide (1≤(rows.length : Int)∧(rows.length : Int)≤12)<;>cases decide (0≤draw∧draw≤100)<;>cases rows.all rowOk<;>rfl
theorem isBasin_eq {rows : List S126} {draw : Int} {noz : List S48} {weir spill : Int} (hl : rows.length≤1000) : ca_isBasin.f rows draw noz weir spill = some (okB rows draw noz weir spill):=by
 unfold ca_isBasin.f okB nz_Check.f
 rw [anyM_total (noz_bad hl),← List.not_all_eq_any_not,isTable_eq]
 simp only [c_in,c_height,Option.bind_some]
 cases okT rows draw<;>cases decide (1≤(noz.length : Int)∧(noz.length : Int)≤6)<;>cases decide (0≤weir∧weir≤40)<;>cases decide (0≤spill∧spill≤100)<;>cases noz.all (nozOk rows.length)<;>rfl
theorem refTable_go (rows : List S126) (draw : Int) (hl : rows.length≤1000) : ∀ (d k : Nat) (i : Int),0≤i→i + d = rows.length→d < k→
 q3_Table.l0 k i rows draw = some ((rows.drop i.toNat).all rowOk && (decide (1≤(rows.length : Int)∧(rows.length : Int)≤12) && decide (0≤draw∧draw≤100)))
 | 0,k,i,h0,hi,hk=>by
  obtain ⟨k,rfl⟩:=ksucc hk
  simp only [q3_Table.l0]
  rw [if_neg (by omega),List.drop_of_length_le (by omega)]
  simp only [r3_in,Option.bind_some,List.all_nil,Bool.true_and]
  cases decide (1≤(rows.length : Int)∧(rows.length : Int)≤12)<;>cases decide (0≤draw∧draw≤100)<;>rfl
 | d + 1,k,i,h0,hi,hk=>by
  obtain ⟨k,rfl⟩:=ksucc (by omega : 0 < k)
  simp only [q3_Table.l0]
  rw [if_pos (by omega),if_pos h0,w64 (by omega),refTable_go rows draw hl d k (i + 1) (by omega) (by omega) (by omega),drop_at z126 rows i h0 (by omega),List.all_cons]
  show _ = some ((rowOk (rd_T126 rows i) && _) && _)
  unfold rowOk
  simp only [r3_in,Option.bind_some]
  cases decide (1≤(rd_T126 rows i).f0∧(rd_T126 rows i).f0≤60)<;>cases decide (1≤(rd_T126 rows i).f1∧(rd_T126 rows i).f1≤60)<;>cases decide (1≤(rd_T126 rows i).f2∧(rd_T126 rows i).f2≤1000)<;>rfl
theorem refTable_eq {rows : List S126} {draw : Int} {k : Nat} (hl : rows.length≤1000) (hk : rows.length < k) : q3_Table.f k rows draw = some (okT rows draw):=by
 unfold q3_Table.f okT
 rw [refTable_go rows draw hl rows.length k 0 (by omega) (by omega) hk]
 show some (rows.all rowOk && _) = _
 cases decide (1≤(rows.length : Int)∧(rows.length : Int)≤12)<;>cases decide (0≤draw∧draw≤100)<;>cases rows.all rowOk<;>rfl
theorem refBasin_go (rows : List S126) (draw : Int) (noz : List S48) (weir spill : Int) (hl : rows.length≤1000) (hn : noz.length≤1000) : ∀ (d k : Nat) (i : Int),0≤i→i + d = noz.length→rows.length + d + 1 < k→
 q4_Basin.l0 k i rows draw noz weir spill = some ((noz.drop i.toNat).all (nozOk rows.length) && (okT rows draw && (decide (1≤(noz.length : Int)∧(noz.length : Int)≤6) && (decide (0≤weir∧weir≤40) && decide (0≤spill∧spill≤100)))))
 | 0,k,i,h0,hi,hk=>by
  obtain ⟨k,rfl⟩:=ksucc (by omega : 0 < k)
  simp only [q4_Basin.l0]
  rw [if_neg (by omega),List.drop_of_length_le (by omega),refTable_eq hl (by omega)]
  simp only [r4_in,r_height,Option.bind_some,List.all_nil,Bool.true_and]
  cases okT rows draw<;>cases decide (1≤(noz.length : Int)∧(noz.length : Int)≤6)<;>cases decide (0≤weir∧weir≤40)<;>cases decide (0≤spill∧spill≤100)<;>rfl
 | d + 1,k,i,h0,hi,hk=>by
  obtain ⟨k,rfl⟩:=ksucc (by omega : 0 < k)
  simp only [q4_Basin.l0]
  rw [if_pos (by omega),if_pos h0,w64 (n:=i + 1) (by omega),w64 (by omega),refBasin_go rows draw noz weir spill hl hn d k (i + 1) (by omega) (by omega) (by omega),drop_at z48 noz i h0 (by omega),List.all_cons]
  show _ = some ((nozOk rows.length (rd_T48 noz i) && _) && _)
  unfold nozOk
  simp only [r4_in,r_height,Option.bind_some]
  cases decide (0≤(rd_T48 noz i).f0∧(rd_T48 noz i).f0≤(rows.length : Int) - 1)<;>cases decide (0≤(rd_T48 noz i).f1∧(rd_T48 noz i).f1≤40)<;>rfl
theorem refBasin_eq {rows : List S126} {draw : Int} {noz : List S48} {weir spill : Int} {k : Nat} (hl : rows.length≤1000) (hn : noz.length≤1000) (hk : rows.length + noz.length + 1 < k) :
 q4_Basin.f k rows draw noz weir spill = some (okB rows draw noz weir spill):=by
 unfold q4_Basin.f okB
 rw [refBasin_go rows draw noz weir spill hl hn noz.length k 0 (by omega) (by omega) hk]
 show some (noz.all (nozOk rows.length) && _) = _
 cases okT rows draw<;>cases decide (1≤(noz.length : Int)∧(noz.length : Int)≤6)<;>cases decide (0≤weir∧weir≤40)<;>cases decide (0≤spill∧spill≤100)<;>cases noz.all (nozOk rows.length)<;>rfl
structure OkB (rows : List S126) (draw : Int) (noz : List S48) (weir spill : Int) : Prop where
 r1 : 1≤rows.length
 r2 : rows.length≤12
 tab : okT rows draw = true
 rr : ∀ r ∈ rows,1≤r.f2∧r.f2≤1000
 n1 : 1≤noz.length
 n2 : noz.length≤6
 w0 : 0≤weir
 w1 : weir≤40
 s0 : 0≤spill
 s1 : spill≤100
 nn : ∀ z ∈ noz,0≤z.f0∧z.f0 < rows.length∧0≤z.f1∧z.f1≤40
theorem okB_iff {rows : List S126} {draw : Int} {noz : List S48} {weir spill : Int} : okB rows draw noz weir spill = true↔OkB rows draw noz weir spill:=by
 constructor
 ·intro h
  unfold okB at h
  simp only [Bool.and_eq_true,decide_eq_true_eq,List.all_eq_true] at h
  obtain ⟨ht,h2,h3,h4,h5⟩:=h
  have ht':=ht
  unfold okT at ht'
  simp only [Bool.and_eq_true,decide_eq_true_eq,List.all_eq_true] at ht'
  obtain ⟨h0,h1,hr⟩:=ht'
  refine ⟨by omega,by omega,ht,fun r hm=>?_,by omega,by omega,by omega,by omega,by omega,by omega,fun z hm=>?_⟩
  ·have:=hr r hm;unfold rowOk at this;simp only [Bool.and_eq_true,decide_eq_true_eq] at this;omega
  ·have:=h5 z hm;unfold nozOk at this;simp only [Bool.and_eq_true,decide_eq_true_eq] at this;omega
 ·intro h
  unfold okB
  simp only [Bool.and_eq_true,decide_eq_true_eq,List.all_eq_true]
  have a1:=h.n1;have a2:=h.n2
  refine ⟨h.tab,by omega,⟨h.w0,h.w1⟩,⟨h.s0,h.s1⟩,fun z hz=>?_⟩
  have:=h.nn z hz
  unfold nozOk;simp only [Bool.and_eq_true,decide_eq_true_eq];omega
theorem decLen (n : Nat) : ∀ m : Nat,n < 10 ^ (m + 1)→(Lib.decDigits n).length≤m + 1:=by
 intro m
 induction m generalizing n with
 | zero=>intro h;rw [dec1 (by omega)];simp
 | succ m ih =>
  intro h
  rw [Lib.decDigits]
  split
  ·simp
  ·have:=ih (n / 10) (by rw [Nat.pow_succ] at h;omega)
   simp only [List.length_append,List.length_singleton];omega
theorem itB_size {n : Int} (h0 : 0≤n) (h1 : n < 10000) : (itB n).size≤4:=by
 rw [← bl_size,itB_nn h0]
 exact decLen n.toNat 3 (by omega)
theorem bt_in (s : ByteArray) (p : Int) : 0≤bt s p∧bt s p≤255:=by
 unfold bt
 split
 ·rename_i h
  have:=(s[p.toNat]'h).toNat_lt
  omega
 ·omega
theorem lineB_size {wd : ByteArray} {a b : Int} (hw : wd.size≤20) (a0 : 0≤a) (a1 : a≤1000) (b0 : 0≤b) (b1 : b≤1000) : (lineB wd a b).size≤30:=by
 have:=itB_size a0 (by omega)
 have:=itB_size b0 (by omega)
 have e : spB.size = 1:=rfl
 unfold lineB
 simp only [ByteArray.size_append]
 omega
def sealGo : List ByteArray→Int→ByteArray→Int→ByteArray × Int
 | [],_,out,chk=>(out,chk)
 | x :: rest,i,out,chk=>sealGo rest (i + 1) (out ++ (x ++ nlB)) (sumB x i x.size 0 chk)
theorem mul_in {b p i : Int} (b0 : 0≤b) (b1 : b≤255) (p0 : 0≤p) (p1 : p≤1000) (i0 : 0≤i) (i1 : i≤1000) : 0≤b * p * i∧b * p * i≤255000000∧0≤b * p∧b * p≤255000:=by
 have a1 : 0≤b * p:=Int.mul_nonneg b0 p0
 have a2 : b * p≤255 * 1000:=Int.mul_le_mul b1 p1 p0 (by omega)
 have a3 : 0≤b * p * i:=Int.mul_nonneg a1 i0
 have a4 : b * p * i≤255000 * 1000:=Int.mul_le_mul (by omega) i1 i0 (by omega)
 omega
def sumBd (d : Nat) : Int:=255000000 * (d : Int)
theorem sumBd_succ (d : Nat) : sumBd (d + 1) = sumBd d + 255000000:=by unfold sumBd;omega
theorem sum_in (s : ByteArray) (i : Int) (i0 : 0≤i) (i1 : i≤999) (d : Nat) : ∀ (p chk : Int),0≤p→p + d≤1000→0≤chk→chk + sumBd d≤1000000000000000→0≤sumB s i d p chk∧sumB s i d p chk≤chk + sumBd d:=by
 induction d with
 | zero =>
  intro p chk p0 p1 c0 c1
  simp only [sumB,sumBd];omega
 | succ d ih =>
  intro p chk p0 p1 c0 c1
  rw [sumBd_succ] at c1 ⊢
  have sd : 0≤sumBd d:=by unfold sumBd;omega
  simp only [sumB]
  have hb:=bt_in s p
  have m:=mul_in hb.1 hb.2 (show 0≤p + 1 by omega) (show p + 1≤1000 by omega) (show 0≤i + 1 by omega) (show i + 1≤1000 by omega)
  rw [w64 (n:=bt s p * (p + 1)) (by omega),w64 (n:=bt s p * (p + 1) * (i + 1)) (by omega),w64 (n:=chk + _) (by omega)]
  have:=ih (p + 1) (chk + bt s p * (p + 1) * (i + 1)) (by omega) (by omega) (by omega) (by omega)
  omega
def linesL (weir spill : Int) (noz : List S48) : List ByteArray:=lineB castleB weir spill :: noz.map fun z=>lineB nozzleB z.f0 z.f1
theorem textGo_seal : ∀ (ps : List (Int × Int)) (i : Int) (out : ByteArray) (chk : Int),0 < i→textGo ps i out chk = sealGo (ps.map fun x=>lineB nozzleB x.1 x.2) i out chk
 | [],i,out,chk,h=>rfl
 | x :: ps,i,out,chk,h=>by
  simp only [textGo,List.map_cons,sealGo]
  rw [if_neg (by omega)]
  exact textGo_seal ps (i + 1) _ _ (by omega)
theorem text_seal (weir spill : Int) (noz : List S48) : ca_text.f weir spill noz = lastB (sealGo (linesL weir spill noz) 0 ByteArray.empty 0).1 ((sealGo (linesL weir spill noz) 0 ByteArray.empty 0).2.tmod 127):=by
 unfold ca_text.f linesL
 simp only [textGo,sealGo,if_true]
 rw [textGo_seal _ _ _ _ (by omega),List.map_map]
 rfl
def okN (weir spill : Int) (noz : List S48) : Prop:=noz.length≤800∧(0≤weir∧weir≤1000∧0≤spill∧spill≤1000)∧∀ z ∈ noz,0≤z.f0∧z.f0≤1000∧0≤z.f1∧z.f1≤1000
theorem lines_size {weir spill : Int} {noz : List S48} (h : okN weir spill noz) : ∀ x ∈ linesL weir spill noz,x.size≤30:=by
 obtain ⟨h0,h1,h2⟩:=h
 intro x hx
 rcases List.mem_cons.1 hx with rfl | hx
 ·exact lineB_size (by decide) h1.1 h1.2.1 h1.2.2.1 h1.2.2.2
 ·obtain ⟨z,hz,rfl⟩:=List.mem_map.1 hx
  have:=h2 z hz
  exact lineB_size (by decide) this.1 this.2.1 this.2.2.1 this.2.2.2
section
attribute [local go_sem] max2_int min2_int max_two min_two
set_option linter.unusedSimpArgs false
end
set_option linter.unusedSimpArgs false
section
attribute [local go_sem] max2_int min2_int max_two min_two
set_option linter.unusedSimpArgs false
set_option linter.unusedSimpArgs false
set_option linter.unusedSimpArgs false
set_option linter.unusedSimpArgs false
set_option linter.unusedSimpArgs false
set_option linter.unusedSimpArgs false
set_option linter.unusedSimpArgs false
end
set_option linter.unusedSimpArgs false
section
attribute [local go_sem] max2_int min2_int max_two min_two
set_option linter.unusedSimpArgs false
set_option linter.unusedSimpArgs false
end
set_option linter.unusedSimpArgs false
def fillK (n : Nat) : Nat:=50 * (n + 2) + 100
section
variable {rows : List S126} {draw : Int} {noz : List S48} {weir spill : Int}
def over (weir spill h : Int) : Int:=spill * mx 0 (h - weir)
end
set_option linter.unusedSimpArgs false
section
attribute [local go_sem] max2_int min2_int max_two min_two
set_option linter.unusedSimpArgs false
end
set_option linter.unusedSimpArgs false
set_option linter.unusedSimpArgs false
section
attribute [local go_sem] max2_int min2_int max_two min_two
set_option linter.unusedSimpArgs false
end
set_option linter.unusedSimpArgs false
section
attribute [local go_sem] max2_int min2_int max_two min_two
set_option linter.unusedSimpArgs false
end
def pairOk : List Int→List Int→Prop
 | x :: l,y :: n=>(0≤x∧x≤y∧y≤1000)∧pairOk l n
 | [],[]=>True
 | _,_=>False
section
variable {rows : List S126} {draw : Int} {noz : List S48} {weir spill : Int}
def setH (noz : List S48) (l : List Int) : List S48:=List.zipWith (fun z x=>(⟨z.f0,x⟩ : S48)) noz l
end
theorem short_eq {rows : List S126} {draw : Int} {noz : List S48} {weir spill : Int} : l4_short.f rows draw noz weir spill = some (decide (rows.length≤15∧noz.length≤8)):=by
 unfold l4_short.f
 by_cases h : (rows.length : Int)≤15
 ·rw [if_pos h,show decide (rows.length≤15∧noz.length≤8) = decide ((noz.length : Int)≤8) from by rw [decide_eq_decide];omega]
 ·rw [if_neg h,decide_eq_false (by omega)]
section
variable {rows : List S126} {draw : Int} {noz : List S48} {weir spill : Int}
end
section
variable {rows : List S126} {draw : Int} {noz : List S48} {weir spill : Int}
end
section
variable {rows : List S126} {draw : Int} {noz : List S48} {weir spill : Int}
end
def endL (c : Int) : ByteArray:=endB ++ itB (c.tdiv 100) ++ itB ((c.tdiv 10).tmod 10) ++ itB (c.tmod 10)
theorem sealGo_out : ∀ (xs : List ByteArray) (i : Int) (out : ByteArray) (chk : Int),ubl (sealGo xs i out chk).1 = ubl out ++ ((xs.map ubl).map (· ++ [10])).flatten
 | [],i,out,chk=>by simp [sealGo]
 | x :: xs,i,out,chk=>by
  simp only [sealGo,List.map_cons,List.flatten_cons]
  rw [sealGo_out xs,bl_app,bl_app]
  simp [nlB,ubl]
theorem last_bl (out : ByteArray) (c : Int) : ubl (lastB out c) = ubl out ++ (ubl (endL c) ++ [10]):=by
 unfold lastB endL
 simp [bl_app,nlB,ubl]
def clean (c : UInt8) (b : ByteArray) : Prop:=c ∉ ubl b
theorem clean_app {c : UInt8} {a b : ByteArray} (h : clean c a) (k : clean c b) : clean c (a ++ b):=by
 unfold clean at *
 rw [bl_app]
 simp [h,k]
theorem clean_it {c : UInt8} (hc : c.toNat < 48) {n : Int} (h : 0≤n) : clean c (itB n):=fun hx=>by
 have:=itB_digit h hx
 omega
theorem line_clean {wd : ByteArray} {a b : Int} (hw : clean 10 wd) (a0 : 0≤a) (b0 : 0≤b) : clean 10 (lineB wd a b):=by
 unfold lineB
 exact clean_app (clean_app hw (clean_app (by unfold clean spB ubl;decide) (clean_it (by decide) a0))) (clean_app (by unfold clean spB ubl;decide) (clean_it (by decide) b0))
theorem ca_clean (c : UInt8) (h : c = 10∨c = 32) : clean c castleB∧clean c nozzleB∧(c = 10→clean c endB):=by
 rcases h with rfl | rfl
 ·exact ⟨by unfold clean castleB ubl;decide,by unfold clean nozzleB ubl;decide,fun _=>by unfold clean endB ubl;decide⟩
 ·exact ⟨by unfold clean castleB ubl;decide,by unfold clean nozzleB ubl;decide,fun h=>by cases h⟩
theorem end_clean {c : Int} (c0 : 0≤c) : clean 10 (endL c):=by
 have q1 : Int.tdiv c 100 = c / 100:=Int.tdiv_eq_ediv_of_nonneg c0
 have q2 : Int.tdiv c 10 = c / 10:=Int.tdiv_eq_ediv_of_nonneg c0
 have q3 : Int.tmod c 10 = c % 10:=Int.tmod_eq_emod_of_nonneg c0
 have q4 : Int.tmod (c / 10) 10 = c / 10 % 10:=Int.tmod_eq_emod_of_nonneg (by omega)
 unfold endL
 rw [q1,q2,q3,q4]
 exact clean_app (clean_app (clean_app ((ca_clean 10 (.inl rfl)).2.2 rfl) (clean_it (by decide) (by omega))) (clean_it (by decide) (by omega))) (clean_it (by decide) (by omega))
theorem seal_cut {xs : List ByteArray} (hx : ∀ x ∈ xs,clean 10 x) {c : Int} (c0 : 0≤c) (i chk : Int) : cutL 10 (ubl (lastB (sealGo xs i ByteArray.empty chk).1 c)) = xs.map ubl ++ [ubl (endL c),[]]:=by
 rw [last_bl,sealGo_out]
 have : ubl ByteArray.empty = []:=rfl
 rw [this,List.nil_append,cutL_lines _ (fun l hl=>by obtain ⟨x,hx2,rfl⟩:=List.mem_map.1 hl;exact hx x hx2)]
 rw [cutL_app (end_clean c0)]
 rfl
theorem chk_nn : ∀ (xs : List ByteArray) (i : Int) (out : ByteArray) (chk : Int),0≤i→i + xs.length≤900→(∀ x ∈ xs,x.size≤1000)→0≤chk→chk≤255000000000 * i→0≤(sealGo xs i out chk).2
 | [],i,out,chk,h0,h1,hx,c0,c1=>c0
 | x :: xs,i,out,chk,h0,h1,hx,c0,c1=>by
  simp only [List.length_cons] at h1
  have hz:=hx x (by simp)
  have sb : sumBd x.size≤255000000000:=by unfold sumBd;omega
  have hs:=sum_in x i h0 (by omega) x.size 0 chk (by omega) (by omega) c0 (by omega)
  exact chk_nn xs (i + 1) _ _ (by omega) (by omega) (fun y hy=>hx y (by simp [hy])) (by omega) (by omega)
def chkC (weir spill : Int) (noz : List S48) : Int:=(sealGo (linesL weir spill noz) 0 ByteArray.empty 0).2.tmod 127
theorem lines_clean {weir spill : Int} {noz : List S48} (h : okN weir spill noz) : ∀ x ∈ linesL weir spill noz,clean 10 x:=by
 obtain ⟨h0,h1,h2⟩:=h
 intro x hx
 rcases List.mem_cons.1 hx with rfl | hx
 ·exact line_clean (ca_clean 10 (.inl rfl)).1 h1.1 h1.2.2.1
 ·obtain ⟨z,hz,rfl⟩:=List.mem_map.1 hx
  have:=h2 z hz
  exact line_clean (ca_clean 10 (.inl rfl)).2.1 this.1 this.2.2.1
theorem chkC_nn {weir spill : Int} {noz : List S48} (h : okN weir spill noz) : 0≤chkC weir spill noz∧chkC weir spill noz≤126:=by
 have hl:=h.1
 have:=chk_nn (linesL weir spill noz) 0 ByteArray.empty 0 (by omega) (by simp [linesL];omega) (fun x hx=>by have:=lines_size h x hx;omega) (by omega) (by omega)
 unfold chkC
 rw [Int.tmod_eq_emod_of_nonneg this]
 omega
def okP (weir spill : Int) (noz : List S48) : Prop:=noz.length≤800∧(0≤weir∧weir≤999∧0≤spill∧spill≤999)∧∀ z ∈ noz,0≤z.f0∧z.f0≤999∧0≤z.f1∧z.f1≤999
theorem okP.n {weir spill : Int} {noz : List S48} (h : okP weir spill noz) : okN weir spill noz:=⟨h.1,by have:=h.2.1;omega,fun z hz=>by have:=h.2.2 z hz;omega⟩
theorem okB_P {rows : List S126} {draw : Int} {noz : List S48} {weir spill : Int} (h : okB rows draw noz weir spill = true) : okP weir spill noz∧noz.length≤6∧weir≤40∧spill≤100∧∀ z ∈ noz,z.f0≤11∧z.f1≤40:=by
 have hB:=okB_iff.1 h
 unfold okB at h
 simp only [Bool.and_eq_true,decide_eq_true_eq] at h
 have n2:=hB.n2
 have r2:=hB.r2
 have hz : ∀ z ∈ noz,0≤z.f0∧z.f0≤11∧0≤z.f1∧z.f1≤40:=fun z hz=>by
  have:=List.all_eq_true.1 h.2.2.2.2 z hz
  unfold nozOk at this
  simp only [Bool.and_eq_true,decide_eq_true_eq] at this
  omega
 refine ⟨⟨by omega,by omega,fun z hm=>by have:=hz z hm;omega⟩,by omega,by omega,by omega,fun z hm=>by have:=hz z hm;omega⟩
theorem text_size {weir spill : Int} {noz : List S48} (h : okP weir spill noz) (hn : noz.length≤6) (w1 : weir≤40) (s1 : spill≤100) (hz : ∀ z ∈ noz,z.f0≤11∧z.f1≤40) : (ca_text.f weir spill noz).size≤200:=by
 rw [text_seal]
 have it2 : ∀ n : Int,0≤n→n < 100→(itB n).size≤2:=fun n a b=>by rw [← bl_size,itB_nn a];exact decLen n.toNat 1 (by omega)
 have it3 : ∀ n : Int,0≤n→n < 1000→(itB n).size≤3:=fun n a b=>by rw [← bl_size,itB_nn a];exact decLen n.toNat 2 (by omega)
 have it1 : ∀ n : Int,0≤n→n < 10→(itB n).size≤1:=fun n a b=>by rw [← bl_size,itB_nn a];exact decLen n.toNat 0 (by omega)
 have esp : spB.size = 1:=rfl
 have ec : castleB.size = 6:=rfl
 have en : nozzleB.size = 6:=rfl
 have enl : nlB.size = 1:=rfl
 have ee : endB.size = 4:=rfl
 have gen : ∀ (xs : List ByteArray) (i : Int) (out : ByteArray) (chk : Int),(∀ x ∈ xs,x.size≤13)→(sealGo xs i out chk).1.size≤out.size + 14 * xs.length:=by
  intro xs
  induction xs with
  | nil=>intro i out chk _;simp [sealGo]
  | cons x xs ih =>
   intro i out chk h
   simp only [sealGo]
   have:=ih (i + 1) (out ++ (x ++ nlB)) (sumB x i x.size 0 chk) (fun y hy=>h y (by simp [hy]))
   have hx:=h x (by simp)
   rw [ByteArray.size_append,ByteArray.size_append] at this
   simp only [List.length_cons]
   omega
 have hs:=gen (linesL weir spill noz) 0 ByteArray.empty 0 (fun x hx=>by
  rcases List.mem_cons.1 hx with rfl | hx
  ·have a:=it2 weir h.2.1.1 (by omega)
   have b:=it3 spill h.2.1.2.2.1 (by omega)
   unfold lineB;simp only [ByteArray.size_append];omega
  ·obtain ⟨z,hz2,rfl⟩:=List.mem_map.1 hx
   have q:=hz z hz2
   have q2:=h.2.2 z hz2
   have a:=it2 z.f0 q2.1 (by omega)
   have b:=it2 z.f1 q2.2.2.1 (by omega)
   unfold lineB;simp only [ByteArray.size_append];omega)
 have hl : (linesL weir spill noz).length≤7:=by simp [linesL];omega
 have c:=chkC_nn h.n
 unfold chkC at c
 obtain ⟨cc,hc⟩ : ∃ cc,(sealGo (linesL weir spill noz) 0 ByteArray.empty 0).2.tmod 127 = cc:=⟨_,rfl⟩
 rw [hc] at c ⊢
 have q1 : Int.tdiv cc 100 = cc / 100:=Int.tdiv_eq_ediv_of_nonneg c.1
 have q2 : Int.tdiv cc 10 = cc / 10:=Int.tdiv_eq_ediv_of_nonneg c.1
 have q3 : Int.tmod cc 10 = cc % 10:=Int.tmod_eq_emod_of_nonneg c.1
 have q4 : Int.tmod (cc / 10) 10 = cc / 10 % 10:=Int.tmod_eq_emod_of_nonneg (by omega)
 have i1:=it1 (cc / 100) (by omega) (by omega)
 have i2:=it1 (cc / 10 % 10) (by omega) (by omega)
 have i3:=it1 (cc % 10) (by omega) (by omega)
 have e0 : ByteArray.empty.size = 0:=rfl
 unfold lastB
 rw [q1,q2,q3,q4]
 simp only [ByteArray.size_append]
 omega
theorem textP_eq {rows : List S126} {draw : Int} {noz : List S48} {weir spill : Int} (h : okB rows draw noz weir spill = true) : ca_textP.f rows draw noz weir spill = some (ca_text.f weir spill noz):=by
 have p:=(okB_P h).1
 unfold ca_textP.f
 rw [if_pos ⟨by have:=p.1;omega,by have:=p.2.1;omega,List.all_eq_true.2 fun z hz=>by have:=p.2.2 z hz;simp only [smallN,decide_eq_true_eq];omega⟩]
theorem cPrint_eq {rows : List S126} {draw : Int} {noz : List S48} {weir spill : Int} (hl : rows.length≤1000) : ca_Print.f rows draw noz weir spill = some (if okB rows draw noz weir spill = true then (ca_text.f weir spill noz,0) else (⟨#[]⟩,2)):=by
 unfold ca_Print.f
 rw [isBasin_eq hl,Option.bind_some]
 cases h : okB rows draw noz weir spill with
 | false=>rfl
 | true=>rw [if_pos rfl,textP_eq h];rfl
theorem st_go (rows : List S126) (d1 d2 : Int) (hl : rows.length≤1000) : ∀ (d k : Nat) (i : Int),0≤i→i + d = rows.length→d < k→q3_SameTables.l0 k i rows d1 rows d2 = some true
 | 0,k,i,h0,h1,hk=>by
  obtain ⟨k,rfl⟩:=ksucc (by omega : 0 < k)
  simp only [q3_SameTables.l0]
  rw [if_neg (by omega)]
 | d + 1,k,i,h0,h1,hk=>by
  obtain ⟨k,rfl⟩:=ksucc (by omega : 0 < k)
  simp only [q3_SameTables.l0]
  rw [if_pos (by omega),if_pos h0,if_pos (by omega),if_neg (by simp),w64 (n:=i + 1) (by omega)]
  exact st_go rows d1 d2 hl d k (i + 1) (by omega) (by omega) (by omega)
theorem sb_go (rows : List S126) (draw : Int) (noz : List S48) (weir spill : Int) (hl : noz.length≤1000) : ∀ (d k : Nat) (i : Int),0≤i→i + d = noz.length→d < k→q4_SameBasins.l0 k i rows draw noz weir spill rows draw noz weir spill = some true
 | 0,k,i,h0,h1,hk=>by
  obtain ⟨k,rfl⟩:=ksucc (by omega : 0 < k)
  simp only [q4_SameBasins.l0]
  rw [if_neg (by omega)]
 | d + 1,k,i,h0,h1,hk=>by
  obtain ⟨k,rfl⟩:=ksucc (by omega : 0 < k)
  simp only [q4_SameBasins.l0]
  rw [if_pos (by omega),if_pos h0,if_pos (by omega),if_neg (by simp),w64 (n:=i + 1) (by omega)]
  exact sb_go rows draw noz weir spill hl d k (i + 1) (by omega) (by omega) (by omega)
theorem sb_refl {rows : List S126} {draw : Int} {noz : List S48} {weir spill : Int} (hr : rows.length≤1000) (hl : noz.length≤1000) {k : Nat} (hk : rows.length + noz.length + 3≤k) : q4_SameBasins.f k rows draw noz weir spill rows draw noz weir spill = some true:=by
 obtain ⟨k,rfl⟩:=ksucc (by omega : 0 < k)
 unfold q4_SameBasins.f q3_SameTables.f
 rw [if_pos rfl]
 simp only [bne_self_eq_false,q3_SameTables.j0,Bool.false_eq_true,if_false]
 rw [st_go rows draw draw hr rows.length k 0 (by omega) (by omega) (by omega),Option.bind_some,if_pos rfl]
 simp only [if_true,q4_SameBasins.j0,Bool.false_eq_true,if_false]
 exact sb_go rows draw noz weir spill hl noz.length k 0 (by omega) (by omega) (by omega)
theorem rowsGo_some : ∀ (ws : List ByteArray) (l : List S48),rowsGo ws = some l→(∀ z ∈ l,0≤z.f0∧z.f0≤999∧0≤z.f1∧z.f1≤999)∧l.length = ws.length
 | [],l,h=>by
  simp only [rowsGo,Option.some.injEq] at h
  subst h
  exact ⟨fun z hz=>(by cases hz),rfl⟩
 | x :: xs,l,h=>by
  simp only [rowsGo] at h
  obtain ⟨q,hq,h⟩:=Option.bind_eq_some_iff.1 h
  obtain ⟨m,hm,h⟩:=Option.bind_eq_some_iff.1 h
  cases h
  obtain ⟨a,b⟩:=rowsGo_some xs m hm
  have:=toldF_range (a:=q.1) (b:=q.2) hq
  refine ⟨fun z hz=>?_,by simp [b]⟩
  rcases List.mem_cons.1 hz with rfl | hz
  ·exact this
  ·exact a z hz
theorem parsed_some {s : ByteArray} (hs : s.size≤300) {x : Int × Int × List S48} (h : parsedF s = some x) : ca_text.f x.1 x.2.1 x.2.2 = s∧okP x.1 x.2.1 x.2.2:=by
 have l2:=splitF_len2 s nlB (by decide)
 unfold parsedF parsedW at h
 split at h
 ·obtain ⟨p,hp,h⟩:=Option.bind_eq_some_iff.1 h
  obtain ⟨l,hl,h⟩:=Option.bind_eq_some_iff.1 h
  split at h
  ·rename_i c
   cases h
   have hr:=toldF_range (a:=p.1) (b:=p.2) hp
   obtain ⟨a,b⟩:=rowsGo_some _ _ hl
   refine ⟨c,?_,hr,a⟩
   rw [b,List.length_take]
   simp only [List.length_drop]
   omega
  ·cases h
 ·cases h
theorem cut_chg {c d e : UInt8} (hd : d ≠ c) (he : e ≠ c) (v : List UInt8) : ∀ u : List UInt8,∃ A a1 a2 B,cutL c (u ++ d :: v) = A ++ (a1 ++ d :: a2) :: B∧cutL c (u ++ e :: v) = A ++ (a1 ++ e :: a2) :: B
 | []=>by
  refine ⟨[],[],(cut1 c v).1,(cut1 c v).2,?_,?_⟩
  ·simp only [List.nil_append,cutL,cut1];rw [if_neg hd]
  ·simp only [List.nil_append,cutL,cut1];rw [if_neg he]
 | x :: u=>by
  obtain ⟨A,a1,a2,B,h1,h2⟩:=cut_chg hd he v u
  by_cases hx : x = c
  ·refine ⟨[] :: A,a1,a2,B,?_,?_⟩
   ·rw [List.cons_append,cutL,cut1,if_pos hx,List.cons_append,← h1];rfl
   ·rw [List.cons_append,cutL,cut1,if_pos hx,List.cons_append,← h2];rfl
  ·have up : ∀ s : List UInt8,cutL c (x :: s) = match cutL c s with | y :: ys=>(x :: y) :: ys | []=>[]:=by
    intro s;rw [cutL,cut1,if_neg hx];rfl
   rw [List.cons_append,List.cons_append,up,up,h1,h2]
   cases A with
   | nil=>exact ⟨[],x :: a1,a2,B,rfl,rfl⟩
   | cons y A=>exact ⟨(x :: y) :: A,a1,a2,B,rfl,rfl⟩
theorem at_end {α : Type} {z : List α} {Lm A B : List (List α)} {X E : List α} (h : Lm ++ [E,z] = A ++ X :: B) (hX : X ≠ z) : (A = Lm∧X = E∧B = [z])∨∃ m,Lm = A ++ X :: m∧B = m ++ [E,z]:=by
 rcases List.append_eq_append_iff.1 h with ⟨m,h1,h2⟩ | ⟨m,h1,h2⟩
 ·match m,h2 with
  | [],h2=>left;simp at h2;exact ⟨by simpa using h1,h2.1.symm,h2.2.symm⟩
  | [y],h2=>simp at h2;exact absurd h2.2.1.symm hX
  | y :: y2 :: m,h2=>simp at h2
 ·match m,h2 with
  | [],h2=>left;simp at h2;exact ⟨by simpa using h1.symm,h2.1,h2.2⟩
  | y :: m,h2=>right;simp at h2;exact ⟨m,by rw [h1,h2.1],h2.2⟩
def lineS (p : Int) : List UInt8→Int
 | []=>0
 | x :: xs=>(x.toNat : Int) * (p + 1) + lineS (p + 1) xs
def rowsS (i : Int) : List (List UInt8)→Int
 | []=>0
 | x :: xs=>lineS 0 x * (i + 1) + rowsS (i + 1) xs
theorem lineS_app (a b : List UInt8) : ∀ p : Int,lineS p (a ++ b) = lineS p a + lineS (p + a.length) b:=by
 induction a with
 | nil=>intro p;simp [lineS]
 | cons x a ih =>
  intro p
  simp only [List.cons_append,lineS,List.length_cons]
  rw [ih,show p + 1 + (a.length : Int) = p + ((a.length + 1 : Nat) : Int) by omega]
  omega
theorem rowsS_app (a b : List (List UInt8)) : ∀ p : Int,rowsS p (a ++ b) = rowsS p a + rowsS (p + a.length) b:=by
 induction a with
 | nil=>intro p;simp [rowsS]
 | cons x a ih =>
  intro p
  simp only [List.cons_append,rowsS,List.length_cons]
  rw [ih,show p + 1 + (a.length : Int) = p + ((a.length + 1 : Nat) : Int) by omega]
  omega
theorem sum_plain (s : ByteArray) (i : Int) (i0 : 0≤i) (i1 : i≤999) : ∀ (d p : Nat) (chk : Int),p + d = s.size→s.size≤1000→0≤chk→chk + sumBd d≤1000000000000000→sumB s i d p chk = chk + lineS p ((ubl s).drop p) * (i + 1)
 | 0,p,chk,hp,hs,c0,c1=>by
  rw [List.drop_of_length_le (by rw [bl_size];omega)]
  simp [sumB,lineS]
 | d + 1,p,chk,hp,hs,c0,c1=>by
  rw [sumBd_succ] at c1
  have sd : 0≤sumBd d:=by unfold sumBd;omega
  have hb:=bt_in s p
  have m:=mul_in hb.1 hb.2 (show 0≤(p : Int) + 1 by omega) (show (p : Int) + 1≤1000 by omega) (show 0≤i + 1 by omega) (show i + 1≤1000 by omega)
  have hlt : p < (ubl s).length:=by rw [bl_size];omega
  simp only [sumB]
  rw [w64 (n:=bt s p * ((p : Int) + 1)) (by omega),w64 (n:=bt s p * ((p : Int) + 1) * (i + 1)) (by omega),w64 (n:=chk + _) (by omega)]
  have ih:=sum_plain s i i0 i1 d (p + 1) (chk + bt s p * ((p : Int) + 1) * (i + 1)) (by omega) hs (by omega) (by omega)
  rw [show ((p : Int) + 1) = ((p + 1 : Nat) : Int) by omega] at ih ⊢
  rw [ih,List.drop_eq_getElem_cons hlt,lineS,bt_ubl,dif_pos hlt,Int.add_mul,Int.add_assoc]
  rfl
theorem seal_plain : ∀ (xs : List ByteArray) (i : Int) (out : ByteArray) (chk : Int),0≤i→i + xs.length≤900→(∀ x ∈ xs,x.size≤1000)→0≤chk→chk≤255000000000 * i→(sealGo xs i out chk).2 = chk + rowsS i (xs.map ubl)
 | [],i,out,chk,h0,h1,hx,c0,c1=>by simp [sealGo,rowsS]
 | x :: xs,i,out,chk,h0,h1,hx,c0,c1=>by
  simp only [List.length_cons] at h1
  have hz:=hx x (by simp)
  have sb : sumBd x.size≤255000000000:=by unfold sumBd;omega
  have hs:=sum_in x i h0 (by omega) x.size 0 chk (by omega) (by omega) c0 (by omega)
  have hp:=sum_plain x i h0 (by omega) x.size 0 chk (by omega) (by omega) c0 (by omega)
  simp only [sealGo,List.map_cons,rowsS]
  rw [seal_plain xs (i + 1) _ _ (by omega) (by omega) (fun y hy=>hx y (by simp [hy])) (by omega) (by omega)]
  rw [show ((0 : Nat) : Int) = 0 from rfl] at hp
  rw [hp,List.drop_zero]
  omega
theorem chkC_plain {weir spill : Int} {noz : List S48} (h : okN weir spill noz) : 0≤rowsS 0 ((linesL weir spill noz).map ubl)∧chkC weir spill noz = rowsS 0 ((linesL weir spill noz).map ubl) % 127:=by
 have hl:=h.1
 have hx : ∀ x ∈ linesL weir spill noz,x.size≤1000:=fun x hx=>by have:=lines_size h x hx;omega
 have n:=chk_nn (linesL weir spill noz) 0 ByteArray.empty 0 (by omega) (by simp [linesL];omega) hx (by omega) (by omega)
 have p:=seal_plain (linesL weir spill noz) 0 ByteArray.empty 0 (by omega) (by simp [linesL];omega) hx (by omega) (by omega)
 rw [Int.zero_add] at p
 unfold chkC
 rw [Int.tmod_eq_emod_of_nonneg n,p]
 exact ⟨by rw [← p];exact n,rfl⟩
def endV (l : List UInt8) : Int:=match l.drop 4 with
 | [a,b,c]=>((a.toNat : Int) - 48) * 100 + ((b.toNat : Int) - 48) * 10 + ((c.toNat : Int) - 48)
 | _=>-1
theorem it_dig {n : Int} (h0 : 0≤n) (h1 : n≤9) : ∃ x : UInt8,ubl (itB n) = [x]∧(x.toNat : Int) = 48 + n:=by
 obtain ⟨m,rfl⟩ : ∃ m : Nat,n = m:=⟨n.toNat,by omega⟩
 rw [itB_nn h0,Int.toNat_natCast]
 have : ∀ m : Nat,m < 10→∃ x : UInt8,Lib.decDigits m = [x]∧(x.toNat : Int) = 48 + m:=by
  intro m hm
  rcases m with _ | _ | _ | _ | _ | _ | _ | _ | _ | _ | m
  all_goals first | exact ⟨_,by rw [Lib.decDigits];rfl,rfl⟩ | omega
 exact this m (by omega)
theorem endV_eq {c : Int} (c0 : 0≤c) (c1 : c≤126) : endV (ubl (endL c)) = c:=by
 have q1 : Int.tdiv c 100 = c / 100:=Int.tdiv_eq_ediv_of_nonneg c0
 have q2 : Int.tdiv c 10 = c / 10:=Int.tdiv_eq_ediv_of_nonneg c0
 have q3 : Int.tmod c 10 = c % 10:=Int.tmod_eq_emod_of_nonneg c0
 have q4 : Int.tmod (c / 10) 10 = c / 10 % 10:=Int.tmod_eq_emod_of_nonneg (by omega)
 unfold endL
 rw [q1,q2,q3,q4]
 obtain ⟨x,hx,ex⟩:=it_dig (n:=c / 100) (by omega) (by omega)
 obtain ⟨y,hy,ey⟩:=it_dig (n:=c / 10 % 10) (by omega) (by omega)
 obtain ⟨z,hz,ez⟩:=it_dig (n:=c % 10) (by omega) (by omega)
 simp only [bl_app]
 rw [hx,hy,hz]
 have e : ubl endB = [101,110,100,32]:=rfl
 rw [e]
 simp only [List.cons_append,List.nil_append,endV,List.drop_succ_cons,List.drop_zero]
 omega
theorem no127 : ∀ (d a r : Nat),d < 10→0 < d→a < 32→0 < a→r < 9→0 < r→d * a * r % 127 ≠ 0:=by
 have : ∀ d : Fin 10,∀ a : Fin 32,∀ r : Fin 9,0 < d.1→0 < a.1→0 < r.1→d.1 * a.1 * r.1 % 127 ≠ 0:=by decide +kernel
 intro d a r h1 h2 h3 h4 h5 h6
 exact this ⟨d,h1⟩ ⟨a,h3⟩ ⟨r,h5⟩ h2 h4 h6
theorem lines_app {weir spill : Int} {noz : List S48} (h : okN weir spill noz) : cutL 10 (ubl (ca_text.f weir spill noz)) = (linesL weir spill noz).map ubl ++ [ubl (endL (chkC weir spill noz)),[]]:=by
 have c:=seal_cut (lines_clean h) (chkC_nn h).1 0 0
 unfold chkC at c ⊢
 rw [text_seal,c]
theorem one_digit {weir spill weir2 spill2 : Int} {noz noz2 : List S48} (h : okP weir spill noz) (h2 : okP weir2 spill2 noz2) (hn : noz.length≤6) {u v : List UInt8} {d e : UInt8} (hd : 48≤d.toNat∧d.toNat≤57) (he : 48≤e.toNat∧e.toNat≤57) (hde : d ≠ e)
 (t1 : ubl (ca_text.f weir spill noz) = u ++ d :: v) (t2 : ubl (ca_text.f weir2 spill2 noz2) = u ++ e :: v) : False:=by
 have dne : d.toNat ≠ e.toNat:=fun q=>hde (UInt8.toNat_inj.1 q)
 have d10 : d ≠ 10:=fun q=>by rw [q] at hd;exact absurd hd.1 (by decide)
 have e10 : e ≠ 10:=fun q=>by rw [q] at he;exact absurd he.1 (by decide)
 obtain ⟨A,a1,a2,B,c1,c2⟩:=cut_chg d10 e10 v u
 rw [← t1,lines_app h.n] at c1
 rw [← t2,lines_app h2.n] at c2
 have k1:=chkC_plain h.n
 have k2:=chkC_plain h2.n
 have r1:=chkC_nn h.n
 have r2:=chkC_nn h2.n
 rcases at_end c1 (by simp) with ⟨x1,x2,x3⟩ | ⟨m,x1,x2⟩
 ·rcases at_end c2 (by simp) with ⟨y1,y2,y3⟩ | ⟨m2,y1,y2⟩
  ·rw [← x1] at k1
   rw [← y1] at k2
   have : chkC weir spill noz = chkC weir2 spill2 noz2:=by rw [k1.2,k2.2]
   rw [← this,← x2] at y2
   simp only [List.append_cancel_left_eq,List.cons.injEq] at y2
   exact hde y2.1.symm
  ·rw [x3] at y2
   have:=congrArg List.length y2
   simp at this
 ·rcases at_end c2 (by simp) with ⟨y1,y2,y3⟩ | ⟨m2,y1,y2⟩
  ·rw [y3] at x2
   have:=congrArg List.length x2
   simp at this
  ·rw [x2] at y2
   have z:=List.append_inj' y2 rfl
   rw [← z.1] at y1
   have ee : ubl (endL (chkC weir spill noz)) = ubl (endL (chkC weir2 spill2 noz2)):=by
    have:=z.2;simp only [List.cons.injEq] at this;exact this.1
   have ce : chkC weir spill noz = chkC weir2 spill2 noz2:=by rw [← endV_eq r1.1 r1.2,← endV_eq r2.1 r2.2,ee]
   rw [k1.2,k2.2,x1,y1,rowsS_app,rowsS_app] at ce
   simp only [rowsS,lineS_app,lineS] at ce
   have la : a1.length < 31:=by
    have hm : (a1 ++ d :: a2) ∈ (linesL weir spill noz).map ubl:=by rw [x1];simp
    obtain ⟨x,hx,ex⟩:=List.mem_map.1 hm
    have s1:=lines_size h.n x hx
    rw [← bl_size,ex] at s1
    simp at s1
    omega
   have lr : A.length < 8:=by
    have:=congrArg List.length x1
    simp [linesL] at this
    omega
   obtain ⟨a,ha⟩ : ∃ a,a = a1.length + 1:=⟨_,rfl⟩
   obtain ⟨r,hr⟩ : ∃ r,r = A.length + 1:=⟨_,rfl⟩
   have n1:=no127 (e.toNat - d.toNat) a r
   have n2:=no127 (d.toNat - e.toNat) a r
   rw [Nat.sub_mul,Nat.sub_mul] at n1 n2
   have pd : ((d.toNat : Int) * (0 + (a1.length : Int) + 1)) * (0 + (A.length : Int) + 1) = ((d.toNat * a * r : Nat) : Int):=by
    rw [ha,hr];simp
   have pe : ((e.toNat : Int) * (0 + (a1.length : Int) + 1)) * (0 + (A.length : Int) + 1) = ((e.toNat * a * r : Nat) : Int):=by
    rw [ha,hr];simp
   simp only [Int.add_mul (_ : Int) _ (0 + (A.length : Int) + 1)] at ce
   rw [pd,pe] at ce
   have le1 : d.toNat≤e.toNat→d.toNat * a * r≤e.toNat * a * r:=fun q=>Nat.mul_le_mul_right _ (Nat.mul_le_mul_right _ q)
   have le2 : e.toNat≤d.toNat→e.toNat * a * r≤d.toNat * a * r:=fun q=>Nat.mul_le_mul_right _ (Nat.mul_le_mul_right _ q)
   generalize d.toNat * a * r = D at *
   generalize e.toNat * a * r = E at *
   generalize lineS 0 a1 * _ = s1 at ce
   generalize lineS _ a2 * _ = s2 at ce
   generalize rowsS 0 A = s3 at ce
   generalize rowsS _ m = s4 at ce
   by_cases q : d.toNat≤e.toNat
   ·have n1:=n1 (by omega) (by omega) (by omega) (by omega) (by omega) (by omega)
    have:=le1 q
    omega
   ·have n2:=n2 (by omega) (by omega) (by omega) (by omega) (by omega) (by omega)
    have:=le2 (by omega)
    omega
theorem u8_in {n : Int} (h0 : 0≤n) (h1 : n≤255) : IntKind.u8.wrap n = n:=by
 unfold IntKind.wrap
 simp [IntKind.signed,IntKind.bits]
 omega
theorem C_any {α : Type} (d : Kd α) (w : World) (A : Option Addr) : d.C w A ([] : List α).length []:=⟨rfl,by simp,fun h=>absurd h (Nat.lt_irrefl 0)⟩
def BytesAt (W : World) (g : Nat) (e : TypeId) (l : List UInt8) : Prop:=∃ cs : Array Value,W.heap[g]? = some (.cells cs e (cs.size,cs.size + 1))∧l.length≤cs.size∧∀ j (h : j < l.length),cs[j]? = some (.int .u8 (l[j]'h).toNat)
theorem BytesAt.cell {W : World} {g : Nat} {e : TypeId} {l : List UInt8} (h : BytesAt W g e l) (j : Nat) (hj : j < l.length) : W.cell? ⟨g,j,none⟩ = some (.int .u8 (l[j]'hj).toNat):=by
 obtain ⟨cs,h1,h2,h3⟩:=h
 rw [cell_of_row W g j cs e _ h1]
 exact h3 j hj
theorem BytesAt.free {W : World} {g : Nat} {e : TypeId} {l : List UInt8} (h : BytesAt W g e l) (j : Nat) (hj : j < l.length) : W.frozen? ⟨g,j,none⟩ = false:=by
 obtain ⟨cs,h1,h2,h3⟩:=h
 simp only [World.frozen?,h1]
 simp
 omega
theorem BytesAt.set {W : World} {g : Nat} {e : TypeId} {l : List UInt8} (h : BytesAt W g e l) (j : Nat) (hj : j < l.length) (x : UInt8) : BytesAt (W.setCell ⟨g,j,none⟩ (.int .u8 x.toNat)) g e (l.set j x):=by
 obtain ⟨cs,h1,h2,h3⟩:=h
 refine ⟨cs.setIfInBounds j (.int .u8 x.toNat),?_,by simpa using h2,fun i hi=>?_⟩
 ·rw [Array.size_setIfInBounds]
  simp [World.setCell,Array.getElem?_modify,h1]
 ·simp only [List.length_set] at hi
  rw [Array.getElem?_setIfInBounds]
  by_cases q : j = i
  ·subst q
   rw [if_pos rfl,if_pos (by omega)]
   simp
  ·rw [if_neg q,h3 i hi]
   simp [q]
theorem BytesAt.put {W : World} {g : Nat} {e : TypeId} {l : List UInt8} (h : BytesAt W g e l) (j : Nat) (hj : j < l.length) (x : UInt8) (v : Int) (hv : v = x.toNat) : BytesAt (W.setCell ⟨g,j,none⟩ (.int .u8 v)) g e (l.set j x):=by
 subst hv
 exact h.set j hj x
section
variable {P : Program} {ops : Array Oper} {o : Oper} {a : Act} {Q : Exit→Act→World→Prop} {rest : List Oper} {W : World}
theorem bytes_event {t t2 e : TypeId} {u : TypeDesc} {x : Operand} (s : ByteArray) (hgd : o.guard = none) (ho : o.op = .convert t t2 x) (hx : a.eval x = .string s) (hs : P.underlying t = some u) (hd : P.underlying t2 = some (.slice e)) (he : P.underlying e = some (.int .u8))
 (h : ∀ g c w1,g = W.heap.size→BytesAt w1 g e (ubl s)→Below W.heap.size W w1→wpList P ops Q rest (a.put o.dst (.slice (some ⟨g,0,none⟩) s.size c)) w1) : wpList P ops Q (o :: rest) a W:=by
 refine Kd.event_run hgd (v:=.slice (some ⟨W.heap.size,0,none⟩) s.size (grownCap W s.size 0 e)) (w1:=Lib.bytesWorld W e s) (by unfold execOp;simp [ho,hx,Lib.run_convert_string_bytes W t t2 e s hs hd he]) (h _ _ _ rfl ⟨_,Lib.bytesWorld_at_new W e s,?_,?_⟩ ?_)
 ·simp [Lib.bytesCells,ubl]
 ·intro j hj
  have hj2 : j < s.size:=by rw [← bl_size];exact hj
  simp [Lib.bytesCells,Array.getElem?_append,hj2,ubl]
 ·have h0:=below_alloc (below_drew (Below.refl W.heap.size W)) (.cells (Lib.bytesCells W e s) e)
  exact ⟨h0.os,h0.tape,h0.output,by rw [Lib.bytesWorld_size];omega,fun j hj=>Lib.bytesWorld_at_old W e s j hj⟩
theorem push_all : ∀ (ns : List Int) (s : ByteArray),ubl (ns.foldl (fun r n=>r.push (UInt8.ofNat n.toNat)) s) = ubl s ++ ns.map fun n=>UInt8.ofNat n.toNat
 | [],s=>by simp
 | n :: ns,s=>by
  rw [List.foldl_cons,push_all ns]
  simp [ubl]
theorem str_event {t t2 e : TypeId} {x : Operand} {g c n : Nat} {l : List UInt8} (hn : l.length = n) (hgd : o.guard = none) (ho : o.op = .convert t t2 x) (hx : a.eval x = .slice (some ⟨g,0,none⟩) n c) (hs : P.underlying t = some (.slice e)) (he : P.underlying e = some (.int .u8)) (hd : P.underlying t2 = some .string) (hb : BytesAt W g e l)
 (h : wpList P ops Q rest (a.put o.dst (.string ⟨l.toArray⟩)) W) : wpList P ops Q (o :: rest) a W:=by
 subst hn
 refine Kd.event_run hgd (v:=.string ⟨l.toArray⟩) (w1:=W) ?_ h
 have hl:=run_loadCells (P:=P) W ⟨g,0,none⟩ l.length (fun j=>.int .u8 (l.getD j 0).toNat) (fun j hj=>by rw [add_plain,hb.cell j hj];simp [List.getD,hj])
 have e1 : ((List.range l.length).map fun j=>Value.int .u8 (l.getD j 0).toNat) = (l.map fun b=>(b.toNat : Int)).map (Value.int .u8):=by
  apply List.ext_getElem (by simp)
  intro i h1 h2
  simp at h1 h2
  simp [List.getD,h1]
 rw [e1] at hl
 have hc:=run_bytesToString W ⟨g,0,none⟩ l.length c _ hl
 have e2 : (l.map fun b=>(b.toNat : Int)).foldl (fun r n=>r.push (UInt8.ofNat n.toNat)) ByteArray.empty = ⟨l.toArray⟩:=by
  apply bl_inj
  rw [push_all,bl_mk,List.map_map]
  show [] ++ List.map _ l = l
  rw [List.nil_append]
  conv=>rhs;rw [← List.map_id l]
  apply List.map_congr_left
  intro b _
  simp
 rw [e2] at hc
 unfold execOp
 simp [ho,hx,run_convert_bytes_string W t t2 e _ _ _ hs he hd,hc]
end
end Go.Proofs.YtnnmnhpeblhiiaaGreatDoor.C

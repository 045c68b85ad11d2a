/- A part of the proof: the walks of the functions that it reaches. TIGHT. -/
import Derived.Test.YtnnmnhpeblhiiaaGreatDoorMV1
import Derived.Test.YtnnmnhpeblhiiaaGreatDoorProg
import Derived.Test.YtnnmnhpeblhiiaaGreatDoorRows
import Derived.Below
import Derived.Deep.Draws
import Derived.Deep.AppendLies
import Derived.Maps.AppendAt
import Derived.OwnWalk
import Derived.Laws.BytesArg
import Derived.Laws.MakeOwn
import Derived.Laws.OwnMore
import Derived.Deep.OwnRows
import Derived.Tactics
import Derived.Lib.ConvBytes
import Derived.Laws.Slices
import Derived.WalkKit
import Derived.KernelRfl
import Derived.RowKit3
import Derived.Deep.LoopGhost
import Derived.Deep.QuietTactic
import Derived.BigQuiet
import Derived.WideLaws
import Derived.Deep.DeepCutAuto
import Derived.Deep.CutBlock
import Derived.Deep.RegionHeld3
import Derived.Laws.Rows
import Derived.Lib.AppendStr
import Derived.ArgAppend
import Derived.Laws.IdiomCopy
import Derived.OrdersHeld
import Derived.Laws.BitsLemmas
import Derived.RowKit
import Derived.ProofKit
import Derived.OpenShut
import Derived.ChangeOld
import Derived.Carry
import Derived.Lib.SmallJoins
import Derived.Deep.Slices
import Derived.Lib.LaidTab
import Derived.LaidMore
import Derived.Lay
import Derived.Stop.Joined
import Derived.Laws.EntriesVeiled
import Derived.Laws.ResultCell
import Derived.Shelf.Strconv.Itoa0
import Derived.Shelf.Strconv.Itoa1
import Derived.Shelf.LaysM
import Derived.Shelf.Strconv.Itoa2
import Derived.Shelf.Strconv.Itoa3
import Derived.Shelf.Strings.Search1
import Derived.Shelf.Strings.Search2
import Derived.Shelf.Strings.Search3
import Derived.Shelf.Strings.Count
import Derived.Shelf.Strings.Shaped
import Derived.Shelf.Strings.Split
import Derived.Shelf.Unicode.DecodeSlow
import Derived.Shelf.Unicode.DecodeAny
import Derived.Shelf.Unicode.PredsPay
import Derived.Lib.AppendIntMem
set_option linter.unusedVariables false
set_option linter.unusedSimpArgs false
namespace Go.Proofs.YtnnmnhpeblhiiaaGreatDoor.C
open Go.RowKit Go.Proofs.YtnnmnhpeblhiiaaGreatDoorW.PrintWords Go.Proofs.YtnnmnhpeblhiiaaGreatDoorW.PrintLast
set_option linter.unusedVariables false
set_option linter.unusedSimpArgs false
set_option maxHeartbeats 16000000
set_option maxRecDepth 100000
theorem cO1 {W : World} {g t : Nat} {v0 : Value} {r : List Value} (h : W.heap[g]? = some (.cells (v0 :: r).toArray t (0,0))) : W.cell? ⟨g,0,none⟩ = some v0:=by
 exact (blk_cell h _).trans rfl
theorem cO2 {W : World} {g t : Nat} {v0 v1 : Value} {r : List Value} (h : W.heap[g]? = some (.cells (v0 :: v1 :: r).toArray t (0,0))) : W.cell? ⟨g,0,none⟩ = some v0∧W.cell? ⟨g,1,none⟩ = some v1:=by
 refine ⟨?_,?_⟩<;>exact (blk_cell h _).trans rfl
theorem cO3 {W : World} {g t : Nat} {v0 v1 v2 : Value} {r : List Value} (h : W.heap[g]? = some (.cells (v0 :: v1 :: v2 :: r).toArray t (0,0))) : W.cell? ⟨g,0,none⟩ = some v0∧W.cell? ⟨g,1,none⟩ = some v1∧W.cell? ⟨g,2,none⟩ = some v2:=by
 refine ⟨?_,?_,?_⟩<;>exact (blk_cell h _).trans rfl
theorem cO4 {W : World} {g t : Nat} {v0 v1 v2 v3 : Value} {r : List Value} (h : W.heap[g]? = some (.cells (v0 :: v1 :: v2 :: v3 :: r).toArray t (0,0))) : W.cell? ⟨g,0,none⟩ = some v0∧W.cell? ⟨g,1,none⟩ = some v1∧W.cell? ⟨g,2,none⟩ = some v2∧W.cell? ⟨g,3,none⟩ = some v3:=by
 refine ⟨?_,?_,?_,?_⟩<;>exact (blk_cell h _).trans rfl
theorem cO5 {W : World} {g t : Nat} {v0 v1 v2 v3 v4 : Value} {r : List Value} (h : W.heap[g]? = some (.cells (v0 :: v1 :: v2 :: v3 :: v4 :: r).toArray t (0,0))) : W.cell? ⟨g,0,none⟩ = some v0∧W.cell? ⟨g,1,none⟩ = some v1∧W.cell? ⟨g,2,none⟩ = some v2∧W.cell? ⟨g,3,none⟩ = some v3∧W.cell? ⟨g,4,none⟩ = some v4:=by
 refine ⟨?_,?_,?_,?_,?_⟩<;>exact (blk_cell h _).trans rfl
theorem cO6 {W : World} {g t : Nat} {v0 v1 v2 v3 v4 v5 : Value} {r : List Value} (h : W.heap[g]? = some (.cells (v0 :: v1 :: v2 :: v3 :: v4 :: v5 :: r).toArray t (0,0))) : W.cell? ⟨g,0,none⟩ = some v0∧W.cell? ⟨g,1,none⟩ = some v1∧W.cell? ⟨g,2,none⟩ = some v2∧W.cell? ⟨g,3,none⟩ = some v3∧W.cell? ⟨g,4,none⟩ = some v4∧W.cell? ⟨g,5,none⟩ = some v5:=by
 refine ⟨?_,?_,?_,?_,?_,?_⟩<;>exact (blk_cell h _).trans rfl
theorem cO7 {W : World} {g t : Nat} {v0 v1 v2 v3 v4 v5 v6 : Value} {r : List Value} (h : W.heap[g]? = some (.cells (v0 :: v1 :: v2 :: v3 :: v4 :: v5 :: v6 :: r).toArray t (0,0))) : W.cell? ⟨g,0,none⟩ = some v0∧W.cell? ⟨g,1,none⟩ = some v1∧W.cell? ⟨g,2,none⟩ = some v2∧W.cell? ⟨g,3,none⟩ = some v3∧W.cell? ⟨g,4,none⟩ = some v4∧W.cell? ⟨g,5,none⟩ = some v5∧W.cell? ⟨g,6,none⟩ = some v6:=by
 refine ⟨?_,?_,?_,?_,?_,?_,?_⟩<;>exact (blk_cell h _).trans rfl
theorem ne_new {W : World} {g g' : Nat} {o : Obj} (h : W.heap[g]? = some o) (hg : g' = W.heap.size) : g ≠ g':=by
 rw [hg];exact Nat.ne_of_lt (blk_lt h)
theorem ne_new2 {W : World} {g g' : Nat} {o : Obj} (h : W.heap[g]? = some o) (hg : g' = W.heap.size) : g' ≠ g:=(ne_new h hg).symm
theorem ge_new {w W : World} {g' : Nat} (h : Below w.heap.size w W) (hg : g' = W.heap.size) : w.heap.size≤g':=by
 rw [hg];exact below_size h
theorem am {p : Prop} (h : p) : Aside0 p:=⟨h⟩
theorem bmv {w W W2 : World} (h : Aside0 (Below w.heap.size w W)) (k : Below W.heap.size W W2) : Aside0 (Below w.heap.size w W2):=⟨below_step h.out k⟩
theorem kmv {W W2 : World} {g : Nat} {t : TypeId} {cs : Array Value} (k : Below W.heap.size W W2) (h : Aside0 (W.heap[g]? = some (.cells cs t (0,0)))) : Aside0 (W2.heap[g]? = some (.cells cs t (0,0))):=⟨blk_below h.out k⟩
theorem cmv {α : Type} {d : Kd α} {W W2 : World} {A : Option Addr} {n : Nat} {xs : List α} (h : Aside0 (d.C W A n xs)) (k : Below W.heap.size W W2) : Aside0 (d.C W2 A n xs):=⟨Kd.C_below h.out k⟩
theorem NRM : (∀ (α : Type) (l : List α) (i : Nat) (a : α),l.toArray.setIfInBounds i a = (l.set i a).toArray)∧(∀ (α : Type) (a b : α) (l : List α),(a :: l).set 0 b = b :: l)∧(∀ (α : Type) (a b : α) (l : List α) (n : Nat),(a :: l).set (n + 1) b = a :: l.set n b)∧(∀ n,IntKind.i64.wrap n = wrap64 n)∧(∀ n,IntKind.i32.wrap n = Go.RowKit.wrap32 n):=
 ⟨fun _ _ _ _=>by simp,fun _ _ _ _=>rfl,fun _ _ _ _ _=>rfl,i64_w,i32_w⟩
def bl : Nat→Nat→List Bool
 | 0,_=>[]
 | n + 1,k=>(k % 2 == 1) :: bl n (k / 2)
def ba (n k : Nat) : Array Bool:=(bl n k).toArray
theorem kC {α : Type} {d : Kd α} {W W2 : World} {A : Option Addr} {n : Nat} {xs : List α} (h : d.C W A n xs) (k : Below W.heap.size W W2) : d.C W2 A n xs:=Kd.C_below h k
theorem wbl {w : World} {a : Addr} {v : Value} (h : w.cell? a = some v) : a.block < w.heap.size:=World.block_lt_of_cell? w _ h
theorem obm {α β : Type} {o : Option α} {f : α→Option β} {b : β} (h : o.bind f = some b) : ∃ a,o = some a∧f a = some b:=Option.bind_eq_some_iff.mp h
theorem NR3 : (∀ (α : Type) (l : List α) (i : Nat) (a : α),l.toArray.setIfInBounds i a = (l.set i a).toArray)∧(∀ (α : Type) (a b : α) (l : List α),(a :: l).set 0 b = b :: l)∧(∀ (α : Type) (a b : α) (l : List α) (n : Nat),(a :: l).set (n + 1) b = a :: l.set n b):=⟨NRM.1,NRM.2.1,NRM.2.2.1⟩
end Go.Proofs.YtnnmnhpeblhiiaaGreatDoor.C
namespace Go.Proofs.YtnnmnhpeblhiiaaGreatDoor.C
open Go.RowKit Go.Proofs.YtnnmnhpeblhiiaaGreatDoorW.PrintWords Go.Proofs.YtnnmnhpeblhiiaaGreatDoorW.PrintLast Go.Proofs.YtnnmnhpeblhiiaaGreatDoorW.PrintMore
set_option linter.unusedVariables false
set_option linter.unusedSimpArgs false
set_option maxHeartbeats 16000000
set_option maxRecDepth 100000
section
attribute [local go_sem] max2_int min2_int max_two min_two
def errW : Option Int→Value
 | none=>.nilIface
 | some c=>.iface 0 (.int .i64 c)
theorem info3 : (Tryz.prog.info? 3).map (fun i=>(i.zero,i.size,i.bytes)) = some (some (.int .i64 0),1,8):=by kernel_rfl
theorem info28 : (Tryz.prog.info? 28).map (fun i=>(i.zero,i.size,i.bytes)) = some (some (.slice none 0 0),1,24):=by kernel_rfl
theorem info48 : (Tryz.prog.info? 48).map (fun i=>(i.zero,i.size,i.bytes)) = some (some (.agg #[(.int .i64 0),(.int .i64 0)]),2,16):=by kernel_rfl
structure S126 where
 f0 : Int
 f1 : Int
 f2 : Int
def z126 : S126:=⟨(0 : Int),(0 : Int),(0 : Int)⟩
def k126 : Kd S126:=Kd.iso (Kd.pair (Kd.int .i64) (Kd.pair (Kd.int .i64) (Kd.int .i64))) (fun x : S126=>(x.f0,x.f1,x.f2))
theorem k126_open {w : World} {x : S126} {cs : List Value} (h : k126.K w x cs) : cs = [.int .i64 x.f0,.int .i64 x.f1,.int .i64 x.f2]:=by
 obtain ⟨_,_,rfl,rfl,⟨_,_,rfl,rfl,rfl⟩⟩:=h
 exact rfl
theorem k126_mk (w : World) (x : S126)  : k126.K w x [.int .i64 x.f0,.int .i64 x.f1,.int .i64 x.f2]:=⟨[.int .i64 x.f0],[.int .i64 x.f1,.int .i64 x.f2],rfl,rfl,⟨[.int .i64 x.f1],[.int .i64 x.f2],rfl,rfl,rfl⟩⟩
theorem k126_mkM (w : World) (base : Nat) (ok : Nat→Prop) (x : S126)  : k126.M w base ok x [.int .i64 x.f0,.int .i64 x.f1,.int .i64 x.f2]:=⟨[.int .i64 x.f0],[.int .i64 x.f1,.int .i64 x.f2],rfl,rfl,⟨[.int .i64 x.f1],[.int .i64 x.f2],rfl,rfl,rfl⟩⟩
def rd_T126 (xs : List S126) (i : Int) : S126:=xs.getD i.toNat z126
theorem at_T126 {w : World} {A : Option Addr} {n : Nat} {xs : List S126} (h : Kd.C k126 w A n xs) (i : Int) (h0 : 0≤i) (h1 : i < n) : ∃ ad ,A = some ad∧w.cell? (ad.add (i.toNat * 3)) = some (.int .i64 (rd_T126 xs i).f0)∧w.cell? ⟨(ad.add (i.toNat * 3)).block,(ad.add (i.toNat * 3)).off + 1,none⟩ = some (.int .i64 (rd_T126 xs i).f1)∧w.cell? ⟨(ad.add (i.toNat * 3)).block,(ad.add (i.toNat * 3)).off + 2,none⟩ = some (.int .i64 (rd_T126 xs i).f2):=by
 obtain ⟨ad,c,e,_,hK,hc0⟩:=Kd.C_get h z126 i h0 h1
 have hc : ∀ j u,c[j]? = some u→w.cell? (ad.add (i.toNat * 3 + j)) = some u:=hc0
 obtain rfl:=k126_open hK
 exact ⟨ad,e,hc 0 _ rfl,by rw [← add_field _ _ 1 (by omega)];exact hc 1 _ rfl,by rw [← add_field _ _ 2 (by omega)];exact hc 2 _ rfl⟩
def rd_L3 (xs : List (List Int)) (i : Int) : (List Int):=xs.getD i.toNat ([] : List Int)
theorem at_L3 {w : World} {A : Option Addr} {n : Nat} {xs : List (List Int)} (h : Kd.C (Kd.slice 3 (Kd.int .i64)) w A n xs) (i : Int) (h0 : 0≤i) (h1 : i < n) : ∃ ad A0 c0,A = some ad∧w.cell? (ad.add i.toNat) = some (.slice A0 (rd_L3 xs i).length c0)∧(rd_L3 xs i).length≤c0∧(Kd.int .i64).C w A0 (rd_L3 xs i).length (rd_L3 xs i):=by
 obtain ⟨ad,c,e,_,hK,hc0⟩:=Kd.C_get h ([] : List Int) i h0 h1
 have hc : ∀ j u,c[j]? = some u→w.cell? (ad.add (i.toNat * 1 + j)) = some u:=hc0
 obtain ⟨A0,c0,rfl,l0,g0⟩:=hK
 exact ⟨ad,A0,c0,e,by have hq:=hc 0 _ rfl;rwa [Nat.mul_one,Nat.add_zero] at hq,l0,g0⟩
structure S48 where
 f0 : Int
 f1 : Int
def z48 : S48:=⟨(0 : Int),(0 : Int)⟩
def k48 : Kd S48:=Kd.iso (Kd.pair (Kd.int .i64) (Kd.int .i64)) (fun x : S48=>(x.f0,x.f1))
theorem k48_open {w : World} {x : S48} {cs : List Value} (h : k48.K w x cs) : cs = [.int .i64 x.f0,.int .i64 x.f1]:=by
 obtain ⟨_,_,rfl,rfl,rfl⟩:=h
 exact rfl
theorem k48_mk (w : World) (x : S48)  : k48.K w x [.int .i64 x.f0,.int .i64 x.f1]:=⟨[.int .i64 x.f0],[.int .i64 x.f1],rfl,rfl,rfl⟩
theorem k48_mkM (w : World) (base : Nat) (ok : Nat→Prop) (x : S48)  : k48.M w base ok x [.int .i64 x.f0,.int .i64 x.f1]:=⟨[.int .i64 x.f0],[.int .i64 x.f1],rfl,rfl,rfl⟩
def rd_T48 (xs : List S48) (i : Int) : S48:=xs.getD i.toNat z48
theorem at_T48 {w : World} {A : Option Addr} {n : Nat} {xs : List S48} (h : Kd.C k48 w A n xs) (i : Int) (h0 : 0≤i) (h1 : i < n) : ∃ ad ,A = some ad∧w.cell? (ad.add (i.toNat * 2)) = some (.int .i64 (rd_T48 xs i).f0)∧w.cell? ⟨(ad.add (i.toNat * 2)).block,(ad.add (i.toNat * 2)).off + 1,none⟩ = some (.int .i64 (rd_T48 xs i).f1):=by
 obtain ⟨ad,c,e,_,hK,hc0⟩:=Kd.C_get h z48 i h0 h1
 have hc : ∀ j u,c[j]? = some u→w.cell? (ad.add (i.toNat * 2 + j)) = some u:=hc0
 obtain rfl:=k48_open hK
 exact ⟨ad,e,hc 0 _ rfl,by rw [← add_field _ _ 1 (by omega)];exact hc 1 _ rfl⟩
end
def anyM {α : Type} (q : α→Option Bool) : List α→Option Bool
 | []=>some false
 | x :: xs=>(q x).bind fun b=>if b = true then some true else anyM q xs
def idxM {α : Type} (q : α→Option Bool) : List α→Int→Option Int
 | [],_=>some (-1)
 | x :: xs,i=>(q x).bind fun b=>if b = true then some i else idxM q xs (i + 1)
theorem idxM_of_anyM {α : Type} (q : α→Option Bool) : ∀ (xs : List α) (i : Int) (r : Bool),0≤i→anyM q xs = some r→∃ j,idxM q xs i = some j∧decide (0≤j) = r
 | [],i,r,hi,h=>by
  simp only [anyM] at h;obtain rfl:=Option.some.inj h;exact ⟨-1,rfl,by decide⟩
 | x :: xs,i,r,hi,h=>by
  simp only [anyM] at h
  obtain ⟨b,hb,h⟩:=obm h
  cases b with
  | true=>rw [if_pos rfl] at h;obtain rfl:=Option.some.inj h;exact ⟨i,by simp only [idxM,hb,Option.bind_some];rfl,decide_eq_true hi⟩
  | false =>
   rw [if_neg (by decide)] at h
   obtain ⟨j,hj,hd⟩:=idxM_of_anyM q xs (i + 1) r (by omega) h
   exact ⟨j,by simp only [idxM,hb,Option.bind_some];exact hj,hd⟩
theorem drop_at {α : Type} (d : α) (xs : List α) (i : Int) (h0 : 0≤i) (h1 : i < xs.length) : xs.drop i.toNat = xs.getD i.toNat d :: xs.drop (i + 1).toNat:=by
 rw [show (i + 1).toNat = i.toNat + 1 by omega,List.drop_eq_getElem_cons (show i.toNat < xs.length by omega),List.getD_eq_getElem?_getD,List.getElem?_eq_getElem (show i.toNat < xs.length by omega)]
 rfl
theorem getD_mem {α : Type} (d : α) {xs : List α} {i : Int} (h0 : 0≤i) (h1 : i < xs.length) : xs.getD i.toNat d ∈ xs:=by
 rw [List.getD_eq_getElem?_getD,List.getElem?_eq_getElem (show i.toNat < xs.length by omega)]
 simp
theorem idxM_step {α : Type} {q : α→Option Bool} (d : α) {xs : List α} {i : Int} {r : Int} (h0 : 0≤i) (h1 : i < xs.length) (h : idxM q (xs.drop i.toNat) i = some r) :
 (q (xs.getD i.toNat d) = some true∧i = r)∨(q (xs.getD i.toNat d) = some false∧idxM q (xs.drop (i + 1).toNat) (i + 1) = some r):=by
 rw [drop_at d xs i h0 h1] at h
 simp only [idxM] at h
 obtain ⟨b,hb,h⟩:=obm h
 cases b with
 | true=>exact .inl ⟨hb,Option.some.inj h⟩
 | false=>exact .inr ⟨hb,h⟩
theorem idxM_end {α : Type} {q : α→Option Bool} {xs : List α} {i : Int} {r : Int} (h1 : xs.length≤i) (h : idxM q (xs.drop i.toNat) i = some r) : -1 = r:=by
 rw [List.drop_of_length_le (by omega)] at h
 exact Option.some.inj h
theorem ret_int_eq {a b : Int} (h : a = b) : Ending.returned (.int .i64 a) = .returned (.int .i64 b):=by rw [h]
theorem ret_bool_eq {a b : Bool} (h : a = b) : Ending.returned (.bool a) = .returned (.bool b):=by rw [h]
end Go.Proofs.YtnnmnhpeblhiiaaGreatDoor.C
namespace Go.Proofs.YtnnmnhpeblhiiaaGreatDoor.C
open Go.ChangeShapes Go.WideShapes Go.ChangeAt Go.RowKit Go.Deep Go.Proofs.YtnnmnhpeblhiiaaGreatDoorW.PrintWords Go.Proofs.YtnnmnhpeblhiiaaGreatDoorW.PrintLast Go.Proofs.YtnnmnhpeblhiiaaGreatDoorW.PrintMore
set_option linter.unusedVariables false
set_option linter.unusedSimpArgs false
set_option maxHeartbeats 16000000
set_option maxRecDepth 100000
theorem own : ownKnob Tryz.prog.godebug = none:=by kernel_rfl
theorem laidOut : laidOutB Tryz.prog = true:=by kernel_rfl
section
variable {H : Type} {enc : TypeId × Value→H}
theorem list_of {α : Type} {P : Nat→α→Prop} : ∀ n : Nat,(∀ i,i < n→∃ x,P i x)→∃ xs : List α,xs.length = n∧∀ (i : Nat) x,xs[i]? = some x→P i x
 | 0,_=>⟨[],rfl,fun i x h=>by simp at h⟩
 | n + 1,h=>by
  obtain ⟨xs,hl,hx⟩:=list_of (P:=P) n (fun i hi=>h i (by omega))
  obtain ⟨x,hn⟩:=h n (by omega)
  refine ⟨xs ++ [x],by simp [hl],fun i y hy=>?_⟩
  by_cases hi : i < xs.length
  ·rw [List.getElem?_append_left hi] at hy;exact hx i y hy
  ·rw [List.getElem?_append_right (by omega)] at hy
   have e : i - xs.length = 0:=by
    rcases Nat.eq_zero_or_pos (i - xs.length) with z | z
    ·exact z
    ·rw [List.getElem?_eq_none (by simp;omega)] at hy;cases hy
   rw [e] at hy
   simp at hy
   subst hy
   rw [show i = n by omega]
   exact hn
theorem row_in {α : Type} (k : Kd α) {t e : TypeId} {W : World} {base fuel : Nat} {sp : Nat→Bool} {held : Bool} {cs : List Value} {x : DataW H × List MemPlace} (ht : Tryz.prog.underlying t = some (.slice e)) (hC : Tryz.prog.cellsOf e = k.sz)
 (hel : ∀ (n : Nat) (cs : List Value) (y : DataW H × List MemPlace),DataW.trod enc Tryz.prog W base sp held n e cs = some y→∃ z : α,k.K W z cs)
 (h : DataW.trod enc Tryz.prog W base sp held fuel t cs = some x) (hsp : ∀ b,sp b = true) : ∃ (A : Option Addr) (c : Nat) (xs : List α),cs = [.slice A xs.length c]∧xs.length≤c∧Kd.C k W A xs.length xs:=by
 rcases open_slice ht h with ⟨rfl,_⟩ | ⟨a,len,cap,m,n,D,Pl,rfl,hb,hl,hm,hmm,hx,hi⟩
 ·exact ⟨none,0,[],rfl,Nat.le_refl _,rfl,by simp,fun h=>absurd h (by simp)⟩
 ·rw [hsp,if_pos rfl] at hmm
  obtain ⟨xs,hlen,hxs⟩:=list_of (P:=fun i (z : α)=>∃ cs',cs'.length = k.sz∧k.K W z cs'∧∀ (j : Nat) u,cs'[j]? = some u→W.cell? (a.add (i * k.sz + j)) = some u) len (fun i hil=>by
   obtain ⟨cs',hc,ht'⟩:=hi i (by omega)
   rw [hC] at hc
   obtain ⟨_,hcl,hat⟩:=World.cells?_some hc
   obtain ⟨z,hz⟩:=hel _ _ _ ht'
   refine ⟨z,cs',hcl,hz,fun j u hu=>?_⟩
   have hj : j < cs'.length:=(List.getElem?_eq_some_iff.1 hu).1
   rw [← Go.Deep.add_add,hat j (by omega),hu])
  subst hlen
  refine ⟨some a,cap,xs,rfl,hl,rfl,by unfold maxLen at hm;omega,fun _=>⟨a,rfl,fun j p hp=>?_⟩⟩
  obtain ⟨c,h1,h2,h3⟩:=hxs j p hp
  exact ⟨c,h1,h2,h3⟩
theorem len2 {cs : List Value} (h : cs.length = 2) : ∃ x y,cs = [x,y]:=by
 match cs,h with
 | [x,y],_=>exact ⟨x,y,rfl⟩
theorem len3 {cs : List Value} (h : cs.length = 3) : ∃ x y z,cs = [x,y,z]:=by
 match cs,h with
 | [x,y,z],_=>exact ⟨x,y,z,rfl⟩
theorem len5 {cs : List Value} (h : cs.length = 5) : ∃ x y z u v,cs = [x,y,z,u,v]:=by
 match cs,h with
 | [x,y,z,u,v],_=>exact ⟨x,y,z,u,v,rfl⟩
theorem int_cell {W : World} {base n : Nat} {sp : Nat→Bool} {held : Bool} {cs : List Value} {y : DataW H × List MemPlace} (h : DataW.trod enc Tryz.prog W base sp held n 3 cs = some y) : ∃ z,cs = [.int .i64 z]:=by
 obtain ⟨z,hz,_⟩:=DataW.trod_int Tryz.underlying3 h
 exact ⟨z,hz⟩
theorem c3 : Tryz.prog.cellsOf 3 = 1:=by kernel_rfl
theorem two_ints {W : World} {base n : Nat} {sp : Nat→Bool} {held : Bool} {cs : List Value} {y : DataW H × List MemPlace} {t : TypeId} {f0 f1 : Field} (ht : Tryz.prog.underlying t = some (.struct #[f0,f1])) (h0 : f0.type = 3∧f0.offset = 0) (h1 : f1.type = 3∧f1.offset = 1) (hC : Tryz.prog.cellsOf t = 2)
 (h : DataW.trod enc Tryz.prog W base sp held n t cs = some y) : ∃ a b,cs = [.int .i64 a,.int .i64 b]:=by
 obtain ⟨xs,m,_,_,hlen,hxl,hf⟩:=DataW.trod_struct ht h
 rw [hC] at hlen
 obtain ⟨x,y,rfl⟩:=len2 hlen
 have e0:=hf 0 f0 rfl
 have e1:=hf 1 f1 rfl
 rw [h0.1,h0.2,c3,List.getElem?_eq_getElem (by rw [hxl];simp)] at e0
 rw [h1.1,h1.2,c3,List.getElem?_eq_getElem (by rw [hxl];simp)] at e1
 obtain ⟨a,ha⟩:=int_cell e0
 obtain ⟨b,hb⟩:=int_cell e1
 simp at ha hb
 subst ha hb
 exact ⟨a,b,rfl⟩
theorem row_el {W : World} {base n : Nat} {sp : Nat→Bool} {held : Bool} {cs : List Value} {y : DataW H × List MemPlace} (h : DataW.trod enc Tryz.prog W base sp held n 126 cs = some y) : ∃ z : S126,k126.K W z cs:=by
 obtain ⟨xs,m,_,_,hlen,hxl,hf⟩:=DataW.trod_struct Tryz.underlying126 h
 rw [show Tryz.prog.cellsOf 126 = 3 by kernel_rfl] at hlen
 obtain ⟨x,y,z,rfl⟩:=len3 hlen
 have e0 : DataW.trod enc Tryz.prog W base sp held m 3 (([x,y,z].drop 0).take (Tryz.prog.cellsOf 3)) = xs[0]?:=hf 0 _ rfl
 have e1 : DataW.trod enc Tryz.prog W base sp held m 3 (([x,y,z].drop 1).take (Tryz.prog.cellsOf 3)) = xs[1]?:=hf 1 _ rfl
 have e2 : DataW.trod enc Tryz.prog W base sp held m 3 (([x,y,z].drop 2).take (Tryz.prog.cellsOf 3)) = xs[2]?:=hf 2 _ rfl
 have hx3 : xs.length = 3:=hxl
 rw [c3,List.getElem?_eq_getElem (by omega)] at e0 e1 e2
 obtain ⟨a,ha⟩:=int_cell e0
 obtain ⟨b,hb⟩:=int_cell e1
 obtain ⟨c,hc⟩:=int_cell e2
 simp at ha hb hc
 subst ha hb hc
 exact ⟨⟨a,b,c⟩,k126_mk W ⟨a,b,c⟩⟩
theorem noz_el {W : World} {base n : Nat} {sp : Nat→Bool} {held : Bool} {cs : List Value} {y : DataW H × List MemPlace} (h : DataW.trod enc Tryz.prog W base sp held n 48 cs = some y) : ∃ z : S48,k48.K W z cs:=by
 obtain ⟨a,b,rfl⟩:=two_ints Tryz.underlying48 ⟨rfl,rfl⟩ ⟨rfl,rfl⟩ (by kernel_rfl) h
 exact ⟨⟨a,b⟩,k48_mk W ⟨a,b⟩⟩
theorem open_basin {W : World} {base b0 : Nat} {held : Bool} {v : Value} {d : DataW H} {p : List MemPlace} (hv : Value.okWide Tryz.prog W .any b0 27 v) (h : DataW.Trod enc Tryz.prog W base (fun _=>true) held 27 v d p) :
 ∃ (A0 : Option Addr) (c0 : Nat) (rows : List S126) (a1 : Int) (A2 : Option Addr) (c2 : Nat) (noz : List S48) (a3 a4 : Int),v = .agg #[.slice A0 rows.length c0,.int .i64 a1,.slice A2 noz.length c2,.int .i64 a3,.int .i64 a4]∧
  Kd.C k126 W A0 rows.length rows∧rows.length≤c0∧Kd.C k48 W A2 noz.length noz∧noz.length≤c2:=by
 obtain ⟨cs,rfl,hsz⟩:=okWide_struct Tryz.underlying27 hv
 obtain ⟨l⟩:=cs
 rw [show Tryz.prog.cellsOf 27 = 5 by kernel_rfl] at hsz
 obtain ⟨v0,v1,v2,v3,v4,rfl⟩:=len5 hsz
 obtain ⟨fuel,hf⟩:=h
 obtain ⟨xs,n,_,_,_,hxl,hg⟩:=DataW.trod_struct Tryz.underlying27 hf
 have e0 : DataW.trod enc Tryz.prog W base (fun _=>true) held n 24 (([v0,v1,v2,v3,v4].drop 0).take (Tryz.prog.cellsOf 24)) = xs[0]?:=hg 0 _ rfl
 have e1 : DataW.trod enc Tryz.prog W base (fun _=>true) held n 25 (([v0,v1,v2,v3,v4].drop 2).take (Tryz.prog.cellsOf 25)) = xs[1]?:=hg 1 _ rfl
 have e2 : DataW.trod enc Tryz.prog W base (fun _=>true) held n 3 (([v0,v1,v2,v3,v4].drop 3).take (Tryz.prog.cellsOf 3)) = xs[2]?:=hg 2 _ rfl
 have e3 : DataW.trod enc Tryz.prog W base (fun _=>true) held n 3 (([v0,v1,v2,v3,v4].drop 4).take (Tryz.prog.cellsOf 3)) = xs[3]?:=hg 3 _ rfl
 have hx4 : xs.length = 4:=hxl
 rw [List.getElem?_eq_getElem (by omega)] at e0 e1 e2 e3
 rw [show Tryz.prog.cellsOf 24 = 2 by kernel_rfl] at e0
 rw [show Tryz.prog.cellsOf 25 = 1 by kernel_rfl] at e1
 rw [c3] at e2 e3
 obtain ⟨ys,m,_,_,_,hyl,hh⟩:=DataW.trod_struct Tryz.underlying24 e0
 have u0 : DataW.trod enc Tryz.prog W base (fun _=>true) held m 22 (((([v0,v1,v2,v3,v4].drop 0).take 2).drop 0).take (Tryz.prog.cellsOf 22)) = ys[0]?:=hh 0 _ rfl
 have u1 : DataW.trod enc Tryz.prog W base (fun _=>true) held m 3 (((([v0,v1,v2,v3,v4].drop 0).take 2).drop 1).take (Tryz.prog.cellsOf 3)) = ys[1]?:=hh 1 _ rfl
 have hy2 : ys.length = 2:=hyl
 rw [List.getElem?_eq_getElem (by omega)] at u0 u1
 rw [show Tryz.prog.cellsOf 22 = 1 by kernel_rfl] at u0
 rw [c3] at u1
 obtain ⟨A0,c0,rows,q0,l0,r0⟩:=row_in k126 Tryz.underlying22 (by kernel_rfl) (fun _ _ _ h=>row_el h) u0 (fun _=>rfl)
 obtain ⟨a1,q1⟩:=int_cell u1
 obtain ⟨A2,c2,noz,q2,l2,r2⟩:=row_in k48 Tryz.underlying25 (by kernel_rfl) (fun _ _ _ h=>noz_el h) e1 (fun _=>rfl)
 obtain ⟨a3,q3⟩:=int_cell e2
 obtain ⟨a4,q4⟩:=int_cell e3
 simp [Value.cells] at q0 q1 q2 q3 q4
 subst q0 q1 q2 q3 q4
 exact ⟨A0,c0,rows,a1,A2,c2,noz,a3,a4,rfl,r0,l0,r2,l2⟩
end
theorem returns_shaped {H : Type} {enc : TypeId × Value→H} {a : Assume} {C : Checked} {os : Os} {f : FuncId} {fn : Func} {s : ChangeSpec} {conds : List PathCond} {apart fresh handsOn again : Bool} {X : World→Array Value→Prop}
 (hX : ∀ (w w' : World) (args : Array Value),w.heap = w'.heap→X w args→X w' args)
 (own : ownKnob C.prog.godebug = none) (started : os.Started) (noInit : C.prog.inits.idxOf? f = none) (hfn : C.prog.funcs[f]? = some fn)
 (witness : ∃ (w : World) (tape : Tape) (i : Input),w.os = os∧(w.forCall tape i).Shaped C.prog∧i.vars = []∧Input.okWide C.prog (w.forCall tape i) .any w.heap.size f i∧
  ((s.pre enc C.prog fn conds apart (w.forCall tape i).memory i.args∧X (w.forCall tape i).memory i.args)∧sizedMet enc C.prog fn (OpenSpec.ofChange s) apart (w.forCall tape i).memory i.args)∧a.holds C.prog (lone (Frame.enter C.prog f i.args .normal) [] (w.forCall tape i)))
 (contract : ∀ (W : World) (base : Nat) (args : Array Value) (ds gs : List (DataW H)) (before : List MemPlace),
  (∀ (j : Nat) t v,fn.params[j]? = some t→args[j]? = some v→Value.okWide C.prog W .any base t v)→
  DataW.Whole enc C.prog fn.params.toList s.vars apart W args.toList ds gs before→
  conds.all (PathCond.test C.prog ⟨fn.params.toList,ds,s.plain.varTypes C.prog,gs⟩) = true→
  (DataW.weightsEach C.prog (fn.params.toList ++ s.plain.varTypes C.prog) (ds ++ gs)).all (·≤reachBytes) = true→X W args→W.ShapedOpen C.prog→
  a.holds C.prog (lone (Frame.enter C.prog f args .normal) [] W)→
  Calls C.prog f args W fun e W'=>∃ v,e = .returned v∧s.post enc C.prog fn apart fresh handsOn again W args v W') :
 ReturnsInHanded a C os f .any (fun w args=>(s.pre enc C.prog fn conds apart w args∧X w args)∧sizedMet enc C.prog fn (OpenSpec.ofChange s) apart w args) (s.post enc C.prog fn apart fresh handsOn again):=by
 refine returnsInHanded_of_calls own started noInit witness ?_
 intro w tape i _ hsh _ hok hpre hholds
 obtain ⟨_,_,_,fn',hfn',_,_,_,_,hval⟩:=hok
 have e : fn' = fn:=Option.some.inj (hfn'.symm.trans hfn)
 subst e
 obtain ⟨⟨⟨ds,gs,before,hw,hc⟩,hx⟩,hz⟩:=hpre
 have hw':=DataW.Whole.of_heap (w':=w.forCall tape i) (by rfl) hw
 refine (contract (w.forCall tape i) w.heap.size i.args ds gs before hval hw' hc (hz.weights hw) (hX _ _ _ (by rfl) hx) hsh hholds).mono fun e W' ⟨v,he,hp⟩=>?_
 subst he
 exact ChangeSpec.post_blind hp
end Go.Proofs.YtnnmnhpeblhiiaaGreatDoor.C
namespace Go.Proofs.YtnnmnhpeblhiiaaGreatDoor.C
open Go.RowKit Go.Proofs.YtnnmnhpeblhiiaaGreatDoorW.PrintWords Go.Proofs.YtnnmnhpeblhiiaaGreatDoorW.PrintLast Go.Proofs.YtnnmnhpeblhiiaaGreatDoorW.PrintMore
set_option linter.unusedVariables false
set_option linter.unusedSimpArgs false
set_option maxHeartbeats 16000000
set_option maxRecDepth 100000
def castleB : ByteArray:={ data:=#[99,97,115,116,108,101] }
def nozzleB : ByteArray:={ data:=#[110,111,122,122,108,101] }
theorem ca_words.calls (w : World) : Calls Tryz.prog 118 #[] w fun e w'=>e = .returned (.agg #[.string castleB,.string nozzleB])∧Below w.heap.size w w':=by
 have hu:=Tryz.underlying158
 go_enter Tryz.func118,Tryz.ntmps118
 go_wp2
 refine bodyPost_ret (v:=.agg #[.string castleB,.string nozzleB]) (by simp [results,Tryz.results118,go_sem,castleB,nozzleB]) rfl ⟨rfl,?_⟩
 exact (Below.refl _ _).alloc (Nat.le_refl _) _
theorem head_kind.calls (v : Array Value) (hv : v.size = 5) (w : World) : Calls Tryz.prog 186 #[.agg v] w fun e w'=>e = .returned (.int .i64 0)∧Below w.heap.size w w':=by
 go_enter Tryz.func186,Tryz.ntmps186
 go_wp2
 go_ret
 exact ⟨rfl,(Below.refl _ _).alloc (Nat.le_refl _) _⟩
theorem part_kind.calls (a b : Int) (w : World) : Calls Tryz.prog 188 #[.agg #[.int .i64 a,.int .i64 b]] w fun e w'=>e = .returned (.int .i64 1)∧Below w.heap.size w w':=by
 go_enter Tryz.func188,Tryz.ntmps188
 go_wp2
 go_ret
 exact ⟨rfl,(Below.refl _ _).alloc (Nat.le_refl _) _⟩
theorem head_numbers.calls (v0 v2 : Value) (a1 a3 a4 : Int) (w : World) : Calls Tryz.prog 187 #[.agg #[v0,.int .i64 a1,v2,.int .i64 a3,.int .i64 a4]] w fun e w'=>e = .returned (.agg #[.int .i64 a3,.int .i64 a4])∧Below w.heap.size w w':=by
 have hu:=Tryz.underlying152
 have hu2:=Tryz.underlying27
 go_enter Tryz.func187,Tryz.ntmps187
 go_wp2
 refine bodyPost_ret (v:=.agg #[.int .i64 a3,.int .i64 a4]) (by simp [results,Tryz.results187,go_sem]) rfl ⟨rfl,?_⟩
 exact ((Below.refl _ _).alloc (Nat.le_refl _) _).alloc (by simp) _
theorem part_numbers.calls (a b : Int) (w : World) : Calls Tryz.prog 189 #[.agg #[.int .i64 a,.int .i64 b]] w fun e w'=>e = .returned (.agg #[.int .i64 a,.int .i64 b])∧Below w.heap.size w w':=by
 have hu:=Tryz.underlying155
 have hu2:=Tryz.underlying48
 go_enter Tryz.func189,Tryz.ntmps189
 go_wp2
 refine bodyPost_ret (v:=.agg #[.int .i64 a,.int .i64 b]) (by simp [results,Tryz.results189,go_sem]) rfl ⟨rfl,?_⟩
 exact ((Below.refl _ _).alloc (Nat.le_refl _) _).alloc (by simp) _
theorem head_kind_m (v : Value) (W : World) : (method 328 152 v "quinaria/castle.kind").run Tryz.prog W = .ok (186,v) W := by kernel_rfl
theorem head_numbers_m (v : Value) (W : World) : (method 328 152 v "quinaria/castle.numbers").run Tryz.prog W = .ok (187,v) W := by kernel_rfl
theorem part_kind_m (v : Value) (W : World) : (method 328 155 v "quinaria/castle.kind").run Tryz.prog W = .ok (188,v) W := by kernel_rfl
theorem part_numbers_m (v : Value) (W : World) : (method 328 155 v "quinaria/castle.numbers").run Tryz.prog W = .ok (189,v) W := by kernel_rfl
theorem words_at0 (W : World) : (Instr.index 158 (.agg #[.string castleB,.string nozzleB]) (.int .i64 0)).run Tryz.prog W = .ok (.string castleB) W:=by kernel_rfl
theorem words_at1 (W : World) : (Instr.index 158 (.agg #[.string castleB,.string nozzleB]) (.int .i64 1)).run Tryz.prog W = .ok (.string nozzleB) W:=by kernel_rfl
theorem nums_at0 (a b : Int) (W : World) : (Instr.index 161 (.agg #[.int .i64 a,.int .i64 b]) (.int .i64 0)).run Tryz.prog W = .ok (.int .i64 a) W:=by kernel_rfl
theorem nums_at1 (a b : Int) (W : World) : (Instr.index 161 (.agg #[.int .i64 a,.int .i64 b]) (.int .i64 1)).run Tryz.prog W = .ok (.int .i64 b) W:=by kernel_rfl
end Go.Proofs.YtnnmnhpeblhiiaaGreatDoor.C
namespace Go.Proofs
open Go.Shelf
set_option linter.unusedVariables false
set_option linter.unusedSimpArgs false
set_option maxHeartbeats 16000000
set_option maxRecDepth 100000
def Tryz.laysM171_ren : Go.Shelf.Ren:=⟨fun | 171=>119 | 243=>133 | 246=>142 | 283=>148 | 284=>149 | 285=>150 | 286=>151 | 129=>158 | 317=>157 | 318=>159 | 319=>160 | 320=>161 | 337=>167 | 338=>168 | n=>n,fun | 3=>3 | 9=>9 | 2=>2 | 4=>4 | 171=>188 | 0=>0 | 53=>189 | 37=>97 | 5=>5 | 173=>192 | 212=>199 | 51=>200 | 20=>20 | 213=>201 | 46=>202 | 232=>211 | 233=>212 | n=>n,fun | 17=>0 | 18=>4 | 19=>5 | n=>n⟩
theorem Tryz.laysM171 : Go.Proofs.LaysM.n171 Tryz.prog Tryz.laysM171_ren:={
 mixed:=by kernel_rfl
 f129:=Tryz.func158.trans (congrArg some (by kernel_rfl))
 f171:=Tryz.func119.trans (congrArg some (by kernel_rfl))
 f243:=Tryz.func133.trans (congrArg some (by kernel_rfl))
 f246:=Tryz.func142.trans (congrArg some (by kernel_rfl))
 f283:=Tryz.func148.trans (congrArg some (by kernel_rfl))
 f284:=Tryz.func149.trans (congrArg some (by kernel_rfl))
 f285:=Tryz.func150.trans (congrArg some (by kernel_rfl))
 f286:=Tryz.func151.trans (congrArg some (by kernel_rfl))
 f317:=Tryz.func157.trans (congrArg some (by kernel_rfl))
 f318:=Tryz.func159.trans (congrArg some (by kernel_rfl))
 f319:=Tryz.func160.trans (congrArg some (by kernel_rfl))
 f320:=Tryz.func161.trans (congrArg some (by kernel_rfl))
 f337:=Tryz.func167.trans (congrArg some (by kernel_rfl))
 f338:=Tryz.func168.trans (congrArg some (by kernel_rfl))
 t0:=Tryz.underlying0
 a0:=Tryz.isAgg0
 z0:=Tryz.sizeOf0
 v0:=Tryz.zeroValue0
 t2:=Tryz.underlying2
 a2:=Tryz.isAgg2
 z2:=Tryz.sizeOf2
 v2:=Tryz.zeroValue2
 t3:=Tryz.underlying3
 a3:=Tryz.isAgg3
 z3:=Tryz.sizeOf3
 v3:=Tryz.zeroValue3
 t4:=Tryz.underlying4
 a4:=Tryz.isAgg4
 z4:=Tryz.sizeOf4
 v4:=Tryz.zeroValue4
 t5:=Tryz.underlying5
 a5:=Tryz.isAgg5
 z5:=Tryz.sizeOf5
 v5:=Tryz.zeroValue5
 t9:=Tryz.underlying9
 a9:=Tryz.isAgg9
 z9:=Tryz.sizeOf9
 v9:=Tryz.zeroValue9
 t20:=Tryz.underlying20
 a20:=Tryz.isAgg20
 z20:=Tryz.sizeOf20
 v20:=Tryz.zeroValue20
 t37:=Tryz.underlying97
 a37:=Tryz.isAgg97
 z37:=Tryz.sizeOf97
 v37:=Tryz.zeroValue97
 t46:=Tryz.underlying202
 a46:=Tryz.isAgg202
 z46:=Tryz.sizeOf202
 v46:=Tryz.zeroValue202
 t51:=Tryz.underlying200
 a51:=Tryz.isAgg200
 z51:=Tryz.sizeOf200
 v51:=Tryz.zeroValue200
 t53:=Tryz.underlying189
 a53:=Tryz.isAgg189
 z53:=Tryz.sizeOf189
 v53:=Tryz.zeroValue189
 t171:=Tryz.underlying188
 a171:=Tryz.isAgg188
 z171:=Tryz.sizeOf188
 v171:=Tryz.zeroValue188
 t173:=Tryz.underlying192
 a173:=Tryz.isAgg192
 z173:=Tryz.sizeOf192
 v173:=Tryz.zeroValue192
 t212:=Tryz.underlying199
 a212:=Tryz.isAgg199
 z212:=Tryz.sizeOf199
 v212:=Tryz.zeroValue199
 t213:=Tryz.underlying201
 a213:=Tryz.isAgg201
 z213:=Tryz.sizeOf201
 t232:=Tryz.underlying211
 a232:=Tryz.isAgg211
 z232:=Tryz.sizeOf211
 v232:=Tryz.zeroValue211
 t233:=Tryz.underlying212
 a233:=Tryz.isAgg212
 z233:=Tryz.sizeOf212
 v233:=Tryz.zeroValue212
 g17:=by kernel_rfl
 g18:=by kernel_rfl
 g19:=by kernel_rfl
 i0:=by kernel_rfl
 i2:=by kernel_rfl
 i3:=by kernel_rfl
 i4:=by kernel_rfl
 i5:=by kernel_rfl
 i9:=by kernel_rfl
 i20:=by kernel_rfl
 i37:=by kernel_rfl
 i46:=by kernel_rfl
 i51:=by kernel_rfl
 i53:=by kernel_rfl
 i171:=by kernel_rfl
 i173:=by kernel_rfl
 i212:=by kernel_rfl
 i232:=by kernel_rfl
 i233:=by kernel_rfl
 m17:=by kernel_rfl
 m18:=by kernel_rfl
 m19:=by kernel_rfl }
open Go.RowKit Go.Sort Go.Lib in
theorem Tryz.strconv_Itoa (n : Int) (h0 : -9223372036854775808 ≤ n) (h1 : n ≤ 9223372036854775807) (w : World) (htab : Lib.TabIs Tryz.prog w "internal/strconv.uint64pow10" .u64 Lib.pow10Tab) :
 Calls Tryz.prog 119 #[.int .i64 n] w fun e w'=>e = .returned (.string ⟨(Lib.itoa n).toArray⟩)∧∃ k os,w' = grow (w.drewN k) os:=Any.strconv_Itoa Tryz.laysM171 n h0 h1 w htab
def Tryz.lays146_ren : Go.Shelf.Ren:=⟨fun | 146=>121 | 221=>134 | 268=>143 | 138=>144 | 143=>145 | 195=>152 | 197=>153 | 218=>154 | 219=>155 | 260=>162 | 217=>163 | 225=>164 | 224=>165 | 267=>166 | 266=>169 | 314=>170 | n=>n,fun | 9=>9 | 31=>130 | 3=>3 | 4=>4 | 0=>0 | 105=>195 | 21=>21 | 5=>5 | 46=>202 | 119=>205 | 139=>208 | 138=>207 | 146=>209 | 51=>200 | n=>n,fun | 1=>1 | 3=>2 | 4=>3 | n=>n⟩
theorem Tryz.lays146 : Go.Proofs.Lays.n146 Tryz.prog Tryz.lays146_ren:={
 mixed:=by kernel_rfl
 f138:=Tryz.func144.trans (congrArg some (by kernel_rfl))
 f143:=Tryz.func145.trans (congrArg some (by kernel_rfl))
 f146:=Tryz.func121.trans (congrArg some (by kernel_rfl))
 f195:=Tryz.func152.trans (congrArg some (by kernel_rfl))
 f197:=Tryz.func153.trans (congrArg some (by kernel_rfl))
 f217:=Tryz.func163.trans (congrArg some (by kernel_rfl))
 f218:=Tryz.func154.trans (congrArg some (by kernel_rfl))
 f219:=Tryz.func155.trans (congrArg some (by kernel_rfl))
 f221:=Tryz.func134.trans (congrArg some (by kernel_rfl))
 f224:=Tryz.func165.trans (congrArg some (by kernel_rfl))
 f225:=Tryz.func164.trans (congrArg some (by kernel_rfl))
 f260:=Tryz.func162.trans (congrArg some (by kernel_rfl))
 f266:=Tryz.func169.trans (congrArg some (by kernel_rfl))
 f267:=Tryz.func166.trans (congrArg some (by kernel_rfl))
 f268:=Tryz.func143.trans (congrArg some (by kernel_rfl))
 f314:=Tryz.func170.trans (congrArg some (by kernel_rfl))
 t0:=Tryz.underlying0
 a0:=Tryz.isAgg0
 z0:=Tryz.sizeOf0
 v0:=Tryz.zeroValue0
 t3:=Tryz.underlying3
 a3:=Tryz.isAgg3
 z3:=Tryz.sizeOf3
 v3:=Tryz.zeroValue3
 t4:=Tryz.underlying4
 a4:=Tryz.isAgg4
 z4:=Tryz.sizeOf4
 v4:=Tryz.zeroValue4
 t5:=Tryz.underlying5
 a5:=Tryz.isAgg5
 z5:=Tryz.sizeOf5
 v5:=Tryz.zeroValue5
 t9:=Tryz.underlying9
 a9:=Tryz.isAgg9
 z9:=Tryz.sizeOf9
 v9:=Tryz.zeroValue9
 t21:=Tryz.underlying21
 a21:=Tryz.isAgg21
 z21:=Tryz.sizeOf21
 v21:=Tryz.zeroValue21
 t31:=Tryz.underlying130
 a31:=Tryz.isAgg130
 z31:=Tryz.sizeOf130
 v31:=Tryz.zeroValue130
 t46:=Tryz.underlying202
 a46:=Tryz.isAgg202
 z46:=Tryz.sizeOf202
 v46:=Tryz.zeroValue202
 t51:=Tryz.underlying200
 a51:=Tryz.isAgg200
 z51:=Tryz.sizeOf200
 v51:=Tryz.zeroValue200
 t105:=Tryz.underlying195
 a105:=Tryz.isAgg195
 z105:=Tryz.sizeOf195
 v105:=Tryz.zeroValue195
 t119:=Tryz.underlying205
 a119:=Tryz.isAgg205
 z119:=Tryz.sizeOf205
 t138:=Tryz.underlying207
 a138:=Tryz.isAgg207
 z138:=Tryz.sizeOf207
 v138:=Tryz.zeroValue207
 t139:=Tryz.underlying208
 a139:=Tryz.isAgg208
 z139:=Tryz.sizeOf208
 v139:=Tryz.zeroValue208
 t146:=Tryz.underlying209
 a146:=Tryz.isAgg209
 z146:=Tryz.sizeOf209
 v146:=Tryz.zeroValue209
 g1:=by kernel_rfl
 g3:=by kernel_rfl
 g4:=by kernel_rfl }
open Go.RowKit Go.Lib in
theorem Tryz.strings_Split (s sep : ByteArray) (m : Int) (w : World) (hs : s.size < 4294967281) (hm : w.cell? ⟨1,0,none⟩ = some (.int .i64 m)) (h1 : 1≤sep.size) :
 Calls Tryz.prog 121 #[.string s,.string sep] w fun e w' =>
  e = .returned (.slice (some ⟨w.heap.size,0,none⟩) (Lib.countB s sep + 1) (Lib.countB s sep + 1))∧w' = w.alloc (.cells ((Lib.splitB sep 0 (Lib.countB s sep) s).map Value.string).toArray 9):=Any.strings_Split Tryz.lays146 (by kernel_rfl) s sep m w hs hm h1
end Go.Proofs
namespace Go.Proofs.YtnnmnhpeblhiiaaGreatDoor.C
open Go.RowKit Go.Proofs.YtnnmnhpeblhiiaaGreatDoorW.PrintWords Go.Proofs.YtnnmnhpeblhiiaaGreatDoorW.PrintLast Go.Proofs.YtnnmnhpeblhiiaaGreatDoorW.PrintMore
set_option linter.unusedVariables false
set_option linter.unusedSimpArgs false
set_option maxHeartbeats 16000000
set_option maxRecDepth 100000
structure GV (w : World) : Prop where
 tab : Lib.TabIs Tryz.prog w "internal/strconv.uint64pow10" .u64 Lib.pow10Tab
 mx : ∃ m,w.cell? ⟨1,0,none⟩ = some (.int .i64 m)
theorem GV.below {w w' : World} (h : GV w) (hb : Below w.heap.size w w') : GV w':=⟨TabIs_below (g:=0) (by kernel_rfl) h.tab hb,by obtain ⟨m,hm⟩:=h.mx;exact ⟨m,(hb.cell (wbl hm)).trans hm⟩⟩
theorem itoa_calls (n : Int) (h0 : -9223372036854775808≤n) (h1 : n≤9223372036854775807) (w : World) (hg : GV w) : Calls Tryz.prog 119 #[.int .i64 n] w fun e w'=>e = .returned (.string ⟨(Lib.itoa n).toArray⟩)∧Below w.heap.size w w':=
 (Tryz.strconv_Itoa n h0 h1 w hg.tab).mono fun e w' ⟨he,k,os,hw⟩=>⟨he,by rw [hw];exact Lib.below_grow _ w (Nat.le_refl _) k os⟩
def spB : ByteArray:={ data:=#[32] }
def nlB : ByteArray:={ data:=#[10] }
def endB : ByteArray:={ data:=#[101,110,100,32] }
def itB (n : Int) : ByteArray:=⟨(Lib.itoa n).toArray⟩
def lineB (wd : ByteArray) (a b : Int) : ByteArray:=wd ++ (spB ++ itB a) ++ (spB ++ itB b)
def sumB (s : ByteArray) (i : Int) : Nat→Int→Int→Int
 | 0,_,acc=>acc
 | n + 1,k,acc=>sumB s i n (k + 1) (wrap64 (acc + wrap64 (wrap64 (bt s k * (k + 1)) * (i + 1))))
def textGo : List (Int × Int)→Int→ByteArray→Int→ByteArray × Int
 | [],_,out,chk=>(out,chk)
 | x :: rest,i,out,chk=>textGo rest (i + 1) (out ++ (lineB (if i = 0 then castleB else nozzleB) x.1 x.2 ++ nlB)) (sumB (lineB (if i = 0 then castleB else nozzleB) x.1 x.2) i (lineB (if i = 0 then castleB else nozzleB) x.1 x.2).size 0 chk)
def lastB (out : ByteArray) (c : Int) : ByteArray:=out ++ endB ++ itB (c.tdiv 100) ++ itB ((c.tdiv 10).tmod 10) ++ itB (c.tmod 10) ++ nlB
def ca_text.f (weir spill : Int) (l : List S48) : ByteArray:=
 lastB (textGo ((weir,spill) :: l.map fun z=>(z.f0,z.f1)) 0 ByteArray.empty 0).1 ((textGo ((weir,spill) :: l.map fun z=>(z.f0,z.f1)) 0 ByteArray.empty 0).2.tmod 127)
abbrev RowV:=Nat × Array Value
def kRow : Kd RowV:=Kd.scalar (fun x : RowV=>Value.iface x.1 (.agg x.2)) (fun _=>rfl)
def headV (A0_0 : Option Addr) (n0 c0_0 : Nat) (a0_1 : Int) (A0_2 : Option Addr) (n2 c0_2 : Nat) (a0_3 a0_4 : Int) : RowV:=(152,#[.slice A0_0 n0 c0_0,.int .i64 a0_1,.slice A0_2 n2 c0_2,.int .i64 a0_3,.int .i64 a0_4])
def partV (z : S48) : RowV:=(155,#[.int .i64 z.f0,.int .i64 z.f1])
theorem infoRow : (Tryz.prog.info? 157).map (fun i=>(i.zero,i.size,i.bytes)) = some (some .nilIface,1,16):=by kernel_rfl
def accB (wd : ByteArray) (a b : Int) : Nat→ByteArray
 | 0=>wd
 | 1=>wd ++ (spB ++ itB a)
 | _=>wd ++ (spB ++ itB a) ++ (spB ++ itB b)
theorem rows_at (hv : RowV) (l : List S48) (i : Int) (h0 : 1≤i) (h1 : i < (l.length : Int) + 1) : (hv :: l.map partV).getD i.toNat hv = partV (rd_T48 l (i - 1))∧rd_T48 l (i - 1) ∈ l:=by
 obtain ⟨n,rfl⟩ : ∃ n : Nat,i = (n : Int) + 1:=⟨(i - 1).toNat,by omega⟩
 have hn : n < l.length:=by omega
 have e1 : ((n : Int) + 1).toNat = n + 1:=by omega
 have e2 : ((n : Int) + 1 - 1).toNat = n:=by omega
 unfold rd_T48
 rw [e1,e2]
 simp [List.getD_eq_getElem?_getD,List.getElem?_eq_getElem hn]
theorem ps_drop (x : Int × Int) (l : List S48) (i : Int) (h0 : 1≤i) (h1 : i < (l.length : Int) + 1) : (x :: l.map fun z=>(z.f0,z.f1)).drop i.toNat = ((rd_T48 l (i - 1)).f0,(rd_T48 l (i - 1)).f1) :: (x :: l.map fun z=>(z.f0,z.f1)).drop (i + 1).toNat:=by
 obtain ⟨n,rfl⟩ : ∃ n : Nat,i = (n : Int) + 1:=⟨(i - 1).toNat,by omega⟩
 have hn : n < l.length:=by omega
 have e1 : ((n : Int) + 1).toNat = n + 1:=by omega
 have e2 : ((n : Int) + 1 - 1).toNat = n:=by omega
 have e3 : ((n : Int) + 1 + 1).toNat = n + 1 + 1:=by omega
 unfold rd_T48
 rw [e1,e2,e3,List.drop_succ_cons,List.drop_succ_cons,List.drop_eq_getElem_cons (by simpa using hn)]
 simp [List.getD_eq_getElem?_getD,List.getElem?_eq_getElem hn]
theorem row_cell {W : World} {A : Option Addr} {xs : List RowV} (h : Kd.C kRow W A xs.length xs) (d : RowV) (i : Int) (h0 : 0≤i) (h1 : i < (xs.length : Int)) : ∃ ad,A = some ad∧W.cell? (ad.add i.toNat) = some (.iface (xs.getD i.toNat d).1 (.agg (xs.getD i.toNat d).2)):=by
 obtain ⟨ad,c,e,_,hK,hc⟩:=Kd.C_get h d i h0 h1
 have hK2 : c = [Value.iface (xs.getD i.toNat d).1 (.agg (xs.getD i.toNat d).2)]:=hK
 subst hK2
 refine ⟨ad,e,?_⟩
 have h2:=hc 0 _ rfl
 simpa [kRow,Kd.scalar] using h2
theorem run_eqGuard_add {P : Program} {t : TypeId} {x y : Operand} {a b : Value} {W : World} : (eqGuard .add t x y a b).run P W = .ok () W:=by
 unfold eqGuard
 rfl
theorem cat_event {P : Program} {ops : Array Oper} {Q : Exit→Act→World→Prop} {rest : List Oper} {o : Oper} {a : Act} {W : World} {t t2 : TypeId} {x y : Operand} (s1 s2 : ByteArray) (hgd : o.guard = none) (ho : o.op = .binOp .add t x y t2) (hx : a.eval x = .string s1) (hy : a.eval y = .string s2) (hs : s1.size + s2.size≤9223372036854775807) (h : ∀ s,s = s1 ++ s2→wpList P ops Q rest (a.put o.dst (.string s)) W) : wpList P ops Q (o :: rest) a W:=
 Kd.event_run hgd (v:=.string (s1 ++ s2)) (w1:=W) (by unfold execOp;simp [ho,hx,hy,binOp,run_eqGuard_add,run_string_add_sum _ _ _ hs]) (h _ rfl)
theorem dec_len : ∀ u,u≤1000→(Lib.decDigits u).length≤4:=by
 intro u hu
 rw [Lib.decDigits]
 split
 ·simp
 ·rw [Lib.decDigits]
  split
  ·simp
  ·rw [Lib.decDigits]
   split
   ·simp
   ·rw [Lib.decDigits,dif_pos (by omega)]
    simp
theorem it_size (n : Int) (h0 : -1000≤n) (h1 : n≤1000) : (itB n).size≤5:=by
 show (Lib.itoa n).toArray.size≤5
 rw [List.size_toArray]
 unfold Lib.itoa
 split
 ·have:=dec_len n.natAbs (by omega)
  simp;omega
 ·have:=dec_len n.toNat (by omega)
  omega
theorem cat_size {s s1 s2 : ByteArray} (h : s = s1 ++ s2) : s.size = s1.size + s2.size:=by rw [h,ByteArray.size_append]
theorem tmodb (c b : Int) (hb : 0 < b) : -b < c.tmod b∧c.tmod b < b:=⟨Int.lt_tmod_of_pos c hb,Int.tmod_lt_of_pos c hb⟩
theorem last_d (m : Int) (h0 : -127 < m) (h1 : m < 127) : -9≤m.tdiv 100∧m.tdiv 100≤9:=by
 rcases Int.le_total 0 m with h | h
 ·rw [Int.tdiv_eq_ediv_of_nonneg h];omega
 ·have e : m.tdiv 100 = -((-m) / 100):=by rw [← Int.tdiv_eq_ediv_of_nonneg (by omega),Int.neg_tdiv,Int.neg_neg]
  rw [e];omega
theorem last_d2 (m : Int) (h0 : -127 < m) (h1 : m < 127) : -13≤m.tdiv 10∧m.tdiv 10≤13:=by
 rcases Int.le_total 0 m with h | h
 ·rw [Int.tdiv_eq_ediv_of_nonneg h];omega
 ·have e : m.tdiv 10 = -((-m) / 10):=by rw [← Int.tdiv_eq_ediv_of_nonneg (by omega),Int.neg_tdiv,Int.neg_neg]
  rw [e];omega
theorem ca_text.calls (A0_0 : Option Addr) (n0 c0_0 : Nat) (a0_1 : Int) (A0_2 : Option Addr) (c0_2 : Nat) (l0_2 : List S48) (a0_3 a0_4 : Int) (w : World) (hr0_2 : Kd.C k48 w A0_2 l0_2.length l0_2) (hg : GV w) (hn : l0_2.length≤1000) (hb3 : 0≤a0_3∧a0_3≤1000∧0≤a0_4∧a0_4≤1000) (hb2 : ∀ z ∈ l0_2,0≤z.f0∧z.f0≤1000∧0≤z.f1∧z.f1≤1000) :
 Calls Tryz.prog 89 #[.agg #[.slice A0_0 n0 c0_0,.int .i64 a0_1,.slice A0_2 l0_2.length c0_2,.int .i64 a0_3,.int .i64 a0_4]] w fun e w'=>e = .returned (.string (ca_text.f a0_3 a0_4 l0_2))∧Below w.heap.size w w':=by
 have hu:=Tryz.underlying27
 have hu2:=Tryz.underlying48
 have hk5:=words_at0
 have hk6:=words_at1
 have hk7:=nums_at0
 have hk8:=nums_at1
 have hk1:=head_kind_m
 have hk2:=head_numbers_m
 have hk3:=part_kind_m
 have hk4:=part_numbers_m
 have hnl : l0_2.length≤9223372036854775807:=Nat.le_trans hn (by decide)
 have hn48 : (l0_2.length + 1 + 1) * 16≤140737488355328:=Nat.le_trans (Nat.mul_le_mul_right 16 (Nat.add_le_add_right (Nat.add_le_add_right hn 1) 1)) (by decide)
 have HR:=am hr0_2
 have HG:=am hg
 have HB2:=am hb2
 have HB3:=am hb3
 have HN:=am hn
 have HL:=am hn48
 have HB:=am (Below.refl w.heap.size w)
 clear hr0_2 hg hb2 hb3 hn hn48
 go_enter Tryz.func89,Tryz.ntmps89
 go_wp2_with (first | ((refine gate_dst (N:=1) rfl ?_);(try (refine gate_guard (by rfl) ?_;dsimp only));refine box_event rfl (N:=1) rfl (cs:=#[.slice A0_0 n0 c0_0,.int .i64 a0_1,.slice A0_2 l0_2.length c0_2,.int .i64 a0_3,.int .i64 a0_4]) (t:=27) ?hr ?_;(case hr=>go_simp;try rfl);intro gb hg w2 hbox hb;replace HB:=(bmv HB hb);clear hg;have BKgb:=am hbox;clear hbox;(try clear hczgb_0 hczgb_1 hczgb_2 hczgb_3 hczgb_4);obtain ⟨hczgb_0,hczgb_1,hczgb_2,hczgb_3,hczgb_4⟩:=cO5 BKgb.out;clear hb) | ((refine gate_dst (N:=17) rfl ?_);refine Kd.R_lit kRow _ 157 ?hg (N:=17) ?hd (xs:=[headV A0_0 n0 c0_0 a0_1 A0_2 l0_2.length c0_2 a0_3 a0_4]) (inner:=[.iface 152 (.agg #[.slice A0_0 n0 c0_0,.int .i64 a0_1,.slice A0_2 l0_2.length c0_2,.int .i64 a0_3,.int .i64 a0_4])]) (ok:=fun _=>True) (okp:=fun _=>True) ?hr ?hp (fun _ hk=>hk) trivial (Below.refl _ _) (Nat.le_refl _) (by simp) ?_;(case hd=>rfl);(case hg=>rfl);(case hr=>go_simp;try rfl);(case hp=>exact Reps.snoc (ps:=[]) (cs:=[]) (Reps.none _ _) rfl rfl);intro v3 w3 ho hb hg_ hnew_;clear hg_ hnew_;have HO:=am (Kd.R_lower ho HB.out.size);clear ho;replace HB:=(bmv HB hb);replace BKgb:=(kmv hb BKgb);(try clear hczgb_0 hczgb_1 hczgb_2 hczgb_3 hczgb_4);obtain ⟨hczgb_0,hczgb_1,hczgb_2,hczgb_3,hczgb_4⟩:=cO5 BKgb.out;clear hb))
 generalize hhead : headV A0_0 n0 c0_0 a0_1 A0_2 l0_2.length c0_2 a0_3 a0_4 = hv at HO
 have HHD:=am hhead
 clear hhead
 go_loopw [3,21] (fun v3 v21 W'=>∃ (i : Int) (v : Value),0≤i∧i≤l0_2.length∧v21 = .int .i64 i∧v = v3∧Aside0 (Kd.R kRow 157 W' w.heap.size (fun _=>True) v (hv :: (l0_2.take i.toNat).map partV))∧Aside0 (Below w.heap.size w W')) (fun _ v21 _=>l0_2.length - (intOf v21).toNat)
 case atStart=>exact ⟨0,_,by omega,by omega,rfl,rfl,HO,HB⟩
 case round =>
  clear HO HB BKgb
  (try clear hczgb_0 hczgb_1 hczgb_2 hczgb_3 hczgb_4)
  obtain ⟨i,v,p1,hi,rfl,rfl,HO,HB⟩:=hrel
  by_cases hlt : i < (l0_2.length : Int)
  ·obtain ⟨ad,e1,hx0,hx1⟩:=at_T48 (kC HR.out HB.out) i p1 hlt
   cases e1
   have HT:=am (show (l0_2.take i.toNat).map partV ++ [partV (rd_T48 l0_2 i)] = (l0_2.take (i + 1).toNat).map partV by rw [show (i + 1).toNat = i.toNat + 1 by omega,List.take_succ_eq_append_getElem (show i.toNat < l0_2.length by omega),List.map_append];simp [rd_T48,List.getD_eq_getElem?_getD,List.getElem?_eq_getElem (show i.toNat < l0_2.length by omega)])
   have HLL:=am (show ((hv :: (l0_2.take i.toNat).map partV).length + 1) * 16≤140737488355328 from Nat.le_trans (Nat.mul_le_mul_right 16 (by simp;omega)) HL.out)
   have HSZ:=am HB.out.size
   generalize hz : rd_T48 l0_2 i = z at *
   clear hz
   go_wp2_with ((with_reducible refine gate_builtin (b:=.append) (xs:=#[.tmp 25,.tmp 29]) rfl ?_);(try (refine gate_guard (by rfl) ?_;dsimp only));at_builtin;refine Kd.R_append kRow (w0:=w) w.heap.size rfl (.tmp 25) (.tmp 29) 153 157 .nilIface 16 rfl Tryz.underlying153 infoRow rfl (by decide) (by decide) v (hv :: (l0_2.take i.toNat).map partV) (partV z) [.iface 155 (.agg #[.int .i64 z.f0,.int .i64 z.f1])] (fun _=>True) (fun _=>False) rfl (by simp [Act.eval,World.size_alloc]) rfl (fun _ hk=>hk.elim) (fun _ _=>trivial) (Kd.R_alloc HO.out _) (below_alloc HB.out _) (by have:=HSZ.out;simp;omega) HLL.out ?_;intro v1 w1 ho1 hb1 hg1 hat1;clear hg1 hat1;have HO1:=am ho1;have HB1:=am hb1;clear ho1 hb1)
   go_roundw
   case rel=>exact ⟨i + 1,v1,by omega,by omega,by go_num,rfl,⟨by have h:=HO1.out;rw [List.cons_append,HT.out] at h;exact h⟩,HB1⟩
   case measure=>simp [intOf];omega
  ·obtain rfl : i = (l0_2.length : Int):=by omega
   have HO:=am (show Kd.R kRow 157 wr w.heap.size (fun _=>True) v (hv :: l0_2.map partV) by have h:=HO.out;rw [Int.toNat_natCast,List.take_length] at h;exact h)
   obtain ⟨A3,c3,e3,hl3,hC3⟩:=Kd.R_reads HO.out
   cases e3
   have HC:=am hC3
   clear hC3 HO hl3
   have HDD:=HHD.out
   subst HDD
   clear HHD
   have HLN:=am (show ((headV A0_0 n0 c0_0 a0_1 A0_2 l0_2.length c0_2 a0_3 a0_4 :: l0_2.map partV).length : Int) = (l0_2.length : Int) + 1 by simp)
   obtain ⟨rs,hrs⟩ : ∃ rs,headV A0_0 n0 c0_0 a0_1 A0_2 l0_2.length c0_2 a0_3 a0_4 :: l0_2.map partV = rs:=⟨_,rfl⟩
   rw [hrs] at HC HLN ⊢
   have HRS:=am hrs
   clear hrs
   obtain ⟨R,hR⟩ : ∃ R,textGo ((a0_3,a0_4) :: l0_2.map fun z=>(z.f0,z.f1)) 0 ByteArray.empty 0 = R:=⟨_,rfl⟩
   have HTX:=am hR
   clear hR
   generalize wr = W1 at *
   have HT0:=HTX
   have NB:=am (Below.refl W1.heap.size W1)
   have hnr : rs.length≤9223372036854775807:=by have:=HLN.out;have:=HN.out;omega
   go_wp2
   go_loopw [6,7,34] (fun v6 v7 v34 W'=>∃ (i : Int) (out : ByteArray) (chk : Int),0≤i∧i≤rs.length∧v34 = .int .i64 i∧v6 = .string out∧v7 = .int .i64 chk∧Aside0 (textGo (((a0_3,a0_4) :: l0_2.map fun z=>(z.f0,z.f1)).drop i.toNat) i out chk = R)∧Aside0 ((out.size : Int)≤100 * i)∧Aside0 (Below w.heap.size w W')∧Aside0 (Below W1.heap.size W1 W')) (fun _ _ v34 _=>rs.length - (intOf v34).toNat)
   case atStart=>exact ⟨0,ByteArray.empty,0,by omega,by omega,rfl,rfl,rfl,HTX,⟨by decide⟩,HB,NB⟩
   case round =>
    clear HB NB
    obtain ⟨i,out,chk,p1,hi,rfl,rfl,rfl,HTX,HSO,HB,NB⟩:=hrel
    by_cases hlt : i < (rs.length : Int)
    case neg =>
     have hm:=tmodb chk 127 (by decide)
     obtain ⟨m,hm1⟩ : ∃ m,chk.tmod 127 = m:=⟨_,rfl⟩
     have HM:=am hm1
     rw [hm1] at hm
     have q1:=last_d m hm.1 hm.2
     have q2:=tmodb (m.tdiv 10) 10 (by decide)
     have q3:=tmodb m 10 (by decide)
     have hw0 : wrap64 (m.tdiv 100) = m.tdiv 100:=by unfold wrap64;omega
     have hw1 : wrap64 (m.tdiv 10) = m.tdiv 10:=by
      have:=last_d2 m hm.1 hm.2
      unfold wrap64;omega
     have Z0:=am (show out.size≤200000 by have:=HSO.out;have:=HLN.out;have:=HN.out;omega)
     have Z1:=am (it_size (m.tdiv 100) (by omega) (by omega))
     have Z2:=am (it_size ((m.tdiv 10).tmod 10) (by omega) (by omega))
     have Z3:=am (it_size (m.tmod 10) (by omega) (by omega))
     have HTX2:=am HTX.out
     have HIR:=am (show i = (rs.length : Int) by omega)
     clear HTX hm
     go_wp2_with (first | ((refine gate_dst (N:=80) rfl ?_);refine cat_event out endB rfl rfl rfl rfl (by have:=Z0.out;have : endB.size = 4:=rfl;omega) ?_;intro s80 h80;have H80:=am h80;have Z80:=am (show s80.size≤200004 by have:=cat_size h80;have:=Z0.out;have : endB.size = 4:=rfl;omega);clear h80) | ((refine gate_dst (N:=84) rfl ?_);refine cat_event s80 (itB (m.tdiv 100)) rfl rfl rfl rfl (by have:=Z80.out;have:=Z1.out;omega) ?_;intro s84 h84;have H84:=am h84;have Z84:=am (show s84.size≤200010 by have:=cat_size h84;have:=Z80.out;have:=Z1.out;omega);clear h84) | ((refine gate_dst (N:=89) rfl ?_);refine cat_event s84 (itB ((m.tdiv 10).tmod 10)) rfl rfl rfl rfl (by have:=Z84.out;have:=Z2.out;omega) ?_;intro s89 h89;have H89:=am h89;have Z89:=am (show s89.size≤200015 by have:=cat_size h89;have:=Z84.out;have:=Z2.out;omega);clear h89) | ((refine gate_dst (N:=93) rfl ?_);refine cat_event s89 (itB (m.tmod 10)) rfl rfl rfl rfl (by have:=Z89.out;have:=Z3.out;omega) ?_;intro s93 h93;have H93:=am h93;have Z93:=am (show s93.size≤200020 by have:=cat_size h93;have:=Z89.out;have:=Z3.out;omega);clear h93) | ((refine gate_dst (N:=94) rfl ?_);refine cat_event s93 nlB rfl rfl rfl rfl (by have:=Z93.out;have : nlB.size = 1:=rfl;omega) ?_;intro s94 h94;have H94:=am h94;have Z94:=am (show s94.size≤200021 by have:=cat_size h94;have:=Z93.out;have : nlB.size = 1:=rfl;omega);clear h94) | (go_at_call 119;(with_reducible refine (itoa_calls (m.tdiv 100) (by omega) (by omega) _ (HG.out.below HB.out)).mono ?_);rintro e w2 ⟨rfl,hb⟩;replace HB:=(bmv HB hb);replace NB:=am (below_then NB.out NB.out.size hb);clear hb) | (go_at_call 119;(with_reducible refine (itoa_calls ((m.tdiv 10).tmod 10) (by omega) (by omega) _ (HG.out.below HB.out)).mono ?_);rintro e w2 ⟨rfl,hb⟩;replace HB:=(bmv HB hb);replace NB:=am (below_then NB.out NB.out.size hb);clear hb) | (go_at_call 119;(with_reducible refine (itoa_calls (m.tmod 10) (by omega) (by omega) _ (HG.out.below HB.out)).mono ?_);rintro e w2 ⟨rfl,hb⟩;replace HB:=(bmv HB hb);replace NB:=am (below_then NB.out NB.out.size hb);clear hb))
     go_ret
     have e1:=HTX2.out
     rw [List.drop_of_length_le (by have:=HIR.out;have:=HLN.out;simp;omega)] at e1
     have e2 : (out,chk) = R:=e1
     have e3 : s94 = lastB out m:=by rw [H94.out,H93.out,H89.out,H84.out,H80.out];rfl
     refine ⟨?_,HB.out⟩
     rw [e3]
     unfold ca_text.f
     rw [HT0.out,← e2,← HM.out]
     rfl
    obtain ⟨ad,e1,hx0⟩:=row_cell (kC HC.out NB.out) (headV A0_0 n0 c0_0 a0_1 A0_2 l0_2.length c0_2 a0_3 a0_4) i p1 hlt
    cases e1
    have HLT:=am hlt
    have hnn:=HN.out
    have hin : i≤1000:=by have:=HLN.out;omega
    by_cases h0 : i = 0
    ·have HI0:=am h0
     have HTS:=am (show textGo (((a0_3,a0_4) :: l0_2.map fun z=>(z.f0,z.f1)).drop (i + 1).toNat) (i + 1) (out ++ (lineB castleB a0_3 a0_4 ++ nlB)) (sumB (lineB castleB a0_3 a0_4) i (lineB castleB a0_3 a0_4).size 0 chk) = R by have h:=HTX.out;subst h0;exact h)
     have hx1 : wr.cell? (ad.add i.toNat) = some (.iface 152 (.agg #[.slice A0_0 n0 c0_0,.int .i64 a0_1,.slice A0_2 l0_2.length c0_2,.int .i64 a0_3,.int .i64 a0_4])):=by rw [hx0,← HRS.out,h0];rfl
     have HBA:=HB3
     clear hx0 h0 HTX hnn
     generalize wr = W2 at *
     go_wp2_with (first | (go_at_call 118;(refine (ca_words.calls _).mono ?_);rintro e w2 ⟨rfl,hb⟩;replace HB:=(bmv HB hb);replace NB:=am (below_then NB.out NB.out.size hb);clear hb) | (go_at_call 186;(refine (head_kind.calls _ rfl _).mono ?_);rintro e w2 ⟨rfl,hb⟩;replace HB:=(bmv HB hb);replace NB:=am (below_then NB.out NB.out.size hb);clear hb) | (go_at_call 187;(refine (head_numbers.calls _ _ _ _ _ _).mono ?_);rintro e w2 ⟨rfl,hb⟩;replace HB:=(bmv HB hb);replace NB:=am (below_then NB.out NB.out.size hb);clear hb))
     have ZW:=am (show castleB.size = 6 from rfl)
     generalize hwd : castleB = wd at *
     have HWD:=am hwd
     clear hwd
     go_loopw [10,45] (fun v10 v45 W'=>∃ j : Int,0≤j∧j≤2∧v45 = .int .i64 j∧v10 = .string (accB wd a0_3 a0_4 j.toNat)∧Aside0 (Below w.heap.size w W')∧Aside0 (Below W1.heap.size W1 W')) (fun _ v45 _=>2 - (intOf v45).toNat)
     case atStart=>exact ⟨0,by omega,by omega,rfl,rfl,HB,NB⟩
     case round =>
      clear HB NB
      obtain ⟨j,j0,j1,rfl,rfl,HB,NB⟩:=hrel
      have hj : j = 0∨j = 1∨j = 2:=by omega
      rcases hj with rfl | rfl | rfl
      ·clear hx1
       have ZA:=am (it_size a0_3 (by have:=HBA.out;omega) (by have:=HBA.out;omega))
       go_wp2_with (first | (go_at_call 119;(with_reducible refine (itoa_calls a0_3 (by have:=HBA.out;omega) (by have:=HBA.out;omega) _ (HG.out.below HB.out)).mono ?_);rintro e w2 ⟨rfl,hb⟩;replace HB:=(bmv HB hb);replace NB:=am (below_then NB.out NB.out.size hb);clear hb) | ((refine gate_dst (N:=51) rfl ?_);refine cat_event spB (itB a0_3) rfl rfl rfl rfl (by have:=ZA.out;have : spB.size = 1:=rfl;omega) ?_;intro s51 h51;have H51:=am h51;have Z51:=am (show s51.size≤40 by have:=cat_size h51;have:=ZA.out;have : spB.size = 1:=rfl;omega);clear h51) | ((refine gate_dst (N:=52) rfl ?_);refine cat_event wd s51 rfl rfl rfl rfl (by have:=Z51.out;have:=ZW.out;omega) ?_;intro s52 h52;have H52:=am h52;have Z52:=am (show s52.size≤80 by have:=cat_size h52;have:=Z51.out;have:=ZW.out;omega);clear h52))
       go_roundw
       case rel=>exact ⟨1,by omega,by omega,by go_num,by rw [H52.out,H51.out];rfl,HB,NB⟩
       case measure=>first | (simp [intOf];done) | trivial | omega
      ·clear hx1
       have ZA:=am (it_size a0_4 (by have:=HBA.out;omega) (by have:=HBA.out;omega))
       have ZB:=am (it_size a0_3 (by have:=HBA.out;omega) (by have:=HBA.out;omega))
       go_wp2_with (first | (go_at_call 119;(with_reducible refine (itoa_calls a0_4 (by have:=HBA.out;omega) (by have:=HBA.out;omega) _ (HG.out.below HB.out)).mono ?_);rintro e w2 ⟨rfl,hb⟩;replace HB:=(bmv HB hb);replace NB:=am (below_then NB.out NB.out.size hb);clear hb) | ((refine gate_dst (N:=51) rfl ?_);refine cat_event spB (itB a0_4) rfl rfl rfl rfl (by have:=ZA.out;have : spB.size = 1:=rfl;omega) ?_;intro s51 h51;have H51:=am h51;have Z51:=am (show s51.size≤40 by have:=cat_size h51;have:=ZA.out;have : spB.size = 1:=rfl;omega);clear h51) | ((refine gate_dst (N:=52) rfl ?_);refine cat_event (accB wd a0_3 a0_4 1) s51 rfl rfl rfl rfl (by have:=Z51.out;have:=ZW.out;have:=cat_size (s:=(accB wd a0_3 a0_4 1)) rfl;have:=cat_size (s:=spB ++ itB a0_3) rfl;have : spB.size = 1:=rfl;have:=ZB.out;omega) ?_;intro s52 h52;have H52:=am h52;have Z52:=am (show s52.size≤80 by have:=cat_size h52;have:=Z51.out;have:=ZW.out;have:=cat_size (s:=(accB wd a0_3 a0_4 1)) rfl;have:=cat_size (s:=spB ++ itB a0_3) rfl;have : spB.size = 1:=rfl;have:=ZB.out;omega);clear h52))
       go_roundw
       case rel=>exact ⟨2,by omega,by omega,by go_num,by rw [H52.out,H51.out];rfl,HB,NB⟩
       case measure=>first | (simp [intOf];done) | trivial | omega
      ·clear hx1
       have ZA:=am (it_size a0_3 (by have:=HBA.out;omega) (by have:=HBA.out;omega))
       have ZB:=am (it_size a0_4 (by have:=HBA.out;omega) (by have:=HBA.out;omega))
       obtain ⟨s,hs⟩ : ∃ s,lineB wd a0_3 a0_4 = s:=⟨_,rfl⟩
       have HS:=am hs
       have hs2 : accB wd a0_3 a0_4 (2 : Int).toNat = s:=hs
       rw [hs2]
       have ZS:=am (show s.size≤30 by rw [← hs];unfold lineB;have h1:=ZA.out;have h2:=ZB.out;have h3:=ZW.out;simp only [ByteArray.size_append];have h4 : spB.size = 1:=rfl;omega)
       have hzs : s.size≤9223372036854775807:=Nat.le_trans ZS.out (by decide)
       have HTS2:=am (show textGo (((a0_3,a0_4) :: l0_2.map fun z=>(z.f0,z.f1)).drop (i + 1).toNat) (i + 1) (out ++ (s ++ nlB)) (sumB s i s.size 0 chk) = R by have h:=HTS.out;(try rw [HWD.out] at h);rw [hs] at h;exact h)
       clear HTS hs hs2
       obtain ⟨C,hC⟩ : ∃ C,sumB s i s.size 0 chk = C:=⟨_,rfl⟩
       rw [hC] at HTS2
       have HC1:=am hC
       clear hC
       go_wp2
       go_loop [7,56] (fun v7 v56=>∃ k c : Int,0≤k∧k≤s.size∧v56 = .int .i64 k∧v7 = .int .i64 c∧Aside0 (sumB s i ((s.size : Int) - k).toNat k c = C)) (fun _ v56=>s.size - (intOf v56).toNat)
       case atStart=>exact ⟨0,chk,by omega,by omega,rfl,rfl,HC1⟩
       case round =>
        clear HC1
        obtain ⟨k,c,k0,k1,rfl,rfl,HC1⟩:=hrel
        by_cases hkl : k < (s.size : Int)
        case neg =>
         have HC2:=am (show c = C by have h:=HC1.out;rw [show ((s.size : Int) - k).toNat = 0 by omega] at h;exact h)
         have hxs : ((s.size : Int) < k) = False:=by simp;omega
         clear HC1
         go_wp2_with (first | ((refine gate_dst (N:=74) rfl ?_);refine cat_event s nlB rfl rfl rfl rfl (by have:=ZS.out;have : nlB.size = 1:=rfl;omega) ?_;intro s74 h74;have H74:=am h74;have Z74:=am (show s74.size≤31 by have:=cat_size h74;have:=ZS.out;have : nlB.size = 1:=rfl;omega);clear h74) | ((refine gate_dst (N:=75) rfl ?_);refine cat_event out s74 rfl rfl rfl rfl (by have:=HSO.out;have:=Z74.out;omega) ?_;intro s75 h75;have H75:=am h75;have Z75:=am (show s75.size≤200100 by have:=cat_size h75;have:=HSO.out;have:=Z74.out;omega);clear h75))
         go_roundw
         case rel=>exact ⟨i + 1,s75,c,by omega,by have:=HLT.out;omega,by go_num,rfl,rfl,⟨by rw [H75.out,H74.out,HC2.out];exact HTS2.out⟩,⟨by have h1:=cat_size H75.out;have h2:=Z74.out;have h3:=HSO.out;omega⟩,HB,NB⟩
         case measure=>simp [intOf];have:=HLT.out;omega
        have hkn : k.toNat < s.size:=by omega
        have hbt:=bt_at s k hkn
        have hbr:=bt_range s k
        have hkz : k≤30:=by have:=ZS.out;omega
        have HC2:=am (show sumB s i ((s.size : Int) - (k + 1)).toNat (k + 1) (wrap64 (c + wrap64 (wrap64 (bt s k * (k + 1)) * (i + 1)))) = C by have h:=HC1.out;rw [show ((s.size : Int) - k).toNat = ((s.size : Int) - (k + 1)).toNat + 1 by omega] at h;exact h)
        go_wp2
        go_round
        case rel=>exact ⟨k + 1,_,by omega,by omega,rfl,rfl,HC2⟩
        case measure=>simp [intOf];omega
    ·obtain ⟨hz1,hz2⟩:=rows_at (headV A0_0 n0 c0_0 a0_1 A0_2 l0_2.length c0_2 a0_3 a0_4) l0_2 i (by omega) (by have:=HLN.out;omega)
     have hz3:=ps_drop (a0_3,a0_4) l0_2 i (by omega) (by have:=HLN.out;omega)
     obtain ⟨z,hz⟩ : ∃ z,rd_T48 l0_2 (i - 1) = z:=⟨_,rfl⟩
     rw [hz] at hz1 hz2 hz3
     have HTS:=am (show textGo (((a0_3,a0_4) :: l0_2.map fun z=>(z.f0,z.f1)).drop (i + 1).toNat) (i + 1) (out ++ (lineB nozzleB z.f0 z.f1 ++ nlB)) (sumB (lineB nozzleB z.f0 z.f1) i (lineB nozzleB z.f0 z.f1).size 0 chk) = R by have h:=HTX.out;rw [hz3] at h;simp only [textGo,if_neg h0] at h;exact h)
     have hx1 : wr.cell? (ad.add i.toNat) = some (.iface 155 (.agg #[.int .i64 z.f0,.int .i64 z.f1])):=by rw [hx0,← HRS.out,hz1];rfl
     have HBA:=am (HB2.out z hz2)
     clear hx0 h0 HTX hz1 hz2 hz3 hz hnn
     generalize wr = W2 at *
     go_wp2_with (first | (go_at_call 118;(refine (ca_words.calls _).mono ?_);rintro e w2 ⟨rfl,hb⟩;replace HB:=(bmv HB hb);replace NB:=am (below_then NB.out NB.out.size hb);clear hb) | (go_at_call 188;(refine (part_kind.calls _ _ _).mono ?_);rintro e w2 ⟨rfl,hb⟩;replace HB:=(bmv HB hb);replace NB:=am (below_then NB.out NB.out.size hb);clear hb) | (go_at_call 189;(refine (part_numbers.calls _ _ _).mono ?_);rintro e w2 ⟨rfl,hb⟩;replace HB:=(bmv HB hb);replace NB:=am (below_then NB.out NB.out.size hb);clear hb))
     have ZW:=am (show nozzleB.size = 6 from rfl)
     generalize hwd : nozzleB = wd at *
     have HWD:=am hwd
     clear hwd
     go_loopw [10,45] (fun v10 v45 W'=>∃ j : Int,0≤j∧j≤2∧v45 = .int .i64 j∧v10 = .string (accB wd z.f0 z.f1 j.toNat)∧Aside0 (Below w.heap.size w W')∧Aside0 (Below W1.heap.size W1 W')) (fun _ v45 _=>2 - (intOf v45).toNat)
     case atStart=>exact ⟨0,by omega,by omega,rfl,rfl,HB,NB⟩
     case round =>
      clear HB NB
      obtain ⟨j,j0,j1,rfl,rfl,HB,NB⟩:=hrel
      have hj : j = 0∨j = 1∨j = 2:=by omega
      rcases hj with rfl | rfl | rfl
      ·clear hx1
       have ZA:=am (it_size z.f0 (by have:=HBA.out;omega) (by have:=HBA.out;omega))
       go_wp2_with (first | (go_at_call 119;(with_reducible refine (itoa_calls z.f0 (by have:=HBA.out;omega) (by have:=HBA.out;omega) _ (HG.out.below HB.out)).mono ?_);rintro e w2 ⟨rfl,hb⟩;replace HB:=(bmv HB hb);replace NB:=am (below_then NB.out NB.out.size hb);clear hb) | ((refine gate_dst (N:=51) rfl ?_);refine cat_event spB (itB z.f0) rfl rfl rfl rfl (by have:=ZA.out;have : spB.size = 1:=rfl;omega) ?_;intro s51 h51;have H51:=am h51;have Z51:=am (show s51.size≤40 by have:=cat_size h51;have:=ZA.out;have : spB.size = 1:=rfl;omega);clear h51) | ((refine gate_dst (N:=52) rfl ?_);refine cat_event wd s51 rfl rfl rfl rfl (by have:=Z51.out;have:=ZW.out;omega) ?_;intro s52 h52;have H52:=am h52;have Z52:=am (show s52.size≤80 by have:=cat_size h52;have:=Z51.out;have:=ZW.out;omega);clear h52))
       go_roundw
       case rel=>exact ⟨1,by omega,by omega,by go_num,by rw [H52.out,H51.out];rfl,HB,NB⟩
       case measure=>first | (simp [intOf];done) | trivial | omega
      ·clear hx1
       have ZA:=am (it_size z.f1 (by have:=HBA.out;omega) (by have:=HBA.out;omega))
       have ZB:=am (it_size z.f0 (by have:=HBA.out;omega) (by have:=HBA.out;omega))
       go_wp2_with (first | (go_at_call 119;(with_reducible refine (itoa_calls z.f1 (by have:=HBA.out;omega) (by have:=HBA.out;omega) _ (HG.out.below HB.out)).mono ?_);rintro e w2 ⟨rfl,hb⟩;replace HB:=(bmv HB hb);replace NB:=am (below_then NB.out NB.out.size hb);clear hb) | ((refine gate_dst (N:=51) rfl ?_);refine cat_event spB (itB z.f1) rfl rfl rfl rfl (by have:=ZA.out;have : spB.size = 1:=rfl;omega) ?_;intro s51 h51;have H51:=am h51;have Z51:=am (show s51.size≤40 by have:=cat_size h51;have:=ZA.out;have : spB.size = 1:=rfl;omega);clear h51) | ((refine gate_dst (N:=52) rfl ?_);refine cat_event (accB wd z.f0 z.f1 1) s51 rfl rfl rfl rfl (by have:=Z51.out;have:=ZW.out;have:=cat_size (s:=(accB wd z.f0 z.f1 1)) rfl;have:=cat_size (s:=spB ++ itB z.f0) rfl;have : spB.size = 1:=rfl;have:=ZB.out;omega) ?_;intro s52 h52;have H52:=am h52;have Z52:=am (show s52.size≤80 by have:=cat_size h52;have:=Z51.out;have:=ZW.out;have:=cat_size (s:=(accB wd z.f0 z.f1 1)) rfl;have:=cat_size (s:=spB ++ itB z.f0) rfl;have : spB.size = 1:=rfl;have:=ZB.out;omega);clear h52))
       go_roundw
       case rel=>exact ⟨2,by omega,by omega,by go_num,by rw [H52.out,H51.out];rfl,HB,NB⟩
       case measure=>first | (simp [intOf];done) | trivial | omega
      ·clear hx1
       have ZA:=am (it_size z.f0 (by have:=HBA.out;omega) (by have:=HBA.out;omega))
       have ZB:=am (it_size z.f1 (by have:=HBA.out;omega) (by have:=HBA.out;omega))
       obtain ⟨s,hs⟩ : ∃ s,lineB wd z.f0 z.f1 = s:=⟨_,rfl⟩
       have HS:=am hs
       have hs2 : accB wd z.f0 z.f1 (2 : Int).toNat = s:=hs
       rw [hs2]
       have ZS:=am (show s.size≤30 by rw [← hs];unfold lineB;have h1:=ZA.out;have h2:=ZB.out;have h3:=ZW.out;simp only [ByteArray.size_append];have h4 : spB.size = 1:=rfl;omega)
       have hzs : s.size≤9223372036854775807:=Nat.le_trans ZS.out (by decide)
       have HTS2:=am (show textGo (((a0_3,a0_4) :: l0_2.map fun z=>(z.f0,z.f1)).drop (i + 1).toNat) (i + 1) (out ++ (s ++ nlB)) (sumB s i s.size 0 chk) = R by have h:=HTS.out;(try rw [HWD.out] at h);rw [hs] at h;exact h)
       clear HTS hs hs2
       obtain ⟨C,hC⟩ : ∃ C,sumB s i s.size 0 chk = C:=⟨_,rfl⟩
       rw [hC] at HTS2
       have HC1:=am hC
       clear hC
       go_wp2
       go_loop [7,56] (fun v7 v56=>∃ k c : Int,0≤k∧k≤s.size∧v56 = .int .i64 k∧v7 = .int .i64 c∧Aside0 (sumB s i ((s.size : Int) - k).toNat k c = C)) (fun _ v56=>s.size - (intOf v56).toNat)
       case atStart=>exact ⟨0,chk,by omega,by omega,rfl,rfl,HC1⟩
       case round =>
        clear HC1
        obtain ⟨k,c,k0,k1,rfl,rfl,HC1⟩:=hrel
        by_cases hkl : k < (s.size : Int)
        case neg =>
         have HC2:=am (show c = C by have h:=HC1.out;rw [show ((s.size : Int) - k).toNat = 0 by omega] at h;exact h)
         have hxs : ((s.size : Int) < k) = False:=by simp;omega
         clear HC1
         go_wp2_with (first | ((refine gate_dst (N:=74) rfl ?_);refine cat_event s nlB rfl rfl rfl rfl (by have:=ZS.out;have : nlB.size = 1:=rfl;omega) ?_;intro s74 h74;have H74:=am h74;have Z74:=am (show s74.size≤31 by have:=cat_size h74;have:=ZS.out;have : nlB.size = 1:=rfl;omega);clear h74) | ((refine gate_dst (N:=75) rfl ?_);refine cat_event out s74 rfl rfl rfl rfl (by have:=HSO.out;have:=Z74.out;omega) ?_;intro s75 h75;have H75:=am h75;have Z75:=am (show s75.size≤200100 by have:=cat_size h75;have:=HSO.out;have:=Z74.out;omega);clear h75))
         go_roundw
         case rel=>exact ⟨i + 1,s75,c,by omega,by have:=HLT.out;omega,by go_num,rfl,rfl,⟨by rw [H75.out,H74.out,HC2.out];exact HTS2.out⟩,⟨by have h1:=cat_size H75.out;have h2:=Z74.out;have h3:=HSO.out;omega⟩,HB,NB⟩
         case measure=>simp [intOf];have:=HLT.out;omega
        have hkn : k.toNat < s.size:=by omega
        have hbt:=bt_at s k hkn
        have hbr:=bt_range s k
        have hkz : k≤30:=by have:=ZS.out;omega
        have HC2:=am (show sumB s i ((s.size : Int) - (k + 1)).toNat (k + 1) (wrap64 (c + wrap64 (wrap64 (bt s k * (k + 1)) * (i + 1)))) = C by have h:=HC1.out;rw [show ((s.size : Int) - k).toNat = ((s.size : Int) - (k + 1)).toNat + 1 by omega] at h;exact h)
        go_wp2
        go_round
        case rel=>exact ⟨k + 1,_,by omega,by omega,rfl,rfl,HC2⟩
        case measure=>simp [intOf];omega
end Go.Proofs.YtnnmnhpeblhiiaaGreatDoor.C
namespace Go.Proofs.YtnnmnhpeblhiiaaGreatDoor.C
open Go.ChangeShapes Go.WideShapes Go.ChangeAt Go.RowKit Go.Deep Go.Proofs.YtnnmnhpeblhiiaaGreatDoorW.PrintWords Go.Proofs.YtnnmnhpeblhiiaaGreatDoorW.PrintLast Go.Proofs.YtnnmnhpeblhiiaaGreatDoorW.PrintMore
set_option linter.unusedVariables false
set_option linter.unusedSimpArgs false
set_option maxHeartbeats 16000000
set_option maxRecDepth 100000
theorem tab_of_vars {P : Program} {W : World} {name : String} {k : IntKind} {zs : List Int} {rest : List (String × DataW Unit)} {g : Nat} {t e : TypeId} {n : Nat} {ps : List MemPlace}
 (hg : P.globalNamed name = some g) (hty : (P.globals[g]?).map (·.type) = some t) (ht : P.underlying t = some (.array n e)) (he : P.underlying e = some (.int k)) (hce : P.cellsOf e = 1) (hct : P.cellsOf t = n)
 (h : DataW.LaidVars P W ((name,Lib.tabData k zs) :: rest) ps) : Lib.TabIs P W name k zs:=by
 obtain ⟨g',t',cs,fuel,p,q,hg',ht',hvar,hd,_,_⟩:=h
 obtain rfl:=Option.some.inj (hg.symm.trans hg')
 obtain rfl:=Option.some.inj (hty.symm.trans ht')
 unfold Lib.TabIs
 rw [hvar,← Lib.cells_of_tab ht he hce hct hd]
theorem gv_of {W : World} {a b : String × DataW Unit} {rest : List (String × DataW Unit)} (h : laidMet Tryz.prog (a :: b :: ("internal/strconv.uint64pow10",Lib.tabData .u64 Lib.pow10Tab) :: rest) W) (hs : W.ShapedOpen Tryz.prog) : GV W := by
 constructor
 ·obtain ⟨ps,⟨_,_,_,_,_,q1,_,_,_,_,⟨_,_,_,_,_,q2,_,_,_,_,hv,_⟩,_⟩,_⟩:=h
  exact tab_of_vars (g:=0) (n:=20) (t:=199) (e:=189) (by kernel_rfl) (by kernel_rfl) (by kernel_rfl) (by kernel_rfl) (by kernel_rfl) (by kernel_rfl) hv
 ·obtain ⟨cs,hc,hsz,hok⟩:=hs.1 1 #[.int .i64 0] 3 (of_decide_eq_true (by kernel_rfl)) (by kernel_rfl)
  obtain ⟨ts,hts,hm,hv⟩:=hok (by kernel_rfl)
  obtain rfl : ts = [3]:=Option.some.inj (hts.symm.trans (by kernel_rfl))
  have h0 : cs[0]? = some (cs[0]'(by rw [hsz];decide)):=Array.getElem?_eq_getElem _
  generalize cs[0]'(by rw [hsz];decide) = v at h0
  obtain ⟨u,hu,hk⟩:=hv 0 v h0
  obtain rfl : u = 3:=by simpa using hu.symm
  unfold Cell.ok at hk
  rw [Tryz.underlying3] at hk
  cases v with
  | int k n =>
   obtain ⟨rfl,_⟩:=hk
   exact ⟨n,(blk_cell hc 0).trans h0⟩
  | _=>exact hk.elim
end Go.Proofs.YtnnmnhpeblhiiaaGreatDoor.C
namespace Go.Proofs.YtnnmnhpeblhiiaaGreatDoor.C
open Go.RowKit Go.Proofs.YtnnmnhpeblhiiaaGreatDoorW.PrintWords Go.Proofs.YtnnmnhpeblhiiaaGreatDoorW.PrintLast Go.Proofs.YtnnmnhpeblhiiaaGreatDoorW.PrintMore
set_option linter.unusedVariables false
set_option linter.unusedSimpArgs false
set_option maxHeartbeats 16000000
set_option maxRecDepth 100000
section
attribute [local go_sem] max2_int min2_int max_two min_two
def l4_short.f (l0_0 : List (S126)) (a0_1 : Int) (l0_2 : List (S48)) (a0_3 : Int) (a0_4 : Int) : Option (Bool):=if (l0_0.length : Int)≤15 then (some (decide ((l0_2.length : Int)≤8))) else (some false)
theorem l4_short.calls (A0_0 : Option Addr) (c0_0 : Nat) (l0_0 : List (S126)) (a0_1 : Int) (A0_2 : Option Addr) (c0_2 : Nat) (l0_2 : List (S48)) (a0_3 : Int) (a0_4 : Int) (r : Bool) (w : World) (hr0_0 : Kd.C k126 w A0_0 l0_0.length l0_0) (hc0_0 : l0_0.length≤c0_0) (hr0_2 : Kd.C k48 w A0_2 l0_2.length l0_2) (hc0_2 : l0_2.length≤c0_2) (h : l4_short.f l0_0 a0_1 l0_2 a0_3 a0_4 = some r) :
 Calls Tryz.prog 14 #[.agg #[.slice A0_0 l0_0.length c0_0,.int .i64 a0_1,.slice A0_2 l0_2.length c0_2,.int .i64 a0_3,.int .i64 a0_4]] w fun e w'=>e = .returned (.bool r)∧Below w.heap.size w w':=by
 have hu27:=Tryz.underlying27
 have HR0_0:=am hr0_0
 have HC0_0:=am hc0_0
 clear hr0_0 hc0_0
 have HR0_2:=am hr0_2
 have HC0_2:=am hc0_2
 clear hr0_2 hc0_2
 have HB:=am (Below.refl w.heap.size w)
 have H : (if (l0_0.length : Int)≤15 then (some (decide ((l0_2.length : Int)≤8))) else (some false)) = some r:=h
 clear h
 by_cases c2 : (l0_0.length : Int)≤15
 ·rw [if_pos c2] at H
  have c2b0 : decide ((l0_0.length : Int)≤15) = true:=decide_eq_true c2
  have c2b1 : decide (l0_0.length≤15) = true:=decide_eq_true (by omega)
  clear c2
  obtain rfl:=Option.some.inj H
  go_enter Tryz.func14,Tryz.ntmps14
  go_wp2_with (first | ((refine gate_dst (N:=1) rfl ?_);(try (refine gate_guard (by rfl) ?_;dsimp only));refine box_event rfl (N:=1) rfl (cs:=#[.slice A0_0 l0_0.length c0_0,.int .i64 a0_1,.slice A0_2 l0_2.length c0_2,.int .i64 a0_3,.int .i64 a0_4]) (t:=27) ?hr ?_;(case hr=>go_simp;try rfl);intro gb101 hg w3 hbox hb;have BK101:=am (hbox);have GW101:=am (ge_new (HB.out) hg);have GE101:=am (ge_new (HB.out) hg);replace HB:=am (below_step (HB.out) hb);clear hb hbox hg;obtain ⟨hcz4_0,hcz4_1,hcz4_2,hcz4_3,hcz4_4⟩:=cO5 BK101.out))
  go_ret
  exact ⟨by first | rfl | (simp [*]<;>rfl),HB.out⟩
 ·rw [if_neg c2] at H
  have c2b0 : decide ((l0_0.length : Int)≤15) = false:=decide_eq_false c2
  have c2b1 : decide (l0_0.length≤15) = false:=decide_eq_false (by omega)
  clear c2
  obtain rfl:=Option.some.inj H
  go_enter Tryz.func14,Tryz.ntmps14
  go_wp2_with (first | ((refine gate_dst (N:=1) rfl ?_);(try (refine gate_guard (by rfl) ?_;dsimp only));refine box_event rfl (N:=1) rfl (cs:=#[.slice A0_0 l0_0.length c0_0,.int .i64 a0_1,.slice A0_2 l0_2.length c0_2,.int .i64 a0_3,.int .i64 a0_4]) (t:=27) ?hr ?_;(case hr=>go_simp;try rfl);intro gb101 hg w5 hbox hb;have BK101:=am (hbox);have GW101:=am (ge_new (HB.out) hg);have GE101:=am (ge_new (HB.out) hg);replace HB:=am (below_step (HB.out) hb);clear hb hbox hg;obtain ⟨hcz6_0,hcz6_1,hcz6_2,hcz6_3,hcz6_4⟩:=cO5 BK101.out))
  go_ret
  exact ⟨by first | rfl | (simp [*]<;>rfl),HB.out⟩
def q4_in.f (a0 : Int) (a1 : Int) (a2 : Int) : Option (Bool):=if a0 ≥ a1 then (some (decide (a0≤a2))) else (some false)
theorem q4_in.calls (a0 : Int) (a1 : Int) (a2 : Int) (r : Bool) (w : World) (h : q4_in.f a0 a1 a2 = some r) :
 Calls Tryz.prog 54 #[.int .i64 a0,.int .i64 a1,.int .i64 a2] w fun e w'=>e = .returned (.bool r)∧Drawn0 w w':=by
 have H : (if a0 ≥ a1 then (some (decide (a0≤a2))) else (some false)) = some r:=h
 clear h
 by_cases c4 : a0 ≥ a1
 ·rw [if_pos c4] at H
  have c4b0 : decide (a1≤a0) = true:=decide_eq_true c4
  clear c4
  obtain rfl:=Option.some.inj H
  go_enter Tryz.func54,Tryz.ntmps54
  go_wp2
  go_ret
  exact ⟨by first | rfl | (simp;done) | (simp [*];done),by repeat (first | exact Drawn0.refl _ | apply Drawn0.step)⟩
 ·rw [if_neg c4] at H
  have c4b0 : decide (a1≤a0) = false:=decide_eq_false c4
  clear c4
  obtain rfl:=Option.some.inj H
  go_enter Tryz.func54,Tryz.ntmps54
  go_wp2
  go_ret
  exact ⟨by first | rfl | (simp;done) | (simp [*];done),by repeat (first | exact Drawn0.refl _ | apply Drawn0.step)⟩
def q4_Height.f (a0 : Int) : Option (Bool):=(q4_in.f a0 0 40).bind fun t102=>(some t102)
theorem q4_Height.calls (a0 : Int) (r : Bool) (w : World) (h : q4_Height.f a0 = some r) :
 Calls Tryz.prog 39 #[.int .i64 a0] w fun e w'=>e = .returned (.bool r)∧Drawn0 w w':=by
 have H : ((q4_in.f a0 0 40).bind fun t102=>(some t102)) = some r:=h
 clear h
 replace H:=obm H
 obtain ⟨t102,A20,H⟩:=H
 replace H : (some t102) = some r:=H
 have A2:=am A20
 clear A20
 obtain rfl:=Option.some.inj H
 go_enter Tryz.func39,Tryz.ntmps39
 go_wp2_with (first | ((with_reducible refine gate_callee (f:=54) rfl ?_);refine goesL_ (some 4) rfl rfl Tryz.func54 (by kernel_rfl) rfl #[.int .i64 a0,.int .i64 0,.int .i64 40] rfl (by (try simp only [List.map_toArray,List.map_cons,List.map_nil]);first | done | rfl | (simp only [List.length_drop,List.length_take];rfl)) ?_;(with_reducible refine (q4_in.calls a0 0 40 t102 _ A2.out).mono ?_);rintro e w' ⟨rfl,⟨nd,rfl⟩⟩;refine ⟨_,rfl,?_⟩))
 go_ret
 exact ⟨by first | rfl | (simp;done) | (simp [*];done),by repeat (first | exact Drawn0.refl _ | apply Drawn0.step)⟩
def q3_in.f (a0 : Int) (a1 : Int) (a2 : Int) : Option (Bool):=if a0 ≥ a1 then (some (decide (a0≤a2))) else (some false)
theorem q3_in.calls (a0 : Int) (a1 : Int) (a2 : Int) (r : Bool) (w : World) (h : q3_in.f a0 a1 a2 = some r) :
 Calls Tryz.prog 98 #[.int .i64 a0,.int .i64 a1,.int .i64 a2] w fun e w'=>e = .returned (.bool r)∧Drawn0 w w':=by
 have H : (if a0 ≥ a1 then (some (decide (a0≤a2))) else (some false)) = some r:=h
 clear h
 by_cases c4 : a0 ≥ a1
 ·rw [if_pos c4] at H
  have c4b0 : decide (a1≤a0) = true:=decide_eq_true c4
  clear c4
  obtain rfl:=Option.some.inj H
  go_enter Tryz.func98,Tryz.ntmps98
  go_wp2
  go_ret
  exact ⟨by first | rfl | (simp;done) | (simp [*];done),by repeat (first | exact Drawn0.refl _ | apply Drawn0.step)⟩
 ·rw [if_neg c4] at H
  have c4b0 : decide (a1≤a0) = false:=decide_eq_false c4
  clear c4
  obtain rfl:=Option.some.inj H
  go_enter Tryz.func98,Tryz.ntmps98
  go_wp2
  go_ret
  exact ⟨by first | rfl | (simp;done) | (simp [*];done),by repeat (first | exact Drawn0.refl _ | apply Drawn0.step)⟩
def q3_Table.l0 : Nat→Int→List (S126)→Int→Option (Bool)
 | 0,_,_,_=>none
 | k + 1,x3,x104000,x104001=>if x3 < (x104000.length : Int) then (if 0≤x3 then ((q3_in.f ((rd_T126 x104000 x3).f0) 1 60).bind fun t108=>(if t108 = true then ((q3_in.f ((rd_T126 x104000 x3).f1) 1 60).bind fun t109=>(if t109 = true then ((q3_in.f ((rd_T126 x104000 x3).f2) 1 1000).bind fun t110=>(if t110 = true then (q3_Table.l0 k (wrap64 (x3 + 1)) x104000 x104001) else (some false))) else (some false))) else (some false))) else (none)) else ((q3_in.f (x104000.length : Int) 1 12).bind fun t104=>(if t104 = true then ((q3_in.f x104001 0 100).bind fun t105=>(some t105)) else (some false)))
def q3_Table.f (k : Nat) (l0_0 : List (S126)) (a0_1 : Int) : Option (Bool):=q3_Table.l0 k 0 l0_0 a0_1
theorem q3_Table.calls (k : Nat) (A0_0 : Option Addr) (c0_0 : Nat) (l0_0 : List (S126)) (a0_1 : Int) (r : Bool) (w : World) (hr0_0 : Kd.C k126 w A0_0 l0_0.length l0_0) (hc0_0 : l0_0.length≤c0_0) (h : q3_Table.f k l0_0 a0_1 = some r) :
 Calls Tryz.prog 55 #[.agg #[.slice A0_0 l0_0.length c0_0,.int .i64 a0_1]] w fun e w'=>e = .returned (.bool r)∧Below w.heap.size w w':=by
 have hu24:=Tryz.underlying24
 have hu126:=Tryz.underlying126
 have HR0_0:=am hr0_0
 have HC0_0:=am hc0_0
 clear hr0_0 hc0_0
 have HB:=am (Below.refl w.heap.size w)
 have H : (q3_Table.l0 k 0 l0_0 a0_1) = some r:=h
 clear h
 replace H':=am H
 go_enter Tryz.func55,Tryz.ntmps55
 go_wp2_with (first | ((refine gate_dst (N:=1) rfl ?_);refine box_event rfl (N:=1) rfl (cs:=#[.slice A0_0 l0_0.length c0_0,.int .i64 a0_1]) (t:=24) ?hr ?_;(case hr=>go_simp;try rfl);intro gb103 hg w2 hbox hb;have BK103:=am (hbox);have GW103:=am (ge_new (HB.out) hg);have GE103:=am (ge_new (HB.out) hg);replace HB:=am (below_step (HB.out) hb);clear hb hbox hg))
 go_loopg [3] k (fun kq v3 w'=>∃ (x3_1 : Int),v3 = .int .i64 x3_1∧Aside0 (q3_Table.l0 kq x3_1 l0_0 a0_1 = some r)∧Aside0 (kq≤k)∧Aside0 (w'.heap[gb103]? = some (.cells #[(.slice A0_0 l0_0.length c0_0),.int .i64 a0_1] 24 (0,0)))∧Aside0 (Below w.heap.size w w'))
 case atStart=>exact ⟨(0),(by first | rfl | (simp;done) | (simp [*];done)),H',⟨Nat.le_refl _⟩,⟨by (with_reducible repeat (first | refine blk_drewN ?_ _ | refine blk_drew ?_ | refine blk_alloc ?_ _));exact BK103.out⟩,⟨HB.out⟩⟩
 case round =>
  clear H'
  obtain ⟨x3_1,rfl,HA,HK1,BK103,HB⟩:=hrel
  cases gk with
  | zero=>exact absurd HA.out (by simp [q3_Table.l0])
  | succ k1 =>
   have H:=HA.out
   clear HA
   simp only [q3_Table.l0] at H
   by_cases c3 : x3_1 < (l0_0.length : Int)
   case neg =>
    rw [if_neg c3] at H
    have c3b0 : decide (x3_1 < (l0_0.length : Int)) = false:=decide_eq_false c3
    clear c3
    replace H:=obm H
    obtain ⟨t104,A270,H⟩:=H
    replace H : (if t104 = true then ((q3_in.f a0_1 0 100).bind fun t105=>(some t105)) else (some false)) = some r:=H
    have A27:=am A270
    clear A270
    by_cases c28 : t104 = true
    case neg =>
     replace c28:=Bool.eq_false_iff.mpr c28
     subst c28
     replace H : (some false) = some r:=by rw [if_neg (show ¬ (false = true) by decide)] at H;exact H
     obtain rfl:=Option.some.inj H
     obtain ⟨hcz31_0,hcz31_1⟩:=cO2 BK103.out
     have hfz31_0:=blk_frozen BK103.out 0
     have hfz31_1:=blk_frozen BK103.out 1
     go_wp2_with (first | ((with_reducible refine gate_callee (f:=98) rfl ?_);refine goesL_ (some 36) rfl rfl Tryz.func98 (by kernel_rfl) rfl #[.int .i64 (l0_0.length : Int),.int .i64 1,.int .i64 12] rfl (by (try simp only [List.map_toArray,List.map_cons,List.map_nil]);first | done | rfl | (simp only [List.length_drop,List.length_take];rfl)) ?_;(with_reducible refine (q3_in.calls (l0_0.length : Int) 1 12 false _ A27.out).mono ?_);rintro e w' ⟨rfl,⟨nd,rfl⟩⟩;refine ⟨_,rfl,?_⟩))
     go_ret
     exact ⟨by first | rfl | (simp [*]<;>rfl),pw_below_drewN HB.out _⟩
    subst c28
    replace H : ((q3_in.f a0_1 0 100).bind fun t105=>(some t105)) = some r:=by rw [if_pos rfl] at H;exact H
    replace H:=obm H
    obtain ⟨t105,A290,H⟩:=H
    replace H : (some t105) = some r:=H
    have A29:=am A290
    clear A290
    obtain rfl:=Option.some.inj H
    obtain ⟨hcz30_0,hcz30_1⟩:=cO2 BK103.out
    have hfz30_0:=blk_frozen BK103.out 0
    have hfz30_1:=blk_frozen BK103.out 1
    go_wp2_with (first | ((with_reducible refine gate_callee (f:=98) rfl ?_);refine goesL_ (some 36) rfl rfl Tryz.func98 (by kernel_rfl) rfl #[.int .i64 (l0_0.length : Int),.int .i64 1,.int .i64 12] rfl (by (try simp only [List.map_toArray,List.map_cons,List.map_nil]);first | done | rfl | (simp only [List.length_drop,List.length_take];rfl)) ?_;(with_reducible refine (q3_in.calls (l0_0.length : Int) 1 12 true _ A27.out).mono ?_);rintro e w' ⟨rfl,⟨nd,rfl⟩⟩;refine ⟨_,rfl,?_⟩) | (go_at_call 98;(with_reducible refine (q3_in.calls a0_1 0 100 t105 _ A29.out).mono ?_);rintro e w' ⟨rfl,⟨nd,rfl⟩⟩))
    go_ret
    exact ⟨by first | rfl | (simp [*]<;>rfl),pw_below_drewN HB.out _⟩
   rw [if_pos c3] at H
   have c3b0 : decide (x3_1 < (l0_0.length : Int)) = true:=decide_eq_true c3
   clear c3
   by_cases c4 : 0≤x3_1
   case neg =>
    rw [if_neg c4] at H
    exact absurd H (by simp)
   rw [if_pos c4] at H
   have c4b0 : decide (0≤x3_1) = true:=decide_eq_true c4
   clear c4
   replace H:=obm H
   obtain ⟨t108,A50,H⟩:=H
   replace H : (if t108 = true then ((q3_in.f ((rd_T126 l0_0 x3_1).f1) 1 60).bind fun t109=>(if t109 = true then ((q3_in.f ((rd_T126 l0_0 x3_1).f2) 1 1000).bind fun t110=>(if t110 = true then (q3_Table.l0 k1 (wrap64 (x3_1 + 1)) l0_0 a0_1) else (some false))) else (some false))) else (some false)) = some r:=H
   have A5:=am A50
   clear A50
   by_cases c6 : t108 = true
   case neg =>
    replace c6:=Bool.eq_false_iff.mpr c6
    subst c6
    replace H : (some false) = some r:=by rw [if_neg (show ¬ (false = true) by decide)] at H;exact H
    obtain rfl:=Option.some.inj H
    obtain ⟨hcz23_0,hcz23_1⟩:=cO2 BK103.out
    have hfz23_0:=blk_frozen BK103.out 0
    have hfz23_1:=blk_frozen BK103.out 1
    have p106 : 0≤(x3_1 : Int):=of_decide_eq_true (by assumption)
    have q106 : x3_1 < (l0_0.length : Int):=of_decide_eq_true (by assumption)
    obtain ⟨ad106,e106,hx106_0,hx106_1,hx106_2⟩:=at_T126 HR0_0.out x3_1 p106 q106
    cases e106
    replace hx106_0:=(HB.out.cell (wbl hx106_0)).trans hx106_0
    replace hx106_1:=(HB.out.cell (wbl hx106_1)).trans hx106_1
    replace hx106_2:=(HB.out.cell (wbl hx106_2)).trans hx106_2
    replace p106:=eq_true p106
    replace q106:=eq_true q106
    go_wp2_with (first | ((refine gate_dst (N:=4) rfl ?_);refine box_event rfl (N:=4) rfl (cs:=#[.int .i64 0,.int .i64 0,.int .i64 0]) (t:=126) ?hr ?_;(case hr=>go_simp;try rfl);intro gb107 hg w24 hbox hb;have BK107:=am (hbox);have GW107:=am (ge_new (HB.out) hg);have GE107:=am (ge_new (HB.out) hg);have NB103_107:=am ((by rw [hg];exact Nat.ne_of_lt (blk_lt (g:=gb103) (o:=.cells #[.slice (some ad106) l0_0.length c0_0,.int .i64 a0_1] 24 (0,0)) (by (with_reducible repeat (first | refine blk_drewN ?_ _ | refine blk_drew ?_ | refine blk_alloc ?_ _));exact BK103.out)) : gb103 ≠ gb107));have NB107_103:=am ((by rw [hg];exact Nat.ne_of_gt (blk_lt (g:=gb103) (o:=.cells #[.slice (some ad106) l0_0.length c0_0,.int .i64 a0_1] 24 (0,0)) (by (with_reducible repeat (first | refine blk_drewN ?_ _ | refine blk_drew ?_ | refine blk_alloc ?_ _));exact BK103.out)) : gb107 ≠ gb103));replace BK103:=am (blk_below (g:=gb103) (o:=.cells #[.slice (some ad106) l0_0.length c0_0,.int .i64 a0_1] 24 (0,0)) (by (with_reducible repeat (first | refine blk_drewN ?_ _ | refine blk_drew ?_ | refine blk_alloc ?_ _));exact BK103.out) hb);replace HB:=am (below_step (HB.out) hb);clear hb hbox hg;have hnb25:=NB107_103.out;have hnc25:=NB103_107.out;obtain ⟨hcz26_0,hcz26_1,hcz26_2⟩:=cO3 BK107.out;have hfz26_0:=blk_frozen BK107.out 0;have hfz26_1:=blk_frozen BK107.out 1;have hfz26_2:=blk_frozen BK107.out 2) | ((with_reducible refine gate_callee (f:=98) rfl ?_);refine goesL_ (some 19) rfl rfl Tryz.func98 (by kernel_rfl) rfl #[.int .i64 ((rd_T126 l0_0 x3_1).f0),.int .i64 1,.int .i64 60] rfl (by (try simp only [List.map_toArray,List.map_cons,List.map_nil]);first | done | rfl | (simp only [List.length_drop,List.length_take];rfl)) ?_;(with_reducible refine (q3_in.calls ((rd_T126 l0_0 x3_1).f0) 1 60 false _ A5.out).mono ?_);rintro e w' ⟨rfl,⟨nd,rfl⟩⟩;refine ⟨_,rfl,?_⟩))
    go_ret
    exact ⟨by first | rfl | (simp [*]<;>rfl),by repeat (first | (with_reducible first | exact HB.out | refine below_set ?_ (Aside0.out (by assumption)) | apply below_alloc | apply pw_below_drewN) | exact HB.out)⟩
   subst c6
   replace H : ((q3_in.f ((rd_T126 l0_0 x3_1).f1) 1 60).bind fun t109=>(if t109 = true then ((q3_in.f ((rd_T126 l0_0 x3_1).f2) 1 1000).bind fun t110=>(if t110 = true then (q3_Table.l0 k1 (wrap64 (x3_1 + 1)) l0_0 a0_1) else (some false))) else (some false))) = some r:=by rw [if_pos rfl] at H;exact H
   replace H:=obm H
   obtain ⟨t109,A70,H⟩:=H
   replace H : (if t109 = true then ((q3_in.f ((rd_T126 l0_0 x3_1).f2) 1 1000).bind fun t110=>(if t110 = true then (q3_Table.l0 k1 (wrap64 (x3_1 + 1)) l0_0 a0_1) else (some false))) else (some false)) = some r:=H
   have A7:=am A70
   clear A70
   by_cases c8 : t109 = true
   case neg =>
    replace c8:=Bool.eq_false_iff.mpr c8
    subst c8
    replace H : (some false) = some r:=by rw [if_neg (show ¬ (false = true) by decide)] at H;exact H
    obtain rfl:=Option.some.inj H
    obtain ⟨hcz19_0,hcz19_1⟩:=cO2 BK103.out
    have hfz19_0:=blk_frozen BK103.out 0
    have hfz19_1:=blk_frozen BK103.out 1
    have p106 : 0≤(x3_1 : Int):=of_decide_eq_true (by assumption)
    have q106 : x3_1 < (l0_0.length : Int):=of_decide_eq_true (by assumption)
    obtain ⟨ad106,e106,hx106_0,hx106_1,hx106_2⟩:=at_T126 HR0_0.out x3_1 p106 q106
    cases e106
    replace hx106_0:=(HB.out.cell (wbl hx106_0)).trans hx106_0
    replace hx106_1:=(HB.out.cell (wbl hx106_1)).trans hx106_1
    replace hx106_2:=(HB.out.cell (wbl hx106_2)).trans hx106_2
    replace p106:=eq_true p106
    replace q106:=eq_true q106
    go_wp2_with (first | ((refine gate_dst (N:=4) rfl ?_);refine box_event rfl (N:=4) rfl (cs:=#[.int .i64 0,.int .i64 0,.int .i64 0]) (t:=126) ?hr ?_;(case hr=>go_simp;try rfl);intro gb107 hg w20 hbox hb;have BK107:=am (hbox);have GW107:=am (ge_new (HB.out) hg);have GE107:=am (ge_new (HB.out) hg);have NB103_107:=am ((by rw [hg];exact Nat.ne_of_lt (blk_lt (g:=gb103) (o:=.cells #[.slice (some ad106) l0_0.length c0_0,.int .i64 a0_1] 24 (0,0)) (by (with_reducible repeat (first | refine blk_drewN ?_ _ | refine blk_drew ?_ | refine blk_alloc ?_ _));exact BK103.out)) : gb103 ≠ gb107));have NB107_103:=am ((by rw [hg];exact Nat.ne_of_gt (blk_lt (g:=gb103) (o:=.cells #[.slice (some ad106) l0_0.length c0_0,.int .i64 a0_1] 24 (0,0)) (by (with_reducible repeat (first | refine blk_drewN ?_ _ | refine blk_drew ?_ | refine blk_alloc ?_ _));exact BK103.out)) : gb107 ≠ gb103));replace BK103:=am (blk_below (g:=gb103) (o:=.cells #[.slice (some ad106) l0_0.length c0_0,.int .i64 a0_1] 24 (0,0)) (by (with_reducible repeat (first | refine blk_drewN ?_ _ | refine blk_drew ?_ | refine blk_alloc ?_ _));exact BK103.out) hb);replace HB:=am (below_step (HB.out) hb);clear hb hbox hg;have hnb21:=NB107_103.out;have hnc21:=NB103_107.out;obtain ⟨hcz22_0,hcz22_1,hcz22_2⟩:=cO3 BK107.out;have hfz22_0:=blk_frozen BK107.out 0;have hfz22_1:=blk_frozen BK107.out 1;have hfz22_2:=blk_frozen BK107.out 2) | ((with_reducible refine gate_callee (f:=98) rfl ?_);refine goesL_ (some 19) rfl rfl Tryz.func98 (by kernel_rfl) rfl #[.int .i64 ((rd_T126 l0_0 x3_1).f0),.int .i64 1,.int .i64 60] rfl (by (try simp only [List.map_toArray,List.map_cons,List.map_nil]);first | done | rfl | (simp only [List.length_drop,List.length_take];rfl)) ?_;(with_reducible refine (q3_in.calls ((rd_T126 l0_0 x3_1).f0) 1 60 true _ A5.out).mono ?_);rintro e w' ⟨rfl,⟨nd,rfl⟩⟩;refine ⟨_,rfl,?_⟩) | (go_at_call 98;(with_reducible refine (q3_in.calls ((rd_T126 l0_0 x3_1).f1) 1 60 false _ A7.out).mono ?_);rintro e w' ⟨rfl,⟨nd,rfl⟩⟩))
    go_ret
    exact ⟨by first | rfl | (simp [*]<;>rfl),by repeat (first | (with_reducible first | exact HB.out | refine below_set ?_ (Aside0.out (by assumption)) | apply below_alloc | apply pw_below_drewN) | exact HB.out)⟩
   subst c8
   replace H : ((q3_in.f ((rd_T126 l0_0 x3_1).f2) 1 1000).bind fun t110=>(if t110 = true then (q3_Table.l0 k1 (wrap64 (x3_1 + 1)) l0_0 a0_1) else (some false))) = some r:=by rw [if_pos rfl] at H;exact H
   replace H:=obm H
   obtain ⟨t110,A90,H⟩:=H
   replace H : (if t110 = true then (q3_Table.l0 k1 (wrap64 (x3_1 + 1)) l0_0 a0_1) else (some false)) = some r:=H
   have A9:=am A90
   clear A90
   by_cases c10 : t110 = true
   ·subst c10
    replace H : (q3_Table.l0 k1 (wrap64 (x3_1 + 1)) l0_0 a0_1) = some r:=by rw [if_pos rfl] at H;exact H
    replace H':=am H
    obtain ⟨hcz11_0,hcz11_1⟩:=cO2 BK103.out
    have hfz11_0:=blk_frozen BK103.out 0
    have hfz11_1:=blk_frozen BK103.out 1
    have p106 : 0≤(x3_1 : Int):=of_decide_eq_true (by assumption)
    have q106 : x3_1 < (l0_0.length : Int):=of_decide_eq_true (by assumption)
    obtain ⟨ad106,e106,hx106_0,hx106_1,hx106_2⟩:=at_T126 HR0_0.out x3_1 p106 q106
    cases e106
    replace hx106_0:=(HB.out.cell (wbl hx106_0)).trans hx106_0
    replace hx106_1:=(HB.out.cell (wbl hx106_1)).trans hx106_1
    replace hx106_2:=(HB.out.cell (wbl hx106_2)).trans hx106_2
    replace p106:=eq_true p106
    replace q106:=eq_true q106
    go_wp2_with (first | ((refine gate_dst (N:=4) rfl ?_);refine box_event rfl (N:=4) rfl (cs:=#[.int .i64 0,.int .i64 0,.int .i64 0]) (t:=126) ?hr ?_;(case hr=>go_simp;try rfl);intro gb107 hg w12 hbox hb;have BK107:=am (hbox);have GW107:=am (ge_new (HB.out) hg);have GE107:=am (ge_new (HB.out) hg);have NB103_107:=am ((by rw [hg];exact Nat.ne_of_lt (blk_lt (g:=gb103) (o:=.cells #[.slice (some ad106) l0_0.length c0_0,.int .i64 a0_1] 24 (0,0)) (by (with_reducible repeat (first | refine blk_drewN ?_ _ | refine blk_drew ?_ | refine blk_alloc ?_ _));exact BK103.out)) : gb103 ≠ gb107));have NB107_103:=am ((by rw [hg];exact Nat.ne_of_gt (blk_lt (g:=gb103) (o:=.cells #[.slice (some ad106) l0_0.length c0_0,.int .i64 a0_1] 24 (0,0)) (by (with_reducible repeat (first | refine blk_drewN ?_ _ | refine blk_drew ?_ | refine blk_alloc ?_ _));exact BK103.out)) : gb107 ≠ gb103));replace BK103:=am (blk_below (g:=gb103) (o:=.cells #[.slice (some ad106) l0_0.length c0_0,.int .i64 a0_1] 24 (0,0)) (by (with_reducible repeat (first | refine blk_drewN ?_ _ | refine blk_drew ?_ | refine blk_alloc ?_ _));exact BK103.out) hb);replace HB:=am (below_step (HB.out) hb);clear hb hbox hg;have hnb13:=NB107_103.out;have hnc13:=NB103_107.out;obtain ⟨hcz14_0,hcz14_1,hcz14_2⟩:=cO3 BK107.out;have hfz14_0:=blk_frozen BK107.out 0;have hfz14_1:=blk_frozen BK107.out 1;have hfz14_2:=blk_frozen BK107.out 2) | ((with_reducible refine gate_callee (f:=98) rfl ?_);refine goesL_ (some 19) rfl rfl Tryz.func98 (by kernel_rfl) rfl #[.int .i64 ((rd_T126 l0_0 x3_1).f0),.int .i64 1,.int .i64 60] rfl (by (try simp only [List.map_toArray,List.map_cons,List.map_nil]);first | done | rfl | (simp only [List.length_drop,List.length_take];rfl)) ?_;(with_reducible refine (q3_in.calls ((rd_T126 l0_0 x3_1).f0) 1 60 true _ A5.out).mono ?_);rintro e w' ⟨rfl,⟨nd,rfl⟩⟩;refine ⟨_,rfl,?_⟩) | (go_at_call 98;(with_reducible refine (q3_in.calls ((rd_T126 l0_0 x3_1).f1) 1 60 true _ A7.out).mono ?_);rintro e w' ⟨rfl,⟨nd,rfl⟩⟩) | (go_at_call 98;(with_reducible refine (q3_in.calls ((rd_T126 l0_0 x3_1).f2) 1 1000 true _ A9.out).mono ?_);rintro e w' ⟨rfl,⟨nd,rfl⟩⟩))
    go_roundg k1
    case measure=>have:=HK1.out;omega
    case rel=>exact ⟨(wrap64 (x3_1 + 1)),(by first | rfl | (simp;done) | (simp [*];done)),H',⟨by have:=HK1.out;omega⟩,⟨by (with_reducible repeat (first | refine blk_drewN ?_ _ | refine blk_drew ?_ | refine blk_alloc ?_ _));refine blk_far ?_ NB103_107.out _;(with_reducible repeat (first | refine blk_drewN ?_ _ | refine blk_drew ?_ | refine blk_alloc ?_ _));refine blk_far ?_ NB103_107.out _;(with_reducible repeat (first | refine blk_drewN ?_ _ | refine blk_drew ?_ | refine blk_alloc ?_ _));refine blk_far ?_ NB103_107.out _;(with_reducible repeat (first | refine blk_drewN ?_ _ | refine blk_drew ?_ | refine blk_alloc ?_ _));exact BK103.out⟩,⟨by repeat (first | (with_reducible first | exact HB.out | refine below_set ?_ (Aside0.out (by assumption)) | apply below_alloc | apply pw_below_drewN) | exact HB.out)⟩⟩
   ·replace c10:=Bool.eq_false_iff.mpr c10
    subst c10
    replace H : (some false) = some r:=by rw [if_neg (show ¬ (false = true) by decide)] at H;exact H
    obtain rfl:=Option.some.inj H
    obtain ⟨hcz15_0,hcz15_1⟩:=cO2 BK103.out
    have hfz15_0:=blk_frozen BK103.out 0
    have hfz15_1:=blk_frozen BK103.out 1
    have p106 : 0≤(x3_1 : Int):=of_decide_eq_true (by assumption)
    have q106 : x3_1 < (l0_0.length : Int):=of_decide_eq_true (by assumption)
    obtain ⟨ad106,e106,hx106_0,hx106_1,hx106_2⟩:=at_T126 HR0_0.out x3_1 p106 q106
    cases e106
    replace hx106_0:=(HB.out.cell (wbl hx106_0)).trans hx106_0
    replace hx106_1:=(HB.out.cell (wbl hx106_1)).trans hx106_1
    replace hx106_2:=(HB.out.cell (wbl hx106_2)).trans hx106_2
    replace p106:=eq_true p106
    replace q106:=eq_true q106
    go_wp2_with (first | ((refine gate_dst (N:=4) rfl ?_);refine box_event rfl (N:=4) rfl (cs:=#[.int .i64 0,.int .i64 0,.int .i64 0]) (t:=126) ?hr ?_;(case hr=>go_simp;try rfl);intro gb107 hg w16 hbox hb;have BK107:=am (hbox);have GW107:=am (ge_new (HB.out) hg);have GE107:=am (ge_new (HB.out) hg);have NB103_107:=am ((by rw [hg];exact Nat.ne_of_lt (blk_lt (g:=gb103) (o:=.cells #[.slice (some ad106) l0_0.length c0_0,.int .i64 a0_1] 24 (0,0)) (by (with_reducible repeat (first | refine blk_drewN ?_ _ | refine blk_drew ?_ | refine blk_alloc ?_ _));exact BK103.out)) : gb103 ≠ gb107));have NB107_103:=am ((by rw [hg];exact Nat.ne_of_gt (blk_lt (g:=gb103) (o:=.cells #[.slice (some ad106) l0_0.length c0_0,.int .i64 a0_1] 24 (0,0)) (by (with_reducible repeat (first | refine blk_drewN ?_ _ | refine blk_drew ?_ | refine blk_alloc ?_ _));exact BK103.out)) : gb107 ≠ gb103));replace BK103:=am (blk_below (g:=gb103) (o:=.cells #[.slice (some ad106) l0_0.length c0_0,.int .i64 a0_1] 24 (0,0)) (by (with_reducible repeat (first | refine blk_drewN ?_ _ | refine blk_drew ?_ | refine blk_alloc ?_ _));exact BK103.out) hb);replace HB:=am (below_step (HB.out) hb);clear hb hbox hg;have hnb17:=NB107_103.out;have hnc17:=NB103_107.out;obtain ⟨hcz18_0,hcz18_1,hcz18_2⟩:=cO3 BK107.out;have hfz18_0:=blk_frozen BK107.out 0;have hfz18_1:=blk_frozen BK107.out 1;have hfz18_2:=blk_frozen BK107.out 2) | ((with_reducible refine gate_callee (f:=98) rfl ?_);refine goesL_ (some 19) rfl rfl Tryz.func98 (by kernel_rfl) rfl #[.int .i64 ((rd_T126 l0_0 x3_1).f0),.int .i64 1,.int .i64 60] rfl (by (try simp only [List.map_toArray,List.map_cons,List.map_nil]);first | done | rfl | (simp only [List.length_drop,List.length_take];rfl)) ?_;(with_reducible refine (q3_in.calls ((rd_T126 l0_0 x3_1).f0) 1 60 true _ A5.out).mono ?_);rintro e w' ⟨rfl,⟨nd,rfl⟩⟩;refine ⟨_,rfl,?_⟩) | (go_at_call 98;(with_reducible refine (q3_in.calls ((rd_T126 l0_0 x3_1).f1) 1 60 true _ A7.out).mono ?_);rintro e w' ⟨rfl,⟨nd,rfl⟩⟩) | (go_at_call 98;(with_reducible refine (q3_in.calls ((rd_T126 l0_0 x3_1).f2) 1 1000 false _ A9.out).mono ?_);rintro e w' ⟨rfl,⟨nd,rfl⟩⟩))
    go_ret
    exact ⟨by first | rfl | (simp [*]<;>rfl),by repeat (first | (with_reducible first | exact HB.out | refine below_set ?_ (Aside0.out (by assumption)) | apply below_alloc | apply pw_below_drewN) | exact HB.out)⟩
end
end Go.Proofs.YtnnmnhpeblhiiaaGreatDoor.C

/- A part of the proof: the walks of the functions that it reaches. TIGHT. -/
import Derived.Test.YtclkbedbocnpkaaGreatDoorMSho1
import Derived.Test.YtclkbedbocnpkaaGreatDoorProg
import Derived.Test.YtclkbedbocnpkaaGreatDoorRows
import Derived.Below
import Derived.Deep.Draws
import Derived.Deep.AppendLies
import Derived.Maps.AppendAt
import Derived.OwnWalk
import Derived.Laws.BytesArg
import Derived.Laws.MakeOwn
import Derived.Laws.OwnMore
import Derived.Deep.OwnRows
import Derived.Tactics
import Derived.Lib.ConvBytes
import Derived.Laws.Slices
import Derived.WalkKit
import Derived.KernelRfl
import Derived.RowKit3
import Derived.Deep.LoopGhost
import Derived.Deep.QuietTactic
import Derived.BigQuiet
import Derived.WideLaws
import Derived.Deep.DeepCutAuto
import Derived.Deep.CutBlock
import Derived.Deep.RegionHeld3
import Derived.Laws.Rows
import Derived.Lib.AppendStr
import Derived.ArgAppend
import Derived.Laws.IdiomCopy
import Derived.OrdersHeld
import Derived.Laws.BitsLemmas
import Derived.RowKit
import Derived.ProofKit
import Derived.OpenShut
import Derived.ChangeOld
import Derived.Carry
import Derived.Lib.SmallJoins
import Derived.Deep.Slices
import Derived.Lib.LaidTab
import Derived.LaidMore
import Derived.Lay
import Derived.Stop.Joined
import Derived.RangeFuncNested
import Derived.RangeFuncBound
import Derived.RangeFuncCalls
import Derived.RangeFuncLeaves
import Derived.WalkSpells
import Derived.Lib.SliceRun
import Derived.Shelf.Abstract
import Derived.OwnWalkIn
import Derived.TacticsInMore
import Derived.LoopNIn
import Derived.LoopIn
import Derived.Shelf.RegionOpen
import Derived.Laws.EntriesVeiled
set_option linter.unusedVariables false
set_option linter.unusedSimpArgs false
namespace Go.Proofs.YtclkbedbocnpkaaGreatDoor.C
open Go.RowKit Go.Proofs.YtclkbedbocnpkaaGreatDoorW.PrintWords Go.Proofs.YtclkbedbocnpkaaGreatDoorW.PrintLast
set_option linter.unusedVariables false
set_option linter.unusedSimpArgs false
set_option maxHeartbeats 16000000
set_option maxRecDepth 100000
theorem cO1 {W : World} {g t : Nat} {v0 : Value} {r : List Value} (h : W.heap[g]? = some (.cells (v0 :: r).toArray t (0,0))) : W.cell? ⟨g,0,none⟩ = some v0:=by
 exact (blk_cell h _).trans rfl
theorem cO2 {W : World} {g t : Nat} {v0 v1 : Value} {r : List Value} (h : W.heap[g]? = some (.cells (v0 :: v1 :: r).toArray t (0,0))) : W.cell? ⟨g,0,none⟩ = some v0∧W.cell? ⟨g,1,none⟩ = some v1:=by
 refine ⟨?_,?_⟩<;>exact (blk_cell h _).trans rfl
theorem cO3 {W : World} {g t : Nat} {v0 v1 v2 : Value} {r : List Value} (h : W.heap[g]? = some (.cells (v0 :: v1 :: v2 :: r).toArray t (0,0))) : W.cell? ⟨g,0,none⟩ = some v0∧W.cell? ⟨g,1,none⟩ = some v1∧W.cell? ⟨g,2,none⟩ = some v2:=by
 refine ⟨?_,?_,?_⟩<;>exact (blk_cell h _).trans rfl
theorem cO4 {W : World} {g t : Nat} {v0 v1 v2 v3 : Value} {r : List Value} (h : W.heap[g]? = some (.cells (v0 :: v1 :: v2 :: v3 :: r).toArray t (0,0))) : W.cell? ⟨g,0,none⟩ = some v0∧W.cell? ⟨g,1,none⟩ = some v1∧W.cell? ⟨g,2,none⟩ = some v2∧W.cell? ⟨g,3,none⟩ = some v3:=by
 refine ⟨?_,?_,?_,?_⟩<;>exact (blk_cell h _).trans rfl
theorem cO5 {W : World} {g t : Nat} {v0 v1 v2 v3 v4 : Value} {r : List Value} (h : W.heap[g]? = some (.cells (v0 :: v1 :: v2 :: v3 :: v4 :: r).toArray t (0,0))) : W.cell? ⟨g,0,none⟩ = some v0∧W.cell? ⟨g,1,none⟩ = some v1∧W.cell? ⟨g,2,none⟩ = some v2∧W.cell? ⟨g,3,none⟩ = some v3∧W.cell? ⟨g,4,none⟩ = some v4:=by
 refine ⟨?_,?_,?_,?_,?_⟩<;>exact (blk_cell h _).trans rfl
theorem cO6 {W : World} {g t : Nat} {v0 v1 v2 v3 v4 v5 : Value} {r : List Value} (h : W.heap[g]? = some (.cells (v0 :: v1 :: v2 :: v3 :: v4 :: v5 :: r).toArray t (0,0))) : W.cell? ⟨g,0,none⟩ = some v0∧W.cell? ⟨g,1,none⟩ = some v1∧W.cell? ⟨g,2,none⟩ = some v2∧W.cell? ⟨g,3,none⟩ = some v3∧W.cell? ⟨g,4,none⟩ = some v4∧W.cell? ⟨g,5,none⟩ = some v5:=by
 refine ⟨?_,?_,?_,?_,?_,?_⟩<;>exact (blk_cell h _).trans rfl
theorem cO7 {W : World} {g t : Nat} {v0 v1 v2 v3 v4 v5 v6 : Value} {r : List Value} (h : W.heap[g]? = some (.cells (v0 :: v1 :: v2 :: v3 :: v4 :: v5 :: v6 :: r).toArray t (0,0))) : W.cell? ⟨g,0,none⟩ = some v0∧W.cell? ⟨g,1,none⟩ = some v1∧W.cell? ⟨g,2,none⟩ = some v2∧W.cell? ⟨g,3,none⟩ = some v3∧W.cell? ⟨g,4,none⟩ = some v4∧W.cell? ⟨g,5,none⟩ = some v5∧W.cell? ⟨g,6,none⟩ = some v6:=by
 refine ⟨?_,?_,?_,?_,?_,?_,?_⟩<;>exact (blk_cell h _).trans rfl
theorem ne_new {W : World} {g g' : Nat} {o : Obj} (h : W.heap[g]? = some o) (hg : g' = W.heap.size) : g ≠ g':=by
 rw [hg];exact Nat.ne_of_lt (blk_lt h)
theorem ne_new2 {W : World} {g g' : Nat} {o : Obj} (h : W.heap[g]? = some o) (hg : g' = W.heap.size) : g' ≠ g:=(ne_new h hg).symm
theorem ge_new {w W : World} {g' : Nat} (h : Below w.heap.size w W) (hg : g' = W.heap.size) : w.heap.size≤g':=by
 rw [hg];exact below_size h
theorem am {p : Prop} (h : p) : Aside0 p:=⟨h⟩
theorem bmv {w W W2 : World} (h : Aside0 (Below w.heap.size w W)) (k : Below W.heap.size W W2) : Aside0 (Below w.heap.size w W2):=⟨below_step h.out k⟩
theorem kmv {W W2 : World} {g : Nat} {t : TypeId} {cs : Array Value} (k : Below W.heap.size W W2) (h : Aside0 (W.heap[g]? = some (.cells cs t (0,0)))) : Aside0 (W2.heap[g]? = some (.cells cs t (0,0))):=⟨blk_below h.out k⟩
theorem cmv {α : Type} {d : Kd α} {W W2 : World} {A : Option Addr} {n : Nat} {xs : List α} (h : Aside0 (d.C W A n xs)) (k : Below W.heap.size W W2) : Aside0 (d.C W2 A n xs):=⟨Kd.C_below h.out k⟩
theorem NRM : (∀ (α : Type) (l : List α) (i : Nat) (a : α),l.toArray.setIfInBounds i a = (l.set i a).toArray)∧(∀ (α : Type) (a b : α) (l : List α),(a :: l).set 0 b = b :: l)∧(∀ (α : Type) (a b : α) (l : List α) (n : Nat),(a :: l).set (n + 1) b = a :: l.set n b)∧(∀ n,IntKind.i64.wrap n = wrap64 n)∧(∀ n,IntKind.i32.wrap n = Go.RowKit.wrap32 n):=
 ⟨fun _ _ _ _=>by simp,fun _ _ _ _=>rfl,fun _ _ _ _ _=>rfl,i64_w,i32_w⟩
def bl : Nat→Nat→List Bool
 | 0,_=>[]
 | n + 1,k=>(k % 2 == 1) :: bl n (k / 2)
def ba (n k : Nat) : Array Bool:=(bl n k).toArray
theorem kC {α : Type} {d : Kd α} {W W2 : World} {A : Option Addr} {n : Nat} {xs : List α} (h : d.C W A n xs) (k : Below W.heap.size W W2) : d.C W2 A n xs:=Kd.C_below h k
theorem wbl {w : World} {a : Addr} {v : Value} (h : w.cell? a = some v) : a.block < w.heap.size:=World.block_lt_of_cell? w _ h
theorem obm {α β : Type} {o : Option α} {f : α→Option β} {b : β} (h : o.bind f = some b) : ∃ a,o = some a∧f a = some b:=Option.bind_eq_some_iff.mp h
theorem NR3 : (∀ (α : Type) (l : List α) (i : Nat) (a : α),l.toArray.setIfInBounds i a = (l.set i a).toArray)∧(∀ (α : Type) (a b : α) (l : List α),(a :: l).set 0 b = b :: l)∧(∀ (α : Type) (a b : α) (l : List α) (n : Nat),(a :: l).set (n + 1) b = a :: l.set n b):=⟨NRM.1,NRM.2.1,NRM.2.2.1⟩
end Go.Proofs.YtclkbedbocnpkaaGreatDoor.C
namespace Go.Proofs.YtclkbedbocnpkaaGreatDoor.C
open Go.RowKit Go.Proofs.YtclkbedbocnpkaaGreatDoorW.PrintWords Go.Proofs.YtclkbedbocnpkaaGreatDoorW.PrintLast Go.Proofs.YtclkbedbocnpkaaGreatDoorW.PrintMore
set_option linter.unusedVariables false
set_option linter.unusedSimpArgs false
set_option maxHeartbeats 16000000
set_option maxRecDepth 100000
def errW : Option Int→Value
 | none=>.nilIface
 | some c=>.iface 0 (.int .i64 c)
theorem info3 : (Tryz.prog.info? 3).map (fun i=>(i.zero,i.size,i.bytes)) = some (some (.int .i64 0),1,8):=by kernel_rfl
structure S35 where
 f0 : Int
 f1 : Int
def z35 : S35:=⟨(0 : Int),(0 : Int)⟩
def k35 : Kd S35:=Kd.iso (Kd.pair (Kd.int .i64) (Kd.int .i64)) (fun x : S35=>(x.f0,x.f1))
theorem k35_open {w : World} {x : S35} {cs : List Value} (h : k35.K w x cs) : cs = [.int .i64 x.f0,.int .i64 x.f1]:=by
 obtain ⟨_,_,rfl,rfl,rfl⟩:=h
 exact rfl
theorem k35_mk (w : World) (x : S35)  : k35.K w x [.int .i64 x.f0,.int .i64 x.f1]:=⟨[.int .i64 x.f0],[.int .i64 x.f1],rfl,rfl,rfl⟩
structure S37 where
 f0 : S35
 f1 : Int
def z37 : S37:=⟨z35,(0 : Int)⟩
def k37 : Kd S37:=Kd.iso (Kd.pair k35 (Kd.int .i64)) (fun x : S37=>(x.f0,x.f1))
theorem k37_open {w : World} {x : S37} {cs : List Value} (h : k37.K w x cs) : cs = [.int .i64 x.f0.f0,.int .i64 x.f0.f1,.int .i64 x.f1]:=by
 obtain ⟨_,_,rfl,s0,rfl⟩:=h
 obtain rfl:=k35_open s0
 exact rfl
theorem k37_mk (w : World) (x : S37)  : k37.K w x [.int .i64 x.f0.f0,.int .i64 x.f0.f1,.int .i64 x.f1]:=⟨[.int .i64 x.f0.f0,.int .i64 x.f0.f1],[.int .i64 x.f1],rfl,(k35_mk w x.f0 ),rfl⟩
def rd_T37 (xs : List S37) (i : Int) : S37:=xs.getD i.toNat z37
theorem at_T37 {w : World} {A : Option Addr} {n : Nat} {xs : List S37} (h : Kd.C k37 w A n xs) (i : Int) (h0 : 0≤i) (h1 : i < n) : ∃ ad ,A = some ad∧w.cell? (ad.add (i.toNat * 3)) = some (.int .i64 (rd_T37 xs i).f0.f0)∧w.cell? ⟨(ad.add (i.toNat * 3)).block,(ad.add (i.toNat * 3)).off + 1,none⟩ = some (.int .i64 (rd_T37 xs i).f0.f1)∧w.cell? ⟨(ad.add (i.toNat * 3)).block,(ad.add (i.toNat * 3)).off + 2,none⟩ = some (.int .i64 (rd_T37 xs i).f1):=by
 obtain ⟨ad,c,e,_,hK,hc0⟩:=Kd.C_get h z37 i h0 h1
 have hc : ∀ j u,c[j]? = some u→w.cell? (ad.add (i.toNat * 3 + j)) = some u:=hc0
 obtain rfl:=k37_open hK
 exact ⟨ad,e,hc 0 _ rfl,by rw [← add_field _ _ 1 (by omega)];exact hc 1 _ rfl,by rw [← add_field _ _ 2 (by omega)];exact hc 2 _ rfl⟩
structure S65 where
 f0 : Int
 f1 : Int
 f2 : Int
 f3 : Bool
def z65 : S65:=⟨(0 : Int),(0 : Int),(0 : Int),false⟩
def k65 : Kd S65:=Kd.iso (Kd.pair (Kd.int .i64) (Kd.pair (Kd.int .i64) (Kd.pair (Kd.int .i64) Kd.bool))) (fun x : S65=>(x.f0,x.f1,x.f2,x.f3))
theorem k65_open {w : World} {x : S65} {cs : List Value} (h : k65.K w x cs) : cs = [.int .i64 x.f0,.int .i64 x.f1,.int .i64 x.f2,.bool x.f3]:=by
 obtain ⟨_,_,rfl,rfl,⟨_,_,rfl,rfl,⟨_,_,rfl,rfl,rfl⟩⟩⟩:=h
 exact rfl
theorem k65_mk (w : World) (x : S65)  : k65.K w x [.int .i64 x.f0,.int .i64 x.f1,.int .i64 x.f2,.bool x.f3]:=⟨[.int .i64 x.f0],[.int .i64 x.f1,.int .i64 x.f2,.bool x.f3],rfl,rfl,⟨[.int .i64 x.f1],[.int .i64 x.f2,.bool x.f3],rfl,rfl,⟨[.int .i64 x.f2],[.bool x.f3],rfl,rfl,rfl⟩⟩⟩
def rd_T65 (xs : List S65) (i : Int) : S65:=xs.getD i.toNat z65
theorem at_T65 {w : World} {A : Option Addr} {n : Nat} {xs : List S65} (h : Kd.C k65 w A n xs) (i : Int) (h0 : 0≤i) (h1 : i < n) : ∃ ad ,A = some ad∧w.cell? (ad.add (i.toNat * 4)) = some (.int .i64 (rd_T65 xs i).f0)∧w.cell? ⟨(ad.add (i.toNat * 4)).block,(ad.add (i.toNat * 4)).off + 1,none⟩ = some (.int .i64 (rd_T65 xs i).f1)∧w.cell? ⟨(ad.add (i.toNat * 4)).block,(ad.add (i.toNat * 4)).off + 2,none⟩ = some (.int .i64 (rd_T65 xs i).f2)∧w.cell? ⟨(ad.add (i.toNat * 4)).block,(ad.add (i.toNat * 4)).off + 3,none⟩ = some (.bool (rd_T65 xs i).f3):=by
 obtain ⟨ad,c,e,_,hK,hc0⟩:=Kd.C_get h z65 i h0 h1
 have hc : ∀ j u,c[j]? = some u→w.cell? (ad.add (i.toNat * 4 + j)) = some u:=hc0
 obtain rfl:=k65_open hK
 exact ⟨ad,e,hc 0 _ rfl,by rw [← add_field _ _ 1 (by omega)];exact hc 1 _ rfl,by rw [← add_field _ _ 2 (by omega)];exact hc 2 _ rfl,by rw [← add_field _ _ 3 (by omega)];exact hc 3 _ rfl⟩
def anyM {α : Type} (q : α→Option Bool) : List α→Option Bool
 | []=>some false
 | x :: xs=>(q x).bind fun b=>if b = true then some true else anyM q xs
def idxM {α : Type} (q : α→Option Bool) : List α→Int→Option Int
 | [],_=>some (-1)
 | x :: xs,i=>(q x).bind fun b=>if b = true then some i else idxM q xs (i + 1)
theorem idxM_of_anyM {α : Type} (q : α→Option Bool) : ∀ (xs : List α) (i : Int) (r : Bool),0≤i→anyM q xs = some r→∃ j,idxM q xs i = some j∧decide (0≤j) = r
 | [],i,r,hi,h=>by
  simp only [anyM] at h;obtain rfl:=Option.some.inj h;exact ⟨-1,rfl,by decide⟩
 | x :: xs,i,r,hi,h=>by
  simp only [anyM] at h
  obtain ⟨b,hb,h⟩:=obm h
  cases b with
  | true=>rw [if_pos rfl] at h;obtain rfl:=Option.some.inj h;exact ⟨i,by simp only [idxM,hb,Option.bind_some];rfl,decide_eq_true hi⟩
  | false =>
   rw [if_neg (by decide)] at h
   obtain ⟨j,hj,hd⟩:=idxM_of_anyM q xs (i + 1) r (by omega) h
   exact ⟨j,by simp only [idxM,hb,Option.bind_some];exact hj,hd⟩
theorem drop_at {α : Type} (d : α) (xs : List α) (i : Int) (h0 : 0≤i) (h1 : i < xs.length) : xs.drop i.toNat = xs.getD i.toNat d :: xs.drop (i + 1).toNat:=by
 rw [show (i + 1).toNat = i.toNat + 1 by omega,List.drop_eq_getElem_cons (show i.toNat < xs.length by omega),List.getD_eq_getElem?_getD,List.getElem?_eq_getElem (show i.toNat < xs.length by omega)]
 rfl
theorem getD_mem {α : Type} (d : α) {xs : List α} {i : Int} (h0 : 0≤i) (h1 : i < xs.length) : xs.getD i.toNat d ∈ xs:=by
 rw [List.getD_eq_getElem?_getD,List.getElem?_eq_getElem (show i.toNat < xs.length by omega)]
 simp
theorem idxM_step {α : Type} {q : α→Option Bool} (d : α) {xs : List α} {i : Int} {r : Int} (h0 : 0≤i) (h1 : i < xs.length) (h : idxM q (xs.drop i.toNat) i = some r) :
 (q (xs.getD i.toNat d) = some true∧i = r)∨(q (xs.getD i.toNat d) = some false∧idxM q (xs.drop (i + 1).toNat) (i + 1) = some r):=by
 rw [drop_at d xs i h0 h1] at h
 simp only [idxM] at h
 obtain ⟨b,hb,h⟩:=obm h
 cases b with
 | true=>exact .inl ⟨hb,Option.some.inj h⟩
 | false=>exact .inr ⟨hb,h⟩
theorem idxM_end {α : Type} {q : α→Option Bool} {xs : List α} {i : Int} {r : Int} (h1 : xs.length≤i) (h : idxM q (xs.drop i.toNat) i = some r) : -1 = r:=by
 rw [List.drop_of_length_le (by omega)] at h
 exact Option.some.inj h
theorem ret_int_eq {a b : Int} (h : a = b) : Ending.returned (.int .i64 a) = .returned (.int .i64 b):=by rw [h]
theorem ret_bool_eq {a b : Bool} (h : a = b) : Ending.returned (.bool a) = .returned (.bool b):=by rw [h]
end Go.Proofs.YtclkbedbocnpkaaGreatDoor.C
namespace Go.Proofs.YtclkbedbocnpkaaGreatDoor.C
open Go.ChangeShapes Go.WideShapes Go.ChangeAt Go.RowKit Go.Deep Go.Proofs.YtclkbedbocnpkaaGreatDoorW.PrintWords Go.Proofs.YtclkbedbocnpkaaGreatDoorW.PrintLast Go.Proofs.YtclkbedbocnpkaaGreatDoorW.PrintMore
set_option linter.unusedVariables false
set_option linter.unusedSimpArgs false
set_option maxHeartbeats 16000000
set_option maxRecDepth 100000
theorem own : ownKnob Tryz.prog.godebug = none:=by kernel_rfl
theorem laidOut : laidOutB Tryz.prog = true:=by kernel_rfl
section
variable {H : Type} {enc : TypeId × Value→H}
theorem list_of {α : Type} {P : Nat→α→Prop} : ∀ n : Nat,(∀ i,i < n→∃ x,P i x)→∃ xs : List α,xs.length = n∧∀ (i : Nat) x,xs[i]? = some x→P i x
 | 0,_=>⟨[],rfl,fun i x h=>by simp at h⟩
 | n + 1,h=>by
  obtain ⟨xs,hl,hx⟩:=list_of (P:=P) n (fun i hi=>h i (by omega))
  obtain ⟨x,hn⟩:=h n (by omega)
  refine ⟨xs ++ [x],by simp [hl],fun i y hy=>?_⟩
  by_cases hi : i < xs.length
  ·rw [List.getElem?_append_left hi] at hy;exact hx i y hy
  ·rw [List.getElem?_append_right (by omega)] at hy
   have e : i - xs.length = 0:=by
    rcases Nat.eq_zero_or_pos (i - xs.length) with z | z
    ·exact z
    ·rw [List.getElem?_eq_none (by simp;omega)] at hy;cases hy
   rw [e] at hy
   simp at hy
   subst hy
   rw [show i = n by omega]
   exact hn
theorem row_in {α : Type} (k : Kd α) {t e : TypeId} {W : World} {base fuel : Nat} {sp : Nat→Bool} {held : Bool} {cs : List Value} {x : DataW H × List MemPlace} (ht : Tryz.prog.underlying t = some (.slice e)) (hC : Tryz.prog.cellsOf e = k.sz)
 (hel : ∀ (n : Nat) (cs : List Value) (y : DataW H × List MemPlace),DataW.trod enc Tryz.prog W base sp held n e cs = some y→∃ z : α,k.K W z cs)
 (h : DataW.trod enc Tryz.prog W base sp held fuel t cs = some x) (hsp : ∀ b,sp b = true) : ∃ (A : Option Addr) (c : Nat) (xs : List α),cs = [.slice A xs.length c]∧xs.length≤c∧Kd.C k W A xs.length xs:=by
 rcases open_slice ht h with ⟨rfl,_⟩ | ⟨a,len,cap,m,n,D,Pl,rfl,hb,hl,hm,hmm,hx,hi⟩
 ·exact ⟨none,0,[],rfl,Nat.le_refl _,rfl,by simp,fun h=>absurd h (by simp)⟩
 ·rw [hsp,if_pos rfl] at hmm
  obtain ⟨xs,hlen,hxs⟩:=list_of (P:=fun i (z : α)=>∃ cs',cs'.length = k.sz∧k.K W z cs'∧∀ (j : Nat) u,cs'[j]? = some u→W.cell? (a.add (i * k.sz + j)) = some u) len (fun i hil=>by
   obtain ⟨cs',hc,ht'⟩:=hi i (by omega)
   rw [hC] at hc
   obtain ⟨_,hcl,hat⟩:=World.cells?_some hc
   obtain ⟨z,hz⟩:=hel _ _ _ ht'
   refine ⟨z,cs',hcl,hz,fun j u hu=>?_⟩
   have hj : j < cs'.length:=(List.getElem?_eq_some_iff.1 hu).1
   rw [← Go.Deep.add_add,hat j (by omega),hu])
  subst hlen
  refine ⟨some a,cap,xs,rfl,hl,rfl,by unfold maxLen at hm;omega,fun _=>⟨a,rfl,fun j p hp=>?_⟩⟩
  obtain ⟨c,h1,h2,h3⟩:=hxs j p hp
  exact ⟨c,h1,h2,h3⟩
theorem len2 {cs : List Value} (h : cs.length = 2) : ∃ x y,cs = [x,y]:=by
 match cs,h with
 | [x,y],_=>exact ⟨x,y,rfl⟩
theorem len3 {cs : List Value} (h : cs.length = 3) : ∃ x y z,cs = [x,y,z]:=by
 match cs,h with
 | [x,y,z],_=>exact ⟨x,y,z,rfl⟩
theorem int_cell {W : World} {base n : Nat} {sp : Nat→Bool} {held : Bool} {cs : List Value} {y : DataW H × List MemPlace} (h : DataW.trod enc Tryz.prog W base sp held n 3 cs = some y) : ∃ z,cs = [.int .i64 z]:=by
 obtain ⟨z,hz,_⟩:=DataW.trod_int Tryz.underlying3 h
 exact ⟨z,hz⟩
theorem c3 : Tryz.prog.cellsOf 3 = 1:=by kernel_rfl
theorem two_ints {W : World} {base n : Nat} {sp : Nat→Bool} {held : Bool} {cs : List Value} {y : DataW H × List MemPlace} {t : TypeId} {f0 f1 : Field} (ht : Tryz.prog.underlying t = some (.struct #[f0,f1])) (h0 : f0.type = 3∧f0.offset = 0) (h1 : f1.type = 3∧f1.offset = 1) (hC : Tryz.prog.cellsOf t = 2)
 (h : DataW.trod enc Tryz.prog W base sp held n t cs = some y) : ∃ a b,cs = [.int .i64 a,.int .i64 b]:=by
 obtain ⟨xs,m,_,_,hlen,hxl,hf⟩:=DataW.trod_struct ht h
 rw [hC] at hlen
 obtain ⟨x,y,rfl⟩:=len2 hlen
 have e0:=hf 0 f0 rfl
 have e1:=hf 1 f1 rfl
 rw [h0.1,h0.2,c3,List.getElem?_eq_getElem (by rw [hxl];simp)] at e0
 rw [h1.1,h1.2,c3,List.getElem?_eq_getElem (by rw [hxl];simp)] at e1
 obtain ⟨a,ha⟩:=int_cell e0
 obtain ⟨b,hb⟩:=int_cell e1
 simp at ha hb
 subst ha hb
 exact ⟨a,b,rfl⟩
theorem span_el {W : World} {base n : Nat} {sp : Nat→Bool} {held : Bool} {cs : List Value} {y : DataW H × List MemPlace} (h : DataW.trod enc Tryz.prog W base sp held n 35 cs = some y) : ∃ a b,cs = [.int .i64 a,.int .i64 b]:=
 two_ints Tryz.underlying35 ⟨rfl,rfl⟩ ⟨rfl,rfl⟩ (by kernel_rfl) h
theorem point_el {W : World} {base n : Nat} {sp : Nat→Bool} {held : Bool} {cs : List Value} {y : DataW H × List MemPlace} (h : DataW.trod enc Tryz.prog W base sp held n 37 cs = some y) : ∃ z : S37,k37.K W z cs:=by
 obtain ⟨xs,m,_,_,hlen,hxl,hf⟩:=DataW.trod_struct Tryz.underlying37 h
 rw [show Tryz.prog.cellsOf 37 = 3 by kernel_rfl] at hlen
 obtain ⟨x,y,z,rfl⟩:=len3 hlen
 have e0 : DataW.trod enc Tryz.prog W base sp held m 35 (([x,y,z].drop 0).take (Tryz.prog.cellsOf 35)) = xs[0]?:=hf 0 _ rfl
 have e1 : DataW.trod enc Tryz.prog W base sp held m 3 (([x,y,z].drop 2).take (Tryz.prog.cellsOf 3)) = xs[1]?:=hf 1 _ rfl
 have hx2 : xs.length = 2:=hxl
 rw [show Tryz.prog.cellsOf 35 = 2 by kernel_rfl,List.getElem?_eq_getElem (by omega)] at e0
 rw [c3,List.getElem?_eq_getElem (by omega)] at e1
 obtain ⟨a,b,ha⟩:=span_el e0
 obtain ⟨c,hc⟩:=int_cell e1
 simp at ha hc
 obtain ⟨ha,hb⟩:=ha
 subst ha hb hc
 exact ⟨⟨⟨a,b⟩,c⟩,k37_mk W ⟨⟨a,b⟩,c⟩⟩
theorem len4 {cs : List Value} (h : cs.length = 4) : ∃ x y z u,cs = [x,y,z,u]:=by
 match cs,h with
 | [x,y,z,u],_=>exact ⟨x,y,z,u,rfl⟩
theorem channel_el {W : World} {base n : Nat} {sp : Nat→Bool} {held : Bool} {cs : List Value} {y : DataW H × List MemPlace} (h : DataW.trod enc Tryz.prog W base sp held n 65 cs = some y) : ∃ z : S65,k65.K W z cs:=by
 obtain ⟨xs,m,_,_,hlen,hxl,hf⟩:=DataW.trod_struct Tryz.underlying65 h
 rw [show Tryz.prog.cellsOf 65 = 4 by kernel_rfl] at hlen
 obtain ⟨x,y,z,u,rfl⟩:=len4 hlen
 have e0 : DataW.trod enc Tryz.prog W base sp held m 3 (([x,y,z,u].drop 0).take (Tryz.prog.cellsOf 3)) = xs[0]?:=hf 0 _ rfl
 have e1 : DataW.trod enc Tryz.prog W base sp held m 3 (([x,y,z,u].drop 1).take (Tryz.prog.cellsOf 3)) = xs[1]?:=hf 1 _ rfl
 have e2 : DataW.trod enc Tryz.prog W base sp held m 3 (([x,y,z,u].drop 2).take (Tryz.prog.cellsOf 3)) = xs[2]?:=hf 2 _ rfl
 have e3 : DataW.trod enc Tryz.prog W base sp held m 4 (([x,y,z,u].drop 3).take (Tryz.prog.cellsOf 4)) = xs[3]?:=hf 3 _ rfl
 have hx4 : xs.length = 4:=hxl
 rw [c3,List.getElem?_eq_getElem (by omega)] at e0 e1 e2
 rw [show Tryz.prog.cellsOf 4 = 1 by kernel_rfl,List.getElem?_eq_getElem (by omega)] at e3
 obtain ⟨a,ha⟩:=int_cell e0
 obtain ⟨b,hb⟩:=int_cell e1
 obtain ⟨c,hc⟩:=int_cell e2
 obtain ⟨d,hd,_⟩:=DataW.trod_bool Tryz.underlying4 e3
 simp at ha hb hc hd
 subst ha hb hc hd
 exact ⟨⟨a,b,c,d⟩,k65_mk W ⟨a,b,c,d⟩⟩
theorem open_net {W : World} {base b0 : Nat} {held : Bool} {v : Value} {d : DataW H} {p : List MemPlace} (hv : Value.okWide Tryz.prog W .any b0 25 v) (h : DataW.Trod enc Tryz.prog W base (fun _=>true) held 25 v d p) :
 ∃ (A0 : Option Addr) (c0 : Nat) (bs : List S37) (A1 : Option Addr) (c1 : Nat) (fs : List S65),v = .agg #[.slice A0 bs.length c0,.slice A1 fs.length c1]∧
  Kd.C k37 W A0 bs.length bs∧bs.length≤c0∧Kd.C k65 W A1 fs.length fs∧fs.length≤c1:=by
 obtain ⟨cs,rfl,hsz⟩:=okWide_struct Tryz.underlying25 hv
 obtain ⟨l⟩:=cs
 rw [show Tryz.prog.cellsOf 25 = 2 by kernel_rfl] at hsz
 obtain ⟨v0,v1,rfl⟩:=len2 hsz
 obtain ⟨fuel,hf⟩:=h
 obtain ⟨xs,n,_,_,_,hxl,hg⟩:=DataW.trod_struct Tryz.underlying25 hf
 have e0 : DataW.trod enc Tryz.prog W base (fun _=>true) held n 22 (([v0,v1].drop 0).take (Tryz.prog.cellsOf 22)) = xs[0]?:=hg 0 _ rfl
 have e1 : DataW.trod enc Tryz.prog W base (fun _=>true) held n 23 (([v0,v1].drop 1).take (Tryz.prog.cellsOf 23)) = xs[1]?:=hg 1 _ rfl
 have hx2 : xs.length = 2:=hxl
 rw [List.getElem?_eq_getElem (by omega)] at e0 e1
 rw [show Tryz.prog.cellsOf 22 = 1 by kernel_rfl] at e0
 rw [show Tryz.prog.cellsOf 23 = 1 by kernel_rfl] at e1
 obtain ⟨A0,c0,bs,q0,l0,r0⟩:=row_in k37 Tryz.underlying22 (by kernel_rfl) (fun _ _ _ h=>point_el h) e0 (fun _=>rfl)
 obtain ⟨A1,c1,fs,q1,l1,r1⟩:=row_in k65 Tryz.underlying23 (by kernel_rfl) (fun _ _ _ h=>channel_el h) e1 (fun _=>rfl)
 simp [Value.cells] at q0 q1
 subst q0 q1
 exact ⟨A0,c0,bs,A1,c1,fs,rfl,r0,l0,r1,l1⟩
theorem open_intsN {W : World} {base b0 : Nat} {held : Bool} {v : Value} {d : DataW H} {p : List MemPlace} (hv : Value.okWide Tryz.prog W .any b0 26 v) (h : DataW.Trod enc Tryz.prog W base (fun _=>true) held 26 v d p) :
 ∃ (A : Option Addr) (c : Nat) (l : List Int),v = .slice A l.length c∧l.length≤c∧Kd.C (Kd.int .i64) W A l.length l:=by
 obtain ⟨a0,len,cap,rfl⟩:=Go.WideShapes.okWide_slice Tryz.underlying26 hv
 obtain ⟨fuel,hf⟩:=h
 obtain ⟨A,c,xs,e,hl,hr⟩:=row_in (Kd.int .i64) Tryz.underlying26 (by kernel_rfl) (fun _ _ _ h=>by obtain ⟨z,hz⟩:=int_cell h;exact ⟨z,hz⟩) hf (fun _=>rfl)
 simp [Value.cells] at e
 obtain ⟨rfl,rfl,rfl⟩:=e
 exact ⟨_,_,xs,rfl,hl,hr⟩
end
theorem returns_shaped {H : Type} {enc : TypeId × Value→H} {a : Assume} {C : Checked} {os : Os} {f : FuncId} {fn : Func} {s : ChangeSpec} {conds : List PathCond} {apart fresh handsOn again : Bool} {X : World→Array Value→Prop}
 (hX : ∀ (w w' : World) (args : Array Value),w.heap = w'.heap→X w args→X w' args)
 (own : ownKnob C.prog.godebug = none) (started : os.Started) (noInit : C.prog.inits.idxOf? f = none) (hfn : C.prog.funcs[f]? = some fn)
 (witness : ∃ (w : World) (tape : Tape) (i : Input),w.os = os∧(w.forCall tape i).Shaped C.prog∧i.vars = []∧Input.okWide C.prog (w.forCall tape i) .any w.heap.size f i∧
  ((s.pre enc C.prog fn conds apart (w.forCall tape i).memory i.args∧X (w.forCall tape i).memory i.args)∧sizedMet enc C.prog fn (OpenSpec.ofChange s) apart (w.forCall tape i).memory i.args)∧a.holds C.prog (lone (Frame.enter C.prog f i.args .normal) [] (w.forCall tape i)))
 (contract : ∀ (W : World) (base : Nat) (args : Array Value) (ds gs : List (DataW H)) (before : List MemPlace),
  (∀ (j : Nat) t v,fn.params[j]? = some t→args[j]? = some v→Value.okWide C.prog W .any base t v)→
  DataW.Whole enc C.prog fn.params.toList s.vars apart W args.toList ds gs before→
  conds.all (PathCond.test C.prog ⟨fn.params.toList,ds,s.plain.varTypes C.prog,gs⟩) = true→
  (DataW.weightsEach C.prog (fn.params.toList ++ s.plain.varTypes C.prog) (ds ++ gs)).all (·≤reachBytes) = true→X W args→W.ShapedOpen C.prog→
  a.holds C.prog (lone (Frame.enter C.prog f args .normal) [] W)→
  Calls C.prog f args W fun e W'=>∃ v,e = .returned v∧s.post enc C.prog fn apart fresh handsOn again W args v W') :
 ReturnsInHanded a C os f .any (fun w args=>(s.pre enc C.prog fn conds apart w args∧X w args)∧sizedMet enc C.prog fn (OpenSpec.ofChange s) apart w args) (s.post enc C.prog fn apart fresh handsOn again):=by
 refine returnsInHanded_of_calls own started noInit witness ?_
 intro w tape i _ hsh _ hok hpre hholds
 obtain ⟨_,_,_,fn',hfn',_,_,_,_,hval⟩:=hok
 have e : fn' = fn:=Option.some.inj (hfn'.symm.trans hfn)
 subst e
 obtain ⟨⟨⟨ds,gs,before,hw,hc⟩,hx⟩,hz⟩:=hpre
 have hw':=DataW.Whole.of_heap (w':=w.forCall tape i) (by rfl) hw
 refine (contract (w.forCall tape i) w.heap.size i.args ds gs before hval hw' hc (hz.weights hw) (hX _ _ _ (by rfl) hx) hsh hholds).mono fun e W' ⟨v,he,hp⟩=>?_
 subst he
 exact ChangeSpec.post_blind hp
end Go.Proofs.YtclkbedbocnpkaaGreatDoor.C
namespace Go.Proofs.YtclkbedbocnpkaaGreatDoor.C
open Go.RowKit Go.Proofs.YtclkbedbocnpkaaGreatDoorW.PrintWords Go.Proofs.YtclkbedbocnpkaaGreatDoorW.PrintLast Go.Proofs.YtclkbedbocnpkaaGreatDoorW.PrintMore
set_option linter.unusedVariables false
set_option linter.unusedSimpArgs false
set_option maxHeartbeats 16000000
set_option maxRecDepth 100000
theorem skip_abs {P : Program} {ops : Array Oper} {o : Oper} {a : Act} {Q : Exit→Act→World→Prop} {rest : List Oper} {W W1 : World} (Rr : World→Prop) (hgd : o.guard = none) (hN : o.dst = none)
 (hrun : (execOp a.eval o).run P W = .ok .skip W1) (hR : Rr W1) (h : ∀ W',Rr W'→wpList P ops Q rest a W') : wpList P ops Q (o :: rest) a W:=by
 refine wpList_plain hgd fun K hK=>?_
 unfold Oper.wp
 rw [hrun]
 show K (a.put o.dst undef) W1
 rw [hN]
 exact hK _ _ (h W1 hR)
end Go.Proofs.YtclkbedbocnpkaaGreatDoor.C
namespace Go.Proofs.YtclkbedbocnpkaaGreatDoor.C
open Go Go.RowKit
set_option linter.unusedVariables false
set_option linter.unusedSimpArgs false
set_option maxHeartbeats 16000000
set_option maxRecDepth 100000
def AbidesC {β : Type} (B : Nat) (J : β→World→Prop) : Prop:=∀ s W W' row,J s W→W.grownBy W' row→(∀ r,row = some r→B≤r)→J s W'
theorem AbidesC.putObj {β : Type} {B : Nat} {I : β→World→Prop} (h : AbidesC B I) {s : β} {W : World} {l : Nat} (o' : Obj) (hs : I s W) (hB : B≤l) : I s (W.putObj l o'):=h s W _ (some l) hs (grownBy_putObj' W l o') (fun r e=>by cases e;exact hB)
theorem AbidesC.alloc {β : Type} {B : Nat} {I : β→World→Prop} (h : AbidesC B I) {s : β} {W : World} (o : Obj) (hs : I s W) : I s (W.alloc o):=h s W _ none hs (World.grownBy_alloc W o none) (fun r e=>by cases e)
structure KeepsEx (X : Nat→Prop) (W W' : World) : Prop where
 os : W'.os = W.os
 tape : W'.tape = W.tape
 output : W'.output = W.output
 size : W.heap.size≤W'.heap.size
 same : ∀ (k : Nat) (o : Obj),¬ X k→W.heap[k]? = some o→W'.heap[k]? = some o
theorem KeepsEx.refl (X : Nat→Prop) (W : World) : KeepsEx X W W:=⟨rfl,rfl,rfl,Nat.le_refl _,fun _ _ _ h=>h⟩
theorem KeepsEx.trans {X : Nat→Prop} {A B C : World} (h : KeepsEx X A B) (k : KeepsEx X B C) : KeepsEx X A C:=⟨k.os.trans h.os,k.tape.trans h.tape,k.output.trans h.output,Nat.le_trans h.size k.size,fun i o hx ho=>k.same i o hx (h.same i o hx ho)⟩
theorem KeepsEx.of_below {X : Nat→Prop} {A B : World} (h : Below A.heap.size A B) : KeepsEx X A B:=⟨h.os,h.tape,h.output,h.size,fun i o _ ho=>(h.block i (Array.getElem?_eq_some_iff.1 ho).1).trans ho⟩
theorem KeepsEx.cell {X : Nat→Prop} {A B : World} (h : KeepsEx X A B) {a : Addr} {v : Value} (hx : ¬ X a.block) (hc : A.cell? a = some v) : B.cell? a = some v:=by
 obtain ⟨o,ho,_⟩:=cells_of_cell hc
 have h2:=h.same _ _ hx ho
 unfold World.cell? at hc ⊢
 rw [h2]
 rw [ho] at hc
 exact hc
def AbidesX {β : Type} (B : Nat) (J : β→World→Prop) : Prop:=∀ s W (k : Nat) (o o' : Obj),B≤k→J s W→W.heap[k]? = some o→o.isCells = false→o.isWalk = false→J s (W.putObj k o')
def SeqStopsE {α : Type} (F : Fence) (n : Nat) (P : Program) (g : Nat) (lb : Array Value) (encs : α→Array Value) (Ok : α→World→Prop) (Cap : Nat→Prop) (S Sp : List α→Prop) (w : World) : Prop:=
 ∀ (X : Nat→Prop) (l : Nat) (J Jx : List α→World→Prop) (W : World),Below w.heap.size w W→l < W.heap.size→(∀ k,X k→k < W.heap.size∧¬ Cap k)→AbidesC W.heap.size J→AbidesX W.heap.size Jx→
  (∀ pre x W1,J pre W1→Ok x W1→YieldAt F (n - 1) P l (encs x) W1 fun e W'=>(e = .returned (.bool true)∧J (pre ++ [x]) W'∧KeepsEx X W1 W')∨(e = .returned (.bool false)∧Jx (pre ++ [x]) W'∧KeepsFrom W.heap.size W1 W'))→
  J [] W→CallsIn F n P g (#[.func (.yield l) #[] #[]] ++ lb) W fun e W'=>(∃ v,e = .returned v)∧((∃ xs,S xs∧J xs W')∨(∃ pre,Sp pre∧Jx pre W'))
def postE {α : Type} (B : Nat) (X : Nat→Prop) (I : List α→World→Prop) (Ix : Code→List α→World→Prop) (xs : List α) (W : World) : Exit→Act→World→Prop
 | .normal,_,W'=>KeepsEx X W W'∧I xs W'
 | .ret,_,W'=>KeepsFrom B W W'∧Ix .ret xs W'
 | .exit id,_,W'=>KeepsFrom B W W'∧Ix (.exit id) xs W'
 | .goto t,_,W'=>KeepsFrom B W W'∧Ix (.goto t) xs W'
 | .panic _,_,_=>False
 | .outgrown,_,_=>False
variable {F : Fence} {n : Nat} {P : Program}
theorem rangeE {α : Type} {g : Operand} {ps : Array Tmp} {assign body : Code} {Q : Exit→Act→World→Prop} {a : Act} {w : World}
 (hro : F.round = none) (h1 : 1≤n) {gf : Nat} {lb : Array Value} (hg : a.eval g = .func (.func gf) #[] lb) (hFg : F.fn gf) (eg : ∀ args w,(callFunc gf args).run P w = .ok (.enter gf args) w)
 {encs : α→Array Value} {Ok : α→World→Prop} {Cap : Nat→Prop} (X : Nat→Prop) {S Sp : List α→Prop} {w0 : World} (hseq : SeqStopsE F (n - 1) P gf lb encs Ok Cap S Sp w0) (hX : ∀ k,X k→k < w.heap.size∧¬ Cap k) (hOk : ∀ (x : α) (W : World) (l : Nat) (o o' : Obj),Ok x W→W.heap[l]? = some o→o.isCells = false→Ok x (W.putObj l o'))
 (hb0 : Below w0.heap.size w0 w) (hps : ∀ x,(encs x).size = ps.size)
 (I : List α→World→Prop) (Ix : Code→List α→World→Prop) (hI : AbidesC w.heap.size I) (hIx : ∀ (c : Code) (pre : List α) (W : World) (l : Nat) (o o' : Obj),w.heap.size≤l→Ix c pre W→W.heap[l]? = some o→o.isCells = false→o.isWalk = false→Ix c pre (W.putObj l o')) (h0 : I [] w) (a₁ : α→Act)
 (hassign : ∀ (l : Nat) (x : α) (W : World) (K : Act→World→Prop),K (a₁ x) W→assign.wpIn (F.inRound l) (n - 1 - 1) P (Exit.then K (fun _ _ _=>False)) { tmps:=(ps.zip (encs x)).foldl (fun t (p,v)=>t.setIfInBounds p v) a.tmps,defers:=[] } W)
 (hbody : ∀ (l : Nat) (pre : List α) (x : α) (W : World),I pre W→Ok x W→body.wpIn (F.inRound l) (n - 1 - 1) P (postE w.heap.size X I Ix (pre ++ [x]) W) (a₁ x) W)
 (hdone : ∀ (D : Nat) (xs : List α) (W : World),w.heap.size≤D→S xs→I xs W→W.heap[D]? = some (.deferred (some []))→Q .normal { a with defers:={ target:=.collected D,args:=#[] } :: a.defers } W)
 (hstop : ∀ (D : Nat) (c : Code) (pre : List α) (W : World),w.heap.size≤D→Sp pre→Ix c pre W→W.heap[D]? = some (.deferred (some []))→c.wpIn F n P Q { a with defers:={ target:=.collected D,args:=#[] } :: a.defers } W) :
 (Code.rangeFunc g ps assign body).wpIn F n P Q a w:=by
 refine wpIn_rangeFunc ?_
 intro fn hfn
 rw [hro]
 obtain ⟨rec,hrec⟩ : ∃ rec : LoopState→Option Code→Loop,rec = fun st pe=>{ state:=st,pending:=pe,fn,tmps:=a.tmps,params:=ps,assign,body,defers:=w.heap.size }:=⟨_,rfl⟩
 obtain ⟨W1,hW1⟩ : ∃ W1,(w.alloc (.deferred (some []))).alloc (.loop (rec .ready none)) = W1:=⟨_,rfl⟩
 have hs1 : W1.heap.size = w.heap.size + 2:=by rw [← hW1];simp
 have hL1 : W1.heap[w.heap.size + 1]? = some (.loop (rec .ready none)):=by
  rw [← hW1];have:=World.alloc_heap_new (w.alloc (.deferred (some []))) (.loop (rec .ready none));rwa [World.size_alloc] at this
 have hK1 : W1.heap[w.heap.size]? = some (.deferred (some [])):=by
  rw [← hW1];exact (Below.heap_alloc _ _ _ (by simp)).trans (World.alloc_heap_new w _)
 have hI1 : I [] W1:=by rw [← hW1];exact hI.alloc _ (hI.alloc _ h0)
 have hb1 : Below w0.heap.size w0 W1:=by
  rw [← hW1];exact hb0.trans ((((Below.refl _ w).alloc (Nat.le_refl _) _).alloc (by simp) _).mono hb0.size)
 have far : ∀ {A B : World} {row : Option Nat} {k : Nat} {o : Obj},A.grownBy B row→(∀ r,row = some r→W1.heap.size≤r)→k < w.heap.size + 2→A.heap[k]? = some o→B.heap[k]? = some o:=
  fun hgr hr hk ho=>(hgr.block _ (Array.getElem?_eq_some_iff.1 ho).1 (fun e=>by have:=hr _ e.symm;omega)).trans ho
 refine ⟨w.heap.size + 1,[{ target:=.collected w.heap.size,args:=#[] }],W1,{ target:=.fn (.func gf) lb,args:=#[.func (.yield (w.heap.size + 1)) #[] #[]] },W1,gf,#[.func (.yield (w.heap.size + 1)) #[] #[]] ++ lb,W1,?_,?_,?_,?_,fun _=>h1,?_⟩
 ·rw [← hW1,hrec];exact run_enterLoop_outer _ _ _ _ _
 ·simp only [resolve,hg]
  simp [go_sem]
 ·intro f' hf';simp [Target.leads] at hf';subst hf';exact hFg
 ·simp [invoke,go_sem,eg]
 ·refine (hseq X (w.heap.size + 1)
   (fun pre W=>I pre W∧W.heap[w.heap.size + 1]? = some (.loop (rec .ready none))∧W.heap[w.heap.size]? = some (.deferred (some [])))
   (fun pre W=>∃ c,Ix c pre W∧W.heap[w.heap.size + 1]? = some (.loop (rec .done (some c)))∧W.heap[w.heap.size]? = some (.deferred (some [])))
   W1 hb1 (by omega) (fun k hk=>⟨by have:=(hX k hk).1;omega,(hX k hk).2⟩)
   (fun s A B row hs hg' hr=>⟨hI s A B row hs.1 hg' (fun r e=>by have:=hr r e;omega),far hg' hr (by omega) hs.2.1,far hg' hr (by omega) hs.2.2⟩)
   (fun s A k o o' hB hs ho hc hw=>by
    obtain ⟨c,h1_,h2_,h3_⟩:=hs
    exact ⟨c,hIx c s A k o o' (by omega) h1_ ho hc hw,(World.putObj_heap_other (by omega)).trans h2_,(World.putObj_heap_other (by omega)).trans h3_⟩)
   ?_ ⟨hI1,hL1,hK1⟩).mono ?_
  ·rintro pre x W ⟨hi,hl,hk⟩ hok
   have hlt : w.heap.size + 1 < W.heap.size:=(Array.getElem?_eq_some_iff.1 hl).1
   have hy:=run_yield (P:=P) (args:=encs x) hl (by rw [hrec];exact hps x)
   rw [hrec] at hy
   refine ⟨fn,_,assign,body,hy,roundIn_of_wpIn hfn (hassign _ x W _ ⟨_,run_beginRound hl (by rw [hrec]),?_⟩)⟩
   have hl2 : (W.putObj (w.heap.size + 1) (.loop { rec .ready none with state:=.busy })).heap[w.heap.size + 1]? = some (.loop { rec .ready none with state:=.busy }):=World.putObj_heap_same hlt
   have hk2 : (W.putObj (w.heap.size + 1) (.loop { rec .ready none with state:=.busy })).heap[w.heap.size]? = some (.deferred (some [])):=(World.putObj_heap_other (by omega)).trans hk
   refine wpIn_mono (hbody _ pre x _ (hI.putObj _ hi (by omega)) (hOk x W _ _ _ hok hl rfl)) ?_
   have fin : ∀ (jump : Option Code) (W3 : World),KeepsFrom w.heap.size (W.putObj (w.heap.size + 1) (.loop { rec .ready none with state:=.busy })) W3→
    (Instr.endRound (w.heap.size + 1) jump).run P W3 = .ok (.bool jump.isNone) (W3.putObj (w.heap.size + 1) (.loop (rec (if jump.isNone then .ready else .done) jump)))∧
    W3.heap[w.heap.size + 1]? = some (.loop { rec .ready none with state:=.busy })∧
    (W3.putObj (w.heap.size + 1) (.loop (rec (if jump.isNone then .ready else .done) jump))).heap[w.heap.size + 1]? = some (.loop (rec (if jump.isNone then .ready else .done) jump))∧
    (W3.putObj (w.heap.size + 1) (.loop (rec (if jump.isNone then .ready else .done) jump))).heap[w.heap.size]? = some (.deferred (some [])):=fun jump W3 hk3=>by
    have hl3:=hk3.same _ _ (by omega) hl2 rfl
    have:=run_endRound (P:=P) jump hl3
    rw [hrec] at this ⊢
    exact ⟨this,by rw [hrec] at hl3;exact hl3,World.putObj_heap_same (Array.getElem?_eq_some_iff.1 hl3).1,(World.putObj_heap_other (by omega)).trans (hk3.same _ _ (Nat.le_refl _) hk2 rfl)⟩
   have hkf : ∀ (W3 : World) (o : Obj),KeepsFrom w.heap.size (W.putObj (w.heap.size + 1) (.loop { rec .ready none with state:=.busy })) W3→KeepsFrom W1.heap.size W (W3.putObj (w.heap.size + 1) o):=fun W3 o h3=>by
    refine ⟨?_,fun k p hk hp hc=>?_⟩
    ·have:=h3.size;simp only [World.putObj,Array.size_setIfInBounds] at this ⊢;exact this
    ·have hne : k ≠ w.heap.size + 1:=by omega
     exact (World.putObj_heap_other hne).trans (h3.same k p (by omega) ((World.putObj_heap_other hne).trans hp) hc)
   rintro e a3 W3 hp
   cases e with
   | normal =>
    obtain ⟨hkp3,hi3⟩:=hp
    have hk3 : KeepsFrom w.heap.size (W.putObj (w.heap.size + 1) (.loop { rec .ready none with state:=.busy })) W3:=⟨hkp3.size,fun k o hk ho _=>hkp3.same k o (fun hx=>by have:=(hX k hx).1;omega) ho⟩
    obtain ⟨hr,hl3,hl4,hk4⟩:=fin none W3 hk3
    refine ⟨_,_,hr,.inl ⟨rfl,⟨hI.putObj _ hi3 (by omega),hl4,hk4⟩,hkp3.os,hkp3.tape,hkp3.output,?_,fun k o hx ho=>?_⟩⟩
    ·have:=hkp3.size;simp only [World.putObj,Array.size_setIfInBounds] at this ⊢;exact this
    ·by_cases hkl : k = w.heap.size + 1
     ·subst hkl
      rw [hl] at ho
      obtain rfl:=Option.some.inj ho
      exact hl4
     ·exact (World.putObj_heap_other hkl).trans (hkp3.same k o hx ((World.putObj_heap_other hkl).trans ho))
   | ret=>obtain ⟨hr,hl3,hl4,hk4⟩:=fin (some .ret) W3 hp.1;exact ⟨_,_,hr,.inr ⟨rfl,⟨.ret,hIx _ _ _ _ _ _ (by omega) hp.2 hl3 rfl rfl,hl4,hk4⟩,hkf _ _ hp.1⟩⟩
   | exit id=>obtain ⟨hr,hl3,hl4,hk4⟩:=fin (some (.exit id)) W3 hp.1;exact ⟨_,_,hr,.inr ⟨rfl,⟨(.exit id),hIx _ _ _ _ _ _ (by omega) hp.2 hl3 rfl rfl,hl4,hk4⟩,hkf _ _ hp.1⟩⟩
   | goto t=>obtain ⟨hr,hl3,hl4,hk4⟩:=fin (some (.goto t)) W3 hp.1;exact ⟨_,_,hr,.inr ⟨rfl,⟨(.goto t),hIx _ _ _ _ _ _ (by omega) hp.2 hl3 rfl rfl,hl4,hk4⟩,hkf _ _ hp.1⟩⟩
   | panic ch=>exact hp.elim
   | outgrown=>exact hp.elim
  ·rintro e W2 ⟨⟨v,rfl⟩,(⟨xs,hS,hi,hl,hk⟩ | ⟨pre,hSp,c,hi,hl,hk⟩)⟩
   ·exact ⟨none,_,by have:=run_endLoop (P:=P) hl (by rw [hrec];simp);rw [hrec] at this;exact this,hdone _ xs _ (Nat.le_refl _) hS (hI.putObj _ hi (by omega)) ((World.putObj_heap_other (by omega)).trans hk)⟩
   ·exact ⟨some c,_,by have:=run_endLoop (P:=P) hl (by rw [hrec];simp);rw [hrec] at this;exact this,hstop _ c pre _ (Nat.le_refl _) hSp (hIx c _ _ _ _ _ (by omega) hi hl rfl rfl) ((World.putObj_heap_other (by omega)).trans hk)⟩
end Go.Proofs.YtclkbedbocnpkaaGreatDoor.C
namespace Go.Proofs.YtclkbedbocnpkaaGreatDoor.C
open Go.RowKit Go.Proofs.YtclkbedbocnpkaaGreatDoorW.PrintWords Go.Proofs.YtclkbedbocnpkaaGreatDoorW.PrintLast Go.Proofs.YtclkbedbocnpkaaGreatDoorW.PrintMore
set_option linter.unusedVariables false
set_option linter.unusedSimpArgs false
set_option maxHeartbeats 16000000
set_option maxRecDepth 100000
theorem infoC_int : (Tryz.prog.info? 3).map (fun i=>(i.zero,i.size,i.bytes)) = some (some (.int .i64 0),1,8):=by kernel_rfl
def sl_Clone_int.f (l0 : List Int) : Option (List Int):=if l0.length < 17592186044416 then some l0 else none
theorem sl_Clone_int.calls (A0 : Option Addr) (c0 : Nat) (l0 : List Int) (r : List Int) (w : World) (hr0 : Kd.C (Kd.int .i64) w A0 l0.length l0) (hc0 : l0.length≤c0) (h : sl_Clone_int.f l0 = some r) :
 Calls Tryz.prog 94 #[.slice A0 l0.length c0] w fun e w'=>∃ v0_ : Value,e = .returned v0_∧Kd.R (Kd.int .i64) 3 w' w.heap.size (fun _=>True) v0_ r∧Below w.heap.size w w':=by
 unfold sl_Clone_int.f at h
 by_cases hl : l0.length < 17592186044416
 ·rw [if_pos hl] at h
  obtain rfl:=Option.some.inj h
  clear h
  have hq : ∀ (W : World) (a : Option Addr) (n c : Nat),(binOp .eql 26 (.slice a n c) (.slice none 0 0)).run Tryz.prog W = .ok (.bool a.isNone) W:=fun W a n c=>Lib.run_eql_slice_nil W 26 3 a n c 0 0 Tryz.underlying26
  cases A0 with
  | none =>
   have hn : l0 = []:=by
    rcases Nat.eq_zero_or_pos l0.length with h0 | h0
    ·exact List.eq_nil_of_length_eq_zero h0
    ·obtain ⟨ad,e,_⟩:=hr0.2.2 h0;cases e
   subst hn
   clear hr0 hc0 hl
   go_enter Tryz.func94,Tryz.ntmps94
   go_wp2
   go_ret
   exact ⟨_,rfl,Kd.R_nil _ _ _ _ _,Below.refl _ _⟩
  | some ad =>
   have HR:=Aside0.mk (kC hr0 (below_alloc (Below.refl _ w) (.cells #[] 3)))
   have HL:=Aside0.mk hl
   clear hr0 hc0 hl
   have HO:=Aside0.mk (show Kd.R (Kd.int .i64) 3 (w.alloc (.cells #[] 3)) w.heap.size (fun _=>True) (.slice (some ⟨w.heap.size,0,none⟩) 0 0) [] from ⟨fun _ _=>trivial,[],by simpa using World.ownsRow_lit (base:=w.heap.size) (e:=3) (size:=((Kd.int .i64)).sz) w #[] 0 (Nat.le_refl _) (by simp [maxLen]) (by simp),Reps.none _ _⟩)
   go_enter Tryz.func94,Tryz.ntmps94
   go_wp2_with ((with_reducible refine ga_builtin (b:=.append) (xs:=#[.tmp 5,.tmp 6]) rfl ?_);at_builtin;refine Kd.R_append_rows (Kd.int .i64) (Rr:=((Kd.int .i64)).K (w.alloc (.cells #[] 3))) (w0:=w) w.heap.size rfl (.tmp 5) (.tmp 6) 26 3 (.int .i64 0) 8 rfl Tryz.underlying26 infoC_int rfl (by decide) (by omega) (.slice (some ⟨w.heap.size,0,none⟩) 0 0) [] l0 (some ad) l0.length c0 (fun _=>True) (fun _=>False) rfl rfl HO.out HR.out (fun _ _ hk=>hk) (fun _ h=>h.elim) (fun _ _=>trivial) (below_alloc (Below.refl _ w) _) (by simp) (by have:=HL.out;simp;omega) ?_;intro v1 w1 ho hb hg hat)
   go_ret
   exact ⟨v1,rfl,ho,hb⟩
 ·rw [if_neg hl] at h;cases h
end Go.Proofs.YtclkbedbocnpkaaGreatDoor.C
namespace Go.Proofs.YtclkbedbocnpkaaGreatDoor.C
open Go Go.RowKit Go.Shelf Go.Proofs.YtclkbedbocnpkaaGreatDoorW.PrintWords Go.Proofs.YtclkbedbocnpkaaGreatDoorW.PrintLast Go.Proofs.YtclkbedbocnpkaaGreatDoorW.PrintMore
set_option linter.unusedVariables false
set_option linter.unusedSimpArgs false
set_option maxHeartbeats 16000000
set_option maxRecDepth 100000
section
attribute [local go_sem] Oper.semAt_some
theorem obj_far {w : World} {k : Nat} {o : Obj} (h : w.heap[k]? = some o) {p : Addr} (hp : k ≠ p.block) (u : Value) : (w.setCell p u).heap[k]? = some o:=by
 simp [World.setCell,Array.getElem?_modify,Ne.symm hp,h]
abbrev HX:=List Int × Option Addr × Nat
def hEnc (x : HX) : Array Value:=#[.slice x.2.1 x.1.length x.2.2]
def hOk (B : Nat) (P : List Int→Prop) (x : HX) (W : World) : Prop:=P x.1∧x.1.length≤x.2.2∧Kd.C (Kd.int .i64) W x.2.1 x.1.length x.1∧Kd.R (Kd.int .i64) 3 W B (fun _=>True) (.slice x.2.1 x.1.length x.2.2) x.1
theorem hOk_lower {B B' : Nat} {P P' : List Int→Prop} {x : HX} {W : World} (h : hOk B P x W) (hb : B'≤B) (hp : ∀ l,P l→P' l) : hOk B' P' x W:=⟨hp _ h.1,h.2.1,h.2.2.1,Kd.R_lower h.2.2.2 hb⟩
theorem R_keepI {W W' : World} {B : Nat} {v : Value} {l : List Int} (h : Kd.R (Kd.int .i64) 3 W B (fun _=>True) v l) (hk : ∀ (k : Nat) (cells : Array Value),W.heap[k]? = some (Obj.cells cells 3 (0,0))→W'.heap[k]? = some (Obj.cells cells 3 (0,0))) : Kd.R (Kd.int .i64) 3 W' B (fun _=>True) v l:=by
 refine Kd.R_mono (Kd.R_move (Kd.R_bound h) ?_) (fun _ _=>trivial)
 rintro k ⟨_,_,_,q,hq,cells,hc⟩
 have : q = 3:=by simpa [Kd.int,Kd.scalar] using hq
 subst this
 rw [hk k cells hc,hc]
theorem grown_of_belowN {A B : World} (h : Below A.heap.size A B) : A.grownBy B none:=⟨h.os,h.tape,h.output,h.size,fun k hk _=>h.block k hk⟩
theorem AbidesC.below {β : Type} {B : Nat} {I : β→World→Prop} (h : AbidesC B I) {s : β} {W W' : World} (hs : I s W) (hb : Below W.heap.size W W') : I s W':=h s W W' none hs (grown_of_belowN hb) (fun r e=>by cases e)
theorem hAnyRound {F : Fence} (hd : F.depth = none) {m m' : Nat} {P : Program} {l : Nat} {f : FuncId} {tmps : Array Value} {assign body : Code} {w : World} {R : Ending→World→Prop} (h : RoundIn F m P l f tmps assign body w R) : RoundIn F m' P l f tmps assign body w R:=⟨h.1,fun c cs _=>h.2 c cs (fun d h2=>by rw [hd] at h2;cases h2)⟩
theorem hAny {F : Fence} (hd : F.depth = none) {m : Nat} (m' : Nat) {P : Program} {l : Nat} {args : Array Value} {W : World} {R : Ending→World→Prop} (h : YieldAt F m P l args W R) : YieldAt F m' P l args W R:=by
 obtain ⟨fn,tmps,assign,body,hy,hR⟩:=h
 exact ⟨fn,tmps,assign,body,hy,hAnyRound hd hR⟩
theorem obj_ne {W : World} {a b : Nat} {x y : Array Value} {s t : Nat} (ha : W.heap[a]? = some (.cells x s (0,0))) (hb : W.heap[b]? = some (.cells y t (0,0))) (h : s ≠ t) : a ≠ b:=fun e=>by subst e;rw [ha] at hb;injection hb with hb;injection hb with _ h2 _;exact h h2
theorem oneWay3 {e : Ending} {A1 A2 B1 B2 : Prop} (h : (e = .returned (.bool true)∧A1∧A2)∨(e = .returned (.bool false)∧B1∧B2)) : ∃ bb,e = .returned (.bool bb)∧(match bb with | true=>A1∧A2 | false=>B1∧B2):=h.elim (fun ⟨a,b⟩=>⟨true,a,b⟩) (fun ⟨a,b⟩=>⟨false,a,b⟩)
theorem eventIn {F : Fence} {n : Nat} {P : Program} {ops : Array Oper} {o : Oper} {a : Act} {Q : Exit→Act→World→Prop} {rest : List Oper} {W W1 : World} {v : Value} (hro : F.round = none) (hfn : ∀ f,F.fn f) (hgd : o.guard = none)
 (hrun : (execOp a.eval o).run P W = .ok (.value v) W1) (h : wpListIn F n P ops Q rest (a.put o.dst v) W1) : wpListIn F n P ops Q (o :: rest) a W:=by
 refine wpListIn_plain hgd fun K hK=>?_
 unfold Oper.wpIn
 refine ⟨fun f _=>hfn f,?_⟩
 rw [hro,Oper.semAt_none,hrun,Oper.uponIn_value]
 exact hK _ _ h
theorem boxIn {F : Fence} {n : Nat} {P : Program} {ops : Array Oper} {o : Oper} {a : Act} {Q : Exit→Act→World→Prop} {rest : List Oper} {W : World} (hro : F.round = none) (hfn : ∀ f,F.fn f) (hgd : o.guard = none) {cs : Array Value} {t : TypeId}
 (hrun : (execOp a.eval o).run P W = .ok (.value (.pointer (some ⟨W.heap.size,0,none⟩))) (W.alloc (.cells cs t (0,0))))
 (h : ∀ g,g = W.heap.size→∀ w1,w1.heap[g]? = some (.cells cs t (0,0))→Below W.heap.size W w1→wpListIn F n P ops Q rest (a.put o.dst (.pointer (some ⟨g,0,none⟩))) w1) : wpListIn F n P ops Q (o :: rest) a W:=
 eventIn hro hfn hgd hrun (h _ rfl _ (blk_new W _) (below_alloc (Below.refl _ _) _))
def firstM (q : List Int→Option Bool) : List (List Int)→Option (Option (List Int))
 | []=>some none
 | x :: xs=>(q x).bind fun b=>if b = true then some (some x) else firstM q xs
theorem firstM_app (q : List Int→Option Bool) : ∀ (pre rest : List (List Int)),(∀ y ∈ pre,q y = some false)→firstM q (pre ++ rest) = firstM q rest
 | [],_,_=>rfl
 | y :: pre,rest,h=>by
  rw [List.cons_append,firstM,h y List.mem_cons_self]
  exact firstM_app q pre rest fun z hz=>h z (List.mem_cons_of_mem _ hz)
theorem firstM_none {q : List Int→Option Bool} {hs : List (List Int)} {r : Option (List Int)} (h : firstM q hs = some r) (hp : ∀ y ∈ hs,q y = some false) : r = none:=by
 have h2:=firstM_app q hs [] hp
 rw [List.append_nil,h] at h2
 exact Option.some.inj h2
theorem firstM_some {q : List Int→Option Bool} {hs pre : List (List Int)} {x : List Int} {r : Option (List Int)} (h : firstM q hs = some r) (hp : ∀ y ∈ pre,q y = some false) (hx : q x = some true) (hs2 : pre ++ [x] <+: hs) : r = some x:=by
 obtain ⟨rest,rfl⟩:=hs2
 rw [List.append_assoc,firstM_app q pre _ hp,List.singleton_append,firstM,hx] at h
 exact (Option.some.inj h).symm
theorem blk_grownO {W W' : World} {row : Option Nat} {B b : Nat} {o : Obj} (h : W.heap[b]? = some o) (hg : W.grownBy W' row) (hr : ∀ r,row = some r→B≤r) (hb : b < B) : W'.heap[b]? = some o:=
 (hg.block b (Array.getElem?_eq_some_iff.1 h).1 (fun e=>by have:=hr b e.symm;omega)).trans h
theorem blk_putO {W : World} {l b : Nat} {o o' p : Obj} (h : W.heap[b]? = some o) (hc : o.isCells = true) (hl : W.heap[l]? = some p) (hp : p.isCells = false) : (W.putObj l o').heap[b]? = some o:=
 (World.putObj_heap_other (fun e=>by subst e;rw [hl] at h;injection h with h;subst h;rw [hc] at hp;cases hp)).trans h
theorem kept_below {W W' : World} (h : Below W.heap.size W W') : KeepsOthers W W':=KeepsOthers.of_grownBy (grown_of_belowN h) (fun j o e=>by cases e)
theorem blkF_set {W : World} {b g i : Nat} {o : Obj} {v : Value} (h : W.heap[b]? = some o) (hne : b ≠ g) : (W.setCell ⟨g,i,none⟩ v).heap[b]? = some o:=
 (obj_far (p:=⟨g,i,none⟩) h (fun e=>hne e) _)
theorem blkF_set1 {W : World} {g t : Nat} {v0 v : Value} (h : W.heap[g]? = some (.cells #[v0] t (0,0))) : (W.setCell ⟨g,0,none⟩ v).heap[g]? = some (.cells #[v] t (0,0)):=by
 have hlt:=(Array.getElem?_eq_some_iff.1 h).1
 simp [World.setCell,Array.getElem?_modify,h]
theorem C_int_set {W : World} {A : Option Addr} {n : Nat} {xs : List Int} {g t : Nat} {v0 v : Value} (hg : W.heap[g]? = some (.cells #[v0] t (0,0))) (hv : ∀ p,v0 ≠ .int .i64 p) (h : (Kd.int .i64).C W A n xs) : (Kd.int .i64).C (W.setCell ⟨g,0,none⟩ v) A n xs:=
 ⟨h.1,h.2.1,fun hn=>by
  obtain ⟨ad,e,hc⟩:=h.2.2 hn
  refine ⟨ad,e,fun j p hj=>?_⟩
  obtain ⟨c,hl,hK,hcc⟩:=hc j p hj
  refine ⟨c,hl,hK,fun i u hu=>?_⟩
  have h3:=hcc i u hu
  have hK2 : c = [.int .i64 p]:=hK
  rw [World.cell?_setCell_far _ _ _ _ ?_]
  ·exact h3
  ·intro e2
   have e2 : g = (ad.add (j * (Kd.int .i64).sz + i)).block:=e2
   have h4:=h3
   unfold World.cell? at h4
   rw [← e2,hg] at h4
   simp only at h4
   split at h4
   ·cases h4
   ·subst hK2
    cases i with
    | succ i=>simp at hu
    | zero =>
     have hu2 : Value.int .i64 p = u:=by simpa using hu
     obtain ⟨hlt,h5⟩:=Array.getElem?_eq_some_iff.1 h4
     have h6 : v0 = u:=by
      have : (ad.add (j * (Kd.int .i64).sz + 0)).off = 0:=by simpa using hlt
      simpa [this] using h5
     exact hv p (h6.trans hu2.symm)⟩
theorem R_int_take {e base : Nat} {W : World} {ok : Nat→Prop} {v : Value} {xs : List Int} {x : Int} (h : (Kd.int .i64).R e W base ok v (xs ++ [x])) : ∃ g cap,v = .slice (some ⟨g,0,none⟩) (xs.length + 1) cap∧xs.length + 1≤cap∧cap≤9223372036854775807∧base≤g∧(∃ cells,W.heap[g]? = some (.cells cells e (0,0)))∧(Kd.int .i64).R e W base ok (.slice (some ⟨g,0,none⟩) xs.length cap) xs:=by
 obtain ⟨h0,inner,⟨ho1,ho2⟩,hr⟩:=h
 have hs : (Kd.int .i64).sz = 1:=rfl
 rcases ho2 with ⟨_,h2⟩ | ⟨g,cap,cur,rfl,o1,o2,o3,o4,o5,o6⟩
 ·simp at h2
 ·have hl : (xs ++ [x]).length = xs.length + 1:=by simp
  rw [hl] at ho1 o3 o6 ⊢
  refine ⟨g,cap,rfl,o3,by simpa [maxLen] using o4,o1,⟨cur,o2⟩,fun k hk=>h0 k hk,inner.take xs.length,⟨?_,.inr ⟨g,cap,cur,rfl,o1,o2,by omega,o4,o5,?_⟩⟩,?_,?_⟩
  ·rw [List.length_take,ho1,hs];omega
  ·rw [← o6,List.take_take,hs];congr 1;omega
  ·rw [List.length_take,ho1,hs];omega
  ·intro j p hj
   have hjl:=(List.getElem?_eq_some_iff.1 hj).1
   have h5:=hr.2 j p (by rw [List.getElem?_append_left hjl];exact hj)
   rw [hs] at h5 ⊢
   have : ((inner.take xs.length).drop (j * 1)).take 1 = (inner.drop (j * 1)).take 1:=by
    rw [List.drop_take,List.take_take];congr 1;omega
   rw [this]
   exact h5
theorem R_reads_len {e base : Nat} {W : World} {ok : Nat→Prop} {v : Value} {xs : List Int} (h : (Kd.int .i64).R e W base ok v xs) : ∃ A c,v = .slice A xs.length c∧xs.length≤c∧(Kd.int .i64).C W A xs.length xs:=Kd.R_reads h
theorem cell_putO {W : World} {l : Nat} {o o' : Obj} (hl : W.heap[l]? = some o) (ho : o.isCells = false) {a : Addr} {v : Value} (h : W.cell? a = some v) : (W.putObj l o').cell? a = some v:=by
 obtain ⟨q,hq,hc⟩:=cells_of_cell h
 have h2:=blk_putO (o':=o') hq hc hl ho
 unfold World.cell? at h ⊢
 rw [h2]
 rw [hq] at h
 exact h
theorem hOk_putO {B : Nat} {P : List Int→Prop} {x : HX} {W : World} {l : Nat} {o o' : Obj} (hx : hOk B P x W) (hl : W.heap[l]? = some o) (ho : o.isCells = false) : hOk B P x (W.putObj l o'):=by
 obtain ⟨h1,h2,h3,h4⟩:=hx
 refine ⟨h1,h2,⟨h3.1,h3.2.1,fun hn=>?_⟩,R_keepI h4 (fun k cells hc=>blk_putO hc rfl hl ho)⟩
 obtain ⟨ad,e,hc⟩:=h3.2.2 hn
 exact ⟨ad,e,fun j p hj=>by obtain ⟨c,hlc,hK,hcc⟩:=hc j p hj;exact ⟨c,hlc,hK,fun i u hu=>cell_putO hl ho (hcc i u hu)⟩⟩
def partsOf : List Int→List Int→Nat→List (List Int)
 | _,now,0=>[now]
 | [],_,_ + 1=>[]
 | x :: rest,now,m + 1=>partsOf rest (now ++ [x]) m ++ partsOf rest now (m + 1)
structure PSt (X : Nat→Prop) (w0 : World) (l Bs B1 gn gm gy gl gf : Nat) (A : Option Addr) (c : Nat) (xs : List Int) (m : Nat) (W : World) (now : List Int) : Prop where
 bn : ∃ v,W.heap[gn]? = some (.cells #[v] 26 (0,0))∧(Kd.int .i64).R 3 W B1 (fun _=>True) v now
 by_ : W.heap[gy]? = some (.cells #[.func (.yield l) #[] #[]] 91 (0,0))
 bf : W.heap[gf]? = some (.cells #[.func (.func 115) #[] #[.pointer (some ⟨gn,0,none⟩),.pointer (some ⟨gm,0,none⟩),.pointer (some ⟨gy,0,none⟩),.pointer (some ⟨gl,0,none⟩),.pointer (some ⟨gf,0,none⟩)]] 78 (0,0))
 bm0 : w0.heap[gm]? = some (.cells #[.int .i64 (m : Int)] 3 (0,0))
 bl0 : w0.heap[gl]? = some (.cells #[.slice A xs.length c] 26 (0,0))
 hC0 : (Kd.int .i64).C w0 A xs.length xs
 old : KeepsEx X w0 W
 lo : w0.heap.size≤Bs∧Bs≤gn∧Bs≤gy∧Bs≤gf∧gn < B1∧gy < B1∧gf < B1∧B1≤W.heap.size
 hX : (∀ k,X k→k < Bs)∧¬ X gm∧¬ X gl∧∀ ad,A = some ad→¬ X ad.block
theorem add_block (a : Addr) (n : Nat) : (a.add n).block = a.block:=by unfold Addr.add;split<;>rfl
theorem C_keepsEx {X : Nat→Prop} {W W' : World} (hk : KeepsEx X W W') {A : Option Addr} {n : Nat} {xs : List Int} (h : (Kd.int .i64).C W A n xs) (hX : ∀ ad,A = some ad→¬ X ad.block) : (Kd.int .i64).C W' A n xs:=
 ⟨h.1,h.2.1,fun hn=>by obtain ⟨ad,e,hc⟩:=h.2.2 hn;exact ⟨ad,e,fun j p hj=>by obtain ⟨c,hl,hK,hcc⟩:=hc j p hj;exact ⟨c,hl,hK,fun i u hu=>hk.cell (fun hx=>hX ad e (by rwa [add_block] at hx)) (hcc i u hu)⟩⟩⟩
theorem R_keepsEx {X : Nat→Prop} {W W' : World} {B : Nat} {v : Value} {l : List Int} (h : (Kd.int .i64).R 3 W B (fun _=>True) v l) (hk : KeepsEx X W W') (hX : ∀ k,X k→k < B) : (Kd.int .i64).R 3 W' B (fun _=>True) v l:=by
 refine Kd.R_mono (Kd.R_move (Kd.R_bound h) ?_) (fun _ _=>trivial)
 rintro k ⟨_,hB,_,q,hq,cells,hc⟩
 rw [hc]
 exact hk.same k _ (fun hx=>by have:=hX k hx;omega) hc
theorem PSt.bm {X : Nat→Prop} {w0 : World} {l Bs B1 gn gm gy gl gf : Nat} {A : Option Addr} {c : Nat} {xs : List Int} {m : Nat} {W : World} {now : List Int} (st : PSt X w0 l Bs B1 gn gm gy gl gf A c xs m W now) : W.heap[gm]? = some (.cells #[.int .i64 (m : Int)] 3 (0,0)):=st.old.same _ _ st.hX.2.1 st.bm0
theorem PSt.bl {X : Nat→Prop} {w0 : World} {l Bs B1 gn gm gy gl gf : Nat} {A : Option Addr} {c : Nat} {xs : List Int} {m : Nat} {W : World} {now : List Int} (st : PSt X w0 l Bs B1 gn gm gy gl gf A c xs m W now) : W.heap[gl]? = some (.cells #[.slice A xs.length c] 26 (0,0)):=st.old.same _ _ st.hX.2.2.1 st.bl0
theorem PSt.hC {X : Nat→Prop} {w0 : World} {l Bs B1 gn gm gy gl gf : Nat} {A : Option Addr} {c : Nat} {xs : List Int} {m : Nat} {W : World} {now : List Int} (st : PSt X w0 l Bs B1 gn gm gy gl gf A c xs m W now) : (Kd.int .i64).C W A xs.length xs:=C_keepsEx st.old st.hC0 st.hX.2.2.2
theorem PSt.keeps {X : Nat→Prop} {w0 : World} {l Bs B1 gn gm gy gl gf : Nat} {A : Option Addr} {c : Nat} {xs : List Int} {m : Nat} {W W' : World} {now : List Int} (st : PSt X w0 l Bs B1 gn gm gy gl gf A c xs m W now) (hk : KeepsEx X W W') : PSt X w0 l Bs B1 gn gm gy gl gf A c xs m W' now:=by
 obtain ⟨v,hv,hR⟩:=st.bn
 have hXn : ∀ k,Bs≤k→¬ X k:=fun k hk hx=>by have:=st.hX.1 k hx;omega
 obtain ⟨l1,l2,l3,l4,l5,l6,l7,l8⟩:=st.lo
 exact ⟨⟨v,hk.same _ _ (hXn _ l2) hv,R_keepsEx hR hk (fun k hx=>by have:=st.hX.1 k hx;omega)⟩,hk.same _ _ (hXn _ l3) st.by_,hk.same _ _ (hXn _ l4) st.bf,st.bm0,st.bl0,st.hC0,st.old.trans hk,⟨l1,l2,l3,l4,l5,l6,l7,Nat.le_trans l8 hk.size⟩,st.hX⟩
theorem from_end (X : Nat→Prop) (w0 : World) (l Bs B1 gn gm gy gl gf : Nat) (A : Option Addr) (c : Nat) (xs : List Int) (m : Nat) (J Jx : List HX→World→Prop) (hJ : AbidesC Bs J) (P : List Int→Prop) (m0 : Nat) (hY : ∀ pre x W1,J pre W1→hOk w0.heap.size P x W1→YieldAt Fence.wide m0 Tryz.prog l (hEnc x) W1 fun e W'=>(e = .returned (.bool true)∧J (pre ++ [x]) W'∧KeepsEx X W1 W')∨(e = .returned (.bool false)∧Jx (pre ++ [x]) W'∧KeepsFrom Bs W1 W')) (now : List Int) (at_ : Int) (hnm : now.length = m) (hnl : now.length < 17592186044416) (hP : P now) (n : Nat) (pre : List HX) (W : World) (st : PSt X w0 l Bs B1 gn gm gy gl gf A c xs m W now) (hj : J pre W) :
 CallsIn Fence.wide n Tryz.prog 115 #[.int .i64 at_,.pointer (some ⟨gn,0,none⟩),.pointer (some ⟨gm,0,none⟩),.pointer (some ⟨gy,0,none⟩),.pointer (some ⟨gl,0,none⟩),.pointer (some ⟨gf,0,none⟩)] W fun e W'=>(e = .returned (.bool true)∧KeepsEx X W W'∧∃ x : HX,x.1 = now∧J (pre ++ [x]) W')∨(e = .returned (.bool false)∧∃ x : HX,x.1 = now∧Jx (pre ++ [x]) W'):=by
 have HP:=Aside0.mk hP
 clear hP
 obtain ⟨vn,bn,hR⟩:=st.bn
 obtain ⟨An,cn,rfl,hle,hC⟩:=R_reads_len hR
 subst hnm
 have e1 : ((now.length : Int) == (now.length : Int)) = true:=by simp
 have c0:=(blk_cell bn 0).trans rfl
 have c3:=(blk_cell st.bm 0).trans rfl
 have c1:=(blk_cell st.by_ 0).trans rfl
 have HD:=Aside0.mk (below_drew (Below.refl W.heap.size W))
 have HC:=Aside0.mk (sl_Clone_int.calls An cn now now W.drew (kC hC HD.out) hle (if_pos hnl))
 have HJ1:=Aside0.mk (hJ.below hj HD.out)
 have HGR:=Aside0.mk (show w0.heap.size≤W.drew.heap.size from st.old.size)
 have BY:=Aside0.mk st.by_
 refine callsIn_of_wp Tryz.func115 rfl trivial ?_ rfl
 simp only [Tryz.ntmps115,List.size_toArray,List.length_cons,List.length_nil,Nat.reduceAdd,Nat.reduceSub,Array.replicate_succ,Array.replicate_zero,List.push_toArray,List.append_toArray,List.nil_append,List.cons_append]
 gi_wp2
 gi_region_with (first | (refine ⟨trivial,fun h=>Bool.noConfusion h,?_⟩;refine (callsIn_wide.2 HC.out).mono ?_;rintro e w1 ⟨v1,rfl,hr,hb⟩;obtain ⟨Ax,cx,rfl,hlx,hcx⟩:=Kd.R_reads hr;have hy1:=hY pre (now,Ax,cx) w1 (hJ.below HJ1.out hb) ⟨HP.out,hlx,hcx,Kd.R_lower hr HGR.out⟩;obtain ⟨fn,tmps,assign,body,hy,hR⟩:=hAny rfl (n - 1) hy1;dsimp only [hEnc] at hy;have c2 : w1.cell? ⟨gy,0,none⟩ = some (.func (.yield l) #[] #[]):=(blk_cell (blk_below (blk_drew BY.out) hb) 0).trans rfl) | (refine hR.mono ?_;intro e W2 hh;obtain ⟨bb,rfl,hres⟩:=oneWay3 hh) | (refine ⟨fun _ _=>trivial,fun h=>Bool.noConfusion h,?_⟩;refine hR.mono ?_;intro e W2 hh;obtain ⟨bb,rfl,hres⟩:=oneWay3 hh) | (refine ⟨fun h=>Bool.noConfusion h,?_⟩;refine hR.mono ?_;intro e W2 hh;obtain ⟨bb,rfl,hres⟩:=oneWay3 hh))
 all_goals gi_wp2
 all_goals go_ret
 all_goals (cases bb with | false=>exact .inr ⟨rfl,_,rfl,hres.1⟩ | true=>exact .inl ⟨rfl,((KeepsEx.of_below HD.out).trans (KeepsEx.of_below hb)).trans hres.2,_,rfl,hres.1⟩)
end
end Go.Proofs.YtclkbedbocnpkaaGreatDoor.C
namespace Go.Proofs.YtclkbedbocnpkaaGreatDoor.C
open Go.RowKit Go.Proofs.YtclkbedbocnpkaaGreatDoorW.PrintWords Go.Proofs.YtclkbedbocnpkaaGreatDoorW.PrintLast Go.Proofs.YtclkbedbocnpkaaGreatDoorW.PrintMore
set_option linter.unusedVariables false
set_option linter.unusedSimpArgs false
set_option maxHeartbeats 16000000
set_option maxRecDepth 100000
def FromPost (X : Nat→Prop) (w0 : World) (l Bs B1 gn gm gy gl gf : Nat) (A : Option Addr) (c : Nat) (xs : List Int) (m : Nat) (J Jx : List HX→World→Prop) (now : List Int) (px : List HX) (T : List (List Int)) (e : Ending) (W' : World) : Prop:=
 (e = .returned (.bool true)∧∃ ys : List HX,PSt X w0 l Bs B1 gn gm gy gl gf A c xs m W' now∧ys.map (·.1) = T∧J (px ++ ys) W')∨(e = .returned (.bool false)∧∃ ys : List HX,ys.map (·.1) <+: T∧Jx (px ++ ys) W')
theorem grown_set {W : World} {g i : Nat} {v : Value} : W.grownBy (W.setCell ⟨g,i,none⟩ v) (some g):=
 have hb:=(Below.refl 0 W).setCell (p:=⟨g,i,none⟩) (Nat.zero_le _) v
 ⟨hb.os,hb.tape,hb.output,hb.size,fun k hk hne=>by
  obtain ⟨q,hq⟩ : ∃ q,W.heap[k]? = some q:=⟨_,Array.getElem?_eq_getElem hk⟩
  rw [hq]
  exact obj_far (p:=⟨g,i,none⟩) hq (fun e=>hne (by rw [e])) _⟩
theorem KeepsEx.grown {X : Nat→Prop} {w0 W W' : World} {row : Option Nat} (hk : KeepsEx X w0 W) (hg : W.grownBy W' row) (hr : ∀ r,row = some r→w0.heap.size≤r) : KeepsEx X w0 W':=
 ⟨hg.os.trans hk.os,hg.tape.trans hk.tape,hg.output.trans hk.output,Nat.le_trans hk.size hg.size,fun k o hx ho=>(hg.block k (by have:=(Array.getElem?_eq_some_iff.1 ho).1;have:=hk.size;omega) (fun e=>by have:=hr k e.symm;have:=(Array.getElem?_eq_some_iff.1 ho).1;omega)).trans (hk.same k o hx ho)⟩
theorem blk_grown1 {W W' : World} {row : Option Nat} {b : Nat} {o : Obj} (h : W.heap[b]? = some o) (hg : W.grownBy W' row) (hr : ∀ r,row = some r→r ≠ b) : W'.heap[b]? = some o:=
 (hg.block b (Array.getElem?_eq_some_iff.1 h).1 (fun e=>hr b e.symm rfl)).trans h
theorem PSt.put {X : Nat→Prop} {w0 : World} {l Bs B1 gn gm gy gl gf : Nat} {A : Option Addr} {c : Nat} {xs : List Int} {m : Nat} {W W1 : World} {now now2 : List Int} {row : Option Nat} (st : PSt X w0 l Bs B1 gn gm gy gl gf A c xs m W now) (hg : W.grownBy W1 row) (hr : ∀ r,row = some r→B1≤r) {v : Value} (hR : (Kd.int .i64).R 3 W1 B1 (fun _=>True) v now2) : PSt X w0 l Bs B1 gn gm gy gl gf A c xs m (W1.setCell ⟨gn,0,none⟩ v) now2:=by
 obtain ⟨l1,l2,l3,l4,l5,l6,l7,l8⟩:=st.lo
 obtain ⟨vo,bn,_⟩:=st.bn
 have bn1:=blk_grown1 bn hg (fun r e=>by have:=hr r e;omega)
 have by1:=blk_grown1 st.by_ hg (fun r e=>by have:=hr r e;omega)
 have bf1:=blk_grown1 st.bf hg (fun r e=>by have:=hr r e;omega)
 refine ⟨⟨v,blkF_set1 bn1,?_⟩,blkF_set by1 (obj_ne by1 bn1 (by decide)),blkF_set bf1 (obj_ne bf1 bn1 (by decide)),st.bm0,st.bl0,st.hC0,(st.old.grown hg (fun r e=>by have:=hr r e;omega)).grown grown_set (fun r e=>by cases e;omega),⟨l1,l2,l3,l4,l5,l6,l7,?_⟩,st.hX⟩
 ·refine Kd.R_mono (Kd.R_move (Kd.R_bound hR) ?_) (fun _ _=>trivial)
  rintro k ⟨_,hB,_,q,hq,cells,hc⟩
  rw [hc]
  exact obj_far (p:=⟨gn,0,none⟩) hc (fun e=>by have e : k = gn:=e;omega) _
 ·exact Nat.le_trans l8 (Nat.le_trans hg.size grown_set.size)
theorem PSt.at_ {X : Nat→Prop} {w0 : World} {l Bs B1 gn gm gy gl gf : Nat} {A : Option Addr} {c : Nat} {xs : List Int} {m : Nat} {W : World} {now : List Int} (st : PSt X w0 l Bs B1 gn gm gy gl gf A c xs m W now) {ad : Addr} (hA : A = some ad) {W2 : World} (hk : KeepsEx X w0 W2) (i : Nat) (hi : i < xs.length) : W2.cell? ⟨gl,0,none⟩ = some (.slice (some ad) xs.length c)∧W2.cell? (ad.add i) = some (.int .i64 (xs.getD i 0)):=by
 subst hA
 refine ⟨(blk_cell (hk.same _ _ st.hX.2.2.1 st.bl0) 0).trans rfl,?_⟩
 obtain ⟨ad2,e,h⟩:=Kd.at_int (C_keepsEx hk st.hC0 st.hX.2.2.2) (i : Int) (by omega) (by omega)
 cases e
 exact h
theorem R_own_ge {e base : Nat} {W : World} {ok : Nat→Prop} {v : Value} {xs : List Int} (h : (Kd.int .i64).R e W base ok v xs) : ∀ r,v.ownBlock = some r→base≤r:=by
 obtain ⟨_,inner,⟨_,h2⟩,_⟩:=h
 intro r hr
 rcases h2 with ⟨rfl,_⟩ | ⟨g,cap,cur,rfl,o1,_⟩
 ·cases hr
 ·cases hr;exact o1
theorem reps_int1 {W : World} {base : Nat} {okp : Nat→Prop} (x : Int) : Reps ((Kd.int .i64).M W base okp) (Kd.int .i64).sz [x] [.int .i64 x]:=⟨rfl,fun j p hj=>by
 cases j with
 | zero=>cases hj;rfl
 | succ j=>simp at hj⟩
theorem reps_int2 {W : World} {base : Nat} {okp : Nat→Prop} (x y : Int) : Reps ((Kd.int .i64).M W base okp) (Kd.int .i64).sz [x,y] [.int .i64 x,.int .i64 y]:=⟨rfl,fun j p hj=>by
 match j,hj with
 | 0,hj=>cases hj;rfl
 | 1,hj=>cases hj;rfl
 | j + 2,hj=>simp at hj⟩
theorem skip_step {P : Program} {ops : Array Oper} {o : Oper} {a : Act} {Q : Exit→Act→World→Prop} {Kc : Act→World→Prop} {W w1 : World} (hw : Region.wanted o (yielded ops a.tmps) = true) (hrun : (execOp a.eval o).run P W = .ok .skip w1) (h : Kc (a.put o.dst undef) w1) : if Region.wanted o (yielded ops a.tmps) = true then Oper.wp P o a W Kc Q else Kc (a.put o.dst undef) W:=by
 rw [if_pos hw]
 unfold Oper.wp
 rw [hrun]
 exact h
theorem from_in (X : Nat→Prop) (w0 : World) (l Bs B1 gn gm gy gl gf : Nat) (A : Option Addr) (c : Nat) (xs : List Int) (m : Nat) (hxl : xs.length < 1000000) (J Jx : List HX→World→Prop) (hJ : AbidesC Bs J) (P : List Int→Prop) (m0 : Nat) (hY : ∀ pre x W1,J pre W1→hOk w0.heap.size P x W1→YieldAt Fence.wide m0 Tryz.prog l (hEnc x) W1 fun e W'=>(e = .returned (.bool true)∧J (pre ++ [x]) W'∧KeepsEx X W1 W')∨(e = .returned (.bool false)∧Jx (pre ++ [x]) W'∧KeepsFrom Bs W1 W')) : ∀ (N : Nat) (rest done : List Int) (now : List Int) (k : Nat) (px : List HX) (W : World),rest.length < N→xs = done ++ rest→now.length + k = m→now.length + rest.length < 1000000→(∀ y ∈ partsOf rest now k,P y)→PSt X w0 l Bs B1 gn gm gy gl gf A c xs m W now→J px W→
 Calls Tryz.prog 115 #[.int .i64 (done.length : Int),.pointer (some ⟨gn,0,none⟩),.pointer (some ⟨gm,0,none⟩),.pointer (some ⟨gy,0,none⟩),.pointer (some ⟨gl,0,none⟩),.pointer (some ⟨gf,0,none⟩)] W (FromPost X w0 l Bs B1 gn gm gy gl gf A c xs m J Jx now px (partsOf rest now k)):=by
 intro N
 induction N with
 | zero=>intro rest done now k px W h;omega
 | succ N ih =>
  intro rest done now k px W hN hx hk hnl hP st hj
  cases k with
  | zero =>
   refine Calls.mono ((callsIn_wide (n:=9)).1 (from_end X w0 l Bs B1 gn gm gy gl gf A c xs m J Jx hJ P m0 hY now _ (by omega) (by omega) (hP now (by cases rest<;>simp [partsOf])) 9 px W st hj)) ?_
   have hpz : partsOf rest now 0 = [now]:=by cases rest<;>rfl
   rintro e W' (⟨rfl,hk,x,hx,hj2⟩ | ⟨rfl,x,hx,hx2⟩)
   ·exact .inl ⟨rfl,[x],st.keeps hk,by simp [hpz,hx],hj2⟩
   ·exact .inr ⟨rfl,[x],by simp [hpz,hx],hx2⟩
  | succ k =>
   have hdl : done.length≤xs.length:=by rw [hx];simp
   obtain ⟨vn,bn,hR⟩:=st.bn
   obtain ⟨An,cn,rfl,hle,hC⟩:=R_reads_len hR
   have e1 : ((now.length : Int) == (m : Int)) = false:=by simp;omega
   have c0:=(blk_cell bn 0).trans rfl
   have c3:=(blk_cell st.bm 0).trans rfl
   have ST:=Aside0.mk st
   have HJ:=Aside0.mk hj
   have HPP:=Aside0.mk hP
   have HXX:=Aside0.mk hx
   have HNL:=Aside0.mk hnl
   clear st hj hP hx hR hC bn hle
   go_enter Tryz.func115,Tryz.ntmps115
   go_wp2
   obtain ⟨T,hT⟩ : ∃ T,partsOf rest now (k + 1) = T:=⟨_,rfl⟩
   go_loopw [8] (fun v8 W'=>∃ (dn rs : List Int) (ys : List HX),xs = dn ++ rs∧v8 = .int .i64 (dn.length : Int)∧rs.length < N + 1∧rs.length≤rest.length∧Aside0 (PSt X w0 l Bs B1 gn gm gy gl gf A c xs m W' now)∧Aside0 (ys.map (·.1) ++ partsOf rs now (k + 1) = T)∧Aside0 (J (px ++ ys) W')) (fun v8 _=>xs.length - (intOf v8).toNat)
   case atStart=>exact ⟨done,rest,[],HXX.out,rfl,hN,Nat.le_refl _,ST,⟨by simpa using hT⟩,⟨by simpa using HJ.out⟩⟩
   case round =>
    clear ST HJ c0 c3 e1
    obtain ⟨dn,rs,ys,hx2,rfl,hrs,hrs2,ST,HT,HJ⟩:=hrel
    have hlen : xs.length = dn.length + rs.length:=by rw [hx2];simp
    obtain ⟨vn,bn,hR⟩:=ST.out.bn
    obtain ⟨An,cn,rfl,hle,hC⟩:=R_reads_len hR
    have c0:=(blk_cell bn 0).trans rfl
    have z0:=blk_frozen bn 0
    have c4:=(blk_cell ST.out.bl 0).trans rfl
    have c5:=(blk_cell ST.out.bf 0).trans rfl
    have HRn:=Aside0.mk hR
    have BN:=Aside0.mk bn
    clear hR hC bn
    cases rs with
    | nil =>
     obtain hd : xs = dn:=by simpa using hx2
     subst hd
     clear hx2 hlen
     have hq1 : decide ((xs.length : Int) < (xs.length : Int)) = false:=by simp
     go_wp2
     go_ret
     exact .inl ⟨rfl,ys,ST.out,by have:=HT.out;rw [partsOf,List.append_nil] at this;first | exact this.trans hT.symm | exact this,HJ.out⟩
    | cons x rs =>
     have q0 : (0 : Int)≤(dn.length : Int):=by omega
     have q1 : (dn.length : Int) < (xs.length : Int):=by rw [hlen];simp;omega
     have HLEN:=Aside0.mk hlen
     clear hlen
     have hq1 : decide ((dn.length : Int) < (xs.length : Int)) = true:=decide_eq_true q1
     obtain ⟨ad,eA,hx0⟩:=Kd.at_int ST.out.hC (dn.length : Int) q0 q1
     have hrd : xs.getD ((dn.length : Int)).toNat (0 : Int) = x:=by rw [hx2];simp
     go_wp2
     subst eA
     rw [show rd xs (dn.length : Int) = x from hrd,Int.toNat_natCast] at hx0
     have HX0:=Aside0.mk hx0
     have HIX : IntKind.i64.wrap ((dn.length : Int)) = (dn.length : Int):=(i64_w _).trans (by unfold wrap64;omega)
     have STd:=Aside0.mk (ST.out.keeps (KeepsEx.of_below (below_drew (Below.refl wr.heap.size wr))))
     have HJd:=Aside0.mk (hJ.below HJ.out (below_drew (Below.refl wr.heap.size wr)))
     have BNd:=Aside0.mk (blk_drew BN.out)
     have HRd:=Aside0.mk (R_keepsEx (X:=fun _=>False) HRn.out (KeepsEx.of_below (below_drew (Below.refl wr.heap.size wr))) (fun _ h=>h.elim))
     refine start_ (n:=8) (S:=fun w'=>w'.cell? ⟨gn,0,none⟩ = some (.slice An now.length cn)∧w'.cell? ⟨gl,0,none⟩ = some (.slice (some ad) xs.length c)∧w'.cell? (ad.add dn.length) = some (.int .i64 x)) (ds:=[7]) #[false,false,false,false,false,false,false,false] (by kernel_rfl) rfl rfl ⟨(blk_cell BN.out 0).trans rfl,(blk_cell ST.out.bl 0).trans rfl,HX0.out⟩ (fun hHeld=>?_)
     clear ST HJ BN HRn HX0 c0 z0 c4 c5
     have ST:=STd
     have HJ:=HJd
     have BN:=BNd
     have HRn:=HRd
     clear STd HJd BNd HRd
     refine take_ (i:=0) (N:=some 24) (v:=?_) (a':=?_) #[true,false,false,false,false,false,false,false] rfl rfl (by kernel_rfl) (fun _ _ _ h=>h) (Or.inl ⟨by rfl,?_⟩) hHeld ?_ ?_
     rotate_left
     ·rintro w' ⟨s0,s1,s2⟩
      go_simp
      with_reducible rfl
     rotate_left
     ·simp only [Act.put,List.setIfInBounds_toArray,List.set_cons_zero,List.set_cons_succ,i64_w,i32_w]
      rfl
     refine take_ (i:=1) (N:=some 25) (v:=?_) (a':=?_) #[true,true,false,false,false,false,false,false] rfl rfl (by kernel_rfl) (fun _ _ _ h=>h) (Or.inl ⟨by rfl,?_⟩) hHeld ?_ ?_
     rotate_left
     ·rintro w' ⟨s0,s1,s2⟩
      go_simp
      with_reducible rfl
     rotate_left
     ·simp only [Act.put,List.setIfInBounds_toArray,List.set_cons_zero,List.set_cons_succ,i64_w,i32_w]
      rfl
     refine pure_ (i:=2) (N:=some 26) (v:=?_) (a':=?_) #[true,true,true,false,false,false,false,false] rfl rfl (by kernel_rfl) (fun _ _ _ h=>h) (Or.inl ⟨by rfl,?_⟩) ?_ ?_
     rotate_left
     ·intro w'
      go_simp
      with_reducible rfl
     rotate_left
     ·simp only [Act.put,List.setIfInBounds_toArray,List.set_cons_zero,List.set_cons_succ,i64_w,i32_w]
      rfl
     refine pure_ (i:=3) (N:=some 27) (v:=?_) (a':=?_) #[true,true,true,true,false,false,false,false] rfl rfl (by kernel_rfl) (fun _ _ _ h=>h) (Or.inl ⟨by rfl,?_⟩) ?_ ?_
     rotate_left
     ·intro w'
      go_simp
      with_reducible rfl
     rotate_left
     ·simp only [Act.put,List.setIfInBounds_toArray,List.set_cons_zero,List.set_cons_succ,i64_w,i32_w]
      rfl
     refine take_ (i:=4) (N:=some 28) (v:=?_) (a':=?_) #[true,true,true,true,true,false,false,false] rfl rfl (by kernel_rfl) (fun _ _ _ h=>h) (Or.inl ⟨by rfl,?_⟩) hHeld ?_ ?_
     rotate_left
     ·rintro w' ⟨s0,s1,s2⟩
      go_simp
      with_reducible rfl
     rotate_left
     ·simp only [Act.put,List.setIfInBounds_toArray,List.set_cons_zero,List.set_cons_succ,i64_w,i32_w]
      rfl
     refine one_ (i:=5) (N:=some 29) #[true,true,true,true,true,true,false,false] rfl rfl (by kernel_rfl) (by decide) (fun K hK=>?_)
     refine Kd.R_lit_step (Kd.int .i64) (w0:=wr.drew) wr.drew.heap.size 3 (by rfl) (N:=29) rfl (xs:=[x]) (inner:=[.int .i64 x]) (ok:=fun _=>True) (okp:=fun _=>True) ?hrun ?hrep (fun _ h=>h) trivial (Below.refl _ _) (Nat.le_refl _) (by simp) ?_
     case hrun=>first | (go_simp;done) | (go_simp;rfl)
     case hrep=>exact reps_int1 x
     intro v1 w1 hr1 hb1 hg1 ho1
     have hbg:=grown_of_belowN hb1
     have hgd : xs.getD dn.length 0 = x:=hrd
     have ST1:=Aside0.mk (ST.out.keeps (KeepsEx.of_below hb1))
     have HJ1:=Aside0.mk (hJ.below HJ.out hb1)
     have BN1:=Aside0.mk (blk_below BN.out hb1)
     have HR1:=Aside0.mk (R_keepsEx (X:=fun _=>False) HRn.out (KeepsEx.of_below hb1) (fun _ h=>h.elim))
     obtain ⟨A1,c1,rfl,hl1,hC1⟩:=R_reads_len hr1
     have HC1:=Aside0.mk hC1
     clear ST HJ BN HRn hr1 hb1 hg1 ho1 hbg hC1 hl1
     obtain ⟨q1_,q2_⟩:=ST1.out.at_ rfl ST1.out.old dn.length (by have:=HLEN.out;simp at this;omega)
     rw [hgd] at q2_
     refine hK.out _ _ ⟨(blk_cell BN1.out 0).trans rfl,q1_,q2_⟩ (fun hHeld=>?_)
     clear hK K q1_ q2_
     refine norm_ (a':=?_) ?_ ?_
     rotate_left
     ·show Act.put _ (some 29) _ = _
      simp only [Act.put,List.setIfInBounds_toArray,List.set_cons_zero,List.set_cons_succ,i64_w,i32_w]
      rfl
     refine one_ (i:=6) (N:=some 30) #[true,true,true,true,true,true,true,false] rfl rfl (by kernel_rfl) (by decide) (fun K hK=>?_)
     refine Kd.R_append_rows_step (Kd.int .i64) (Rr:=((Kd.int .i64)).K w1) (w0:=w1) B1 (by rfl) (.tmp 24) (.tmp 29) 26 3 (.int .i64 0) 8 rfl Tryz.underlying26 infoC_int rfl (by decide) (by omega) (.slice An now.length cn) now [x] A1 [x].length c1 (fun _=>True) (fun _=>False) rfl rfl HR1.out HC1.out (fun _ _ hk=>hk) (fun _ h=>h.elim) (fun _ _=>trivial) (Below.refl _ _) ST1.out.lo.2.2.2.2.2.2.2 (by simp;have:=HNL.out;omega) ?_
     intro v2 w2 ho2 hb2 hg2 hat2
     obtain ⟨A2,c2,rfl,hl2,hC2⟩:=R_reads_len ho2
     clear hl2 hC2
     have hrow:=R_own_ge HR1.out
     have HPUT:=Aside0.mk (PSt.put ST1.out hg2 hrow ho2)
     have HJ2:=Aside0.mk (hJ _ _ _ _ (hJ _ _ _ _ HJ1.out hg2 (fun r e=>by have:=hrow r e;have:=ST1.out.lo;omega)) (grown_set (g:=gn) (i:=0) (v:=.slice A2 (now ++ [x]).length c2)) (fun r e=>by cases e;exact ST1.out.lo.2.1))
     have BN2:=Aside0.mk (blk_grown1 BN1.out hg2 (fun r e=>by have:=hrow r e;have:=ST1.out.lo;omega))
     obtain ⟨q1_,q2_⟩:=ST1.out.at_ rfl (ST1.out.old.grown hg2 (fun r e=>by have:=hrow r e;have:=ST1.out.lo;omega)) dn.length (by have:=HLEN.out;simp at this;omega)
     rw [hgd] at q2_
     have hcg:=(blk_cell BN2.out 0).trans rfl
     have hfg:=blk_frozen BN2.out 0
     refine hK.out _ _ ⟨hcg,q1_,q2_⟩ (fun hHeld=>?_)
     clear hK K q1_ q2_ ho2 hb2 hg2 hat2 hrow ST1 HJ1 BN1 HR1 HC1
     refine norm_ (a':=?_) ?_ ?_
     rotate_left
     ·show Act.put _ (some 30) _ = _
      simp only [Act.put,List.setIfInBounds_toArray,List.set_cons_zero,List.set_cons_succ,i64_w,i32_w]
      rfl
     refine last_ (i:=7) (N:=none) #[true,true,true,true,true,true,true,true] rfl rfl (by kernel_rfl) (by decide) (fun K hK=>?_)
     refine skip_step (by rfl) (w1:=w2.setCell ⟨gn,0,none⟩ (.slice A2 (now ++ [x]).length c2)) ?hrun ?_
     case hrun=>first | (go_simp;done) | (go_simp;rfl)
     refine hK.out _ _ ?_
     clear hK K
     refine done_ (by kernel_rfl) ?_
     generalize w2.setCell ⟨gn,0,none⟩ (.slice A2 (now ++ [x]).length c2) = w3 at HPUT HJ2 ⊢
     clear hcg hfg BN2 hHeld
     have c5:=(blk_cell HPUT.out.bf 0).trans rfl
     have hw1 : IntKind.i64.wrap ((dn.length : Int) + 1) = (dn.length : Int) + 1:=(i64_w _).trans (by unfold wrap64;have:=HLEN.out;simp at this;omega)
     have ihc:=ih rs (dn ++ [x]) (now ++ [x]) k (px ++ ys) w3 (by simp at hrs;omega) (by rw [hx2];simp) (by simp;omega) (by simp;have:=HNL.out;simp at hrs2;omega) ?hPP HPUT.out HJ2.out
     rotate_left
     case hPP=>exact fun y hy=>HPP.out y (by rw [hT,← HT.out];exact List.mem_append_right _ (by rw [partsOf];exact List.mem_append_left _ hy))
     rw [show (((dn ++ [x]).length : Nat) : Int) = (dn.length : Int) + 1 by simp] at ihc
     have IHC:=Aside0.mk ihc
     clear ihc
     have hw2 : IntKind.i64.wrap (((now.length : Int) + 1) - 1) = (now.length : Int):=(i64_w _).trans (by unfold wrap64;have:=HNL.out;omega)
     go_wp2_with (go_at_call 115;refine (IHC.out).mono ?_;rintro e w4 (⟨rfl,zs,ST4,hz,HJ4⟩ | ⟨rfl,zs,hz,HJ4⟩);obtain ⟨v4,bn4,hR4⟩:=ST4.bn;obtain ⟨g4,c4_,rfl,q1,q2,q3,q4,hR5⟩:=R_int_take hR4;have c0:=(blk_cell bn4 0).trans rfl;have z0:=blk_frozen bn4 0)
     ·have hT2:=HT.out
      rw [partsOf] at hT2
      exact ⟨⟨dn ++ [x],rs,ys ++ zs,by rw [hx2];simp,by simp,by simp at hrs;omega,by simp at hrs2;omega,⟨PSt.put ST4 (World.grownBy.refl _ none) (fun r e=>by cases e) hR5⟩,⟨by rw [List.map_append,hz,List.append_assoc];exact hT2⟩,⟨by rw [← List.append_assoc];exact hJ _ _ _ _ HJ4 grown_set (fun r e=>by cases e;exact ST4.lo.2.1)⟩⟩,by have:=HLEN.out;simp [intOf] at this ⊢;omega⟩
     ·go_ret
      have hT2:=HT.out
      rw [partsOf] at hT2
      obtain ⟨rr,hrr⟩:=hz
      exact Or.inr ⟨rfl,ys ++ zs,⟨rr ++ partsOf rs now (k + 1),by rw [List.map_append,List.append_assoc,← List.append_assoc _ rr,hrr];exact hT2.trans hT.symm⟩,by rw [← List.append_assoc];exact HJ4⟩
def gp_least.f (a0_0 : Int) (a0_1 : Int) : Option (Int):=some a0_0
theorem gp_least.calls (a0_0 : Int) (a0_1 : Int) (r : Int) (w : World) (h : gp_least.f a0_0 a0_1 = some r) :
 Calls Tryz.prog 129 #[.agg #[.int .i64 a0_0,.int .i64 a0_1]] w fun e w'=>e = .returned (.int .i64 r)∧Below w.heap.size w w':=by
 have hu131:=Tryz.underlying131
 have HB:=am (Below.refl w.heap.size w)
 have H : (some a0_0) = some r:=h
 clear h
 obtain rfl:=Option.some.inj H
 go_enter Tryz.func129,Tryz.ntmps129
 go_wp2_with (first | ((refine ga_dst (N:=1) rfl ?_);refine box_event rfl (N:=1) rfl (cs:=#[.int .i64 a0_0,.int .i64 a0_1]) (t:=131) ?hr ?_;(case hr=>go_simp;try rfl);intro gb737 hg w2 hbox hb;have BK737:=am (hbox);have GW737:=am (ge_new (HB.out) hg);have GE737:=am (ge_new (HB.out) hg);replace HB:=am (below_step (HB.out) hb);clear hb hbox hg;obtain ⟨hcz3_0,hcz3_1⟩:=cO2 BK737.out))
 go_ret
 exact ⟨by first | rfl | (simp [*]<;>rfl),HB.out⟩
def gp_greatest.f (a0_0 : Int) (a0_1 : Int) : Option (Int):=some a0_1
theorem gp_greatest.calls (a0_0 : Int) (a0_1 : Int) (r : Int) (w : World) (h : gp_greatest.f a0_0 a0_1 = some r) :
 Calls Tryz.prog 130 #[.agg #[.int .i64 a0_0,.int .i64 a0_1]] w fun e w'=>e = .returned (.int .i64 r)∧Below w.heap.size w w':=by
 have hu131:=Tryz.underlying131
 have HB:=am (Below.refl w.heap.size w)
 have H : (some a0_1) = some r:=h
 clear h
 obtain rfl:=Option.some.inj H
 go_enter Tryz.func130,Tryz.ntmps130
 go_wp2_with (first | ((refine ga_dst (N:=1) rfl ?_);refine box_event rfl (N:=1) rfl (cs:=#[.int .i64 a0_0,.int .i64 a0_1]) (t:=131) ?hr ?_;(case hr=>go_simp;try rfl);intro gb738 hg w2 hbox hb;have BK738:=am (hbox);have GW738:=am (ge_new (HB.out) hg);have GE738:=am (ge_new (HB.out) hg);replace HB:=am (below_step (HB.out) hb);clear hb hbox hg;obtain ⟨hcz3_0,hcz3_1⟩:=cO2 BK738.out))
 go_ret
 exact ⟨by first | rfl | (simp [*]<;>rfl),HB.out⟩
def sl_Index_int_int.l0 : Nat→List Int→Int→Int→Int→Option (Int)
 | 0,_,_,_,_=>none
 | k + 1,x0,x1,x7,x8=>if x8 < x7 then (if 0≤x8 then (if x8 < (x0.length : Int) then (if x1 = (rd x0 x8) then (some x8) else (sl_Index_int_int.l0 k x0 x1 x7 (wrap64 (x8 + 1)))) else (none)) else (none)) else (some (-1))
def sl_Index_int_int.f (k : Nat) (l0 : List Int) (a1 : Int) : Option (Int):=sl_Index_int_int.l0 k l0 a1 (l0.length : Int) 0
theorem sl_Index_int_int.calls (k : Nat) (A0 : Option Addr) (c0 : Nat) (l0 : List Int) (a1 : Int) (r : Int) (w : World) (hr0 : Kd.C (Kd.int .i64) w A0 l0.length l0) (hc0 : l0.length≤c0) (h : sl_Index_int_int.f k l0 a1 = some r) :
 Calls Tryz.prog 111 #[.slice A0 l0.length c0,.int .i64 a1] w fun e w'=>e = .returned (.int .i64 r)∧Drawn0 w w':=by
 have HR0:=am hr0
 have HC0:=am hc0
 clear hr0 hc0
 have H : (sl_Index_int_int.l0 k l0 a1 (l0.length : Int) 0) = some r:=h
 clear h
 replace H':=am H
 go_enter Tryz.func111,Tryz.ntmps111
 go_wp2
 go_loopg [8] k (fun kq v8 w'=>∃ (x8_1 : Int),v8 = .int .i64 x8_1∧Aside0 (sl_Index_int_int.l0 kq l0 a1 (l0.length : Int) x8_1 = some r)∧Aside0 (kq≤k)∧Drawn0 w w')
 case atStart=>exact ⟨(0),(by first | rfl | (simp;done) | (simp [*];done)),H',⟨Nat.le_refl _⟩,by repeat (first | exact Drawn0.refl _ | apply Drawn0.step)⟩
 case round =>
  clear H'
  obtain ⟨x8_1,rfl,HA,HK1,⟨m1,rfl⟩⟩:=hrel
  cases gk with
  | zero=>exact absurd HA.out (by simp [sl_Index_int_int.l0])
  | succ k1 =>
   have H:=HA.out
   clear HA
   simp only [sl_Index_int_int.l0] at H
   by_cases c3 : x8_1 < (l0.length : Int)
   case neg =>
    rw [if_neg c3] at H
    have c3b0 : decide (x8_1 < (l0.length : Int)) = false:=decide_eq_false c3
    clear c3
    obtain rfl:=Option.some.inj H
    go_wp2
    go_ret
    exact ⟨by first | rfl | (simp;done) | (simp [*];done),by repeat (first | exact Drawn0.refl _ | apply Drawn0.step)⟩
   rw [if_pos c3] at H
   have c3b0 : decide (x8_1 < (l0.length : Int)) = true:=decide_eq_true c3
   clear c3
   by_cases c4 : 0≤x8_1
   case neg =>
    rw [if_neg c4] at H
    exact absurd H (by simp)
   rw [if_pos c4] at H
   have c4b0 : decide (0≤x8_1) = true:=decide_eq_true c4
   clear c4
   by_cases c5 : x8_1 < (l0.length : Int)
   case neg =>
    rw [if_neg c5] at H
    exact absurd H (by simp)
   rw [if_pos c5] at H
   have c5b0 : decide (x8_1 < (l0.length : Int)) = true:=decide_eq_true c5
   clear c5
   by_cases c6 : a1 = (rd l0 x8_1)
   ·rw [if_pos c6] at H
    have c6b0 : (a1 == (rd l0 x8_1)) = true:=beq_iff_eq.mpr c6
    have c6b1 : (a1 != (rd l0 x8_1)) = false:=bne_eq_false_iff_eq.mpr c6
    clear c6
    obtain rfl:=Option.some.inj H
    have p115 : 0≤(x8_1 : Int):=of_decide_eq_true (by assumption)
    have q115 : x8_1 < (l0.length : Int):=of_decide_eq_true (by assumption)
    obtain ⟨ad115,e115,hx115_0⟩:=Kd.at_int HR0.out x8_1 p115 q115
    cases e115
    replace p115:=eq_true p115
    replace q115:=eq_true q115
    go_wp2
    go_ret
    exact ⟨by first | rfl | (simp;done) | (simp [*];done),by repeat (first | exact Drawn0.refl _ | apply Drawn0.step)⟩
   ·rw [if_neg c6] at H
    have c6b0 : (a1 == (rd l0 x8_1)) = false:=beq_eq_false_iff_ne.mpr c6
    have c6b1 : (a1 != (rd l0 x8_1)) = true:=bne_iff_ne.mpr c6
    replace H':=am H
    have p115 : 0≤(x8_1 : Int):=of_decide_eq_true (by assumption)
    have q115 : x8_1 < (l0.length : Int):=of_decide_eq_true (by assumption)
    obtain ⟨ad115,e115,hx115_0⟩:=Kd.at_int HR0.out x8_1 p115 q115
    cases e115
    replace p115:=eq_true p115
    replace q115:=eq_true q115
    go_wp2
    go_roundg k1
    case measure=>have:=HK1.out;omega
    case rel=>exact ⟨(wrap64 (x8_1 + 1)),(by first | rfl | (simp;done) | (simp [*];done)),H',⟨by have:=HK1.out;omega⟩,by repeat (first | exact Drawn0.refl _ | apply Drawn0.step)⟩
def sl_Contains_int_int.f (k : Nat) (l0 : List Int) (a1 : Int) : Option (Bool):=(sl_Index_int_int.f k l0 a1).bind fun t116=>(some (decide (t116 ≥ 0)))
theorem sl_Contains_int_int.calls (k : Nat) (A0 : Option Addr) (c0 : Nat) (l0 : List Int) (a1 : Int) (r : Bool) (w : World) (hr0 : Kd.C (Kd.int .i64) w A0 l0.length l0) (hc0 : l0.length≤c0) (h : sl_Contains_int_int.f k l0 a1 = some r) :
 Calls Tryz.prog 81 #[.slice A0 l0.length c0,.int .i64 a1] w fun e w'=>e = .returned (.bool r)∧Drawn0 w w':=by
 have HR0:=am hr0
 have HC0:=am hc0
 clear hr0 hc0
 have H : ((sl_Index_int_int.f k l0 a1).bind fun t116=>(some (decide (t116 ≥ 0)))) = some r:=h
 clear h
 replace H:=obm H
 obtain ⟨t116,A30,H⟩:=H
 replace H : (some (decide (t116 ≥ 0))) = some r:=H
 have A3:=am A30
 clear A30
 obtain rfl:=Option.some.inj H
 go_enter Tryz.func81,Tryz.ntmps81
 go_wp2_with (first | ((with_reducible refine ga_callee (f:=111) rfl ?_);refine goesL_ (some 7) rfl rfl Tryz.func111 (by kernel_rfl) rfl #[.slice A0 l0.length c0,.int .i64 a1] rfl (by (try simp only [List.map_toArray,List.map_cons,List.map_nil]);first | done | rfl | (simp only [List.length_drop,List.length_take];rfl)) ?_;(refine (sl_Index_int_int.calls k _ _ l0 a1 t116 _ ?side1 ?side2 A3.out).mono ?_);(case side1=>repeat (first | exact HR0.out | (with_reducible refine Kd.C_alloc ?_ _) | (with_reducible refine Kd.C_drewN ?_ _) | (with_reducible refine Kd.C_drew ?_)));(case side2=>exact HC0.out);rintro e w' ⟨rfl,⟨nd,rfl⟩⟩;refine ⟨_,rfl,?_⟩))
 go_ret
 exact ⟨by first | rfl | (simp;done) | (simp [*];done),by repeat (first | exact Drawn0.refl _ | apply Drawn0.step)⟩
def gs_carries.f (k : Nat) (l0_0 : List (S37)) (l0_1 : List (S65)) (l0_2 : List Int) (a1 : Int) : Option (Int):=if 0≤a1 then (if a1 < (l0_1.length : Int) then (if ((rd_T65 l0_1 a1).f3 = true) then ((sl_Contains_int_int.f k l0_2 a1).bind fun t120=>(if t120 = true then (some ((rd_T65 l0_1 a1).f2)) else (some 0))) else (some ((rd_T65 l0_1 a1).f2))) else (none)) else (none)
theorem gs_carries.calls (k : Nat) (A0_0 : Option Addr) (c0_0 : Nat) (l0_0 : List (S37)) (A0_1 : Option Addr) (c0_1 : Nat) (l0_1 : List (S65)) (A0_2 : Option Addr) (c0_2 : Nat) (l0_2 : List Int) (a1 : Int) (r : Int) (w : World) (hr0_0 : Kd.C k37 w A0_0 l0_0.length l0_0) (hc0_0 : l0_0.length≤c0_0) (hr0_1 : Kd.C k65 w A0_1 l0_1.length l0_1) (hc0_1 : l0_1.length≤c0_1) (hr0_2 : Kd.C (Kd.int .i64) w A0_2 l0_2.length l0_2) (hc0_2 : l0_2.length≤c0_2) (h : gs_carries.f k l0_0 l0_1 l0_2 a1 = some r) :
 Calls Tryz.prog 60 #[.agg #[.slice A0_0 l0_0.length c0_0,.slice A0_1 l0_1.length c0_1,.slice A0_2 l0_2.length c0_2],.int .i64 a1] w fun e w'=>e = .returned (.int .i64 r)∧Below w.heap.size w w':=by
 have hu80:=Tryz.underlying80
 have hu65:=Tryz.underlying65
 have HR0_0:=am hr0_0
 have HC0_0:=am hc0_0
 clear hr0_0 hc0_0
 have HR0_1:=am hr0_1
 have HC0_1:=am hc0_1
 clear hr0_1 hc0_1
 have HR0_2:=am hr0_2
 have HC0_2:=am hc0_2
 clear hr0_2 hc0_2
 have HB:=am (Below.refl w.heap.size w)
 have H : (if 0≤a1 then (if a1 < (l0_1.length : Int) then (if ((rd_T65 l0_1 a1).f3 = true) then ((sl_Contains_int_int.f k l0_2 a1).bind fun t120=>(if t120 = true then (some ((rd_T65 l0_1 a1).f2)) else (some 0))) else (some ((rd_T65 l0_1 a1).f2))) else (none)) else (none)) = some r:=h
 clear h
 by_cases c3 : 0≤a1
 case neg =>
  rw [if_neg c3] at H
  exact absurd H (by simp)
 rw [if_pos c3] at H
 have c3b0 : decide (0≤a1) = true:=decide_eq_true c3
 clear c3
 by_cases c4 : a1 < (l0_1.length : Int)
 case neg =>
  rw [if_neg c4] at H
  exact absurd H (by simp)
 rw [if_pos c4] at H
 have c4b0 : decide (a1 < (l0_1.length : Int)) = true:=decide_eq_true c4
 clear c4
 obtain ⟨bq5,hbq5⟩ : ∃ b_ : Bool,b_ = ((rd_T65 l0_1 a1).f3):=⟨_,rfl⟩
 replace H : (if (bq5 = true) then ((sl_Contains_int_int.f k l0_2 a1).bind fun t120=>(if t120 = true then (some ((rd_T65 l0_1 a1).f2)) else (some 0))) else (some ((rd_T65 l0_1 a1).f2))) = some r:=by rw [← hbq5] at H;exact H
 have Nbq5:=am hbq5
 clear hbq5
 by_cases c6 : (bq5 = true)
 case neg =>
  replace c6:=Bool.eq_false_iff.mpr c6
  subst c6
  replace H : (some ((rd_T65 l0_1 a1).f2)) = some r:=by rw [if_neg (show ¬ (false = true) by decide)] at H;exact H
  obtain rfl:=Option.some.inj H
  go_enter Tryz.func60,Tryz.ntmps60
  go_wp2_with (first | ((with_reducible refine ga_dst (N:=2) rfl ?_);refine box_event ?hg (N:=2) ?hd (cs:=#[.slice A0_0 l0_0.length c0_0,.slice A0_1 l0_1.length c0_1,.slice A0_2 l0_2.length c0_2]) (t:=80) ?hr ?_;(case hd=>rfl);(case hg=>rfl);(case hr=>go_simp;try rfl);intro gb117 hg w21 hbox hb;have BK117:=am (hbox);have GW117:=am (ge_new (HB.out) hg);have GE117:=am (ge_new (HB.out) hg);replace HB:=am (below_step (HB.out) hb);clear hb hbox hg;obtain ⟨hcz22_0,hcz22_1,hcz22_2⟩:=cO3 BK117.out;have hfz22_0:=blk_frozen BK117.out 0;have hfz22_1:=blk_frozen BK117.out 1;have hfz22_2:=blk_frozen BK117.out 2;have p118 : 0≤(a1 : Int):=of_decide_eq_true (by assumption);have q118 : a1 < (l0_1.length : Int):=of_decide_eq_true (by assumption);obtain ⟨ad118,e118,hx118_0,hx118_1,hx118_2,hx118_3⟩:=at_T65 HR0_1.out a1 p118 q118;(try rw [← Nbq5.out] at hx118_3);cases e118;replace hx118_0:=(HB.out.cell (wbl hx118_0)).trans hx118_0;replace hx118_1:=(HB.out.cell (wbl hx118_1)).trans hx118_1;replace hx118_2:=(HB.out.cell (wbl hx118_2)).trans hx118_2;replace hx118_3:=(HB.out.cell (wbl hx118_3)).trans hx118_3;replace p118:=eq_true p118;replace q118:=eq_true q118) | ((with_reducible refine ga_dst (N:=5) rfl ?_);refine box_event ?hg (N:=5) ?hd (cs:=#[.int .i64 0,.int .i64 0,.int .i64 0,.bool false]) (t:=65) ?hr ?_;(case hd=>rfl);(case hg=>rfl);(case hr=>go_simp;try rfl);intro gb119 hg w23 hbox hb;have BK119:=am (hbox);have GW119:=am (ge_new (HB.out) hg);have GE119:=am (ge_new (HB.out) hg);have NB117_119:=am ((by rw [hg];exact Nat.ne_of_lt (blk_lt (g:=gb117) (o:=.cells #[.slice A0_0 l0_0.length c0_0,.slice (some ad118) l0_1.length c0_1,.slice A0_2 l0_2.length c0_2] 80 (0,0)) (by (with_reducible repeat (first | refine blk_drewN ?_ _ | refine blk_drew ?_ | refine blk_alloc ?_ _));exact BK117.out)) : gb117 ≠ gb119));have NB119_117:=am ((by rw [hg];exact Nat.ne_of_gt (blk_lt (g:=gb117) (o:=.cells #[.slice A0_0 l0_0.length c0_0,.slice (some ad118) l0_1.length c0_1,.slice A0_2 l0_2.length c0_2] 80 (0,0)) (by (with_reducible repeat (first | refine blk_drewN ?_ _ | refine blk_drew ?_ | refine blk_alloc ?_ _));exact BK117.out)) : gb119 ≠ gb117));replace BK117:=am (blk_below (g:=gb117) (o:=.cells #[.slice A0_0 l0_0.length c0_0,.slice (some ad118) l0_1.length c0_1,.slice A0_2 l0_2.length c0_2] 80 (0,0)) (by (with_reducible repeat (first | refine blk_drewN ?_ _ | refine blk_drew ?_ | refine blk_alloc ?_ _));exact BK117.out) hb);replace HB:=am (below_step (HB.out) hb);clear hb hbox hg;have hnb24:=NB119_117.out;have hnc24:=NB117_119.out;obtain ⟨hcz25_0,hcz25_1,hcz25_2,hcz25_3⟩:=cO4 BK119.out;have hfz25_0:=blk_frozen BK119.out 0;have hfz25_1:=blk_frozen BK119.out 1;have hfz25_2:=blk_frozen BK119.out 2;have hfz25_3:=blk_frozen BK119.out 3))
  go_ret
  exact ⟨by first | rfl | (simp [*]<;>rfl),by repeat (first | (with_reducible first | exact HB.out | refine below_set ?_ (Aside0.out (by assumption)) | apply below_alloc | apply pw_below_drewN) | exact HB.out)⟩
 subst c6
 replace H : ((sl_Contains_int_int.f k l0_2 a1).bind fun t120=>(if t120 = true then (some ((rd_T65 l0_1 a1).f2)) else (some 0))) = some r:=by rw [if_pos rfl] at H;exact H
 replace H:=obm H
 obtain ⟨t120,A70,H⟩:=H
 replace H : (if t120 = true then (some ((rd_T65 l0_1 a1).f2)) else (some 0)) = some r:=H
 have A7:=am A70
 clear A70
 by_cases c8 : t120 = true
 ·subst c8
  replace H : (some ((rd_T65 l0_1 a1).f2)) = some r:=by rw [if_pos rfl] at H;exact H
  obtain rfl:=Option.some.inj H
  go_enter Tryz.func60,Tryz.ntmps60
  go_wp2_with (first | ((with_reducible refine ga_dst (N:=2) rfl ?_);refine box_event ?hg (N:=2) ?hd (cs:=#[.slice A0_0 l0_0.length c0_0,.slice A0_1 l0_1.length c0_1,.slice A0_2 l0_2.length c0_2]) (t:=80) ?hr ?_;(case hd=>rfl);(case hg=>rfl);(case hr=>go_simp;try rfl);intro gb117 hg w9 hbox hb;have BK117:=am (hbox);have GW117:=am (ge_new (HB.out) hg);have GE117:=am (ge_new (HB.out) hg);replace HB:=am (below_step (HB.out) hb);clear hb hbox hg;obtain ⟨hcz10_0,hcz10_1,hcz10_2⟩:=cO3 BK117.out;have hfz10_0:=blk_frozen BK117.out 0;have hfz10_1:=blk_frozen BK117.out 1;have hfz10_2:=blk_frozen BK117.out 2;have p118 : 0≤(a1 : Int):=of_decide_eq_true (by assumption);have q118 : a1 < (l0_1.length : Int):=of_decide_eq_true (by assumption);obtain ⟨ad118,e118,hx118_0,hx118_1,hx118_2,hx118_3⟩:=at_T65 HR0_1.out a1 p118 q118;(try rw [← Nbq5.out] at hx118_3);cases e118;replace hx118_0:=(HB.out.cell (wbl hx118_0)).trans hx118_0;replace hx118_1:=(HB.out.cell (wbl hx118_1)).trans hx118_1;replace hx118_2:=(HB.out.cell (wbl hx118_2)).trans hx118_2;replace hx118_3:=(HB.out.cell (wbl hx118_3)).trans hx118_3;replace p118:=eq_true p118;replace q118:=eq_true q118) | ((with_reducible refine ga_dst (N:=5) rfl ?_);refine box_event ?hg (N:=5) ?hd (cs:=#[.int .i64 0,.int .i64 0,.int .i64 0,.bool false]) (t:=65) ?hr ?_;(case hd=>rfl);(case hg=>rfl);(case hr=>go_simp;try rfl);intro gb119 hg w11 hbox hb;have BK119:=am (hbox);have GW119:=am (ge_new (HB.out) hg);have GE119:=am (ge_new (HB.out) hg);have NB117_119:=am ((by rw [hg];exact Nat.ne_of_lt (blk_lt (g:=gb117) (o:=.cells #[.slice A0_0 l0_0.length c0_0,.slice (some ad118) l0_1.length c0_1,.slice A0_2 l0_2.length c0_2] 80 (0,0)) (by (with_reducible repeat (first | refine blk_drewN ?_ _ | refine blk_drew ?_ | refine blk_alloc ?_ _));exact BK117.out)) : gb117 ≠ gb119));have NB119_117:=am ((by rw [hg];exact Nat.ne_of_gt (blk_lt (g:=gb117) (o:=.cells #[.slice A0_0 l0_0.length c0_0,.slice (some ad118) l0_1.length c0_1,.slice A0_2 l0_2.length c0_2] 80 (0,0)) (by (with_reducible repeat (first | refine blk_drewN ?_ _ | refine blk_drew ?_ | refine blk_alloc ?_ _));exact BK117.out)) : gb119 ≠ gb117));replace BK117:=am (blk_below (g:=gb117) (o:=.cells #[.slice A0_0 l0_0.length c0_0,.slice (some ad118) l0_1.length c0_1,.slice A0_2 l0_2.length c0_2] 80 (0,0)) (by (with_reducible repeat (first | refine blk_drewN ?_ _ | refine blk_drew ?_ | refine blk_alloc ?_ _));exact BK117.out) hb);replace HB:=am (below_step (HB.out) hb);clear hb hbox hg;have hnb12:=NB119_117.out;have hnc12:=NB117_119.out;obtain ⟨hcz13_0,hcz13_1,hcz13_2,hcz13_3⟩:=cO4 BK119.out;have hfz13_0:=blk_frozen BK119.out 0;have hfz13_1:=blk_frozen BK119.out 1;have hfz13_2:=blk_frozen BK119.out 2;have hfz13_3:=blk_frozen BK119.out 3;obtain ⟨hcz14_0,hcz14_1,hcz14_2⟩:=cO3 BK117.out;have hfz14_0:=blk_frozen BK117.out 0;have hfz14_1:=blk_frozen BK117.out 1;have hfz14_2:=blk_frozen BK117.out 2) | (go_at_call 81;(with_reducible refine (sl_Contains_int_int.calls k _ _ l0_2 a1 true _ ?side1 ?side2 A7.out).mono ?_);(case side1=>exact kC HR0_2.out (by repeat (first | (with_reducible first | exact HB.out | refine below_set ?_ (Aside0.out (by assumption)) | apply below_alloc | apply pw_below_drewN) | exact HB.out)));(case side2=>exact HC0_2.out);rintro e w' ⟨rfl,⟨nd,rfl⟩⟩))
  go_ret
  exact ⟨by first | rfl | (simp [*]<;>rfl),by repeat (first | (with_reducible first | exact HB.out | refine below_set ?_ (Aside0.out (by assumption)) | apply below_alloc | apply pw_below_drewN) | exact HB.out)⟩
 ·replace c8:=Bool.eq_false_iff.mpr c8
  subst c8
  replace H : (some 0) = some r:=by rw [if_neg (show ¬ (false = true) by decide)] at H;exact H
  obtain rfl:=Option.some.inj H
  go_enter Tryz.func60,Tryz.ntmps60
  go_wp2_with (first | ((with_reducible refine ga_dst (N:=2) rfl ?_);refine box_event ?hg (N:=2) ?hd (cs:=#[.slice A0_0 l0_0.length c0_0,.slice A0_1 l0_1.length c0_1,.slice A0_2 l0_2.length c0_2]) (t:=80) ?hr ?_;(case hd=>rfl);(case hg=>rfl);(case hr=>go_simp;try rfl);intro gb117 hg w15 hbox hb;have BK117:=am (hbox);have GW117:=am (ge_new (HB.out) hg);have GE117:=am (ge_new (HB.out) hg);replace HB:=am (below_step (HB.out) hb);clear hb hbox hg;obtain ⟨hcz16_0,hcz16_1,hcz16_2⟩:=cO3 BK117.out;have hfz16_0:=blk_frozen BK117.out 0;have hfz16_1:=blk_frozen BK117.out 1;have hfz16_2:=blk_frozen BK117.out 2;have p118 : 0≤(a1 : Int):=of_decide_eq_true (by assumption);have q118 : a1 < (l0_1.length : Int):=of_decide_eq_true (by assumption);obtain ⟨ad118,e118,hx118_0,hx118_1,hx118_2,hx118_3⟩:=at_T65 HR0_1.out a1 p118 q118;(try rw [← Nbq5.out] at hx118_3);cases e118;replace hx118_0:=(HB.out.cell (wbl hx118_0)).trans hx118_0;replace hx118_1:=(HB.out.cell (wbl hx118_1)).trans hx118_1;replace hx118_2:=(HB.out.cell (wbl hx118_2)).trans hx118_2;replace hx118_3:=(HB.out.cell (wbl hx118_3)).trans hx118_3;replace p118:=eq_true p118;replace q118:=eq_true q118) | ((with_reducible refine ga_dst (N:=5) rfl ?_);refine box_event ?hg (N:=5) ?hd (cs:=#[.int .i64 0,.int .i64 0,.int .i64 0,.bool false]) (t:=65) ?hr ?_;(case hd=>rfl);(case hg=>rfl);(case hr=>go_simp;try rfl);intro gb119 hg w17 hbox hb;have BK119:=am (hbox);have GW119:=am (ge_new (HB.out) hg);have GE119:=am (ge_new (HB.out) hg);have NB117_119:=am ((by rw [hg];exact Nat.ne_of_lt (blk_lt (g:=gb117) (o:=.cells #[.slice A0_0 l0_0.length c0_0,.slice (some ad118) l0_1.length c0_1,.slice A0_2 l0_2.length c0_2] 80 (0,0)) (by (with_reducible repeat (first | refine blk_drewN ?_ _ | refine blk_drew ?_ | refine blk_alloc ?_ _));exact BK117.out)) : gb117 ≠ gb119));have NB119_117:=am ((by rw [hg];exact Nat.ne_of_gt (blk_lt (g:=gb117) (o:=.cells #[.slice A0_0 l0_0.length c0_0,.slice (some ad118) l0_1.length c0_1,.slice A0_2 l0_2.length c0_2] 80 (0,0)) (by (with_reducible repeat (first | refine blk_drewN ?_ _ | refine blk_drew ?_ | refine blk_alloc ?_ _));exact BK117.out)) : gb119 ≠ gb117));replace BK117:=am (blk_below (g:=gb117) (o:=.cells #[.slice A0_0 l0_0.length c0_0,.slice (some ad118) l0_1.length c0_1,.slice A0_2 l0_2.length c0_2] 80 (0,0)) (by (with_reducible repeat (first | refine blk_drewN ?_ _ | refine blk_drew ?_ | refine blk_alloc ?_ _));exact BK117.out) hb);replace HB:=am (below_step (HB.out) hb);clear hb hbox hg;have hnb18:=NB119_117.out;have hnc18:=NB117_119.out;obtain ⟨hcz19_0,hcz19_1,hcz19_2,hcz19_3⟩:=cO4 BK119.out;have hfz19_0:=blk_frozen BK119.out 0;have hfz19_1:=blk_frozen BK119.out 1;have hfz19_2:=blk_frozen BK119.out 2;have hfz19_3:=blk_frozen BK119.out 3;obtain ⟨hcz20_0,hcz20_1,hcz20_2⟩:=cO3 BK117.out;have hfz20_0:=blk_frozen BK117.out 0;have hfz20_1:=blk_frozen BK117.out 1;have hfz20_2:=blk_frozen BK117.out 2) | (go_at_call 81;(with_reducible refine (sl_Contains_int_int.calls k _ _ l0_2 a1 false _ ?side1 ?side2 A7.out).mono ?_);(case side1=>exact kC HR0_2.out (by repeat (first | (with_reducible first | exact HB.out | refine below_set ?_ (Aside0.out (by assumption)) | apply below_alloc | apply pw_below_drewN) | exact HB.out)));(case side2=>exact HC0_2.out);rintro e w' ⟨rfl,⟨nd,rfl⟩⟩))
  go_ret
  exact ⟨by first | rfl | (simp [*]<;>rfl),by repeat (first | (with_reducible first | exact HB.out | refine below_set ?_ (Aside0.out (by assumption)) | apply below_alloc | apply pw_below_drewN) | exact HB.out)⟩
def ga_sum.l0 : Nat→Int→List Int→Int→Int→Option (Int)
 | 0,_,_,_,_=>none
 | k + 1,x3,x6,x7,x8=>if x8 < x7 then (if 0≤x8 then (if x8 < (x6.length : Int) then (ga_sum.l0 k (wrap64 (x3 + (rd x6 x8))) x6 x7 (wrap64 (x8 + 1))) else (none)) else (none)) else (some x3)
def ga_sum.f (k : Nat) (l0 : List Int) : Option (Int):=ga_sum.l0 k 0 l0 (l0.length : Int) 0
theorem ga_sum.calls (k : Nat) (A0 : Option Addr) (c0 : Nat) (l0 : List Int) (r : Int) (w : World) (hr0 : Kd.C (Kd.int .i64) w A0 l0.length l0) (hc0 : l0.length≤c0) (h : ga_sum.f k l0 = some r) :
 Calls Tryz.prog 125 #[.slice A0 l0.length c0] w fun e w'=>e = .returned (.int .i64 r)∧Drawn0 w w':=by
 have HR0:=am hr0
 have HC0:=am hc0
 clear hr0 hc0
 have H : (ga_sum.l0 k 0 l0 (l0.length : Int) 0) = some r:=h
 clear h
 replace H':=am H
 go_enter Tryz.func125,Tryz.ntmps125
 go_wp2
 go_loopg [3,8] k (fun kq v3 v8 w'=>∃ (x3_1 : Int) (x8_1 : Int),v3 = .int .i64 x3_1∧v8 = .int .i64 x8_1∧Aside0 (ga_sum.l0 kq x3_1 l0 (l0.length : Int) x8_1 = some r)∧Aside0 (kq≤k)∧Drawn0 w w')
 case atStart=>exact ⟨(0),(0),(by first | rfl | (simp;done) | (simp [*];done)),(by first | rfl | (simp;done) | (simp [*];done)),H',⟨Nat.le_refl _⟩,by repeat (first | exact Drawn0.refl _ | apply Drawn0.step)⟩
 case round =>
  clear H'
  obtain ⟨x3_1,x8_1,rfl,rfl,HA,HK1,⟨m1,rfl⟩⟩:=hrel
  cases gk with
  | zero=>exact absurd HA.out (by simp [ga_sum.l0])
  | succ k1 =>
   have H:=HA.out
   clear HA
   simp only [ga_sum.l0] at H
   by_cases c2 : x8_1 < (l0.length : Int)
   case neg =>
    rw [if_neg c2] at H
    have c2b0 : decide (x8_1 < (l0.length : Int)) = false:=decide_eq_false c2
    clear c2
    obtain rfl:=Option.some.inj H
    go_wp2
    go_ret
    exact ⟨by first | rfl | (simp;done) | (simp [*];done),by repeat (first | exact Drawn0.refl _ | apply Drawn0.step)⟩
   rw [if_pos c2] at H
   have c2b0 : decide (x8_1 < (l0.length : Int)) = true:=decide_eq_true c2
   clear c2
   by_cases c3 : 0≤x8_1
   case neg =>
    rw [if_neg c3] at H
    exact absurd H (by simp)
   rw [if_pos c3] at H
   have c3b0 : decide (0≤x8_1) = true:=decide_eq_true c3
   clear c3
   by_cases c4 : x8_1 < (l0.length : Int)
   case neg =>
    rw [if_neg c4] at H
    exact absurd H (by simp)
   rw [if_pos c4] at H
   have c4b0 : decide (x8_1 < (l0.length : Int)) = true:=decide_eq_true c4
   clear c4
   replace H':=am H
   have p730 : 0≤(x8_1 : Int):=of_decide_eq_true (by assumption)
   have q730 : x8_1 < (l0.length : Int):=of_decide_eq_true (by assumption)
   obtain ⟨ad730,e730,hx730_0⟩:=Kd.at_int HR0.out x8_1 p730 q730
   cases e730
   replace p730:=eq_true p730
   replace q730:=eq_true q730
   go_wp2
   go_roundg k1
   case measure=>have:=HK1.out;omega
   case rel=>exact ⟨(wrap64 (x3_1 + (rd l0 x8_1))),(wrap64 (x8_1 + 1)),(by first | rfl | (simp;done) | (simp [*];done)),(by first | rfl | (simp;done) | (simp [*];done)),H',⟨by have:=HK1.out;omega⟩,by repeat (first | exact Drawn0.refl _ | apply Drawn0.step)⟩
end Go.Proofs.YtclkbedbocnpkaaGreatDoor.C

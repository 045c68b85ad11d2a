/- A part of the proof: the walks of the functions that it reaches. TIGHT. -/
import Derived.Test.YtnnmnhpeblhiiaaGreatDoorMC2
import Derived.Test.YtnnmnhpeblhiiaaGreatDoorProg
import Derived.Test.YtnnmnhpeblhiiaaGreatDoorRows
import Derived.Below
import Derived.Deep.Draws
import Derived.Deep.AppendLies
import Derived.Maps.AppendAt
import Derived.OwnWalk
import Derived.Laws.BytesArg
import Derived.Laws.MakeOwn
import Derived.Laws.OwnMore
import Derived.Deep.OwnRows
import Derived.Tactics
import Derived.Lib.ConvBytes
import Derived.Laws.Slices
import Derived.WalkKit
import Derived.KernelRfl
import Derived.RowKit3
import Derived.Deep.LoopGhost
import Derived.Deep.QuietTactic
import Derived.BigQuiet
import Derived.WideLaws
import Derived.Deep.DeepCutAuto
import Derived.Deep.CutBlock
import Derived.Deep.RegionHeld3
import Derived.Laws.Rows
import Derived.Lib.AppendStr
import Derived.ArgAppend
import Derived.Laws.IdiomCopy
import Derived.OrdersHeld
import Derived.Laws.BitsLemmas
import Derived.RowKit
import Derived.ProofKit
import Derived.OpenShut
import Derived.ChangeOld
import Derived.Carry
import Derived.Lib.SmallJoins
import Derived.Deep.Slices
import Derived.Lib.LaidTab
import Derived.LaidMore
import Derived.Lay
import Derived.Stop.Joined
set_option linter.unusedVariables false
set_option linter.unusedSimpArgs false
namespace Go.Proofs.YtnnmnhpeblhiiaaGreatDoor.C
open Go.RowKit Go.Proofs.YtnnmnhpeblhiiaaGreatDoorW.PrintWords Go.Proofs.YtnnmnhpeblhiiaaGreatDoorW.PrintLast
set_option linter.unusedVariables false
set_option linter.unusedSimpArgs false
set_option maxHeartbeats 16000000
set_option maxRecDepth 100000
theorem cO1 {W : World} {g t : Nat} {v0 : Value} {r : List Value} (h : W.heap[g]? = some (.cells (v0 :: r).toArray t (0,0))) : W.cell? ⟨g,0,none⟩ = some v0 := by
 exact (blk_cell h _).trans rfl
theorem cO2 {W : World} {g t : Nat} {v0 v1 : Value} {r : List Value} (h : W.heap[g]? = some (.cells (v0 :: v1 :: r).toArray t (0,0))) : W.cell? ⟨g,0,none⟩ = some v0 ∧ W.cell? ⟨g,1,none⟩ = some v1 := by
 refine ⟨?_,?_⟩ <;> exact (blk_cell h _).trans rfl
theorem cO3 {W : World} {g t : Nat} {v0 v1 v2 : Value} {r : List Value} (h : W.heap[g]? = some (.cells (v0 :: v1 :: v2 :: r).toArray t (0,0))) : W.cell? ⟨g,0,none⟩ = some v0 ∧ W.cell? ⟨g,1,none⟩ = some v1 ∧ W.cell? ⟨g,2,none⟩ = some v2 := by
 refine ⟨?_,?_,?_⟩ <;> exact (blk_cell h _).trans rfl
theorem cO4 {W : World} {g t : Nat} {v0 v1 v2 v3 : Value} {r : List Value} (h : W.heap[g]? = some (.cells (v0 :: v1 :: v2 :: v3 :: r).toArray t (0,0))) : W.cell? ⟨g,0,none⟩ = some v0 ∧ W.cell? ⟨g,1,none⟩ = some v1 ∧ W.cell? ⟨g,2,none⟩ = some v2 ∧ W.cell? ⟨g,3,none⟩ = some v3 := by
 refine ⟨?_,?_,?_,?_⟩ <;> exact (blk_cell h _).trans rfl
theorem cO5 {W : World} {g t : Nat} {v0 v1 v2 v3 v4 : Value} {r : List Value} (h : W.heap[g]? = some (.cells (v0 :: v1 :: v2 :: v3 :: v4 :: r).toArray t (0,0))) : W.cell? ⟨g,0,none⟩ = some v0 ∧ W.cell? ⟨g,1,none⟩ = some v1 ∧ W.cell? ⟨g,2,none⟩ = some v2 ∧ W.cell? ⟨g,3,none⟩ = some v3 ∧ W.cell? ⟨g,4,none⟩ = some v4 := by
 refine ⟨?_,?_,?_,?_,?_⟩ <;> exact (blk_cell h _).trans rfl
theorem cO6 {W : World} {g t : Nat} {v0 v1 v2 v3 v4 v5 : Value} {r : List Value} (h : W.heap[g]? = some (.cells (v0 :: v1 :: v2 :: v3 :: v4 :: v5 :: r).toArray t (0,0))) : W.cell? ⟨g,0,none⟩ = some v0 ∧ W.cell? ⟨g,1,none⟩ = some v1 ∧ W.cell? ⟨g,2,none⟩ = some v2 ∧ W.cell? ⟨g,3,none⟩ = some v3 ∧ W.cell? ⟨g,4,none⟩ = some v4 ∧ W.cell? ⟨g,5,none⟩ = some v5 := by
 refine ⟨?_,?_,?_,?_,?_,?_⟩ <;> exact (blk_cell h _).trans rfl
theorem cO7 {W : World} {g t : Nat} {v0 v1 v2 v3 v4 v5 v6 : Value} {r : List Value} (h : W.heap[g]? = some (.cells (v0 :: v1 :: v2 :: v3 :: v4 :: v5 :: v6 :: r).toArray t (0,0))) : W.cell? ⟨g,0,none⟩ = some v0 ∧ W.cell? ⟨g,1,none⟩ = some v1 ∧ W.cell? ⟨g,2,none⟩ = some v2 ∧ W.cell? ⟨g,3,none⟩ = some v3 ∧ W.cell? ⟨g,4,none⟩ = some v4 ∧ W.cell? ⟨g,5,none⟩ = some v5 ∧ W.cell? ⟨g,6,none⟩ = some v6 := by
 refine ⟨?_,?_,?_,?_,?_,?_,?_⟩ <;> exact (blk_cell h _).trans rfl
theorem ne_new {W : World} {g g' : Nat} {o : Obj} (h : W.heap[g]? = some o) (hg : g' = W.heap.size) : g ≠ g' := by
 rw [hg];exact Nat.ne_of_lt (blk_lt h)
theorem ne_new2 {W : World} {g g' : Nat} {o : Obj} (h : W.heap[g]? = some o) (hg : g' = W.heap.size) : g' ≠ g := (ne_new h hg).symm
theorem ge_new {w W : World} {g' : Nat} (h : Below w.heap.size w W) (hg : g' = W.heap.size) : w.heap.size ≤ g' := by
 rw [hg];exact below_size h
theorem am {p : Prop} (h : p) : Aside0 p := ⟨h⟩
theorem bmv {w W W2 : World} (h : Aside0 (Below w.heap.size w W)) (k : Below W.heap.size W W2) : Aside0 (Below w.heap.size w W2) := ⟨below_step h.out k⟩
theorem kmv {W W2 : World} {g : Nat} {t : TypeId} {cs : Array Value} (k : Below W.heap.size W W2) (h : Aside0 (W.heap[g]? = some (.cells cs t (0,0)))) : Aside0 (W2.heap[g]? = some (.cells cs t (0,0))) := ⟨blk_below h.out k⟩
theorem cmv {α : Type} {d : Kd α} {W W2 : World} {A : Option Addr} {n : Nat} {xs : List α} (h : Aside0 (d.C W A n xs)) (k : Below W.heap.size W W2) : Aside0 (d.C W2 A n xs) := ⟨Kd.C_below h.out k⟩
theorem NRM : (∀ (α : Type) (l : List α) (i : Nat) (a : α),l.toArray.setIfInBounds i a = (l.set i a).toArray) ∧ (∀ (α : Type) (a b : α) (l : List α),(a :: l).set 0 b = b :: l) ∧ (∀ (α : Type) (a b : α) (l : List α) (n : Nat),(a :: l).set (n + 1) b = a :: l.set n b) ∧ (∀ n,IntKind.i64.wrap n = wrap64 n) ∧ (∀ n,IntKind.i32.wrap n = Go.RowKit.wrap32 n) :=
 ⟨fun _ _ _ _ => by simp,fun _ _ _ _ => rfl,fun _ _ _ _ _ => rfl,i64_w,i32_w⟩
def bl : Nat → Nat → List Bool
 | 0,_ => []
 | n + 1,k => (k % 2 == 1) :: bl n (k / 2)
def ba (n k : Nat) : Array Bool := (bl n k).toArray
theorem kC {α : Type} {d : Kd α} {W W2 : World} {A : Option Addr} {n : Nat} {xs : List α} (h : d.C W A n xs) (k : Below W.heap.size W W2) : d.C W2 A n xs := Kd.C_below h k
theorem wbl {w : World} {a : Addr} {v : Value} (h : w.cell? a = some v) : a.block < w.heap.size := World.block_lt_of_cell? w _ h
theorem obm {α β : Type} {o : Option α} {f : α → Option β} {b : β} (h : o.bind f = some b) : ∃ a,o = some a ∧ f a = some b := Option.bind_eq_some_iff.mp h
theorem NR3 : (∀ (α : Type) (l : List α) (i : Nat) (a : α),l.toArray.setIfInBounds i a = (l.set i a).toArray) ∧ (∀ (α : Type) (a b : α) (l : List α),(a :: l).set 0 b = b :: l) ∧ (∀ (α : Type) (a b : α) (l : List α) (n : Nat),(a :: l).set (n + 1) b = a :: l.set n b) := ⟨NRM.1,NRM.2.1,NRM.2.2.1⟩
end Go.Proofs.YtnnmnhpeblhiiaaGreatDoor.C
namespace Go.Proofs.YtnnmnhpeblhiiaaGreatDoor.C
open Go.RowKit Go.Proofs.YtnnmnhpeblhiiaaGreatDoorW.PrintWords Go.Proofs.YtnnmnhpeblhiiaaGreatDoorW.PrintLast Go.Proofs.YtnnmnhpeblhiiaaGreatDoorW.PrintMore
set_option linter.unusedVariables false
set_option linter.unusedSimpArgs false
set_option maxHeartbeats 16000000
set_option maxRecDepth 100000
section
attribute [local go_sem] max2_int min2_int max_two min_two
def errW : Option Int → Value
 | none => .nilIface
 | some c => .iface 0 (.int .i64 c)
theorem info3 : (Tryz.prog.info? 3).map (fun i => (i.zero,i.size,i.bytes)) = some (some (.int .i64 0),1,8) := by kernel_rfl
theorem info28 : (Tryz.prog.info? 28).map (fun i => (i.zero,i.size,i.bytes)) = some (some (.slice none 0 0),1,24) := by kernel_rfl
structure S126 where
 f0 : Int
 f1 : Int
 f2 : Int
def z126 : S126 := ⟨(0 : Int),(0 : Int),(0 : Int)⟩
def k126 : Kd S126 := Kd.iso (Kd.pair (Kd.int .i64) (Kd.pair (Kd.int .i64) (Kd.int .i64))) (fun x : S126 => (x.f0,x.f1,x.f2))
theorem k126_open {w : World} {x : S126} {cs : List Value} (h : k126.K w x cs) : cs = [.int .i64 x.f0,.int .i64 x.f1,.int .i64 x.f2] := by
 obtain ⟨_,_,rfl,rfl,⟨_,_,rfl,rfl,rfl⟩⟩ := h
 exact rfl
theorem k126_mk (w : World) (x : S126)  : k126.K w x [.int .i64 x.f0,.int .i64 x.f1,.int .i64 x.f2] := ⟨[.int .i64 x.f0],[.int .i64 x.f1,.int .i64 x.f2],rfl,rfl,⟨[.int .i64 x.f1],[.int .i64 x.f2],rfl,rfl,rfl⟩⟩
def rd_T126 (xs : List S126) (i : Int) : S126 := xs.getD i.toNat z126
theorem at_T126 {w : World} {A : Option Addr} {n : Nat} {xs : List S126} (h : Kd.C k126 w A n xs) (i : Int) (h0 : 0 ≤ i) (h1 : i < n) : ∃ ad , A = some ad ∧ w.cell? (ad.add (i.toNat * 3)) = some (.int .i64 (rd_T126 xs i).f0) ∧ w.cell? ⟨(ad.add (i.toNat * 3)).block,(ad.add (i.toNat * 3)).off + 1,none⟩ = some (.int .i64 (rd_T126 xs i).f1) ∧ w.cell? ⟨(ad.add (i.toNat * 3)).block,(ad.add (i.toNat * 3)).off + 2,none⟩ = some (.int .i64 (rd_T126 xs i).f2) := by
 obtain ⟨ad,c,e,_,hK,hc0⟩ := Kd.C_get h z126 i h0 h1
 have hc : ∀ j u,c[j]? = some u → w.cell? (ad.add (i.toNat * 3 + j)) = some u := hc0
 obtain rfl := k126_open hK
 exact ⟨ad,e,hc 0 _ rfl,by rw [← add_field _ _ 1 (by omega)];exact hc 1 _ rfl,by rw [← add_field _ _ 2 (by omega)];exact hc 2 _ rfl⟩
def rd_L3 (xs : List (List Int)) (i : Int) : (List Int) := xs.getD i.toNat ([] : List Int)
theorem at_L3 {w : World} {A : Option Addr} {n : Nat} {xs : List (List Int)} (h : Kd.C (Kd.slice 3 (Kd.int .i64)) w A n xs) (i : Int) (h0 : 0 ≤ i) (h1 : i < n) : ∃ ad A0 c0,A = some ad ∧ w.cell? (ad.add i.toNat) = some (.slice A0 (rd_L3 xs i).length c0) ∧ (rd_L3 xs i).length ≤ c0 ∧ (Kd.int .i64).C w A0 (rd_L3 xs i).length (rd_L3 xs i) := by
 obtain ⟨ad,c,e,_,hK,hc0⟩ := Kd.C_get h ([] : List Int) i h0 h1
 have hc : ∀ j u,c[j]? = some u → w.cell? (ad.add (i.toNat * 1 + j)) = some u := hc0
 obtain ⟨A0,c0,rfl,l0,g0⟩ := hK
 exact ⟨ad,A0,c0,e,by have hq := hc 0 _ rfl;rwa [Nat.mul_one,Nat.add_zero] at hq,l0,g0⟩
structure S24 where
 f0 : (List S126)
 f1 : Int
def z24 : S24 := ⟨([] : List S126),(0 : Int)⟩
def k24 : Kd S24 := Kd.iso (Kd.pair (Kd.slice 126 k126) (Kd.int .i64)) (fun x : S24 => (x.f0,x.f1))
theorem k24_open {w : World} {x : S24} {cs : List Value} (h : k24.K w x cs) : ∃ A0 c0,cs = [.slice A0 x.f0.length c0,.int .i64 x.f1] ∧ x.f0.length ≤ c0 ∧ k126.C w A0 x.f0.length x.f0 := by
 obtain ⟨_,_,rfl,⟨A0,c0,rfl,l0,g0⟩,rfl⟩ := h
 exact ⟨A0,c0,rfl,l0,g0⟩
theorem k24_mk (w : World) (x : S24) {A0 : Option Addr} {c0 : Nat} (l0 : x.f0.length ≤ c0) (g0 : k126.C w A0 x.f0.length x.f0) : k24.K w x [.slice A0 x.f0.length c0,.int .i64 x.f1] := ⟨[.slice A0 x.f0.length c0],[.int .i64 x.f1],rfl,⟨A0,c0,rfl,l0,g0⟩,rfl⟩
structure S48 where
 f0 : Int
 f1 : Int
def z48 : S48 := ⟨(0 : Int),(0 : Int)⟩
def k48 : Kd S48 := Kd.iso (Kd.pair (Kd.int .i64) (Kd.int .i64)) (fun x : S48 => (x.f0,x.f1))
theorem k48_open {w : World} {x : S48} {cs : List Value} (h : k48.K w x cs) : cs = [.int .i64 x.f0,.int .i64 x.f1] := by
 obtain ⟨_,_,rfl,rfl,rfl⟩ := h
 exact rfl
theorem k48_mk (w : World) (x : S48)  : k48.K w x [.int .i64 x.f0,.int .i64 x.f1] := ⟨[.int .i64 x.f0],[.int .i64 x.f1],rfl,rfl,rfl⟩
def rd_T48 (xs : List S48) (i : Int) : S48 := xs.getD i.toNat z48
theorem at_T48 {w : World} {A : Option Addr} {n : Nat} {xs : List S48} (h : Kd.C k48 w A n xs) (i : Int) (h0 : 0 ≤ i) (h1 : i < n) : ∃ ad , A = some ad ∧ w.cell? (ad.add (i.toNat * 2)) = some (.int .i64 (rd_T48 xs i).f0) ∧ w.cell? ⟨(ad.add (i.toNat * 2)).block,(ad.add (i.toNat * 2)).off + 1,none⟩ = some (.int .i64 (rd_T48 xs i).f1) := by
 obtain ⟨ad,c,e,_,hK,hc0⟩ := Kd.C_get h z48 i h0 h1
 have hc : ∀ j u,c[j]? = some u → w.cell? (ad.add (i.toNat * 2 + j)) = some u := hc0
 obtain rfl := k48_open hK
 exact ⟨ad,e,hc 0 _ rfl,by rw [← add_field _ _ 1 (by omega)];exact hc 1 _ rfl⟩
structure S27 where
 f0 : S24
 f1 : (List S48)
 f2 : Int
 f3 : Int
def z27 : S27 := ⟨z24,([] : List S48),(0 : Int),(0 : Int)⟩
def k27 : Kd S27 := Kd.iso (Kd.pair k24 (Kd.pair (Kd.slice 48 k48) (Kd.pair (Kd.int .i64) (Kd.int .i64)))) (fun x : S27 => (x.f0,x.f1,x.f2,x.f3))
theorem k27_open {w : World} {x : S27} {cs : List Value} (h : k27.K w x cs) : ∃ A0 c0 A2 c2,cs = [.slice A0 x.f0.f0.length c0,.int .i64 x.f0.f1,.slice A2 x.f1.length c2,.int .i64 x.f2,.int .i64 x.f3] ∧ x.f0.f0.length ≤ c0 ∧ k126.C w A0 x.f0.f0.length x.f0.f0 ∧ x.f1.length ≤ c2 ∧ k48.C w A2 x.f1.length x.f1 := by
 obtain ⟨_,_,rfl,s0,⟨_,_,rfl,⟨A2,c2,rfl,l2,g2⟩,⟨_,_,rfl,rfl,rfl⟩⟩⟩ := h
 obtain ⟨A0,c0,rfl,l0,g0⟩ := k24_open s0
 exact ⟨A0,c0,A2,c2,rfl,l0,g0,l2,g2⟩
theorem k27_mk (w : World) (x : S27) {A0 : Option Addr} {c0 : Nat} (l0 : x.f0.f0.length ≤ c0) (g0 : k126.C w A0 x.f0.f0.length x.f0.f0) {A2 : Option Addr} {c2 : Nat} (l2 : x.f1.length ≤ c2) (g2 : k48.C w A2 x.f1.length x.f1) : k27.K w x [.slice A0 x.f0.f0.length c0,.int .i64 x.f0.f1,.slice A2 x.f1.length c2,.int .i64 x.f2,.int .i64 x.f3] := ⟨[.slice A0 x.f0.f0.length c0,.int .i64 x.f0.f1],[.slice A2 x.f1.length c2,.int .i64 x.f2,.int .i64 x.f3],rfl,(k24_mk w x.f0 l0 g0),⟨[.slice A2 x.f1.length c2],[.int .i64 x.f2,.int .i64 x.f3],rfl,⟨A2,c2,rfl,l2,g2⟩,⟨[.int .i64 x.f2],[.int .i64 x.f3],rfl,rfl,rfl⟩⟩⟩
def rd_T27 (xs : List S27) (i : Int) : S27 := xs.getD i.toNat z27
theorem at_T27 {w : World} {A : Option Addr} {n : Nat} {xs : List S27} (h : Kd.C k27 w A n xs) (i : Int) (h0 : 0 ≤ i) (h1 : i < n) : ∃ ad A0 c0 A2 c2,A = some ad ∧ w.cell? (ad.add (i.toNat * 5)) = some (.slice A0 (rd_T27 xs i).f0.f0.length c0) ∧ w.cell? ⟨(ad.add (i.toNat * 5)).block,(ad.add (i.toNat * 5)).off + 1,none⟩ = some (.int .i64 (rd_T27 xs i).f0.f1) ∧ w.cell? ⟨(ad.add (i.toNat * 5)).block,(ad.add (i.toNat * 5)).off + 2,none⟩ = some (.slice A2 (rd_T27 xs i).f1.length c2) ∧ w.cell? ⟨(ad.add (i.toNat * 5)).block,(ad.add (i.toNat * 5)).off + 3,none⟩ = some (.int .i64 (rd_T27 xs i).f2) ∧ w.cell? ⟨(ad.add (i.toNat * 5)).block,(ad.add (i.toNat * 5)).off + 4,none⟩ = some (.int .i64 (rd_T27 xs i).f3) ∧ (rd_T27 xs i).f0.f0.length ≤ c0 ∧ k126.C w A0 (rd_T27 xs i).f0.f0.length (rd_T27 xs i).f0.f0 ∧ (rd_T27 xs i).f1.length ≤ c2 ∧ k48.C w A2 (rd_T27 xs i).f1.length (rd_T27 xs i).f1 := by
 obtain ⟨ad,c,e,_,hK,hc0⟩ := Kd.C_get h z27 i h0 h1
 have hc : ∀ j u,c[j]? = some u → w.cell? (ad.add (i.toNat * 5 + j)) = some u := hc0
 obtain ⟨A0,c0,A2,c2,rfl,l0,g0,l2,g2⟩ := k27_open hK
 exact ⟨ad,A0,c0,A2,c2,e,hc 0 _ rfl,by rw [← add_field _ _ 1 (by omega)];exact hc 1 _ rfl,by rw [← add_field _ _ 2 (by omega)];exact hc 2 _ rfl,by rw [← add_field _ _ 3 (by omega)];exact hc 3 _ rfl,by rw [← add_field _ _ 4 (by omega)];exact hc 4 _ rfl,l0,g0,l2,g2⟩
structure S110 where
 f0 : S27
 f1 : (List (List Int))
def z110 : S110 := ⟨z27,([] : List (List Int))⟩
def k110 : Kd S110 := Kd.iso (Kd.pair k27 (Kd.slice 28 (Kd.slice 3 (Kd.int .i64)))) (fun x : S110 => (x.f0,x.f1))
theorem k110_open {w : World} {x : S110} {cs : List Value} (h : k110.K w x cs) : ∃ A0 c0 A2 c2 A5 c5,cs = [.slice A0 x.f0.f0.f0.length c0,.int .i64 x.f0.f0.f1,.slice A2 x.f0.f1.length c2,.int .i64 x.f0.f2,.int .i64 x.f0.f3,.slice A5 x.f1.length c5] ∧ x.f0.f0.f0.length ≤ c0 ∧ k126.C w A0 x.f0.f0.f0.length x.f0.f0.f0 ∧ x.f0.f1.length ≤ c2 ∧ k48.C w A2 x.f0.f1.length x.f0.f1 ∧ x.f1.length ≤ c5 ∧ (Kd.slice 3 (Kd.int .i64)).C w A5 x.f1.length x.f1 := by
 obtain ⟨_,_,rfl,s0,⟨A5,c5,rfl,l5,g5⟩⟩ := h
 obtain ⟨A0,c0,A2,c2,rfl,l0,g0,l2,g2⟩ := k27_open s0
 exact ⟨A0,c0,A2,c2,A5,c5,rfl,l0,g0,l2,g2,l5,g5⟩
theorem k110_mk (w : World) (x : S110) {A0 : Option Addr} {c0 : Nat} (l0 : x.f0.f0.f0.length ≤ c0) (g0 : k126.C w A0 x.f0.f0.f0.length x.f0.f0.f0) {A2 : Option Addr} {c2 : Nat} (l2 : x.f0.f1.length ≤ c2) (g2 : k48.C w A2 x.f0.f1.length x.f0.f1) {A5 : Option Addr} {c5 : Nat} (l5 : x.f1.length ≤ c5) (g5 : (Kd.slice 3 (Kd.int .i64)).C w A5 x.f1.length x.f1) : k110.K w x [.slice A0 x.f0.f0.f0.length c0,.int .i64 x.f0.f0.f1,.slice A2 x.f0.f1.length c2,.int .i64 x.f0.f2,.int .i64 x.f0.f3,.slice A5 x.f1.length c5] := ⟨[.slice A0 x.f0.f0.f0.length c0,.int .i64 x.f0.f0.f1,.slice A2 x.f0.f1.length c2,.int .i64 x.f0.f2,.int .i64 x.f0.f3],[.slice A5 x.f1.length c5],rfl,(k27_mk w x.f0 l0 g0 l2 g2),⟨A5,c5,rfl,l5,g5⟩⟩
theorem k110_mkF (W : World) (ok : Nat → Prop) (x : S110) {A0 : Option Addr} {c0 : Nat} (l0 : x.f0.f0.f0.length ≤ c0) (g0 : Kd.F k126 W ok A0 x.f0.f0.f0.length x.f0.f0.f0) {A2 : Option Addr} {c2 : Nat} (l2 : x.f0.f1.length ≤ c2) (g2 : Kd.F k48 W ok A2 x.f0.f1.length x.f0.f1) {A5 : Option Addr} {c5 : Nat} (l5 : x.f1.length ≤ c5) (g5 : Kd.F (Kd.slice 3 (Kd.int .i64)) W ok A5 x.f1.length x.f1) : Kd.FK k110 W ok x [.slice A0 x.f0.f0.f0.length c0,.int .i64 x.f0.f0.f1,.slice A2 x.f0.f1.length c2,.int .i64 x.f0.f2,.int .i64 x.f0.f3,.slice A5 x.f1.length c5] := fun W2 hW => k110_mk W2 x l0 (g0 W2 hW) l2 (g2 W2 hW) l5 (g5 W2 hW)
def rd_T110 (xs : List S110) (i : Int) : S110 := xs.getD i.toNat z110
theorem at_T110 {w : World} {A : Option Addr} {n : Nat} {xs : List S110} (h : Kd.C k110 w A n xs) (i : Int) (h0 : 0 ≤ i) (h1 : i < n) : ∃ ad A0 c0 A2 c2 A5 c5,A = some ad ∧ w.cell? (ad.add (i.toNat * 6)) = some (.slice A0 (rd_T110 xs i).f0.f0.f0.length c0) ∧ w.cell? ⟨(ad.add (i.toNat * 6)).block,(ad.add (i.toNat * 6)).off + 1,none⟩ = some (.int .i64 (rd_T110 xs i).f0.f0.f1) ∧ w.cell? ⟨(ad.add (i.toNat * 6)).block,(ad.add (i.toNat * 6)).off + 2,none⟩ = some (.slice A2 (rd_T110 xs i).f0.f1.length c2) ∧ w.cell? ⟨(ad.add (i.toNat * 6)).block,(ad.add (i.toNat * 6)).off + 3,none⟩ = some (.int .i64 (rd_T110 xs i).f0.f2) ∧ w.cell? ⟨(ad.add (i.toNat * 6)).block,(ad.add (i.toNat * 6)).off + 4,none⟩ = some (.int .i64 (rd_T110 xs i).f0.f3) ∧ w.cell? ⟨(ad.add (i.toNat * 6)).block,(ad.add (i.toNat * 6)).off + 5,none⟩ = some (.slice A5 (rd_T110 xs i).f1.length c5) ∧ (rd_T110 xs i).f0.f0.f0.length ≤ c0 ∧ k126.C w A0 (rd_T110 xs i).f0.f0.f0.length (rd_T110 xs i).f0.f0.f0 ∧ (rd_T110 xs i).f0.f1.length ≤ c2 ∧ k48.C w A2 (rd_T110 xs i).f0.f1.length (rd_T110 xs i).f0.f1 ∧ (rd_T110 xs i).f1.length ≤ c5 ∧ (Kd.slice 3 (Kd.int .i64)).C w A5 (rd_T110 xs i).f1.length (rd_T110 xs i).f1 := by
 obtain ⟨ad,c,e,_,hK,hc0⟩ := Kd.C_get h z110 i h0 h1
 have hc : ∀ j u,c[j]? = some u → w.cell? (ad.add (i.toNat * 6 + j)) = some u := hc0
 obtain ⟨A0,c0,A2,c2,A5,c5,rfl,l0,g0,l2,g2,l5,g5⟩ := k110_open hK
 exact ⟨ad,A0,c0,A2,c2,A5,c5,e,hc 0 _ rfl,by rw [← add_field _ _ 1 (by omega)];exact hc 1 _ rfl,by rw [← add_field _ _ 2 (by omega)];exact hc 2 _ rfl,by rw [← add_field _ _ 3 (by omega)];exact hc 3 _ rfl,by rw [← add_field _ _ 4 (by omega)];exact hc 4 _ rfl,by rw [← add_field _ _ 5 (by omega)];exact hc 5 _ rfl,l0,g0,l2,g2,l5,g5⟩
structure S66 where
 f0 : Int
 f1 : Int
def z66 : S66 := ⟨(0 : Int),(0 : Int)⟩
def k66 : Kd S66 := Kd.iso (Kd.pair (Kd.int .i64) (Kd.int .i64)) (fun x : S66 => (x.f0,x.f1))
theorem k66_open {w : World} {x : S66} {cs : List Value} (h : k66.K w x cs) : cs = [.int .i64 x.f0,.int .i64 x.f1] := by
 obtain ⟨_,_,rfl,rfl,rfl⟩ := h
 exact rfl
theorem k66_mk (w : World) (x : S66)  : k66.K w x [.int .i64 x.f0,.int .i64 x.f1] := ⟨[.int .i64 x.f0],[.int .i64 x.f1],rfl,rfl,rfl⟩
def rd_T66 (xs : List S66) (i : Int) : S66 := xs.getD i.toNat z66
theorem at_T66 {w : World} {A : Option Addr} {n : Nat} {xs : List S66} (h : Kd.C k66 w A n xs) (i : Int) (h0 : 0 ≤ i) (h1 : i < n) : ∃ ad , A = some ad ∧ w.cell? (ad.add (i.toNat * 2)) = some (.int .i64 (rd_T66 xs i).f0) ∧ w.cell? ⟨(ad.add (i.toNat * 2)).block,(ad.add (i.toNat * 2)).off + 1,none⟩ = some (.int .i64 (rd_T66 xs i).f1) := by
 obtain ⟨ad,c,e,_,hK,hc0⟩ := Kd.C_get h z66 i h0 h1
 have hc : ∀ j u,c[j]? = some u → w.cell? (ad.add (i.toNat * 2 + j)) = some u := hc0
 obtain rfl := k66_open hK
 exact ⟨ad,e,hc 0 _ rfl,by rw [← add_field _ _ 1 (by omega)];exact hc 1 _ rfl⟩
end
def anyM {α : Type} (q : α→Option Bool) : List α→Option Bool
 | []=>some false
 | x :: xs=>(q x).bind fun b=>if b = true then some true else anyM q xs
def idxM {α : Type} (q : α→Option Bool) : List α→Int→Option Int
 | [],_=>some (-1)
 | x :: xs,i=>(q x).bind fun b=>if b = true then some i else idxM q xs (i + 1)
theorem idxM_of_anyM {α : Type} (q : α→Option Bool) : ∀ (xs : List α) (i : Int) (r : Bool),0≤i→anyM q xs = some r→∃ j,idxM q xs i = some j∧decide (0≤j) = r
 | [],i,r,hi,h=>by
  simp only [anyM] at h;obtain rfl:=Option.some.inj h;exact ⟨-1,rfl,by decide⟩
 | x :: xs,i,r,hi,h=>by
  simp only [anyM] at h
  obtain ⟨b,hb,h⟩:=obm h
  cases b with
  | true=>rw [if_pos rfl] at h;obtain rfl:=Option.some.inj h;exact ⟨i,by simp only [idxM,hb,Option.bind_some];rfl,decide_eq_true hi⟩
  | false =>
   rw [if_neg (by decide)] at h
   obtain ⟨j,hj,hd⟩:=idxM_of_anyM q xs (i + 1) r (by omega) h
   exact ⟨j,by simp only [idxM,hb,Option.bind_some];exact hj,hd⟩
theorem drop_at {α : Type} (d : α) (xs : List α) (i : Int) (h0 : 0≤i) (h1 : i < xs.length) : xs.drop i.toNat = xs.getD i.toNat d :: xs.drop (i + 1).toNat:=by
 rw [show (i + 1).toNat = i.toNat + 1 by omega,List.drop_eq_getElem_cons (show i.toNat < xs.length by omega),List.getD_eq_getElem?_getD,List.getElem?_eq_getElem (show i.toNat < xs.length by omega)]
 rfl
theorem getD_mem {α : Type} (d : α) {xs : List α} {i : Int} (h0 : 0≤i) (h1 : i < xs.length) : xs.getD i.toNat d ∈ xs:=by
 rw [List.getD_eq_getElem?_getD,List.getElem?_eq_getElem (show i.toNat < xs.length by omega)]
 simp
theorem idxM_step {α : Type} {q : α→Option Bool} (d : α) {xs : List α} {i : Int} {r : Int} (h0 : 0≤i) (h1 : i < xs.length) (h : idxM q (xs.drop i.toNat) i = some r) :
  (q (xs.getD i.toNat d) = some true∧i = r)∨(q (xs.getD i.toNat d) = some false∧idxM q (xs.drop (i + 1).toNat) (i + 1) = some r):=by
 rw [drop_at d xs i h0 h1] at h
 simp only [idxM] at h
 obtain ⟨b,hb,h⟩:=obm h
 cases b with
 | true=>exact .inl ⟨hb,Option.some.inj h⟩
 | false=>exact .inr ⟨hb,h⟩
theorem idxM_end {α : Type} {q : α→Option Bool} {xs : List α} {i : Int} {r : Int} (h1 : xs.length≤i) (h : idxM q (xs.drop i.toNat) i = some r) : -1 = r:=by
 rw [List.drop_of_length_le (by omega)] at h
 exact Option.some.inj h
theorem ret_int_eq {a b : Int} (h : a = b) : Ending.returned (.int .i64 a) = .returned (.int .i64 b):=by rw [h]
theorem ret_bool_eq {a b : Bool} (h : a = b) : Ending.returned (.bool a) = .returned (.bool b):=by rw [h]
end Go.Proofs.YtnnmnhpeblhiiaaGreatDoor.C
namespace Go.Proofs.YtnnmnhpeblhiiaaGreatDoor.C
open Go.ChangeShapes Go.WideShapes Go.ChangeAt Go.RowKit Go.Deep Go.Proofs.YtnnmnhpeblhiiaaGreatDoorW.PrintWords Go.Proofs.YtnnmnhpeblhiiaaGreatDoorW.PrintLast Go.Proofs.YtnnmnhpeblhiiaaGreatDoorW.PrintMore
set_option linter.unusedVariables false
set_option linter.unusedSimpArgs false
set_option maxHeartbeats 16000000
set_option maxRecDepth 100000
theorem own : ownKnob Tryz.prog.godebug = none:=by kernel_rfl
theorem laidOut : laidOutB Tryz.prog = true:=by kernel_rfl
section
variable {H : Type} {enc : TypeId × Value→H}
theorem list_of {α : Type} {P : Nat→α→Prop} : ∀ n : Nat,(∀ i,i < n→∃ x,P i x)→∃ xs : List α,xs.length = n∧∀ (i : Nat) x,xs[i]? = some x→P i x
 | 0,_=>⟨[],rfl,fun i x h=>by simp at h⟩
 | n + 1,h=>by
  obtain ⟨xs,hl,hx⟩:=list_of (P:=P) n (fun i hi=>h i (by omega))
  obtain ⟨x,hn⟩:=h n (by omega)
  refine ⟨xs ++ [x],by simp [hl],fun i y hy=>?_⟩
  by_cases hi : i < xs.length
  ·rw [List.getElem?_append_left hi] at hy;exact hx i y hy
  ·rw [List.getElem?_append_right (by omega)] at hy
   have e : i - xs.length = 0:=by
    rcases Nat.eq_zero_or_pos (i - xs.length) with z | z
    ·exact z
    ·rw [List.getElem?_eq_none (by simp;omega)] at hy;cases hy
   rw [e] at hy
   simp at hy
   subst hy
   rw [show i = n by omega]
   exact hn
theorem row_in {α : Type} (k : Kd α) {t e : TypeId} {W : World} {base fuel : Nat} {sp : Nat→Bool} {held : Bool} {cs : List Value} {x : DataW H × List MemPlace} (ht : Tryz.prog.underlying t = some (.slice e)) (hC : Tryz.prog.cellsOf e = k.sz)
  (hel : ∀ (n : Nat) (cs : List Value) (y : DataW H × List MemPlace),DataW.trod enc Tryz.prog W base sp held n e cs = some y→∃ z : α,k.K W z cs)
  (h : DataW.trod enc Tryz.prog W base sp held fuel t cs = some x) (hsp : ∀ b,sp b = true) : ∃ (A : Option Addr) (c : Nat) (xs : List α),cs = [.slice A xs.length c]∧xs.length≤c∧Kd.C k W A xs.length xs:=by
 rcases open_slice ht h with ⟨rfl,_⟩ | ⟨a,len,cap,m,n,D,Pl,rfl,hb,hl,hm,hmm,hx,hi⟩
 ·exact ⟨none,0,[],rfl,Nat.le_refl _,rfl,by simp,fun h=>absurd h (by simp)⟩
 ·rw [hsp,if_pos rfl] at hmm
  obtain ⟨xs,hlen,hxs⟩:=list_of (P:=fun i (z : α)=>∃ cs',cs'.length = k.sz∧k.K W z cs'∧∀ (j : Nat) u,cs'[j]? = some u→W.cell? (a.add (i * k.sz + j)) = some u) len (fun i hil=>by
   obtain ⟨cs',hc,ht'⟩:=hi i (by omega)
   rw [hC] at hc
   obtain ⟨_,hcl,hat⟩:=World.cells?_some hc
   obtain ⟨z,hz⟩:=hel _ _ _ ht'
   refine ⟨z,cs',hcl,hz,fun j u hu=>?_⟩
   have hj : j < cs'.length:=(List.getElem?_eq_some_iff.1 hu).1
   rw [← Go.Deep.add_add,hat j (by omega),hu])
  subst hlen
  refine ⟨some a,cap,xs,rfl,hl,rfl,by unfold maxLen at hm;omega,fun _=>⟨a,rfl,fun j p hp=>?_⟩⟩
  obtain ⟨c,h1,h2,h3⟩:=hxs j p hp
  exact ⟨c,h1,h2,h3⟩
theorem len2 {cs : List Value} (h : cs.length = 2) : ∃ x y,cs = [x,y]:=by
 match cs,h with
 | [x,y],_=>exact ⟨x,y,rfl⟩
theorem len3 {cs : List Value} (h : cs.length = 3) : ∃ x y z,cs = [x,y,z]:=by
 match cs,h with
 | [x,y,z],_=>exact ⟨x,y,z,rfl⟩
theorem len5 {cs : List Value} (h : cs.length = 5) : ∃ x y z u v,cs = [x,y,z,u,v]:=by
 match cs,h with
 | [x,y,z,u,v],_=>exact ⟨x,y,z,u,v,rfl⟩
theorem int_cell {W : World} {base n : Nat} {sp : Nat→Bool} {held : Bool} {cs : List Value} {y : DataW H × List MemPlace} (h : DataW.trod enc Tryz.prog W base sp held n 3 cs = some y) : ∃ z,cs = [.int .i64 z]:=by
 obtain ⟨z,hz,_⟩:=DataW.trod_int Tryz.underlying3 h
 exact ⟨z,hz⟩
theorem c3 : Tryz.prog.cellsOf 3 = 1:=by kernel_rfl
theorem two_ints {W : World} {base n : Nat} {sp : Nat→Bool} {held : Bool} {cs : List Value} {y : DataW H × List MemPlace} {t : TypeId} {f0 f1 : Field} (ht : Tryz.prog.underlying t = some (.struct #[f0,f1])) (h0 : f0.type = 3∧f0.offset = 0) (h1 : f1.type = 3∧f1.offset = 1) (hC : Tryz.prog.cellsOf t = 2)
  (h : DataW.trod enc Tryz.prog W base sp held n t cs = some y) : ∃ a b,cs = [.int .i64 a,.int .i64 b]:=by
 obtain ⟨xs,m,_,_,hlen,hxl,hf⟩:=DataW.trod_struct ht h
 rw [hC] at hlen
 obtain ⟨x,y,rfl⟩:=len2 hlen
 have e0:=hf 0 f0 rfl
 have e1:=hf 1 f1 rfl
 rw [h0.1,h0.2,c3,List.getElem?_eq_getElem (by rw [hxl];simp)] at e0
 rw [h1.1,h1.2,c3,List.getElem?_eq_getElem (by rw [hxl];simp)] at e1
 obtain ⟨a,ha⟩:=int_cell e0
 obtain ⟨b,hb⟩:=int_cell e1
 simp at ha hb
 subst ha hb
 exact ⟨a,b,rfl⟩
theorem row_el {W : World} {base n : Nat} {sp : Nat→Bool} {held : Bool} {cs : List Value} {y : DataW H × List MemPlace} (h : DataW.trod enc Tryz.prog W base sp held n 126 cs = some y) : ∃ z : S126,k126.K W z cs:=by
 obtain ⟨xs,m,_,_,hlen,hxl,hf⟩:=DataW.trod_struct Tryz.underlying126 h
 rw [show Tryz.prog.cellsOf 126 = 3 by kernel_rfl] at hlen
 obtain ⟨x,y,z,rfl⟩:=len3 hlen
 have e0 : DataW.trod enc Tryz.prog W base sp held m 3 (([x,y,z].drop 0).take (Tryz.prog.cellsOf 3)) = xs[0]?:=hf 0 _ rfl
 have e1 : DataW.trod enc Tryz.prog W base sp held m 3 (([x,y,z].drop 1).take (Tryz.prog.cellsOf 3)) = xs[1]?:=hf 1 _ rfl
 have e2 : DataW.trod enc Tryz.prog W base sp held m 3 (([x,y,z].drop 2).take (Tryz.prog.cellsOf 3)) = xs[2]?:=hf 2 _ rfl
 have hx3 : xs.length = 3:=hxl
 rw [c3,List.getElem?_eq_getElem (by omega)] at e0 e1 e2
 obtain ⟨a,ha⟩:=int_cell e0
 obtain ⟨b,hb⟩:=int_cell e1
 obtain ⟨c,hc⟩:=int_cell e2
 simp at ha hb hc
 subst ha hb hc
 exact ⟨⟨a,b,c⟩,k126_mk W ⟨a,b,c⟩⟩
theorem noz_el {W : World} {base n : Nat} {sp : Nat→Bool} {held : Bool} {cs : List Value} {y : DataW H × List MemPlace} (h : DataW.trod enc Tryz.prog W base sp held n 48 cs = some y) : ∃ z : S48,k48.K W z cs:=by
 obtain ⟨a,b,rfl⟩:=two_ints Tryz.underlying48 ⟨rfl,rfl⟩ ⟨rfl,rfl⟩ (by kernel_rfl) h
 exact ⟨⟨a,b⟩,k48_mk W ⟨a,b⟩⟩
end
theorem returns_shaped {H : Type} {enc : TypeId × Value→H} {a : Assume} {C : Checked} {os : Os} {f : FuncId} {fn : Func} {s : ChangeSpec} {conds : List PathCond} {apart fresh handsOn again : Bool} {X : World→Array Value→Prop}
  (hX : ∀ (w w' : World) (args : Array Value),w.heap = w'.heap→X w args→X w' args)
  (own : ownKnob C.prog.godebug = none) (started : os.Started) (noInit : C.prog.inits.idxOf? f = none) (hfn : C.prog.funcs[f]? = some fn)
  (witness : ∃ (w : World) (tape : Tape) (i : Input),w.os = os∧(w.forCall tape i).Shaped C.prog∧i.vars = []∧Input.okWide C.prog (w.forCall tape i) .any w.heap.size f i∧
   ((s.pre enc C.prog fn conds apart (w.forCall tape i).memory i.args∧X (w.forCall tape i).memory i.args)∧sizedMet enc C.prog fn (OpenSpec.ofChange s) apart (w.forCall tape i).memory i.args)∧a.holds C.prog (lone (Frame.enter C.prog f i.args .normal) [] (w.forCall tape i)))
  (contract : ∀ (W : World) (base : Nat) (args : Array Value) (ds gs : List (DataW H)) (before : List MemPlace),
   (∀ (j : Nat) t v,fn.params[j]? = some t→args[j]? = some v→Value.okWide C.prog W .any base t v)→
   DataW.Whole enc C.prog fn.params.toList s.vars apart W args.toList ds gs before→
   conds.all (PathCond.test C.prog ⟨fn.params.toList,ds,s.plain.varTypes C.prog,gs⟩) = true→
   (DataW.weightsEach C.prog (fn.params.toList ++ s.plain.varTypes C.prog) (ds ++ gs)).all (·≤reachBytes) = true→X W args→W.ShapedOpen C.prog→
   a.holds C.prog (lone (Frame.enter C.prog f args .normal) [] W)→
   Calls C.prog f args W fun e W'=>∃ v,e = .returned v∧s.post enc C.prog fn apart fresh handsOn again W args v W') :
  ReturnsInHanded a C os f .any (fun w args=>(s.pre enc C.prog fn conds apart w args∧X w args)∧sizedMet enc C.prog fn (OpenSpec.ofChange s) apart w args) (s.post enc C.prog fn apart fresh handsOn again):=by
 refine returnsInHanded_of_calls own started noInit witness ?_
 intro w tape i _ hsh _ hok hpre hholds
 obtain ⟨_,_,_,fn',hfn',_,_,_,_,hval⟩:=hok
 have e : fn' = fn:=Option.some.inj (hfn'.symm.trans hfn)
 subst e
 obtain ⟨⟨⟨ds,gs,before,hw,hc⟩,hx⟩,hz⟩:=hpre
 have hw':=DataW.Whole.of_heap (w':=w.forCall tape i) (by rfl) hw
 refine (contract (w.forCall tape i) w.heap.size i.args ds gs before hval hw' hc (hz.weights hw) (hX _ _ _ (by rfl) hx) hsh hholds).mono fun e W' ⟨v,he,hp⟩=>?_
 subst he
 exact ChangeSpec.post_blind hp
section
variable {H : Type} {enc : TypeId × Value→H}
theorem bas_el {W : World} {base n : Nat} {held : Bool} {cs : List Value} {y : DataW H × List MemPlace} (h : DataW.trod enc Tryz.prog W base (fun _=>true) held n 27 cs = some y) : ∃ z : S27,k27.K W z cs:=by
 obtain ⟨xs,n,_,_,hlen,hxl,hg⟩:=DataW.trod_struct Tryz.underlying27 h
 rw [show Tryz.prog.cellsOf 27 = 5 by kernel_rfl] at hlen
 obtain ⟨v0,v1,v2,v3,v4,rfl⟩:=len5 hlen
 have e0 : DataW.trod enc Tryz.prog W base (fun _=>true) held n 24 (([v0,v1,v2,v3,v4].drop 0).take (Tryz.prog.cellsOf 24)) = xs[0]?:=hg 0 _ rfl
 have e1 : DataW.trod enc Tryz.prog W base (fun _=>true) held n 25 (([v0,v1,v2,v3,v4].drop 2).take (Tryz.prog.cellsOf 25)) = xs[1]?:=hg 1 _ rfl
 have e2 : DataW.trod enc Tryz.prog W base (fun _=>true) held n 3 (([v0,v1,v2,v3,v4].drop 3).take (Tryz.prog.cellsOf 3)) = xs[2]?:=hg 2 _ rfl
 have e3 : DataW.trod enc Tryz.prog W base (fun _=>true) held n 3 (([v0,v1,v2,v3,v4].drop 4).take (Tryz.prog.cellsOf 3)) = xs[3]?:=hg 3 _ rfl
 have hx4 : xs.length = 4:=hxl
 rw [List.getElem?_eq_getElem (by omega)] at e0 e1 e2 e3
 rw [show Tryz.prog.cellsOf 24 = 2 by kernel_rfl] at e0
 rw [show Tryz.prog.cellsOf 25 = 1 by kernel_rfl] at e1
 rw [c3] at e2 e3
 obtain ⟨ys,m,_,_,_,hyl,hh⟩:=DataW.trod_struct Tryz.underlying24 e0
 have u0 : DataW.trod enc Tryz.prog W base (fun _=>true) held m 22 (((([v0,v1,v2,v3,v4].drop 0).take 2).drop 0).take (Tryz.prog.cellsOf 22)) = ys[0]?:=hh 0 _ rfl
 have u1 : DataW.trod enc Tryz.prog W base (fun _=>true) held m 3 (((([v0,v1,v2,v3,v4].drop 0).take 2).drop 1).take (Tryz.prog.cellsOf 3)) = ys[1]?:=hh 1 _ rfl
 have hy2 : ys.length = 2:=hyl
 rw [List.getElem?_eq_getElem (by omega)] at u0 u1
 rw [show Tryz.prog.cellsOf 22 = 1 by kernel_rfl] at u0
 rw [c3] at u1
 obtain ⟨A0,c0,rows,q0,l0,r0⟩:=row_in k126 Tryz.underlying22 (by kernel_rfl) (fun _ _ _ h=>row_el h) u0 (fun _=>rfl)
 obtain ⟨a1,q1⟩:=int_cell u1
 obtain ⟨A2,c2,noz,q2,l2,r2⟩:=row_in k48 Tryz.underlying25 (by kernel_rfl) (fun _ _ _ h=>noz_el h) e1 (fun _=>rfl)
 obtain ⟨a3,q3⟩:=int_cell e2
 obtain ⟨a4,q4⟩:=int_cell e3
 simp at q0 q1 q2 q3 q4
 subst q0 q1 q2 q3 q4
 exact ⟨⟨⟨rows,a1⟩,noz,a3,a4⟩,k27_mk W ⟨⟨rows,a1⟩,noz,a3,a4⟩ l0 r0 l2 r2⟩
theorem feed_el {W : World} {base n : Nat} {sp : Nat→Bool} {held : Bool} {cs : List Value} {y : DataW H × List MemPlace} (h : DataW.trod enc Tryz.prog W base sp held n 66 cs = some y) : ∃ z : S66,k66.K W z cs:=by
 obtain ⟨a,b,rfl⟩:=two_ints Tryz.underlying66 ⟨rfl,rfl⟩ ⟨rfl,rfl⟩ (by kernel_rfl) h
 exact ⟨⟨a,b⟩,k66_mk W ⟨a,b⟩⟩
theorem open_chain {W : World} {base b0 : Nat} {held : Bool} {v : Value} {d : DataW H} {p : List MemPlace} (hv : Value.okWide Tryz.prog W .any b0 59 v) (h : DataW.Trod enc Tryz.prog W base (fun _=>true) held 59 v d p) :
  ∃ (A0 : Option Addr) (c0 : Nat) (bs : List S27) (A1 : Option Addr) (c1 : Nat) (fs : List S66),v = .agg #[.slice A0 bs.length c0,.slice A1 fs.length c1]∧
   Kd.C k27 W A0 bs.length bs∧bs.length≤c0∧Kd.C k66 W A1 fs.length fs∧fs.length≤c1:=by
 obtain ⟨cs,rfl,hsz⟩:=okWide_struct Tryz.underlying59 hv
 obtain ⟨l⟩:=cs
 rw [show Tryz.prog.cellsOf 59 = 2 by kernel_rfl] at hsz
 obtain ⟨v0,v1,rfl⟩:=len2 hsz
 obtain ⟨fuel,hf⟩:=h
 obtain ⟨xs,n,_,_,_,hxl,hg⟩:=DataW.trod_struct Tryz.underlying59 hf
 have e0 : DataW.trod enc Tryz.prog W base (fun _=>true) held n 56 (([v0,v1].drop 0).take (Tryz.prog.cellsOf 56)) = xs[0]?:=hg 0 _ rfl
 have e1 : DataW.trod enc Tryz.prog W base (fun _=>true) held n 57 (([v0,v1].drop 1).take (Tryz.prog.cellsOf 57)) = xs[1]?:=hg 1 _ rfl
 have hx2 : xs.length = 2:=hxl
 rw [List.getElem?_eq_getElem (by omega)] at e0 e1
 rw [show Tryz.prog.cellsOf 56 = 1 by kernel_rfl] at e0
 rw [show Tryz.prog.cellsOf 57 = 1 by kernel_rfl] at e1
 obtain ⟨A0,c0,bs,q0,l0,r0⟩:=row_in k27 Tryz.underlying56 (by kernel_rfl) (fun _ _ _ h=>bas_el h) e0 (fun _=>rfl)
 obtain ⟨A1,c1,fs,q1,l1,r1⟩:=row_in k66 Tryz.underlying57 (by kernel_rfl) (fun _ _ _ h=>feed_el h) e1 (fun _=>rfl)
 simp [Value.cells] at q0 q1
 subst q0 q1
 exact ⟨A0,c0,bs,A1,c1,fs,rfl,r0,l0,r1,l1⟩
end
end Go.Proofs.YtnnmnhpeblhiiaaGreatDoor.C
namespace Go.Proofs.YtnnmnhpeblhiiaaGreatDoor.C
open Go.RowKit Go.Proofs.YtnnmnhpeblhiiaaGreatDoorW.PrintWords Go.Proofs.YtnnmnhpeblhiiaaGreatDoorW.PrintLast Go.Proofs.YtnnmnhpeblhiiaaGreatDoorW.PrintMore
set_option linter.unusedVariables false
set_option linter.unusedSimpArgs false
set_option maxHeartbeats 16000000
set_option maxRecDepth 100000
section
attribute [local go_sem] max2_int min2_int max_two min_two
def q4_in.f (a0 : Int) (a1 : Int) (a2 : Int) : Option (Bool) := if a0 ≥ a1 then (some (decide (a0 ≤ a2))) else (some false)
theorem q4_in.calls (a0 : Int) (a1 : Int) (a2 : Int) (r : Bool) (w : World) (h : q4_in.f a0 a1 a2 = some r) :
 Calls Tryz.prog 54 #[.int .i64 a0,.int .i64 a1,.int .i64 a2] w fun e w' => e = .returned (.bool r) ∧ Drawn0 w w' := by
 have H : (if a0 ≥ a1 then (some (decide (a0 ≤ a2))) else (some false)) = some r := h
 clear h
 by_cases c4 : a0 ≥ a1
 · rw [if_pos c4] at H
   have c4b0 : decide (a1 ≤ a0) = true := decide_eq_true c4
   clear c4
   obtain rfl := Option.some.inj H
   go_enter Tryz.func54,Tryz.ntmps54
   go_wp2
   go_ret
   exact ⟨by first | rfl | (simp;done) | (simp [*];done),by repeat (first | exact Drawn0.refl _ | apply Drawn0.step)⟩
 · rw [if_neg c4] at H
   have c4b0 : decide (a1 ≤ a0) = false := decide_eq_false c4
   clear c4
   obtain rfl := Option.some.inj H
   go_enter Tryz.func54,Tryz.ntmps54
   go_wp2
   go_ret
   exact ⟨by first | rfl | (simp;done) | (simp [*];done),by repeat (first | exact Drawn0.refl _ | apply Drawn0.step)⟩
def q4_Cups.f (a0 : Int) : Option (Bool) := (q4_in.f a0 0 10000).bind fun t120 => (some t120)
theorem q4_Cups.calls (a0 : Int) (r : Bool) (w : World) (h : q4_Cups.f a0 = some r) :
 Calls Tryz.prog 17 #[.int .i64 a0] w fun e w' => e = .returned (.bool r) ∧ Drawn0 w w' := by
 have H : ((q4_in.f a0 0 10000).bind fun t120 => (some t120)) = some r := h
 clear h
 replace H := obm H
 obtain ⟨t120,A20,H⟩ := H
 replace H : (some t120) = some r := H
 have A2 := am A20
 clear A20
 obtain rfl := Option.some.inj H
 go_enter Tryz.func17,Tryz.ntmps17
 go_wp2_with (first | ((with_reducible refine gate_callee (f := 54) rfl ?_);refine goesL_ (some 4) rfl rfl Tryz.func54 (by kernel_rfl) rfl #[.int .i64 a0,.int .i64 0,.int .i64 10000] rfl (by (try simp only [List.map_toArray,List.map_cons,List.map_nil]);first | done | rfl | (simp only [List.length_drop,List.length_take];rfl)) ?_;(with_reducible refine (q4_in.calls a0 0 10000 t120 _ A2.out).mono ?_);rintro e w' ⟨rfl,⟨nd,rfl⟩⟩;refine ⟨_,rfl,?_⟩))
 go_ret
 exact ⟨by first | rfl | (simp;done) | (simp [*];done),by repeat (first | exact Drawn0.refl _ | apply Drawn0.step)⟩
def q1_Same.l0 : Nat → List Int → List Int → Int → Option (Bool)
 | 0,_,_,_ => none
 | k + 1,x0,x1,x5 => if x5 < (x0.length : Int) then (if 0 ≤ x5 then (if x5 < (x1.length : Int) then (if (rd x0 x5) = (rd x1 x5) then (q1_Same.l0 k x0 x1 (wrap64 (x5 + 1))) else (some false)) else (none)) else (none)) else (some true)
def q1_Same.f (k : Nat) (l0 : List Int) (l1 : List Int) : Option (Bool) := if (l0.length : Int) = (l1.length : Int) then (q1_Same.l0 k l0 l1 0) else (some false)
theorem q1_Same.calls (k : Nat) (A0 : Option Addr) (c0 : Nat) (l0 : List Int) (A1 : Option Addr) (c1 : Nat) (l1 : List Int) (r : Bool) (w : World) (hr0 : Kd.C (Kd.int .i64) w A0 l0.length l0) (hc0 : l0.length ≤ c0) (hr1 : Kd.C (Kd.int .i64) w A1 l1.length l1) (hc1 : l1.length ≤ c1) (h : q1_Same.f k l0 l1 = some r) :
 Calls Tryz.prog 88 #[.slice A0 l0.length c0,.slice A1 l1.length c1] w fun e w' => e = .returned (.bool r) ∧ Drawn0 w w' := by
 have HR0 := am hr0
 have HC0 := am hc0
 clear hr0 hc0
 have HR1 := am hr1
 have HC1 := am hc1
 clear hr1 hc1
 have H : (if (l0.length : Int) = (l1.length : Int) then (q1_Same.l0 k l0 l1 0) else (some false)) = some r := h
 clear h
 by_cases c3 : (l0.length : Int) = (l1.length : Int)
 case neg =>
  rw [if_neg c3] at H
  have c3b0 : ((l0.length : Int) == (l1.length : Int)) = false := beq_eq_false_iff_ne.mpr c3
  have c3b1 : ((l0.length : Int) != (l1.length : Int)) = true := bne_iff_ne.mpr c3
  have c3b2 : (l0.length == l1.length) = false := by first | simpa using c3 | (simp at c3 ⊢;omega)
  obtain rfl := Option.some.inj H
  go_enter Tryz.func88,Tryz.ntmps88
  go_wp2
  repeat (go_quiet (fail);try go_wp2)
  go_ret
  exact ⟨by first | rfl | (simp;done) | (simp [*];done),by repeat (first | exact Drawn0.refl _ | apply Drawn0.step)⟩
 rw [if_pos c3] at H
 have c3b0 : ((l0.length : Int) == (l1.length : Int)) = true := beq_iff_eq.mpr c3
 have c3b1 : ((l0.length : Int) != (l1.length : Int)) = false := bne_eq_false_iff_eq.mpr c3
 have c3b2 : (l0.length == l1.length) = true := by first | simpa using c3 | (simp at c3 ⊢;omega)
 clear c3
 replace H' := am H
 go_enter Tryz.func88,Tryz.ntmps88
 go_wp2
 repeat (go_quiet (fail);try go_wp2)
 go_loopg [5] k (fun kq v5 w' => ∃ (x5_1 : Int),v5 = .int .i64 x5_1 ∧ Aside0 (q1_Same.l0 kq l0 l1 x5_1 = some r) ∧ Aside0 (kq ≤ k) ∧ Drawn0 w w')
 case atStart => exact ⟨(0),(by first | rfl | (simp;done) | (simp [*];done)),H',⟨Nat.le_refl _⟩,by repeat (first | exact Drawn0.refl _ | apply Drawn0.step)⟩
 case round =>
  clear H'
  obtain ⟨x5_1,rfl,HA,HK1,⟨m1,rfl⟩⟩ := hrel
  cases gk with
  | zero => exact absurd HA.out (by simp [q1_Same.l0])
  | succ k1 =>
   have H := HA.out
   clear HA
   simp only [q1_Same.l0] at H
   by_cases c4 : x5_1 < (l0.length : Int)
   case neg =>
    rw [if_neg c4] at H
    have c4b0 : decide (x5_1 < (l0.length : Int)) = false := decide_eq_false c4
    clear c4
    obtain rfl := Option.some.inj H
    go_wp2
    repeat (go_quiet (fail);try go_wp2)
    go_ret
    exact ⟨by first | rfl | (simp;done) | (simp [*];done),by repeat (first | exact Drawn0.refl _ | apply Drawn0.step)⟩
   rw [if_pos c4] at H
   have c4b0 : decide (x5_1 < (l0.length : Int)) = true := decide_eq_true c4
   clear c4
   by_cases c5 : 0 ≤ x5_1
   case neg =>
    rw [if_neg c5] at H
    exact absurd H (by simp)
   rw [if_pos c5] at H
   have c5b0 : decide (0 ≤ x5_1) = true := decide_eq_true c5
   clear c5
   by_cases c6 : x5_1 < (l1.length : Int)
   case neg =>
    rw [if_neg c6] at H
    exact absurd H (by simp)
   rw [if_pos c6] at H
   have c6b0 : decide (x5_1 < (l1.length : Int)) = true := decide_eq_true c6
   clear c6
   by_cases c7 : (rd l0 x5_1) = (rd l1 x5_1)
   case neg =>
    rw [if_neg c7] at H
    have c7b0 : ((rd l0 x5_1) == (rd l1 x5_1)) = false := beq_eq_false_iff_ne.mpr c7
    have c7b1 : ((rd l0 x5_1) != (rd l1 x5_1)) = true := bne_iff_ne.mpr c7
    obtain rfl := Option.some.inj H
    have p360 : 0 ≤ (x5_1 : Int) := of_decide_eq_true (by assumption)
    have q360 : x5_1 < (l0.length : Int) := of_decide_eq_true (by assumption)
    obtain ⟨ad360,e360,hx360_0⟩ := Kd.at_int HR0.out x5_1 p360 q360
    cases e360
    replace p360 := eq_true p360
    replace q360 := eq_true q360
    have p361 : 0 ≤ (x5_1 : Int) := of_decide_eq_true (by assumption)
    have q361 : x5_1 < (l1.length : Int) := of_decide_eq_true (by assumption)
    obtain ⟨ad361,e361,hx361_0⟩ := Kd.at_int HR1.out x5_1 p361 q361
    cases e361
    replace p361 := eq_true p361
    replace q361 := eq_true q361
    go_wp2
    repeat (go_quiet (fail);try go_wp2)
    go_ret
    exact ⟨by first | rfl | (simp;done) | (simp [*];done),by repeat (first | exact Drawn0.refl _ | apply Drawn0.step)⟩
   rw [if_pos c7] at H
   have c7b0 : ((rd l0 x5_1) == (rd l1 x5_1)) = true := beq_iff_eq.mpr c7
   have c7b1 : ((rd l0 x5_1) != (rd l1 x5_1)) = false := bne_eq_false_iff_eq.mpr c7
   clear c7
   replace H' := am H
   have p360 : 0 ≤ (x5_1 : Int) := of_decide_eq_true (by assumption)
   have q360 : x5_1 < (l0.length : Int) := of_decide_eq_true (by assumption)
   obtain ⟨ad360,e360,hx360_0⟩ := Kd.at_int HR0.out x5_1 p360 q360
   cases e360
   replace p360 := eq_true p360
   replace q360 := eq_true q360
   have p361 : 0 ≤ (x5_1 : Int) := of_decide_eq_true (by assumption)
   have q361 : x5_1 < (l1.length : Int) := of_decide_eq_true (by assumption)
   obtain ⟨ad361,e361,hx361_0⟩ := Kd.at_int HR1.out x5_1 p361 q361
   cases e361
   replace p361 := eq_true p361
   replace q361 := eq_true q361
   go_wp2
   repeat (go_quiet (fail);try go_wp2)
   go_roundg k1
   case measure => have := HK1.out;omega
   case rel => exact ⟨(wrap64 (x5_1 + 1)),(by first | rfl | (simp;done) | (simp [*];done)),H',⟨by have := HK1.out;omega⟩,by repeat (first | exact Drawn0.refl _ | apply Drawn0.step)⟩
def q4_Same.f (k : Nat) (l0 : List Int) (l1 : List Int) : Option (Bool) := (q1_Same.f k l0 l1).bind fun t362 => (some t362)
theorem q4_Same.calls (k : Nat) (A0 : Option Addr) (c0 : Nat) (l0 : List Int) (A1 : Option Addr) (c1 : Nat) (l1 : List Int) (r : Bool) (w : World) (hr0 : Kd.C (Kd.int .i64) w A0 l0.length l0) (hc0 : l0.length ≤ c0) (hr1 : Kd.C (Kd.int .i64) w A1 l1.length l1) (hc1 : l1.length ≤ c1) (h : q4_Same.f k l0 l1 = some r) :
 Calls Tryz.prog 45 #[.slice A0 l0.length c0,.slice A1 l1.length c1] w fun e w' => e = .returned (.bool r) ∧ Drawn0 w w' := by
 have HR0 := am hr0
 have HC0 := am hc0
 clear hr0 hc0
 have HR1 := am hr1
 have HC1 := am hc1
 clear hr1 hc1
 have H : ((q1_Same.f k l0 l1).bind fun t362 => (some t362)) = some r := h
 clear h
 replace H := obm H
 obtain ⟨t362,A30,H⟩ := H
 replace H : (some t362) = some r := H
 have A3 := am A30
 clear A30
 obtain rfl := Option.some.inj H
 go_enter Tryz.func45,Tryz.ntmps45
 go_wp2_with (first | ((with_reducible refine gate_callee (f := 88) rfl ?_);refine goesL_ (some 7) rfl rfl Tryz.func88 (by kernel_rfl) rfl #[.slice A0 l0.length c0,.slice A1 l1.length c1] rfl (by (try simp only [List.map_toArray,List.map_cons,List.map_nil]);first | done | rfl | (simp only [List.length_drop,List.length_take];rfl)) ?_;(refine (q1_Same.calls k _ _ l0 _ _ l1 t362 _ ?side1 ?side2 ?side3 ?side4 A3.out).mono ?_);(case side1 => repeat (first | exact HR0.out | (with_reducible refine Kd.C_alloc ?_ _) | (with_reducible refine Kd.C_drewN ?_ _) | (with_reducible refine Kd.C_drew ?_)));(case side2 => exact HC0.out);(case side3 => repeat (first | exact HR1.out | (with_reducible refine Kd.C_alloc ?_ _) | (with_reducible refine Kd.C_drewN ?_ _) | (with_reducible refine Kd.C_drew ?_)));(case side4 => exact HC1.out);rintro e w' ⟨rfl,⟨nd,rfl⟩⟩;refine ⟨_,rfl,?_⟩))
 go_ret
 exact ⟨by first | rfl | (simp;done) | (simp [*];done),by repeat (first | exact Drawn0.refl _ | apply Drawn0.step)⟩
def q4_SameLists.l0 : Nat → List (List Int) → List (List Int) → Int → Option (Bool)
 | 0,_,_,_ => none
 | k + 1,x0,x1,x5 => if x5 < (x0.length : Int) then (if 0 ≤ x5 then (if x5 < (x1.length : Int) then ((q4_Same.f k (rd_L3 x0 x5) (rd_L3 x1 x5)).bind fun t365 => (if t365 = true then (q4_SameLists.l0 k x0 x1 (wrap64 (x5 + 1))) else (some false))) else (none)) else (none)) else (some true)
def q4_SameLists.f (k : Nat) (l0 : List (List Int)) (l1 : List (List Int)) : Option (Bool) := if (l0.length : Int) = (l1.length : Int) then (q4_SameLists.l0 k l0 l1 0) else (some false)
theorem q4_SameLists.calls (k : Nat) (A0 : Option Addr) (c0 : Nat) (l0 : List (List Int)) (A1 : Option Addr) (c1 : Nat) (l1 : List (List Int)) (r : Bool) (w : World) (hr0 : Kd.C (Kd.slice 3 (Kd.int .i64)) w A0 l0.length l0) (hc0 : l0.length ≤ c0) (hr1 : Kd.C (Kd.slice 3 (Kd.int .i64)) w A1 l1.length l1) (hc1 : l1.length ≤ c1) (h : q4_SameLists.f k l0 l1 = some r) :
 Calls Tryz.prog 48 #[.slice A0 l0.length c0,.slice A1 l1.length c1] w fun e w' => e = .returned (.bool r) ∧ Drawn0 w w' := by
 have HR0 := am hr0
 have HC0 := am hc0
 clear hr0 hc0
 have HR1 := am hr1
 have HC1 := am hc1
 clear hr1 hc1
 have H : (if (l0.length : Int) = (l1.length : Int) then (q4_SameLists.l0 k l0 l1 0) else (some false)) = some r := h
 clear h
 by_cases c3 : (l0.length : Int) = (l1.length : Int)
 case neg =>
  rw [if_neg c3] at H
  have c3b0 : ((l0.length : Int) == (l1.length : Int)) = false := beq_eq_false_iff_ne.mpr c3
  have c3b1 : ((l0.length : Int) != (l1.length : Int)) = true := bne_iff_ne.mpr c3
  have c3b2 : (l0.length == l1.length) = false := by first | simpa using c3 | (simp at c3 ⊢;omega)
  obtain rfl := Option.some.inj H
  go_enter Tryz.func48,Tryz.ntmps48
  go_wp2
  repeat (go_quiet (fail);try go_wp2)
  go_ret
  exact ⟨by first | rfl | (simp;done) | (simp [*];done),by repeat (first | exact Drawn0.refl _ | apply Drawn0.step)⟩
 rw [if_pos c3] at H
 have c3b0 : ((l0.length : Int) == (l1.length : Int)) = true := beq_iff_eq.mpr c3
 have c3b1 : ((l0.length : Int) != (l1.length : Int)) = false := bne_eq_false_iff_eq.mpr c3
 have c3b2 : (l0.length == l1.length) = true := by first | simpa using c3 | (simp at c3 ⊢;omega)
 clear c3
 replace H' := am H
 go_enter Tryz.func48,Tryz.ntmps48
 go_wp2
 repeat (go_quiet (fail);try go_wp2)
 go_loopg [5] k (fun kq v5 w' => ∃ (x5_1 : Int),v5 = .int .i64 x5_1 ∧ Aside0 (q4_SameLists.l0 kq l0 l1 x5_1 = some r) ∧ Aside0 (kq ≤ k) ∧ Drawn0 w w')
 case atStart => exact ⟨(0),(by first | rfl | (simp;done) | (simp [*];done)),H',⟨Nat.le_refl _⟩,by repeat (first | exact Drawn0.refl _ | apply Drawn0.step)⟩
 case round =>
  clear H'
  obtain ⟨x5_1,rfl,HA,HK1,⟨m1,rfl⟩⟩ := hrel
  cases gk with
  | zero => exact absurd HA.out (by simp [q4_SameLists.l0])
  | succ k1 =>
   have H := HA.out
   clear HA
   simp only [q4_SameLists.l0] at H
   by_cases c4 : x5_1 < (l0.length : Int)
   case neg =>
    rw [if_neg c4] at H
    have c4b0 : decide (x5_1 < (l0.length : Int)) = false := decide_eq_false c4
    clear c4
    obtain rfl := Option.some.inj H
    go_wp2
    repeat (go_quiet (fail);try go_wp2)
    go_ret
    exact ⟨by first | rfl | (simp;done) | (simp [*];done),by repeat (first | exact Drawn0.refl _ | apply Drawn0.step)⟩
   rw [if_pos c4] at H
   have c4b0 : decide (x5_1 < (l0.length : Int)) = true := decide_eq_true c4
   clear c4
   by_cases c5 : 0 ≤ x5_1
   case neg =>
    rw [if_neg c5] at H
    exact absurd H (by simp)
   rw [if_pos c5] at H
   have c5b0 : decide (0 ≤ x5_1) = true := decide_eq_true c5
   clear c5
   by_cases c6 : x5_1 < (l1.length : Int)
   case neg =>
    rw [if_neg c6] at H
    exact absurd H (by simp)
   rw [if_pos c6] at H
   have c6b0 : decide (x5_1 < (l1.length : Int)) = true := decide_eq_true c6
   clear c6
   replace H := obm H
   obtain ⟨t365,A70,H⟩ := H
   replace H : (if t365 = true then (q4_SameLists.l0 k1 l0 l1 (wrap64 (x5_1 + 1))) else (some false)) = some r := H
   have A7 := am A70
   clear A70
   by_cases c8 : t365 = true
   · subst c8
     replace H : (q4_SameLists.l0 k1 l0 l1 (wrap64 (x5_1 + 1))) = some r := by rw [if_pos rfl] at H;exact H
     replace H' := am H
     have p363 : 0 ≤ (x5_1 : Int) := of_decide_eq_true (by assumption)
     have q363 : x5_1 < (l0.length : Int) := of_decide_eq_true (by assumption)
     obtain ⟨ad363,A363_0,c363_0,e363,hx363_0,hl363_0,hi363_0⟩ := at_L3 HR0.out x5_1 p363 q363
     cases e363
     have HR363_0 := am hi363_0
     have HC363_0 := am hl363_0
     clear hi363_0 hl363_0
     replace p363 := eq_true p363
     replace q363 := eq_true q363
     have p364 : 0 ≤ (x5_1 : Int) := of_decide_eq_true (by assumption)
     have q364 : x5_1 < (l1.length : Int) := of_decide_eq_true (by assumption)
     obtain ⟨ad364,A364_0,c364_0,e364,hx364_0,hl364_0,hi364_0⟩ := at_L3 HR1.out x5_1 p364 q364
     cases e364
     have HR364_0 := am hi364_0
     have HC364_0 := am hl364_0
     clear hi364_0 hl364_0
     replace p364 := eq_true p364
     replace q364 := eq_true q364
     go_wp2_with (first | (go_at_call 45;(with_reducible refine (q4_Same.calls k1 _ _ (rd_L3 l0 x5_1) _ _ (rd_L3 l1 x5_1) true _ ?side1 ?side2 ?side3 ?side4 A7.out).mono ?_);(case side1 => repeat (first | exact HR363_0.out | (with_reducible refine Kd.C_alloc ?_ _) | (with_reducible refine Kd.C_drewN ?_ _) | (with_reducible refine Kd.C_drew ?_)));(case side2 => exact HC363_0.out);(case side3 => repeat (first | exact HR364_0.out | (with_reducible refine Kd.C_alloc ?_ _) | (with_reducible refine Kd.C_drewN ?_ _) | (with_reducible refine Kd.C_drew ?_)));(case side4 => exact HC364_0.out);rintro e w' ⟨rfl,⟨nd,rfl⟩⟩;(try first | exact ⟨rfl,_,World.drewN_drewN _ _ _⟩ | exact ⟨rfl,_,Eq.trans (World.drewN_drewN _ _ _) (congrArg (World.drewN _) (Nat.add_assoc _ _ _))⟩)))
     repeat (go_quiet (first | (go_at_call 45;(with_reducible refine (q4_Same.calls k1 _ _ (rd_L3 l0 x5_1) _ _ (rd_L3 l1 x5_1) true _ ?side1 ?side2 ?side3 ?side4 A7.out).mono ?_);(case side1 => repeat (first | exact HR363_0.out | (with_reducible refine Kd.C_alloc ?_ _) | (with_reducible refine Kd.C_drewN ?_ _) | (with_reducible refine Kd.C_drew ?_)));(case side2 => exact HC363_0.out);(case side3 => repeat (first | exact HR364_0.out | (with_reducible refine Kd.C_alloc ?_ _) | (with_reducible refine Kd.C_drewN ?_ _) | (with_reducible refine Kd.C_drew ?_)));(case side4 => exact HC364_0.out);rintro e w' ⟨rfl,⟨nd,rfl⟩⟩;(try first | exact ⟨rfl,_,World.drewN_drewN _ _ _⟩ | exact ⟨rfl,_,Eq.trans (World.drewN_drewN _ _ _) (congrArg (World.drewN _) (Nat.add_assoc _ _ _))⟩)));try go_wp2_with (first | (go_at_call 45;(with_reducible refine (q4_Same.calls k1 _ _ (rd_L3 l0 x5_1) _ _ (rd_L3 l1 x5_1) true _ ?side1 ?side2 ?side3 ?side4 A7.out).mono ?_);(case side1 => repeat (first | exact HR363_0.out | (with_reducible refine Kd.C_alloc ?_ _) | (with_reducible refine Kd.C_drewN ?_ _) | (with_reducible refine Kd.C_drew ?_)));(case side2 => exact HC363_0.out);(case side3 => repeat (first | exact HR364_0.out | (with_reducible refine Kd.C_alloc ?_ _) | (with_reducible refine Kd.C_drewN ?_ _) | (with_reducible refine Kd.C_drew ?_)));(case side4 => exact HC364_0.out);rintro e w' ⟨rfl,⟨nd,rfl⟩⟩;(try first | exact ⟨rfl,_,World.drewN_drewN _ _ _⟩ | exact ⟨rfl,_,Eq.trans (World.drewN_drewN _ _ _) (congrArg (World.drewN _) (Nat.add_assoc _ _ _))⟩))))
     go_roundg k1
     case measure => have := HK1.out;omega
     case rel => exact ⟨(wrap64 (x5_1 + 1)),(by first | rfl | (simp;done) | (simp [*];done)),H',⟨by have := HK1.out;omega⟩,by repeat (first | exact Drawn0.refl _ | apply Drawn0.step)⟩
   · replace c8 := Bool.eq_false_iff.mpr c8
     subst c8
     replace H : (some false) = some r := by rw [if_neg (show ¬ (false = true) by decide)] at H;exact H
     obtain rfl := Option.some.inj H
     have p363 : 0 ≤ (x5_1 : Int) := of_decide_eq_true (by assumption)
     have q363 : x5_1 < (l0.length : Int) := of_decide_eq_true (by assumption)
     obtain ⟨ad363,A363_0,c363_0,e363,hx363_0,hl363_0,hi363_0⟩ := at_L3 HR0.out x5_1 p363 q363
     cases e363
     have HR363_0 := am hi363_0
     have HC363_0 := am hl363_0
     clear hi363_0 hl363_0
     replace p363 := eq_true p363
     replace q363 := eq_true q363
     have p364 : 0 ≤ (x5_1 : Int) := of_decide_eq_true (by assumption)
     have q364 : x5_1 < (l1.length : Int) := of_decide_eq_true (by assumption)
     obtain ⟨ad364,A364_0,c364_0,e364,hx364_0,hl364_0,hi364_0⟩ := at_L3 HR1.out x5_1 p364 q364
     cases e364
     have HR364_0 := am hi364_0
     have HC364_0 := am hl364_0
     clear hi364_0 hl364_0
     replace p364 := eq_true p364
     replace q364 := eq_true q364
     go_wp2_with (first | (go_at_call 45;(with_reducible refine (q4_Same.calls k1 _ _ (rd_L3 l0 x5_1) _ _ (rd_L3 l1 x5_1) false _ ?side1 ?side2 ?side3 ?side4 A7.out).mono ?_);(case side1 => repeat (first | exact HR363_0.out | (with_reducible refine Kd.C_alloc ?_ _) | (with_reducible refine Kd.C_drewN ?_ _) | (with_reducible refine Kd.C_drew ?_)));(case side2 => exact HC363_0.out);(case side3 => repeat (first | exact HR364_0.out | (with_reducible refine Kd.C_alloc ?_ _) | (with_reducible refine Kd.C_drewN ?_ _) | (with_reducible refine Kd.C_drew ?_)));(case side4 => exact HC364_0.out);rintro e w' ⟨rfl,⟨nd,rfl⟩⟩;(try first | exact ⟨rfl,_,World.drewN_drewN _ _ _⟩ | exact ⟨rfl,_,Eq.trans (World.drewN_drewN _ _ _) (congrArg (World.drewN _) (Nat.add_assoc _ _ _))⟩)))
     repeat (go_quiet (first | (go_at_call 45;(with_reducible refine (q4_Same.calls k1 _ _ (rd_L3 l0 x5_1) _ _ (rd_L3 l1 x5_1) false _ ?side1 ?side2 ?side3 ?side4 A7.out).mono ?_);(case side1 => repeat (first | exact HR363_0.out | (with_reducible refine Kd.C_alloc ?_ _) | (with_reducible refine Kd.C_drewN ?_ _) | (with_reducible refine Kd.C_drew ?_)));(case side2 => exact HC363_0.out);(case side3 => repeat (first | exact HR364_0.out | (with_reducible refine Kd.C_alloc ?_ _) | (with_reducible refine Kd.C_drewN ?_ _) | (with_reducible refine Kd.C_drew ?_)));(case side4 => exact HC364_0.out);rintro e w' ⟨rfl,⟨nd,rfl⟩⟩;(try first | exact ⟨rfl,_,World.drewN_drewN _ _ _⟩ | exact ⟨rfl,_,Eq.trans (World.drewN_drewN _ _ _) (congrArg (World.drewN _) (Nat.add_assoc _ _ _))⟩)));try go_wp2_with (first | (go_at_call 45;(with_reducible refine (q4_Same.calls k1 _ _ (rd_L3 l0 x5_1) _ _ (rd_L3 l1 x5_1) false _ ?side1 ?side2 ?side3 ?side4 A7.out).mono ?_);(case side1 => repeat (first | exact HR363_0.out | (with_reducible refine Kd.C_alloc ?_ _) | (with_reducible refine Kd.C_drewN ?_ _) | (with_reducible refine Kd.C_drew ?_)));(case side2 => exact HC363_0.out);(case side3 => repeat (first | exact HR364_0.out | (with_reducible refine Kd.C_alloc ?_ _) | (with_reducible refine Kd.C_drewN ?_ _) | (with_reducible refine Kd.C_drew ?_)));(case side4 => exact HC364_0.out);rintro e w' ⟨rfl,⟨nd,rfl⟩⟩;(try first | exact ⟨rfl,_,World.drewN_drewN _ _ _⟩ | exact ⟨rfl,_,Eq.trans (World.drewN_drewN _ _ _) (congrArg (World.drewN _) (Nat.add_assoc _ _ _))⟩))))
     go_ret
     exact ⟨by first | rfl | (simp;done) | (simp [*];done),by repeat (first | exact Drawn0.refl _ | apply Drawn0.step)⟩
def l4_short.f (l0_0 : List (S126)) (a0_1 : Int) (l0_2 : List (S48)) (a0_3 : Int) (a0_4 : Int) : Option (Bool) := if (l0_0.length : Int) ≤ 15 then (some (decide ((l0_2.length : Int) ≤ 8))) else (some false)
theorem l4_short.calls (A0_0 : Option Addr) (c0_0 : Nat) (l0_0 : List (S126)) (a0_1 : Int) (A0_2 : Option Addr) (c0_2 : Nat) (l0_2 : List (S48)) (a0_3 : Int) (a0_4 : Int) (r : Bool) (w : World) (hr0_0 : Kd.C k126 w A0_0 l0_0.length l0_0) (hc0_0 : l0_0.length ≤ c0_0) (hr0_2 : Kd.C k48 w A0_2 l0_2.length l0_2) (hc0_2 : l0_2.length ≤ c0_2) (h : l4_short.f l0_0 a0_1 l0_2 a0_3 a0_4 = some r) :
 Calls Tryz.prog 14 #[.agg #[.slice A0_0 l0_0.length c0_0,.int .i64 a0_1,.slice A0_2 l0_2.length c0_2,.int .i64 a0_3,.int .i64 a0_4]] w fun e w' => e = .returned (.bool r) ∧ Below w.heap.size w w' := by
 have hu27 := Tryz.underlying27
 have HR0_0 := am hr0_0
 have HC0_0 := am hc0_0
 clear hr0_0 hc0_0
 have HR0_2 := am hr0_2
 have HC0_2 := am hc0_2
 clear hr0_2 hc0_2
 have HB := am (Below.refl w.heap.size w)
 have H : (if (l0_0.length : Int) ≤ 15 then (some (decide ((l0_2.length : Int) ≤ 8))) else (some false)) = some r := h
 clear h
 by_cases c2 : (l0_0.length : Int) ≤ 15
 · rw [if_pos c2] at H
   have c2b0 : decide ((l0_0.length : Int) ≤ 15) = true := decide_eq_true c2
   have c2b1 : decide (l0_0.length ≤ 15) = true := decide_eq_true (by omega)
   clear c2
   obtain rfl := Option.some.inj H
   go_enter Tryz.func14,Tryz.ntmps14
   go_wp2_with (first | ((refine gate_dst (N := 1) rfl ?_);(try (refine gate_guard (by rfl) ?_;dsimp only));refine box_event rfl (N := 1) rfl (cs := #[.slice A0_0 l0_0.length c0_0,.int .i64 a0_1,.slice A0_2 l0_2.length c0_2,.int .i64 a0_3,.int .i64 a0_4]) (t := 27) ?hr ?_;(case hr => go_simp;try rfl);intro gb101 hg w3 hbox hb;have BK101 := am (hbox);have GW101 := am (ge_new (HB.out) hg);have GE101 := am (ge_new (HB.out) hg);replace HB := am (below_step (HB.out) hb);clear hb hbox hg;obtain ⟨hcz4_0,hcz4_1,hcz4_2,hcz4_3,hcz4_4⟩ := cO5 BK101.out))
   go_ret
   exact ⟨by first | rfl | (simp [*] <;> rfl),HB.out⟩
 · rw [if_neg c2] at H
   have c2b0 : decide ((l0_0.length : Int) ≤ 15) = false := decide_eq_false c2
   have c2b1 : decide (l0_0.length ≤ 15) = false := decide_eq_false (by omega)
   clear c2
   obtain rfl := Option.some.inj H
   go_enter Tryz.func14,Tryz.ntmps14
   go_wp2_with (first | ((refine gate_dst (N := 1) rfl ?_);(try (refine gate_guard (by rfl) ?_;dsimp only));refine box_event rfl (N := 1) rfl (cs := #[.slice A0_0 l0_0.length c0_0,.int .i64 a0_1,.slice A0_2 l0_2.length c0_2,.int .i64 a0_3,.int .i64 a0_4]) (t := 27) ?hr ?_;(case hr => go_simp;try rfl);intro gb101 hg w5 hbox hb;have BK101 := am (hbox);have GW101 := am (ge_new (HB.out) hg);have GE101 := am (ge_new (HB.out) hg);replace HB := am (below_step (HB.out) hb);clear hb hbox hg;obtain ⟨hcz6_0,hcz6_1,hcz6_2,hcz6_3,hcz6_4⟩ := cO5 BK101.out))
   go_ret
   exact ⟨by first | rfl | (simp [*] <;> rfl),HB.out⟩
end
end Go.Proofs.YtnnmnhpeblhiiaaGreatDoor.C

/- A part of the proof: the walks of the functions that it reaches. TIGHT. -/
import Derived.Test.YtnnmnhpeblhiiaaGreatDoorMR18
import Derived.Tactics2
import Derived.Defers
import Derived.Recover
import Derived.Laws.Pointers
import Derived.Lib.Hide
import Derived.WideKeyRuns
import Derived.BigQuiet
import Derived.Laws.EntriesVeiled
set_option linter.unusedVariables false
set_option linter.unusedSimpArgs false
namespace Go.Proofs.YtnnmnhpeblhiiaaGreatDoor.C
open Go.RowKit Go.Proofs.YtnnmnhpeblhiiaaGreatDoorW.PrintWords Go.Proofs.YtnnmnhpeblhiiaaGreatDoorW.PrintLast Go.Proofs.YtnnmnhpeblhiiaaGreatDoorW.PrintMore
set_option linter.unusedVariables false
set_option linter.unusedSimpArgs false
set_option maxHeartbeats 16000000
set_option maxRecDepth 100000
section
attribute [local go_sem] max2_int min2_int max_two min_two
set_option linter.unusedSimpArgs false

set_option linter.unusedSimpArgs false
set_option linter.unusedSimpArgs false
set_option linter.unusedSimpArgs false
set_option linter.unusedSimpArgs false
set_option linter.unusedSimpArgs false
set_option linter.unusedSimpArgs false
end
theorem w64 {n : Int} (h : -9223372036854775808≤n∧n≤9223372036854775807) : wrap64 n = n:=by unfold wrap64;omega
theorem ksucc {k : Nat} (h : 0 < k) : ∃ m,k = m + 1:=⟨k - 1,by omega⟩
def rowOk (r : S126) : Bool:=decide (1≤r.f0∧r.f0≤60) && (decide (1≤r.f1∧r.f1≤60) && decide (1≤r.f2∧r.f2≤1000))
def nozOk (n : Int) (z : S48) : Bool:=decide (0≤z.f0∧z.f0≤n - 1) && decide (0≤z.f1∧z.f1≤40)
def okT (rows : List S126) (draw : Int) : Bool:=decide (1≤(rows.length : Int)∧(rows.length : Int)≤12) && (decide (0≤draw∧draw≤100) && rows.all rowOk)
def okB (rows : List S126) (draw : Int) (noz : List S48) (weir spill : Int) : Bool:=
 okT rows draw && (decide (1≤(noz.length : Int)∧(noz.length : Int)≤6) && (decide (0≤weir∧weir≤40) && (decide (0≤spill∧spill≤100) && noz.all (nozOk rows.length))))
theorem c_in (a b c : Int) : ca_in.f a b c = some (decide (b≤a∧a≤c)):=by
 unfold ca_in.f
 by_cases h : a ≥ b
 ·rw [if_pos h];have : b≤a:=h;simp [this]
 ·rw [if_neg h];have : ¬ b≤a:=h;simp [this]
theorem n_in (a b c : Int) : nz_in.f a b c = some (decide (b≤a∧a≤c)):=c_in a b c
theorem r4_in (a b c : Int) : q4_in.f a b c = some (decide (b≤a∧a≤c)):=c_in a b c
theorem r3_in (a b c : Int) : q3_in.f a b c = some (decide (b≤a∧a≤c)):=c_in a b c
theorem c_height (a : Int) : ca_isHeight.f a = some (decide (0≤a∧a≤40)):=by unfold ca_isHeight.f;rw [c_in];rfl
theorem c_flow (a : Int) : ca_isFlow.f a = some (decide (0≤a∧a≤10000)):=by unfold ca_isFlow.f;rw [c_in];rfl
theorem r_height (a : Int) : q4_Height.f a = some (decide (0≤a∧a≤40)):=by unfold q4_Height.f;rw [r4_in];rfl
theorem r_cups (a : Int) : q4_Cups.f a = some (decide (0≤a∧a≤10000)):=by unfold q4_Cups.f;rw [r4_in];rfl
theorem anyM_total {α : Type} {q : α→Option Bool} {p : α→Bool} (h : ∀ x,q x = some (p x)) : ∀ xs,anyM q xs = some (xs.any p)
 | []=>rfl
 | x :: xs=>by
  simp only [anyM,h,Option.bind_some,List.any_cons,anyM_total h xs]
  cases p x<;>rfl
theorem row_bad (x : S126) : nz_isTable_1.f x.f0 x.f1 x.f2 = some (!rowOk x):=by
 unfold nz_isTable_1.f rowOk
 simp only [n_in,Option.bind_some]
 cases decide (1≤x.f0∧x.f0≤60)<;>cases decide (1≤x.f1∧x.f1≤60)<;>cases decide (1≤x.f2∧x.f2≤1000)<;>rfl
theorem noz_bad {rows : List S126} (hl : rows.length≤1000) (x : S48) : ca_isBasin_1.f rows x = some (!nozOk rows.length x):=by
 unfold ca_isBasin_1.f nozOk
 rw [w64 (by omega)]
 simp only [c_in,c_height,Option.bind_some]
 cases decide (0≤x.f0∧x.f0≤(rows.length : Int) - 1)<;>cases decide (0≤x.f1∧x.f1≤40)<;>rfl
theorem isTable_eq (rows : List S126) (draw : Int) : nz_isTable.f rows draw = some (okT rows draw):=by
 unfold nz_isTable.f okT cf_isTable.f
 rw [anyM_total row_bad,← List.not_all_eq_any_not]
 simp only [n_in,Option.bind_some]
 cases decide (1≤(rows.length : Int)∧(rows.length : Int)≤12)<;>cases decide (0≤draw∧draw≤100)<;>cases rows.all rowOk<;>rfl
theorem isBasin_eq {rows : List S126} {draw : Int} {noz : List S48} {weir spill : Int} (hl : rows.length≤1000) : ca_isBasin.f rows draw noz weir spill = some (okB rows draw noz weir spill):=by
 unfold ca_isBasin.f okB nz_Check.f
 rw [anyM_total (noz_bad hl),← List.not_all_eq_any_not,isTable_eq]
 simp only [c_in,c_height,Option.bind_some]
 cases okT rows draw<;>cases decide (1≤(noz.length : Int)∧(noz.length : Int)≤6)<;>cases decide (0≤weir∧weir≤40)<;>cases decide (0≤spill∧spill≤100)<;>cases noz.all (nozOk rows.length)<;>rfl
theorem refTable_go (rows : List S126) (draw : Int) (hl : rows.length≤1000) : ∀ (d k : Nat) (i : Int),0≤i→i + d = rows.length→d < k→
  q3_Table.l0 k i rows draw = some ((rows.drop i.toNat).all rowOk && (decide (1≤(rows.length : Int)∧(rows.length : Int)≤12) && decide (0≤draw∧draw≤100)))
 | 0,k,i,h0,hi,hk=>by
  obtain ⟨k,rfl⟩:=ksucc hk
  simp only [q3_Table.l0]
  rw [if_neg (by omega),List.drop_of_length_le (by omega)]
  simp only [r3_in,Option.bind_some,List.all_nil,Bool.true_and]
  cases decide (1≤(rows.length : Int)∧(rows.length : Int)≤12)<;>cases decide (0≤draw∧draw≤100)<;>rfl
 | d + 1,k,i,h0,hi,hk=>by
  obtain ⟨k,rfl⟩:=ksucc (by omega : 0 < k)
  simp only [q3_Table.l0]
  rw [if_pos (by omega),if_pos h0,w64 (by omega),refTable_go rows draw hl d k (i + 1) (by omega) (by omega) (by omega),drop_at z126 rows i h0 (by omega),List.all_cons]
  show _ = some ((rowOk (rd_T126 rows i) && _) && _)
  unfold rowOk
  simp only [r3_in,Option.bind_some]
  cases decide (1≤(rd_T126 rows i).f0∧(rd_T126 rows i).f0≤60)<;>cases decide (1≤(rd_T126 rows i).f1∧(rd_T126 rows i).f1≤60)<;>cases decide (1≤(rd_T126 rows i).f2∧(rd_T126 rows i).f2≤1000)<;>rfl
theorem refTable_eq {rows : List S126} {draw : Int} {k : Nat} (hl : rows.length≤1000) (hk : rows.length < k) : q3_Table.f k rows draw = some (okT rows draw):=by
 unfold q3_Table.f okT
 rw [refTable_go rows draw hl rows.length k 0 (by omega) (by omega) hk]
 show some (rows.all rowOk && _) = _
 cases decide (1≤(rows.length : Int)∧(rows.length : Int)≤12)<;>cases decide (0≤draw∧draw≤100)<;>cases rows.all rowOk<;>rfl
theorem refBasin_go (rows : List S126) (draw : Int) (noz : List S48) (weir spill : Int) (hl : rows.length≤1000) (hn : noz.length≤1000) : ∀ (d k : Nat) (i : Int),0≤i→i + d = noz.length→rows.length + d + 1 < k→
  q4_Basin.l0 k i rows draw noz weir spill = some ((noz.drop i.toNat).all (nozOk rows.length) && (okT rows draw && (decide (1≤(noz.length : Int)∧(noz.length : Int)≤6) && (decide (0≤weir∧weir≤40) && decide (0≤spill∧spill≤100)))))
 | 0,k,i,h0,hi,hk=>by
  obtain ⟨k,rfl⟩:=ksucc (by omega : 0 < k)
  simp only [q4_Basin.l0]
  rw [if_neg (by omega),List.drop_of_length_le (by omega),refTable_eq hl (by omega)]
  simp only [r4_in,r_height,Option.bind_some,List.all_nil,Bool.true_and]
  cases okT rows draw<;>cases decide (1≤(noz.length : Int)∧(noz.length : Int)≤6)<;>cases decide (0≤weir∧weir≤40)<;>cases decide (0≤spill∧spill≤100)<;>rfl
 | d + 1,k,i,h0,hi,hk=>by
  obtain ⟨k,rfl⟩:=ksucc (by omega : 0 < k)
  simp only [q4_Basin.l0]
  rw [if_pos (by omega),if_pos h0,w64 (n:=i + 1) (by omega),w64 (by omega),refBasin_go rows draw noz weir spill hl hn d k (i + 1) (by omega) (by omega) (by omega),drop_at z48 noz i h0 (by omega),List.all_cons]
  show _ = some ((nozOk rows.length (rd_T48 noz i) && _) && _)
  unfold nozOk
  simp only [r4_in,r_height,Option.bind_some]
  cases decide (0≤(rd_T48 noz i).f0∧(rd_T48 noz i).f0≤(rows.length : Int) - 1)<;>cases decide (0≤(rd_T48 noz i).f1∧(rd_T48 noz i).f1≤40)<;>rfl
theorem refBasin_eq {rows : List S126} {draw : Int} {noz : List S48} {weir spill : Int} {k : Nat} (hl : rows.length≤1000) (hn : noz.length≤1000) (hk : rows.length + noz.length + 1 < k) :
  q4_Basin.f k rows draw noz weir spill = some (okB rows draw noz weir spill):=by
 unfold q4_Basin.f okB
 rw [refBasin_go rows draw noz weir spill hl hn noz.length k 0 (by omega) (by omega) hk]
 show some (noz.all (nozOk rows.length) && _) = _
 cases okT rows draw<;>cases decide (1≤(noz.length : Int)∧(noz.length : Int)≤6)<;>cases decide (0≤weir∧weir≤40)<;>cases decide (0≤spill∧spill≤100)<;>cases noz.all (nozOk rows.length)<;>rfl
structure OkB (rows : List S126) (draw : Int) (noz : List S48) (weir spill : Int) : Prop where
 r1 : 1≤rows.length
 r2 : rows.length≤12
 tab : okT rows draw = true
 rr : ∀ r ∈ rows,1≤r.f2∧r.f2≤1000
 n1 : 1≤noz.length
 n2 : noz.length≤6
 w0 : 0≤weir
 w1 : weir≤40
 s0 : 0≤spill
 s1 : spill≤100
 nn : ∀ z ∈ noz,0≤z.f0∧z.f0 < rows.length∧0≤z.f1∧z.f1≤40
theorem okB_iff {rows : List S126} {draw : Int} {noz : List S48} {weir spill : Int} : okB rows draw noz weir spill = true↔OkB rows draw noz weir spill:=by
 constructor
 ·intro h
  unfold okB at h
  simp only [Bool.and_eq_true,decide_eq_true_eq,List.all_eq_true] at h
  obtain ⟨ht,h2,h3,h4,h5⟩:=h
  have ht':=ht
  unfold okT at ht'
  simp only [Bool.and_eq_true,decide_eq_true_eq,List.all_eq_true] at ht'
  obtain ⟨h0,h1,hr⟩:=ht'
  refine ⟨by omega,by omega,ht,fun r hm=>?_,by omega,by omega,by omega,by omega,by omega,by omega,fun z hm=>?_⟩
  ·have:=hr r hm;unfold rowOk at this;simp only [Bool.and_eq_true,decide_eq_true_eq] at this;omega
  ·have:=h5 z hm;unfold nozOk at this;simp only [Bool.and_eq_true,decide_eq_true_eq] at this;omega
 ·intro h
  unfold okB
  simp only [Bool.and_eq_true,decide_eq_true_eq,List.all_eq_true]
  have a1:=h.n1;have a2:=h.n2
  refine ⟨h.tab,by omega,⟨h.w0,h.w1⟩,⟨h.s0,h.s1⟩,fun z hz=>?_⟩
  have:=h.nn z hz
  unfold nozOk;simp only [Bool.and_eq_true,decide_eq_true_eq];omega
def gvz (rows : List S126) (z : S48) : Int:=(rd_T126 rows z.f0).f2
def pour (rows : List S126) (h : Int) (z : S48) : Int:=gvz rows z * mx 0 (mn 5 (h - z.f1)) / 5
def gat (rows : List S126) (noz : List S48) (h : Int) : List Int:=noz.map (pour rows h)
theorem gvz_in {rows : List S126} {draw : Int} {noz : List S48} {weir spill : Int} (h : OkB rows draw noz weir spill) {z : S48} (hz : z ∈ noz) : 1≤gvz rows z∧gvz rows z≤1000:=by
 have a:=h.nn z hz
 exact h.rr _ (getD_mem z126 a.1 a.2.1)
theorem mm_cases (x : Int) : mx 0 (mn 5 x) = 0∨mx 0 (mn 5 x) = 1∨mx 0 (mn 5 x) = 2∨mx 0 (mn 5 x) = 3∨mx 0 (mn 5 x) = 4∨mx 0 (mn 5 x) = 5:=by
 unfold mx mn;split<;>split<;>omega
theorem pour_prog {g m : Int} (h0 : 0≤g) (h1 : g≤1000) (hm : m = 0∨m = 1∨m = 2∨m = 3∨m = 4∨m = 5) : wrap64 (Int.tdiv (wrap64 (g * m)) 5) = g * m / 5:=by
 have : 0≤g * m∧g * m≤5000:=by rcases hm with rfl | rfl | rfl | rfl | rfl | rfl<;>omega
 rw [w64 (n:=g * m) (by omega),Int.tdiv_eq_ediv_of_nonneg this.1,w64 (by omega)]
theorem pour_in {rows : List S126} {draw : Int} {noz : List S48} {weir spill : Int} (h : OkB rows draw noz weir spill) {z : S48} (hz : z ∈ noz) (x : Int) : 0≤pour rows x z∧pour rows x z≤1000:=by
 have a:=gvz_in h hz
 unfold pour
 rcases mm_cases (x - z.f1) with e | e | e | e | e | e<;>rw [e]<;>omega
theorem rd_map (f : S48→Int) {noz : List S48} {i : Int} (h0 : 0≤i) (h1 : i < noz.length) : rd (noz.map f) i = f (rd_T48 noz i):=by
 unfold rd rd_T48
 rw [List.getD_eq_getElem?_getD,List.getD_eq_getElem?_getD,List.getElem?_map,List.getElem?_eq_getElem (show i.toNat < noz.length by omega)]
 rfl
theorem take_snoc {α β : Type} (d : α) (f : α→β) (l : List α) {i : Int} (h0 : 0≤i) (h1 : i < l.length) : (l.take (i + 1).toNat).map f = (l.take i.toNat).map f ++ [f (l.getD i.toNat d)]:=by
 rw [show (i + 1).toNat = i.toNat + 1 by omega,List.take_succ_eq_append_getElem (show i.toNat < l.length by omega),List.map_append,List.getD_eq_getElem?_getD,List.getElem?_eq_getElem (show i.toNat < l.length by omega)]
 rfl
set_option linter.unusedSimpArgs false
set_option linter.unusedSimpArgs false
set_option linter.unusedSimpArgs false
section
attribute [local go_sem] max2_int min2_int max_two min_two
set_option linter.unusedSimpArgs false
set_option linter.unusedSimpArgs false
end
set_option linter.unusedSimpArgs false
def fillK (n : Nat) : Nat := 50 * (n + 2) + 100
theorem sum_bd {l : List Int} {B : Int} (hB : 0≤B) (h : ∀ x ∈ l,-B≤x∧x≤B) : -(B * l.length)≤l.sum∧l.sum≤B * l.length:=by
 induction l with
 | nil=>simp
 | cons x l ih =>
  have a:=h x (by simp)
  have b:=ih (fun y hy=>h y (by simp [hy]))
  rw [List.sum_cons,List.length_cons,Int.natCast_add,Int.mul_add]
  omega
theorem sum_go (xs : List Int) (hl : xs.length≤1000) (hx : ∀ x ∈ xs,-1000000≤x∧x≤1000000) : ∀ (d k : Nat) (i acc : Int),0≤i→i + d = xs.length→d < k→-1000000 * i≤acc∧acc≤1000000 * i→
  ca_sum.l0 k acc xs xs.length i = some (acc + (xs.drop i.toNat).sum)
 | 0,k,i,acc,h0,hi,hk,hb=>by
  obtain ⟨k,rfl⟩:=ksucc hk
  simp only [ca_sum.l0]
  rw [if_neg (by omega),List.drop_of_length_le (by omega)]
  simp
 | d + 1,k,i,acc,h0,hi,hk,hb=>by
  obtain ⟨k,rfl⟩:=ksucc (by omega : 0 < k)
  simp only [ca_sum.l0]
  have e:=drop_at (0 : Int) xs i h0 (by omega)
  have m:=hx _ (getD_mem (0 : Int) h0 (by omega : i < xs.length))
  rw [if_pos (by omega),if_pos h0,if_pos (by omega)]
  unfold rd
  rw [w64 (n:=acc + _) (by omega),w64 (by omega),sum_go xs hl hx d k (i + 1) _ (by omega) (by omega) (by omega) (by omega),e,List.sum_cons,Int.add_assoc]
theorem csum {k : Nat} {l : List Int} (hl : l.length≤1000) (hx : ∀ x ∈ l,-1000000≤x∧x≤1000000) (hk : l.length < k) : ca_sum.f k l = some l.sum:=by
 unfold ca_sum.f
 rw [sum_go l hl hx l.length k 0 0 (by omega) (by omega) hk (by omega)]
 simp
theorem nsum {k : Nat} {l : List Int} (hl : l.length≤1000) (hx : ∀ x ∈ l,-1000000≤x∧x≤1000000) (hk : l.length < k) : nz_sum.f k l = some l.sum:=by
 have e : ∀ k x3 x6 x7 x8,nz_sum.l0 k x3 x6 x7 x8 = ca_sum.l0 k x3 x6 x7 x8:=by
  intro k
  induction k with
  | zero=>intros;rfl
  | succ k ih=>intro a b c d;simp only [nz_sum.l0,ca_sum.l0,ih]
 have h:=csum hl hx hk
 unfold ca_sum.f at h
 unfold nz_sum.f
 rw [e,h]
theorem isRow_eq {rows : List S126} {draw n : Int} (hl : rows.length≤1000) : nz_isRow.f rows draw n = some (decide (0≤n∧n≤(rows.length : Int) - 1)):=by
 unfold nz_isRow.f
 rw [w64 (by omega),n_in]
 rfl
theorem isSet1_eq {rows : List S126} {draw n : Int} (h0 : 0≤n) (h1 : n < rows.length) (hl : rows.length≤1000) : nz_isSet.f rows draw [n] = some true:=by
 unfold nz_isSet.f
 rw [if_pos (by simp)]
 have : sl_IsSorted_int_int.f ([n].length + 1) [n] = some true:=by
  unfold sl_IsSorted_int_int.f
  simp only [sl_IsSorted_int_int.l0,List.length_cons,List.length_nil]
  rw [if_neg (by unfold wrap64;omega)]
 rw [this]
 simp only [Option.bind_some,anyM,isRow_eq hl]
 rw [decide_eq_true (show 0≤n∧n≤(rows.length : Int) - 1 by omega)]
 rfl
theorem gives1_eq {rows : List S126} {draw n : Int} {k : Nat} (h0 : 0≤n) (h1 : n < rows.length) (hl : rows.length≤1000) (hg : 0≤(rd_T126 rows n).f2∧(rd_T126 rows n).f2≤1000000) (hk : 5≤k) : nz_gives.f k rows draw [n] = some (rd_T126 rows n).f2:=by
 obtain ⟨m,rfl⟩ : ∃ m,k = m + 1 + 1:=⟨k - 2,by omega⟩
 unfold nz_gives.f
 have e0 : rd [n] 0 = n:=rfl
 have e1 : wrap64 (0 + 1) = 1:=by unfold wrap64;omega
 simp only [nz_gives.l0,List.length_cons,List.length_nil,e0,e1]
 rw [if_pos (by decide),if_pos (by decide),if_pos (by decide),if_pos h0,if_pos h1,if_pos (by decide),if_neg (by decide)]
 simp only [List.nil_append]
 rw [nsum (by simp) (by intro x hx;simp at hx;subst hx;omega) (by simp;omega)]
 simp
theorem Gives1_eq {rows : List S126} {draw : Int} {noz : List S48} {weir spill : Int} (h : OkB rows draw noz weir spill) {z : S48} (hz : z ∈ noz) {k : Nat} (hk : 5≤k) : nz_Gives.f k rows draw [z.f0] = some (gvz rows z,0):=by
 have a:=h.nn z hz
 have g:=gvz_in h hz
 unfold nz_Gives.f
 rw [isTable_eq,h.tab,Option.bind_some,if_pos rfl,isSet1_eq a.1 a.2.1 (by have:=h.r2;omega),Option.bind_some,if_pos rfl,gives1_eq a.1 a.2.1 (by have:=h.r2;omega) (by unfold gvz at g;omega) hk]
 rfl
def grid (rows : List S126) (noz : List S48) : List (List Int):=(List.range 41).map fun (j : Nat)=>gat rows noz (j : Int)
theorem grid_len (rows : List S126) (noz : List S48) : (grid rows noz).length = 41:=by simp [grid]
theorem grid_at (rows : List S126) (noz : List S48) {h : Int} (h0 : 0≤h) (h1 : h≤40) : rd_L3 (grid rows noz) h = gat rows noz h:=by
 unfold rd_L3 grid
 rw [List.getD_eq_getElem?_getD,List.getElem?_map,List.getElem?_range (by omega)]
 simp only [Option.map_some,Option.getD_some]
 rw [show ((h.toNat : Nat) : Int) = h by omega]
section
variable {rows : List S126} {draw : Int} {noz : List S48} {weir spill : Int}
theorem z_mem {i : Int} (h0 : 0≤i) (h1 : i < noz.length) : rd_T48 noz i ∈ noz:=getD_mem z48 h0 h1
theorem fill_l2 (h : OkB rows draw noz weir spill) (hh : Int) (p0 : 0≤hh) (p1 : hh≤40) (G : List (List Int)) (hG : G.length≤41) (r) (C : Nat) (hr : ∀ k,C≤k→ca_fill.l1 k (noz.map (gvz rows)) (hh + 1) rows draw noz weir spill rows draw noz weir spill (G ++ [gat rows noz hh]) = r) : ∀ (d k : Nat) (i : Int),0≤i→i + d = noz.length→C + d < k→
  ca_fill.l2 k (noz.map (gvz rows)) hh ((noz.take i.toNat).map (pour rows hh)) hh noz noz.length i rows draw noz weir spill rows draw noz weir spill G = r
 | 0,k,i,h0,hi,hk=>by
  obtain ⟨k,rfl⟩:=ksucc (by omega : 0 < k)
  simp only [ca_fill.l2]
  rw [if_neg (by omega),if_pos (by omega),w64 (by omega),List.take_of_length_le (by omega)]
  exact hr k (by omega)
 | d + 1,k,i,h0,hi,hk=>by
  obtain ⟨k,rfl⟩:=ksucc (by omega : 0 < k)
  have n2:=h.n2
  have hz:=z_mem h0 (by omega : i < noz.length)
  have a:=h.nn _ hz
  have g:=gvz_in h hz
  simp only [ca_fill.l2]
  rw [if_pos (by omega),if_pos h0,if_pos (by omega),if_pos (by rw [List.length_map];omega),if_pos (by rw [List.length_map,List.length_take];omega),rd_map _ h0 (by omega),w64 (n:=hh - _) (by omega),pour_prog (by omega) (by omega) (mm_cases _),w64 (n:=i + 1) (by omega)]
  have e:=take_snoc z48 (pour rows hh) noz h0 (by omega)
  have f:=fill_l2 h hh p0 p1 G hG r C hr d k (i + 1) (by omega) (by omega) (by omega)
  rw [e] at f
  exact f
theorem fill_l1 (h : OkB rows draw noz weir spill) : ∀ (d k j : Nat),j + d = 41→d * (noz.length + 3) < k→
  ca_fill.l1 k (noz.map (gvz rows)) j rows draw noz weir spill rows draw noz weir spill ((List.range j).map fun (q : Nat)=>gat rows noz (q : Int)) = some (draw,weir,spill,grid rows noz)
 | 0,k,j,hj,hk=>by
  obtain ⟨k,rfl⟩:=ksucc (by omega : 0 < k)
  obtain rfl : j = 41:=by omega
  simp only [ca_fill.l1]
  rw [if_neg (by omega)]
  rfl
 | d + 1,k,j,hj,hk=>by
  rw [Nat.succ_mul] at hk
  obtain ⟨k,rfl⟩:=ksucc (by omega : 0 < k)
  simp only [ca_fill.l1]
  rw [if_pos (by omega)]
  refine fill_l2 h j (by omega) (by omega) _ (by simp;omega) _ (d * (noz.length + 3) + 1) (fun k' hk'=>?_) noz.length k 0 (by omega) (by omega) (by omega)
  have f:=fill_l1 h d k' (j + 1) (by omega) (by omega)
  rw [List.range_succ,List.map_append] at f
  exact f
theorem fill_l0 (h : OkB rows draw noz weir spill) : ∀ (d k : Nat) (i : Int),0≤i→i + d = noz.length→41 * (noz.length + 3) + d + 5 < k→
  ca_fill.l0 k ((noz.take i.toNat).map (gvz rows)) noz noz.length i rows draw noz weir spill rows draw noz weir spill = some (draw,weir,spill,grid rows noz)
 | 0,k,i,h0,hi,hk=>by
  obtain ⟨k,rfl⟩:=ksucc (by omega : 0 < k)
  simp only [ca_fill.l0]
  rw [if_neg (by omega),List.take_of_length_le (by omega)]
  exact fill_l1 h 41 k 0 (by omega) (by omega)
 | d + 1,k,i,h0,hi,hk=>by
  obtain ⟨k,rfl⟩:=ksucc (by omega : 0 < k)
  have n2:=h.n2
  simp only [ca_fill.l0]
  rw [if_pos (by omega),if_pos h0,if_pos (by omega),Gives1_eq h (z_mem h0 (by omega)) (by omega),Option.bind_some,if_pos (by rw [List.length_map,List.length_take];omega),w64 (by omega)]
  have e:=take_snoc z48 (gvz rows) noz h0 (by omega)
  have f:=fill_l0 h d k (i + 1) (by omega) (by omega) (by omega)
  rw [e] at f
  exact f
theorem fill_eq (h : OkB rows draw noz weir spill) {k : Nat} (hk : 400≤k) : ca_fill.f k rows draw noz weir spill = some (draw,weir,spill,grid rows noz):=
 fill_l0 h noz.length k 0 (by omega) (by omega) (by have:=h.n2;omega)
def over (weir spill h : Int) : Int:=spill * mx 0 (h - weir)
def tot (rows : List S126) (noz : List S48) (weir spill h : Int) : Int:=(gat rows noz h).sum + over weir spill h
theorem over_in (h : OkB rows draw noz weir spill) {x : Int} (h0 : 0≤x) (h1 : x≤40) : 0≤over weir spill x∧over weir spill x≤4000:=by
 have a:=h.s0;have b:=h.s1;have c:=h.w0
 unfold over
 have m : 0≤mx 0 (x - weir)∧mx 0 (x - weir)≤40:=by unfold mx;split<;>omega
 exact ⟨Int.mul_nonneg a m.1,by have:=Int.mul_le_mul b m.2 m.1 (by omega : (0 : Int)≤100);omega⟩
theorem gat_in (h : OkB rows draw noz weir spill) (x : Int) : ∀ y ∈ gat rows noz x,0≤y∧y≤1000:=by
 intro y hy
 unfold gat at hy
 obtain ⟨z,hz,rfl⟩:=List.mem_map.1 hy
 exact pour_in h hz x
theorem gat_len (x : Int) : (gat rows noz x).length = noz.length:=by simp [gat]
theorem sum_nn {l : List Int} (h : ∀ x ∈ l,0≤x) : 0≤l.sum:=by
 induction l with
 | nil=>simp
 | cons x l ih=>rw [List.sum_cons];have:=h x (by simp);have:=ih (fun y hy=>h y (by simp [hy]));omega
theorem gsum_in (h : OkB rows draw noz weir spill) (x : Int) : 0≤(gat rows noz x).sum∧(gat rows noz x).sum≤6000:=by
 have a:=gat_in h x
 have b:=sum_bd (l:=gat rows noz x) (B:=1000) (by omega) (fun y hy=>by have:=a y hy;omega)
 rw [gat_len] at b
 have:=h.n2
 exact ⟨sum_nn (fun y hy=>(a y hy).1),by omega⟩
theorem tot_in (h : OkB rows draw noz weir spill) {x : Int} (h0 : 0≤x) (h1 : x≤40) : 0≤tot rows noz weir spill x∧tot rows noz weir spill x≤10000:=by
 have a:=gsum_in h x
 have b:=over_in h h0 h1
 unfold tot
 omega
theorem weir_eq (h : OkB rows draw noz weir spill) {x : Int} (h0 : 0≤x) (h1 : x≤40) : gf_weir.f rows draw noz weir spill (grid rows noz) x = some (over weir spill x):=by
 have a:=over_in h h0 h1
 have c:=h.w0;have c1:=h.w1
 unfold gf_weir.f
 rw [w64 (n:=x - weir) (by omega),w64 (n:=spill * _) (by unfold over at a;omega)]
 rfl
theorem out_eq (h : OkB rows draw noz weir spill) {x : Int} (h0 : 0≤x) (h1 : x≤40) : gf_out.f rows draw noz weir spill (grid rows noz) x = some (tot rows noz weir spill x):=by
 have a:=gat_in h x
 have b:=over_in h h0 h1
 have c:=gsum_in h x
 unfold gf_out.f gf_nozzles.f
 rw [if_pos h0,if_pos (by rw [grid_len];omega),grid_at _ _ h0 h1,csum (by rw [gat_len];have:=h.n2;omega) (fun y hy=>by have:=a y hy;omega) (by omega),weir_eq h h0 h1]
 simp only [Option.bind_some]
 rw [w64 (n:=(gat rows noz x).sum) (by omega),w64 (by omega)]
 rfl
theorem mm_mono {a b : Int} (h : a≤b) : mx 0 (mn 5 a)≤mx 0 (mn 5 b):=by unfold mx mn;(repeat' split)<;>omega
theorem pour_mono (h : OkB rows draw noz weir spill) {z : S48} (hz : z ∈ noz) {a b : Int} (hab : a≤b) : pour rows a z≤pour rows b z:=by
 have g:=gvz_in h hz
 unfold pour
 exact Int.ediv_le_ediv (by omega) (Int.mul_le_mul_of_nonneg_left (mm_mono (by omega)) (by omega))
theorem sum_mono_map {f g : S48→Int} : ∀ {l : List S48},(∀ z ∈ l,f z≤g z)→(l.map f).sum≤(l.map g).sum
 | [],_=>by simp
 | z :: l,h=>by
  simp only [List.map_cons,List.sum_cons]
  have:=h z (by simp)
  have:=sum_mono_map (l:=l) (fun y hy=>h y (by simp [hy]))
  omega
theorem over_mono (h : OkB rows draw noz weir spill) {a b : Int} (hab : a≤b) : over weir spill a≤over weir spill b:=by
 unfold over
 exact Int.mul_le_mul_of_nonneg_left (by unfold mx;(repeat' split)<;>omega) h.s0
theorem tot_mono (h : OkB rows draw noz weir spill) {a b : Int} (hab : a≤b) : tot rows noz weir spill a≤tot rows noz weir spill b:=by
 have:=over_mono h hab
 have:=sum_mono_map (f:=pour rows a) (g:=pour rows b) (l:=noz) (fun z hz=>pour_mono h hz hab)
 unfold tot gat
 omega
theorem tot_zero (h : OkB rows draw noz weir spill) : tot rows noz weir spill 0 = 0:=by
 have e : gat rows noz 0 = noz.map (fun _=>0):=by
  unfold gat
  refine List.map_congr_left fun z hz=>?_
  have a:=h.nn z hz
  unfold pour
  rw [show mx 0 (mn 5 (0 - z.f1)) = 0 by unfold mx mn;(repeat' split)<;>omega]
  simp
 have s : ∀ l : List S48,(l.map (fun _=>(0 : Int))).sum = 0:=by
  intro l
  induction l with
  | nil=>rfl
  | cons z l ih=>simp only [List.map_cons,List.sum_cons,ih];rfl
 have o : over weir spill 0 = 0:=by
  have:=h.w0
  unfold over
  rw [show mx 0 (0 - weir) = 0 by unfold mx;split<;>omega]
  simp
 unfold tot
 rw [e,s,o]
 rfl
def Lev (rows : List S126) (noz : List S48) (weir spill cups h : Int) : Prop:=0≤h∧h≤40∧tot rows noz weir spill h≤cups∧(h < 40→cups < tot rows noz weir spill (h + 1))
theorem Lev.uniq (h : OkB rows draw noz weir spill) {cups a b : Int} (ha : Lev rows noz weir spill cups a) (hb : Lev rows noz weir spill cups b) : a = b:=by
 obtain ⟨a0,a1,a2,a3⟩:=ha
 obtain ⟨b0,b1,b2,b3⟩:=hb
 rcases Int.lt_trichotomy a b with l | l | l
 ·have:=a3 (by omega)
  have:=tot_mono h (show a + 1≤b by omega)
  omega
 ·exact l
 ·have:=b3 (by omega)
  have:=tot_mono h (show b + 1≤a by omega)
  omega
theorem levelGo_eq (h : OkB rows draw noz weir spill) {cups : Int} : ∀ (n : Nat) (i : Int),0≤i→i + n = 41→(0 < i→tot rows noz weir spill (i - 1)≤cups)→0≤cups→
  ∃ r,levelGo rows draw noz weir spill (grid rows noz) cups n i (mx 0 (i - 1)) = some r∧Lev rows noz weir spill cups r
 | 0,i,h0,hi,hp,hc=>by
  obtain rfl : i = 41:=by omega
  exact ⟨_,rfl,by unfold mx;split<;>omega,by unfold mx;split<;>omega,hp (by omega),fun hh=>absurd hh (by unfold mx;split<;>omega)⟩
 | n + 1,i,h0,hi,hp,hc=>by
  simp only [levelGo]
  rw [out_eq h h0 (by omega),Option.bind_some]
  by_cases g : tot rows noz weir spill i > cups
  ·rw [if_pos g]
   have i0 : 0 < i:=by
    rcases Int.lt_or_eq_of_le h0 with l | l
    ·exact l
    ·rw [← l,tot_zero h] at g;omega
   have e : mx 0 (i - 1) = i - 1:=by unfold mx;split<;>omega
   rw [e]
   exact ⟨_,rfl,by omega,by omega,hp i0,fun _=>by rw [show i - 1 + 1 = i by omega];exact g⟩
  ·rw [if_neg g]
   obtain ⟨r,hr,hl⟩:=levelGo_eq h n (i + 1) (by omega) (by omega) (fun _=>by rw [show i + 1 - 1 = i by omega];omega) hc
   rw [show mx 0 (i + 1 - 1) = i by unfold mx;split<;>omega] at hr
   exact ⟨r,hr,hl⟩
theorem level_eq (h : OkB rows draw noz weir spill) {cups : Int} (hc : 0≤cups) : ∃ r,gf_level.f rows draw noz weir spill (grid rows noz) cups = some r∧Lev rows noz weir spill cups r:=by
 unfold gf_level.f
 rw [grid_len]
 have:=levelGo_eq h (cups:=cups) 41 0 (by omega) (by omega) (fun h=>by omega) hc
 simpa [mx] using this
end
set_option linter.unusedSimpArgs false
section
attribute [local go_sem] max2_int min2_int max_two min_two
set_option linter.unusedSimpArgs false
end
set_option linter.unusedSimpArgs false
set_option linter.unusedSimpArgs false
section
attribute [local go_sem] max2_int min2_int max_two min_two
set_option linter.unusedSimpArgs false
end
set_option linter.unusedSimpArgs false
section
attribute [local go_sem] max2_int min2_int max_two min_two
set_option linter.unusedSimpArgs false
end
def shGo : List Int→List Int→Int→List Int × Int
 | x :: l,y :: n,r=>((x + mn r (y - x)) :: (shGo l n (r - mn r (y - x))).1,(shGo l n (r - mn r (y - x))).2)
 | l,_,r=>(l,r)
def pairOk : List Int→List Int→Prop
 | x :: l,y :: n=>(0≤x∧x≤y∧y≤1000)∧pairOk l n
 | [],[]=>True
 | _,_=>False
theorem mn_in {r d : Int} (h0 : 0≤r) (h1 : 0≤d) : 0≤mn r d∧mn r d≤r∧mn r d≤d:=by unfold mn;split<;>omega
theorem shGo_in : ∀ {l n : List Int} {r : Int},pairOk l n→0≤r→(∀ x ∈ (shGo l n r).1,0≤x∧x≤1000)∧0≤(shGo l n r).2∧(shGo l n r).2≤r∧(shGo l n r).1.length = l.length∧(shGo l n r).1.sum + (shGo l n r).2 = l.sum + r
 | [],[],r,_,hr=>by simp [shGo];omega
 | x :: l,y :: n,r,h,hr=>by
  have m:=mn_in (r:=r) (d:=y - x) hr (by have:=h.1;omega)
  have ih:=shGo_in (r:=r - mn r (y - x)) h.2 (by omega)
  have hx:=h.1
  simp only [shGo,List.length_cons,List.sum_cons]
  refine ⟨fun z hz=>?_,ih.2.1,by omega,by rw [ih.2.2.2.1],by omega⟩
  rcases List.mem_cons.1 hz with rfl | hz
  ·omega
  ·exact ih.1 z hz
 | [],_ :: _,_,h,_=>h.elim
 | _ :: _,[],_,h,_=>h.elim
theorem rd_app (P : List Int) (x : Int) (l : List Int) : rd (P ++ x :: l) (P.length : Int) = x:=by simp [rd]
theorem set_app {α : Type} (P : List α) (x v : α) (l : List α) : (P ++ x :: l).set (P.length : Int).toNat v = P ++ [v] ++ l:=by simp
theorem sh_go {cups : Int} (hc0 : 0≤cups) (hc1 : cups≤10000) : ∀ (l n P Q : List Int) (r : Int) (k : Nat),pairOk l n→P.length = Q.length→(∀ x ∈ P,0≤x∧x≤1000)→P.length + l.length≤100→0≤r→r≤10000→P.length + 2 * l.length + 2 < k→
  gf_shares.l0 k cups (P ++ l) r (Q ++ n) (Q ++ n).length P.length = some (P ++ (shGo l n r).1,cups - (P ++ (shGo l n r).1).sum)
 | [],[],P,Q,r,k,_,hPQ,hP,hl,hr0,hr1,hk=>by
  obtain ⟨k,rfl⟩:=ksucc (by omega : 0 < k)
  simp only [gf_shares.l0,shGo,List.append_nil]
  rw [if_neg (by omega)]
  simp only [List.length_nil] at hl hk
  rw [csum (by omega) (fun x hx=>by have:=hP x hx;omega) (by omega)]
  have s:=sum_bd (l:=P) (B:=1000) (by omega) (fun x hx=>by have:=hP x hx;omega)
  simp only [Option.bind_some]
  rw [w64 (by omega)]
 | x :: l,y :: n,P,Q,r,k,h,hPQ,hP,hl,hr0,hr1,hk=>by
  obtain ⟨k,rfl⟩:=ksucc (by omega : 0 < k)
  simp only [List.length_cons] at hl hk
  have hx:=h.1
  have m:=mn_in (r:=r) (d:=y - x) hr0 (by omega)
  simp only [gf_shares.l0]
  have e : rd (Q ++ y :: n) (P.length : Int) = y:=by rw [hPQ];exact rd_app Q y n
  rw [if_pos (by rw [List.length_append,List.length_cons];omega),if_pos (by omega),if_pos (by rw [List.length_append,List.length_cons];omega),if_pos (by rw [List.length_append,List.length_cons];omega),rd_app,e,w64 (n:=y - x) (by omega),w64 (n:=x + _) (by omega),w64 (n:=r - _) (by omega),w64 (n:=(P.length : Int) + 1) (by omega),set_app]
  have ih:=sh_go hc0 hc1 l n (P ++ [x + mn r (y - x)]) (Q ++ [y]) (r - mn r (y - x)) k h.2 (by simp [hPQ]) (fun z hz=>by
   rcases List.mem_append.1 hz with hz | hz
   ·exact hP z hz
   ·simp at hz;omega) (by simp;omega) (by omega) (by omega) (by simp;omega)
  have e2 : Q ++ y :: n = Q ++ [y] ++ n:=by simp
  rw [e2,show (P.length : Int) + 1 = ((P ++ [x + mn r (y - x)]).length : Int) by simp,ih]
  simp [shGo]
 | [],_ :: _,_,_,_,_,h,_,_,_,_,_,_=>h.elim
 | _ :: _,[],_,_,_,_,h,_,_,_,_,_,_=>h.elim
section
variable {rows : List S126} {draw : Int} {noz : List S48} {weir spill : Int}
def levN (rows : List S126) (noz : List S48) (weir spill cups : Int) : Nat→Int
 | 0=>0
 | n + 1=>if tot rows noz weir spill ((n : Int) + 1)≤cups then (n : Int) + 1 else levN rows noz weir spill cups n
def lev (rows : List S126) (noz : List S48) (weir spill cups : Int) : Int:=levN rows noz weir spill cups 40
theorem levN_is (h : OkB rows draw noz weir spill) {cups : Int} (hc : 0≤cups) : ∀ n : Nat,n≤40→(n < 40→cups < tot rows noz weir spill ((n : Int) + 1))→Lev rows noz weir spill cups (levN rows noz weir spill cups n)
 | 0,_,hn=>⟨by simp [levN],by simp [levN],by simp [levN,tot_zero h,hc],fun _=>by simpa [levN] using hn (by omega)⟩
 | n + 1,h1,hn=>by
  unfold levN
  by_cases g : tot rows noz weir spill ((n : Int) + 1)≤cups
  ·rw [if_pos g]
   exact ⟨by omega,by omega,g,fun _=>by have:=hn (by omega);rw [Int.natCast_add] at this;exact this⟩
  ·rw [if_neg g]
   exact levN_is h hc n (by omega) (fun _=>by omega)
theorem lev_is (h : OkB rows draw noz weir spill) {cups : Int} (hc : 0≤cups) : Lev rows noz weir spill cups (lev rows noz weir spill cups):=levN_is h hc 40 (by omega) (fun h=>by omega)
theorem level_lev (h : OkB rows draw noz weir spill) {cups : Int} (hc : 0≤cups) : gf_level.f rows draw noz weir spill (grid rows noz) cups = some (lev rows noz weir spill cups):=by
 obtain ⟨r,hr,hl⟩:=level_eq h hc
 rw [hr,hl.uniq h (lev_is h hc)]
def shareL (rows : List S126) (noz : List S48) (weir spill cups : Int) : List Int:=
 if lev rows noz weir spill cups < 40 then (shGo (gat rows noz (lev rows noz weir spill cups)) (gat rows noz (lev rows noz weir spill cups + 1)) (cups - tot rows noz weir spill (lev rows noz weir spill cups))).1 else gat rows noz (lev rows noz weir spill cups)
theorem gat_pairs (h : OkB rows draw noz weir spill) {a b : Int} (hab : a≤b) : pairOk (gat rows noz a) (gat rows noz b):=by
 have : ∀ l : List S48,(∀ z ∈ l,z ∈ noz)→pairOk (l.map (pour rows a)) (l.map (pour rows b)):=by
  intro l
  induction l with
  | nil=>intro _;trivial
  | cons z l ih =>
   intro hl
   have hz:=hl z (by simp)
   exact ⟨⟨(pour_in h hz a).1,pour_mono h hz hab,(pour_in h hz b).2⟩,ih (fun y hy=>hl y (by simp [hy]))⟩
 exact this noz (fun _ hz=>hz)
theorem shareL_in (h : OkB rows draw noz weir spill) {cups : Int} (hc : 0≤cups) : (∀ x ∈ shareL rows noz weir spill cups,0≤x∧x≤1000)∧(shareL rows noz weir spill cups).length = noz.length:=by
 have L:=lev_is h hc
 unfold shareL
 by_cases g : lev rows noz weir spill cups < 40
 ·rw [if_pos g]
  have a:=shGo_in (r:=cups - tot rows noz weir spill (lev rows noz weir spill cups)) (gat_pairs h (show lev rows noz weir spill cups≤lev rows noz weir spill cups + 1 by omega)) (by have:=L.2.2.1;omega)
  exact ⟨a.1,by rw [a.2.2.2.1,gat_len]⟩
 ·rw [if_neg g]
  exact ⟨gat_in h _,gat_len _⟩
theorem clone_int {l : List Int} (hl : l.length≤1000) : sl_Clone_int.f l = some l:=by unfold sl_Clone_int.f;rw [if_pos (by omega)]
theorem shares_eq (h : OkB rows draw noz weir spill) {cups : Int} (hc0 : 0≤cups) (hc1 : cups≤10000) {k : Nat} (hk : 20≤k) :
  gf_shares.f k rows draw noz weir spill (grid rows noz) cups = some (shareL rows noz weir spill cups,cups - (shareL rows noz weir spill cups).sum):=by
 have L:=lev_is h hc0
 have n2:=h.n2
 have t0:=tot_in h L.1 L.2.1
 have B:=shareL_in h hc0
 have s:=sum_bd (l:=shareL rows noz weir spill cups) (B:=1000) (by omega) (fun x hx=>by have:=B.1 x hx;omega)
 rw [B.2] at s
 unfold gf_shares.f
 rw [level_lev h hc0,Option.bind_some,if_pos L.1,if_pos (by rw [grid_len];have:=L.2.1;omega),grid_at _ _ L.1 L.2.1,clone_int (by rw [gat_len];omega),Option.bind_some]
 unfold shareL
 by_cases g : lev rows noz weir spill cups < 40
 ·rw [if_pos g,if_pos g,out_eq h L.1 L.2.1,Option.bind_some,w64 (n:=_ + 1) (by have:=L.1;omega),if_pos (by have:=L.1;omega),if_pos (by rw [grid_len];omega),grid_at _ _ (by have:=L.1;omega) (by omega),w64 (by omega)]
  have f:=sh_go hc0 hc1 (gat rows noz (lev rows noz weir spill cups)) (gat rows noz (lev rows noz weir spill cups + 1)) [] [] (cups - tot rows noz weir spill (lev rows noz weir spill cups)) k (gat_pairs h (by omega)) rfl (fun x hx=>by simp at hx) (by simp [gat_len];omega) (by have:=L.2.2.1;omega) (by omega) (by simp [gat_len];omega)
  simpa using f
 ·rw [if_neg g,if_neg g]
  have a:=gat_in h (lev rows noz weir spill cups)
  rw [csum (by rw [gat_len];omega) (fun x hx=>by have:=a x hx;omega) (by rw [gat_len];omega),Option.bind_some]
  have c:=gsum_in h (lev rows noz weir spill cups)
  rw [w64 (by omega)]
def setH (noz : List S48) (l : List Int) : List S48:=List.zipWith (fun z x=>(⟨z.f0,x⟩ : S48)) noz l
end
theorem short_eq {rows : List S126} {draw : Int} {noz : List S48} {weir spill : Int} : l4_short.f rows draw noz weir spill = some (decide (rows.length≤15∧noz.length≤8)):=by
 unfold l4_short.f
 by_cases h : (rows.length : Int)≤15
 ·rw [if_pos h,show decide (rows.length≤15∧noz.length≤8) = decide ((noz.length : Int)≤8) from by rw [decide_eq_decide];omega]
 ·rw [if_neg h,decide_eq_false (by omega)]
section
variable {rows : List S126} {draw : Int} {noz : List S48} {weir spill : Int}
end
def spanF (a b : Int) : Bool:=decide (0≤a∧a≤10000) && (decide (0≤b∧b≤10000) && decide (a≤b))
theorem isSpanF_eq (a b : Int) : isSpan_isFlow.f a b = some (spanF a b):=by
 unfold isSpan_isFlow.f spanF
 simp only [c_flow,Option.bind_some]
 cases decide (0≤a∧a≤10000)<;>cases decide (0≤b∧b≤10000)<;>rfl
theorem flow_eq (a b : Int) : q4_Flow.f a b = some (spanF a b):=by
 unfold q4_Flow.f spanF
 simp only [r_cups,Option.bind_some]
 cases decide (0≤a∧a≤10000)<;>cases decide (0≤b∧b≤10000)<;>rfl
theorem spanF_iff {a b : Int} : spanF a b = true↔0≤a∧a≤b∧b≤10000:=by
 unfold spanF
 simp only [Bool.and_eq_true,decide_eq_true_eq]
 omega
section
variable {rows : List S126} {draw : Int} {noz : List S48} {weir spill : Int}
theorem lev_ge (h : OkB rows draw noz weir spill) {cups x : Int} (hc : 0≤cups) (h0 : 0≤x) (h1 : x≤40) : x≤lev rows noz weir spill cups↔tot rows noz weir spill x≤cups:=by
 obtain ⟨a,b,c,d⟩:=lev_is h hc
 constructor
 ·intro q
  have:=tot_mono h q
  omega
 ·intro q
  rcases (show lev rows noz weir spill cups < x∨x≤lev rows noz weir spill cups by omega) with l | l
  ·have:=d (by omega)
   have:=tot_mono h (show lev rows noz weir spill cups + 1≤x by omega)
   omega
  ·exact l
theorem cLevel_eq (h : OkB rows draw noz weir spill) {a b : Int} (ha : 0≤a) (hab : a≤b) (hb : b≤10000) {k : Nat} (hk : 405≤k) : ca_Level.f k rows draw noz weir spill a b = some (lev rows noz weir spill a,lev rows noz weir spill b,0):=by
 obtain ⟨k,rfl⟩:=ksucc (by omega : 0 < k)
 unfold ca_Level.f
 rw [isBasin_eq (by have:=h.r2;omega),okB_iff.2 h,Option.bind_some,if_pos rfl,isSpanF_eq,spanF_iff.2 ⟨ha,hab,hb⟩,Option.bind_some]
 simp only [ca_Level.j0,Bool.not_true]
 rw [if_neg (by decide),fill_eq h (by omega),Option.bind_some]
 simp only [level_lev h ha,level_lev h (show 0≤b by omega),Option.bind_some]
end
section
variable {rows : List S126} {draw : Int} {noz : List S48} {weir spill : Int}
end
def zipS (X Y : List Int) : List S54:=List.zipWith (fun a b=>(⟨a,b⟩ : S54)) X Y
theorem drop_rd {X : List Int} {i : Int} (h0 : 0≤i) (h1 : i < X.length) : X.drop i.toNat = rd X i :: X.drop (i.toNat + 1):=by
 have hi : i.toNat < X.length:=by omega
 rw [List.drop_eq_getElem_cons hi];simp [rd,hi]
theorem zipS_drop {X Y : List Int} {i : Int} (hl : X.length = Y.length) (h0 : 0≤i) (h1 : i < X.length) : zipS (X.drop i.toNat) (Y.drop i.toNat) = (⟨rd X i,rd Y i⟩ : S54) :: zipS (X.drop (i.toNat + 1)) (Y.drop (i.toNat + 1)):=by
 rw [drop_rd h0 h1,drop_rd h0 (by omega)];rfl
theorem cb_go (X Y : List Int) (a b : Int) (hl : X.length = Y.length) (hb : X.length≤100) : ∀ (d k : Nat) (i : Int) (out : List S54),0≤i→i + d = X.length→d < k→out.length + d≤1000→
  ca_Bounds.l0 k X a Y b out (X.length : Int) i = some (out ++ zipS (X.drop i.toNat) (Y.drop i.toNat),a,b,0)
 | 0,k,i,out,h0,h1,hk,ho=>by
  obtain ⟨k,rfl⟩:=ksucc (by omega : 0 < k)
  simp only [ca_Bounds.l0]
  rw [if_neg (by omega),List.drop_of_length_le (by omega)]
  simp [zipS]
 | d + 1,k,i,out,h0,h1,hk,ho=>by
  obtain ⟨k,rfl⟩:=ksucc (by omega : 0 < k)
  simp only [ca_Bounds.l0]
  rw [if_pos (by omega),if_pos h0,if_pos (by omega),if_pos (by omega),if_pos (by omega),w64 (n:=i + 1) (by omega),zipS_drop hl h0 (by omega)]
  rw [cb_go X Y a b hl hb d k (i + 1) _ (by omega) (by omega) (by omega) (by simp;omega),show (i + 1).toNat = i.toNat + 1 by omega]
  simp
section
variable {rows : List S126} {draw : Int} {noz : List S48} {weir spill : Int}
def bndL (rows : List S126) (noz : List S48) (weir spill a b : Int) : List S54:=zipS (shareL rows noz weir spill a) (shareL rows noz weir spill b)
theorem cBounds_eq (h : OkB rows draw noz weir spill) {a b : Int} (ha : 0≤a) (hab : a≤b) (hb : b≤10000) {k : Nat} (hk : 410≤k) :
  ca_Bounds.f k rows draw noz weir spill a b = some (bndL rows noz weir spill a b,a - (shareL rows noz weir spill a).sum,b - (shareL rows noz weir spill b).sum,0):=by
 obtain ⟨k,rfl⟩:=ksucc (by omega : 0 < k)
 have s1:=shareL_in h ha
 have s2:=shareL_in h (show 0≤b by omega)
 have n2:=h.n2
 unfold ca_Bounds.f
 rw [isBasin_eq (by have:=h.r2;omega),okB_iff.2 h,Option.bind_some,if_pos rfl,isSpanF_eq,spanF_iff.2 ⟨ha,hab,hb⟩,Option.bind_some]
 simp only [ca_Bounds.j0,Bool.not_true]
 rw [if_neg (by decide),fill_eq h (by omega),Option.bind_some]
 simp only [shares_eq h ha (show a≤10000 by omega) (show 20≤k by omega),shares_eq h (show 0≤b by omega) hb (show 20≤k by omega),Option.bind_some]
 rw [cb_go _ _ _ _ (by rw [s1.2,s2.2]) (by rw [s1.2];omega) (shareL rows noz weir spill a).length k 0 [] (by omega) (by omega) (by rw [s1.2];omega) (by rw [s1.2];simp;omega)]
 rfl
theorem bndL_len (h : OkB rows draw noz weir spill) {a b : Int} (ha : 0≤a) (hb : 0≤b) : (bndL rows noz weir spill a b).length = noz.length:=by
 simp [bndL,zipS,(shareL_in h ha).2,(shareL_in h hb).2]
end
section
attribute [local go_sem] max2_int min2_int max_two min_two
set_option linter.unusedSimpArgs false
end
section
variable {rows : List S126} {draw : Int} {noz : List S48} {weir spill : Int}
theorem cOut_eq (h : OkB rows draw noz weir spill) {x : Int} (h0 : 0≤x) (h1 : x≤40) {k : Nat} (hk : 410≤k) : ca_Out.f k rows draw noz weir spill x = some (gat rows noz x,over weir spill x,0):=by
 obtain ⟨k,rfl⟩:=ksucc (by omega : 0 < k)
 unfold ca_Out.f
 rw [isBasin_eq (by have:=h.r2;omega),okB_iff.2 h,Option.bind_some,if_pos rfl,c_height,decide_eq_true ⟨h0,h1⟩,Option.bind_some]
 simp only [ca_Out.j0,Bool.not_true]
 rw [if_neg (by decide),fill_eq h (by omega),Option.bind_some]
 simp only
 rw [if_pos h0,if_pos (by rw [grid_len];omega),weir_eq h h0 h1,Option.bind_some,grid_at _ _ h0 h1]
end
def leL : List Int→List Int→Prop
 | x :: l,y :: m=>x≤y∧leL l m
 | [],[]=>True
 | _,_=>False
theorem leL.refl : ∀ l : List Int,leL l l
 | []=>trivial
 | x :: l=>⟨Int.le_refl x,leL.refl l⟩
theorem leL.trans : ∀ {a b c : List Int},leL a b→leL b c→leL a c
 | [],[],[],_,_=>trivial
 | x :: a,y :: b,z :: c,h,k=>⟨Int.le_trans h.1 k.1,leL.trans h.2 k.2⟩
 | [],_ :: _,_,h,_=>h.elim
 | _ :: _,[],_,h,_=>h.elim
 | [],[],_ :: _,_,k=>k.elim
 | _ :: _,_ :: _,[],_,k=>k.elim
theorem leL.rd : ∀ {a b : List Int},leL a b→∀ n : Nat,a.getD n 0≤b.getD n 0
 | [],[],_,n=>by simp
 | x :: a,y :: b,h,0=>by simpa using h.1
 | x :: a,y :: b,h,n + 1=>by simpa using leL.rd h.2 n
 | [],_ :: _,h,_=>h.elim
 | _ :: _,[],h,_=>h.elim
theorem pairOk.le : ∀ {l n : List Int},pairOk l n→leL l n
 | [],[],_=>trivial
 | x :: l,y :: n,h=>⟨h.1.2.1,pairOk.le h.2⟩
 | [],_ :: _,h=>h.elim
 | _ :: _,[],h=>h.elim
theorem shGo_le : ∀ {l n : List Int} {r : Int},pairOk l n→0≤r→leL (shGo l n r).1 n∧leL l (shGo l n r).1
 | [],[],_,_,_=>⟨trivial,trivial⟩
 | x :: l,y :: n,r,h,h0=>by
  have m:=mn_in (r:=r) (d:=y - x) h0 (by have:=h.1;omega)
  have ih:=shGo_le (r:=r - mn r (y - x)) h.2 (by omega)
  exact ⟨⟨by omega,ih.1⟩,⟨by omega,ih.2⟩⟩
 | [],_ :: _,_,h,_=>h.elim
 | _ :: _,[],_,h,_=>h.elim
theorem shGo_mono : ∀ {l n : List Int} {r r' : Int},pairOk l n→0≤r→r≤r'→leL (shGo l n r).1 (shGo l n r').1∧(shGo l n r).2≤(shGo l n r').2
 | [],[],_,_,_,_,h1=>⟨trivial,h1⟩
 | x :: l,y :: n,r,r',h,h0,h1=>by
  have e : mn r (y - x)≤mn r' (y - x)∧r - mn r (y - x)≤r' - mn r' (y - x):=by unfold mn;have:=h.1;split<;>split<;>omega
  have m:=mn_in (r:=r) (d:=y - x) h0 (by have:=h.1;omega)
  have ih:=shGo_mono (r:=r - mn r (y - x)) (r':=r' - mn r' (y - x)) h.2 (by omega) e.2
  exact ⟨⟨by omega,ih.1⟩,ih.2⟩
 | [],_ :: _,_,_,h,_,_=>h.elim
 | _ :: _,[],_,_,h,_,_=>h.elim
theorem shGo_full : ∀ {l n : List Int} {r : Int},pairOk l n→0≤r→0 < (shGo l n r).2→(shGo l n r).1 = n
 | [],[],_,_,_,_=>rfl
 | x :: l,y :: n,r,h,h0,h1=>by
  have m:=mn_in (r:=r) (d:=y - x) h0 (by have:=h.1;omega)
  have h1 : 0 < (shGo l n (r - mn r (y - x))).2:=h1
  have ih:=shGo_full (r:=r - mn r (y - x)) h.2 (by omega) h1
  have q:=(shGo_in (r:=r - mn r (y - x)) h.2 (by omega)).2.2.1
  have mm : mn r (y - x) = r∨mn r (y - x) = y - x:=by unfold mn;split<;>omega
  have e : mn r (y - x) = y - x:=by omega
  show (x + mn r (y - x)) :: (shGo l n (r - mn r (y - x))).1 = y :: n
  rw [ih,e,show x + (y - x) = y by omega]
 | [],_ :: _,_,h,_,_=>h.elim
 | _ :: _,[],_,h,_,_=>h.elim
section
variable {rows : List S126} {draw : Int} {noz : List S48} {weir spill : Int}
theorem lev_mono (h : OkB rows draw noz weir spill) {a c : Int} (ha : 0≤a) (hac : a≤c) : lev rows noz weir spill a≤lev rows noz weir spill c:=by
 have L:=lev_is h ha
 exact (lev_ge h (show 0≤c by omega) L.1 L.2.1).2 (by have:=L.2.2.1;omega)
theorem over_is (h : OkB rows draw noz weir spill) {c : Int} (hc : 0≤c) (g : lev rows noz weir spill c < 40) :
  c - (shareL rows noz weir spill c).sum = over weir spill (lev rows noz weir spill c) + (shGo (gat rows noz (lev rows noz weir spill c)) (gat rows noz (lev rows noz weir spill c + 1)) (c - tot rows noz weir spill (lev rows noz weir spill c))).2:=by
 have L:=lev_is h hc
 have q:=(shGo_in (r:=c - tot rows noz weir spill (lev rows noz weir spill c)) (gat_pairs h (show lev rows noz weir spill c≤lev rows noz weir spill c + 1 by omega)) (by have:=L.2.2.1;omega)).2.2.2.2
 have te : tot rows noz weir spill (lev rows noz weir spill c) = (gat rows noz (lev rows noz weir spill c)).sum + over weir spill (lev rows noz weir spill c):=rfl
 have e : shareL rows noz weir spill c = (shGo (gat rows noz (lev rows noz weir spill c)) (gat rows noz (lev rows noz weir spill c + 1)) (c - tot rows noz weir spill (lev rows noz weir spill c))).1:=by unfold shareL;rw [if_pos g]
 rw [e];omega
theorem over_ge (h : OkB rows draw noz weir spill) {c : Int} (hc : 0≤c) : over weir spill (lev rows noz weir spill c)≤c - (shareL rows noz weir spill c).sum:=by
 have L:=lev_is h hc
 have l3:=L.2.2.1
 by_cases g : lev rows noz weir spill c < 40
 ·rw [over_is h hc g]
  have q:=(shGo_in (r:=c - tot rows noz weir spill (lev rows noz weir spill c)) (gat_pairs h (show lev rows noz weir spill c≤lev rows noz weir spill c + 1 by omega)) (by omega)).2.1
  omega
 ·have te : tot rows noz weir spill (lev rows noz weir spill c) = (gat rows noz (lev rows noz weir spill c)).sum + over weir spill (lev rows noz weir spill c):=rfl
  unfold shareL;rw [if_neg g];omega
theorem share_ge (h : OkB rows draw noz weir spill) {c : Int} (hc : 0≤c) : leL (gat rows noz (lev rows noz weir spill c)) (shareL rows noz weir spill c):=by
 have L:=lev_is h hc
 have l3:=L.2.2.1
 unfold shareL
 by_cases g : lev rows noz weir spill c < 40
 ·rw [if_pos g];exact (shGo_le (gat_pairs h (by omega)) (by omega)).2
 ·rw [if_neg g];exact leL.refl _
theorem share_mono (h : OkB rows draw noz weir spill) {a c : Int} (ha : 0≤a) (hac : a≤c) : leL (shareL rows noz weir spill a) (shareL rows noz weir spill c)∧a - (shareL rows noz weir spill a).sum≤c - (shareL rows noz weir spill c).sum:=by
 have hc : 0≤c:=by omega
 have La:=lev_is h ha
 have Lc:=lev_is h hc
 have m:=lev_mono h ha hac
 have a3:=La.2.2.1
 have c3:=Lc.2.2.1
 by_cases g : lev rows noz weir spill a < lev rows noz weir spill c
 ·have g40 : lev rows noz weir spill a < 40:=by have:=Lc.2.1;omega
  have hp:=gat_pairs h (show lev rows noz weir spill a≤lev rows noz weir spill a + 1 by omega)
  have r0 : 0≤a - tot rows noz weir spill (lev rows noz weir spill a):=by omega
  have e : shareL rows noz weir spill a = (shGo (gat rows noz (lev rows noz weir spill a)) (gat rows noz (lev rows noz weir spill a + 1)) (a - tot rows noz weir spill (lev rows noz weir spill a))).1:=by unfold shareL;rw [if_pos g40]
  have up : leL (gat rows noz (lev rows noz weir spill a + 1)) (gat rows noz (lev rows noz weir spill c)):=(gat_pairs h (by omega)).le
  refine ⟨by rw [e];exact ((shGo_le hp r0).1.trans up).trans (share_ge h hc),?_⟩
  refine Int.le_trans ?_ (over_ge h hc)
  have om:=over_mono h (show lev rows noz weir spill a + 1≤lev rows noz weir spill c by omega)
  have oi:=over_is h ha g40
  have om0:=over_mono h (show lev rows noz weir spill a≤lev rows noz weir spill a + 1 by omega)
  rcases (show (shGo (gat rows noz (lev rows noz weir spill a)) (gat rows noz (lev rows noz weir spill a + 1)) (a - tot rows noz weir spill (lev rows noz weir spill a))).2≤0∨0 < (shGo (gat rows noz (lev rows noz weir spill a)) (gat rows noz (lev rows noz weir spill a + 1)) (a - tot rows noz weir spill (lev rows noz weir spill a))).2 by omega) with z | z
  ·omega
  ·have f:=shGo_full hp r0 z
   have te : tot rows noz weir spill (lev rows noz weir spill a + 1) = (gat rows noz (lev rows noz weir spill a + 1)).sum + over weir spill (lev rows noz weir spill a + 1):=rfl
   have l4:=La.2.2.2 g40
   rw [e,f]
   omega
 ·have el : lev rows noz weir spill a = lev rows noz weir spill c:=by omega
  by_cases g40 : lev rows noz weir spill c < 40
  ·have hp:=gat_pairs h (show lev rows noz weir spill c≤lev rows noz weir spill c + 1 by omega)
   have mm:=shGo_mono (r:=a - tot rows noz weir spill (lev rows noz weir spill c)) (r':=c - tot rows noz weir spill (lev rows noz weir spill c)) hp (by rw [← el];omega) (by omega)
   refine ⟨?_,?_⟩
   ·unfold shareL;rw [el,if_pos g40,if_pos g40];exact mm.1
   ·rw [over_is h ha (by omega),over_is h hc g40,el]
    have:=mm.2
    omega
  ·refine ⟨?_,?_⟩
   ·unfold shareL;rw [el,if_neg g40,if_neg g40];exact leL.refl _
   ·unfold shareL;rw [el,if_neg g40,if_neg g40];omega
end
theorem rd_zipM {X Y : List Int} (hl : X.length = Y.length) {i : Int} (h0 : 0≤i) (h1 : i < X.length) : rd_T54 (zipS X Y) i = (⟨rd X i,rd Y i⟩ : S54):=by
 have hi : i.toNat < X.length:=by omega
 have hj : i.toNat < Y.length:=by omega
 have hz : i.toNat < (zipS X Y).length:=by simp [zipS];omega
 have : rd_T54 (zipS X Y) i = (zipS X Y)[i.toNat]:=by simp [rd_T54,hz]
 rw [this]
 simp [zipS,rd,hi,hj]
theorem more_go (n : Nat) (A C A' C' G H : List Int) (lA : A.length = n) (lC : C.length = n) (lA' : A'.length = n) (lC' : C'.length = n) (lG : G.length = n) (lH : H.length = n) (hb : n≤100) (l1 : leL A' A) (l2 : leL C C') (l3 : leL G H) : ∀ (d k : Nat) (i : Int),0≤i→i + d = n→d < k→
  l4_CastleMore.l0 k (zipS A C) (zipS A' C') G H (n : Int) i = some true
 | 0,k,i,h0,h1,hk=>by
  obtain ⟨k,rfl⟩:=ksucc (by omega : 0 < k)
  simp only [l4_CastleMore.l0]
  rw [if_neg (by omega),known_true];rfl
 | d + 1,k,i,h0,h1,hk=>by
  obtain ⟨k,rfl⟩:=ksucc (by omega : 0 < k)
  simp only [l4_CastleMore.l0]
  have zl : (zipS A C).length = n:=by simp [zipS];omega
  have zl' : (zipS A' C').length = n:=by simp [zipS];omega
  have e1 : rd A' i≤rd A i:=l1.rd i.toNat
  have e2 : rd C i≤rd C' i:=l2.rd i.toNat
  have e3 : rd G i≤rd H i:=l3.rd i.toNat
  rw [if_pos (by omega),if_pos h0,if_pos (by rw [zl'];omega),if_pos (by rw [zl];omega),rd_zipM (by omega) h0 (by omega),rd_zipM (by omega) h0 (by omega)]
  rw [if_neg (show ¬ rd A' i > rd A i by omega),if_neg (show ¬ rd C' i < rd C i by omega),if_pos (by omega),if_pos (by omega),if_neg (by omega),w64 (n:=i + 1) (by omega)]
  exact more_go n A C A' C' G H lA lC lA' lC' lG lH hb l1 l2 l3 d k (i + 1) (by omega) (by omega) (by omega)
theorem more_pure (rows : List S126) (draw : Int) (noz : List S48) (weir spill a b down up low high : Int) {k : Nat} (hk : 500≤k) : l4_CastleMore.f k rows draw noz weir spill a b down up low high = some true:=by
 obtain ⟨k,rfl⟩ : ∃ m,k = m + 1 + 1 + 1:=⟨k - 3,by omega⟩
 unfold l4_CastleMore.f
 rw [short_eq,Option.bind_some]
 have nope : l4_CastleMore.j0 (k + 1 + 1 + 1) down up low high true rows draw noz weir spill a b = some true:=by
  simp only [l4_CastleMore.j0]
  rw [if_pos trivial,known_true];rfl
 by_cases s : rows.length≤15∧noz.length≤8
 case neg=>rw [decide_eq_false s,if_neg (by decide),nope]
 rw [decide_eq_true s,if_pos rfl,refBasin_eq (by omega) (by omega) (by omega),Option.bind_some]
 cases hb : okB rows draw noz weir spill with
 | false=>rw [if_neg (by decide),nope]
 | true =>
  rw [if_pos rfl,flow_eq,Option.bind_some]
  cases hf : spanF a b with
  | false=>rw [if_neg (by decide),nope]
  | true =>
   rw [if_pos rfl,r_cups,Option.bind_some]
   by_cases c1 : 0≤down∧down≤10000
   case neg=>rw [decide_eq_false c1,if_neg (by decide),nope]
   rw [decide_eq_true c1,if_pos rfl,r_cups,Option.bind_some]
   by_cases c2 : 0≤up∧up≤10000
   case neg=>rw [decide_eq_false c2,if_neg (by decide),nope]
   rw [decide_eq_true c2,if_pos rfl,r_height,Option.bind_some]
   by_cases c3 : 0≤low∧low≤40
   case neg=>rw [decide_eq_false c3,if_neg (by decide),nope]
   rw [decide_eq_true c3,if_pos rfl,r_height,Option.bind_some]
   by_cases c4 : 0≤high∧high≤40
   case neg=>rw [decide_eq_false c4,if_neg (by decide),nope]
   rw [decide_eq_true c4,if_pos rfl]
   by_cases c5 : low > high
   ·rw [decide_eq_true c5,nope]
   rw [decide_eq_false c5]
   have h:=okB_iff.1 hb
   have sp:=spanF_iff.1 hf
   have n2:=h.n2
   obtain ⟨a',ha'⟩ : ∃ a',mx 0 (a - down) = a':=⟨_,rfl⟩
   obtain ⟨b',hb'⟩ : ∃ b',mn 10000 (b + up) = b':=⟨_,rfl⟩
   have ia : 0≤a'∧a'≤a:=by subst ha';unfold mx;split<;>omega
   have ib : b≤b'∧b'≤10000:=by subst hb';unfold mn;split<;>omega
   have Ba:=shareL_in h sp.1
   have Bb:=shareL_in h (show 0≤b by omega)
   have Ba':=shareL_in h ia.1
   have Bb':=shareL_in h (show 0≤b' by omega)
   have m1:=share_mono h ia.1 ia.2
   have m2:=share_mono h (show 0≤b by omega) ib.1
   have v1:=lev_mono h ia.1 ia.2
   have v2:=lev_mono h (show 0≤b by omega) ib.1
   have g1:=(gat_pairs h (show low≤high by omega)).le
   have o1:=over_mono h (show low≤high by omega)
   simp only [l4_CastleMore.j0,Bool.false_eq_true,if_false]
   rw [w64 (n:=a - down) (by omega),w64 (n:=b + up) (by omega),ha',hb',cBounds_eq h sp.1 sp.2.1 sp.2.2 (by omega),Option.bind_some,cBounds_eq h ia.1 (by omega) ib.2 (by omega),Option.bind_some,cLevel_eq h sp.1 sp.2.1 sp.2.2 (by omega),Option.bind_some,cLevel_eq h ia.1 (by omega) ib.2 (by omega),Option.bind_some,cOut_eq h c3.1 c3.2 (by omega),Option.bind_some,cOut_eq h c4.1 c4.2 (by omega),Option.bind_some]
   simp only [if_true,bndL_len h sp.1 (show 0≤b by omega),bndL_len h ia.1 (show 0≤b' by omega),gat_len]
   rw [if_neg (show ¬ lev rows noz weir spill a' > lev rows noz weir spill a by omega),if_neg (show ¬ lev rows noz weir spill b' < lev rows noz weir spill b by omega),if_neg (by omega),if_neg (by omega),decide_eq_false (by omega)]
   simp only [l4_CastleMore.j1,Bool.false_eq_true,if_false]
   exact more_go noz.length _ _ _ _ _ _ (by rw [Ba.2]) (by rw [Bb.2]) (by rw [Ba'.2]) (by rw [Bb'.2]) (gat_len _) (gat_len _) (by omega) m1.1 m2.1 g1 noz.length _ 0 (by omega) (by omega) (by omega)
end Go.Proofs.YtnnmnhpeblhiiaaGreatDoor.C

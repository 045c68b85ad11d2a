/- A part of the proof: the walks of the functions that it reaches. TIGHT. -/
import Derived.Test.YtnnmnhpeblhiiaaGreatDoorMW11
import Derived.Laws.EntriesVeiled
set_option linter.unusedVariables false
set_option linter.unusedSimpArgs false
namespace Go.Proofs.YtnnmnhpeblhiiaaGreatDoor.C
open Go.RowKit Go.Proofs.YtnnmnhpeblhiiaaGreatDoorW.PrintWords Go.Proofs.YtnnmnhpeblhiiaaGreatDoorW.PrintLast Go.Proofs.YtnnmnhpeblhiiaaGreatDoorW.PrintMore
set_option linter.unusedVariables false
set_option linter.unusedSimpArgs false
set_option maxHeartbeats 16000000
set_option maxRecDepth 100000
section
attribute [local go_sem] max2_int min2_int max_two min_two
set_option linter.unusedSimpArgs false
set_option linter.unusedSimpArgs false
set_option linter.unusedSimpArgs false
set_option linter.unusedSimpArgs false
set_option linter.unusedSimpArgs false
set_option linter.unusedSimpArgs false
set_option linter.unusedSimpArgs false
set_option linter.unusedSimpArgs false
set_option linter.unusedSimpArgs false
set_option linter.unusedSimpArgs false
set_option linter.unusedSimpArgs false
end
theorem w64 {n : Int} (h : -9223372036854775808≤n∧n≤9223372036854775807) : wrap64 n = n:=by unfold wrap64;omega
theorem ksucc {k : Nat} (h : 0 < k) : ∃ m,k = m + 1:=⟨k - 1,by omega⟩
def rowOk (r : S126) : Bool:=decide (1≤r.f0∧r.f0≤60) && (decide (1≤r.f1∧r.f1≤60) && decide (1≤r.f2∧r.f2≤1000))
def nozOk (n : Int) (z : S48) : Bool:=decide (0≤z.f0∧z.f0≤n - 1) && decide (0≤z.f1∧z.f1≤40)
def okT (rows : List S126) (draw : Int) : Bool:=decide (1≤(rows.length : Int)∧(rows.length : Int)≤12) && (decide (0≤draw∧draw≤100) && rows.all rowOk)
def okB (rows : List S126) (draw : Int) (noz : List S48) (weir spill : Int) : Bool:=
 okT rows draw && (decide (1≤(noz.length : Int)∧(noz.length : Int)≤6) && (decide (0≤weir∧weir≤40) && (decide (0≤spill∧spill≤100) && noz.all (nozOk rows.length))))
theorem c_in (a b c : Int) : ca_in.f a b c = some (decide (b≤a∧a≤c)):=by
 unfold ca_in.f
 by_cases h : a ≥ b
 ·rw [if_pos h];have : b≤a:=h;simp [this]
 ·rw [if_neg h];have : ¬ b≤a:=h;simp [this]
theorem n_in (a b c : Int) : nz_in.f a b c = some (decide (b≤a∧a≤c)):=c_in a b c
theorem r4_in (a b c : Int) : q4_in.f a b c = some (decide (b≤a∧a≤c)):=c_in a b c
theorem r3_in (a b c : Int) : q3_in.f a b c = some (decide (b≤a∧a≤c)):=c_in a b c
theorem c_height (a : Int) : ca_isHeight.f a = some (decide (0≤a∧a≤40)):=by unfold ca_isHeight.f;rw [c_in];rfl
theorem c_flow (a : Int) : ca_isFlow.f a = some (decide (0≤a∧a≤10000)):=by unfold ca_isFlow.f;rw [c_in];rfl
theorem r_height (a : Int) : q4_Height.f a = some (decide (0≤a∧a≤40)):=by unfold q4_Height.f;rw [r4_in];rfl
theorem r_cups (a : Int) : q4_Cups.f a = some (decide (0≤a∧a≤10000)):=by unfold q4_Cups.f;rw [r4_in];rfl
theorem anyM_total {α : Type} {q : α→Option Bool} {p : α→Bool} (h : ∀ x,q x = some (p x)) : ∀ xs,anyM q xs = some (xs.any p)
 | []=>rfl
 | x :: xs=>by
  simp only [anyM,h,Option.bind_some,List.any_cons,anyM_total h xs]
  cases p x<;>rfl
theorem row_bad (x : S126) : nz_isTable_1.f x.f0 x.f1 x.f2 = some (!rowOk x):=by
 unfold nz_isTable_1.f rowOk
 simp only [n_in,Option.bind_some]
 cases decide (1≤x.f0∧x.f0≤60)<;>cases decide (1≤x.f1∧x.f1≤60)<;>cases decide (1≤x.f2∧x.f2≤1000)<;>rfl
theorem noz_bad {rows : List S126} (hl : rows.length≤1000) (x : S48) : ca_isBasin_1.f rows x = some (!nozOk rows.length x):=by
 unfold ca_isBasin_1.f nozOk
 rw [w64 (by omega)]
 simp only [c_in,c_height,Option.bind_some]
 cases decide (0≤x.f0∧x.f0≤(rows.length : Int) - 1)<;>cases decide (0≤x.f1∧x.f1≤40)<;>rfl
theorem isTable_eq (rows : List S126) (draw : Int) : nz_isTable.f rows draw = some (okT rows draw):=by
 unfold nz_isTable.f okT cf_isTable.f
 rw [anyM_total row_bad,← List.not_all_eq_any_not]
 simp only [n_in,Option.bind_some]
 cases decide (1≤(rows.length : Int)∧(rows.length : Int)≤12)<;>cases decide (0≤draw∧draw≤100)<;>cases rows.all rowOk<;>rfl
theorem isBasin_eq {rows : List S126} {draw : Int} {noz : List S48} {weir spill : Int} (hl : rows.length≤1000) : ca_isBasin.f rows draw noz weir spill = some (okB rows draw noz weir spill):=by
 unfold ca_isBasin.f okB nz_Check.f
 rw [anyM_total (noz_bad hl),← List.not_all_eq_any_not,isTable_eq]
 simp only [c_in,c_height,Option.bind_some]
 cases okT rows draw<;>cases decide (1≤(noz.length : Int)∧(noz.length : Int)≤6)<;>cases decide (0≤weir∧weir≤40)<;>cases decide (0≤spill∧spill≤100)<;>cases noz.all (nozOk rows.length)<;>rfl
theorem refTable_go (rows : List S126) (draw : Int) (hl : rows.length≤1000) : ∀ (d k : Nat) (i : Int),0≤i→i + d = rows.length→d < k→
 q3_Table.l0 k i rows draw = some ((rows.drop i.toNat).all rowOk && (decide (1≤(rows.length : Int)∧(rows.length : Int)≤12) && decide (0≤draw∧draw≤100)))
 | 0,k,i,h0,hi,hk=>by
  obtain ⟨k,rfl⟩:=ksucc hk
  simp only [q3_Table.l0]
  rw [if_neg (by omega),List.drop_of_length_le (by omega)]
  simp only [r3_in,Option.bind_some,List.all_nil,Bool.true_and]
  cases decide (1≤(rows.length : Int)∧(rows.length : Int)≤12)<;>cases decide (0≤draw∧draw≤100)<;>rfl
 | d + 1,k,i,h0,hi,hk=>by
  obtain ⟨k,rfl⟩:=ksucc (by omega : 0 < k)
  simp only [q3_Table.l0]
  rw [if_pos (by omega),if_pos h0,w64 (by omega),refTable_go rows draw hl d k (i + 1) (by omega) (by omega) (by omega),drop_at z126 rows i h0 (by omega),List.all_cons]
  show _ = some ((rowOk (rd_T126 rows i) && _) && _)
  unfold rowOk
  simp only [r3_in,Option.bind_some]
  cases decide (1≤(rd_T126 rows i).f0∧(rd_T126 rows i).f0≤60)<;>cases decide (1≤(rd_T126 rows i).f1∧(rd_T126 rows i).f1≤60)<;>cases decide (1≤(rd_T126 rows i).f2∧(rd_T126 rows i).f2≤1000)<;>rfl
theorem refTable_eq {rows : List S126} {draw : Int} {k : Nat} (hl : rows.length≤1000) (hk : rows.length < k) : q3_Table.f k rows draw = some (okT rows draw):=by
 unfold q3_Table.f okT
 rw [refTable_go rows draw hl rows.length k 0 (by omega) (by omega) hk]
 show some (rows.all rowOk && _) = _
 cases decide (1≤(rows.length : Int)∧(rows.length : Int)≤12)<;>cases decide (0≤draw∧draw≤100)<;>cases rows.all rowOk<;>rfl
theorem refBasin_go (rows : List S126) (draw : Int) (noz : List S48) (weir spill : Int) (hl : rows.length≤1000) (hn : noz.length≤1000) : ∀ (d k : Nat) (i : Int),0≤i→i + d = noz.length→rows.length + d + 1 < k→
 q4_Basin.l0 k i rows draw noz weir spill = some ((noz.drop i.toNat).all (nozOk rows.length) && (okT rows draw && (decide (1≤(noz.length : Int)∧(noz.length : Int)≤6) && (decide (0≤weir∧weir≤40) && decide (0≤spill∧spill≤100)))))
 | 0,k,i,h0,hi,hk=>by
  obtain ⟨k,rfl⟩:=ksucc (by omega : 0 < k)
  simp only [q4_Basin.l0]
  rw [if_neg (by omega),List.drop_of_length_le (by omega),refTable_eq hl (by omega)]
  simp only [r4_in,r_height,Option.bind_some,List.all_nil,Bool.true_and]
  cases okT rows draw<;>cases decide (1≤(noz.length : Int)∧(noz.length : Int)≤6)<;>cases decide (0≤weir∧weir≤40)<;>cases decide (0≤spill∧spill≤100)<;>rfl
 | d + 1,k,i,h0,hi,hk=>by
  obtain ⟨k,rfl⟩:=ksucc (by omega : 0 < k)
  simp only [q4_Basin.l0]
  rw [if_pos (by omega),if_pos h0,w64 (n:=i + 1) (by omega),w64 (by omega),refBasin_go rows draw noz weir spill hl hn d k (i + 1) (by omega) (by omega) (by omega),drop_at z48 noz i h0 (by omega),List.all_cons]
  show _ = some ((nozOk rows.length (rd_T48 noz i) && _) && _)
  unfold nozOk
  simp only [r4_in,r_height,Option.bind_some]
  cases decide (0≤(rd_T48 noz i).f0∧(rd_T48 noz i).f0≤(rows.length : Int) - 1)<;>cases decide (0≤(rd_T48 noz i).f1∧(rd_T48 noz i).f1≤40)<;>rfl
theorem refBasin_eq {rows : List S126} {draw : Int} {noz : List S48} {weir spill : Int} {k : Nat} (hl : rows.length≤1000) (hn : noz.length≤1000) (hk : rows.length + noz.length + 1 < k) :
 q4_Basin.f k rows draw noz weir spill = some (okB rows draw noz weir spill):=by
 unfold q4_Basin.f okB
 rw [refBasin_go rows draw noz weir spill hl hn noz.length k 0 (by omega) (by omega) hk]
 show some (noz.all (nozOk rows.length) && _) = _
 cases okT rows draw<;>cases decide (1≤(noz.length : Int)∧(noz.length : Int)≤6)<;>cases decide (0≤weir∧weir≤40)<;>cases decide (0≤spill∧spill≤100)<;>cases noz.all (nozOk rows.length)<;>rfl
structure OkB (rows : List S126) (draw : Int) (noz : List S48) (weir spill : Int) : Prop where
 r1 : 1≤rows.length
 r2 : rows.length≤12
 tab : okT rows draw = true
 rr : ∀ r ∈ rows,1≤r.f2∧r.f2≤1000
 n1 : 1≤noz.length
 n2 : noz.length≤6
 w0 : 0≤weir
 w1 : weir≤40
 s0 : 0≤spill
 s1 : spill≤100
 nn : ∀ z ∈ noz,0≤z.f0∧z.f0 < rows.length∧0≤z.f1∧z.f1≤40
theorem okB_iff {rows : List S126} {draw : Int} {noz : List S48} {weir spill : Int} : okB rows draw noz weir spill = true↔OkB rows draw noz weir spill:=by
 constructor
 ·intro h
  unfold okB at h
  simp only [Bool.and_eq_true,decide_eq_true_eq,List.all_eq_true] at h
  obtain ⟨ht,h2,h3,h4,h5⟩:=h
  have ht':=ht
  unfold okT at ht'
  simp only [Bool.and_eq_true,decide_eq_true_eq,List.all_eq_true] at ht'
  obtain ⟨h0,h1,hr⟩:=ht'
  refine ⟨by omega,by omega,ht,fun r hm=>?_,by omega,by omega,by omega,by omega,by omega,by omega,fun z hm=>?_⟩
  ·have:=hr r hm;unfold rowOk at this;simp only [Bool.and_eq_true,decide_eq_true_eq] at this;omega
  ·have:=h5 z hm;unfold nozOk at this;simp only [Bool.and_eq_true,decide_eq_true_eq] at this;omega
 ·intro h
  unfold okB
  simp only [Bool.and_eq_true,decide_eq_true_eq,List.all_eq_true]
  have a1:=h.n1;have a2:=h.n2
  refine ⟨h.tab,by omega,⟨h.w0,h.w1⟩,⟨h.s0,h.s1⟩,fun z hz=>?_⟩
  have:=h.nn z hz
  unfold nozOk;simp only [Bool.and_eq_true,decide_eq_true_eq];omega
def gvz (rows : List S126) (z : S48) : Int:=(rd_T126 rows z.f0).f2
def pour (rows : List S126) (h : Int) (z : S48) : Int:=gvz rows z * mx 0 (mn 5 (h - z.f1)) / 5
def gat (rows : List S126) (noz : List S48) (h : Int) : List Int:=noz.map (pour rows h)
theorem gvz_in {rows : List S126} {draw : Int} {noz : List S48} {weir spill : Int} (h : OkB rows draw noz weir spill) {z : S48} (hz : z ∈ noz) : 1≤gvz rows z∧gvz rows z≤1000:=by
 have a:=h.nn z hz
 exact h.rr _ (getD_mem z126 a.1 a.2.1)
theorem mm_cases (x : Int) : mx 0 (mn 5 x) = 0∨mx 0 (mn 5 x) = 1∨mx 0 (mn 5 x) = 2∨mx 0 (mn 5 x) = 3∨mx 0 (mn 5 x) = 4∨mx 0 (mn 5 x) = 5:=by
 unfold mx mn;split<;>split<;>omega
theorem pour_prog {g m : Int} (h0 : 0≤g) (h1 : g≤1000) (hm : m = 0∨m = 1∨m = 2∨m = 3∨m = 4∨m = 5) : wrap64 (Int.tdiv (wrap64 (g * m)) 5) = g * m / 5:=by
 have : 0≤g * m∧g * m≤5000:=by rcases hm with rfl | rfl | rfl | rfl | rfl | rfl<;>omega
 rw [w64 (n:=g * m) (by omega),Int.tdiv_eq_ediv_of_nonneg this.1,w64 (by omega)]
theorem pour_in {rows : List S126} {draw : Int} {noz : List S48} {weir spill : Int} (h : OkB rows draw noz weir spill) {z : S48} (hz : z ∈ noz) (x : Int) : 0≤pour rows x z∧pour rows x z≤1000:=by
 have a:=gvz_in h hz
 unfold pour
 rcases mm_cases (x - z.f1) with e | e | e | e | e | e<;>rw [e]<;>omega
theorem rd_map (f : S48→Int) {noz : List S48} {i : Int} (h0 : 0≤i) (h1 : i < noz.length) : rd (noz.map f) i = f (rd_T48 noz i):=by
 unfold rd rd_T48
 rw [List.getD_eq_getElem?_getD,List.getD_eq_getElem?_getD,List.getElem?_map,List.getElem?_eq_getElem (show i.toNat < noz.length by omega)]
 rfl
theorem take_snoc {α β : Type} (d : α) (f : α→β) (l : List α) {i : Int} (h0 : 0≤i) (h1 : i < l.length) : (l.take (i + 1).toNat).map f = (l.take i.toNat).map f ++ [f (l.getD i.toNat d)]:=by
 rw [show (i + 1).toNat = i.toNat + 1 by omega,List.take_succ_eq_append_getElem (show i.toNat < l.length by omega),List.map_append,List.getD_eq_getElem?_getD,List.getElem?_eq_getElem (show i.toNat < l.length by omega)]
 rfl
theorem sum_bd {l : List Int} {B : Int} (hB : 0≤B) (h : ∀ x ∈ l,-B≤x∧x≤B) : -(B * l.length)≤l.sum∧l.sum≤B * l.length:=by
 induction l with
 | nil=>simp
 | cons x l ih =>
  have a:=h x (by simp)
  have b:=ih (fun y hy=>h y (by simp [hy]))
  rw [List.sum_cons,List.length_cons,Int.natCast_add,Int.mul_add]
  omega
theorem sum_go (xs : List Int) (hl : xs.length≤1000) (hx : ∀ x ∈ xs,-1000000≤x∧x≤1000000) : ∀ (d k : Nat) (i acc : Int),0≤i→i + d = xs.length→d < k→-1000000 * i≤acc∧acc≤1000000 * i→
 ca_sum.l0 k acc xs xs.length i = some (acc + (xs.drop i.toNat).sum)
 | 0,k,i,acc,h0,hi,hk,hb=>by
  obtain ⟨k,rfl⟩:=ksucc hk
  simp only [ca_sum.l0]
  rw [if_neg (by omega),List.drop_of_length_le (by omega)]
  simp
 | d + 1,k,i,acc,h0,hi,hk,hb=>by
  obtain ⟨k,rfl⟩:=ksucc (by omega : 0 < k)
  simp only [ca_sum.l0]
  have e:=drop_at (0 : Int) xs i h0 (by omega)
  have m:=hx _ (getD_mem (0 : Int) h0 (by omega : i < xs.length))
  rw [if_pos (by omega),if_pos h0,if_pos (by omega)]
  unfold rd
  rw [w64 (n:=acc + _) (by omega),w64 (by omega),sum_go xs hl hx d k (i + 1) _ (by omega) (by omega) (by omega) (by omega),e,List.sum_cons,Int.add_assoc]
theorem csum {k : Nat} {l : List Int} (hl : l.length≤1000) (hx : ∀ x ∈ l,-1000000≤x∧x≤1000000) (hk : l.length < k) : ca_sum.f k l = some l.sum:=by
 unfold ca_sum.f
 rw [sum_go l hl hx l.length k 0 0 (by omega) (by omega) hk (by omega)]
 simp
theorem nsum {k : Nat} {l : List Int} (hl : l.length≤1000) (hx : ∀ x ∈ l,-1000000≤x∧x≤1000000) (hk : l.length < k) : nz_sum.f k l = some l.sum:=by
 have e : ∀ k x3 x6 x7 x8,nz_sum.l0 k x3 x6 x7 x8 = ca_sum.l0 k x3 x6 x7 x8:=by
  intro k
  induction k with
  | zero=>intros;rfl
  | succ k ih=>intro a b c d;simp only [nz_sum.l0,ca_sum.l0,ih]
 have h:=csum hl hx hk
 unfold ca_sum.f at h
 unfold nz_sum.f
 rw [e,h]
theorem isRow_eq {rows : List S126} {draw n : Int} (hl : rows.length≤1000) : nz_isRow.f rows draw n = some (decide (0≤n∧n≤(rows.length : Int) - 1)):=by
 unfold nz_isRow.f
 rw [w64 (by omega),n_in]
 rfl
theorem isSet1_eq {rows : List S126} {draw n : Int} (h0 : 0≤n) (h1 : n < rows.length) (hl : rows.length≤1000) : nz_isSet.f rows draw [n] = some true:=by
 unfold nz_isSet.f
 rw [if_pos (by simp)]
 have : sl_IsSorted_int_int.f ([n].length + 1) [n] = some true:=by
  unfold sl_IsSorted_int_int.f
  simp only [sl_IsSorted_int_int.l0,List.length_cons,List.length_nil]
  rw [if_neg (by unfold wrap64;omega)]
 rw [this]
 simp only [Option.bind_some,anyM,isRow_eq hl]
 rw [decide_eq_true (show 0≤n∧n≤(rows.length : Int) - 1 by omega)]
 rfl
theorem gives1_eq {rows : List S126} {draw n : Int} {k : Nat} (h0 : 0≤n) (h1 : n < rows.length) (hl : rows.length≤1000) (hg : 0≤(rd_T126 rows n).f2∧(rd_T126 rows n).f2≤1000000) (hk : 5≤k) : nz_gives.f k rows draw [n] = some (rd_T126 rows n).f2:=by
 obtain ⟨m,rfl⟩ : ∃ m,k = m + 1 + 1:=⟨k - 2,by omega⟩
 unfold nz_gives.f
 have e0 : rd [n] 0 = n:=rfl
 have e1 : wrap64 (0 + 1) = 1:=by unfold wrap64;omega
 simp only [nz_gives.l0,List.length_cons,List.length_nil,e0,e1]
 rw [if_pos (by decide),if_pos (by decide),if_pos (by decide),if_pos h0,if_pos h1,if_pos (by decide),if_neg (by decide)]
 simp only [List.nil_append]
 rw [nsum (by simp) (by intro x hx;simp at hx;subst hx;omega) (by simp;omega)]
 simp
theorem Gives1_eq {rows : List S126} {draw : Int} {noz : List S48} {weir spill : Int} (h : OkB rows draw noz weir spill) {z : S48} (hz : z ∈ noz) {k : Nat} (hk : 5≤k) : nz_Gives.f k rows draw [z.f0] = some (gvz rows z,0):=by
 have a:=h.nn z hz
 have g:=gvz_in h hz
 unfold nz_Gives.f
 rw [isTable_eq,h.tab,Option.bind_some,if_pos rfl,isSet1_eq a.1 a.2.1 (by have:=h.r2;omega),Option.bind_some,if_pos rfl,gives1_eq a.1 a.2.1 (by have:=h.r2;omega) (by unfold gvz at g;omega) hk]
 rfl
def grid (rows : List S126) (noz : List S48) : List (List Int):=(List.range 41).map fun (j : Nat)=>gat rows noz (j : Int)
theorem grid_len (rows : List S126) (noz : List S48) : (grid rows noz).length = 41:=by simp [grid]
theorem grid_at (rows : List S126) (noz : List S48) {h : Int} (h0 : 0≤h) (h1 : h≤40) : rd_L3 (grid rows noz) h = gat rows noz h:=by
 unfold rd_L3 grid
 rw [List.getD_eq_getElem?_getD,List.getElem?_map,List.getElem?_range (by omega)]
 simp only [Option.map_some,Option.getD_some]
 rw [show ((h.toNat : Nat) : Int) = h by omega]
section
variable {rows : List S126} {draw : Int} {noz : List S48} {weir spill : Int}
theorem z_mem {i : Int} (h0 : 0≤i) (h1 : i < noz.length) : rd_T48 noz i ∈ noz:=getD_mem z48 h0 h1
theorem fill_l2 (h : OkB rows draw noz weir spill) (hh : Int) (p0 : 0≤hh) (p1 : hh≤40) (G : List (List Int)) (hG : G.length≤41) (r) (C : Nat) (hr : ∀ k,C≤k→ca_fill.l1 k (noz.map (gvz rows)) (hh + 1) rows draw noz weir spill rows draw noz weir spill (G ++ [gat rows noz hh]) = r) : ∀ (d k : Nat) (i : Int),0≤i→i + d = noz.length→C + d < k→
 ca_fill.l2 k (noz.map (gvz rows)) hh ((noz.take i.toNat).map (pour rows hh)) hh noz noz.length i rows draw noz weir spill rows draw noz weir spill G = r
 | 0,k,i,h0,hi,hk=>by
  obtain ⟨k,rfl⟩:=ksucc (by omega : 0 < k)
  simp only [ca_fill.l2]
  rw [if_neg (by omega),if_pos (by omega),w64 (by omega),List.take_of_length_le (by omega)]
  exact hr k (by omega)
 | d + 1,k,i,h0,hi,hk=>by
  obtain ⟨k,rfl⟩:=ksucc (by omega : 0 < k)
  have n2:=h.n2
  have hz:=z_mem h0 (by omega : i < noz.length)
  have a:=h.nn _ hz
  have g:=gvz_in h hz
  simp only [ca_fill.l2]
  rw [if_pos (by omega),if_pos h0,if_pos (by omega),if_pos (by rw [List.length_map];omega),if_pos (by rw [List.length_map,List.length_take];omega),rd_map _ h0 (by omega),w64 (n:=hh - _) (by omega),pour_prog (by omega) (by omega) (mm_cases _),w64 (n:=i + 1) (by omega)]
  have e:=take_snoc z48 (pour rows hh) noz h0 (by omega)
  have f:=fill_l2 h hh p0 p1 G hG r C hr d k (i + 1) (by omega) (by omega) (by omega)
  rw [e] at f
  exact f
theorem fill_l1 (h : OkB rows draw noz weir spill) : ∀ (d k j : Nat),j + d = 41→d * (noz.length + 3) < k→
 ca_fill.l1 k (noz.map (gvz rows)) j rows draw noz weir spill rows draw noz weir spill ((List.range j).map fun (q : Nat)=>gat rows noz (q : Int)) = some (draw,weir,spill,grid rows noz)
 | 0,k,j,hj,hk=>by
  obtain ⟨k,rfl⟩:=ksucc (by omega : 0 < k)
  obtain rfl : j = 41:=by omega
  simp only [ca_fill.l1]
  rw [if_neg (by omega)]
  rfl
 | d + 1,k,j,hj,hk=>by
  rw [Nat.succ_mul] at hk
  obtain ⟨k,rfl⟩:=ksucc (by omega : 0 < k)
  simp only [ca_fill.l1]
  rw [if_pos (by omega)]
  refine fill_l2 h j (by omega) (by omega) _ (by simp;omega) _ (d * (noz.length + 3) + 1) (fun k' hk'=>?_) noz.length k 0 (by omega) (by omega) (by omega)
  have f:=fill_l1 h d k' (j + 1) (by omega) (by omega)
  rw [List.range_succ,List.map_append] at f
  exact f
theorem fill_l0 (h : OkB rows draw noz weir spill) : ∀ (d k : Nat) (i : Int),0≤i→i + d = noz.length→41 * (noz.length + 3) + d + 5 < k→
 ca_fill.l0 k ((noz.take i.toNat).map (gvz rows)) noz noz.length i rows draw noz weir spill rows draw noz weir spill = some (draw,weir,spill,grid rows noz)
 | 0,k,i,h0,hi,hk=>by
  obtain ⟨k,rfl⟩:=ksucc (by omega : 0 < k)
  simp only [ca_fill.l0]
  rw [if_neg (by omega),List.take_of_length_le (by omega)]
  exact fill_l1 h 41 k 0 (by omega) (by omega)
 | d + 1,k,i,h0,hi,hk=>by
  obtain ⟨k,rfl⟩:=ksucc (by omega : 0 < k)
  have n2:=h.n2
  simp only [ca_fill.l0]
  rw [if_pos (by omega),if_pos h0,if_pos (by omega),Gives1_eq h (z_mem h0 (by omega)) (by omega),Option.bind_some,if_pos (by rw [List.length_map,List.length_take];omega),w64 (by omega)]
  have e:=take_snoc z48 (gvz rows) noz h0 (by omega)
  have f:=fill_l0 h d k (i + 1) (by omega) (by omega) (by omega)
  rw [e] at f
  exact f
theorem fillK_eq (h : OkB rows draw noz weir spill) : ca_fill.f (fillK noz.length) rows draw noz weir spill = some (draw,weir,spill,grid rows noz):=
 fill_l0 h noz.length _ 0 (by omega) (by omega) (by unfold fillK;omega)
def over (weir spill h : Int) : Int:=spill * mx 0 (h - weir)
def tot (rows : List S126) (noz : List S48) (weir spill h : Int) : Int:=(gat rows noz h).sum + over weir spill h
theorem over_in (h : OkB rows draw noz weir spill) {x : Int} (h0 : 0≤x) (h1 : x≤40) : 0≤over weir spill x∧over weir spill x≤4000:=by
 have a:=h.s0;have b:=h.s1;have c:=h.w0
 unfold over
 have m : 0≤mx 0 (x - weir)∧mx 0 (x - weir)≤40:=by unfold mx;split<;>omega
 exact ⟨Int.mul_nonneg a m.1,by have:=Int.mul_le_mul b m.2 m.1 (by omega : (0 : Int)≤100);omega⟩
theorem gat_in (h : OkB rows draw noz weir spill) (x : Int) : ∀ y ∈ gat rows noz x,0≤y∧y≤1000:=by
 intro y hy
 unfold gat at hy
 obtain ⟨z,hz,rfl⟩:=List.mem_map.1 hy
 exact pour_in h hz x
theorem gat_len (x : Int) : (gat rows noz x).length = noz.length:=by simp [gat]
theorem sum_nn {l : List Int} (h : ∀ x ∈ l,0≤x) : 0≤l.sum:=by
 induction l with
 | nil=>simp
 | cons x l ih=>rw [List.sum_cons];have:=h x (by simp);have:=ih (fun y hy=>h y (by simp [hy]));omega
theorem gsum_in (h : OkB rows draw noz weir spill) (x : Int) : 0≤(gat rows noz x).sum∧(gat rows noz x).sum≤6000:=by
 have a:=gat_in h x
 have b:=sum_bd (l:=gat rows noz x) (B:=1000) (by omega) (fun y hy=>by have:=a y hy;omega)
 rw [gat_len] at b
 have:=h.n2
 exact ⟨sum_nn (fun y hy=>(a y hy).1),by omega⟩
theorem tot_in (h : OkB rows draw noz weir spill) {x : Int} (h0 : 0≤x) (h1 : x≤40) : 0≤tot rows noz weir spill x∧tot rows noz weir spill x≤10000:=by
 have a:=gsum_in h x
 have b:=over_in h h0 h1
 unfold tot
 omega
theorem weir_eq (h : OkB rows draw noz weir spill) {x : Int} (h0 : 0≤x) (h1 : x≤40) : gf_weir.f rows draw noz weir spill (grid rows noz) x = some (over weir spill x):=by
 have a:=over_in h h0 h1
 have c:=h.w0;have c1:=h.w1
 unfold gf_weir.f
 rw [w64 (n:=x - weir) (by omega),w64 (n:=spill * _) (by unfold over at a;omega)]
 rfl
theorem out_eq (h : OkB rows draw noz weir spill) {x : Int} (h0 : 0≤x) (h1 : x≤40) : gf_out.f rows draw noz weir spill (grid rows noz) x = some (tot rows noz weir spill x):=by
 have a:=gat_in h x
 have b:=over_in h h0 h1
 have c:=gsum_in h x
 unfold gf_out.f gf_nozzles.f
 rw [if_pos h0,if_pos (by rw [grid_len];omega),grid_at _ _ h0 h1,csum (by rw [gat_len];have:=h.n2;omega) (fun y hy=>by have:=a y hy;omega) (by omega),weir_eq h h0 h1]
 simp only [Option.bind_some]
 rw [w64 (n:=(gat rows noz x).sum) (by omega),w64 (by omega)]
 rfl
theorem mm_mono {a b : Int} (h : a≤b) : mx 0 (mn 5 a)≤mx 0 (mn 5 b):=by unfold mx mn;(repeat' split)<;>omega
theorem pour_mono (h : OkB rows draw noz weir spill) {z : S48} (hz : z ∈ noz) {a b : Int} (hab : a≤b) : pour rows a z≤pour rows b z:=by
 have g:=gvz_in h hz
 unfold pour
 exact Int.ediv_le_ediv (by omega) (Int.mul_le_mul_of_nonneg_left (mm_mono (by omega)) (by omega))
theorem sum_mono_map {f g : S48→Int} : ∀ {l : List S48},(∀ z ∈ l,f z≤g z)→(l.map f).sum≤(l.map g).sum
 | [],_=>by simp
 | z :: l,h=>by
  simp only [List.map_cons,List.sum_cons]
  have:=h z (by simp)
  have:=sum_mono_map (l:=l) (fun y hy=>h y (by simp [hy]))
  omega
theorem over_mono (h : OkB rows draw noz weir spill) {a b : Int} (hab : a≤b) : over weir spill a≤over weir spill b:=by
 unfold over
 exact Int.mul_le_mul_of_nonneg_left (by unfold mx;(repeat' split)<;>omega) h.s0
theorem tot_mono (h : OkB rows draw noz weir spill) {a b : Int} (hab : a≤b) : tot rows noz weir spill a≤tot rows noz weir spill b:=by
 have:=over_mono h hab
 have:=sum_mono_map (f:=pour rows a) (g:=pour rows b) (l:=noz) (fun z hz=>pour_mono h hz hab)
 unfold tot gat
 omega
theorem tot_zero (h : OkB rows draw noz weir spill) : tot rows noz weir spill 0 = 0:=by
 have e : gat rows noz 0 = noz.map (fun _=>0):=by
  unfold gat
  refine List.map_congr_left fun z hz=>?_
  have a:=h.nn z hz
  unfold pour
  rw [show mx 0 (mn 5 (0 - z.f1)) = 0 by unfold mx mn;(repeat' split)<;>omega]
  simp
 have s : ∀ l : List S48,(l.map (fun _=>(0 : Int))).sum = 0:=by
  intro l
  induction l with
  | nil=>rfl
  | cons z l ih=>simp only [List.map_cons,List.sum_cons,ih];rfl
 have o : over weir spill 0 = 0:=by
  have:=h.w0
  unfold over
  rw [show mx 0 (0 - weir) = 0 by unfold mx;split<;>omega]
  simp
 unfold tot
 rw [e,s,o]
 rfl
def Lev (rows : List S126) (noz : List S48) (weir spill cups h : Int) : Prop:=0≤h∧h≤40∧tot rows noz weir spill h≤cups∧(h < 40→cups < tot rows noz weir spill (h + 1))
theorem Lev.uniq (h : OkB rows draw noz weir spill) {cups a b : Int} (ha : Lev rows noz weir spill cups a) (hb : Lev rows noz weir spill cups b) : a = b:=by
 obtain ⟨a0,a1,a2,a3⟩:=ha
 obtain ⟨b0,b1,b2,b3⟩:=hb
 rcases Int.lt_trichotomy a b with l | l | l
 ·have:=a3 (by omega)
  have:=tot_mono h (show a + 1≤b by omega)
  omega
 ·exact l
 ·have:=b3 (by omega)
  have:=tot_mono h (show b + 1≤a by omega)
  omega
theorem levelGo_eq (h : OkB rows draw noz weir spill) {cups : Int} : ∀ (n : Nat) (i : Int),0≤i→i + n = 41→(0 < i→tot rows noz weir spill (i - 1)≤cups)→0≤cups→
 ∃ r,levelGo rows draw noz weir spill (grid rows noz) cups n i (mx 0 (i - 1)) = some r∧Lev rows noz weir spill cups r
 | 0,i,h0,hi,hp,hc=>by
  obtain rfl : i = 41:=by omega
  exact ⟨_,rfl,by unfold mx;split<;>omega,by unfold mx;split<;>omega,hp (by omega),fun hh=>absurd hh (by unfold mx;split<;>omega)⟩
 | n + 1,i,h0,hi,hp,hc=>by
  simp only [levelGo]
  rw [out_eq h h0 (by omega),Option.bind_some]
  by_cases g : tot rows noz weir spill i > cups
  ·rw [if_pos g]
   have i0 : 0 < i:=by
    rcases Int.lt_or_eq_of_le h0 with l | l
    ·exact l
    ·rw [← l,tot_zero h] at g;omega
   have e : mx 0 (i - 1) = i - 1:=by unfold mx;split<;>omega
   rw [e]
   exact ⟨_,rfl,by omega,by omega,hp i0,fun _=>by rw [show i - 1 + 1 = i by omega];exact g⟩
  ·rw [if_neg g]
   obtain ⟨r,hr,hl⟩:=levelGo_eq h n (i + 1) (by omega) (by omega) (fun _=>by rw [show i + 1 - 1 = i by omega];omega) hc
   rw [show mx 0 (i + 1 - 1) = i by unfold mx;split<;>omega] at hr
   exact ⟨r,hr,hl⟩
theorem level_eq (h : OkB rows draw noz weir spill) {cups : Int} (hc : 0≤cups) : ∃ r,gf_level.f rows draw noz weir spill (grid rows noz) cups = some r∧Lev rows noz weir spill cups r:=by
 unfold gf_level.f
 rw [grid_len]
 have:=levelGo_eq h (cups:=cups) 41 0 (by omega) (by omega) (fun h=>by omega) hc
 simpa [mx] using this
end
section
attribute [local go_sem] max2_int min2_int max_two min_two
set_option linter.unusedSimpArgs false
end
set_option linter.unusedSimpArgs false
section
attribute [local go_sem] max2_int min2_int max_two min_two
set_option linter.unusedSimpArgs false
end
def shGo : List Int→List Int→Int→List Int × Int
 | x :: l,y :: n,r=>((x + mn r (y - x)) :: (shGo l n (r - mn r (y - x))).1,(shGo l n (r - mn r (y - x))).2)
 | l,_,r=>(l,r)
def pairOk : List Int→List Int→Prop
 | x :: l,y :: n=>(0≤x∧x≤y∧y≤1000)∧pairOk l n
 | [],[]=>True
 | _,_=>False
theorem mn_in {r d : Int} (h0 : 0≤r) (h1 : 0≤d) : 0≤mn r d∧mn r d≤r∧mn r d≤d:=by unfold mn;split<;>omega
theorem shGo_in : ∀ {l n : List Int} {r : Int},pairOk l n→0≤r→(∀ x ∈ (shGo l n r).1,0≤x∧x≤1000)∧0≤(shGo l n r).2∧(shGo l n r).2≤r∧(shGo l n r).1.length = l.length∧(shGo l n r).1.sum + (shGo l n r).2 = l.sum + r
 | [],[],r,_,hr=>by simp [shGo];omega
 | x :: l,y :: n,r,h,hr=>by
  have m:=mn_in (r:=r) (d:=y - x) hr (by have:=h.1;omega)
  have ih:=shGo_in (r:=r - mn r (y - x)) h.2 (by omega)
  have hx:=h.1
  simp only [shGo,List.length_cons,List.sum_cons]
  refine ⟨fun z hz=>?_,ih.2.1,by omega,by rw [ih.2.2.2.1],by omega⟩
  rcases List.mem_cons.1 hz with rfl | hz
  ·omega
  ·exact ih.1 z hz
 | [],_ :: _,_,h,_=>h.elim
 | _ :: _,[],_,h,_=>h.elim
theorem rd_app (P : List Int) (x : Int) (l : List Int) : rd (P ++ x :: l) (P.length : Int) = x:=by simp [rd]
theorem set_app {α : Type} (P : List α) (x v : α) (l : List α) : (P ++ x :: l).set (P.length : Int).toNat v = P ++ [v] ++ l:=by simp
theorem sh_go {cups : Int} (hc0 : 0≤cups) (hc1 : cups≤10000) : ∀ (l n P Q : List Int) (r : Int) (k : Nat),pairOk l n→P.length = Q.length→(∀ x ∈ P,0≤x∧x≤1000)→P.length + l.length≤100→0≤r→r≤10000→P.length + 2 * l.length + 2 < k→
 gf_shares.l0 k cups (P ++ l) r (Q ++ n) (Q ++ n).length P.length = some (P ++ (shGo l n r).1,cups - (P ++ (shGo l n r).1).sum)
 | [],[],P,Q,r,k,_,hPQ,hP,hl,hr0,hr1,hk=>by
  obtain ⟨k,rfl⟩:=ksucc (by omega : 0 < k)
  simp only [gf_shares.l0,shGo,List.append_nil]
  rw [if_neg (by omega)]
  simp only [List.length_nil] at hl hk
  rw [csum (by omega) (fun x hx=>by have:=hP x hx;omega) (by omega)]
  have s:=sum_bd (l:=P) (B:=1000) (by omega) (fun x hx=>by have:=hP x hx;omega)
  simp only [Option.bind_some]
  rw [w64 (by omega)]
 | x :: l,y :: n,P,Q,r,k,h,hPQ,hP,hl,hr0,hr1,hk=>by
  obtain ⟨k,rfl⟩:=ksucc (by omega : 0 < k)
  simp only [List.length_cons] at hl hk
  have hx:=h.1
  have m:=mn_in (r:=r) (d:=y - x) hr0 (by omega)
  simp only [gf_shares.l0]
  have e : rd (Q ++ y :: n) (P.length : Int) = y:=by rw [hPQ];exact rd_app Q y n
  rw [if_pos (by rw [List.length_append,List.length_cons];omega),if_pos (by omega),if_pos (by rw [List.length_append,List.length_cons];omega),if_pos (by rw [List.length_append,List.length_cons];omega),rd_app,e,w64 (n:=y - x) (by omega),w64 (n:=x + _) (by omega),w64 (n:=r - _) (by omega),w64 (n:=(P.length : Int) + 1) (by omega),set_app]
  have ih:=sh_go hc0 hc1 l n (P ++ [x + mn r (y - x)]) (Q ++ [y]) (r - mn r (y - x)) k h.2 (by simp [hPQ]) (fun z hz=>by
   rcases List.mem_append.1 hz with hz | hz
   ·exact hP z hz
   ·simp at hz;omega) (by simp;omega) (by omega) (by omega) (by simp;omega)
  have e2 : Q ++ y :: n = Q ++ [y] ++ n:=by simp
  rw [e2,show (P.length : Int) + 1 = ((P ++ [x + mn r (y - x)]).length : Int) by simp,ih]
  simp [shGo]
 | [],_ :: _,_,_,_,_,h,_,_,_,_,_,_=>h.elim
 | _ :: _,[],_,_,_,_,h,_,_,_,_,_,_=>h.elim
section
variable {rows : List S126} {draw : Int} {noz : List S48} {weir spill : Int}
def levN (rows : List S126) (noz : List S48) (weir spill cups : Int) : Nat→Int
 | 0=>0
 | n + 1=>if tot rows noz weir spill ((n : Int) + 1)≤cups then (n : Int) + 1 else levN rows noz weir spill cups n
def lev (rows : List S126) (noz : List S48) (weir spill cups : Int) : Int:=levN rows noz weir spill cups 40
theorem levN_is (h : OkB rows draw noz weir spill) {cups : Int} (hc : 0≤cups) : ∀ n : Nat,n≤40→(n < 40→cups < tot rows noz weir spill ((n : Int) + 1))→Lev rows noz weir spill cups (levN rows noz weir spill cups n)
 | 0,_,hn=>⟨by simp [levN],by simp [levN],by simp [levN,tot_zero h,hc],fun _=>by simpa [levN] using hn (by omega)⟩
 | n + 1,h1,hn=>by
  unfold levN
  by_cases g : tot rows noz weir spill ((n : Int) + 1)≤cups
  ·rw [if_pos g]
   exact ⟨by omega,by omega,g,fun _=>by have:=hn (by omega);rw [Int.natCast_add] at this;exact this⟩
  ·rw [if_neg g]
   exact levN_is h hc n (by omega) (fun _=>by omega)
theorem lev_is (h : OkB rows draw noz weir spill) {cups : Int} (hc : 0≤cups) : Lev rows noz weir spill cups (lev rows noz weir spill cups):=levN_is h hc 40 (by omega) (fun h=>by omega)
theorem level_lev (h : OkB rows draw noz weir spill) {cups : Int} (hc : 0≤cups) : gf_level.f rows draw noz weir spill (grid rows noz) cups = some (lev rows noz weir spill cups):=by
 obtain ⟨r,hr,hl⟩:=level_eq h hc
 rw [hr,hl.uniq h (lev_is h hc)]
def shareL (rows : List S126) (noz : List S48) (weir spill cups : Int) : List Int:=
 if lev rows noz weir spill cups < 40 then (shGo (gat rows noz (lev rows noz weir spill cups)) (gat rows noz (lev rows noz weir spill cups + 1)) (cups - tot rows noz weir spill (lev rows noz weir spill cups))).1 else gat rows noz (lev rows noz weir spill cups)
theorem gat_pairs (h : OkB rows draw noz weir spill) {a b : Int} (hab : a≤b) : pairOk (gat rows noz a) (gat rows noz b):=by
 have : ∀ l : List S48,(∀ z ∈ l,z ∈ noz)→pairOk (l.map (pour rows a)) (l.map (pour rows b)):=by
  intro l
  induction l with
  | nil=>intro _;trivial
  | cons z l ih =>
   intro hl
   have hz:=hl z (by simp)
   exact ⟨⟨(pour_in h hz a).1,pour_mono h hz hab,(pour_in h hz b).2⟩,ih (fun y hy=>hl y (by simp [hy]))⟩
 exact this noz (fun _ hz=>hz)
theorem shareL_in (h : OkB rows draw noz weir spill) {cups : Int} (hc : 0≤cups) : (∀ x ∈ shareL rows noz weir spill cups,0≤x∧x≤1000)∧(shareL rows noz weir spill cups).length = noz.length:=by
 have L:=lev_is h hc
 unfold shareL
 by_cases g : lev rows noz weir spill cups < 40
 ·rw [if_pos g]
  have a:=shGo_in (r:=cups - tot rows noz weir spill (lev rows noz weir spill cups)) (gat_pairs h (show lev rows noz weir spill cups≤lev rows noz weir spill cups + 1 by omega)) (by have:=L.2.2.1;omega)
  exact ⟨a.1,by rw [a.2.2.2.1,gat_len]⟩
 ·rw [if_neg g]
  exact ⟨gat_in h _,gat_len _⟩
theorem clone_int {l : List Int} (hl : l.length≤1000) : sl_Clone_int.f l = some l:=by unfold sl_Clone_int.f;rw [if_pos (by omega)]
theorem shares_eq (h : OkB rows draw noz weir spill) {cups : Int} (hc0 : 0≤cups) (hc1 : cups≤10000) {k : Nat} (hk : 20≤k) :
 gf_shares.f k rows draw noz weir spill (grid rows noz) cups = some (shareL rows noz weir spill cups,cups - (shareL rows noz weir spill cups).sum):=by
 have L:=lev_is h hc0
 have n2:=h.n2
 have t0:=tot_in h L.1 L.2.1
 have B:=shareL_in h hc0
 have s:=sum_bd (l:=shareL rows noz weir spill cups) (B:=1000) (by omega) (fun x hx=>by have:=B.1 x hx;omega)
 rw [B.2] at s
 unfold gf_shares.f
 rw [level_lev h hc0,Option.bind_some,if_pos L.1,if_pos (by rw [grid_len];have:=L.2.1;omega),grid_at _ _ L.1 L.2.1,clone_int (by rw [gat_len];omega),Option.bind_some]
 unfold shareL
 by_cases g : lev rows noz weir spill cups < 40
 ·rw [if_pos g,if_pos g,out_eq h L.1 L.2.1,Option.bind_some,w64 (n:=_ + 1) (by have:=L.1;omega),if_pos (by have:=L.1;omega),if_pos (by rw [grid_len];omega),grid_at _ _ (by have:=L.1;omega) (by omega),w64 (by omega)]
  have f:=sh_go hc0 hc1 (gat rows noz (lev rows noz weir spill cups)) (gat rows noz (lev rows noz weir spill cups + 1)) [] [] (cups - tot rows noz weir spill (lev rows noz weir spill cups)) k (gat_pairs h (by omega)) rfl (fun x hx=>by simp at hx) (by simp [gat_len];omega) (by have:=L.2.2.1;omega) (by omega) (by simp [gat_len];omega)
  simpa using f
 ·rw [if_neg g,if_neg g]
  have a:=gat_in h (lev rows noz weir spill cups)
  rw [csum (by rw [gat_len];omega) (fun x hx=>by have:=a x hx;omega) (by rw [gat_len];omega),Option.bind_some]
  have c:=gsum_in h (lev rows noz weir spill cups)
  rw [w64 (by omega)]
def setH (noz : List S48) (l : List Int) : List S48:=List.zipWith (fun z x=>(⟨z.f0,x⟩ : S48)) noz l
end
theorem short_eq {rows : List S126} {draw : Int} {noz : List S48} {weir spill : Int} : l4_short.f rows draw noz weir spill = some (decide (rows.length≤15∧noz.length≤8)):=by
 unfold l4_short.f
 by_cases h : (rows.length : Int)≤15
 ·rw [if_pos h,show decide (rows.length≤15∧noz.length≤8) = decide ((noz.length : Int)≤8) from by rw [decide_eq_decide];omega]
 ·rw [if_neg h,decide_eq_false (by omega)]
section
variable {rows : List S126} {draw : Int} {noz : List S48} {weir spill : Int}
end
section
variable {rows : List S126} {draw : Int} {noz : List S48} {weir spill : Int}
end
section
variable {rows : List S126} {draw : Int} {noz : List S48} {weir spill : Int}
end
def okX (x : S27) : Bool:=okB x.f0.f0 x.f0.f1 x.f1 x.f2 x.f3
def nozN (bs : List S27) (n : Int) : Int:=((rd_T27 bs n).f1.length : Int)
def shX (x : S27) : Bool:=decide (x.f0.f0.length≤15∧x.f1.length≤8)
theorem drop_bas {C : List S27} {i : Int} (h0 : 0≤i) (h1 : i < C.length) : C.drop i.toNat = rd_T27 C i :: C.drop (i.toNat + 1):=by
 have hi : i.toNat < C.length:=by omega
 rw [List.drop_eq_getElem_cons hi];simp [rd_T27,hi]
theorem drop_feed {C : List S66} {i : Int} (h0 : 0≤i) (h1 : i < C.length) : C.drop i.toNat = rd_T66 C i :: C.drop (i.toNat + 1):=by
 have hi : i.toNat < C.length:=by omega
 rw [List.drop_eq_getElem_cons hi];simp [rd_T66,hi]
theorem take_feed {C : List S66} {i : Int} (h0 : 0≤i) (h1 : i < C.length) : C.take (i.toNat + 1) = C.take i.toNat ++ [rd_T66 C i]:=by
 have hi : i.toNat < C.length:=by omega
 rw [List.take_succ_eq_append_getElem hi];simp [rd_T66,hi]
theorem mem_bas {bs : List S27} {i : Int} (h0 : 0≤i) (h1 : i < bs.length) : rd_T27 bs i ∈ bs:=getD_mem z27 h0 h1
theorem all_rd {bs : List S27} {p : S27→Bool} (h : bs.all p = true) {i : Int} (h0 : 0≤i) (h1 : i < bs.length) : p (rd_T27 bs i) = true:=List.all_eq_true.1 h _ (mem_bas h0 h1)
theorem brief_go (bs : List S27) (fs : List S66) : ∀ (d k : Nat) (i : Int),0≤i→i≤6→i≤bs.length→i + d = 6→2 * d + 2≤k→l4_brief.l0 k i bs fs = some (((bs.drop i.toNat).take d).all shX && decide (bs.length≤6∧fs.length≤6))
 | 0,k,i,h0,h6,hl,h1,hk=>by
  obtain ⟨k,rfl⟩ : ∃ m,k = m + 1 + 1:=⟨k - 2,by omega⟩
  simp only [l4_brief.l0,l4_brief.j1]
  rw [decide_eq_false (by omega : ¬ i < 6)]
  simp only [Bool.false_eq_true,if_false,List.take_zero,List.all_nil,Bool.true_and,ite_self]
  by_cases c : (bs.length : Int)≤6
  ·rw [if_pos c,decide_eq_decide.2 (show (fs.length : Int)≤6↔bs.length≤6∧fs.length≤6 by omega)]
  ·rw [if_neg c,decide_eq_false (by omega)]
 | d + 1,k,i,h0,h6,hl,h1,hk=>by
  obtain ⟨k,rfl⟩ : ∃ m,k = m + 1 + 1:=⟨k - 2,by omega⟩
  simp only [l4_brief.l0,l4_brief.j1]
  by_cases c : i < (bs.length : Int)
  ·rw [if_pos c,decide_eq_true (by omega : i < 6),if_pos rfl,if_pos h0,if_pos c,short_eq,Option.bind_some,w64 (n:=i + 1) (by omega),drop_bas h0 c,List.take_succ_cons,List.all_cons]
   cases s : shX (rd_T27 bs i) with
   | true =>
    unfold shX at s
    rw [s,if_pos rfl,brief_go bs fs d k (i + 1) (by omega) (by omega) (by omega) (by omega) (by omega),show (i + 1).toNat = i.toNat + 1 by omega,Bool.true_and]
   | false =>
    unfold shX at s
    rw [s,if_neg (by decide),Bool.false_and,Bool.false_and]
  ·rw [if_neg c,List.drop_of_length_le (by omega)]
   simp only [Bool.false_eq_true,if_false,List.take_nil,List.all_nil,Bool.true_and]
   by_cases c : (bs.length : Int)≤6
   ·rw [if_pos c,decide_eq_decide.2 (show (fs.length : Int)≤6↔bs.length≤6∧fs.length≤6 by omega)]
   ·rw [if_neg c,decide_eq_false (by omega)]
def briefB (bs : List S27) (fs : List S66) : Bool:=(bs.take 6).all shX && decide (bs.length≤6∧fs.length≤6)
theorem brief_eq (bs : List S27) (fs : List S66) {k : Nat} (hk : 20≤k) : l4_brief.f k bs fs = some (briefB bs fs):=by
 unfold l4_brief.f
 have:=brief_go bs fs 6 k 0 (by omega) (by omega) (by omega) (by omega) (by omega)
 simpa [briefB] using this
theorem briefB_iff {bs : List S27} {fs : List S66} : briefB bs fs = true↔bs.all shX = true∧bs.length≤6∧fs.length≤6:=by
 unfold briefB
 simp only [Bool.and_eq_true,decide_eq_true_eq]
 constructor
 ·rintro ⟨a,b,c⟩
  rw [List.take_of_length_le b] at a
  exact ⟨a,b,c⟩
 ·rintro ⟨a,b,c⟩
  exact ⟨by rw [List.take_of_length_le b];exact a,b,c⟩
def feedB (bs : List S27) (met : List S66) (i : Int) (x : S66) : Bool:=!hasFeed met x && (decide (0≤x.f0∧x.f0≤i) && decide (-1≤x.f1∧x.f1≤nozN bs x.f0 - 1))
def feedsB (bs : List S27) : List S66→Int→List S66→Bool
 | [],_,_=>true
 | x :: rest,i,met=>feedB bs met i x && feedsB bs rest (i + 1) (met ++ [x])
def okCh (bs : List S27) (fs : List S66) : Bool:=bs.all okX && (decide (1≤bs.length∧bs.length≤4∧fs.length + 1 = bs.length) && feedsB bs fs 0 [])
theorem chainGo_eq (bs : List S27) (hS : bs.all shX = true) : ∀ (rest : List S66) (i : Int) (met : List S66),0≤i→i + rest.length + 1≤bs.length→chainGo bs rest i met = some (feedsB bs rest i met)
 | [],i,met,h0,h1=>rfl
 | x :: rest,i,met,h0,h1=>by
  simp only [List.length_cons] at h1
  simp only [chainGo,feedsB,feedB]
  cases hm : hasFeed met x with
  | true=>rfl
  | false =>
   rw [if_neg (by decide),c_in,Option.bind_some]
   by_cases c : 0≤x.f0∧x.f0≤i
   ·have hs:=all_rd hS c.1 (show x.f0 < (bs.length : Int) by omega)
    simp only [shX,decide_eq_true_eq] at hs
    rw [decide_eq_true c,if_pos rfl,if_pos c.1,if_pos (by omega),w64 (by omega),c_in,Option.bind_some]
    by_cases e : -1≤x.f1∧x.f1≤nozN bs x.f0 - 1
    ·rw [decide_eq_true e]
     have e' : -1≤x.f1∧x.f1≤((rd_T27 bs x.f0).f1.length : Int) - 1:=e
     rw [decide_eq_true e',if_pos rfl,chainGo_eq bs hS rest (i + 1) (met ++ [x]) (by omega) (by omega)]
     rfl
    ·rw [decide_eq_false e]
     have e' : ¬ (-1≤x.f1∧x.f1≤((rd_T27 bs x.f0).f1.length : Int) - 1):=e
     rw [decide_eq_false e',if_neg (by decide)]
     rfl
   ·rw [decide_eq_false c,if_neg (by decide)];rfl
theorem cChainIs_eq {bs : List S27} {fs : List S66} (hS : bs.all shX = true) : ca_isChain.f bs fs = some (okCh bs fs):=by
 unfold ca_isChain.f okCh
 rw [c_in,Option.bind_some]
 have hc : cf_isChain.f bs = some (!bs.all okX):=by
  unfold cf_isChain.f
  have : ∀ xs : List S27,(∀ x ∈ xs,x.f0.f0.length≤1000)→anyM (fun x=>ca_isChain_1.f x.f0.f0 x.f0.f1 x.f1 x.f2 x.f3) xs = some (!xs.all okX):=by
   intro xs
   induction xs with
   | nil=>intro _;rfl
   | cons x xs ih =>
    intro hx
    simp only [anyM,List.all_cons]
    have : ca_isChain_1.f x.f0.f0 x.f0.f1 x.f1 x.f2 x.f3 = some (!okX x):=by
     unfold ca_isChain_1.f
     rw [isBasin_eq (hx x (by simp))];rfl
    rw [this,Option.bind_some,ih (fun y hy=>hx y (by simp [hy]))]
    cases okX x<;>rfl
  refine this bs (fun x hx=>?_)
  have:=List.all_eq_true.1 hS x hx
  simp only [shX,decide_eq_true_eq] at this
  omega
 by_cases c : 1≤(bs.length : Int)∧(bs.length : Int)≤4
 ·rw [decide_eq_true c,if_pos rfl]
  by_cases e : (fs.length : Int) = (bs.length : Int) - 1
  ·rw [if_pos e,hc,Option.bind_some,decide_eq_true (by omega)]
   cases ha : bs.all okX with
   | false=>rfl
   | true =>
    rw [if_neg (by decide),chainGo_eq bs hS fs 0 [] (by omega) (by omega)]
    rfl
  ·rw [if_neg e,decide_eq_false (by omega),Bool.false_and,Bool.and_false]
 ·rw [decide_eq_false c,if_neg (by decide),decide_eq_false (by omega),Bool.false_and,Bool.and_false]
theorem rc_l2 (bs : List S27) (fs : List S66) (hf : fs.length≤6) (i : Int) (h0 : 0≤i) (h1 : i < fs.length) {r : Option Bool} {N0 : Nat} (a b : Int) (hr : ∀ k,N0≤k→q4_Chain.l1 k (i + 1) bs fs = r) : ∀ (d k : Nat) (j : Int),0≤j→j + d = i→N0 + d < k→
 q4_Chain.l2 k i j bs fs a b = if ((fs.take i.toNat).drop j.toNat).any (fun g=>g.f0 == a && (g.f1 == b)) = true then some false else r
 | 0,k,j,p0,p1,hk=>by
  obtain ⟨k,rfl⟩:=ksucc (by omega : 0 < k)
  simp only [q4_Chain.l2]
  rw [if_neg (by omega),w64 (n:=i + 1) (by omega),hr k (by omega),List.drop_of_length_le (by rw [List.length_take];omega),List.any_nil,if_neg (by decide)]
 | d + 1,k,j,p0,p1,hk=>by
  obtain ⟨k,rfl⟩:=ksucc (by omega : 0 < k)
  simp only [q4_Chain.l2]
  have hj : j.toNat < (fs.take i.toNat).length:=by rw [List.length_take];omega
  have e : (fs.take i.toNat).drop j.toNat = rd_T66 fs j :: (fs.take i.toNat).drop (j.toNat + 1):=by
   rw [List.drop_eq_getElem_cons hj]
   have hj2 : j.toNat < fs.length:=by omega
   simp [rd_T66,hj2]
  rw [if_pos (by omega),if_pos p0,if_pos (by omega),e,List.any_cons,w64 (n:=j + 1) (by omega)]
  cases c : ((rd_T66 fs j).f0 == a && ((rd_T66 fs j).f1 == b)) with
  | true=>rw [if_pos rfl,Bool.true_or,if_pos rfl]
  | false=>rw [if_neg (by decide),Bool.false_or,rc_l2 bs fs hf i h0 h1 a b hr d k (j + 1) (by omega) (by omega) (by omega),show (j + 1).toNat = j.toNat + 1 by omega]
theorem has_any (met : List S66) (x : S66) : met.any (fun g=>g.f0 == x.f0 && (g.f1 == x.f1)) = hasFeed met x:=by
 unfold hasFeed
 congr 1
 funext g
 rw [Bool.beq_comm (a:=g.f0),Bool.beq_comm (a:=g.f1)]
theorem rc_l1 (bs : List S27) (fs : List S66) (hS : bs.all shX = true) (hb : bs.length≤6) (hl : fs.length + 1 = bs.length) : ∀ (d k : Nat) (i : Int),0≤i→i + d = fs.length→10 * d < k→
 q4_Chain.l1 k i bs fs = some (feedsB bs (fs.drop i.toNat) i (fs.take i.toNat))
 | 0,k,i,h0,h1,hk=>by
  obtain ⟨k,rfl⟩:=ksucc (by omega : 0 < k)
  simp only [q4_Chain.l1]
  rw [if_neg (by omega),List.drop_of_length_le (by omega)];rfl
 | d + 1,k,i,h0,h1,hk=>by
  obtain ⟨k,rfl⟩ : ∃ m,k = m + 1 + 1:=⟨k - 2,by omega⟩
  simp only [q4_Chain.l1,q4_Chain.j3]
  rw [if_pos (by omega),if_pos h0,r4_in,Option.bind_some,drop_feed h0 (by omega)]
  simp only [feedsB,feedB]
  by_cases c : 0≤(rd_T66 fs i).f0∧(rd_T66 fs i).f0≤i
  ·have hs:=all_rd hS c.1 (show (rd_T66 fs i).f0 < (bs.length : Int) by omega)
   simp only [shX,decide_eq_true_eq] at hs
   rw [decide_eq_true c,if_pos rfl,if_pos c.1,if_pos (by omega),w64 (n:=_ - 1) (by omega),r4_in,Option.bind_some]
   by_cases e : -1≤(rd_T66 fs i).f1∧(rd_T66 fs i).f1≤nozN bs (rd_T66 fs i).f0 - 1
   ·have e' : -1≤(rd_T66 fs i).f1∧(rd_T66 fs i).f1≤((rd_T27 bs (rd_T66 fs i).f0).f1.length : Int) - 1:=e
    rw [decide_eq_true e,decide_eq_true e',Bool.not_true,if_neg (by decide)]
    rw [rc_l2 bs fs (by omega) i h0 (by omega) (N0:=10 * d + 1) _ _ (fun k hk=>rc_l1 bs fs hS hb hl d k (i + 1) (by omega) (by omega) (by omega)) i.toNat k 0 (by omega) (by omega) (by omega)]
    rw [Int.toNat_zero,List.drop_zero,has_any,show (i + 1).toNat = i.toNat + 1 by omega,take_feed h0 (by omega)]
    cases hasFeed (fs.take i.toNat) (rd_T66 fs i)<;>simp
   ·have e' : ¬ (-1≤(rd_T66 fs i).f1∧(rd_T66 fs i).f1≤((rd_T27 bs (rd_T66 fs i).f0).f1.length : Int) - 1):=e
    rw [decide_eq_false e,decide_eq_false e',Bool.not_false,if_pos rfl]
    simp
  ·rw [decide_eq_false c,if_neg (by decide)]
   simp
theorem rc_l0 (bs : List S27) (fs : List S66) (hS : bs.all shX = true) (hb : bs.length≤6) (hf : fs.length≤6) : ∀ (d k : Nat) (i : Int),0≤i→i + d = bs.length→100 + d < k→
 q4_Chain.l0 k i bs fs = some ((bs.drop i.toNat).all okX && (decide (1≤bs.length∧bs.length≤4∧fs.length + 1 = bs.length) && feedsB bs fs 0 []))
 | 0,k,i,h0,h1,hk=>by
  obtain ⟨k,rfl⟩ : ∃ m,k = m + 1 + 1:=⟨k - 2,by omega⟩
  simp only [q4_Chain.l0,q4_Chain.j1]
  rw [if_neg (by omega),r4_in,Option.bind_some,List.drop_of_length_le (by omega),List.all_nil,Bool.true_and]
  by_cases c : 1≤(bs.length : Int)∧(bs.length : Int)≤4
  ·rw [decide_eq_true c,if_pos rfl,w64 (by omega)]
   by_cases e : (fs.length : Int) = (bs.length : Int) - 1
   ·rw [show ((fs.length : Int) != (bs.length : Int) - 1) = false by simpa using e,if_neg (by decide),decide_eq_true (by omega),rc_l1 bs fs hS hb (by omega) fs.length k 0 (by omega) (by omega) (by omega)]
    rfl
   ·rw [show ((fs.length : Int) != (bs.length : Int) - 1) = true by simpa using e,if_pos rfl,decide_eq_false (by omega)];rfl
  ·rw [decide_eq_false c,if_neg (by decide),if_pos trivial,decide_eq_false (by omega)];rfl
 | d + 1,k,i,h0,h1,hk=>by
  obtain ⟨k,rfl⟩:=ksucc (by omega : 0 < k)
  simp only [q4_Chain.l0]
  have hs:=all_rd hS h0 (show i < (bs.length : Int) by omega)
  simp only [shX,decide_eq_true_eq] at hs
  rw [if_pos (by omega),if_pos h0,refBasin_eq (by omega) (by omega) (by omega),Option.bind_some,drop_bas h0 (by omega),List.all_cons,w64 (n:=i + 1) (by omega)]
  cases c : okX (rd_T27 bs i) with
  | true =>
   unfold okX at c
   rw [c,if_pos rfl,rc_l0 bs fs hS hb hf d k (i + 1) (by omega) (by omega) (by omega),show (i + 1).toNat = i.toNat + 1 by omega,Bool.true_and]
  | false =>
   unfold okX at c
   rw [c,if_neg (by decide)];rfl
theorem rChain_eq {bs : List S27} {fs : List S66} (hS : bs.all shX = true) (hb : bs.length≤6) (hf : fs.length≤6) {k : Nat} (hk : 110≤k) : q4_Chain.f k bs fs = some (okCh bs fs):=by
 unfold q4_Chain.f okCh
 have:=rc_l0 bs fs hS hb hf bs.length k 0 (by omega) (by omega) (by omega)
 simpa using this
theorem feedsB_at (bs : List S27) (fs : List S66) : ∀ (d : Nat) (i : Int),0≤i→i + d = fs.length→feedsB bs (fs.drop i.toNat) i (fs.take i.toNat) = true→∀ j : Int,i≤j→j < fs.length→feedB bs (fs.take j.toNat) j (rd_T66 fs j) = true
 | 0,i,h0,h1,h,j,p0,p1=>by omega
 | d + 1,i,h0,h1,h,j,p0,p1=>by
  rw [drop_feed h0 (by omega)] at h
  simp only [feedsB,Bool.and_eq_true] at h
  by_cases e : j = i
  ·subst e;exact h.1
  ·rw [← take_feed h0 (by omega),show i.toNat + 1 = (i + 1).toNat by omega] at h
   exact feedsB_at bs fs d (i + 1) (by omega) (by omega) h.2 j (by omega) p1
structure OkCh (bs : List S27) (fs : List S66) : Prop where
 n1 : 1≤bs.length
 n2 : bs.length≤4
 nf : fs.length + 1 = bs.length
 bas : ∀ i : Int,0≤i→i < bs.length→OkB (rd_T27 bs i).f0.f0 (rd_T27 bs i).f0.f1 (rd_T27 bs i).f1 (rd_T27 bs i).f2 (rd_T27 bs i).f3
 feed : ∀ i : Int,0≤i→i < fs.length→(0≤(rd_T66 fs i).f0∧(rd_T66 fs i).f0≤i)∧-1≤(rd_T66 fs i).f1∧(rd_T66 fs i).f1≤nozN bs (rd_T66 fs i).f0 - 1
 new : ∀ i : Int,0≤i→i < fs.length→hasFeed (fs.take i.toNat) (rd_T66 fs i) = false
theorem okCh_of {bs : List S27} {fs : List S66} (h : okCh bs fs = true) : OkCh bs fs:=by
 unfold okCh at h
 simp only [Bool.and_eq_true,decide_eq_true_eq] at h
 obtain ⟨ha,⟨h1,h2,h3⟩,hf⟩:=h
 have at_:=feedsB_at bs fs fs.length 0 (by omega) (by omega) (by simpa using hf)
 refine ⟨h1,h2,h3,fun i i0 i1=>okB_iff.1 (all_rd ha i0 i1),fun i i0 i1=>?_,fun i i0 i1=>?_⟩
 ·have:=at_ i i0 i1
  simp only [feedB,Bool.and_eq_true,decide_eq_true_eq,Bool.not_eq_true'] at this
  exact ⟨this.2.1,this.2.2⟩
 ·have:=at_ i i0 i1
  simp only [feedB,Bool.and_eq_true,decide_eq_true_eq,Bool.not_eq_true'] at this
  exact this.1
def leL : List Int→List Int→Prop
 | x :: l,y :: m=>x≤y∧leL l m
 | [],[]=>True
 | _,_=>False
theorem leL.refl : ∀ l : List Int,leL l l
 | []=>trivial
 | x :: l=>⟨Int.le_refl x,leL.refl l⟩
theorem leL.trans : ∀ {a b c : List Int},leL a b→leL b c→leL a c
 | [],[],[],_,_=>trivial
 | x :: a,y :: b,z :: c,h,k=>⟨Int.le_trans h.1 k.1,leL.trans h.2 k.2⟩
 | [],_ :: _,_,h,_=>h.elim
 | _ :: _,[],_,h,_=>h.elim
 | [],[],_ :: _,_,k=>k.elim
 | _ :: _,_ :: _,[],_,k=>k.elim
section
variable {rows : List S126} {draw : Int} {noz : List S48} {weir spill : Int}
theorem over_is (h : OkB rows draw noz weir spill) {c : Int} (hc : 0≤c) (g : lev rows noz weir spill c < 40) :
 c - (shareL rows noz weir spill c).sum = over weir spill (lev rows noz weir spill c) + (shGo (gat rows noz (lev rows noz weir spill c)) (gat rows noz (lev rows noz weir spill c + 1)) (c - tot rows noz weir spill (lev rows noz weir spill c))).2:=by
 have L:=lev_is h hc
 have q:=(shGo_in (r:=c - tot rows noz weir spill (lev rows noz weir spill c)) (gat_pairs h (show lev rows noz weir spill c≤lev rows noz weir spill c + 1 by omega)) (by have:=L.2.2.1;omega)).2.2.2.2
 have te : tot rows noz weir spill (lev rows noz weir spill c) = (gat rows noz (lev rows noz weir spill c)).sum + over weir spill (lev rows noz weir spill c):=rfl
 have e : shareL rows noz weir spill c = (shGo (gat rows noz (lev rows noz weir spill c)) (gat rows noz (lev rows noz weir spill c + 1)) (c - tot rows noz weir spill (lev rows noz weir spill c))).1:=by unfold shareL;rw [if_pos g]
 rw [e];omega
theorem over_ge (h : OkB rows draw noz weir spill) {c : Int} (hc : 0≤c) : over weir spill (lev rows noz weir spill c)≤c - (shareL rows noz weir spill c).sum:=by
 have L:=lev_is h hc
 have l3:=L.2.2.1
 by_cases g : lev rows noz weir spill c < 40
 ·rw [over_is h hc g]
  have q:=(shGo_in (r:=c - tot rows noz weir spill (lev rows noz weir spill c)) (gat_pairs h (show lev rows noz weir spill c≤lev rows noz weir spill c + 1 by omega)) (by omega)).2.1
  omega
 ·have te : tot rows noz weir spill (lev rows noz weir spill c) = (gat rows noz (lev rows noz weir spill c)).sum + over weir spill (lev rows noz weir spill c):=rfl
  unfold shareL;rw [if_neg g];omega
end
def inn (fs : List S66) (cups i : Int) (xs : List (List Int)) (ys : List Int) : Int:=
 if 0 < i then (if 0≤(rd_T66 fs (i - 1)).f1 then rd (rd_L3 xs (rd_T66 fs (i - 1)).f0) (rd_T66 fs (i - 1)).f1 else rd ys (rd_T66 fs (i - 1)).f0) else cups
def shX' (x : S27) (c : Int) : List Int:=shareL x.f0.f0 x.f1 x.f2 x.f3 c
def flL (fs : List S66) (cups : Int) : List S27→Int→List (List Int)→List Int→List (List Int) × List Int
 | [],_,xs,ys=>(xs,ys)
 | x :: rest,i,xs,ys=>flL fs cups rest (i + 1) (xs ++ [shX' x (inn fs cups i xs ys)]) (ys ++ [inn fs cups i xs ys - (shX' x (inn fs cups i xs ys)).sum])
structure FInv (bs : List S27) (i : Int) (xs : List (List Int)) (ys : List Int) : Prop where
 lx : (xs.length : Int) = i
 ly : (ys.length : Int) = i
 rows : ∀ j : Int,0≤j→j < i→((rd_L3 xs j).length : Int) = nozN bs j∧∀ v ∈ rd_L3 xs j,0≤v∧v≤1000
 over : ∀ j : Int,0≤j→j < i→0≤rd ys j∧rd ys j≤10000
theorem rdL_snoc {xs : List (List Int)} {l : List Int} {j : Int} (h0 : 0≤j) : rd_L3 (xs ++ [l]) j = if j < (xs.length : Int) then rd_L3 xs j else if j = (xs.length : Int) then l else []:=by
 unfold rd_L3
 by_cases c : j < (xs.length : Int)
 ·rw [if_pos c,List.getD_eq_getElem?_getD,List.getD_eq_getElem?_getD,List.getElem?_append_left (by omega)]
 ·rw [if_neg c,List.getD_eq_getElem?_getD,List.getElem?_append_right (by omega)]
  by_cases e : j = (xs.length : Int)
  ·rw [if_pos e,show j.toNat - xs.length = 0 by omega];rfl
  ·rw [if_neg e,List.getElem?_eq_none (by simp;omega)];rfl
theorem rd_snoc {ys : List Int} {n : Int} {j : Int} (h0 : 0≤j) : rd (ys ++ [n]) j = if j < (ys.length : Int) then rd ys j else if j = (ys.length : Int) then n else 0:=by
 unfold rd
 by_cases c : j < (ys.length : Int)
 ·rw [if_pos c,List.getD_eq_getElem?_getD,List.getD_eq_getElem?_getD,List.getElem?_append_left (by omega)]
 ·rw [if_neg c,List.getD_eq_getElem?_getD,List.getElem?_append_right (by omega)]
  by_cases e : j = (ys.length : Int)
  ·rw [if_pos e,show j.toNat - ys.length = 0 by omega];rfl
  ·rw [if_neg e,List.getElem?_eq_none (by simp;omega)];rfl
theorem share_X {bs : List S27} {fs : List S66} (h : OkCh bs fs) {i c : Int} (h0 : 0≤i) (h1 : i < bs.length) (c0 : 0≤c) (c1 : c≤10000) :
 (∀ v ∈ shX' (rd_T27 bs i) c,0≤v∧v≤1000)∧((shX' (rd_T27 bs i) c).length : Int) = nozN bs i∧0≤c - (shX' (rd_T27 bs i) c).sum∧c - (shX' (rd_T27 bs i) c).sum≤10000:=by
 have hb:=h.bas i h0 h1
 have s:=shareL_in hb c0
 have o:=over_ge hb c0
 have o2:=over_in hb (lev_is hb c0).1 (lev_is hb c0).2.1
 have n0:=sum_nn (fun x hx=>(s.1 x hx).1)
 refine ⟨s.1,by unfold shX' nozN;rw [s.2],?_,?_⟩
 ·unfold shX';omega
 ·unfold shX';omega
theorem rd_inR {X : List Int} {i : Int} (hX : ∀ x ∈ X,0≤x∧x≤1000) (h0 : 0≤i) (h1 : i < X.length) : 0≤rd X i∧rd X i≤1000:=by
 have hi : i.toNat < X.length:=by omega
 have : rd X i = X[i.toNat]:=by simp [rd,hi]
 rw [this];exact hX _ (List.getElem_mem _)
theorem inn_in {bs : List S27} {fs : List S66} (h : OkCh bs fs) {cups i : Int} {xs : List (List Int)} {ys : List Int} (c0 : 0≤cups) (c1 : cups≤10000) (h0 : 0≤i) (h1 : i < bs.length) (hI : FInv bs i xs ys) : 0≤inn fs cups i xs ys∧inn fs cups i xs ys≤10000:=by
 unfold inn
 by_cases p : 0 < i
 ·rw [if_pos p]
  have nf:=h.nf
  have f:=h.feed (i - 1) (by omega) (by omega)
  by_cases q : 0≤(rd_T66 fs (i - 1)).f1
  ·rw [if_pos q]
   have r:=hI.rows (rd_T66 fs (i - 1)).f0 (by omega) (by omega)
   have:=rd_inR r.2 q (by omega)
   omega
  ·rw [if_neg q]
   have:=hI.over (rd_T66 fs (i - 1)).f0 (by omega) (by omega)
   omega
 ·rw [if_neg p];omega
theorem FInv.step {bs : List S27} {fs : List S66} (h : OkCh bs fs) {i c : Int} {xs : List (List Int)} {ys : List Int} (h0 : 0≤i) (h1 : i < bs.length) (hI : FInv bs i xs ys) (c0 : 0≤c) (c1 : c≤10000) : FInv bs (i + 1) (xs ++ [shX' (rd_T27 bs i) c]) (ys ++ [c - (shX' (rd_T27 bs i) c).sum]):=by
 have s:=share_X h h0 h1 c0 c1
 have lx:=hI.lx
 have ly:=hI.ly
 refine ⟨by simp;omega,by simp;omega,fun j j0 j1=>?_,fun j j0 j1=>?_⟩
 ·rw [rdL_snoc j0]
  by_cases e : j < (xs.length : Int)
  ·rw [if_pos e];exact hI.rows j j0 (by omega)
  ·rw [if_neg e,if_pos (by omega),show j = i by omega];exact ⟨s.2.1,s.1⟩
 ·rw [rd_snoc j0]
  by_cases e : j < (ys.length : Int)
  ·rw [if_pos e];exact hI.over j j0 (by omega)
  ·rw [if_neg e,if_pos (by omega)];exact s.2.2
theorem FInv.nil (bs : List S27) : FInv bs 0 [] []:=⟨rfl,rfl,fun j a b=>by omega,fun j a b=>by omega⟩
def filX (x : S27) : S110:=filledOf x (x.f0.f1,x.f2,x.f3,grid x.f0.f0 x.f1)
theorem basinsGo_eq : ∀ (l : List S27) (acc : List S110),(∀ x ∈ l,OkB x.f0.f0 x.f0.f1 x.f1 x.f2 x.f3)→acc.length + l.length≤1000→basinsGo l acc = some (acc ++ l.map filX)
 | [],acc,h,hl=>by simp [basinsGo]
 | x :: l,acc,h,hl=>by
  simp only [List.length_cons] at hl
  rw [basinsGo,fillK_eq (h x (by simp)),Option.bind_some,if_pos (by omega),basinsGo_eq l _ (fun y hy=>h y (by simp [hy])) (by simp;omega)]
  simp [filX]
theorem flow_go {bs : List S27} {fs : List S66} (h : OkCh bs fs) {cups : Int} (c0 : 0≤cups) (c1 : cups≤10000) {k : Nat} (hk : 20≤k) : ∀ (d : Nat) (i : Int) (xs : List (List Int)) (ys : List Int) (u : Int),0≤i→i + d = bs.length→FInv bs i xs ys→(¬ 0 < i→u = cups)→
 flowGo k fs ((bs.drop i.toNat).map filX) i u xs ys = some (flL fs cups (bs.drop i.toNat) i xs ys)
 | 0,i,xs,ys,u,h0,h1,hI,hu=>by
  rw [List.drop_of_length_le (by omega)];rfl
 | d + 1,i,xs,ys,u,h0,h1,hI,hu=>by
  have n2:=h.n2
  have nf:=h.nf
  have lx:=hI.lx
  have ly:=hI.ly
  have ii:=inn_in h c0 c1 h0 (show i < (bs.length : Int) by omega) hI
  rw [drop_bas h0 (by omega),List.map_cons]
  simp only [flowGo,flL]
  have e : flowIn fs i u xs ys = some (inn fs cups i xs ys):=by
   unfold flowIn inn
   by_cases p : 0 < i
   ·have f:=h.feed (i - 1) (by omega) (by omega)
    rw [if_pos p,if_pos p,if_pos (by omega),if_pos f.1.1,if_pos (by omega)]
    by_cases q : 0≤(rd_T66 fs (i - 1)).f1
    ·have r:=hI.rows (rd_T66 fs (i - 1)).f0 (by omega) (by omega)
     rw [if_pos q,if_pos q,if_pos (by omega),if_pos (by omega)]
    ·rw [if_neg q,if_neg q]
   ·rw [if_neg p,if_neg p,hu p]
  have hb:=h.bas i h0 (by omega)
  have sh : gf_shares.f k (filX (rd_T27 bs i)).f0.f0.f0 (filX (rd_T27 bs i)).f0.f0.f1 (filX (rd_T27 bs i)).f0.f1 (filX (rd_T27 bs i)).f0.f2 (filX (rd_T27 bs i)).f0.f3 (filX (rd_T27 bs i)).f1 (inn fs cups i xs ys) = some (shX' (rd_T27 bs i) (inn fs cups i xs ys),inn fs cups i xs ys - (shX' (rd_T27 bs i) (inn fs cups i xs ys)).sum):=shares_eq hb ii.1 ii.2 hk
  rw [e,Option.bind_some,sh,Option.bind_some,if_pos (by omega),if_pos (by omega)]
  have:=flow_go h c0 c1 hk d (i + 1) _ _ (inn fs cups i xs ys) (by omega) (by omega) (hI.step h h0 (by omega) ii.1 ii.2) (fun p=>absurd (show 0 < i + 1 by omega) p)
  rw [show (i + 1).toNat = i.toNat + 1 by omega] at this
  exact this
def flowsL (bs : List S27) (fs : List S66) (cups : Int) : List (List Int) × List Int:=flL fs cups bs 0 [] []
theorem okX_all {bs : List S27} {fs : List S66} (h : okCh bs fs = true) : ∀ x ∈ bs,OkB x.f0.f0 x.f0.f1 x.f1 x.f2 x.f3:=by
 unfold okCh at h
 simp only [Bool.and_eq_true] at h
 intro x hx
 exact okB_iff.1 (List.all_eq_true.1 h.1 x hx)
theorem basins_eq {bs : List S27} {fs : List S66} (h : okCh bs fs = true) : ca_basins.f bs = some (bs.map filX):=by
 have n2:=(okCh_of h).n2
 have:=basinsGo_eq bs [] (okX_all h) (by simp;omega)
 simpa [ca_basins.f] using this
theorem cflow_eq {bs : List S27} {fs : List S66} (h : okCh bs fs = true) {cups : Int} (c0 : 0≤cups) (c1 : cups≤10000) {k : Nat} (hk : 20≤k) : ca_flow.f k (bs.map filX) fs cups = some (flowsL bs fs cups):=by
 have:=flow_go (okCh_of h) c0 c1 hk bs.length 0 [] [] cups (by omega) (by omega) (FInv.nil bs) (fun _=>rfl)
 simpa [ca_flow.f,flowsL] using this
theorem cFlow_eq {bs : List S27} {fs : List S66} (hS : bs.all shX = true) (h : okCh bs fs = true) {cups : Int} (c0 : 0≤cups) (c1 : cups≤10000) {k : Nat} (hk : 20≤k) : ca_Flow.f k bs fs cups = some ((flowsL bs fs cups).1,(flowsL bs fs cups).2,0):=by
 unfold ca_Flow.f
 rw [cChainIs_eq hS,h,Option.bind_some,if_pos rfl,c_flow,decide_eq_true ⟨c0,c1⟩,Option.bind_some,if_pos rfl,basins_eq h,Option.bind_some,cflow_eq h c0 c1 hk,Option.bind_some]
theorem flL_inv {bs : List S27} {fs : List S66} (h : OkCh bs fs) {cups : Int} (c0 : 0≤cups) (c1 : cups≤10000) : ∀ (d : Nat) (i : Int) (xs : List (List Int)) (ys : List Int),0≤i→i + d = bs.length→FInv bs i xs ys→FInv bs bs.length (flL fs cups (bs.drop i.toNat) i xs ys).1 (flL fs cups (bs.drop i.toNat) i xs ys).2
 | 0,i,xs,ys,h0,h1,hI=>by
  rw [List.drop_of_length_le (by omega),show (bs.length : Int) = i by omega];exact hI
 | d + 1,i,xs,ys,h0,h1,hI=>by
  have ii:=inn_in h c0 c1 h0 (show i < (bs.length : Int) by omega) hI
  rw [drop_bas h0 (by omega)]
  have:=flL_inv h c0 c1 d (i + 1) _ _ (by omega) (by omega) (hI.step h h0 (by omega) ii.1 ii.2)
  rw [show (i + 1).toNat = i.toNat + 1 by omega] at this
  exact this
theorem flowsL_inv {bs : List S27} {fs : List S66} (h : okCh bs fs = true) {cups : Int} (c0 : 0≤cups) (c1 : cups≤10000) : FInv bs bs.length (flowsL bs fs cups).1 (flowsL bs fs cups).2:=by
 have:=flL_inv (okCh_of h) c0 c1 bs.length 0 [] [] (by omega) (by omega) (FInv.nil bs)
 simpa [flowsL] using this
def rowT (p : Int→Int→Bool) (i : Int) : Int→List Int→Int
 | _,[]=>0
 | k,v :: l=>(if p i k = true then 0 else v) + rowT p i (k + 1) l
def totT (p : Int→Int→Bool) : Int→List (List Int)→List Int→Int
 | i,l :: xs,y :: ys=>rowT p i 0 l + (if p i (-1) = true then 0 else y) + totT p (i + 1) xs ys
 | _,[],_=>0
 | _,_,[]=>0
def fedP (fs : List S66) (i k : Int) : Bool:=hasFeed fs ⟨i,k⟩
theorem rowT_sum {p : Int→Int→Bool} {i : Int} : ∀ (l : List Int) (k : Int),(∀ j : Int,0≤j→j < l.length→p i (k + j) = false)→rowT p i k l = l.sum
 | [],k,h=>rfl
 | v :: l,k,h=>by
  have h0:=h 0 (by omega) (by simp only [List.length_cons];omega)
  rw [Int.add_zero] at h0
  simp only [rowT,List.sum_cons,h0,Bool.false_eq_true,if_false]
  rw [rowT_sum l (k + 1) (fun j a b=>by rw [show k + 1 + j = k + (j + 1) by omega];exact h (j + 1) (by omega) (by simp only [List.length_cons];omega))]
theorem rowT_ext {p q : Int→Int→Bool} {i : Int} : ∀ (l : List Int) (k : Int),(∀ j : Int,0≤j→j < l.length→p i (k + j) = q i (k + j))→rowT p i k l = rowT q i k l
 | [],k,h=>rfl
 | v :: l,k,h=>by
  have h0:=h 0 (by omega) (by simp only [List.length_cons];omega)
  rw [Int.add_zero] at h0
  simp only [rowT,h0]
  rw [rowT_ext (p:=p) (q:=q) l (k + 1) (fun j a b=>by rw [show k + 1 + j = k + (j + 1) by omega];exact h (j + 1) (by omega) (by simp only [List.length_cons];omega))]
theorem rowT_one {p q : Int→Int→Bool} {i n : Int} (hp : p i n = false) (hq : q i n = true) (ho : ∀ m,m ≠ n→q i m = p i m) : ∀ (l : List Int) (k : Int),k≤n→n < k + l.length→rowT q i k l = rowT p i k l - rd l (n - k)
 | [],k,h0,h1=>by simp at h1;omega
 | v :: l,k,h0,h1=>by
  simp only [List.length_cons] at h1
  simp only [rowT]
  by_cases e : k = n
  ·subst e
   rw [hp,hq,rowT_ext (p:=q) (q:=p) l (k + 1) (fun j a b=>ho _ (by omega)),show k - k = 0 by omega]
   simp [rd]
   omega
  ·rw [ho k e,rowT_one hp hq ho l (k + 1) (by omega) (by omega)]
   have : rd (v :: l) (n - k) = rd l (n - (k + 1)):=by
    unfold rd
    rw [show (n - k).toNat = (n - (k + 1)).toNat + 1 by omega]
    simp
   omega
theorem totT_ext {p q : Int→Int→Bool} : ∀ (xs : List (List Int)) (ys : List Int) (i : Int),(∀ a b : Int,i≤a→a < i + xs.length→q a b = p a b)→totT q i xs ys = totT p i xs ys
 | [],_,_,_=>by simp [totT]
 | _ :: _,[],_,_=>by simp [totT]
 | l :: xs,y :: ys,i,h=>by
  simp only [List.length_cons] at h
  simp only [totT]
  rw [rowT_ext (p:=q) (q:=p) l 0 (fun j a b=>h _ _ (by omega) (by omega)),h i (-1) (by omega) (by omega),totT_ext (p:=p) (q:=q) xs ys (i + 1) (fun a b h1 h2=>h a b (by omega) (by omega))]
theorem totT_snoc {p : Int→Int→Bool} (l : List Int) (y : Int) : ∀ (xs : List (List Int)) (ys : List Int) (i : Int),xs.length = ys.length→totT p i (xs ++ [l]) (ys ++ [y]) = totT p i xs ys + (rowT p (i + xs.length) 0 l + if p (i + xs.length) (-1) = true then 0 else y)
 | [],[],i,h=>by simp [totT]
 | [],_ :: _,_,h=>by simp at h
 | _ :: _,[],_,h=>by simp at h
 | a :: xs,b :: ys,i,h=>by
  simp only [List.length_cons,Nat.add_right_cancel_iff] at h
  simp only [List.cons_append,totT,List.length_cons]
  rw [totT_snoc l y xs ys (i + 1) h,show i + 1 + (xs.length : Int) = i + ((xs.length + 1 : Nat) : Int) by omega]
  omega
theorem totT_one {p q : Int→Int→Bool} {b n : Int} (hp : p b n = false) (hq : q b n = true) (ho : ∀ a m,¬ (a = b∧m = n)→q a m = p a m) : ∀ (xs : List (List Int)) (ys : List Int) (i : Int),xs.length = ys.length→i≤b→b < i + xs.length→-1≤n→n < (rd_L3 xs (b - i)).length→totT q i xs ys = totT p i xs ys - if 0≤n then rd (rd_L3 xs (b - i)) n else rd ys (b - i)
 | [],_,i,h,h0,h1,hn,hl=>by simp at h1;omega
 | _ :: _,[],i,h,h0,h1,hn,hl=>by simp at h
 | l :: xs,y :: ys,i,h,h0,h1,hn,hl=>by
  simp only [List.length_cons,Nat.add_right_cancel_iff] at h
  simp only [List.length_cons] at h1
  simp only [totT]
  by_cases e : i = b
  ·subst e
   have e0 : rd_L3 (l :: xs) (i - i) = l:=by unfold rd_L3;simp
   have e1 : rd (y :: ys) (i - i) = y:=by unfold rd;simp
   rw [e0] at hl ⊢
   rw [e1,totT_ext (p:=p) (q:=q) xs ys (i + 1) (fun a m h1 h2=>ho a m (by omega))]
   by_cases c : 0≤n
   ·rw [if_pos c,ho i (-1) (by omega),rowT_one hp hq (fun m hm=>ho i m (by omega)) l 0 c (by omega),Int.sub_zero]
    omega
   ·obtain rfl : n = -1:=by omega
    rw [if_neg (show ¬ (0 : Int)≤-1 by decide),rowT_ext (p:=q) (q:=p) l 0 (fun j a b=>ho _ _ (by omega))]
    simp only [hp,hq,Bool.false_eq_true,if_false,if_true]
    omega
  ·have e0 : rd_L3 (l :: xs) (b - i) = rd_L3 xs (b - (i + 1)):=by
    unfold rd_L3
    rw [show (b - i).toNat = (b - (i + 1)).toNat + 1 by omega];simp
   have e1 : rd (y :: ys) (b - i) = rd ys (b - (i + 1)):=by
    unfold rd
    rw [show (b - i).toNat = (b - (i + 1)).toNat + 1 by omega];simp
   rw [e0] at hl ⊢
   rw [e1,totT_one hp hq ho xs ys (i + 1) h (by omega) (by omega) hn hl,ho i (-1) (by omega),rowT_ext (p:=q) (q:=p) l 0 (fun j a b=>ho _ _ (by omega))]
   omega
theorem fed_take {fs : List S66} {i : Int} (h0 : 0≤i) (h1 : i < fs.length) (a m : Int) : fedP (fs.take (i + 1).toNat) a m = (fedP (fs.take i.toNat) a m || ((rd_T66 fs i).f0 == a && (rd_T66 fs i).f1 == m)):=by
 have e : fs.take (i + 1).toNat = fs.take i.toNat ++ [rd_T66 fs i]:=by
  rw [← take_feed h0 (by omega),show (i + 1).toNat = i.toNat + 1 by omega]
 unfold fedP hasFeed
 rw [e,List.any_append]
 simp [Bool.beq_comm,eq_comm]
theorem fed_old {bs : List S27} {fs : List S66} (h : OkCh bs fs) : ∀ (d : Nat) (i : Int),i = d→i≤fs.length→∀ a m : Int,i≤a→fedP (fs.take i.toNat) a m = false
 | 0,i,e,h1,a,m,ha=>by
  rw [show i.toNat = 0 by omega];rfl
 | d + 1,i,e,h1,a,m,ha=>by
  have ih:=fed_old h d (i - 1) (by omega) (by omega) a m (by omega)
  have t:=fed_take (fs:=fs) (i:=i - 1) (by omega) (by omega) a m
  rw [show i - 1 + 1 = i by omega,ih] at t
  have f:=(h.feed (i - 1) (by omega) (by omega)).1
  rw [t,Bool.false_or]
  have : ((rd_T66 fs (i - 1)).f0 == a) = false:=by rw [beq_eq_false_iff_ne];omega
  rw [this,Bool.false_and]
theorem flL_tot {bs : List S27} {fs : List S66} (h : OkCh bs fs) {cups : Int} (c0 : 0≤cups) (c1 : cups≤10000) : ∀ (d : Nat) (i : Int) (xs : List (List Int)) (ys : List Int),0 < i→i + d = bs.length→FInv bs i xs ys→totT (fedP (fs.take (i - 1).toNat)) 0 xs ys = cups→totT (fedP fs) 0 (flL fs cups (bs.drop i.toNat) i xs ys).1 (flL fs cups (bs.drop i.toNat) i xs ys).2 = cups
 | 0,i,xs,ys,h0,h1,hI,hT=>by
  have nf:=h.nf
  rw [List.drop_of_length_le (by omega)]
  rw [List.take_of_length_le (by omega)] at hT
  exact hT
 | d + 1,i,xs,ys,h0,h1,hI,hT=>by
  have nf:=h.nf
  have ii:=inn_in h c0 c1 (show 0≤i by omega) (show i < (bs.length : Int) by omega) hI
  have lx:=hI.lx
  have ly:=hI.ly
  have f:=h.feed (i - 1) (by omega) (by omega)
  have nw:=h.new (i - 1) (by omega) (by omega)
  have ft:=fed_take (fs:=fs) (i:=i - 1) (by omega) (by omega)
  rw [show i - 1 + 1 = i by omega] at ft
  have one:=totT_one (p:=fedP (fs.take (i - 1).toNat)) (q:=fedP (fs.take i.toNat)) (b:=(rd_T66 fs (i - 1)).f0) (n:=(rd_T66 fs (i - 1)).f1) nw (by rw [ft];simp) (fun a m hn=>by
   rw [ft]
   have : ((rd_T66 fs (i - 1)).f0 == a && (rd_T66 fs (i - 1)).f1 == m) = false:=by
    rw [Bool.and_eq_false_iff]
    by_cases q : (rd_T66 fs (i - 1)).f0 = a
    ·right;rw [beq_eq_false_iff_ne];exact fun q2=>hn ⟨q.symm,q2.symm⟩
    ·left;rw [beq_eq_false_iff_ne];exact q
   rw [this,Bool.or_false]) xs ys 0 (by omega) (by omega) (by omega) f.2.1 (by rw [Int.sub_zero,(hI.rows _ f.1.1 (by omega)).1];omega)
  rw [Int.sub_zero,hT] at one
  have ie : inn fs cups i xs ys = if 0≤(rd_T66 fs (i - 1)).f1 then rd (rd_L3 xs (rd_T66 fs (i - 1)).f0) (rd_T66 fs (i - 1)).f1 else rd ys (rd_T66 fs (i - 1)).f0:=by
   unfold inn;rw [if_pos h0]
  rw [← ie] at one
  rw [drop_bas (by omega) (by omega)]
  have old:=fed_old h i.toNat i (by omega) (by omega)
  have next:=flL_tot h c0 c1 d (i + 1) (xs ++ [shX' (rd_T27 bs i) (inn fs cups i xs ys)]) (ys ++ [inn fs cups i xs ys - (shX' (rd_T27 bs i) (inn fs cups i xs ys)).sum]) (by omega) (by omega) (hI.step h (by omega) (by omega) ii.1 ii.2) (by
   rw [show i + 1 - 1 = i by omega,totT_snoc _ _ xs ys 0 (by omega),one,show (0 : Int) + xs.length = i by omega,rowT_sum _ 0 (fun j a b=>old i (0 + j) (Int.le_refl i)),old i (-1) (Int.le_refl i)]
   simp only [Bool.false_eq_true,if_false]
   omega)
  rw [show (i + 1).toNat = i.toNat + 1 by omega] at next
  exact next
theorem flows_tot {bs : List S27} {fs : List S66} (hb : okCh bs fs = true) {cups : Int} (c0 : 0≤cups) (c1 : cups≤10000) : totT (fedP fs) 0 (flowsL bs fs cups).1 (flowsL bs fs cups).2 = cups:=by
 have h:=okCh_of hb
 have n1:=h.n1
 have ii:=inn_in h c0 c1 (show (0 : Int)≤0 by omega) (show (0 : Int) < (bs.length : Int) by omega) (FInv.nil bs)
 have ie : inn fs cups 0 [] [] = cups:=by unfold inn;rw [if_neg (by decide)]
 have st:=(FInv.nil bs).step h (by omega) (by omega) ii.1 ii.2
 have e:=flL_tot h c0 c1 (bs.length - 1) (0 + 1) _ _ (by omega) (by omega) st (by
  rw [ie,show (0 : Int) + 1 - 1 = 0 by omega]
  have hf : ∀ a m : Int,fedP (fs.take (0 : Int).toNat) a m = false:=fun a m=>rfl
  simp only [List.nil_append,totT,hf,Bool.false_eq_true,if_false]
  rw [rowT_sum _ 0 (fun j a b=>rfl)]
  omega)
 unfold flowsL
 have dr:=drop_bas (C:=bs) (i:=0) (by omega) (by omega)
 rw [show (0 : Int).toNat = 0 from rfl,List.drop_zero] at dr
 rw [dr]
 exact e
theorem fed_go (bs : List S27) (fs : List S66) (a m : Int) (hl : fs.length≤1000) : ∀ (d k : Nat) (i : Int),0≤i→i + d = fs.length→d < k→q4_Fed.l0 k a m i bs fs = some (fedP (fs.drop i.toNat) a m)
 | 0,k,i,h0,h1,hk=>by
  obtain ⟨k,rfl⟩:=ksucc (by omega : 0 < k)
  simp only [q4_Fed.l0]
  rw [if_neg (by omega),List.drop_of_length_le (by omega)]
  rfl
 | d + 1,k,i,h0,h1,hk=>by
  obtain ⟨k,rfl⟩:=ksucc (by omega : 0 < k)
  have ih:=fed_go bs fs a m hl d k (i + 1) (by omega) (by omega) (by omega)
  have hi : i.toNat < fs.length:=by omega
  have e : fs.drop i.toNat = rd_T66 fs i :: fs.drop (i + 1).toNat:=by
   rw [List.drop_eq_getElem_cons hi,show (i + 1).toNat = i.toNat + 1 by omega];simp [rd_T66,hi]
  simp only [q4_Fed.l0]
  rw [if_pos (by omega),if_pos h0,w64 (n:=i + 1) (by omega),ih,e]
  unfold fedP hasFeed
  rw [List.any_cons]
  by_cases q1 : (rd_T66 fs i).f0 = a
  ·rw [if_pos q1]
   by_cases q2 : (rd_T66 fs i).f1 = m
   ·rw [if_pos q2];simp [q1,q2]
   ·rw [if_neg q2]
    have : (m == (rd_T66 fs i).f1) = false:=by rw [beq_eq_false_iff_ne];exact fun q=>q2 q.symm
    simp [this]
  ·rw [if_neg q1]
   have : (a == (rd_T66 fs i).f0) = false:=by rw [beq_eq_false_iff_ne];exact fun q=>q1 q.symm
   simp [this]
theorem rFed_eq (bs : List S27) (fs : List S66) (a m : Int) (hl : fs.length≤1000) {k : Nat} (hk : fs.length < k) : q4_Fed.f k bs fs a m = some (fedP fs a m):=by
 unfold q4_Fed.f
 rw [fed_go bs fs a m hl fs.length k 0 (by omega) (by omega) hk]
 rfl
def Bal (fs : List S66) (cups i : Int) (xs : List (List Int)) (ys : List Int) : Prop:=∀ j : Int,0≤j→j < i→(rd_L3 xs j).sum + rd ys j = inn fs cups j xs ys
theorem inn_snoc {bs : List S27} {fs : List S66} (h : OkCh bs fs) {cups i : Int} {xs : List (List Int)} {ys : List Int} (hI : FInv bs i xs ys) (l : List Int) (y : Int) {j : Int} (j0 : 0≤j) (j1 : j≤i) (j2 : j < bs.length) : inn fs cups j (xs ++ [l]) (ys ++ [y]) = inn fs cups j xs ys:=by
 have nf:=h.nf
 have lx:=hI.lx
 have ly:=hI.ly
 unfold inn
 by_cases p : 0 < j
 ·have f:=h.feed (j - 1) (by omega) (by omega)
  rw [if_pos p,if_pos p,rdL_snoc f.1.1,rd_snoc f.1.1,if_pos (show (rd_T66 fs (j - 1)).f0 < (xs.length : Int) by omega),if_pos (show (rd_T66 fs (j - 1)).f0 < (ys.length : Int) by omega)]
 ·rw [if_neg p,if_neg p]
theorem Bal.step {bs : List S27} {fs : List S66} (h : OkCh bs fs) {cups i : Int} {xs : List (List Int)} {ys : List Int} (h0 : 0≤i) (h1 : i < bs.length) (hI : FInv bs i xs ys) (hB : Bal fs cups i xs ys) (l : List Int) : Bal fs cups (i + 1) (xs ++ [l]) (ys ++ [inn fs cups i xs ys - l.sum]):=by
 have lx:=hI.lx
 have ly:=hI.ly
 intro j j0 j1
 rw [inn_snoc h hI _ _ j0 (by omega) (by omega),rdL_snoc j0,rd_snoc j0]
 by_cases e : j < i
 ·rw [if_pos (by omega),if_pos (by omega)]
  exact hB j j0 e
 ·obtain rfl : j = i:=by omega
  rw [if_neg (by omega),if_pos (by omega),if_neg (by omega),if_pos (by omega)]
  omega
theorem flL_bal {bs : List S27} {fs : List S66} (h : OkCh bs fs) {cups : Int} (c0 : 0≤cups) (c1 : cups≤10000) : ∀ (d : Nat) (i : Int) (xs : List (List Int)) (ys : List Int),0≤i→i + d = bs.length→FInv bs i xs ys→Bal fs cups i xs ys→Bal fs cups bs.length (flL fs cups (bs.drop i.toNat) i xs ys).1 (flL fs cups (bs.drop i.toNat) i xs ys).2
 | 0,i,xs,ys,h0,h1,hI,hB=>by
  rw [List.drop_of_length_le (by omega),show (bs.length : Int) = i by omega];exact hB
 | d + 1,i,xs,ys,h0,h1,hI,hB=>by
  have ii:=inn_in h c0 c1 h0 (show i < (bs.length : Int) by omega) hI
  rw [drop_bas h0 (by omega)]
  have:=flL_bal h c0 c1 d (i + 1) _ _ (by omega) (by omega) (hI.step h h0 (by omega) ii.1 ii.2) (hB.step h h0 (by omega) hI _)
  rw [show (i + 1).toNat = i.toNat + 1 by omega] at this
  exact this
theorem flows_bal {bs : List S27} {fs : List S66} (h : okCh bs fs = true) {cups : Int} (c0 : 0≤cups) (c1 : cups≤10000) : Bal fs cups bs.length (flowsL bs fs cups).1 (flowsL bs fs cups).2:=by
 have:=flL_bal (okCh_of h) c0 c1 bs.length 0 [] [] (by omega) (by omega) (FInv.nil bs) (fun j a b=>by omega)
 simpa [flowsL] using this
theorem rowT_in {p : Int→Int→Bool} {i : Int} : ∀ (l : List Int) (k : Int),(∀ v ∈ l,0≤v)→0≤rowT p i k l∧rowT p i k l≤l.sum
 | [],k,h=>by simp [rowT]
 | v :: l,k,h=>by
  have ih:=rowT_in l (k + 1) (fun v hv=>h v (by simp [hv])) (p:=p) (i:=i)
  have hv:=h v (by simp)
  simp only [rowT,List.sum_cons]
  split<;>omega
theorem inn_fin {bs : List S27} {fs : List S66} (h : OkCh bs fs) {cups i : Int} {X : List (List Int)} {Y : List Int} (c0 : 0≤cups) (c1 : cups≤10000) (I : FInv bs bs.length X Y) (i0 : 0≤i) (i1 : i < bs.length) : 0≤inn fs cups i X Y∧inn fs cups i X Y≤10000:=by
 have nf:=h.nf
 unfold inn
 by_cases p : 0 < i
 ·rw [if_pos p]
  have f:=h.feed (i - 1) (by omega) (by omega)
  have r:=I.rows _ f.1.1 (by omega)
  by_cases q : 0≤(rd_T66 fs (i - 1)).f1
  ·rw [if_pos q]
   have hl : (rd_T66 fs (i - 1)).f1.toNat < (rd_L3 X (rd_T66 fs (i - 1)).f0).length:=by omega
   have hv:=r.2 _ (List.getElem_mem hl)
   have e : rd (rd_L3 X (rd_T66 fs (i - 1)).f0) (rd_T66 fs (i - 1)).f1 = (rd_L3 X (rd_T66 fs (i - 1)).f0)[(rd_T66 fs (i - 1)).f1.toNat]:=by simp [rd,hl]
   rw [e];omega
  ·rw [if_neg q];exact I.over _ f.1.1 (by omega)
 ·rw [if_neg p];exact ⟨c0,c1⟩
section
attribute [local go_sem] max2_int min2_int max_two min_two
set_option linter.unusedSimpArgs false
end
theorem lsum_go (xs : List Int) (hl : xs.length≤100) (hx : ∀ x ∈ xs,0≤x∧x≤1000) : ∀ (d k : Nat) (i acc : Int),0≤i→i + d = xs.length→d < k→0≤acc→acc≤1000 * i→
 l4_sum.l0 k xs acc i = some (acc + (xs.drop i.toNat).sum)
 | 0,k,i,acc,h0,h1,hk,a0,a1=>by
  obtain ⟨k,rfl⟩:=ksucc (by omega : 0 < k)
  simp only [l4_sum.l0]
  rw [if_neg (by omega),List.drop_of_length_le (by omega)]
  simp
 | d + 1,k,i,acc,h0,h1,hk,a0,a1=>by
  obtain ⟨k,rfl⟩:=ksucc (by omega : 0 < k)
  have hi : i.toNat < xs.length:=by omega
  have hr : rd xs i = xs[i.toNat]:=by simp [rd,hi]
  have hv : 0≤rd xs i∧rd xs i≤1000:=by rw [hr];exact hx _ (List.getElem_mem _)
  simp only [l4_sum.l0]
  rw [if_pos (by omega),if_pos h0,r_cups,decide_eq_true (by omega),Option.bind_some,if_pos rfl,w64 (n:=acc + _) (by omega),w64 (n:=i + 1) (by omega)]
  rw [lsum_go xs hl hx d k (i + 1) _ (by omega) (by omega) (by omega) (by omega) (by omega),show (i + 1).toNat = i.toNat + 1 by omega,List.drop_eq_getElem_cons hi,List.sum_cons,← hr,Int.add_assoc]
theorem lsum {xs : List Int} (hl : xs.length≤100) (hx : ∀ x ∈ xs,0≤x∧x≤1000) {k : Nat} (hk : xs.length < k) : l4_sum.f k xs = some xs.sum:=by
 unfold l4_sum.f
 rw [lsum_go xs hl hx xs.length k 0 0 (by omega) (by omega) hk (by omega) (by omega)]
 simp
section
variable {rows : List S126} {draw : Int} {noz : List S48} {weir spill : Int}
end
section
variable {bs : List S27} {fs : List S66} {cups : Int} {X : List (List Int)} {Y : List Int}
theorem sum_l1 (hf : fs.length≤10) (I : FInv bs bs.length X Y) {i : Int} (i0 : 0≤i) (i1 : i < bs.length) (hb : bs.length≤4) (hL : (rd_L3 X i).length≤100) {r : Option Bool} {N0 : Nat} (hN : 20≤N0) {tot : Int} (hr : ∀ k,N0≤k→l4_CastleSum.l0 k cups X Y tot (i + 1) bs fs = r) :
 ∀ (d k : Nat) (p acc : Int),0≤p→p + d = (rd_L3 X i).length→N0 + d < k→0≤acc→acc + 1000 * d≤1000000000→tot = acc + rowT (fedP fs) i p ((rd_L3 X i).drop p.toNat) + (if fedP fs i (-1) = true then 0 else rd Y i)→l4_CastleSum.l1 k cups X Y acc i p bs fs = r
 | 0,k,p,acc,p0,hp,hk,a0,a1,ht=>by
  obtain ⟨k,rfl⟩:=ksucc (by omega : 0 < k)
  have lx:=I.lx
  have ly:=I.ly
  have ov:=I.over i i0 i1
  rw [List.drop_of_length_le (by omega)] at ht
  simp only [rowT] at ht
  simp only [l4_CastleSum.l1]
  rw [if_pos i0,if_pos (by omega),if_neg (by omega),rFed_eq bs fs i (-1) (by omega) (by omega),Option.bind_some,w64 (n:=i + 1) (by omega)]
  cases q : fedP fs i (-1) with
  | true =>
   rw [q] at ht
   simp only [if_true] at ht ⊢
   rw [← hr k (by omega)]
   congr 1
   omega
  | false =>
   rw [q] at ht
   simp only [Bool.false_eq_true,if_false] at ht ⊢
   rw [if_pos (by omega),w64 (n:=acc + rd Y i) (by omega),← hr k (by omega)]
   congr 1
   omega
 | d + 1,k,p,acc,p0,hp,hk,a0,a1,ht=>by
  obtain ⟨k,rfl⟩:=ksucc (by omega : 0 < k)
  have lx:=I.lx
  have ly:=I.ly
  have hpl : p.toNat < (rd_L3 X i).length:=by omega
  have e : (rd_L3 X i).drop p.toNat = rd (rd_L3 X i) p :: (rd_L3 X i).drop (p + 1).toNat:=by
   rw [List.drop_eq_getElem_cons hpl,show (p + 1).toNat = p.toNat + 1 by omega];simp [rd,hpl]
  have hv : 0≤rd (rd_L3 X i) p∧rd (rd_L3 X i) p≤1000:=(I.rows i i0 i1).2 _ (by
   have : rd (rd_L3 X i) p = (rd_L3 X i)[p.toNat]:=by simp [rd,hpl]
   rw [this];exact List.getElem_mem _)
  rw [e] at ht
  simp only [rowT] at ht
  have ih:=sum_l1 hf I i0 i1 hb hL hN hr d k (p + 1)
  simp only [l4_CastleSum.l1]
  rw [if_pos i0,if_pos (by omega),if_pos (by omega),rFed_eq bs fs i p (by omega) (by omega),Option.bind_some,w64 (n:=p + 1) (by omega)]
  cases q : fedP fs i p with
  | true =>
   rw [q] at ht
   simp only [if_true] at ht ⊢
   exact ih acc (by omega) (by omega) (by omega) a0 (by omega) (by omega)
  | false =>
   rw [q] at ht
   simp only [Bool.false_eq_true,if_false] at ht ⊢
   rw [if_pos p0,w64 (n:=acc + rd (rd_L3 X i) p) (by omega)]
   exact ih _ (by omega) (by omega) (by omega) (by omega) (by omega) (by omega)
theorem sum_l0 (h : OkCh bs fs) (c0 : 0≤cups) (c1 : cups≤10000) (I : FInv bs bs.length X Y) (B : Bal fs cups bs.length X Y) :
 ∀ (d k : Nat) (i acc : Int),0≤i→i + d = bs.length→100 * d + 100 < k→0≤acc→acc≤20000 * i→acc + totT (fedP fs) i (X.drop i.toNat) (Y.drop i.toNat) = cups→l4_CastleSum.l0 k cups X Y acc i bs fs = some true
 | 0,k,i,acc,i0,hi,hk,a0,a1,ht=>by
  obtain ⟨k,rfl⟩:=ksucc (by omega : 0 < k)
  have lx:=I.lx
  rw [List.drop_of_length_le (by omega)] at ht
  simp only [totT] at ht
  simp only [l4_CastleSum.l0]
  rw [if_neg (by omega),if_pos (by omega),known_true];rfl
 | d + 1,k,i,acc,i0,hi,hk,a0,a1,ht=>by
  obtain ⟨k,rfl⟩ : ∃ m,k = m + 1 + 1 + 1:=⟨k - 3,by omega⟩
  have lx:=I.lx
  have ly:=I.ly
  have nf:=h.nf
  have n2:=h.n2
  have hR:=I.rows i i0 (by omega)
  have ov:=I.over i i0 (by omega)
  have bal:=B i i0 (by omega)
  have nb:=(h.bas i i0 (by omega)).n2
  have hnl : nozN bs i = ((rd_T27 bs i).f1.length : Int):=rfl
  have hll : (rd_L3 X i).length≤100:=by omega
  have ex : X.drop i.toNat = rd_L3 X i :: X.drop (i + 1).toNat:=by
   have hi2 : i.toNat < X.length:=by omega
   rw [List.drop_eq_getElem_cons hi2,show (i + 1).toNat = i.toNat + 1 by omega];simp [rd_L3,hi2]
  have ey : Y.drop i.toNat = rd Y i :: Y.drop (i + 1).toNat:=by
   have hi2 : i.toNat < Y.length:=by omega
   rw [List.drop_eq_getElem_cons hi2,show (i + 1).toNat = i.toNat + 1 by omega];simp [rd,hi2]
  rw [ex,ey] at ht
  simp only [totT] at ht
  have s0 : 0≤(rd_L3 X i).sum:=sum_nn fun v hv=>(hR.2 v hv).1
  have inb:=inn_fin h c0 c1 I i0 (show i < (bs.length : Int) by omega)
  have rb:=rowT_in (p:=fedP fs) (i:=i) (rd_L3 X i) 0 (fun v hv=>(hR.2 v hv).1)
  have next:=sum_l0 h c0 c1 I B d
  have loop:=sum_l1 (bs:=bs) (fs:=fs) (cups:=cups) (X:=X) (Y:=Y) (by omega) I i0 (by omega) n2 hll (r:=some true) (N0:=100 * d + 120) (by omega) (tot:=acc + rowT (fedP fs) i 0 (rd_L3 X i) + (if fedP fs i (-1) = true then 0 else rd Y i)) (fun k hk=>next k (i + 1) _ (by omega) (by omega) (by omega) (by split<;>omega) (by split<;>omega) (by omega)) (rd_L3 X i).length
  have l4 : ∀ k,100 * d + 150 < k→l4_CastleSum.j4 k cups X Y acc i (rd_L3 X i).sum (inn fs cups i X Y) bs fs = some true:=by
   intro k hk
   obtain ⟨k,rfl⟩:=ksucc (by omega : 0 < k)
   simp only [l4_CastleSum.j4]
   rw [if_pos i0,if_pos (by omega),w64 (n:=(rd_L3 X i).sum + rd Y i) (by omega),if_pos bal]
   exact loop k 0 acc (by omega) (by omega) (by omega) a0 (by omega) (by rw [show (0 : Int).toNat = 0 from rfl,List.drop_zero])
  have l3 : l4_CastleSum.j3 (k + 1 + 1) cups X Y acc i (rd_L3 X i).sum false bs fs = some true:=by
   simp only [l4_CastleSum.j3,Bool.false_eq_true,if_false]
   have l4:=l4 (k + 1) (by omega)
   unfold inn at l4
   by_cases q : i > 0
   ·have f:=h.feed (i - 1) (by omega) (by omega)
    have fr:=(I.rows _ f.1.1 (by omega)).1
    rw [if_pos q] at l4
    rw [if_pos q,w64 (n:=i - 1) (by omega),if_pos (by omega),if_pos (by omega),if_pos f.1.1,if_pos (by omega)]
    by_cases q1 : (rd_T66 fs (i - 1)).f1 ≥ 0
    ·rw [if_pos q1] at l4
     rw [if_pos q1,if_pos (by omega),if_pos q1,if_pos (by omega)]
     exact l4
    ·rw [if_neg q1] at l4
     rw [if_neg q1]
     exact l4
   ·rw [if_neg q] at l4
    rw [if_neg q]
    exact l4
  simp only [l4_CastleSum.l0]
  rw [if_pos (by omega),if_pos i0,lsum hll hR.2 (by omega),Option.bind_some,if_pos (by omega),if_pos (by omega),if_neg (by omega),if_pos (by omega),r_cups,decide_eq_true ov,Option.bind_some]
  exact l3
end
theorem sum_pure (bs : List S27) (fs : List S66) (cups : Int) {k : Nat} (hk : 1200≤k) : l4_CastleSum.f k bs fs cups = some true:=by
 obtain ⟨k,rfl⟩ : ∃ m,k = m + 1 + 1:=⟨k - 2,by omega⟩
 have kn : ∀ k,l4_CastleSum.j0 (k + 1) cups true bs fs = some true:=by
  intro k
  simp only [l4_CastleSum.j0,if_true]
  rw [known_true];rfl
 unfold l4_CastleSum.f
 rw [brief_eq bs fs (by omega),Option.bind_some]
 cases s : briefB bs fs with
 | false=>rw [if_neg (by decide)];exact kn _
 | true =>
  obtain ⟨hS,hb,hf⟩:=briefB_iff.1 s
  rw [if_pos rfl,rChain_eq hS hb hf (by omega),Option.bind_some]
  cases b : okCh bs fs with
  | false=>rw [if_neg (by decide)];exact kn _
  | true =>
   rw [if_pos rfl,r_cups,Option.bind_some]
   by_cases c : 0≤cups∧cups≤10000
   case neg=>rw [decide_eq_false c];exact kn _
   rw [decide_eq_true c]
   have I:=flowsL_inv b c.1 c.2
   have B:=flows_bal b c.1 c.2
   have T:=flows_tot b c.1 c.2
   have n2:=(okCh_of b).n2
   have lx:=I.lx
   have ly:=I.ly
   simp only [Bool.not_true,l4_CastleSum.j0,Bool.false_eq_true,if_false]
   rw [cFlow_eq hS b c.1 c.2 (by omega),Option.bind_some]
   simp only [if_true]
   rw [if_pos lx]
   have e : (((flowsL bs fs cups).2.length : Int) != (bs.length : Int)) = false:=by simp [ly]
   rw [e]
   simp only [l4_CastleSum.j1,Bool.false_eq_true,if_false]
   exact sum_l0 (okCh_of b) c.1 c.2 I B bs.length k 0 0 (by omega) (by omega) (by omega) (by omega) (by omega) (by simpa using T)
end Go.Proofs.YtnnmnhpeblhiiaaGreatDoor.C

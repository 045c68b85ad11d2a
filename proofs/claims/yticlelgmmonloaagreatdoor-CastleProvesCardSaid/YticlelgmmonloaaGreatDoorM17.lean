/- A part of the proof: the walks of the functions that it reaches. TIGHT. -/
import Derived.Test.YticlelgmmonloaaGreatDoorM16
import Derived.Deep.RegionHeld3
namespace Go.Proofs.YticlelgmmonloaaGreatDoor.C
open Go.RowKit Go.Proofs.YticlelgmmonloaaGreatDoorW.PrintWords Go.Proofs.YticlelgmmonloaaGreatDoorW.PrintLast Go.Proofs.YticlelgmmonloaaGreatDoorW.PrintMore
set_option linter.unusedVariables false
set_option linter.unusedSimpArgs false
set_option maxHeartbeats 16000000
set_option maxRecDepth 100000
theorem w64 {n : Int} (h : -9223372036854775808 ≤ n ∧ n ≤ 9223372036854775807) : wrap64 n = n := by unfold wrap64;omega
theorem ksucc {k : Nat} (h : 0 < k) : ∃ m,k = m + 1 := ⟨k - 1,by omega⟩
def rowOk (r : S126) : Bool := decide (1 ≤ r.f0 ∧ r.f0 ≤ 60) && (decide (1 ≤ r.f1 ∧ r.f1 ≤ 60) && decide (1 ≤ r.f2 ∧ r.f2 ≤ 1000))
def nozOk (n : Int) (z : S64) : Bool := decide (0 ≤ z.f0 ∧ z.f0 ≤ n - 1) && decide (0 ≤ z.f1 ∧ z.f1 ≤ 40)
def okT (rows : List S126) (draw : Int) : Bool := decide (1 ≤ (rows.length : Int) ∧ (rows.length : Int) ≤ 12) && (decide (0 ≤ draw ∧ draw ≤ 100) && rows.all rowOk)
def okB (rows : List S126) (draw : Int) (noz : List S64) (weir spill : Int) : Bool :=
 okT rows draw && (decide (1 ≤ (noz.length : Int) ∧ (noz.length : Int) ≤ 6) && (decide (0 ≤ weir ∧ weir ≤ 40) && (decide (0 ≤ spill ∧ spill ≤ 100) && noz.all (nozOk rows.length))))
theorem c_in (a b c : Int) : ca_in.f a b c = some (decide (b ≤ a ∧ a ≤ c)) := by
 unfold ca_in.f
 by_cases h : a ≥ b
 · rw [if_pos h];have : b ≤ a := h;simp [this]
 · rw [if_neg h];have : ¬ b ≤ a := h;simp [this]
theorem n_in (a b c : Int) : nz_in.f a b c = some (decide (b ≤ a ∧ a ≤ c)) := c_in a b c
theorem r4_in (a b c : Int) : q4_in.f a b c = some (decide (b ≤ a ∧ a ≤ c)) := c_in a b c
theorem r3_in (a b c : Int) : q3_in.f a b c = some (decide (b ≤ a ∧ a ≤ c)) := c_in a b c
theorem c_height (a : Int) : ca_isHeight.f a = some (decide (0 ≤ a ∧ a ≤ 40)) := by unfold ca_isHeight.f;rw [c_in];rfl
theorem r_height (a : Int) : q4_Height.f a = some (decide (0 ≤ a ∧ a ≤ 40)) := by unfold q4_Height.f;rw [r4_in];rfl
theorem anyM_total {α : Type} {q : α → Option Bool} {p : α → Bool} (h : ∀ x,q x = some (p x)) : ∀ xs,anyM q xs = some (xs.any p)
 | [] => rfl
 | x :: xs => by
  simp only [anyM,h,Option.bind_some,List.any_cons,anyM_total h xs]
  cases p x <;> rfl
theorem row_bad (x : S126) : nz_isTable_1.f x.f0 x.f1 x.f2 = some (!rowOk x) := by
 unfold nz_isTable_1.f rowOk
 simp only [n_in,Option.bind_some]
 cases decide (1 ≤ x.f0 ∧ x.f0 ≤ 60) <;> cases decide (1 ≤ x.f1 ∧ x.f1 ≤ 60) <;> cases decide (1 ≤ x.f2 ∧ x.f2 ≤ 1000) <;> rfl
theorem noz_bad {rows : List S126} (hl : rows.length ≤ 1000) (x : S64) : ca_isBasin_1.f rows x = some (!nozOk rows.length x) := by
 unfold ca_isBasin_1.f nozOk
 rw [w64 (by omega)]
 simp only [c_in,c_height,Option.bind_some]
 cases decide (0 ≤ x.f0 ∧ x.f0 ≤ (rows.length : Int) - 1) <;> cases decide (0 ≤ x.f1 ∧ x.f1 ≤ 40) <;> rfl
theorem isTable_eq (rows : List S126) (draw : Int) : nz_isTable.f rows draw = some (okT rows draw) := by
 unfold nz_isTable.f okT cf_isTable.f
 rw [anyM_total row_bad,← List.not_all_eq_any_not]
 simp only [n_in,Option.bind_some]
 cases decide (1 ≤ (rows.length : Int) ∧ (rows.length : Int) ≤ 12) <;> cases decide (0 ≤ draw ∧ draw ≤ 100) <;> cases rows.all rowOk <;> rfl
theorem isBasin_eq {rows : List S126} {draw : Int} {noz : List S64} {weir spill : Int} (hl : rows.length ≤ 1000) : ca_isBasin.f rows draw noz weir spill = some (okB rows draw noz weir spill) := by
 unfold ca_isBasin.f okB nz_Check.f
 rw [anyM_total (noz_bad hl),← List.not_all_eq_any_not,isTable_eq]
 simp only [c_in,c_height,Option.bind_some]
 cases okT rows draw <;> cases decide (1 ≤ (noz.length : Int) ∧ (noz.length : Int) ≤ 6) <;> cases decide (0 ≤ weir ∧ weir ≤ 40) <;> cases decide (0 ≤ spill ∧ spill ≤ 100) <;> cases noz.all (nozOk rows.length) <;> rfl
theorem refTable_go (rows : List S126) (draw : Int) (hl : rows.length ≤ 1000) : ∀ (d k : Nat) (i : Int),0 ≤ i → i + d = rows.length → d < k →
 q3_Table.l0 k i rows draw = some ((rows.drop i.toNat).all rowOk && (decide (1 ≤ (rows.length : Int) ∧ (rows.length : Int) ≤ 12) && decide (0 ≤ draw ∧ draw ≤ 100)))
 | 0,k,i,h0,hi,hk => by
  obtain ⟨k,rfl⟩ := ksucc hk
  simp only [q3_Table.l0]
  rw [if_neg (by omega),List.drop_of_length_le (by omega)]
  simp only [r3_in,Option.bind_some,List.all_nil,Bool.true_and]
  cases decide (1 ≤ (rows.length : Int) ∧ (rows.length : Int) ≤ 12) <;> cases decide (0 ≤ draw ∧ draw ≤ 100) <;> rfl
 | d + 1,k,i,h0,hi,hk => by
  obtain ⟨k,rfl⟩ := ksucc (by omega : 0 < k)
  simp only [q3_Table.l0]
  rw [if_pos (by omega),if_pos h0,w64 (by omega),refTable_go rows draw hl d k (i + 1) (by omega) (by omega) (by omega),drop_at z126 rows i h0 (by omega),List.all_cons]
  show _ = some ((rowOk (rd_T126 rows i) && _) && _)
  unfold rowOk
  simp only [r3_in,Option.bind_some]
  cases decide (1 ≤ (rd_T126 rows i).f0 ∧ (rd_T126 rows i).f0 ≤ 60) <;> cases decide (1 ≤ (rd_T126 rows i).f1 ∧ (rd_T126 rows i).f1 ≤ 60) <;> cases decide (1 ≤ (rd_T126 rows i).f2 ∧ (rd_T126 rows i).f2 ≤ 1000) <;> rfl
theorem refTable_eq {rows : List S126} {draw : Int} {k : Nat} (hl : rows.length ≤ 1000) (hk : rows.length < k) : q3_Table.f k rows draw = some (okT rows draw) := by
 unfold q3_Table.f okT
 rw [refTable_go rows draw hl rows.length k 0 (by omega) (by omega) hk]
 show some (rows.all rowOk && _) = _
 cases decide (1 ≤ (rows.length : Int) ∧ (rows.length : Int) ≤ 12) <;> cases decide (0 ≤ draw ∧ draw ≤ 100) <;> cases rows.all rowOk <;> rfl
theorem refBasin_go (rows : List S126) (draw : Int) (noz : List S64) (weir spill : Int) (hl : rows.length ≤ 1000) (hn : noz.length ≤ 1000) : ∀ (d k : Nat) (i : Int),0 ≤ i → i + d = noz.length → rows.length + d + 1 < k →
 q4_Basin.l0 k i rows draw noz weir spill = some ((noz.drop i.toNat).all (nozOk rows.length) && (okT rows draw && (decide (1 ≤ (noz.length : Int) ∧ (noz.length : Int) ≤ 6) && (decide (0 ≤ weir ∧ weir ≤ 40) && decide (0 ≤ spill ∧ spill ≤ 100)))))
 | 0,k,i,h0,hi,hk => by
  obtain ⟨k,rfl⟩ := ksucc (by omega : 0 < k)
  simp only [q4_Basin.l0]
  rw [if_neg (by omega),List.drop_of_length_le (by omega),refTable_eq hl (by omega)]
  simp only [r4_in,r_height,Option.bind_some,List.all_nil,Bool.true_and]
  cases okT rows draw <;> cases decide (1 ≤ (noz.length : Int) ∧ (noz.length : Int) ≤ 6) <;> cases decide (0 ≤ weir ∧ weir ≤ 40) <;> cases decide (0 ≤ spill ∧ spill ≤ 100) <;> rfl
 | d + 1,k,i,h0,hi,hk => by
  obtain ⟨k,rfl⟩ := ksucc (by omega : 0 < k)
  simp only [q4_Basin.l0]
  rw [if_pos (by omega),if_pos h0,w64 (n := i + 1) (by omega),w64 (by omega),refBasin_go rows draw noz weir spill hl hn d k (i + 1) (by omega) (by omega) (by omega),drop_at z64 noz i h0 (by omega),List.all_cons]
  show _ = some ((nozOk rows.length (rd_T64 noz i) && _) && _)
  unfold nozOk
  simp only [r4_in,r_height,Option.bind_some]
  cases decide (0 ≤ (rd_T64 noz i).f0 ∧ (rd_T64 noz i).f0 ≤ (rows.length : Int) - 1) <;> cases decide (0 ≤ (rd_T64 noz i).f1 ∧ (rd_T64 noz i).f1 ≤ 40) <;> rfl
theorem refBasin_eq {rows : List S126} {draw : Int} {noz : List S64} {weir spill : Int} {k : Nat} (hl : rows.length ≤ 1000) (hn : noz.length ≤ 1000) (hk : rows.length + noz.length + 1 < k) :
 q4_Basin.f k rows draw noz weir spill = some (okB rows draw noz weir spill) := by
 unfold q4_Basin.f okB
 rw [refBasin_go rows draw noz weir spill hl hn noz.length k 0 (by omega) (by omega) hk]
 show some (noz.all (nozOk rows.length) && _) = _
 cases okT rows draw <;> cases decide (1 ≤ (noz.length : Int) ∧ (noz.length : Int) ≤ 6) <;> cases decide (0 ≤ weir ∧ weir ≤ 40) <;> cases decide (0 ≤ spill ∧ spill ≤ 100) <;> cases noz.all (nozOk rows.length) <;> rfl
structure OkB (rows : List S126) (draw : Int) (noz : List S64) (weir spill : Int) : Prop where
 r1 : 1 ≤ rows.length
 r2 : rows.length ≤ 12
 tab : okT rows draw = true
 rr : ∀ r ∈ rows,1 ≤ r.f2 ∧ r.f2 ≤ 1000
 n1 : 1 ≤ noz.length
 n2 : noz.length ≤ 6
 w0 : 0 ≤ weir
 w1 : weir ≤ 40
 s0 : 0 ≤ spill
 s1 : spill ≤ 100
 nn : ∀ z ∈ noz,0 ≤ z.f0 ∧ z.f0 < rows.length ∧ 0 ≤ z.f1 ∧ z.f1 ≤ 40
theorem okB_iff {rows : List S126} {draw : Int} {noz : List S64} {weir spill : Int} : okB rows draw noz weir spill = true ↔ OkB rows draw noz weir spill := by
 constructor
 · intro h
   unfold okB at h
   simp only [Bool.and_eq_true,decide_eq_true_eq,List.all_eq_true] at h
   obtain ⟨ht,h2,h3,h4,h5⟩ := h
   have ht' := ht
   unfold okT at ht'
   simp only [Bool.and_eq_true,decide_eq_true_eq,List.all_eq_true] at ht'
   obtain ⟨h0,h1,hr⟩ := ht'
   refine ⟨by omega,by omega,ht,fun r hm => ?_,by omega,by omega,by omega,by omega,by omega,by omega,fun z hm => ?_⟩
   · have := hr r hm;unfold rowOk at this;simp only [Bool.and_eq_true,decide_eq_true_eq] at this;omega
   · have := h5 z hm;unfold nozOk at this;simp only [Bool.and_eq_true,decide_eq_true_eq] at this;omega
 · intro h
   unfold okB
   simp only [Bool.and_eq_true,decide_eq_true_eq,List.all_eq_true]
   have a1 := h.n1;have a2 := h.n2
   refine ⟨h.tab,by omega,⟨h.w0,h.w1⟩,⟨h.s0,h.s1⟩,fun z hz => ?_⟩
   have := h.nn z hz
   unfold nozOk;simp only [Bool.and_eq_true,decide_eq_true_eq];omega
def gvz (rows : List S126) (z : S64) : Int := (rd_T126 rows z.f0).f2
def pour (rows : List S126) (h : Int) (z : S64) : Int := gvz rows z * mx 0 (mn 5 (h - z.f1)) / 5
def gat (rows : List S126) (noz : List S64) (h : Int) : List Int := noz.map (pour rows h)
theorem gvz_in {rows : List S126} {draw : Int} {noz : List S64} {weir spill : Int} (h : OkB rows draw noz weir spill) {z : S64} (hz : z ∈ noz) : 1 ≤ gvz rows z ∧ gvz rows z ≤ 1000 := by
 have a := h.nn z hz
 exact h.rr _ (getD_mem z126 a.1 a.2.1)
theorem mm_cases (x : Int) : mx 0 (mn 5 x) = 0 ∨ mx 0 (mn 5 x) = 1 ∨ mx 0 (mn 5 x) = 2 ∨ mx 0 (mn 5 x) = 3 ∨ mx 0 (mn 5 x) = 4 ∨ mx 0 (mn 5 x) = 5 := by
 unfold mx mn;split <;> split <;> omega
theorem mm_swap (x : Int) : mn 5 (mx 0 x) = mx 0 (mn 5 x) := by unfold mx mn;(repeat' split) <;> omega
theorem pour_prog {g m : Int} (h0 : 0 ≤ g) (h1 : g ≤ 1000) (hm : m = 0 ∨ m = 1 ∨ m = 2 ∨ m = 3 ∨ m = 4 ∨ m = 5) : wrap64 (Int.tdiv (wrap64 (g * m)) 5) = g * m / 5 := by
 have : 0 ≤ g * m ∧ g * m ≤ 5000 := by rcases hm with rfl | rfl | rfl | rfl | rfl | rfl <;> omega
 rw [w64 (n := g * m) (by omega),Int.tdiv_eq_ediv_of_nonneg this.1,w64 (by omega)]
theorem pour_in {rows : List S126} {draw : Int} {noz : List S64} {weir spill : Int} (h : OkB rows draw noz weir spill) {z : S64} (hz : z ∈ noz) (x : Int) : 0 ≤ pour rows x z ∧ pour rows x z ≤ 1000 := by
 have a := gvz_in h hz
 unfold pour
 rcases mm_cases (x - z.f1) with e | e | e | e | e | e <;> rw [e] <;> omega
theorem rd_map (f : S64 → Int) {noz : List S64} {i : Int} (h0 : 0 ≤ i) (h1 : i < noz.length) : rd (noz.map f) i = f (rd_T64 noz i) := by
 unfold rd rd_T64
 rw [List.getD_eq_getElem?_getD,List.getD_eq_getElem?_getD,List.getElem?_map,List.getElem?_eq_getElem (show i.toNat < noz.length by omega)]
 rfl
theorem take_snoc {α β : Type} (d : α) (f : α → β) (l : List α) {i : Int} (h0 : 0 ≤ i) (h1 : i < l.length) : (l.take (i + 1).toNat).map f = (l.take i.toNat).map f ++ [f (l.getD i.toNat d)] := by
 rw [show (i + 1).toNat = i.toNat + 1 by omega,List.take_succ_eq_append_getElem (show i.toNat < l.length by omega),List.map_append,List.getD_eq_getElem?_getD,List.getElem?_eq_getElem (show i.toNat < l.length by omega)]
 rfl
section
attribute [local go_sem] max2_int min2_int max_two min_two
set_option linter.unusedSimpArgs false
end
theorem sum_bd {l : List Int} {B : Int} (hB : 0 ≤ B) (h : ∀ x ∈ l,-B ≤ x ∧ x ≤ B) : -(B * l.length) ≤ l.sum ∧ l.sum ≤ B * l.length := by
 induction l with
 | nil => simp
 | cons x l ih =>
  have a := h x (by simp)
  have b := ih (fun y hy => h y (by simp [hy]))
  rw [List.sum_cons,List.length_cons,Int.natCast_add,Int.mul_add]
  omega
theorem sum_go (xs : List Int) (hl : xs.length ≤ 1000) (hx : ∀ x ∈ xs,-1000000 ≤ x ∧ x ≤ 1000000) : ∀ (d k : Nat) (i acc : Int),0 ≤ i → i + d = xs.length → d < k → -1000000 * i ≤ acc ∧ acc ≤ 1000000 * i →
 ca_sum.l0 k acc xs xs.length i = some (acc + (xs.drop i.toNat).sum)
 | 0,k,i,acc,h0,hi,hk,hb => by
  obtain ⟨k,rfl⟩ := ksucc hk
  simp only [ca_sum.l0]
  rw [if_neg (by omega),List.drop_of_length_le (by omega)]
  simp
 | d + 1,k,i,acc,h0,hi,hk,hb => by
  obtain ⟨k,rfl⟩ := ksucc (by omega : 0 < k)
  simp only [ca_sum.l0]
  have e := drop_at (0 : Int) xs i h0 (by omega)
  have m := hx _ (getD_mem (0 : Int) h0 (by omega : i < xs.length))
  rw [if_pos (by omega),if_pos h0,if_pos (by omega)]
  unfold rd
  rw [w64 (n := acc + _) (by omega),w64 (by omega),sum_go xs hl hx d k (i + 1) _ (by omega) (by omega) (by omega) (by omega),e,List.sum_cons,Int.add_assoc]
theorem csum {k : Nat} {l : List Int} (hl : l.length ≤ 1000) (hx : ∀ x ∈ l,-1000000 ≤ x ∧ x ≤ 1000000) (hk : l.length < k) : ca_sum.f k l = some l.sum := by
 unfold ca_sum.f
 rw [sum_go l hl hx l.length k 0 0 (by omega) (by omega) hk (by omega)]
 simp
theorem nsum {k : Nat} {l : List Int} (hl : l.length ≤ 1000) (hx : ∀ x ∈ l,-1000000 ≤ x ∧ x ≤ 1000000) (hk : l.length < k) : nz_sum.f k l = some l.sum := by
 have e : ∀ k x3 x6 x7 x8,nz_sum.l0 k x3 x6 x7 x8 = ca_sum.l0 k x3 x6 x7 x8 := by
  intro k
  induction k with
  | zero => intros;rfl
  | succ k ih => intro a b c d;simp only [nz_sum.l0,ca_sum.l0,ih]
 have h := csum hl hx hk
 unfold ca_sum.f at h
 unfold nz_sum.f
 rw [e,h]
theorem isRow_eq {rows : List S126} {draw n : Int} (hl : rows.length ≤ 1000) : nz_isRow.f rows draw n = some (decide (0 ≤ n ∧ n ≤ (rows.length : Int) - 1)) := by
 unfold nz_isRow.f
 rw [w64 (by omega),n_in]
 rfl
theorem isSet1_eq {rows : List S126} {draw n : Int} (h0 : 0 ≤ n) (h1 : n < rows.length) (hl : rows.length ≤ 1000) : nz_isSet.f rows draw [n] = some true := by
 unfold nz_isSet.f
 rw [if_pos (by simp)]
 have : sl_IsSorted_int_int.f ([n].length + 1) [n] = some true := by
  unfold sl_IsSorted_int_int.f
  simp only [sl_IsSorted_int_int.l0,List.length_cons,List.length_nil]
  rw [if_neg (by unfold wrap64;omega)]
 rw [this]
 simp only [Option.bind_some,anyM,isRow_eq hl]
 rw [decide_eq_true (show 0 ≤ n ∧ n ≤ (rows.length : Int) - 1 by omega)]
 rfl
theorem gives1_eq {rows : List S126} {draw n : Int} {k : Nat} (h0 : 0 ≤ n) (h1 : n < rows.length) (hl : rows.length ≤ 1000) (hg : 0 ≤ (rd_T126 rows n).f2 ∧ (rd_T126 rows n).f2 ≤ 1000000) (hk : 5 ≤ k) : nz_gives.f k rows draw [n] = some (rd_T126 rows n).f2 := by
 obtain ⟨m,rfl⟩ : ∃ m,k = m + 1 + 1 := ⟨k - 2,by omega⟩
 unfold nz_gives.f
 have e0 : rd [n] 0 = n := rfl
 have e1 : wrap64 (0 + 1) = 1 := by unfold wrap64;omega
 simp only [nz_gives.l0,List.length_cons,List.length_nil,e0,e1]
 rw [if_pos (by decide),if_pos (by decide),if_pos (by decide),if_pos h0,if_pos h1,if_pos (by decide),if_neg (by decide)]
 simp only [List.nil_append]
 rw [nsum (by simp) (by intro x hx;simp at hx;subst hx;omega) (by simp;omega)]
 simp
theorem Gives1_eq {rows : List S126} {draw : Int} {noz : List S64} {weir spill : Int} (h : OkB rows draw noz weir spill) {z : S64} (hz : z ∈ noz) {k : Nat} (hk : 5 ≤ k) : nz_Gives.f k rows draw [z.f0] = some (gvz rows z,0) := by
 have a := h.nn z hz
 have g := gvz_in h hz
 unfold nz_Gives.f
 rw [isTable_eq,h.tab,Option.bind_some,if_pos rfl,isSet1_eq a.1 a.2.1 (by have := h.r2;omega),Option.bind_some,if_pos rfl,gives1_eq a.1 a.2.1 (by have := h.r2;omega) (by unfold gvz at g;omega) hk]
 rfl
def grid (rows : List S126) (noz : List S64) : List (List Int) := (List.range 41).map fun (j : Nat) => gat rows noz (j : Int)
theorem grid_len (rows : List S126) (noz : List S64) : (grid rows noz).length = 41 := by simp [grid]
theorem grid_at (rows : List S126) (noz : List S64) {h : Int} (h0 : 0 ≤ h) (h1 : h ≤ 40) : rd_L3 (grid rows noz) h = gat rows noz h := by
 unfold rd_L3 grid
 rw [List.getD_eq_getElem?_getD,List.getElem?_map,List.getElem?_range (by omega)]
 simp only [Option.map_some,Option.getD_some]
 rw [show ((h.toNat : Nat) : Int) = h by omega]
section
variable {rows : List S126} {draw : Int} {noz : List S64} {weir spill : Int}
theorem z_mem {i : Int} (h0 : 0 ≤ i) (h1 : i < noz.length) : rd_T64 noz i ∈ noz := getD_mem z64 h0 h1
theorem fill_l2 (h : OkB rows draw noz weir spill) (hh : Int) (p0 : 0 ≤ hh) (p1 : hh ≤ 40) (G : List (List Int)) (hG : G.length ≤ 41) (r) (C : Nat) (hr : ∀ k,C ≤ k → ca_fill.l1 k (noz.map (gvz rows)) (hh + 1) rows draw noz weir spill rows draw noz weir spill (G ++ [gat rows noz hh]) = r) : ∀ (d k : Nat) (i : Int),0 ≤ i → i + d = noz.length → C + d < k →
 ca_fill.l2 k (noz.map (gvz rows)) hh ((noz.take i.toNat).map (pour rows hh)) hh noz noz.length i rows draw noz weir spill rows draw noz weir spill G = r
 | 0,k,i,h0,hi,hk => by
  obtain ⟨k,rfl⟩ := ksucc (by omega : 0 < k)
  simp only [ca_fill.l2]
  rw [if_neg (by omega),if_pos (by omega),w64 (by omega),List.take_of_length_le (by omega)]
  exact hr k (by omega)
 | d + 1,k,i,h0,hi,hk => by
  obtain ⟨k,rfl⟩ := ksucc (by omega : 0 < k)
  have n2 := h.n2
  have hz := z_mem h0 (by omega : i < noz.length)
  have a := h.nn _ hz
  have g := gvz_in h hz
  simp only [ca_fill.l2]
  rw [if_pos (by omega),if_pos h0,if_pos (by omega),if_pos (by rw [List.length_map];omega),if_pos (by rw [List.length_map,List.length_take];omega),rd_map _ h0 (by omega),w64 (n := hh - _) (by omega),pour_prog (by omega) (by omega) (mm_cases _),w64 (n := i + 1) (by omega)]
  have e := take_snoc z64 (pour rows hh) noz h0 (by omega)
  have f := fill_l2 h hh p0 p1 G hG r C hr d k (i + 1) (by omega) (by omega) (by omega)
  rw [e] at f
  exact f
theorem fill_l1 (h : OkB rows draw noz weir spill) : ∀ (d k j : Nat),j + d = 41 → d * (noz.length + 3) < k →
 ca_fill.l1 k (noz.map (gvz rows)) j rows draw noz weir spill rows draw noz weir spill ((List.range j).map fun (q : Nat) => gat rows noz (q : Int)) = some (draw,weir,spill,grid rows noz)
 | 0,k,j,hj,hk => by
  obtain ⟨k,rfl⟩ := ksucc (by omega : 0 < k)
  obtain rfl : j = 41 := by omega
  simp only [ca_fill.l1]
  rw [if_neg (by omega)]
  rfl
 | d + 1,k,j,hj,hk => by
  rw [Nat.succ_mul] at hk
  obtain ⟨k,rfl⟩ := ksucc (by omega : 0 < k)
  simp only [ca_fill.l1]
  rw [if_pos (by omega)]
  refine fill_l2 h j (by omega) (by omega) _ (by simp;omega) _ (d * (noz.length + 3) + 1) (fun k' hk' => ?_) noz.length k 0 (by omega) (by omega) (by omega)
  have f := fill_l1 h d k' (j + 1) (by omega) (by omega)
  rw [List.range_succ,List.map_append] at f
  exact f
theorem fill_l0 (h : OkB rows draw noz weir spill) : ∀ (d k : Nat) (i : Int),0 ≤ i → i + d = noz.length → 41 * (noz.length + 3) + d + 5 < k →
 ca_fill.l0 k ((noz.take i.toNat).map (gvz rows)) noz noz.length i rows draw noz weir spill rows draw noz weir spill = some (draw,weir,spill,grid rows noz)
 | 0,k,i,h0,hi,hk => by
  obtain ⟨k,rfl⟩ := ksucc (by omega : 0 < k)
  simp only [ca_fill.l0]
  rw [if_neg (by omega),List.take_of_length_le (by omega)]
  exact fill_l1 h 41 k 0 (by omega) (by omega)
 | d + 1,k,i,h0,hi,hk => by
  obtain ⟨k,rfl⟩ := ksucc (by omega : 0 < k)
  have n2 := h.n2
  simp only [ca_fill.l0]
  rw [if_pos (by omega),if_pos h0,if_pos (by omega),Gives1_eq h (z_mem h0 (by omega)) (by omega),Option.bind_some,if_pos (by rw [List.length_map,List.length_take];omega),w64 (by omega)]
  have e := take_snoc z64 (gvz rows) noz h0 (by omega)
  have f := fill_l0 h d k (i + 1) (by omega) (by omega) (by omega)
  rw [e] at f
  exact f
theorem fillK_eq (h : OkB rows draw noz weir spill) : ca_fill.f (fillK noz.length) rows draw noz weir spill = some (draw,weir,spill,grid rows noz) :=
 fill_l0 h noz.length _ 0 (by omega) (by omega) (by unfold fillK;omega)
def over (weir spill h : Int) : Int := spill * mx 0 (h - weir)
def tot (rows : List S126) (noz : List S64) (weir spill h : Int) : Int := (gat rows noz h).sum + over weir spill h
theorem over_in (h : OkB rows draw noz weir spill) {x : Int} (h0 : 0 ≤ x) (h1 : x ≤ 40) : 0 ≤ over weir spill x ∧ over weir spill x ≤ 4000 := by
 have a := h.s0;have b := h.s1;have c := h.w0
 unfold over
 have m : 0 ≤ mx 0 (x - weir) ∧ mx 0 (x - weir) ≤ 40 := by unfold mx;split <;> omega
 exact ⟨Int.mul_nonneg a m.1,by have := Int.mul_le_mul b m.2 m.1 (by omega : (0 : Int) ≤ 100);omega⟩
theorem gat_in (h : OkB rows draw noz weir spill) (x : Int) : ∀ y ∈ gat rows noz x,0 ≤ y ∧ y ≤ 1000 := by
 intro y hy
 unfold gat at hy
 obtain ⟨z,hz,rfl⟩ := List.mem_map.1 hy
 exact pour_in h hz x
theorem gat_len (x : Int) : (gat rows noz x).length = noz.length := by simp [gat]
theorem sum_nn {l : List Int} (h : ∀ x ∈ l,0 ≤ x) : 0 ≤ l.sum := by
 induction l with
 | nil => simp
 | cons x l ih => rw [List.sum_cons];have := h x (by simp);have := ih (fun y hy => h y (by simp [hy]));omega
theorem gsum_in (h : OkB rows draw noz weir spill) (x : Int) : 0 ≤ (gat rows noz x).sum ∧ (gat rows noz x).sum ≤ 6000 := by
 have a := gat_in h x
 have b := sum_bd (l := gat rows noz x) (B := 1000) (by omega) (fun y hy => by have := a y hy;omega)
 rw [gat_len] at b
 have := h.n2
 exact ⟨sum_nn (fun y hy => (a y hy).1),by omega⟩
theorem tot_in (h : OkB rows draw noz weir spill) {x : Int} (h0 : 0 ≤ x) (h1 : x ≤ 40) : 0 ≤ tot rows noz weir spill x ∧ tot rows noz weir spill x ≤ 10000 := by
 have a := gsum_in h x
 have b := over_in h h0 h1
 unfold tot
 omega
theorem weir_eq (h : OkB rows draw noz weir spill) {x : Int} (h0 : 0 ≤ x) (h1 : x ≤ 40) : gf_weir.f rows draw noz weir spill (grid rows noz) x = some (over weir spill x) := by
 have a := over_in h h0 h1
 have c := h.w0;have c1 := h.w1
 unfold gf_weir.f
 rw [w64 (n := x - weir) (by omega),w64 (n := spill * _) (by unfold over at a;omega)]
 rfl
theorem out_eq (h : OkB rows draw noz weir spill) {x : Int} (h0 : 0 ≤ x) (h1 : x ≤ 40) : gf_out.f rows draw noz weir spill (grid rows noz) x = some (tot rows noz weir spill x) := by
 have a := gat_in h x
 have b := over_in h h0 h1
 have c := gsum_in h x
 unfold gf_out.f gf_nozzles.f
 rw [if_pos h0,if_pos (by rw [grid_len];omega),grid_at _ _ h0 h1,csum (by rw [gat_len];have := h.n2;omega) (fun y hy => by have := a y hy;omega) (by omega),weir_eq h h0 h1]
 simp only [Option.bind_some]
 rw [w64 (n := (gat rows noz x).sum) (by omega),w64 (by omega)]
 rfl
theorem mm_mono {a b : Int} (h : a ≤ b) : mx 0 (mn 5 a) ≤ mx 0 (mn 5 b) := by unfold mx mn;(repeat' split) <;> omega
theorem pour_mono (h : OkB rows draw noz weir spill) {z : S64} (hz : z ∈ noz) {a b : Int} (hab : a ≤ b) : pour rows a z ≤ pour rows b z := by
 have g := gvz_in h hz
 unfold pour
 exact Int.ediv_le_ediv (by omega) (Int.mul_le_mul_of_nonneg_left (mm_mono (by omega)) (by omega))
theorem sum_mono_map {f g : S64 → Int} : ∀ {l : List S64},(∀ z ∈ l,f z ≤ g z) → (l.map f).sum ≤ (l.map g).sum
 | [],_ => by simp
 | z :: l,h => by
  simp only [List.map_cons,List.sum_cons]
  have := h z (by simp)
  have := sum_mono_map (l := l) (fun y hy => h y (by simp [hy]))
  omega
theorem over_mono (h : OkB rows draw noz weir spill) {a b : Int} (hab : a ≤ b) : over weir spill a ≤ over weir spill b := by
 unfold over
 exact Int.mul_le_mul_of_nonneg_left (by unfold mx;(repeat' split) <;> omega) h.s0
theorem tot_mono (h : OkB rows draw noz weir spill) {a b : Int} (hab : a ≤ b) : tot rows noz weir spill a ≤ tot rows noz weir spill b := by
 have := over_mono h hab
 have := sum_mono_map (f := pour rows a) (g := pour rows b) (l := noz) (fun z hz => pour_mono h hz hab)
 unfold tot gat
 omega
theorem tot_zero (h : OkB rows draw noz weir spill) : tot rows noz weir spill 0 = 0 := by
 have e : gat rows noz 0 = noz.map (fun _ => 0) := by
  unfold gat
  refine List.map_congr_left fun z hz => ?_
  have a := h.nn z hz
  unfold pour
  rw [show mx 0 (mn 5 (0 - z.f1)) = 0 by unfold mx mn;(repeat' split) <;> omega]
  simp
 have s : ∀ l : List S64,(l.map (fun _ => (0 : Int))).sum = 0 := by
  intro l
  induction l with
  | nil => rfl
  | cons z l ih => simp only [List.map_cons,List.sum_cons,ih];rfl
 have o : over weir spill 0 = 0 := by
  have := h.w0
  unfold over
  rw [show mx 0 (0 - weir) = 0 by unfold mx;split <;> omega]
  simp
 unfold tot
 rw [e,s,o]
 rfl
def Lev (rows : List S126) (noz : List S64) (weir spill cups h : Int) : Prop := 0 ≤ h ∧ h ≤ 40 ∧ tot rows noz weir spill h ≤ cups ∧ (h < 40 → cups < tot rows noz weir spill (h + 1))
theorem Lev.uniq (h : OkB rows draw noz weir spill) {cups a b : Int} (ha : Lev rows noz weir spill cups a) (hb : Lev rows noz weir spill cups b) : a = b := by
 obtain ⟨a0,a1,a2,a3⟩ := ha
 obtain ⟨b0,b1,b2,b3⟩ := hb
 rcases Int.lt_trichotomy a b with l | l | l
 · have := a3 (by omega)
   have := tot_mono h (show a + 1 ≤ b by omega)
   omega
 · exact l
 · have := b3 (by omega)
   have := tot_mono h (show b + 1 ≤ a by omega)
   omega
theorem levelGo_eq (h : OkB rows draw noz weir spill) {cups : Int} : ∀ (n : Nat) (i : Int),0 ≤ i → i + n = 41 → (0 < i → tot rows noz weir spill (i - 1) ≤ cups) → 0 ≤ cups →
 ∃ r,levelGo rows draw noz weir spill (grid rows noz) cups n i (mx 0 (i - 1)) = some r ∧ Lev rows noz weir spill cups r
 | 0,i,h0,hi,hp,hc => by
  obtain rfl : i = 41 := by omega
  exact ⟨_,rfl,by unfold mx;split <;> omega,by unfold mx;split <;> omega,hp (by omega),fun hh => absurd hh (by unfold mx;split <;> omega)⟩
 | n + 1,i,h0,hi,hp,hc => by
  simp only [levelGo]
  rw [out_eq h h0 (by omega),Option.bind_some]
  by_cases g : tot rows noz weir spill i > cups
  case neg =>
   rw [if_neg g]
   obtain ⟨r,hr,hl⟩ := levelGo_eq h n (i + 1) (by omega) (by omega) (fun _ => by rw [show i + 1 - 1 = i by omega];omega) hc
   rw [show mx 0 (i + 1 - 1) = i by unfold mx;split <;> omega] at hr
   exact ⟨r,hr,hl⟩
  rw [if_pos g]
  have i0 : 0 < i := by
   rcases Int.lt_or_eq_of_le h0 with l | l
   · exact l
   · rw [← l,tot_zero h] at g;omega
  have e : mx 0 (i - 1) = i - 1 := by unfold mx;split <;> omega
  rw [e]
  exact ⟨_,rfl,by omega,by omega,hp i0,fun _ => by rw [show i - 1 + 1 = i by omega];exact g⟩
theorem level_eq (h : OkB rows draw noz weir spill) {cups : Int} (hc : 0 ≤ cups) : ∃ r,gf_level.f rows draw noz weir spill (grid rows noz) cups = some r ∧ Lev rows noz weir spill cups r := by
 unfold gf_level.f
 rw [grid_len]
 have := levelGo_eq h (cups := cups) 41 0 (by omega) (by omega) (fun h => by omega) hc
 simpa [mx] using this
end
def shGo : List Int → List Int → Int → List Int × Int
 | x :: l,y :: n,r => ((x + mn r (y - x)) :: (shGo l n (r - mn r (y - x))).1,(shGo l n (r - mn r (y - x))).2)
 | l,_,r => (l,r)
def pairOk : List Int → List Int → Prop
 | x :: l,y :: n => (0 ≤ x ∧ x ≤ y ∧ y ≤ 1000) ∧ pairOk l n
 | [],[] => True
 | _,_ => False
theorem mn_in {r d : Int} (h0 : 0 ≤ r) (h1 : 0 ≤ d) : 0 ≤ mn r d ∧ mn r d ≤ r ∧ mn r d ≤ d := by unfold mn;split <;> omega
theorem shGo_in : ∀ {l n : List Int} {r : Int},pairOk l n → 0 ≤ r → (∀ x ∈ (shGo l n r).1,0 ≤ x ∧ x ≤ 1000) ∧ 0 ≤ (shGo l n r).2 ∧ (shGo l n r).2 ≤ r ∧ (shGo l n r).1.length = l.length ∧ (shGo l n r).1.sum + (shGo l n r).2 = l.sum + r
 | [],[],r,_,hr => by simp [shGo];omega
 | x :: l,y :: n,r,h,hr => by
  have m := mn_in (r := r) (d := y - x) hr (by have := h.1;omega)
  have ih := shGo_in (r := r - mn r (y - x)) h.2 (by omega)
  have hx := h.1
  simp only [shGo,List.length_cons,List.sum_cons]
  refine ⟨fun z hz => ?_,ih.2.1,by omega,by rw [ih.2.2.2.1],by omega⟩
  rcases List.mem_cons.1 hz with rfl | hz
  · omega
  · exact ih.1 z hz
 | [],_ :: _,_,h,_ => h.elim
 | _ :: _,[],_,h,_ => h.elim
theorem rd_app (P : List Int) (x : Int) (l : List Int) : rd (P ++ x :: l) (P.length : Int) = x := by simp [rd]
theorem set_app {α : Type} (P : List α) (x v : α) (l : List α) : (P ++ x :: l).set (P.length : Int).toNat v = P ++ [v] ++ l := by simp
theorem sh_go {cups : Int} (hc0 : 0 ≤ cups) (hc1 : cups ≤ 10000) : ∀ (l n P Q : List Int) (r : Int) (k : Nat),pairOk l n → P.length = Q.length → (∀ x ∈ P,0 ≤ x ∧ x ≤ 1000) → P.length + l.length ≤ 100 → 0 ≤ r → r ≤ 10000 → P.length + 2 * l.length + 2 < k →
 gf_shares.l0 k cups (P ++ l) r (Q ++ n) (Q ++ n).length P.length = some (P ++ (shGo l n r).1,cups - (P ++ (shGo l n r).1).sum)
 | [],[],P,Q,r,k,_,hPQ,hP,hl,hr0,hr1,hk => by
  obtain ⟨k,rfl⟩ := ksucc (by omega : 0 < k)
  simp only [gf_shares.l0,shGo,List.append_nil]
  rw [if_neg (by omega)]
  simp only [List.length_nil] at hl hk
  rw [csum (by omega) (fun x hx => by have := hP x hx;omega) (by omega)]
  have s := sum_bd (l := P) (B := 1000) (by omega) (fun x hx => by have := hP x hx;omega)
  simp only [Option.bind_some]
  rw [w64 (by omega)]
 | x :: l,y :: n,P,Q,r,k,h,hPQ,hP,hl,hr0,hr1,hk => by
  obtain ⟨k,rfl⟩ := ksucc (by omega : 0 < k)
  simp only [List.length_cons] at hl hk
  have hx := h.1
  have m := mn_in (r := r) (d := y - x) hr0 (by omega)
  simp only [gf_shares.l0]
  have e : rd (Q ++ y :: n) (P.length : Int) = y := by rw [hPQ];exact rd_app Q y n
  rw [if_pos (by rw [List.length_append,List.length_cons];omega),if_pos (by omega),if_pos (by rw [List.length_append,List.length_cons];omega),if_pos (by rw [List.length_append,List.length_cons];omega),rd_app,e,w64 (n := y - x) (by omega),w64 (n := x + _) (by omega),w64 (n := r - _) (by omega),w64 (n := (P.length : Int) + 1) (by omega),set_app]
  have ih := sh_go hc0 hc1 l n (P ++ [x + mn r (y - x)]) (Q ++ [y]) (r - mn r (y - x)) k h.2 (by simp [hPQ]) (fun z hz => by
   rcases List.mem_append.1 hz with hz | hz
   · exact hP z hz
   · simp at hz;omega) (by simp;omega) (by omega) (by omega) (by simp;omega)
  have e2 : Q ++ y :: n = Q ++ [y] ++ n := by simp
  rw [e2,show (P.length : Int) + 1 = ((P ++ [x + mn r (y - x)]).length : Int) by simp,ih]
  simp [shGo]
 | [],_ :: _,_,_,_,_,h,_,_,_,_,_,_ => h.elim
 | _ :: _,[],_,_,_,_,h,_,_,_,_,_,_ => h.elim
section
variable {rows : List S126} {draw : Int} {noz : List S64} {weir spill : Int}
def levN (rows : List S126) (noz : List S64) (weir spill cups : Int) : Nat → Int
 | 0 => 0
 | n + 1 => if tot rows noz weir spill ((n : Int) + 1) ≤ cups then (n : Int) + 1 else levN rows noz weir spill cups n
def lev (rows : List S126) (noz : List S64) (weir spill cups : Int) : Int := levN rows noz weir spill cups 40
theorem levN_is (h : OkB rows draw noz weir spill) {cups : Int} (hc : 0 ≤ cups) : ∀ n : Nat,n ≤ 40 → (n < 40 → cups < tot rows noz weir spill ((n : Int) + 1)) → Lev rows noz weir spill cups (levN rows noz weir spill cups n)
 | 0,_,hn => ⟨by simp [levN],by simp [levN],by simp [levN,tot_zero h,hc],fun _ => by simpa [levN] using hn (by omega)⟩
 | n + 1,h1,hn => by
  unfold levN
  by_cases g : tot rows noz weir spill ((n : Int) + 1) ≤ cups
  · rw [if_pos g]
    exact ⟨by omega,by omega,g,fun _ => by have := hn (by omega);rw [Int.natCast_add] at this;exact this⟩
  · rw [if_neg g]
    exact levN_is h hc n (by omega) (fun _ => by omega)
theorem lev_is (h : OkB rows draw noz weir spill) {cups : Int} (hc : 0 ≤ cups) : Lev rows noz weir spill cups (lev rows noz weir spill cups) := levN_is h hc 40 (by omega) (fun h => by omega)
theorem level_lev (h : OkB rows draw noz weir spill) {cups : Int} (hc : 0 ≤ cups) : gf_level.f rows draw noz weir spill (grid rows noz) cups = some (lev rows noz weir spill cups) := by
 obtain ⟨r,hr,hl⟩ := level_eq h hc
 rw [hr,hl.uniq h (lev_is h hc)]
def shareL (rows : List S126) (noz : List S64) (weir spill cups : Int) : List Int :=
 if lev rows noz weir spill cups < 40 then (shGo (gat rows noz (lev rows noz weir spill cups)) (gat rows noz (lev rows noz weir spill cups + 1)) (cups - tot rows noz weir spill (lev rows noz weir spill cups))).1 else gat rows noz (lev rows noz weir spill cups)
theorem gat_pairs (h : OkB rows draw noz weir spill) {a b : Int} (hab : a ≤ b) : pairOk (gat rows noz a) (gat rows noz b) := by
 have : ∀ l : List S64,(∀ z ∈ l,z ∈ noz) → pairOk (l.map (pour rows a)) (l.map (pour rows b)) := by
  intro l
  induction l with
  | nil => intro _;trivial
  | cons z l ih =>
   intro hl
   have hz := hl z (by simp)
   exact ⟨⟨(pour_in h hz a).1,pour_mono h hz hab,(pour_in h hz b).2⟩,ih (fun y hy => hl y (by simp [hy]))⟩
 exact this noz (fun _ hz => hz)
theorem shareL_in (h : OkB rows draw noz weir spill) {cups : Int} (hc : 0 ≤ cups) : (∀ x ∈ shareL rows noz weir spill cups,0 ≤ x ∧ x ≤ 1000) ∧ (shareL rows noz weir spill cups).length = noz.length := by
 have L := lev_is h hc
 unfold shareL
 by_cases g : lev rows noz weir spill cups < 40
 case neg =>
  rw [if_neg g]
  exact ⟨gat_in h _,gat_len _⟩
 rw [if_pos g]
 have a := shGo_in (r := cups - tot rows noz weir spill (lev rows noz weir spill cups)) (gat_pairs h (show lev rows noz weir spill cups ≤ lev rows noz weir spill cups + 1 by omega)) (by have := L.2.2.1;omega)
 exact ⟨a.1,by rw [a.2.2.2.1,gat_len]⟩
theorem clone_int {l : List Int} (hl : l.length ≤ 1000) : sl_Clone_int.f l = some l := by unfold sl_Clone_int.f;rw [if_pos (by omega)]
theorem shares_eq (h : OkB rows draw noz weir spill) {cups : Int} (hc0 : 0 ≤ cups) (hc1 : cups ≤ 10000) {k : Nat} (hk : 20 ≤ k) :
 gf_shares.f k rows draw noz weir spill (grid rows noz) cups = some (shareL rows noz weir spill cups,cups - (shareL rows noz weir spill cups).sum) := by
 have L := lev_is h hc0
 have n2 := h.n2
 have t0 := tot_in h L.1 L.2.1
 have B := shareL_in h hc0
 have s := sum_bd (l := shareL rows noz weir spill cups) (B := 1000) (by omega) (fun x hx => by have := B.1 x hx;omega)
 rw [B.2] at s
 unfold gf_shares.f
 rw [level_lev h hc0,Option.bind_some,if_pos L.1,if_pos (by rw [grid_len];have := L.2.1;omega),grid_at _ _ L.1 L.2.1,clone_int (by rw [gat_len];omega),Option.bind_some]
 unfold shareL
 by_cases g : lev rows noz weir spill cups < 40
 · rw [if_pos g,if_pos g,out_eq h L.1 L.2.1,Option.bind_some,w64 (n := _ + 1) (by have := L.1;omega),if_pos (by have := L.1;omega),if_pos (by rw [grid_len];omega),grid_at _ _ (by have := L.1;omega) (by omega),w64 (by omega)]
   have f := sh_go hc0 hc1 (gat rows noz (lev rows noz weir spill cups)) (gat rows noz (lev rows noz weir spill cups + 1)) [] [] (cups - tot rows noz weir spill (lev rows noz weir spill cups)) k (gat_pairs h (by omega)) rfl (fun x hx => by simp at hx) (by simp [gat_len];omega) (by have := L.2.2.1;omega) (by omega) (by simp [gat_len];omega)
   simpa using f
 · rw [if_neg g,if_neg g]
   have a := gat_in h (lev rows noz weir spill cups)
   rw [csum (by rw [gat_len];omega) (fun x hx => by have := a x hx;omega) (by rw [gat_len];omega),Option.bind_some]
   have c := gsum_in h (lev rows noz weir spill cups)
   rw [w64 (by omega)]
def setH (noz : List S64) (l : List Int) : List S64 := List.zipWith (fun z x => (⟨z.f0,x⟩ : S64)) noz l
theorem clone_z {l : List S64} (hl : l.length ≤ 1000) : sl_Clone_Z.f l = some l := by unfold sl_Clone_Z.f;rw [if_pos (by omega)]
theorem rdz_app (P : List S64) (x : S64) (l : List S64) : rd_T64 (P ++ x :: l) (P.length : Int) = x := by simp [rd_T64]
theorem moved_go (rows : List S126) (draw weir spill : Int) : ∀ (l Q : List Int) (z P : List S64) (k : Nat),l.length = z.length → Q.length = P.length → P.length + z.length ≤ 1000 → z.length < k →
 ca_moved.l0 k (Q ++ l) (Q ++ l).length P.length rows draw (P ++ z) weir spill = some (draw,P ++ setH z l,weir,spill)
 | [],Q,[],P,k,_,hQ,hl,hk => by
  obtain ⟨k,rfl⟩ := ksucc (by omega : 0 < k)
  simp only [ca_moved.l0,List.append_nil,setH,List.zipWith_nil_left]
  rw [if_neg (by omega)]
 | x :: l,Q,y :: z,P,k,hlz,hQ,hl,hk => by
  simp only [List.length_cons] at hl hk hlz
  obtain ⟨k,rfl⟩ := ksucc (by omega : 0 < k)
  simp only [ca_moved.l0]
  have e : rd (Q ++ x :: l) (P.length : Int) = x := by rw [← hQ];exact rd_app Q x l
  rw [if_pos (by rw [List.length_append,List.length_cons];omega),if_pos (by omega),if_pos (by rw [List.length_append,List.length_cons];omega),if_pos (by rw [List.length_append,List.length_cons];omega),w64 (by omega),rdz_app,e,set_app]
  have ih := moved_go rows draw weir spill l (Q ++ [x]) z (P ++ [⟨y.f0,x⟩]) k (by omega) (by simp [hQ]) (by simp;omega) (by omega)
  have e2 : Q ++ x :: l = Q ++ [x] ++ l := by simp
  rw [e2,show (P.length : Int) + 1 = ((P ++ [(⟨y.f0,x⟩ : S64)]).length : Int) by simp,ih]
  simp [setH]
 | [],_,_ :: _,_,_,h,_,_,_ => by simp at h
 | _ :: _,_,[],_,_,h,_,_,_ => by simp at h
theorem moved_eq {l : List Int} (hl : l.length = noz.length) (hn : noz.length ≤ 1000) {k : Nat} (hk : noz.length < k) : ca_moved.f k rows draw noz weir spill l = some (draw,setH noz l,weir,spill) := by
 unfold ca_moved.f
 rw [clone_z hn,Option.bind_some]
 exact moved_go rows draw weir spill l [] noz [] k hl rfl (by simpa using hn) hk
theorem setH_len {l : List Int} (hl : l.length = noz.length) : (setH noz l).length = noz.length := by simp [setH,hl]
theorem setH_ok (h : OkB rows draw noz weir spill) {l : List Int} (hl : l.length = noz.length) (hz : ∀ x ∈ l,0 ≤ x ∧ x ≤ 40) : OkB rows draw (setH noz l) weir spill := by
 refine ⟨h.r1,h.r2,h.tab,h.rr,by rw [setH_len hl];exact h.n1,by rw [setH_len hl];exact h.n2,h.w0,h.w1,h.s0,h.s1,fun z hm => ?_⟩
 unfold setH at hm
 obtain ⟨i,hi,rfl⟩ := List.mem_iff_getElem.1 hm
 rw [List.getElem_zipWith]
 simp only [List.length_zipWith] at hi
 have a := h.nn _ (List.getElem_mem (show i < noz.length by omega))
 have b := hz _ (List.getElem_mem (show i < l.length by omega))
 exact ⟨a.1,a.2.1,b.1,b.2⟩
theorem sufGo_total (shares : List Int) : ∀ (claims : List Int) (i : Int),0 ≤ i → i + claims.length ≤ shares.length → ∃ b,sufGo shares claims i = some b
 | [],_,_,_ => ⟨true,rfl⟩
 | n :: rest,i,h0,h => by
  simp only [List.length_cons] at h
  simp only [sufGo]
  rw [if_pos (by omega)]
  by_cases g : rd shares i < n
  · rw [if_pos g];exact ⟨false,rfl⟩
  · rw [if_neg g];exact sufGo_total shares rest (i + 1) (by omega) (by omega)
theorem suffice_eq (h : OkB rows draw noz weir spill) {l claims : List Int} {cups : Int} (hl : l.length = noz.length) (hz : ∀ x ∈ l,0 ≤ x ∧ x ≤ 40) (hc0 : 0 ≤ cups) (hc1 : cups ≤ 10000) {k : Nat} (hk : 20 ≤ k) :
 suffice.f k rows draw noz weir spill cups claims l = sufGo (shareL rows (setH noz l) weir spill cups) claims 0 := by
 have h2 := setH_ok h hl hz
 have n2 := h.n2
 unfold suffice.f
 rw [moved_eq hl (by omega) (by omega)]
 simp only [Option.bind_some]
 rw [fillK_eq h2]
 simp only [Option.bind_some]
 rw [shares_eq h2 hc0 hc1 hk]
 rfl
theorem suffice_total (h : OkB rows draw noz weir spill) {l claims : List Int} {cups : Int} (hl : l.length = noz.length) (hz : ∀ x ∈ l,0 ≤ x ∧ x ≤ 40) (hc0 : 0 ≤ cups) (hc1 : cups ≤ 10000) {k : Nat} (hk : 20 ≤ k) (hcl : claims.length = noz.length) :
 ∃ b,suffice.f k rows draw noz weir spill cups claims l = some b := by
 rw [suffice_eq h hl hz hc0 hc1 hk]
 exact sufGo_total _ claims 0 (by omega) (by rw [(shareL_in (setH_ok h hl hz) hc0).2,setH_len hl];omega)
theorem rout_go (h : OkB rows draw noz weir spill) (x : Int) (x0 : 0 ≤ x) (x1 : x ≤ 40) : ∀ (d k : Nat) (i : Int),0 ≤ i → i + d = noz.length → d < k →
 q4_Out.l0 k x ((noz.take i.toNat).map (pour rows x)) i rows draw noz weir spill = some (gat rows noz x,over weir spill x)
 | 0,k,i,h0,hi,hk => by
  obtain ⟨k,rfl⟩ := ksucc hk
  have a := over_in h x0 x1
  have c := h.w0;have c1 := h.w1
  simp only [q4_Out.l0]
  rw [if_neg (by omega),List.take_of_length_le (by omega),w64 (n := x - weir) (by omega),w64 (n := spill * _) (by unfold over at a;omega)]
  rfl
 | d + 1,k,i,h0,hi,hk => by
  obtain ⟨k,rfl⟩ := ksucc (by omega : 0 < k)
  have n2 := h.n2
  have hz := z_mem h0 (by omega : i < noz.length)
  have a := h.nn _ hz
  have g := gvz_in h hz
  simp only [q4_Out.l0]
  rw [if_pos (by omega),if_pos h0,if_pos a.1,if_pos a.2.1,if_pos (by rw [List.length_map,List.length_take];omega),w64 (n := x - _) (by omega),mm_swap]
  have e := take_snoc z64 (pour rows x) noz h0 (by omega)
  have f := rout_go h x x0 x1 d k (i + 1) (by omega) (by omega) (by omega)
  rw [e] at f
  have p : wrap64 (Int.tdiv (wrap64 ((rd_T126 rows (rd_T64 noz i).f0).f2 * mx 0 (mn 5 (x - (rd_T64 noz i).f1)))) 5) = pour rows x (noz.getD i.toNat z64) :=
   pour_prog (g := gvz rows (rd_T64 noz i)) (by omega) (by omega) (mm_cases _)
  rw [p,w64 (n := i + 1) (by omega)]
  exact f
theorem rout_eq (h : OkB rows draw noz weir spill) {x : Int} (x0 : 0 ≤ x) (x1 : x ≤ 40) {k : Nat} (hk : 10 ≤ k) : q4_Out.f k rows draw noz weir spill x = some (gat rows noz x,over weir spill x) :=
 rout_go h x x0 x1 noz.length k 0 (by omega) (by omega) (by have := h.n2;omega)
theorem rtot_go (xs : List Int) (hl : xs.length ≤ 1000) (hx : ∀ x ∈ xs,0 ≤ x ∧ x ≤ 1000) : ∀ (d k : Nat) (i acc : Int),0 ≤ i → i + d = xs.length → d < k → 0 ≤ acc → acc ≤ 4000 + 1000 * i →
 q4_Total.l0 k xs acc i = some (acc + (xs.drop i.toNat).sum)
 | 0,k,i,acc,h0,hi,hk,hb,hb2 => by
  obtain ⟨k,rfl⟩ := ksucc hk
  simp only [q4_Total.l0]
  rw [if_neg (by omega),List.drop_of_length_le (by omega)]
  simp
 | d + 1,k,i,acc,h0,hi,hk,hb,hb2 => by
  obtain ⟨k,rfl⟩ := ksucc (by omega : 0 < k)
  simp only [q4_Total.l0]
  have e := drop_at (0 : Int) xs i h0 (by omega)
  have m := hx _ (getD_mem (0 : Int) h0 (by omega : i < xs.length))
  rw [if_pos (by omega),if_pos h0]
  unfold rd
  rw [w64 (n := acc + _) (by omega),w64 (by omega),rtot_go xs hl hx d k (i + 1) _ (by omega) (by omega) (by omega) (by omega) (by omega),e,List.sum_cons,Int.add_assoc]
theorem rtot_eq (h : OkB rows draw noz weir spill) {x : Int} (x0 : 0 ≤ x) (x1 : x ≤ 40) {k : Nat} (hk : 10 ≤ k) : q4_Total.f k rows draw noz weir spill x = some (tot rows noz weir spill x) := by
 have a := gat_in h x
 have b := over_in h x0 x1
 have n2 := h.n2
 unfold q4_Total.f
 rw [rout_eq h x0 x1 hk,Option.bind_some,rtot_go _ (by rw [gat_len];omega) a noz.length k 0 _ (by omega) (by rw [gat_len];omega) (by omega) (by omega) (by omega)]
 simp only [Int.toNat_zero,List.drop_zero]
 unfold tot
 rw [Int.add_comm]
end
section
attribute [local go_sem high] eqA40
theorem kn_ok : OkB tRows 50 aNoz 20 5 := okB_iff.1 (by decide +kernel)
theorem kn_suf (hb : ca_isBasin.f tRows 50 aNoz 20 5 = some true) : ∀ l : List Int,l.length = aNoz.length → (∀ z ∈ l,0 ≤ z ∧ z ≤ 40) → ∃ b,suffice.f 400 tRows 50 aNoz 20 5 33 [8,12,12] l = some b := fun l hl hz => suffice_total kn_ok hl hz (by decide) (by decide) (by decide) rfl
theorem sm0 : q4_Same.f 100 [0,0] [0,0] = some true := by decide +kernel
theorem sm1 : q4_Same.f 100 [10,20,45] [10,20,45] = some true := by decide +kernel
theorem sm2 : q4_Same.f 100 [-4,-5,9] [-4,-5,9] = some true := by decide +kernel
theorem sm3 : q4_Same.f 100 [10,11,12] [10,11,12] = some true := by decide +kernel
theorem sm4 : q4_SameSpans.f 100 ([⟨8,10⟩,⟨13,20⟩,⟨9,30⟩] : List S40) ([⟨8,10⟩,⟨13,20⟩,⟨9,30⟩] : List S40) = some true := by decide +kernel
theorem sm5 : q4_SameChanges.f 100 ([⟨2,9⟩,⟨2,10⟩] : List S58) ([⟨2,9⟩,⟨2,10⟩] : List S58) = some true := by decide +kernel
theorem sm6 : q4_SameLists.f 100 [[8,13,9],[7,2]] [[8,13,9],[7,2]] = some true := by decide +kernel
theorem smB : q4_SameBasins.f 100 tRows 50 [⟨0,5⟩] 8 1 tRows 50 [⟨0,5⟩] 8 1 = some true := by decide +kernel
theorem slice_step {P : Program} {ops : Array Oper} {o : Oper} {a : Act} {Q : Exit → Act → World → Prop} {Kc : Act → World → Prop} {W : World} (hw : Region.wanted o (yielded ops a.tmps) = true) {N : Option Tmp} (hN : o.dst = N) {cs : Array Value} {t n : Nat}
 (hrun : (execOp a.eval o).run P W = .ok (.value (.slice (some ⟨W.heap.size,0,none⟩) n n)) (W.alloc (.cells cs t (0,0))))
 (h : ∀ g w1,w1.heap[g]? = some (.cells cs t (0,0)) → Below W.heap.size W w1 → Kc (a.put N (.slice (some ⟨g,0,none⟩) n n)) w1) : if Region.wanted o (yielded ops a.tmps) = true then Oper.wp P o a W Kc Q else Kc (a.put N undef) W := by
 subst hN
 exact event_step hw hrun (h _ _ (blk_new W _) (below_alloc (Below.refl _ _) _))
theorem known_walk (w : World) (hg : GV w) : Calls Tryz.prog 15 #[] w fun e w' => e = .returned (.bool true) ∧ Below w.heap.size w w' := by
 have hu40 := Tryz.underlying40
 have hu27 := Tryz.underlying27
 have HG := am hg
 clear hg
 have HB := am (Below.refl w.heap.size w)
 go_enter Tryz.func15,Tryz.ntmps15
 go_wp2_with (first | (go_at_call 49;refine (l4_A.calls _ _ _ _ _ _ kn_A).mono ?_;rintro e w2 ⟨vA,vB,rfl,hra,hrb,hb⟩;(try clear RA RB LRA LRB);(try (have n_ := am (blk_below (blk_new _ (.cells #[.int .i64 13,.int .i64 15] 40)) hb);have hb2_ := below_then (below_alloc (Below.refl _ _) (.cells #[.int .i64 13,.int .i64 15] 40)) (below_alloc (Below.refl _ _) (.cells #[.int .i64 13,.int .i64 15] 40)).size hb;clear hb;have hb := hb2_;clear hb2_;have B7 := n_;clear n_));(try (have n_ := am (blk_below (blk_new _ (.cells #[.int .i64 0,.int .i64 0] 40)) hb);have hb2_ := below_then (below_alloc (Below.refl _ _) (.cells #[.int .i64 0,.int .i64 0] 40)) (below_alloc (Below.refl _ _) (.cells #[.int .i64 0,.int .i64 0] 40)).size hb;clear hb;have hb := hb2_;clear hb2_;have B10 := n_;clear n_));(try (have n_ := am (blk_below (blk_new _ (.cells #[.int .i64 27,.int .i64 56] 40)) hb);have hb2_ := below_then (below_alloc (Below.refl _ _) (.cells #[.int .i64 27,.int .i64 56] 40)) (below_alloc (Below.refl _ _) (.cells #[.int .i64 27,.int .i64 56] 40)).size hb;clear hb;have hb := hb2_;clear hb2_;have B12 := n_;clear n_));replace HB := (bmv HB hb);(try (replace Ra := (cmv Ra hb)));(try (replace Rb := (cmv Rb hb)));(try (replace Rd := (cmv Rd hb)));(try (replace Rq := (cmv Rq hb)));(try (replace Rm := (cmv Rm hb)));(try (replace Rw := (cmv Rw hb)));(try (replace Rx := (cmv Rx hb)));(try (replace Ry := (cmv Ry hb)));(try (replace Ru0 := (cmv Ru0 hb)));(try (replace Ru2 := (cmv Ru2 hb)));(try (replace B7 := (kmv hb B7)));(try (replace B10 := (kmv hb B10)));(try (replace B12 := (kmv hb B12)));(try (replace B27 := (kmv hb B27)));obtain ⟨AA,cA,rfl,hl_,hc_⟩ := Kd.R_reads hra;have RA := am hc_;have LRA := am hl_;clear hl_ hc_ hra;obtain ⟨AB,cB,rfl,hl_,hc_⟩ := Kd.R_reads hrb;have RB := am hc_;have LRB := am hl_;clear hl_ hc_ hrb;clear hb) | (go_at_call 24;refine (ca_Out.calls 400 AA cA tRows 50 AB cB aNoz 20 5 22 [10,20,45] 10 0 _ RA.out LRA.out RB.out LRB.out kn_Out rfl).mono ?_;rintro e w2 ⟨va,rfl,hr,hb⟩;replace HB := (bmv HB hb);(try (replace Ra := (cmv Ra hb)));(try (replace Rb := (cmv Rb hb)));(try (replace Rd := (cmv Rd hb)));(try (replace Rq := (cmv Rq hb)));(try (replace Rm := (cmv Rm hb)));(try (replace Rw := (cmv Rw hb)));(try (replace Rx := (cmv Rx hb)));(try (replace Ry := (cmv Ry hb)));(try (replace Ru0 := (cmv Ru0 hb)));(try (replace Ru2 := (cmv Ru2 hb)));(try (replace B7 := (kmv hb B7)));(try (replace B10 := (kmv hb B10)));(try (replace B12 := (kmv hb B12)));(try (replace B27 := (kmv hb B27)));obtain ⟨Aa,ca,rfl,hl_,hc_⟩ := Kd.R_reads hr;have Ra := am hc_;have LRa := am hl_;clear hl_ hc_ hr;clear hb) | (go_at_call 16;refine (ca_Shares.calls 400 AA cA tRows 50 AB cB aNoz 20 5 78 [10,20,45] 3 0 _ RA.out LRA.out RB.out LRB.out kn_Shares rfl).mono ?_;rintro e w2 ⟨va,rfl,hr,hb⟩;replace HB := (bmv HB hb);(try (replace Ra := (cmv Ra hb)));(try (replace Rb := (cmv Rb hb)));(try (replace Rd := (cmv Rd hb)));(try (replace Rq := (cmv Rq hb)));(try (replace Rm := (cmv Rm hb)));(try (replace Rw := (cmv Rw hb)));(try (replace Rx := (cmv Rx hb)));(try (replace Ry := (cmv Ry hb)));(try (replace Ru0 := (cmv Ru0 hb)));(try (replace Ru2 := (cmv Ru2 hb)));(try (replace B7 := (kmv hb B7)));(try (replace B10 := (kmv hb B10)));(try (replace B12 := (kmv hb B12)));(try (replace B27 := (kmv hb B27)));obtain ⟨Ab,cb,rfl,hl_,hc_⟩ := Kd.R_reads hr;have Rb := am hc_;have LRb := am hl_;clear hl_ hc_ hr;clear hb) | (go_at_call 22;refine (ca_Level.calls 400 AA cA tRows 50 AB cB aNoz 20 5 30 60 13 15 0 _ RA.out LRA.out RB.out LRB.out kn_Level rfl).mono ?_;rintro e w2 ⟨rfl,hb⟩;replace HB := (bmv HB hb);(try (replace Ra := (cmv Ra hb)));(try (replace Rb := (cmv Rb hb)));(try (replace Rd := (cmv Rd hb)));(try (replace Rq := (cmv Rq hb)));(try (replace Rm := (cmv Rm hb)));(try (replace Rw := (cmv Rw hb)));(try (replace Rx := (cmv Rx hb)));(try (replace Ry := (cmv Ry hb)));(try (replace Ru0 := (cmv Ru0 hb)));(try (replace Ru2 := (cmv Ru2 hb)));(try (replace B7 := (kmv hb B7)));(try (replace B10 := (kmv hb B10)));(try (replace B12 := (kmv hb B12)));(try (replace B27 := (kmv hb B27)));clear hb) | (go_at_call 25;refine (ca_Bounds.calls 400 AA cA tRows 50 AB cB aNoz 20 5 30 60 [⟨8,10⟩,⟨13,20⟩,⟨9,30⟩] 0 0 0 _ RA.out LRA.out RB.out LRB.out kn_Bounds rfl).mono ?_;rintro e w2 ⟨va,rfl,hr,hb⟩;replace HB := (bmv HB hb);(try (replace Ra := (cmv Ra hb)));(try (replace Rb := (cmv Rb hb)));(try (replace Rd := (cmv Rd hb)));(try (replace Rq := (cmv Rq hb)));(try (replace Rm := (cmv Rm hb)));(try (replace Rw := (cmv Rw hb)));(try (replace Rx := (cmv Rx hb)));(try (replace Ry := (cmv Ry hb)));(try (replace Ru0 := (cmv Ru0 hb)));(try (replace Ru2 := (cmv Ru2 hb)));(try (replace B7 := (kmv hb B7)));(try (replace B10 := (kmv hb B10)));(try (replace B12 := (kmv hb B12)));(try (replace B27 := (kmv hb B27)));obtain ⟨Ad,cd,rfl,hl_,hc_⟩ := Kd.R_reads hr;have Rd := am hc_;have LRd := am hl_;clear hl_ hc_ hr;clear hb) | (go_at_call 30;refine (ca_Proves.calls AA cA tRows 50 AB cB aNoz 20 5 13 14 27 56 0 _ RA.out LRA.out RB.out LRB.out kn_Proves).mono ?_;rintro e w2 ⟨rfl,hb⟩;replace HB := (bmv HB hb);(try (replace Ra := (cmv Ra hb)));(try (replace Rb := (cmv Rb hb)));(try (replace Rd := (cmv Rd hb)));(try (replace Rq := (cmv Rq hb)));(try (replace Rm := (cmv Rm hb)));(try (replace Rw := (cmv Rw hb)));(try (replace Rx := (cmv Rx hb)));(try (replace Ry := (cmv Ry hb)));(try (replace Ru0 := (cmv Ru0 hb)));(try (replace Ru2 := (cmv Ru2 hb)));(try (replace B7 := (kmv hb B7)));(try (replace B10 := (kmv hb B10)));(try (replace B12 := (kmv hb B12)));(try (replace B27 := (kmv hb B27)));clear hb) | (go_at_call 33;refine (ca_Gains.calls 400 AA cA tRows 50 AB cB aNoz 20 5 2 10 30 [-4,-5,9] 0 0 _ RA.out LRA.out RB.out LRB.out kn_Gains rfl).mono ?_;rintro e w2 ⟨va,rfl,hr,hb⟩;replace HB := (bmv HB hb);(try (replace Ra := (cmv Ra hb)));(try (replace Rb := (cmv Rb hb)));(try (replace Rd := (cmv Rd hb)));(try (replace Rq := (cmv Rq hb)));(try (replace Rm := (cmv Rm hb)));(try (replace Rw := (cmv Rw hb)));(try (replace Rx := (cmv Rx hb)));(try (replace Ry := (cmv Ry hb)));(try (replace Ru0 := (cmv Ru0 hb)));(try (replace Ru2 := (cmv Ru2 hb)));(try (replace B7 := (kmv hb B7)));(try (replace B10 := (kmv hb B10)));(try (replace B12 := (kmv hb B12)));(try (replace B27 := (kmv hb B27)));obtain ⟨Aq,cq,rfl,hl_,hc_⟩ := Kd.R_reads hr;have Rq := am hc_;have LRq := am hl_;clear hl_ hc_ hr;clear hb) | (go_at_call 38;refine (ca_Mends.calls 400 AA cA tRows 50 AB cB aNoz 20 5 _ 3 [8,12,12] 33 [10,11,12] 1 0 _ (Kd.C_alloc RA.out _) LRA.out (Kd.C_alloc RB.out _) LRB.out (ints_of_block (xs := [8,12,12]) (blk_new _ _) (by decide)) (by decide) (fun _ => by decide) kn_suf kn_Mends rfl).mono ?_;rintro e w2 ⟨Am,cm,rfl,hl_,hc_,hb⟩;have hb2_ := below_then (below_alloc (Below.refl _ _) (.cells #[.int .i64 8,.int .i64 12,.int .i64 12] 3)) (below_alloc (Below.refl _ _) (.cells #[.int .i64 8,.int .i64 12,.int .i64 12] 3)).size hb;clear hb;have hb := hb2_;clear hb2_;replace HB := (bmv HB hb);(try (replace Ra := (cmv Ra hb)));(try (replace Rb := (cmv Rb hb)));(try (replace Rd := (cmv Rd hb)));(try (replace Rq := (cmv Rq hb)));(try (replace Rm := (cmv Rm hb)));(try (replace Rw := (cmv Rw hb)));(try (replace Rx := (cmv Rx hb)));(try (replace Ry := (cmv Ry hb)));(try (replace Ru0 := (cmv Ru0 hb)));(try (replace Ru2 := (cmv Ru2 hb)));(try (replace B7 := (kmv hb B7)));(try (replace B10 := (kmv hb B10)));(try (replace B12 := (kmv hb B12)));(try (replace B27 := (kmv hb B27)));have Rm := am hc_;have LRm := am hl_;clear hl_ hc_;clear hb) | (go_at_call 45;refine (ca_Lowered.calls 3000 AA cA tRows 50 AB cB aNoz 20 5 30 _ 3 ([⟨4,4⟩,⟨8,8⟩,⟨18,18⟩] : List S40) [⟨2,9⟩,⟨2,10⟩] 0 _ (Kd.C_alloc RA.out _) LRA.out (Kd.C_alloc RB.out _) LRB.out (C_of_block (k := k40) (xs := ([⟨4,4⟩,⟨8,8⟩,⟨18,18⟩] : List S40)) (inner := [.int .i64 4,.int .i64 4,.int .i64 8,.int .i64 8,.int .i64 18,.int .i64 18]) (blk_new _ _) (Reps.c2 (k40_mk _ (⟨4,4⟩ : S40)) (Reps.c2 (k40_mk _ (⟨8,8⟩ : S40)) (Reps.c2 (k40_mk _ (⟨18,18⟩ : S40)) (Reps.none _ _)))) (by decide)) (by decide) kn_Lowered rfl).mono ?_;rintro e w2 ⟨va,rfl,hr,hb⟩;have hb2_ := below_then (below_alloc (Below.refl _ _) (.cells #[.int .i64 4,.int .i64 4,.int .i64 8,.int .i64 8,.int .i64 18,.int .i64 18] 40)) (below_alloc (Below.refl _ _) (.cells #[.int .i64 4,.int .i64 4,.int .i64 8,.int .i64 8,.int .i64 18,.int .i64 18] 40)).size hb;clear hb;have hb := hb2_;clear hb2_;replace HB := (bmv HB hb);(try (replace Ra := (cmv Ra hb)));(try (replace Rb := (cmv Rb hb)));(try (replace Rd := (cmv Rd hb)));(try (replace Rq := (cmv Rq hb)));(try (replace Rm := (cmv Rm hb)));(try (replace Rw := (cmv Rw hb)));(try (replace Rx := (cmv Rx hb)));(try (replace Ry := (cmv Ry hb)));(try (replace Ru0 := (cmv Ru0 hb)));(try (replace Ru2 := (cmv Ru2 hb)));(try (replace B7 := (kmv hb B7)));(try (replace B10 := (kmv hb B10)));(try (replace B12 := (kmv hb B12)));(try (replace B27 := (kmv hb B27)));obtain ⟨Aw,cw,rfl,hl_,hc_⟩ := Kd.R_reads hr;have Rw := am hc_;have LRw := am hl_;clear hl_ hc_ hr;clear hb) | (go_at_call 51;refine (l4_C.calls _ _ _ kn_C).mono ?_;rintro e w2 ⟨vC,vD,rfl,hra,hrb,hb⟩;(try clear RC RD LRC LRD);replace HB := (bmv HB hb);(try (replace Ra := (cmv Ra hb)));(try (replace Rb := (cmv Rb hb)));(try (replace Rd := (cmv Rd hb)));(try (replace Rq := (cmv Rq hb)));(try (replace Rm := (cmv Rm hb)));(try (replace Rw := (cmv Rw hb)));(try (replace Rx := (cmv Rx hb)));(try (replace Ry := (cmv Ry hb)));(try (replace Ru0 := (cmv Ru0 hb)));(try (replace Ru2 := (cmv Ru2 hb)));(try (replace B7 := (kmv hb B7)));(try (replace B10 := (kmv hb B10)));(try (replace B12 := (kmv hb B12)));(try (replace B27 := (kmv hb B27)));obtain ⟨AC,cC,rfl,hl_,hc_⟩ := Kd.N_reads hra;have RC := am hc_;have LRC := am hl_;clear hl_ hc_ hra;obtain ⟨AD,cD,rfl,hl_,hc_⟩ := Kd.R_reads hrb;have RD := am hc_;have LRD := am hl_;clear hl_ hc_ hrb;clear hb) | (go_at_call 50;refine (ca_Flow.calls 400 AC cC cBas AD cD cFeeds 30 [[8,13,9],[7,2]] [0,0] 0 _ RC.out LRC.out RD.out LRD.out kn_Flow rfl).mono ?_;rintro e w2 ⟨vx,vy,rfl,hra,hrb,hb⟩;replace HB := (bmv HB hb);(try (replace Ra := (cmv Ra hb)));(try (replace Rb := (cmv Rb hb)));(try (replace Rd := (cmv Rd hb)));(try (replace Rq := (cmv Rq hb)));(try (replace Rm := (cmv Rm hb)));(try (replace Rw := (cmv Rw hb)));(try (replace Rx := (cmv Rx hb)));(try (replace Ry := (cmv Ry hb)));(try (replace Ru0 := (cmv Ru0 hb)));(try (replace Ru2 := (cmv Ru2 hb)));(try (replace B7 := (kmv hb B7)));(try (replace B10 := (kmv hb B10)));(try (replace B12 := (kmv hb B12)));(try (replace B27 := (kmv hb B27)));obtain ⟨Ax,cx,rfl,hl_,hc_⟩ := Kd.N_reads hra;have Rx := am hc_;have LRx := am hl_;clear hl_ hc_ hra;obtain ⟨Ay,cy,rfl,hl_,hc_⟩ := Kd.R_reads hrb;have Ry := am hc_;have LRy := am hl_;clear hl_ hc_ hrb;clear hb) | (go_at_call 52;refine (ca_Least.calls 400 AC cC cBas AD cD cFeeds 1 0 8 34 0 _ RC.out LRC.out RD.out LRD.out kn_Least rfl).mono ?_;rintro e w2 ⟨rfl,hb⟩;replace HB := (bmv HB hb);(try (replace Ra := (cmv Ra hb)));(try (replace Rb := (cmv Rb hb)));(try (replace Rd := (cmv Rd hb)));(try (replace Rq := (cmv Rq hb)));(try (replace Rm := (cmv Rm hb)));(try (replace Rw := (cmv Rw hb)));(try (replace Rx := (cmv Rx hb)));(try (replace Ry := (cmv Ry hb)));(try (replace Ru0 := (cmv Ru0 hb)));(try (replace Ru2 := (cmv Ru2 hb)));(try (replace B7 := (kmv hb B7)));(try (replace B10 := (kmv hb B10)));(try (replace B12 := (kmv hb B12)));(try (replace B27 := (kmv hb B27)));clear hb) | (go_at_call 54;refine (l4_T.calls _ _ _ kn_T).mono ?_;rintro e w2 ⟨vT,rfl,hra,hb⟩;replace HB := (bmv HB hb);(try (replace Ra := (cmv Ra hb)));(try (replace Rb := (cmv Rb hb)));(try (replace Rd := (cmv Rd hb)));(try (replace Rq := (cmv Rq hb)));(try (replace Rm := (cmv Rm hb)));(try (replace Rw := (cmv Rw hb)));(try (replace Rx := (cmv Rx hb)));(try (replace Ry := (cmv Ry hb)));(try (replace Ru0 := (cmv Ru0 hb)));(try (replace Ru2 := (cmv Ru2 hb)));(try (replace B7 := (kmv hb B7)));(try (replace B10 := (kmv hb B10)));(try (replace B12 := (kmv hb B12)));(try (replace B27 := (kmv hb B27)));obtain ⟨AT,cT,rfl,hl_,hc_⟩ := Kd.R_reads hra;have RT := am hc_;have LRT := am hl_;clear hl_ hc_ hra;clear hb) | (go_at_call 53;refine (ca_Read.calls AT cT tRows 50 rText tRows 50 [⟨0,5⟩] 8 1 0 _ RT.out LRT.out (by decide) (by decide) (HG.out.below HB.out) kn_Read rfl).mono ?_;rintro e wR ⟨vU,vV,rfl,hra,hrb,hb⟩;replace HB := (bmv HB hb);(try (replace Ra := (cmv Ra hb)));(try (replace Rb := (cmv Rb hb)));(try (replace Rd := (cmv Rd hb)));(try (replace Rq := (cmv Rq hb)));(try (replace Rm := (cmv Rm hb)));(try (replace Rw := (cmv Rw hb)));(try (replace Rx := (cmv Rx hb)));(try (replace Ry := (cmv Ry hb)));(try (replace Ru0 := (cmv Ru0 hb)));(try (replace Ru2 := (cmv Ru2 hb)));(try (replace B7 := (kmv hb B7)));(try (replace B10 := (kmv hb B10)));(try (replace B12 := (kmv hb B12)));(try (replace B27 := (kmv hb B27)));obtain ⟨Au0,cu0,rfl,hl_,hc_⟩ := Kd.R_reads hra;have Ru0 := am hc_;have LRu0 := am hl_;clear hl_ hc_ hra;obtain ⟨Au2,cu2,rfl,hl_,hc_⟩ := Kd.R_reads hrb;have Ru2 := am hc_;have LRu2 := am hl_;clear hl_ hc_ hrb;clear hb) | (go_at_call 20;first | (have n_ := Ra;clear n_;refine (q4_Same.calls 100 Aa ca [10,20,45] _ 3 [10,20,45] true _ (Kd.C_alloc (Kd.C_alloc Ra.out _) _) LRa.out (ints_of_block (xs := [10,20,45]) (blk_new1 _ _ _) (by decide)) (by decide) sm1).mono ?_;clear LRa Ra;rintro e w2 ⟨rfl,hd⟩;have hb := hd.below;clear hd;(try (have B27 := am (blk_below (blk_alloc (blk_new _ (.cells #[.slice Au0 tRows.length cu0,.int .i64 50,.slice Au2 1 cu2,.int .i64 8,.int .i64 1] 27)) _) hb)));have hb2_ := below_then (below_alloc (below_alloc (Below.refl _ _) (.cells #[.slice Au0 tRows.length cu0,.int .i64 50,.slice Au2 1 cu2,.int .i64 8,.int .i64 1] 27)) (.cells #[.int .i64 10,.int .i64 20,.int .i64 45] 3)) (below_alloc (below_alloc (Below.refl _ _) (.cells #[.slice Au0 tRows.length cu0,.int .i64 50,.slice Au2 1 cu2,.int .i64 8,.int .i64 1] 27)) (.cells #[.int .i64 10,.int .i64 20,.int .i64 45] 3)).size hb;clear hb;have hb := hb2_;clear hb2_;replace HB := (bmv HB hb);(try (replace Ra := (cmv Ra hb)));(try (replace Rb := (cmv Rb hb)));(try (replace Rd := (cmv Rd hb)));(try (replace Rq := (cmv Rq hb)));(try (replace Rm := (cmv Rm hb)));(try (replace Rw := (cmv Rw hb)));(try (replace Rx := (cmv Rx hb)));(try (replace Ry := (cmv Ry hb)));(try (replace Ru0 := (cmv Ru0 hb)));(try (replace Ru2 := (cmv Ru2 hb)));(try (replace B7 := (kmv hb B7)));(try (replace B10 := (kmv hb B10)));(try (replace B12 := (kmv hb B12)));(try (replace B27 := (kmv hb B27)));(try (have hcB7_0 := (blk_cell B7.out 0).trans (show _ = some (Value.int .i64 13) from rfl);have hcB7_1 := (blk_cell B7.out 1).trans (show _ = some (Value.int .i64 15) from rfl)));(try (have hcB10_0 := (blk_cell B10.out 0).trans (show _ = some (Value.int .i64 0) from rfl);have hcB10_1 := (blk_cell B10.out 1).trans (show _ = some (Value.int .i64 0) from rfl)));(try (have hcB12_0 := (blk_cell B12.out 0).trans (show _ = some (Value.int .i64 27) from rfl);have hcB12_1 := (blk_cell B12.out 1).trans (show _ = some (Value.int .i64 56) from rfl)));clear hb) | (have n_ := Rb;clear n_;refine (q4_Same.calls 100 Ab cb [10,20,45] _ 3 [10,20,45] true _ (Kd.C_alloc Rb.out _) LRb.out (ints_of_block (xs := [10,20,45]) (blk_new _ _) (by decide)) (by decide) sm1).mono ?_;clear LRb Rb;rintro e w2 ⟨rfl,hd⟩;have hb := hd.below;clear hd;have hb2_ := below_then (below_alloc (Below.refl _ _) (.cells #[.int .i64 10,.int .i64 20,.int .i64 45] 3)) (below_alloc (Below.refl _ _) (.cells #[.int .i64 10,.int .i64 20,.int .i64 45] 3)).size hb;clear hb;have hb := hb2_;clear hb2_;replace HB := (bmv HB hb);(try (replace Ra := (cmv Ra hb)));(try (replace Rb := (cmv Rb hb)));(try (replace Rd := (cmv Rd hb)));(try (replace Rq := (cmv Rq hb)));(try (replace Rm := (cmv Rm hb)));(try (replace Rw := (cmv Rw hb)));(try (replace Rx := (cmv Rx hb)));(try (replace Ry := (cmv Ry hb)));(try (replace Ru0 := (cmv Ru0 hb)));(try (replace Ru2 := (cmv Ru2 hb)));(try (replace B7 := (kmv hb B7)));(try (replace B10 := (kmv hb B10)));(try (replace B12 := (kmv hb B12)));(try (replace B27 := (kmv hb B27)));(try (have hcB7_0 := (blk_cell B7.out 0).trans (show _ = some (Value.int .i64 13) from rfl);have hcB7_1 := (blk_cell B7.out 1).trans (show _ = some (Value.int .i64 15) from rfl)));(try (have hcB10_0 := (blk_cell B10.out 0).trans (show _ = some (Value.int .i64 0) from rfl);have hcB10_1 := (blk_cell B10.out 1).trans (show _ = some (Value.int .i64 0) from rfl)));(try (have hcB12_0 := (blk_cell B12.out 0).trans (show _ = some (Value.int .i64 27) from rfl);have hcB12_1 := (blk_cell B12.out 1).trans (show _ = some (Value.int .i64 56) from rfl)));clear hb) | (have n_ := Rq;clear n_;refine (q4_Same.calls 100 Aq cq [-4,-5,9] _ 3 [-4,-5,9] true _ (Kd.C_alloc Rq.out _) LRq.out (ints_of_block (xs := [-4,-5,9]) (blk_new _ _) (by decide)) (by decide) sm2).mono ?_;clear LRq Rq;rintro e w2 ⟨rfl,hd⟩;have hb := hd.below;clear hd;have hb2_ := below_then (below_alloc (Below.refl _ _) (.cells #[.int .i64 (-4),.int .i64 (-5),.int .i64 9] 3)) (below_alloc (Below.refl _ _) (.cells #[.int .i64 (-4),.int .i64 (-5),.int .i64 9] 3)).size hb;clear hb;have hb := hb2_;clear hb2_;replace HB := (bmv HB hb);(try (replace Ra := (cmv Ra hb)));(try (replace Rb := (cmv Rb hb)));(try (replace Rd := (cmv Rd hb)));(try (replace Rq := (cmv Rq hb)));(try (replace Rm := (cmv Rm hb)));(try (replace Rw := (cmv Rw hb)));(try (replace Rx := (cmv Rx hb)));(try (replace Ry := (cmv Ry hb)));(try (replace Ru0 := (cmv Ru0 hb)));(try (replace Ru2 := (cmv Ru2 hb)));(try (replace B7 := (kmv hb B7)));(try (replace B10 := (kmv hb B10)));(try (replace B12 := (kmv hb B12)));(try (replace B27 := (kmv hb B27)));(try (have hcB7_0 := (blk_cell B7.out 0).trans (show _ = some (Value.int .i64 13) from rfl);have hcB7_1 := (blk_cell B7.out 1).trans (show _ = some (Value.int .i64 15) from rfl)));(try (have hcB10_0 := (blk_cell B10.out 0).trans (show _ = some (Value.int .i64 0) from rfl);have hcB10_1 := (blk_cell B10.out 1).trans (show _ = some (Value.int .i64 0) from rfl)));(try (have hcB12_0 := (blk_cell B12.out 0).trans (show _ = some (Value.int .i64 27) from rfl);have hcB12_1 := (blk_cell B12.out 1).trans (show _ = some (Value.int .i64 56) from rfl)));clear hb) | (have n_ := Rm;clear n_;refine (q4_Same.calls 100 Am cm [10,11,12] _ 3 [10,11,12] true _ (Kd.C_alloc Rm.out _) LRm.out (ints_of_block (xs := [10,11,12]) (blk_new _ _) (by decide)) (by decide) sm3).mono ?_;clear LRm Rm;rintro e w2 ⟨rfl,hd⟩;have hb := hd.below;clear hd;have hb2_ := below_then (below_alloc (Below.refl _ _) (.cells #[.int .i64 10,.int .i64 11,.int .i64 12] 3)) (below_alloc (Below.refl _ _) (.cells #[.int .i64 10,.int .i64 11,.int .i64 12] 3)).size hb;clear hb;have hb := hb2_;clear hb2_;replace HB := (bmv HB hb);(try (replace Ra := (cmv Ra hb)));(try (replace Rb := (cmv Rb hb)));(try (replace Rd := (cmv Rd hb)));(try (replace Rq := (cmv Rq hb)));(try (replace Rm := (cmv Rm hb)));(try (replace Rw := (cmv Rw hb)));(try (replace Rx := (cmv Rx hb)));(try (replace Ry := (cmv Ry hb)));(try (replace Ru0 := (cmv Ru0 hb)));(try (replace Ru2 := (cmv Ru2 hb)));(try (replace B7 := (kmv hb B7)));(try (replace B10 := (kmv hb B10)));(try (replace B12 := (kmv hb B12)));(try (replace B27 := (kmv hb B27)));(try (have hcB7_0 := (blk_cell B7.out 0).trans (show _ = some (Value.int .i64 13) from rfl);have hcB7_1 := (blk_cell B7.out 1).trans (show _ = some (Value.int .i64 15) from rfl)));(try (have hcB10_0 := (blk_cell B10.out 0).trans (show _ = some (Value.int .i64 0) from rfl);have hcB10_1 := (blk_cell B10.out 1).trans (show _ = some (Value.int .i64 0) from rfl)));(try (have hcB12_0 := (blk_cell B12.out 0).trans (show _ = some (Value.int .i64 27) from rfl);have hcB12_1 := (blk_cell B12.out 1).trans (show _ = some (Value.int .i64 56) from rfl)));clear hb) | (have n_ := Ry;clear n_;refine (q4_Same.calls 100 Ay cy [0,0] _ 2 [0,0] true _ (Kd.C_alloc Ry.out _) LRy.out (ints_of_block (xs := [0,0]) (blk_new _ _) (by decide)) (by decide) sm0).mono ?_;clear LRy Ry;rintro e w2 ⟨rfl,hd⟩;have hb := hd.below;clear hd;have hb2_ := below_then (below_alloc (Below.refl _ _) (.cells #[.int .i64 0,.int .i64 0] 3)) (below_alloc (Below.refl _ _) (.cells #[.int .i64 0,.int .i64 0] 3)).size hb;clear hb;have hb := hb2_;clear hb2_;replace HB := (bmv HB hb);(try (replace Ra := (cmv Ra hb)));(try (replace Rb := (cmv Rb hb)));(try (replace Rd := (cmv Rd hb)));(try (replace Rq := (cmv Rq hb)));(try (replace Rm := (cmv Rm hb)));(try (replace Rw := (cmv Rw hb)));(try (replace Rx := (cmv Rx hb)));(try (replace Ry := (cmv Ry hb)));(try (replace Ru0 := (cmv Ru0 hb)));(try (replace Ru2 := (cmv Ru2 hb)));(try (replace B7 := (kmv hb B7)));(try (replace B10 := (kmv hb B10)));(try (replace B12 := (kmv hb B12)));(try (replace B27 := (kmv hb B27)));(try (have hcB7_0 := (blk_cell B7.out 0).trans (show _ = some (Value.int .i64 13) from rfl);have hcB7_1 := (blk_cell B7.out 1).trans (show _ = some (Value.int .i64 15) from rfl)));(try (have hcB10_0 := (blk_cell B10.out 0).trans (show _ = some (Value.int .i64 0) from rfl);have hcB10_1 := (blk_cell B10.out 1).trans (show _ = some (Value.int .i64 0) from rfl)));(try (have hcB12_0 := (blk_cell B12.out 0).trans (show _ = some (Value.int .i64 27) from rfl);have hcB12_1 := (blk_cell B12.out 1).trans (show _ = some (Value.int .i64 56) from rfl)));clear hb)) | (go_at_call 29;have n_ := Rd;clear n_;refine (q4_SameSpans.calls 100 Ad cd ([⟨8,10⟩,⟨13,20⟩,⟨9,30⟩] : List S40) _ 3 ([⟨8,10⟩,⟨13,20⟩,⟨9,30⟩] : List S40) true _ (Kd.C_alloc Rd.out _) LRd.out (C_of_block (k := k40) (xs := ([⟨8,10⟩,⟨13,20⟩,⟨9,30⟩] : List S40)) (inner := [.int .i64 8,.int .i64 10,.int .i64 13,.int .i64 20,.int .i64 9,.int .i64 30]) (blk_new _ _) (Reps.c2 (k40_mk _ (⟨8,10⟩ : S40)) (Reps.c2 (k40_mk _ (⟨13,20⟩ : S40)) (Reps.c2 (k40_mk _ (⟨9,30⟩ : S40)) (Reps.none _ _)))) (by decide)) (by decide) sm4).mono ?_;clear LRd Rd;rintro e w2 ⟨rfl,hd⟩;have hb := hd.below;clear hd;have hb2_ := below_then (below_alloc (Below.refl _ _) (.cells #[.int .i64 8,.int .i64 10,.int .i64 13,.int .i64 20,.int .i64 9,.int .i64 30] 40)) (below_alloc (Below.refl _ _) (.cells #[.int .i64 8,.int .i64 10,.int .i64 13,.int .i64 20,.int .i64 9,.int .i64 30] 40)).size hb;clear hb;have hb := hb2_;clear hb2_;replace HB := (bmv HB hb);(try (replace Ra := (cmv Ra hb)));(try (replace Rb := (cmv Rb hb)));(try (replace Rd := (cmv Rd hb)));(try (replace Rq := (cmv Rq hb)));(try (replace Rm := (cmv Rm hb)));(try (replace Rw := (cmv Rw hb)));(try (replace Rx := (cmv Rx hb)));(try (replace Ry := (cmv Ry hb)));(try (replace Ru0 := (cmv Ru0 hb)));(try (replace Ru2 := (cmv Ru2 hb)));(try (replace B7 := (kmv hb B7)));(try (replace B10 := (kmv hb B10)));(try (replace B12 := (kmv hb B12)));(try (replace B27 := (kmv hb B27)));(try (have hcB7_0 := (blk_cell B7.out 0).trans (show _ = some (Value.int .i64 13) from rfl);have hcB7_1 := (blk_cell B7.out 1).trans (show _ = some (Value.int .i64 15) from rfl)));(try (have hcB10_0 := (blk_cell B10.out 0).trans (show _ = some (Value.int .i64 0) from rfl);have hcB10_1 := (blk_cell B10.out 1).trans (show _ = some (Value.int .i64 0) from rfl)));(try (have hcB12_0 := (blk_cell B12.out 0).trans (show _ = some (Value.int .i64 27) from rfl);have hcB12_1 := (blk_cell B12.out 1).trans (show _ = some (Value.int .i64 56) from rfl)));clear hb) | (go_at_call 47;have n_ := Rw;clear n_;refine (q4_SameChanges.calls 100 Aw cw ([⟨2,9⟩,⟨2,10⟩] : List S58) _ 2 ([⟨2,9⟩,⟨2,10⟩] : List S58) true _ (Kd.C_alloc Rw.out _) LRw.out (C_of_block (k := k58) (xs := ([⟨2,9⟩,⟨2,10⟩] : List S58)) (inner := [.int .i64 2,.int .i64 9,.int .i64 2,.int .i64 10]) (blk_new _ _) (Reps.c2 (k58_mk _ (⟨2,9⟩ : S58)) (Reps.c2 (k58_mk _ (⟨2,10⟩ : S58)) (Reps.none _ _))) (by decide)) (by decide) sm5).mono ?_;clear LRw Rw;rintro e w2 ⟨rfl,hd⟩;have hb := hd.below;clear hd;have hb2_ := below_then (below_alloc (Below.refl _ _) (.cells #[.int .i64 2,.int .i64 9,.int .i64 2,.int .i64 10] 58)) (below_alloc (Below.refl _ _) (.cells #[.int .i64 2,.int .i64 9,.int .i64 2,.int .i64 10] 58)).size hb;clear hb;have hb := hb2_;clear hb2_;replace HB := (bmv HB hb);(try (replace Ra := (cmv Ra hb)));(try (replace Rb := (cmv Rb hb)));(try (replace Rd := (cmv Rd hb)));(try (replace Rq := (cmv Rq hb)));(try (replace Rm := (cmv Rm hb)));(try (replace Rw := (cmv Rw hb)));(try (replace Rx := (cmv Rx hb)));(try (replace Ry := (cmv Ry hb)));(try (replace Ru0 := (cmv Ru0 hb)));(try (replace Ru2 := (cmv Ru2 hb)));(try (replace B7 := (kmv hb B7)));(try (replace B10 := (kmv hb B10)));(try (replace B12 := (kmv hb B12)));(try (replace B27 := (kmv hb B27)));(try (have hcB7_0 := (blk_cell B7.out 0).trans (show _ = some (Value.int .i64 13) from rfl);have hcB7_1 := (blk_cell B7.out 1).trans (show _ = some (Value.int .i64 15) from rfl)));(try (have hcB10_0 := (blk_cell B10.out 0).trans (show _ = some (Value.int .i64 0) from rfl);have hcB10_1 := (blk_cell B10.out 1).trans (show _ = some (Value.int .i64 0) from rfl)));(try (have hcB12_0 := (blk_cell B12.out 0).trans (show _ = some (Value.int .i64 27) from rfl);have hcB12_1 := (blk_cell B12.out 1).trans (show _ = some (Value.int .i64 56) from rfl)));clear hb) | (go_at_call 55;have n_ := Rx;clear n_;refine (q4_SameLists.calls 100 Ax cx [[8,13,9],[7,2]] _ 2 [[8,13,9],[7,2]] true _ (Kd.C_alloc (Kd.C_alloc (Kd.C_alloc Rx.out _) _) _) LRx.out (lists2_of_block (x1 := [8,13,9]) (x2 := [7,2]) (blk_new2 _ _ _ _) (Kd.C_alloc (Kd.C_alloc (ints_of_block (xs := [8,13,9]) (blk_new _ _) (by decide)) _) _) (by decide) (Kd.C_alloc (ints_of_block (xs := [7,2]) (blk_new1 _ _ _) (by decide)) _) (by decide)) (by decide) sm6).mono ?_;rintro e w2 ⟨rfl,hd⟩;have hb := hd.below;clear hd;have hb2_ := below_then (below_alloc (below_alloc (below_alloc (Below.refl _ _) _) _) _) (below_alloc (below_alloc (below_alloc (Below.refl _ _) _) _) _).size hb;clear hb;have hb := hb2_;clear hb2_;replace HB := (bmv HB hb);(try (replace Ra := (cmv Ra hb)));(try (replace Rb := (cmv Rb hb)));(try (replace Rd := (cmv Rd hb)));(try (replace Rq := (cmv Rq hb)));(try (replace Rm := (cmv Rm hb)));(try (replace Rw := (cmv Rw hb)));(try (replace Rx := (cmv Rx hb)));(try (replace Ry := (cmv Ry hb)));(try (replace Ru0 := (cmv Ru0 hb)));(try (replace Ru2 := (cmv Ru2 hb)));(try (replace B7 := (kmv hb B7)));(try (replace B10 := (kmv hb B10)));(try (replace B12 := (kmv hb B12)));(try (replace B27 := (kmv hb B27)));(try (have hcB7_0 := (blk_cell B7.out 0).trans (show _ = some (Value.int .i64 13) from rfl);have hcB7_1 := (blk_cell B7.out 1).trans (show _ = some (Value.int .i64 15) from rfl)));(try (have hcB10_0 := (blk_cell B10.out 0).trans (show _ = some (Value.int .i64 0) from rfl);have hcB10_1 := (blk_cell B10.out 1).trans (show _ = some (Value.int .i64 0) from rfl)));(try (have hcB12_0 := (blk_cell B12.out 0).trans (show _ = some (Value.int .i64 27) from rfl);have hcB12_1 := (blk_cell B12.out 1).trans (show _ = some (Value.int .i64 56) from rfl)));clear hb))
 clear HG hcB7_0 hcB7_1 hcB10_0 hcB10_1 hcB12_0 hcB12_1 B7 B10 B12 Rx LRx RA LRA RB LRB RC LRC RD LRD RT LRT
 refine start_ (n := 7) (S := fun W => W.cell? ⟨wR.heap.size,0,none⟩ = some (.slice Au0 tRows.length cu0) ∧ W.cell? ⟨wR.heap.size,1,none⟩ = some (.int .i64 50) ∧ W.cell? ⟨wR.heap.size,2,none⟩ = some (.slice Au2 1 cu2) ∧ W.cell? ⟨wR.heap.size,3,none⟩ = some (.int .i64 8) ∧ W.cell? ⟨wR.heap.size,4,none⟩ = some (.int .i64 1)) (ds := []) (ba 7 0) (by kernel_rfl) rfl rfl ⟨(blk_cell (blk_drew B27.out) 0).trans rfl,(blk_cell (blk_drew B27.out) 1).trans rfl,(blk_cell (blk_drew B27.out) 2).trans rfl,(blk_cell (blk_drew B27.out) 3).trans rfl,(blk_cell (blk_drew B27.out) 4).trans rfl⟩ (fun hHeld => ?_)
 replace B27 := am (blk_drew B27.out)
 replace HB := am (below_drew1 HB.out)
 replace Ru0 := am (kC Ru0.out (below_drew (Below.refl _ _)))
 replace Ru2 := am (kC Ru2.out (below_drew (Below.refl _ _)))
 generalize w2.drew = wd at B27 HB Ru0 Ru2 hHeld ⊢
 refine pure_ (i := 2) (N := some 225) (v := ?_) (a' := ?_) (ba 7 4) rfl rfl (by kernel_rfl) (fun _ _ _ h => h) (Or.inl ⟨by rfl,?_⟩) ?_ ?_
 rotate_left
 · intro w'
   go_simp
   with_reducible rfl
 rotate_left
 · simp only [Act.put,NRM]
   rfl
 refine take_ (i := 0) (N := some 223) (v := ?_) (a' := ?_) (ba 7 5) rfl rfl (by kernel_rfl) (fun _ _ _ h => h) (Or.inl ⟨by rfl,?_⟩) hHeld ?_ ?_
 rotate_left
 · rintro w' ⟨s0,s1,s2,s3,s4⟩
   go_simp
   with_reducible rfl
 rotate_left
 · simp only [Act.put,NRM]
   rfl
 refine two_ (i := 1) (j := 3) (Ni := some 224) (Nj := some 226) (ba 7 7) (ba 7 13) rfl rfl rfl rfl (by kernel_rfl) (by decide) (by decide) (fun K hK => ?_) (fun K hK => ?_)
 · refine goes_ Tryz.func54 (by kernel_rfl) rfl #[] (by rfl) rfl rfl (by (try simp only [List.map_toArray,List.map_cons,List.map_nil]);first | done | rfl) ?_
   refine (l4_T.calls _ _ _ kn_T).mono ?_
   rintro e wT ⟨vT,rfl,hra,hb⟩
   replace B27 := (kmv hb B27)
   replace HB := (bmv HB hb)
   replace Ru0 := (cmv Ru0 hb)
   replace Ru2 := (cmv Ru2 hb)
   obtain ⟨AT2,cT2,rfl,hl_,hc_⟩ := Kd.R_reads hra
   have RT2 := am hc_
   have LRT2 := am hl_
   clear hl_ hc_ hra
   clear hb
   refine ⟨_,rfl,?_⟩
   refine hK.out _ _ ⟨(blk_cell B27.out 0).trans rfl,(blk_cell B27.out 1).trans rfl,(blk_cell B27.out 2).trans rfl,(blk_cell B27.out 3).trans rfl,(blk_cell B27.out 4).trans rfl⟩ (fun hHeld => ?_)
   clear hK K
   refine norm_ (a' := ?_) ?_ ?_
   rotate_left
   · show Act.put _ (some 224) _ = _
     simp only [Act.put,NRM]
     rfl
   refine one_ (i := 3) (N := some 226) (ba 7 15) rfl rfl (by kernel_rfl) (by decide) (fun K hK => ?_)
   refine slice_step (cs := #[.int .i64 0,.int .i64 5]) (t := 64) (n := 1) (by rfl) rfl ?_ ?_
   · first | (go_simp;done) | (go_simp;rfl)
   intro g wS hBs hb
   have Bs := am hBs
   replace B27 := (kmv hb B27)
   replace HB := (bmv HB hb)
   replace Ru0 := (cmv Ru0 hb)
   replace Ru2 := (cmv Ru2 hb)
   replace RT2 := (cmv RT2 hb)
   clear hb hBs
   refine hK.out _ _ ⟨(blk_cell B27.out 0).trans rfl,(blk_cell B27.out 1).trans rfl,(blk_cell B27.out 2).trans rfl,(blk_cell B27.out 3).trans rfl,(blk_cell B27.out 4).trans rfl⟩ (fun hHeld => ?_)
   clear hK K
   refine norm_ (a' := ?_) ?_ ?_
   rotate_left
   · show Act.put _ (some 226) _ = _
     simp only [Act.put,NRM]
     rfl
   refine pure_ (i := 4) (N := some 227) (v := ?_) (a' := ?_) (ba 7 31) rfl rfl (by kernel_rfl) (fun _ _ _ h => h) (Or.inl ⟨by rfl,?_⟩) ?_ ?_
   rotate_left
   · intro w'
     go_simp
     with_reducible rfl
   rotate_left
   · simp only [Act.put,NRM]
     rfl
   refine one_ (i := 5) (N := some 228) (ba 7 63) rfl rfl (by kernel_rfl) (by decide) (fun K hK => ?_)
   refine goes_ Tryz.func56 (by kernel_rfl) rfl #[.agg #[.slice Au0 tRows.length cu0,.int .i64 50,.slice Au2 1 cu2,.int .i64 8,.int .i64 1],.agg #[.slice AT2 tRows.length cT2,.int .i64 50,.slice (some ⟨g,0,none⟩) 1 1,.int .i64 8,.int .i64 1]] (by rfl) rfl rfl (by (try simp only [List.map_toArray,List.map_cons,List.map_nil]);first | done | rfl) ?_
   refine (q4_SameBasins.calls 100 Au0 cu0 tRows 50 Au2 cu2 [⟨0,5⟩] 8 1 AT2 cT2 tRows 50 (some ⟨g,0,none⟩) 1 [⟨0,5⟩] 8 1 true _ Ru0.out LRu0.out Ru2.out LRu2.out RT2.out LRT2.out (C_of_block (k := k64) (xs := ([⟨0,5⟩] : List S64)) (inner := [.int .i64 0,.int .i64 5]) Bs.out (Reps.c2 (k64_mk _ (⟨0,5⟩ : S64)) (Reps.none _ _)) (by decide)) (by decide) smB).mono ?_
   rintro e wE ⟨rfl,hb⟩
   replace B27 := (kmv hb B27)
   replace HB := (bmv HB hb)
   clear hb
   refine ⟨_,rfl,?_⟩
   refine hK.out _ _ ⟨(blk_cell B27.out 0).trans rfl,(blk_cell B27.out 1).trans rfl,(blk_cell B27.out 2).trans rfl,(blk_cell B27.out 3).trans rfl,(blk_cell B27.out 4).trans rfl⟩ (fun hHeld => ?_)
   clear hK K
   refine norm_ (a' := ?_) ?_ ?_
   rotate_left
   · show Act.put _ (some 228) _ = _
     simp only [Act.put,NRM]
     rfl
   refine pure_ (i := 6) (N := some 0) (v := ?_) (a' := ?_) (ba 7 127) rfl rfl (by kernel_rfl) (fun _ _ _ h => h) (Or.inl ⟨by rfl,?_⟩) ?_ ?_
   rotate_left
   · intro w'
     go_simp
     with_reducible rfl
   rotate_left
   · simp only [Act.put,NRM]
     rfl
   refine done_ (by kernel_rfl) ?_
   go_wp2
   go_ret
   exact ⟨rfl,HB.out⟩
 · refine slice_step (cs := #[.int .i64 0,.int .i64 5]) (t := 64) (n := 1) (by rfl) rfl ?_ ?_
   · first | (go_simp;done) | (go_simp;rfl)
   intro g wS hBs hb
   have Bs := am hBs
   replace B27 := (kmv hb B27)
   replace HB := (bmv HB hb)
   replace Ru0 := (cmv Ru0 hb)
   replace Ru2 := (cmv Ru2 hb)
   clear hb hBs
   refine hK.out _ _ ⟨(blk_cell B27.out 0).trans rfl,(blk_cell B27.out 1).trans rfl,(blk_cell B27.out 2).trans rfl,(blk_cell B27.out 3).trans rfl,(blk_cell B27.out 4).trans rfl⟩ (fun hHeld => ?_)
   clear hK K
   refine norm_ (a' := ?_) ?_ ?_
   rotate_left
   · show Act.put _ (some 226) _ = _
     simp only [Act.put,NRM]
     rfl
   refine one_ (i := 1) (N := some 224) (ba 7 15) rfl rfl (by kernel_rfl) (by decide) (fun K hK => ?_)
   refine goes_ Tryz.func54 (by kernel_rfl) rfl #[] (by rfl) rfl rfl (by (try simp only [List.map_toArray,List.map_cons,List.map_nil]);first | done | rfl) ?_
   refine (l4_T.calls _ _ _ kn_T).mono ?_
   rintro e wT ⟨vT,rfl,hra,hb⟩
   replace B27 := (kmv hb B27)
   replace HB := (bmv HB hb)
   replace Ru0 := (cmv Ru0 hb)
   replace Ru2 := (cmv Ru2 hb)
   replace Bs := (kmv hb Bs)
   obtain ⟨AT2,cT2,rfl,hl_,hc_⟩ := Kd.R_reads hra
   have RT2 := am hc_
   have LRT2 := am hl_
   clear hl_ hc_ hra
   clear hb
   refine ⟨_,rfl,?_⟩
   refine hK.out _ _ ⟨(blk_cell B27.out 0).trans rfl,(blk_cell B27.out 1).trans rfl,(blk_cell B27.out 2).trans rfl,(blk_cell B27.out 3).trans rfl,(blk_cell B27.out 4).trans rfl⟩ (fun hHeld => ?_)
   clear hK K
   refine norm_ (a' := ?_) ?_ ?_
   rotate_left
   · show Act.put _ (some 224) _ = _
     simp only [Act.put,NRM]
     rfl
   refine pure_ (i := 4) (N := some 227) (v := ?_) (a' := ?_) (ba 7 31) rfl rfl (by kernel_rfl) (fun _ _ _ h => h) (Or.inl ⟨by rfl,?_⟩) ?_ ?_
   rotate_left
   · intro w'
     go_simp
     with_reducible rfl
   rotate_left
   · simp only [Act.put,NRM]
     rfl
   refine one_ (i := 5) (N := some 228) (ba 7 63) rfl rfl (by kernel_rfl) (by decide) (fun K hK => ?_)
   refine goes_ Tryz.func56 (by kernel_rfl) rfl #[.agg #[.slice Au0 tRows.length cu0,.int .i64 50,.slice Au2 1 cu2,.int .i64 8,.int .i64 1],.agg #[.slice AT2 tRows.length cT2,.int .i64 50,.slice (some ⟨g,0,none⟩) 1 1,.int .i64 8,.int .i64 1]] (by rfl) rfl rfl (by (try simp only [List.map_toArray,List.map_cons,List.map_nil]);first | done | rfl) ?_
   refine (q4_SameBasins.calls 100 Au0 cu0 tRows 50 Au2 cu2 [⟨0,5⟩] 8 1 AT2 cT2 tRows 50 (some ⟨g,0,none⟩) 1 [⟨0,5⟩] 8 1 true _ Ru0.out LRu0.out Ru2.out LRu2.out RT2.out LRT2.out (C_of_block (k := k64) (xs := ([⟨0,5⟩] : List S64)) (inner := [.int .i64 0,.int .i64 5]) Bs.out (Reps.c2 (k64_mk _ (⟨0,5⟩ : S64)) (Reps.none _ _)) (by decide)) (by decide) smB).mono ?_
   rintro e wE ⟨rfl,hb⟩
   replace B27 := (kmv hb B27)
   replace HB := (bmv HB hb)
   clear hb
   refine ⟨_,rfl,?_⟩
   refine hK.out _ _ ⟨(blk_cell B27.out 0).trans rfl,(blk_cell B27.out 1).trans rfl,(blk_cell B27.out 2).trans rfl,(blk_cell B27.out 3).trans rfl,(blk_cell B27.out 4).trans rfl⟩ (fun hHeld => ?_)
   clear hK K
   refine norm_ (a' := ?_) ?_ ?_
   rotate_left
   · show Act.put _ (some 228) _ = _
     simp only [Act.put,NRM]
     rfl
   refine pure_ (i := 6) (N := some 0) (v := ?_) (a' := ?_) (ba 7 127) rfl rfl (by kernel_rfl) (fun _ _ _ h => h) (Or.inl ⟨by rfl,?_⟩) ?_ ?_
   rotate_left
   · intro w'
     go_simp
     with_reducible rfl
   rotate_left
   · simp only [Act.put,NRM]
     rfl
   refine done_ (by kernel_rfl) ?_
   go_wp2
   go_ret
   exact ⟨rfl,HB.out⟩
def l4_known.f : Option Bool := some true
theorem l4_known.calls (r : Bool) (w : World) (hg : GV w) (h : l4_known.f = some r) : Calls Tryz.prog 15 #[] w fun e w' => e = .returned (.bool r) ∧ Below w.heap.size w w' := by
 obtain rfl := Option.some.inj h
 exact known_walk w hg
end
end Go.Proofs.YticlelgmmonloaaGreatDoor.C

/- A part of the proof: the walks of the functions that it reaches. TIGHT. -/
import Derived.Test.YticlelgmmonloaaGreatDoorM22
set_option linter.unusedVariables false
set_option linter.unusedSimpArgs false
namespace Go.Proofs.YticlelgmmonloaaGreatDoor.C
open Go.RowKit Go.Proofs.YticlelgmmonloaaGreatDoorW.PrintWords Go.Proofs.YticlelgmmonloaaGreatDoorW.PrintLast Go.Proofs.YticlelgmmonloaaGreatDoorW.PrintMore
set_option linter.unusedVariables false
set_option linter.unusedSimpArgs false
set_option maxHeartbeats 16000000
set_option maxRecDepth 100000
theorem short_eq {rows : List S126} {draw : Int} {noz : List S64} {weir spill : Int} : l4_short.f rows draw noz weir spill = some (decide (rows.length ≤ 15 ∧ noz.length ≤ 8)) := by
 unfold l4_short.f
 by_cases h : (rows.length : Int) ≤ 15
 · rw [if_pos h,show decide (rows.length ≤ 15 ∧ noz.length ≤ 8) = decide ((noz.length : Int) ≤ 8) from by rw [decide_eq_decide];omega]
 · rw [if_neg h,decide_eq_false (by omega)]
section
variable {rows : List S126} {draw : Int} {noz : List S64} {weir spill : Int}
end
section
variable {rows : List S126} {draw : Int} {noz : List S64} {weir spill : Int}
end
theorem rsh_go {ov : Int} (ho0 : 0 ≤ ov) (ho1 : ov ≤ 10000) : ∀ (l n P Q : List Int) (r : Int) (k : Nat),pairOk l n → P.length = Q.length → P.length + l.length ≤ 100 → 0 ≤ r → r ≤ 10000 → l.length < k →
 q4_Shares.l0 k (P ++ l) ov r (Q ++ n) P.length = some (P ++ (shGo l n r).1,ov + (shGo l n r).2)
 | [],[],P,Q,r,k,_,hPQ,hl,hr0,hr1,hk => by
  obtain ⟨k,rfl⟩ := ksucc (by omega : 0 < k)
  simp only [q4_Shares.l0,shGo,List.append_nil]
  rw [if_neg (by omega),w64 (by omega)]
 | x :: l,y :: n,P,Q,r,k,h,hPQ,hl,hr0,hr1,hk => by
  obtain ⟨k,rfl⟩ := ksucc (by omega : 0 < k)
  simp only [List.length_cons] at hl hk
  have hx := h.1
  have m := mn_in (r := r) (d := y - x) hr0 (by omega)
  simp only [q4_Shares.l0]
  have e : rd (Q ++ y :: n) (P.length : Int) = y := by rw [hPQ];exact rd_app Q y n
  rw [if_pos (by rw [List.length_append,List.length_cons];omega),if_pos (by omega),if_pos (by rw [List.length_append,List.length_cons];omega),rd_app,e,w64 (n := y - x) (by omega),w64 (n := x + _) (by omega),w64 (n := r - _) (by omega),w64 (n := (P.length : Int) + 1) (by omega),set_app]
  have ih := rsh_go ho0 ho1 l n (P ++ [x + mn r (y - x)]) (Q ++ [y]) (r - mn r (y - x)) k h.2 (by simp [hPQ]) (by simp;omega) (by omega) (by omega) (by omega)
  have e2 : Q ++ y :: n = Q ++ [y] ++ n := by simp
  rw [e2,show (P.length : Int) + 1 = ((P ++ [x + mn r (y - x)]).length : Int) by simp,ih]
  simp [shGo]
 | [],_ :: _,_,_,_,_,h,_,_,_,_,_ => h.elim
 | _ :: _,[],_,_,_,_,h,_,_,_,_,_ => h.elim
section
variable {rows : List S126} {draw : Int} {noz : List S64} {weir spill : Int}
theorem rShares_eq (h : OkB rows draw noz weir spill) {cups : Int} (hc0 : 0 ≤ cups) (hc1 : cups ≤ 10000) {k : Nat} (hk : 60 ≤ k) :
 q4_Shares.f k rows draw noz weir spill cups = some (shareL rows noz weir spill cups,cups - (shareL rows noz weir spill cups).sum) := by
 have L := lev_is h hc0
 have n2 := h.n2
 have t0 := tot_in h L.1 L.2.1
 have o0 := over_in h L.1 L.2.1
 have g0 := gsum_in h (lev rows noz weir spill cups)
 have te : tot rows noz weir spill (lev rows noz weir spill cups) = (gat rows noz (lev rows noz weir spill cups)).sum + over weir spill (lev rows noz weir spill cups) := rfl
 unfold q4_Shares.f
 rw [stands_eq h hc0 (by omega),Option.bind_some,rout_eq h L.1 L.2.1 (by omega),Option.bind_some,rtot_eq h L.1 L.2.1 (by omega),Option.bind_some,w64 (n := cups - _) (by omega)]
 unfold shareL
 by_cases g : lev rows noz weir spill cups < 40
 · rw [if_pos g,if_pos g,w64 (n := _ + 1) (by have := L.1;omega),rout_eq h (by have := L.1;omega) (by omega) (by omega),Option.bind_some]
   have hp := gat_pairs h (show lev rows noz weir spill cups ≤ lev rows noz weir spill cups + 1 by omega)
   have hr : 0 ≤ cups - tot rows noz weir spill (lev rows noz weir spill cups) := by have := L.2.2.1;omega
   have f := rsh_go o0.1 (by omega) (gat rows noz (lev rows noz weir spill cups)) (gat rows noz (lev rows noz weir spill cups + 1)) [] [] (cups - tot rows noz weir spill (lev rows noz weir spill cups)) k hp rfl (by simp [gat_len];omega) hr (by omega) (by simp [gat_len];omega)
   have s := (shGo_in hp hr).2.2.2.2
   simp only [List.nil_append,List.length_nil,Int.natCast_zero] at f
   rw [f]
   congr 2
   omega
 · rw [if_neg g,if_neg g]
   congr 2
   rw [w64 (by omega)]
   omega
end
theorem same_go (xs ys : List Int) (hl : xs.length = ys.length) (hb : xs.length ≤ 1000) : ∀ (d k : Nat) (i : Int),0 ≤ i → i + d = xs.length → d < k →
 q1_Same.l0 k xs ys i = some (decide (xs.drop i.toNat = ys.drop i.toNat))
 | 0,k,i,h0,h1,hk => by
  obtain ⟨k,rfl⟩ := ksucc (by omega : 0 < k)
  simp only [q1_Same.l0]
  rw [if_neg (by omega),List.drop_of_length_le (by omega),List.drop_of_length_le (by omega),decide_eq_true rfl]
 | d + 1,k,i,h0,h1,hk => by
  obtain ⟨k,rfl⟩ := ksucc (by omega : 0 < k)
  simp only [q1_Same.l0]
  rw [if_pos (by omega),if_pos h0,if_pos (by omega),w64 (n := i + 1) (by omega)]
  have hi : i.toNat < xs.length := by omega
  have hj : i.toNat < ys.length := by omega
  have e1 : xs.drop i.toNat = rd xs i :: xs.drop (i.toNat + 1) := by rw [List.drop_eq_getElem_cons hi];simp [rd,hi]
  have e2 : ys.drop i.toNat = rd ys i :: ys.drop (i.toNat + 1) := by rw [List.drop_eq_getElem_cons hj];simp [rd,hj]
  rw [e1,e2]
  by_cases c : rd xs i = rd ys i
  · rw [if_pos c,same_go xs ys hl hb d k (i + 1) (by omega) (by omega) (by omega),show (i + 1).toNat = i.toNat + 1 by omega]
    simp [c]
  · rw [if_neg c]
    simp [c]
theorem same_eq {xs ys : List Int} (hb : xs.length ≤ 1000) {k : Nat} (hk : xs.length < k) : q4_Same.f k xs ys = some (decide (xs = ys)) := by
 unfold q4_Same.f q1_Same.f
 by_cases hl : xs.length = ys.length
 · rw [if_pos (by omega),same_go xs ys hl hb xs.length k 0 (by omega) (by omega) hk]
   simp
 · rw [if_neg (by omega),decide_eq_false (fun e => hl (by rw [e]))]
   rfl
def absI (x : Int) : Int := max x (-x)
def alBy (F : Int → List (List Int)) (ht left : Int) : Nat → List (List Int)
 | 0 => []
 | d + 1 => (if (0 ≤ ht + (2 - (d : Int)) ∧ ht + (2 - (d : Int)) ≤ 40) ∧ absI (2 - (d : Int)) ≤ left then (F (left - absI (2 - (d : Int)))).map ((ht + (2 - (d : Int))) :: ·) else []) ++ alBy F ht left d
def alL : List Int → Int → List (List Int)
 | [],left => if 0 < left then [] else [[]]
 | ht :: rest,left => alBy (alL rest) ht left 5
theorem hs_by {F : List Int → Int → List (List Int)} {G : Int → List (List Int)} (pre : List Int) (ht left : Int) (hF : ∀ p l,0 ≤ l → F p l = (G l).map (p ++ ·)) : ∀ d,hsBy F pre ht left d = (alBy G ht left d).map (pre ++ ·)
 | 0 => rfl
 | d + 1 => by
  simp only [hsBy,alBy,List.map_append,hs_by pre ht left hF d]
  congr 1
  rw [c_height]
  by_cases a : 0 ≤ ht + (2 - (d : Int)) ∧ ht + (2 - (d : Int)) ≤ 40
  · rw [decide_eq_true a,if_pos rfl]
    by_cases b : absI (2 - (d : Int)) ≤ left
    · have ab : (0 ≤ ht + (2 - (d : Int)) ∧ ht + (2 - (d : Int)) ≤ 40) ∧ absI (2 - (d : Int)) ≤ left := ⟨a,b⟩
      rw [if_pos ab]
      unfold absI at b ⊢
      rw [if_pos b,hF _ _ (by omega)]
      simp [List.append_assoc,Function.comp_def]
    · have nab : ¬ ((0 ≤ ht + (2 - (d : Int)) ∧ ht + (2 - (d : Int)) ≤ 40) ∧ absI (2 - (d : Int)) ≤ left) := fun h => b h.2
      rw [if_neg nab]
      unfold absI at b
      rw [if_neg b];rfl
  · have na : ¬ ((0 ≤ ht + (2 - (d : Int)) ∧ ht + (2 - (d : Int)) ≤ 40) ∧ absI (2 - (d : Int)) ≤ left) := fun h => a h.1
    rw [decide_eq_false a,if_neg (by decide),if_neg na];rfl
theorem hs_eq : ∀ (hts pre : List Int) (left : Int),0 ≤ left → hsOf hts pre left = (alL hts left).map (pre ++ ·)
 | [],pre,left,h => by
  simp only [hsOf,alL]
  split <;> simp
 | ht :: rest,pre,left,h => by
  simp only [hsOf,alL]
  exact hs_by pre ht left (fun p l hl => hs_eq rest p l hl) 5
theorem hs_eq0 (hts : List Int) {left : Int} (h : 0 ≤ left) : hsOf hts [] left = alL hts left := by
 rw [hs_eq hts [] left h];simp
theorem alBy_len {F : Int → List (List Int)} {B : Nat} (hF : ∀ l,(F l).length ≤ B) (ht left : Int) : ∀ d,(alBy F ht left d).length ≤ d * B
 | 0 => by simp [alBy]
 | d + 1 => by
  have := alBy_len hF ht left d
  simp only [alBy,List.length_append]
  have h2 := hF (left - absI (2 - (d : Int)))
  rw [Nat.succ_mul]
  split <;> simp <;> omega
theorem alL_len : ∀ (hts : List Int) (left : Int),(alL hts left).length ≤ 5 ^ hts.length
 | [],left => by simp only [alL];split <;> simp
 | ht :: rest,left => by
  have := alBy_len (fun l => alL_len rest l) ht left 5
  simp only [alL,List.length_cons,Nat.pow_succ]
  omega
def chg : List Int → List Int → Int
 | x :: l,y :: m => absI (x - y) + chg l m
 | _,_ => 0
theorem alBy_mem {F : Int → List (List Int)} {ht left : Int} {l : List Int} : ∀ d : Nat,l ∈ alBy F ht left d ↔ ∃ e : Nat,e < d ∧ (0 ≤ ht + (2 - (e : Int)) ∧ ht + (2 - (e : Int)) ≤ 40) ∧ absI (2 - (e : Int)) ≤ left ∧ ∃ m ∈ F (left - absI (2 - (e : Int))),l = (ht + (2 - (e : Int))) :: m
 | 0 => by simp [alBy]
 | d + 1 => by
  simp only [alBy,List.mem_append,alBy_mem d]
  constructor
  · rintro (h | ⟨e,he,h⟩)
    · split at h
      · rename_i c
        obtain ⟨m,hm,rfl⟩ := List.mem_map.1 h
        exact ⟨d,by omega,c.1,c.2,m,hm,rfl⟩
      · cases h
    · exact ⟨e,by omega,h⟩
  · rintro ⟨e,he,h1,h2,m,hm,rfl⟩
    by_cases c : e = d
    · subst c
      left
      rw [if_pos ⟨h1,h2⟩]
      exact List.mem_map.2 ⟨m,hm,rfl⟩
    · exact .inr ⟨e,by omega,h1,h2,m,hm,rfl⟩
def okH : List Int → List Int → Prop
 | x :: l,y :: m => (0 ≤ x ∧ x ≤ 40) ∧ absI (x - y) ≤ 2 ∧ okH l m
 | [],[] => True
 | _,_ => False
theorem alL_mem : ∀ {hts : List Int} {left : Int} {l : List Int},0 ≤ left → (l ∈ alL hts left ↔ okH l hts ∧ chg l hts = left)
 | [],left,l,h => by
  simp only [alL]
  split
  · constructor
    · intro h;cases h
    · rintro ⟨h1,h2⟩
      cases l with
      | nil => simp only [chg] at h2;omega
      | cons _ _ => exact h1.elim
  · have : left = 0 := by omega
    subst this
    cases l with
    | nil => simp [okH,chg]
    | cons _ _ => simp [okH]
 | y :: hts,left,l,h => by
  simp only [alL,alBy_mem]
  constructor
  · rintro ⟨e,he,h1,h2,m,hm,rfl⟩
    have ih := (alL_mem (hts := hts) (by omega)).1 hm
    have ea : y + (2 - (e : Int)) - y = 2 - (e : Int) := by omega
    refine ⟨⟨h1,?_,ih.1⟩,?_⟩
    · rw [ea];unfold absI;omega
    · simp only [chg,ea,ih.2];omega
  · rintro ⟨h1,h2⟩
    cases l with
    | nil => exact h1.elim
    | cons x l =>
     obtain ⟨a,b,c⟩ := h1
     simp only [chg] at h2
     have cn : 0 ≤ chg l hts := by
      clear h2 c
      induction l generalizing hts with
      | nil => cases hts <;> simp [chg]
      | cons u l ih => cases hts with
       | nil => simp [chg]
       | cons v hts => have := ih (hts := hts);simp only [chg];unfold absI;omega
     have ex : (2 : Int) - ((2 - (x - y)).toNat : Int) = x - y := by unfold absI at b;omega
     refine ⟨(2 - (x - y)).toNat,by unfold absI at b;omega,?_,?_,l,?_,?_⟩
     · rw [ex];omega
     · rw [ex];omega
     · rw [ex];exact (alL_mem (by omega)).2 ⟨c,by omega⟩
     · rw [ex];congr 1;omega
theorem okH_len : ∀ {l m : List Int},okH l m → l.length = m.length
 | [],[],_ => rfl
 | x :: l,y :: m,h => by simp [okH_len h.2.2]
 | [],_ :: _,h => h.elim
 | _ :: _,[],h => h.elim
theorem okH_in : ∀ {l m : List Int},okH l m → ∀ z ∈ l,0 ≤ z ∧ z ≤ 40
 | [],[],_,z,hz => by cases hz
 | x :: l,y :: m,h,z,hz => by
  rcases List.mem_cons.1 hz with rfl | hz
  · exact h.1
  · exact okH_in h.2.2 z hz
 | [],_ :: _,h,_,_ => h.elim
 | _ :: _,[],h,_,_ => h.elim
theorem far_eq {a b : Int} (ha : -10000 ≤ a ∧ a ≤ 10000) (hb : -10000 ≤ b ∧ b ≤ 10000) : q4_far.f a b = some (absI (a - b)) := by
 unfold q4_far.f mx absI
 rw [w64 (by omega),w64 (by omega)]
 congr 1
 split <;> omega
section
variable {rows : List S126} {draw : Int} {noz : List S64} {weir spill : Int}
theorem ra_l1 {x1 x2 x8 x9 : Int} {T out : List (List Int)} {r : Option (List (List Int))} {N0 : Nat} (h8 : -10 ≤ x8 ∧ x8 ≤ 10) (hT : ∀ t ∈ T,t.length ≤ 1000) (ho : out.length + T.length ≤ 100000)
 (hr : ∀ k,N0 ≤ k → q4_all.l0 k x1 x2 (out ++ T.map (x9 :: ·)) (x8 + 1) rows draw noz weir spill = r) :
 ∀ (c k : Nat) (j : Int),0 ≤ j → j + c = T.length → N0 + c < k → q4_all.l1 k x1 x2 (out ++ (T.take j.toNat).map (x9 :: ·)) x8 x9 T j rows draw noz weir spill = r
 | 0,k,j,h0,h1,hk => by
  obtain ⟨k,rfl⟩ := ksucc (by omega : 0 < k)
  simp only [q4_all.l1]
  rw [if_neg (by omega),w64 (n := x8 + 1) (by omega),List.take_of_length_le (by omega)]
  exact hr k (by omega)
 | c + 1,k,j,h0,h1,hk => by
  obtain ⟨k,rfl⟩ := ksucc (by omega : 0 < k)
  simp only [q4_all.l1]
  have hj : j.toNat < T.length := by omega
  have e : rd_L3 T j = T[j.toNat] := by simp [rd_L3,hj]
  have hl := hT _ (List.getElem_mem hj)
  have ih := ra_l1 h8 hT ho hr c k (j + 1) (by omega) (by omega) (by omega)
  rw [if_pos (by omega),Option.bind_some,if_pos h0,e,if_pos (by simp;omega),if_pos (by simp;omega),w64 (n := j + 1) (by omega),← ih,show (j + 1).toNat = j.toNat + 1 by omega,List.take_succ_eq_append_getElem hj]
  simp only [List.map_append,List.map_cons,List.map_nil,List.append_assoc,List.cons_append,List.nil_append]
theorem ra_l0 {i left : Int} {rest : List Int} (i0 : 0 ≤ i) (i1 : i < noz.length) (hn : noz.length ≤ 1000) (hz : 0 ≤ (rd_T64 noz i).f1 ∧ (rd_T64 noz i).f1 ≤ 40) (l0 : 0 ≤ left) (l1 : left ≤ 1000) (hrl : rest.length ≤ 4) {N1 : Nat}
 (ih : ∀ left,0 ≤ left → left ≤ 1000 → ∀ k,N1 ≤ k → q4_all.f k rows draw noz weir spill (i + 1) left = some (alL rest left)) :
 ∀ (d k : Nat) (out : List (List Int)) (x8 : Int),d ≤ 5 → x8 = 3 - (d : Int) → out.length + d * 5 ^ rest.length ≤ 10000 → N1 + d * (4 + 5 ^ rest.length) + 3 ≤ k →
  q4_all.l0 k i left out x8 rows draw noz weir spill = some (out ++ alBy (alL rest) (rd_T64 noz i).f1 left d)
 | 0,k,out,x8,hd,hx,ho,hk => by
  obtain ⟨k,rfl⟩ := ksucc (by omega : 0 < k)
  simp only [q4_all.l0]
  rw [if_neg (by omega)]
  simp [alBy]
 | d + 1,k,out,x8,hd,hx,ho,hk => by
  obtain rfl : x8 = 2 - (d : Int) := by omega
  have p5 : 5 ^ rest.length ≤ 5 ^ 4 := Nat.pow_le_pow_right (by decide) hrl
  have p1 : 1 ≤ 5 ^ rest.length := Nat.one_le_pow _ _ (by decide)
  rw [Nat.succ_mul] at ho hk
  obtain ⟨k,rfl⟩ : ∃ m,k = m + 1 + 1 := ⟨k - 2,by omega⟩
  have ab : absI (2 - (d : Int)) = absI (2 - (d : Int) - 0) := by rw [Int.sub_zero]
  have a0 : 0 ≤ absI (2 - (d : Int)) ∧ absI (2 - (d : Int)) ≤ 2 := by unfold absI;omega
  have next : ∀ k (o : List (List Int)),N1 + d * (4 + 5 ^ rest.length) + 3 ≤ k → o.length + d * 5 ^ rest.length ≤ 10000 → q4_all.l0 k i left o (2 - (d : Int) + 1) rows draw noz weir spill = some (o ++ alBy (alL rest) (rd_T64 noz i).f1 left d) :=
   fun k o hk ho => ra_l0 i0 i1 hn hz l0 l1 hrl ih d k o (2 - (d : Int) + 1) (by omega) (by omega) ho hk
  simp only [q4_all.l0]
  rw [if_pos (by omega),if_pos i0,if_pos i1,w64 (n := (rd_T64 noz i).f1 + (2 - (d : Int))) (by omega),r_height,Option.bind_some]
  simp only [alBy]
  by_cases a : 0 ≤ (rd_T64 noz i).f1 + (2 - (d : Int)) ∧ (rd_T64 noz i).f1 + (2 - (d : Int)) ≤ 40
  · rw [decide_eq_true a,if_pos rfl,far_eq (by omega) (by omega),← ab,Option.bind_some]
    simp only [q4_all.j1]
    by_cases b : absI (2 - (d : Int)) ≤ left
    · rw [decide_eq_false (by omega),if_neg (by decide),far_eq (by omega) (by omega),← ab,Option.bind_some,w64 (n := i + 1) (by omega),w64 (by omega),ih _ (by omega) (by omega) k (by omega),Option.bind_some,if_pos (And.intro a b)]
      have tl := alL_len rest (left - absI (2 - (d : Int)))
      have := ra_l1 (rows := rows) (draw := draw) (noz := noz) (weir := weir) (spill := spill) (x1 := i) (x2 := left) (x8 := 2 - (d : Int)) (x9 := (rd_T64 noz i).f1 + (2 - (d : Int))) (T := alL rest (left - absI (2 - (d : Int)))) (out := out) (N0 := N1 + d * (4 + 5 ^ rest.length) + 3) (by omega)
       (fun t ht => by have := okH_len ((alL_mem (by omega)).1 ht).1;omega) (by omega) (fun k hk => next k _ hk (by simp only [List.length_append,List.length_map];omega)) (alL rest (left - absI (2 - (d : Int)))).length k 0 (by omega) (by omega) (by omega)
      simpa [List.append_assoc] using this
    · rw [decide_eq_true (by omega),if_pos rfl,w64 (by omega),next k out (by omega) (by omega)]
      have nb : ¬ ((0 ≤ (rd_T64 noz i).f1 + (2 - (d : Int)) ∧ (rd_T64 noz i).f1 + (2 - (d : Int)) ≤ 40) ∧ absI (2 - (d : Int)) ≤ left) := fun h => b h.2
      rw [if_neg nb];rfl
  · rw [decide_eq_false a,if_neg (by decide)]
    simp only [q4_all.j1]
    have nb : ¬ ((0 ≤ (rd_T64 noz i).f1 + (2 - (d : Int)) ∧ (rd_T64 noz i).f1 + (2 - (d : Int)) ≤ 40) ∧ absI (2 - (d : Int)) ≤ left) := fun h => a h.1
    rw [if_pos trivial,w64 (by omega),next k out (by omega) (by omega),if_neg nb];rfl
theorem ra_all (hn : noz.length ≤ 4) (hz : ∀ z ∈ noz,0 ≤ z.f1 ∧ z.f1 ≤ 40) : ∀ (m : Nat) (i left : Int),0 ≤ i → i + m = noz.length → 0 ≤ left → left ≤ 1000 → ∀ k,40 * m + 3 * 5 ^ m + 5 ≤ k →
 q4_all.f k rows draw noz weir spill i left = some (alL ((noz.drop i.toNat).map (·.f1)) left)
 | 0,i,left,i0,i1,l0,l1,k,hk => by
  obtain ⟨k,rfl⟩ := ksucc (by omega : 0 < k)
  simp only [q4_all.f]
  rw [if_pos (by omega),List.drop_of_length_le (by omega)]
  simp only [List.map_nil,alL]
  by_cases h : left = 0
  · rw [if_pos h,if_neg (by omega)]
  · rw [if_neg h,if_pos (by omega)]
 | m + 1,i,left,i0,i1,l0,l1,k,hk => by
  obtain ⟨k,rfl⟩ := ksucc (by omega : 0 < k)
  have hi : i.toNat < noz.length := by omega
  have e : rd_T64 noz i = noz[i.toNat] := by simp [rd_T64,hi]
  have rl : ((noz.drop (i + 1).toNat).map (·.f1)).length = m := by simp;omega
  have ih := ra_all hn hz m (i + 1)
  simp only [q4_all.f]
  have p5 : 1 ≤ 5 ^ m := Nat.one_le_pow _ _ (by decide)
  have p6 : 5 ^ m ≤ 5 ^ 4 := Nat.pow_le_pow_right (by decide) (by omega)
  rw [Nat.pow_succ] at hk
  rw [if_neg (by omega),ra_l0 (rest := (noz.drop (i + 1).toNat).map (·.f1)) i0 (by omega) (by omega) (by rw [e];exact hz _ (List.getElem_mem hi)) l0 l1 (by omega) (N1 := 40 * m + 3 * 5 ^ m + 5) (fun left a b k hk => ih left (by omega) (by omega) a b k hk) 5 k [] (-2) (by omega) (by omega) (by rw [rl];simp;omega) (by rw [rl];omega),
   List.drop_eq_getElem_cons hi,← e,show (i + 1).toNat = i.toNat + 1 by omega]
  simp [alL]
end
theorem dropI {X : List Int} {i : Int} (h0 : 0 ≤ i) (h1 : i < X.length) : X.drop i.toNat = rd X i :: X.drop (i.toNat + 1) := by
 have hi : i.toNat < X.length := by omega
 rw [List.drop_eq_getElem_cons hi];simp [rd,hi]
def sufB : List Int → List Int → Bool
 | s :: S,c :: C => !decide (s < c) && sufB S C
 | _,_ => true
theorem sufGo_eq (S : List Int) : ∀ (C : List Int) (i : Int),0 ≤ i → i + C.length ≤ S.length → sufGo S C i = some (sufB (S.drop i.toNat) C)
 | [],i,h0,h => by simp only [sufGo];cases S.drop i.toNat <;> rfl
 | c :: C,i,h0,h => by
  simp only [List.length_cons] at h
  simp only [sufGo]
  rw [if_pos (by omega),dropI h0 (by omega)]
  simp only [sufB]
  by_cases g : rd S i < c
  · rw [if_pos g,decide_eq_true g];rfl
  · rw [if_neg g,decide_eq_false g,sufGo_eq S C (i + 1) (by omega) (by omega),show (i + 1).toNat = i.toNat + 1 by omega];rfl
theorem rsuf_go (S C : List Int) (hl : C.length = S.length) (hb : S.length ≤ 1000) : ∀ (d k : Nat) (i : Int),0 ≤ i → i + d = S.length → d < k → q4_Suffices.l0 k C S i = some (sufB (S.drop i.toNat) (C.drop i.toNat))
 | 0,k,i,h0,h1,hk => by
  obtain ⟨k,rfl⟩ := ksucc (by omega : 0 < k)
  simp only [q4_Suffices.l0]
  rw [if_neg (by omega),List.drop_of_length_le (by omega : S.length ≤ i.toNat)]
  rfl
 | d + 1,k,i,h0,h1,hk => by
  obtain ⟨k,rfl⟩ := ksucc (by omega : 0 < k)
  simp only [q4_Suffices.l0]
  rw [if_pos (by omega),if_pos h0,if_pos (by omega),dropI h0 (by omega),dropI (X := C) h0 (by omega)]
  simp only [sufB]
  by_cases g : rd S i < rd C i
  · rw [if_pos g,decide_eq_true g];rfl
  · rw [if_neg g,decide_eq_false g,w64 (n := i + 1) (by omega),rsuf_go S C hl hb d k (i + 1) (by omega) (by omega) (by omega),show (i + 1).toNat = i.toNat + 1 by omega];rfl
section
variable {rows : List S126} {draw : Int} {noz : List S64} {weir spill : Int}
def sufL (rows : List S126) (noz : List S64) (weir spill cups : Int) (claims l : List Int) : Bool := sufB (shareL rows (setH noz l) weir spill cups) claims
theorem suf_eq (h : OkB rows draw noz weir spill) {l claims : List Int} {cups : Int} (hl : l.length = noz.length) (hz : ∀ x ∈ l,0 ≤ x ∧ x ≤ 40) (hc0 : 0 ≤ cups) (hc1 : cups ≤ 10000) {k : Nat} (hk : 20 ≤ k) (hcl : claims.length = noz.length) :
 suffice.f k rows draw noz weir spill cups claims l = some (sufL rows noz weir spill cups claims l) := by
 rw [suffice_eq h hl hz hc0 hc1 hk,sufGo_eq _ claims 0 (by omega) (by rw [(shareL_in (setH_ok h hl hz) hc0).2,setH_len hl];omega)]
 rfl
theorem at_go (rows : List S126) (draw weir spill : Int) : ∀ (l Q : List Int) (z P : List S64) (k : Nat),l.length = z.length → Q.length = P.length → P.length + z.length ≤ 1000 → z.length < k →
 q4_At.l0 k (Q ++ l) P.length rows draw (P ++ z) weir spill = some (draw,P ++ setH z l,weir,spill)
 | [],Q,[],P,k,_,hQ,hl,hk => by
  obtain ⟨k,rfl⟩ := ksucc (by omega : 0 < k)
  simp only [q4_At.l0,List.append_nil,setH,List.zipWith_nil_left]
  rw [if_neg (by omega)]
 | x :: l,Q,y :: z,P,k,hlz,hQ,hl,hk => by
  simp only [List.length_cons] at hl hk hlz
  obtain ⟨k,rfl⟩ := ksucc (by omega : 0 < k)
  simp only [q4_At.l0]
  have e : rd (Q ++ x :: l) (P.length : Int) = x := by rw [← hQ];exact rd_app Q x l
  rw [if_pos (by rw [List.length_append,List.length_cons];omega),if_pos (by omega),if_pos (by rw [List.length_append,List.length_cons];omega),w64 (by omega),rdz_app,e,set_app]
  have ih := at_go rows draw weir spill l (Q ++ [x]) z (P ++ [⟨y.f0,x⟩]) k (by omega) (by simp [hQ]) (by simp;omega) (by omega)
  have e2 : Q ++ x :: l = Q ++ [x] ++ l := by simp
  rw [e2,show (P.length : Int) + 1 = ((P ++ [(⟨y.f0,x⟩ : S64)]).length : Int) by simp,ih]
  simp [setH]
 | [],_,_ :: _,_,_,h,_,_,_ => by simp at h
 | _ :: _,_,[],_,_,h,_,_,_ => by simp at h
theorem at_eq {l : List Int} (hl : l.length = noz.length) (hn : noz.length ≤ 1000) {k : Nat} (hk : noz.length < k) : q4_At.f k rows draw noz weir spill l = some (draw,setH noz l,weir,spill) := by
 unfold q4_At.f
 rw [if_pos (by simp;omega)]
 exact at_go rows draw weir spill l [] noz [] k hl rfl (by simpa using hn) hk
theorem rsuf_eq (h : OkB rows draw noz weir spill) {l claims : List Int} {cups : Int} (hl : l.length = noz.length) (hz : ∀ x ∈ l,0 ≤ x ∧ x ≤ 40) (hc0 : 0 ≤ cups) (hc1 : cups ≤ 10000) {k : Nat} (hk : 100 ≤ k) (hcl : claims.length = noz.length) :
 q4_Suffices.f k rows draw noz weir spill l claims cups = some (sufL rows noz weir spill cups claims l) := by
 have n2 := h.n2
 have h2 := setH_ok h hl hz
 have S := shareL_in h2 hc0
 unfold q4_Suffices.f
 rw [at_eq hl (by omega) (by omega),Option.bind_some]
 simp only
 rw [rShares_eq h2 hc0 hc1 (by omega),Option.bind_some]
 have := rsuf_go (shareL rows (setH noz l) weir spill cups) claims (by rw [S.2,setH_len hl,hcl]) (by rw [S.2,setH_len hl];omega) (shareL rows (setH noz l) weir spill cups).length k 0 (by omega) (by omega) (by rw [S.2,setH_len hl];omega)
 simpa [sufL] using this
def okK (claims : List Int) : Bool := claims.all fun c => decide (0 ≤ c ∧ c ≤ 10000)
theorem claims_go (C : List Int) (hC : C.length ≤ 1000) (hn : noz.length ≤ 1000) : ∀ (d k : Nat) (i : Int),0 ≤ i → i + d = C.length → d < k →
 q4_Claims.l0 k C i rows draw noz weir spill = some (okK (C.drop i.toNat) && decide (C.length = noz.length))
 | 0,k,i,h0,h1,hk => by
  obtain ⟨k,rfl⟩ := ksucc (by omega : 0 < k)
  simp only [q4_Claims.l0]
  rw [if_neg (by omega),List.drop_of_length_le (by omega)]
  congr 1
  simp only [okK,List.all_nil,Bool.true_and]
  by_cases e : C.length = noz.length
  · simp [e]
  · rw [decide_eq_false e,beq_eq_false_iff_ne];omega
 | d + 1,k,i,h0,h1,hk => by
  obtain ⟨k,rfl⟩ := ksucc (by omega : 0 < k)
  simp only [q4_Claims.l0]
  rw [if_pos (by omega),if_pos h0,r_cups,Option.bind_some,w64 (n := i + 1) (by omega),dropI h0 (by omega)]
  by_cases c : 0 ≤ rd C i ∧ rd C i ≤ 10000
  · rw [decide_eq_true c,if_pos rfl,claims_go C hC hn d k (i + 1) (by omega) (by omega) (by omega),show (i + 1).toNat = i.toNat + 1 by omega]
    simp [okK,c]
  · rw [decide_eq_false c,if_neg (by decide)]
    simp only [okK,List.all_cons,decide_eq_false c,Bool.false_and]
theorem claims_eq {C : List Int} (hC : C.length ≤ 1000) (hn : noz.length ≤ 1000) {k : Nat} (hk : C.length < k) : q4_Claims.f k rows draw noz weir spill C = some (okK C && decide (C.length = noz.length)) := by
 unfold q4_Claims.f
 have := claims_go (rows := rows) (draw := draw) (noz := noz) (weir := weir) (spill := spill) C hC hn C.length k 0 (by omega) (by omega) hk
 simpa using this
theorem cfm_eq (C : List Int) : cf_Mends.f C = some (!okK C) := by
 have : ∀ x : Int,ca_Mends_1.f x = some (!decide (0 ≤ x ∧ x ≤ 10000)) := by
  intro x;unfold ca_Mends_1.f;rw [c_flow];rfl
 unfold cf_Mends.f
 rw [anyM_total this]
 simp only [okK,List.all_eq_not_any_not,Bool.not_not]
def mnd (q : List Int → Bool) (H : Int → List (List Int)) : Nat → Int → Option (List Int × Int)
 | 0,_ => none
 | d + 1,c => match (H c).find? q with | some l => some (l,c) | none => mnd q H d (c + 1)
theorem firstM_find {q' : List Int → Option Bool} {q : List Int → Bool} : ∀ {hs : List (List Int)},(∀ y ∈ hs,q' y = some (q y)) → firstM q' hs = some (hs.find? q)
 | [],_ => rfl
 | y :: hs,h => by
  rw [firstM,h y (by simp),Option.bind_some,List.find?_cons]
  cases q y with
  | true => rfl
  | false => exact firstM_find fun z hz => h z (by simp [hz])
def mndR : Option (List Int × Int) → List Int × Int × Int
 | some (l,c) => (l,c,0)
 | none => ([],0,5)
theorem mendsGo_eq {q' : List Int → Option Bool} {q : List Int → Bool} {H' H : Int → List (List Int)} (hH : ∀ c,0 ≤ c → H' c = H c) (h : ∀ c,0 ≤ c → ∀ y ∈ H c,q' y = some (q y)) : ∀ (d : Nat) (c : Int),0 ≤ c → mendsGo q' H' d c = some (mndR (mnd q H d c))
 | 0,_,_ => rfl
 | d + 1,c,hc => by
  simp only [mendsGo,mnd]
  rw [hH c hc,firstM_find (h c hc),Option.bind_some]
  cases (H c).find? q with
  | some l => rfl
  | none => exact mendsGo_eq hH h d (c + 1) (by omega)
def mndB : Option (List Int × Int) → List Int × Bool
 | some (l,_) => (l,true)
 | none => ([],false)
theorem rm_l1 {claims : List Int} {cups c : Int} {T : List (List Int)} {q : List Int → Bool} {r : Option (List Int × Bool)} {N0 : Nat} (hc : 0 ≤ c ∧ c ≤ 1000) (hT : T.length ≤ 10000)
 (hq : ∀ t ∈ T,∀ k,100 ≤ k → q4_Suffices.f k rows draw noz weir spill t claims cups = some (q t))
 (hr : ∀ k,N0 ≤ k → q4_Mends.l0 k claims cups (c + 1) rows draw noz weir spill = r) :
 ∀ (d k : Nat) (j : Int),0 ≤ j → j + d = T.length → N0 + d + 101 ≤ k → q4_Mends.l1 k claims cups c T j rows draw noz weir spill = (match (T.drop j.toNat).find? q with | some l => some (l,true) | none => r)
 | 0,k,j,h0,h1,hk => by
  obtain ⟨k,rfl⟩ := ksucc (by omega : 0 < k)
  simp only [q4_Mends.l1]
  rw [if_neg (by omega),w64 (by omega),List.drop_of_length_le (by omega)]
  exact hr k (by omega)
 | d + 1,k,j,h0,h1,hk => by
  obtain ⟨k,rfl⟩ := ksucc (by omega : 0 < k)
  have hj : j.toNat < T.length := by omega
  have e : rd_L3 T j = T[j.toNat] := by simp [rd_L3,hj]
  simp only [q4_Mends.l1]
  rw [if_pos (by omega),if_pos h0,e,hq _ (List.getElem_mem hj) k (by omega),Option.bind_some,w64 (by omega),List.drop_eq_getElem_cons hj,List.find?_cons]
  cases q T[j.toNat] with
  | true => rfl
  | false =>
   rw [if_neg (by decide),rm_l1 hc hT hq hr d k (j + 1) (by omega) (by omega) (by omega),show (j + 1).toNat = j.toNat + 1 by omega]
theorem rm_l0 (h : OkB rows draw noz weir spill) (hn : noz.length ≤ 4) {claims : List Int} {cups : Int} (hc0 : 0 ≤ cups) (hc1 : cups ≤ 10000) (hcl : claims.length = noz.length) :
 ∀ (d k : Nat) (c : Int),0 ≤ c → c + d = 2 * noz.length + 1 → d * 740 + 2200 ≤ k →
  q4_Mends.l0 k claims cups c rows draw noz weir spill = some (mndB (mnd (sufL rows noz weir spill cups claims) (alL (noz.map (·.f1))) d c)) := by
 intro d
 induction d with
 | zero =>
  intro k c h0 h1 hk
  obtain ⟨k,rfl⟩ := ksucc (by omega : 0 < k)
  simp only [q4_Mends.l0]
  rw [w64 (by omega),if_neg (by omega)]
  rfl
 | succ d ih =>
  intro k c h0 h1 hk
  obtain ⟨k,rfl⟩ := ksucc (by omega : 0 < k)
  have p6 : 5 ^ noz.length ≤ 5 ^ 4 := Nat.pow_le_pow_right (by decide) hn
  have tl := alL_len (noz.map (·.f1)) c
  rw [List.length_map] at tl
  have hz : ∀ z ∈ noz,0 ≤ z.f1 ∧ z.f1 ≤ 40 := fun z hz => (h.nn z hz).2.2
  simp only [q4_Mends.l0]
  have A := ra_all (rows := rows) (draw := draw) (weir := weir) (spill := spill) hn hz noz.length 0 c (by omega) (by omega) h0 (by omega) k (by omega)
  rw [w64 (by omega),if_pos (by omega),A,Option.bind_some]
  simp only [Int.toNat_zero,List.drop_zero]
  have hq : ∀ t ∈ alL (noz.map (·.f1)) c,∀ k,100 ≤ k → q4_Suffices.f k rows draw noz weir spill t claims cups = some (sufL rows noz weir spill cups claims t) := by
   intro t ht k hk
   have o := ((alL_mem h0).1 ht).1
   exact rsuf_eq h (by rw [okH_len o,List.length_map]) (okH_in o) hc0 hc1 hk hcl
  rw [rm_l1 (r := some (mndB (mnd (sufL rows noz weir spill cups claims) (alL (noz.map (·.f1))) d (c + 1)))) (N0 := d * 740 + 2200) (by omega) (by omega) hq (fun k hk => ih k (c + 1) (by omega) (by omega) hk) (alL (noz.map (·.f1)) c).length k 0 (by omega) (by omega) (by omega)]
  simp only [Int.toNat_zero,List.drop_zero,mnd]
  cases (alL (noz.map (·.f1)) c).find? (sufL rows noz weir spill cups claims) <;> rfl
theorem mnd_mem {q : List Int → Bool} {H : Int → List (List Int)} : ∀ {d : Nat} {c : Int} {l : List Int} {e : Int},mnd q H d c = some (l,e) → l ∈ H e ∧ q l = true ∧ c ≤ e ∧ e < c + d
 | 0,c,l,e,h => by cases h
 | d + 1,c,l,e,h => by
  simp only [mnd] at h
  split at h
  · rename_i x hx
    simp only [Option.some.injEq,Prod.mk.injEq] at h
    obtain ⟨rfl,rfl⟩ := h
    exact ⟨List.mem_of_find?_eq_some hx,List.find?_some hx,by omega,by omega⟩
  · have := mnd_mem h
    exact ⟨this.1,this.2.1,by omega,by omega⟩
end
section
variable {rows : List S126} {draw : Int} {noz : List S64} {weir spill : Int}
theorem moved_go2 {l : List Int} (hn : noz.length ≤ 100) (hl : l.length = noz.length) (hz : ∀ z ∈ noz,0 ≤ z.f1 ∧ z.f1 ≤ 40) : ∀ (d k : Nat) (i acc : Int),0 ≤ i → i + d = l.length → d < k → okH (l.drop i.toNat) ((noz.drop i.toNat).map (·.f1)) → 0 ≤ acc → acc ≤ 2 * i →
 q4_Moved.l0 k l acc i rows draw noz weir spill = some (acc + chg (l.drop i.toNat) ((noz.drop i.toNat).map (·.f1))) := by
 intro d
 induction d with
 | zero =>
  intro k i acc h0 h1 hk ho a0 a1
  obtain ⟨k,rfl⟩ := ksucc (by omega : 0 < k)
  simp only [q4_Moved.l0]
  rw [if_neg (by omega),List.drop_of_length_le (by omega : l.length ≤ i.toNat)]
  simp [chg]
 | succ d ih =>
  intro k i acc h0 h1 hk ho a0 a1
  obtain ⟨k,rfl⟩ := ksucc (by omega : 0 < k)
  have hi : i.toNat < noz.length := by omega
  have e : rd_T64 noz i = noz[i.toNat] := by simp [rd_T64,hi]
  rw [dropI h0 (by omega),List.drop_eq_getElem_cons hi,← e,List.map_cons] at ho ⊢
  have z := hz _ (List.getElem_mem hi)
  rw [← e] at z
  obtain ⟨o1,o2,o3⟩ := ho
  simp only [q4_Moved.l0,chg]
  have o4 : 0 ≤ absI (rd l i - (rd_T64 noz i).f1) := by unfold absI;omega
  rw [if_pos (by omega),if_pos h0,if_pos (by omega),far_eq (by omega) (by omega),Option.bind_some,w64 (by omega),w64 (by omega),ih k (i + 1) _ (by omega) (by omega) (by omega) (by rw [show (i + 1).toNat = i.toNat + 1 by omega];exact o3) (by omega) (by omega),show (i + 1).toNat = i.toNat + 1 by omega]
  congr 1
  omega
theorem rmoved_eq (h : OkB rows draw noz weir spill) {l : List Int} (ho : okH l (noz.map (·.f1))) {k : Nat} (hk : 100 ≤ k) : q4_Moved.f k rows draw noz weir spill l = some (chg l (noz.map (·.f1))) := by
 have n2 := h.n2
 have hl := okH_len ho
 rw [List.length_map] at hl
 unfold q4_Moved.f
 have := moved_go2 (rows := rows) (draw := draw) (weir := weir) (spill := spill) (l := l) (noz := noz) (by omega) hl (fun z hz => (h.nn z hz).2.2) l.length k 0 0 (by omega) (by omega) (by omega) (by simpa using ho) (by omega) (by omega)
 simpa using this
def best (rows : List S126) (noz : List S64) (weir spill : Int) (claims : List Int) (cups : Int) : Option (List Int × Int) := mnd (sufL rows noz weir spill cups claims) (alL (noz.map (·.f1))) (2 * noz.length + 1) 0
theorem cMends_eq (h : OkB rows draw noz weir spill) {claims : List Int} {cups : Int} (hc0 : 0 ≤ cups) (hc1 : cups ≤ 10000) (hcl : claims.length = noz.length) (hK : okK claims = true) :
 ca_Mends.f rows draw noz weir spill claims cups = some (mndR (best rows noz weir spill claims cups)) := by
 have r2 := h.r2
 unfold ca_Mends.f ca_MendsK.f
 rw [if_pos (by omega),isBasin_eq (by omega),okB_iff.2 h,Option.bind_some,if_pos rfl,if_pos hcl,cfm_eq,hK,Option.bind_some]
 simp only [Bool.not_true,if_true]
 rw [c_flow,decide_eq_true ⟨hc0,hc1⟩,Option.bind_some,if_pos rfl]
 refine mendsGo_eq (fun c hc => hs_eq0 _ hc) (fun c hc y hy => ?_) _ 0 (by omega)
 have o := ((alL_mem hc).1 hy).1
 exact suf_eq h (by rw [okH_len o,List.length_map]) (okH_in o) hc0 hc1 (by decide) hcl
theorem cMends_bad (hl : rows.length ≤ 1000) {claims : List Int} {cups : Int} (hb : ¬ (okB rows draw noz weir spill = true ∧ (okK claims = true ∧ claims.length = noz.length) ∧ 0 ≤ cups ∧ cups ≤ 10000)) :
 ca_Mends.f rows draw noz weir spill claims cups = some ([],0,2) := by
 unfold ca_Mends.f ca_MendsK.f
 rw [if_pos hl,isBasin_eq hl,Option.bind_some]
 cases b : okB rows draw noz weir spill with
 | false => rfl
 | true =>
  rw [if_pos rfl]
  by_cases e : claims.length = noz.length
  case neg => rw [if_neg e]
  rw [if_pos e,cfm_eq,Option.bind_some]
  cases f : okK claims with
  | false => rfl
  | true =>
   simp only [Bool.not_true,if_true]
   rw [c_flow,Option.bind_some]
   by_cases c : 0 ≤ cups ∧ cups ≤ 10000
   · exact absurd ⟨b,⟨f,e⟩,c⟩ hb
   · rw [decide_eq_false c];rfl
theorem rMends_eq (h : OkB rows draw noz weir spill) (hn : noz.length ≤ 4) {claims : List Int} {cups : Int} (hc0 : 0 ≤ cups) (hc1 : cups ≤ 10000) (hcl : claims.length = noz.length) {k : Nat} (hk : 9000 ≤ k) :
 q4_Mends.f k rows draw noz weir spill claims cups = some (mndB (best rows noz weir spill claims cups)) := by
 unfold q4_Mends.f
 exact rm_l0 h hn hc0 hc1 hcl (2 * noz.length + 1) k 0 (by omega) (by omega) (by omega)
end
theorem mends_pure (rows : List S126) (draw : Int) (noz : List S64) (weir spill : Int) (claims : List Int) (cups : Int) {k : Nat} (hk : 9100 ≤ k) : l4_CastleMends.f k rows draw noz weir spill claims cups = some true := by
 obtain ⟨k,rfl⟩ : ∃ m,k = m + 1 + 1 + 1 := ⟨k - 3,by omega⟩
 have nope : l4_CastleMends.j0 (k + 1 + 1 + 1) claims cups true rows draw noz weir spill = some true := by
  simp only [l4_CastleMends.j0]
  rw [if_pos trivial,known_true];rfl
 unfold l4_CastleMends.f
 rw [short_eq,Option.bind_some]
 by_cases s : rows.length ≤ 15 ∧ noz.length ≤ 8
 case neg => rw [decide_eq_false s,if_neg (by decide),nope]
 rw [decide_eq_true s,if_pos rfl]
 by_cases l8 : (claims.length : Int) > 8
 · rw [decide_eq_true l8,nope]
 rw [decide_eq_false l8]
 simp only [l4_CastleMends.j0,Bool.false_eq_true,if_false]
 rw [refBasin_eq (by omega) (by omega) (by omega),Option.bind_some]
 by_cases hb : okB rows draw noz weir spill = true ∧ (okK claims = true ∧ claims.length = noz.length) ∧ 0 ≤ cups ∧ cups ≤ 10000
 · obtain ⟨b,⟨f,e⟩,c⟩ := hb
   have h := okB_iff.1 b
   rw [b,if_pos rfl,claims_eq (by omega) (by omega) (by omega),f,decide_eq_true e,Option.bind_some,if_pos (by rfl),r_cups,decide_eq_true c,Option.bind_some]
   simp only [l4_CastleMends.j1,if_true]
   by_cases n4 : (noz.length : Int) > 4
   · rw [decide_eq_true n4]
     simp only [l4_CastleMends.j2,if_true]
     rw [known_true];rfl
   · rw [decide_eq_false n4]
     simp only [l4_CastleMends.j2,Bool.false_eq_true,if_false,if_true]
     rw [cMends_eq h c.1 c.2 e f,Option.bind_some,rMends_eq h (by omega) c.1 c.2 e (by omega),Option.bind_some]
     cases m : best rows noz weir spill claims cups with
     | none => simp [mndR,mndB,known_true]
     | some x =>
      obtain ⟨l,v⟩ := x
      have mm := mnd_mem m
      have o := (alL_mem (by omega)).1 mm.1
      have ol := okH_len o.1
      rw [List.length_map] at ol
      simp only [mndR,mndB,if_true]
      rw [same_eq (by omega) (by omega),decide_eq_true rfl,Option.bind_some,if_pos rfl,rmoved_eq h o.1 (by omega),Option.bind_some]
      simp [o.2,known_true]
 · have fin : l4_CastleMends.j1 (k + 1 + 1) claims cups false rows draw noz weir spill = some true := by
    simp only [l4_CastleMends.j1,l4_CastleMends.j2,Bool.false_eq_true,if_false]
    rw [cMends_bad (by omega) hb,Option.bind_some]
    simp [known_true]
   cases b : okB rows draw noz weir spill with
   | false => rw [if_neg (by decide)];exact fin
   | true =>
    rw [if_pos rfl,claims_eq (by omega) (by omega) (by omega),Option.bind_some]
    cases f : (okK claims && decide (claims.length = noz.length)) with
    | false => rw [if_neg (by decide)];exact fin
    | true =>
     rw [if_pos rfl,r_cups,Option.bind_some]
     by_cases c : 0 ≤ cups ∧ cups ≤ 10000
     · rw [Bool.and_eq_true,decide_eq_true_eq] at f
       exact absurd ⟨b,f,c⟩ hb
     · rw [decide_eq_false c];exact fin
end Go.Proofs.YticlelgmmonloaaGreatDoor.C

/- A part of the proof: the walks of the functions that it reaches. TIGHT. -/
import Derived.Test.YticlelgmmonloaaGreatDoorM17
import Derived.Test.YticlelgmmonloaaGreatDoorLKept2
set_option linter.unusedVariables false
set_option linter.unusedSimpArgs false
namespace Go.Proofs.YticlelgmmonloaaGreatDoor.C
open Go.RowKit Go.Proofs.YticlelgmmonloaaGreatDoorW.PrintWords Go.Proofs.YticlelgmmonloaaGreatDoorW.PrintLast Go.Proofs.YticlelgmmonloaaGreatDoorW.PrintMore
set_option linter.unusedVariables false
set_option linter.unusedSimpArgs false
set_option maxHeartbeats 16000000
set_option maxRecDepth 100000
theorem lsum_go (xs : List Int) (hl : xs.length ≤ 100) (hx : ∀ x ∈ xs,0 ≤ x ∧ x ≤ 1000) : ∀ (d k : Nat) (i acc : Int),0 ≤ i → i + d = xs.length → d < k → 0 ≤ acc → acc ≤ 1000 * i →
 l4_sum.l0 k xs acc i = some (acc + (xs.drop i.toNat).sum)
 | 0,k,i,acc,h0,h1,hk,a0,a1 => by
  obtain ⟨k,rfl⟩ := ksucc (by omega : 0 < k)
  simp only [l4_sum.l0]
  rw [if_neg (by omega),List.drop_of_length_le (by omega)]
  simp
 | d + 1,k,i,acc,h0,h1,hk,a0,a1 => by
  obtain ⟨k,rfl⟩ := ksucc (by omega : 0 < k)
  have hi : i.toNat < xs.length := by omega
  have hr : rd xs i = xs[i.toNat] := by simp [rd,hi]
  have hv : 0 ≤ rd xs i ∧ rd xs i ≤ 1000 := by rw [hr];exact hx _ (List.getElem_mem _)
  simp only [l4_sum.l0]
  rw [if_pos (by omega),if_pos h0,r_cups,decide_eq_true (by omega),Option.bind_some,if_pos rfl,w64 (n := acc + _) (by omega),w64 (n := i + 1) (by omega)]
  rw [lsum_go xs hl hx d k (i + 1) _ (by omega) (by omega) (by omega) (by omega) (by omega),show (i + 1).toNat = i.toNat + 1 by omega,List.drop_eq_getElem_cons hi,List.sum_cons,← hr,Int.add_assoc]
theorem lsum {xs : List Int} (hl : xs.length ≤ 100) (hx : ∀ x ∈ xs,0 ≤ x ∧ x ≤ 1000) {k : Nat} (hk : xs.length < k) : l4_sum.f k xs = some xs.sum := by
 unfold l4_sum.f
 rw [lsum_go xs hl hx xs.length k 0 0 (by omega) (by omega) hk (by omega) (by omega)]
 simp
section
variable {rows : List S126} {draw : Int} {noz : List S64} {weir spill : Int}
theorem cOut_eq (h : OkB rows draw noz weir spill) {x : Int} (h0 : 0 ≤ x) (h1 : x ≤ 40) {k : Nat} (hk : 410 ≤ k) : ca_Out.f k rows draw noz weir spill x = some (gat rows noz x,over weir spill x,0) := by
 obtain ⟨k,rfl⟩ := ksucc (by omega : 0 < k)
 unfold ca_Out.f
 rw [isBasin_eq (by have := h.r2;omega),okB_iff.2 h,Option.bind_some,if_pos rfl,c_height,decide_eq_true ⟨h0,h1⟩,Option.bind_some]
 simp only [ca_Out.j0,Bool.not_true]
 rw [if_neg (by decide),fill_eq h (by omega),Option.bind_some]
 simp only
 rw [if_pos h0,if_pos (by rw [grid_len];omega),weir_eq h h0 h1,Option.bind_some,grid_at _ _ h0 h1]
end
theorem shGo_same : ∀ (l : List Int) {r : Int},0 ≤ r → (shGo l l r).1 = l
 | [],_,_ => rfl
 | x :: l,r,h => by
  have e : mn r (x - x) = 0 := by unfold mn;split <;> omega
  simp only [shGo,e,Int.sub_zero,Int.add_zero]
  rw [shGo_same l h]
theorem kept_go : ∀ (l n P Q R : List Int) (r : Int) (left : Bool) (k : Nat),pairOk l n → P.length = Q.length → P.length = R.length → P.length + l.length ≤ 100 → 0 ≤ r → r ≤ 10000 → (left = false → r = 0) → l.length < k →
 l4_CastleKept.l0 k (P ++ (shGo l n r).1) (Q ++ l) (R ++ n) left (P.length : Int) = some true
 | [],[],P,Q,R,r,left,k,_,hQ,hR,hl,hr0,hr1,hlr,hk => by
  obtain ⟨k,rfl⟩ := ksucc (by omega : 0 < k)
  simp only [l4_CastleKept.l0,shGo,List.append_nil]
  rw [if_neg (by omega),known_true]
  rfl
 | x :: l,y :: n,P,Q,R,r,left,k,h,hQ,hR,hl,hr0,hr1,hlr,hk => by
  obtain ⟨k,rfl⟩ := ksucc (by omega : 0 < k)
  simp only [List.length_cons] at hl hk
  have hx := h.1
  have m := mn_in (r := r) (d := y - x) hr0 (by omega)
  have mm : mn r (y - x) = r ∨ mn r (y - x) = y - x := by unfold mn;split <;> omega
  rw [show (shGo (x :: l) (y :: n) r).1 = (x + mn r (y - x)) :: (shGo l n (r - mn r (y - x))).1 from rfl]
  simp only [l4_CastleKept.l0]
  have e1 : rd (Q ++ x :: l) (P.length : Int) = x := by rw [hQ];exact rd_app Q x l
  have e2 : rd (R ++ y :: n) (P.length : Int) = y := by rw [hR];exact rd_app R y n
  have ih : ∀ lf,(lf = false → r - mn r (y - x) = 0) → l4_CastleKept.l0 k (P ++ (x + mn r (y - x)) :: (shGo l n (r - mn r (y - x))).1) (Q ++ x :: l) (R ++ y :: n) lf ((P.length : Int) + 1) = some true := by
   intro lf hlf
   have := kept_go l n (P ++ [x + mn r (y - x)]) (Q ++ [x]) (R ++ [y]) (r - mn r (y - x)) lf k h.2 (by simp [hQ]) (by simp [hR]) (by simp;omega) (by omega) (by omega) hlf (by omega)
   simpa using this
  rw [if_pos (by rw [List.length_append,List.length_cons];omega),if_pos (by omega),if_pos (by rw [List.length_append,List.length_cons];omega),rd_app,e1,e2,if_neg (by omega),if_pos (by rw [List.length_append,List.length_cons];have := h.2.len;omega),if_neg (by omega),w64 (n := (P.length : Int) + 1) (by omega)]
  cases left with
  | true =>
   rw [if_pos rfl]
   refine ih _ fun q => ?_
   rw [beq_eq_false_iff_ne] at q
   omega
  | false =>
   have := hlr rfl
   rw [if_neg (by decide),if_pos (by omega)]
   exact ih false fun _ => by omega
 | [],_ :: _,_,_,_,_,_,_,h,_,_,_,_,_,_,_ => h.elim
 | _ :: _,[],_,_,_,_,_,_,h,_,_,_,_,_,_,_ => h.elim
theorem kept_pure (rows : List S126) (draw : Int) (noz : List S64) (weir spill cups other : Int) {k : Nat} (hk : 500 ≤ k) : l4_CastleKept.f k rows draw noz weir spill cups other = some true := by
 obtain ⟨k,rfl⟩ : ∃ m,k = m + 1 + 1 + 1 + 1 + 1 + 1 := ⟨k - 6,by omega⟩
 unfold l4_CastleKept.f
 rw [short_eq,Option.bind_some]
 have nope : l4_CastleKept.j0 (k + 1 + 1 + 1 + 1 + 1 + 1) cups other true rows draw noz weir spill = some true := by
  simp only [l4_CastleKept.j0]
  rw [if_pos trivial,known_true];rfl
 by_cases s : rows.length ≤ 15 ∧ noz.length ≤ 8
 case neg => rw [decide_eq_false s,if_neg (by decide),nope]
 rw [decide_eq_true s,if_pos rfl,refBasin_eq (by omega) (by omega) (by omega),Option.bind_some]
 cases b : okB rows draw noz weir spill with
 | false => rw [if_neg (by decide),nope]
 | true =>
  rw [if_pos rfl,r_cups,Option.bind_some]
  by_cases c : 0 ≤ cups ∧ cups ≤ 10000
  case neg => rw [decide_eq_false c,if_neg (by decide),nope]
  rw [decide_eq_true c,if_pos rfl,r_height,Option.bind_some]
  by_cases d : 0 ≤ other ∧ other ≤ 40
  case neg => rw [decide_eq_false d];exact nope
  rw [decide_eq_true d]
  have h := okB_iff.1 b
  have L := lev_is h c.1
  have B := shareL_in h c.1
  have n2 := h.n2
  have ss : 0 ≤ (shareL rows noz weir spill cups).sum ∧ (shareL rows noz weir spill cups).sum ≤ cups := by
   have g0 := gsum_in h (lev rows noz weir spill cups)
   have o0 := over_in h L.1 L.2.1
   have te : tot rows noz weir spill (lev rows noz weir spill cups) = (gat rows noz (lev rows noz weir spill cups)).sum + over weir spill (lev rows noz weir spill cups) := rfl
   have l3 := L.2.2.1
   unfold shareL
   by_cases g : lev rows noz weir spill cups < 40
   · rw [if_pos g]
     have q := shGo_in (r := cups - tot rows noz weir spill (lev rows noz weir spill cups)) (gat_pairs h (show lev rows noz weir spill cups ≤ lev rows noz weir spill cups + 1 by omega)) (by omega)
     have q5 := q.2.2.2.2
     have q0 := sum_nn (fun x hx => (q.1 x hx).1)
     have q2 := q.2.1
     omega
   · rw [if_neg g];omega
  have tO := tot_in h d.1 d.2
  have oo := over_in h d.1 d.2
  have gO := gsum_in h other
  have ho : tot rows noz weir spill other = (gat rows noz other).sum + over weir spill other := rfl
  have eq1 : mn 40 (lev rows noz weir spill cups + 1) = if lev rows noz weir spill cups < 40 then lev rows noz weir spill cups + 1 else 40 := by
   unfold mn;have := L.2.1;split <;> split <;> omega
  have hm : 0 ≤ mn 40 (lev rows noz weir spill cups + 1) ∧ mn 40 (lev rows noz weir spill cups + 1) ≤ 40 := by rw [eq1];have := L.1;have := L.2.1;split <;> omega
  simp only [l4_CastleKept.j0,Bool.not_true,Bool.false_eq_true,if_false]
  rw [cShares_eq (by have := h.r2;omega) (by omega),if_pos ⟨b,c⟩,Option.bind_some,cLevel_eq h c.1 (Int.le_refl _) c.2 (by omega),Option.bind_some]
  simp only [if_true]
  rw [r_height,decide_eq_true ⟨L.1,L.2.1⟩,Option.bind_some,if_pos rfl,if_pos (by rw [B.2]),r_cups,decide_eq_true (by omega),Option.bind_some]
  simp only [l4_CastleKept.j1,Bool.not_true,Bool.false_eq_true,if_false]
  rw [lsum (by rw [B.2];omega) B.1 (by rw [B.2];omega),Option.bind_some,if_neg (by omega),w64 (by omega)]
  have z1 : ((shareL rows noz weir spill cups).sum + (cups - (shareL rows noz weir spill cups).sum) != cups) = false := by
   rw [bne_eq_false_iff_eq];omega
  rw [z1]
  simp only [l4_CastleKept.j2,Bool.false_eq_true,if_false]
  rw [cOut_eq h d.1 d.2 (by omega),Option.bind_some]
  simp only [if_true]
  rw [r_cups,decide_eq_true (by omega),Option.bind_some]
  simp only [l4_CastleKept.j3,Bool.not_true,Bool.false_eq_true,if_false]
  rw [lsum (by rw [gat_len];omega) (gat_in h other) (by rw [gat_len];omega),Option.bind_some,if_neg (by omega),w64 (by omega),← ho]
  have z2 : ((decide (tot rows noz weir spill other ≤ cups)) != (decide (other ≤ lev rows noz weir spill cups))) = false := by
   rw [bne_eq_false_iff_eq,decide_eq_decide]
   exact (lev_ge h c.1 d.1 d.2).symm
  rw [z2]
  simp only [l4_CastleKept.j4,Bool.false_eq_true,if_false]
  rw [cOut_eq h L.1 L.2.1 (by omega),Option.bind_some,w64 (n := lev rows noz weir spill cups + 1) (by have := L.1;have := L.2.1;omega),cOut_eq h hm.1 hm.2 (by omega),Option.bind_some]
  simp only [if_true]
  rw [if_pos (by rw [gat_len,B.2])]
  have z3 : (((gat rows noz (mn 40 (lev rows noz weir spill cups + 1))).length : Int) != ((shareL rows noz weir spill cups).length : Int)) = false := by
   rw [bne_eq_false_iff_eq,gat_len,B.2]
  rw [z3]
  simp only [l4_CastleKept.j5,Bool.false_eq_true,if_false]
  have t3 := tot_in h L.1 L.2.1
  have l3 := L.2.2.1
  by_cases g : lev rows noz weir spill cups < 40
  · rw [eq1,if_pos g]
    have f := kept_go (gat rows noz (lev rows noz weir spill cups)) (gat rows noz (lev rows noz weir spill cups + 1)) [] [] [] (cups - tot rows noz weir spill (lev rows noz weir spill cups)) true k (gat_pairs h (by omega)) rfl rfl (by simp [gat_len];omega) (by omega) (by omega) (fun q => by cases q) (by rw [gat_len];omega)
    have e : shareL rows noz weir spill cups = (shGo (gat rows noz (lev rows noz weir spill cups)) (gat rows noz (lev rows noz weir spill cups + 1)) (cups - tot rows noz weir spill (lev rows noz weir spill cups))).1 := by unfold shareL;rw [if_pos g]
    rw [e]
    simpa using f
  · rw [eq1,if_neg g]
    have e40 : lev rows noz weir spill cups = 40 := by have := L.2.1;omega
    have f := kept_go (gat rows noz 40) (gat rows noz 40) [] [] [] 0 true k (gat_pairs h (by omega)) rfl rfl (by simp [gat_len];omega) (by omega) (by omega) (fun q => by cases q) (by rw [gat_len];omega)
    rw [shGo_same _ (by omega)] at f
    have e : shareL rows noz weir spill cups = gat rows noz 40 := by unfold shareL;rw [if_neg g,e40]
    rw [e,e40]
    simpa using f
end Go.Proofs.YticlelgmmonloaaGreatDoor.C

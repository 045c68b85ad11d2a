/- A part of the proof: the walks of the functions that it reaches. TIGHT. -/
import Derived.Test.YticlelgmmonloaaGreatDoorM18
import Derived.Test.YticlelgmmonloaaGreatDoorM17
set_option linter.unusedVariables false
set_option linter.unusedSimpArgs false
namespace Go.Proofs.YticlelgmmonloaaGreatDoor.C
open Go.RowKit Go.Proofs.YticlelgmmonloaaGreatDoorW.PrintWords Go.Proofs.YticlelgmmonloaaGreatDoorW.PrintLast Go.Proofs.YticlelgmmonloaaGreatDoorW.PrintMore
set_option linter.unusedVariables false
set_option linter.unusedSimpArgs false
set_option maxHeartbeats 16000000
set_option maxRecDepth 100000
theorem shGo_app : ∀ (a c : List Int) (b d : List Int) (r : Int),a.length = c.length → shGo (a ++ b) (c ++ d) r = ((shGo a c r).1 ++ (shGo b d (shGo a c r).2).1,(shGo b d (shGo a c r).2).2)
 | [],[],b,d,r,_ => rfl
 | x :: a,y :: c,b,d,r,h => by
  simp only [List.cons_append,shGo,shGo_app a c b d _ (by simpa using h)]
 | [],_ :: _,_,_,_,h => by simp at h
 | _ :: _,[],_,_,_,h => by simp at h
theorem shGo_less : ∀ {l n : List Int} {r r' : Int},pairOk l n → 0 ≤ r' → r' ≤ r → (shGo l n r').2 = 0 ∨ ((shGo l n r').1 = (shGo l n r).1 ∧ r - r' = (shGo l n r).2 - (shGo l n r').2)
 | [],[],r,r',_,_,_ => .inr ⟨rfl,rfl⟩
 | x :: l,y :: n,r,r',h,h0,h1 => by
  have m := mn_in (r := r') (d := y - x) h0 (by have := h.1;omega)
  have e : mn r' (y - x) = mn r (y - x) ∨ r' - mn r' (y - x) = 0 := by unfold mn;have := h.1;split <;> split <;> omega
  have mono : r' - mn r' (y - x) ≤ r - mn r (y - x) := by unfold mn;have := h.1;split <;> split <;> omega
  have ih := shGo_less (r := r - mn r (y - x)) (r' := r' - mn r' (y - x)) h.2 (by omega) mono
  show (shGo l n (r' - mn r' (y - x))).2 = 0 ∨ ((x + mn r' (y - x)) :: (shGo l n (r' - mn r' (y - x))).1 = (x + mn r (y - x)) :: (shGo l n (r - mn r (y - x))).1 ∧ r - r' = (shGo l n (r - mn r (y - x))).2 - (shGo l n (r' - mn r' (y - x))).2)
  rcases e with e | e
  · rcases ih with ih | ih
    · exact .inl ih
    · refine .inr ⟨by rw [ih.1,e],?_⟩
      have := ih.2
      omega
  · have q := shGo_in (r := r' - mn r' (y - x)) h.2 (by omega)
    left
    have q1 := q.2.1
    have q2 := q.2.2.1
    omega
 | [],_ :: _,_,_,h,_,_ => h.elim
 | _ :: _,[],_,_,h,_,_ => h.elim
theorem pairOk_app : ∀ {a c b d : List Int},a.length = c.length → pairOk (a ++ b) (c ++ d) → pairOk a c ∧ pairOk b d
 | [],[],b,d,_,h => ⟨trivial,h⟩
 | x :: a,y :: c,b,d,hl,h => by
  have := pairOk_app (a := a) (c := c) (by simpa using hl) h.2
  exact ⟨⟨h.1,this.1⟩,this.2⟩
 | [],_ :: _,_,_,h,_ => by simp at h
 | _ :: _,[],_,_,h,_ => by simp at h
theorem set_lower {a c b d : List Int} {x y x' y' r : Int} (hac : a.length = c.length) (h : pairOk (a ++ x :: b) (c ++ y :: d)) (h' : pairOk (a ++ x' :: b) (c ++ y' :: d)) (hx : x ≤ x') (hy : y ≤ y') (h0 : 0 ≤ r - (x' - x)) :
 leL (shGo a c (r - (x' - x))).1 (shGo a c r).1 ∧ leL (shGo b d ((shGo a c (r - (x' - x))).2 - mn (shGo a c (r - (x' - x))).2 (y' - x'))).1 (shGo b d ((shGo a c r).2 - mn (shGo a c r).2 (y - x))).1 ∧
 (shGo b d ((shGo a c (r - (x' - x))).2 - mn (shGo a c (r - (x' - x))).2 (y' - x'))).2 ≤ (shGo b d ((shGo a c r).2 - mn (shGo a c r).2 (y - x))).2 := by
 obtain ⟨ha,hb⟩ := pairOk_app hac h
 obtain ⟨ha',hb'⟩ := pairOk_app hac h'
 have m := shGo_mono (r := r - (x' - x)) (r' := r) ha h0 (by omega)
 have q' := (shGo_in (r := r - (x' - x)) ha h0).2.1
 have q := (shGo_in (r := r) ha (by omega)).2.1
 have z' := mn_in (r := (shGo a c (r - (x' - x))).2) (d := y' - x') q' (by have := hb'.1;omega)
 have z := mn_in (r := (shGo a c r).2) (d := y - x) q (by have := hb.1;omega)
 have key : (shGo a c (r - (x' - x))).2 - mn (shGo a c (r - (x' - x))).2 (y' - x') ≤ (shGo a c r).2 - mn (shGo a c r).2 (y - x) := by
  rcases shGo_less ha h0 (show r - (x' - x) ≤ r by omega) with e | ⟨_,e⟩
  · omega
  · unfold mn;have := hb.1;have := hb'.1;split <;> split <;> omega
 have m2 := shGo_mono hb.2 (by omega) key
 exact ⟨m.1,m2.1,m2.2⟩
section
variable {rows : List S126} {draw : Int} {P Q : List S64} {z z' : S64} {weir spill : Int}
theorem gat_app (h : Int) : gat rows (P ++ z :: Q) h = gat rows P h ++ pour rows h z :: gat rows Q h := by simp [gat]
theorem pour_lower (hB : OkB rows draw (P ++ z :: Q) weir spill) (hf : z'.f0 = z.f0) (hl : z'.f1 ≤ z.f1) (h : Int) : pour rows h z ≤ pour rows h z' := by
 have g := gvz_in hB (show z ∈ P ++ z :: Q by simp)
 have e : gvz rows z' = gvz rows z := by unfold gvz;rw [hf]
 have m := mm_mono (show h - z.f1 ≤ h - z'.f1 by omega)
 unfold pour
 rw [e]
 exact Int.ediv_le_ediv (by omega) (Int.mul_le_mul_of_nonneg_left m (by omega))
theorem split_share (hB : OkB rows draw (P ++ z :: Q) weir spill) {c : Int} (hc : 0 ≤ c) : ∃ sP s sQ,shareL rows (P ++ z :: Q) weir spill c = sP ++ s :: sQ ∧ sP.length = P.length := by
 have := (shareL_in hB hc).2
 generalize shareL rows (P ++ z :: Q) weir spill c = L at this
 refine ⟨L.take P.length,L.getD P.length 0,L.drop (P.length + 1),?_,by rw [List.length_take,this];simp⟩
 have hi : P.length < L.length := by rw [this,List.length_append,List.length_cons];omega
 have : L.getD P.length 0 = L[P.length] := by simp [hi]
 rw [this,← List.drop_eq_getElem_cons hi,List.take_append_drop]
theorem lower (hB : OkB rows draw (P ++ z :: Q) weir spill) (hB' : OkB rows draw (P ++ z' :: Q) weir spill) (hf : z'.f0 = z.f0) (hl : z'.f1 ≤ z.f1) {c : Int} (hc : 0 ≤ c) :
 ∃ sP s sQ sP' s' sQ',shareL rows (P ++ z :: Q) weir spill c = sP ++ s :: sQ ∧ shareL rows (P ++ z' :: Q) weir spill c = sP' ++ s' :: sQ' ∧ sP.length = P.length ∧ sP'.length = P.length ∧ leL sP' sP ∧ leL sQ' sQ ∧
  c - (shareL rows (P ++ z' :: Q) weir spill c).sum ≤ c - (shareL rows (P ++ z :: Q) weir spill c).sum := by
 have L := lev_is hB hc
 have L' := lev_is hB' hc
 have pl := pour_lower hB hf hl
 have tl : ∀ x,tot rows (P ++ z' :: Q) weir spill x - tot rows (P ++ z :: Q) weir spill x = pour rows x z' - pour rows x z := by
  intro x
  unfold tot
  rw [gat_app,gat_app]
  simp only [List.sum_append,List.sum_cons]
  omega
 have lle : lev rows (P ++ z' :: Q) weir spill c ≤ lev rows (P ++ z :: Q) weir spill c := by
  refine (lev_ge hB hc L'.1 L'.2.1).2 ?_
  have := tl (lev rows (P ++ z' :: Q) weir spill c)
  have := pl (lev rows (P ++ z' :: Q) weir spill c)
  have := L'.2.2.1
  omega
 have gl : ∀ x (R : List S64),(gat rows R x).length = R.length := fun x R => gat_len x
 by_cases g : lev rows (P ++ z' :: Q) weir spill c < lev rows (P ++ z :: Q) weir spill c
 · -- a lower level
   have g40 : lev rows (P ++ z' :: Q) weir spill c < 40 := by have := L.2.1;omega
   have hp := gat_pairs hB' (show lev rows (P ++ z' :: Q) weir spill c ≤ lev rows (P ++ z' :: Q) weir spill c + 1 by omega)
   have r0 : 0 ≤ c - tot rows (P ++ z' :: Q) weir spill (lev rows (P ++ z' :: Q) weir spill c) := by have := L'.2.2.1;omega
   have e' : shareL rows (P ++ z' :: Q) weir spill c = (shGo (gat rows (P ++ z' :: Q) (lev rows (P ++ z' :: Q) weir spill c)) (gat rows (P ++ z' :: Q) (lev rows (P ++ z' :: Q) weir spill c + 1)) (c - tot rows (P ++ z' :: Q) weir spill (lev rows (P ++ z' :: Q) weir spill c))).1 := by unfold shareL;rw [if_pos g40]
   have up' := (shGo_le hp r0).1
   rw [← e'] at up'
   have lo := share_ge hB hc
   obtain ⟨sP,s,sQ,h1,h2⟩ := split_share hB hc
   obtain ⟨sP',s',sQ',h3,h4⟩ := split_share hB' hc
   refine ⟨sP,s,sQ,sP',s',sQ',h1,h3,h2,h4,?_⟩
   rw [h3,gat_app] at up'
   rw [h1,gat_app] at lo
   have spl : ∀ {a b : List Int} {u v : Int} {p q : List Int},a.length = b.length → leL (a ++ u :: p) (b ++ v :: q) → leL a b ∧ leL p q := by
    intro a
    induction a with
    | nil => intro b u v p q hl hh;cases b with | nil => exact ⟨trivial,hh.2⟩ | cons _ _ => simp at hl
    | cons x a ih => intro b u v p q hl hh;cases b with | nil => simp at hl | cons y b => exact ⟨⟨hh.1,(ih (by simpa using hl) hh.2).1⟩,(ih (by simpa using hl) hh.2).2⟩
   have mid : ∀ R : List S64,(∀ y ∈ R,y ∈ P ++ z :: Q) → leL (gat rows R (lev rows (P ++ z' :: Q) weir spill c + 1)) (gat rows R (lev rows (P ++ z :: Q) weir spill c)) := by
    intro R
    induction R with
    | nil => intro _;trivial
    | cons y R ih => intro hR;exact ⟨pour_mono hB (hR y (by simp)) (by omega),ih (fun w hw => hR w (by simp [hw]))⟩
   have a1 := spl (by rw [h4,gl]) up'
   have a2 := spl (by rw [h2,gl]) lo
   refine ⟨(a1.1.trans (mid P (fun y hy => by simp [hy]))).trans a2.1,(a1.2.trans (mid Q (fun y hy => by simp [hy]))).trans a2.2,?_⟩
   refine Int.le_trans ?_ (over_ge hB hc)
   have om := over_mono hB (show lev rows (P ++ z' :: Q) weir spill c + 1 ≤ lev rows (P ++ z :: Q) weir spill c by omega)
   have oi := over_is hB' hc g40
   have om0 := over_mono hB (show lev rows (P ++ z' :: Q) weir spill c ≤ lev rows (P ++ z' :: Q) weir spill c + 1 by omega)
   rcases (show (shGo (gat rows (P ++ z' :: Q) (lev rows (P ++ z' :: Q) weir spill c)) (gat rows (P ++ z' :: Q) (lev rows (P ++ z' :: Q) weir spill c + 1)) (c - tot rows (P ++ z' :: Q) weir spill (lev rows (P ++ z' :: Q) weir spill c))).2 ≤ 0 ∨ 0 < (shGo (gat rows (P ++ z' :: Q) (lev rows (P ++ z' :: Q) weir spill c)) (gat rows (P ++ z' :: Q) (lev rows (P ++ z' :: Q) weir spill c + 1)) (c - tot rows (P ++ z' :: Q) weir spill (lev rows (P ++ z' :: Q) weir spill c))).2 by omega) with w | w
   · omega
   · have f := shGo_full hp r0 w
     have te : tot rows (P ++ z' :: Q) weir spill (lev rows (P ++ z' :: Q) weir spill c + 1) = (gat rows (P ++ z' :: Q) (lev rows (P ++ z' :: Q) weir spill c + 1)).sum + over weir spill (lev rows (P ++ z' :: Q) weir spill c + 1) := rfl
     have l4 := L'.2.2.2 g40
     rw [e',f]
     omega
 · have el : lev rows (P ++ z' :: Q) weir spill c = lev rows (P ++ z :: Q) weir spill c := by omega
   by_cases g40 : lev rows (P ++ z :: Q) weir spill c < 40
   · have hp := gat_pairs hB (show lev rows (P ++ z :: Q) weir spill c ≤ lev rows (P ++ z :: Q) weir spill c + 1 by omega)
     have hp' := gat_pairs hB' (show lev rows (P ++ z :: Q) weir spill c ≤ lev rows (P ++ z :: Q) weir spill c + 1 by omega)
     have e : shareL rows (P ++ z :: Q) weir spill c = (shGo (gat rows (P ++ z :: Q) (lev rows (P ++ z :: Q) weir spill c)) (gat rows (P ++ z :: Q) (lev rows (P ++ z :: Q) weir spill c + 1)) (c - tot rows (P ++ z :: Q) weir spill (lev rows (P ++ z :: Q) weir spill c))).1 := by unfold shareL;rw [if_pos g40]
     have e' : shareL rows (P ++ z' :: Q) weir spill c = (shGo (gat rows (P ++ z' :: Q) (lev rows (P ++ z :: Q) weir spill c)) (gat rows (P ++ z' :: Q) (lev rows (P ++ z :: Q) weir spill c + 1)) (c - tot rows (P ++ z' :: Q) weir spill (lev rows (P ++ z :: Q) weir spill c))).1 := by unfold shareL;rw [el,if_pos g40]
     have o := over_is hB hc g40
     have o' := over_is hB' hc (by omega)
     rw [el] at o'
     have l3 := L.2.2.1
     have l3' := L'.2.2.1
     rw [el] at l3'
     have td := tl (lev rows (P ++ z :: Q) weir spill c)
     have p0 := pl (lev rows (P ++ z :: Q) weir spill c)
     have p1 := pl (lev rows (P ++ z :: Q) weir spill c + 1)
     have er : c - tot rows (P ++ z' :: Q) weir spill (lev rows (P ++ z :: Q) weir spill c) = (c - tot rows (P ++ z :: Q) weir spill (lev rows (P ++ z :: Q) weir spill c)) - (pour rows (lev rows (P ++ z :: Q) weir spill c) z' - pour rows (lev rows (P ++ z :: Q) weir spill c) z) := by omega
     rw [er] at e' o'
     rw [gat_app,gat_app] at hp hp' e e' o o'
     rw [shGo_app _ _ _ _ _ (by rw [gl,gl])] at e e' o o'
     simp only [shGo] at e e' o o'
     have S := set_lower (r := c - tot rows (P ++ z :: Q) weir spill (lev rows (P ++ z :: Q) weir spill c)) (by rw [gl,gl]) hp hp' p0 p1 (by omega)
     refine ⟨_,_,_,_,_,_,e,e',?_,?_,S.1,S.2.1,?_⟩
     · rw [(shGo_in (pairOk_app (by rw [gl,gl]) hp).1 (by omega)).2.2.2.1,gl]
     · rw [(shGo_in (pairOk_app (by rw [gl,gl]) hp').1 (by omega)).2.2.2.1,gl]
     · rw [o,o']
       have := S.2.2
       omega
   · have e : shareL rows (P ++ z :: Q) weir spill c = gat rows (P ++ z :: Q) (lev rows (P ++ z :: Q) weir spill c) := by unfold shareL;rw [if_neg g40]
     have e' : shareL rows (P ++ z' :: Q) weir spill c = gat rows (P ++ z' :: Q) (lev rows (P ++ z :: Q) weir spill c) := by unfold shareL;rw [el,if_neg g40]
     have p0 := pl (lev rows (P ++ z :: Q) weir spill c)
     rw [gat_app] at e e'
     refine ⟨_,_,_,_,_,_,e,e',gl _ _,gl _ _,leL.refl _,leL.refl _,?_⟩
     rw [e,e']
     simp only [List.sum_append,List.sum_cons]
     omega
end
theorem leL_sum : ∀ {a b : List Int},leL a b → a.sum ≤ b.sum
 | [],[],_ => Int.le_refl _
 | x :: a,y :: b,h => by have := leL_sum h.2;have := h.1;simp only [List.sum_cons];omega
 | [],_ :: _,h => h.elim
 | _ :: _,[],h => h.elim
theorem leL_mid {s' s : Int} {b' b : List Int} (hb : leL b' b) : ∀ {a' a : List Int},leL a' a → ∀ j : Nat,j ≠ a.length → (a' ++ s' :: b').getD j 0 ≤ (a ++ s :: b).getD j 0
 | [],[],_,0,h => absurd rfl h
 | [],[],_,j + 1,_ => by simpa using leL.rd hb j
 | x :: a',y :: a,h,0,_ => by simpa using h.1
 | x :: a',y :: a,h,j + 1,hj => by simpa using leL_mid hb h.2 j (by simpa using hj)
 | [],_ :: _,h,_,_ => h.elim
 | _ :: _,[],h,_,_ => h.elim
theorem rd_diff {X Y : List Int} (hl : X.length = Y.length) {i : Int} (h0 : 0 ≤ i) (h1 : i < X.length) : rd (diffL X Y) i = rd X i - rd Y i := by
 have hi : i.toNat < X.length := by omega
 have hj : i.toNat < Y.length := by omega
 have e1 : X[i.toNat]? = some X[i.toNat] := List.getElem?_eq_getElem hi
 have e2 : Y[i.toNat]? = some Y[i.toNat] := List.getElem?_eq_getElem hj
 simp [rd,diffL,List.getElem?_zipWith,e1,e2]
theorem sum_drop {X : List Int} {i : Int} (h0 : 0 ≤ i) (h1 : i < X.length) : (X.drop i.toNat).sum = rd X i + (X.drop (i.toNat + 1)).sum := by
 rw [List.drop_eq_getElem_cons (by omega : i.toNat < X.length),List.sum_cons];simp [rd,(by omega : i.toNat < X.length)]
section
variable {rows : List S126} {draw : Int} {noz : List S64} {weir spill : Int}
theorem chg_back {n h : Int} (h0 : 0 ≤ n) (h1 : n < noz.length) : chgH (chgH noz n h) n (rd_T64 noz n).f1 = noz := by
 have hn : n.toNat < noz.length := by omega
 have e : rd_T64 (chgH noz n h) n = (⟨(rd_T64 noz n).f0,h⟩ : S64) := by simp [rd_T64,chgH,hn]
 unfold chgH at e ⊢
 rw [e,List.set_set]
 have : rd_T64 noz n = noz[n.toNat] := by simp [rd_T64,hn]
 show noz.set n.toNat (rd_T64 noz n) = noz
 rw [this,List.set_getElem_self]
theorem low_shares (hB : OkB rows draw noz weir spill) {n h c : Int} (hc : okC noz n h = true) (hl : h ≤ (rd_T64 noz n).f1) (c0 : 0 ≤ c) :
 c - (shareL rows (chgH noz n h) weir spill c).sum ≤ c - (shareL rows noz weir spill c).sum ∧ rd (shareL rows noz weir spill c) n ≤ rd (shareL rows (chgH noz n h) weir spill c) n ∧
 ∀ i,0 ≤ i → i ≠ n → rd (shareL rows (chgH noz n h) weir spill c) i ≤ rd (shareL rows noz weir spill c) i := by
 obtain ⟨c1,c2⟩ := okC_iff.1 hc
 have hn : n.toNat < noz.length := by omega
 have hB' := chgH_ok hB hc
 have e : noz = noz.take n.toNat ++ rd_T64 noz n :: noz.drop (n.toNat + 1) := by
  have : rd_T64 noz n = noz[n.toNat] := by simp [rd_T64,hn]
  rw [this,← List.drop_eq_getElem_cons hn,List.take_append_drop]
 have e' : chgH noz n h = noz.take n.toNat ++ (⟨(rd_T64 noz n).f0,h⟩ : S64) :: noz.drop (n.toNat + 1) := by
  unfold chgH;rw [List.set_eq_take_append_cons_drop,if_pos hn]
 have lt : (noz.take n.toNat).length = n.toNat := by rw [List.length_take];omega
 have hB2 : OkB rows draw (noz.take n.toNat ++ rd_T64 noz n :: noz.drop (n.toNat + 1)) weir spill := by rw [← e];exact hB
 have hB3 : OkB rows draw (noz.take n.toNat ++ (⟨(rd_T64 noz n).f0,h⟩ : S64) :: noz.drop (n.toNat + 1)) weir spill := by rw [← e'];exact hB'
 obtain ⟨sP,s,sQ,sP',s',sQ',h1,h2,l1,l2,a,b,o⟩ := lower hB2 hB3 rfl hl c0
 rw [← e] at h1 o
 rw [← e'] at h2 o
 refine ⟨o,?_,?_⟩
 · have q1 := rd_app sP s sQ
   have q2 := rd_app sP' s' sQ'
   rw [show (sP.length : Int) = n by omega] at q1
   rw [show (sP'.length : Int) = n by omega] at q2
   rw [h1,h2] at o ⊢
   rw [q1,q2]
   have u := leL_sum a
   have v := leL_sum b
   simp only [List.sum_append,List.sum_cons] at o
   omega
 · intro i i0 hi
   rw [h1,h2]
   exact leL_mid b a i.toNat (by omega)
theorem low_go {X Y : List Int} (hl : X.length = Y.length) (hb : X.length ≤ 100) (hX : ∀ x ∈ X,0 ≤ x ∧ x ≤ 1000) (hY : ∀ x ∈ Y,0 ≤ x ∧ x ≤ 1000) {low : Bool} {n h : Int}
 (hlow : low = true → rd Y n ≤ rd X n ∧ ∀ i,0 ≤ i → i ≠ n → rd X i ≤ rd Y i) :
 ∀ (d k : Nat) (i : Int),0 ≤ i → i + d = X.length → d < k → l4_CastleLow.l0 k (diffL X Y) (diffL Y X) (X.length : Int) low ((Y.drop i.toNat).sum - (X.drop i.toNat).sum) i n h = some true
 | 0,k,i,h0,h1,hk => by
  obtain ⟨k,rfl⟩ := ksucc (by omega : 0 < k)
  simp only [l4_CastleLow.l0]
  rw [if_neg (by omega),List.drop_of_length_le (by omega),List.drop_of_length_le (by omega),if_pos (by simp),known_true]
  rfl
 | d + 1,k,i,h0,h1,hk => by
  obtain ⟨k,rfl⟩ := ksucc (by omega : 0 < k)
  have ld : (diffL X Y).length = X.length := by simp [diffL];omega
  have ld' : (diffL Y X).length = X.length := by simp [diffL];omega
  have x := rd_in hX h0 (by omega)
  have y := rd_in hY h0 (by omega)
  have sX := sum_drop (X := X) h0 (by omega)
  have sY := sum_drop (X := Y) h0 (by omega)
  have bX := sum_bd (l := X.drop i.toNat) (B := 1000) (by omega) (fun z hz => by have := hX z (List.mem_of_mem_drop hz);omega)
  have bY := sum_bd (l := Y.drop i.toNat) (B := 1000) (by omega) (fun z hz => by have := hY z (List.mem_of_mem_drop hz);omega)
  have nX := sum_nn (fun z hz => (hX z (List.mem_of_mem_drop (i := i.toNat) hz)).1)
  have nY := sum_nn (fun z hz => (hY z (List.mem_of_mem_drop (i := i.toNat) hz)).1)
  have lX : (X.drop i.toNat).length ≤ 100 := by simp;omega
  have lY : (Y.drop i.toNat).length ≤ 100 := by simp;omega
  have ih := low_go hl hb hX hY (n := n) (h := h) hlow d k (i + 1) (by omega) (by omega) (by omega)
  rw [show (i + 1).toNat = i.toNat + 1 by omega,show (Y.drop (i.toNat + 1)).sum - (X.drop (i.toNat + 1)).sum = (Y.drop i.toNat).sum - (X.drop i.toNat).sum + (rd X i - rd Y i) by omega] at ih
  simp only [l4_CastleLow.l0]
  rw [if_pos (by omega),if_pos h0,if_pos (by omega),rd_diff hl h0 (by omega),rd_diff hl.symm h0 (by omega),if_neg (by omega),if_neg (by omega),if_pos (by omega),w64 (n := -(rd X i - rd Y i)) (by omega),if_pos (by omega),w64 (n := i + 1) (by omega),w64 (n := (Y.drop i.toNat).sum - (X.drop i.toNat).sum + (rd X i - rd Y i)) (by omega)]
  cases low with
  | false => rw [if_neg (by decide)];exact ih
  | true =>
   rw [if_pos rfl]
   obtain ⟨p,q⟩ := hlow rfl
   by_cases e : i = n
   · rw [if_pos e,if_neg (by rw [e];omega)];exact ih
   · rw [if_neg e,if_neg (by have := q i h0 e;omega)];exact ih
end
theorem low_pure (rows : List S126) (draw : Int) (noz : List S64) (weir spill n hh cups : Int) {k : Nat} (hk : 500 ≤ k) : l4_CastleLow.f k rows draw noz weir spill n hh cups = some true := by
 have nope : ∀ k,l4_CastleLow.j0 (k + 1) cups true rows draw noz weir spill n hh = some true := by
  intro k
  simp only [l4_CastleLow.j0]
  rw [if_pos trivial,known_true];rfl
 obtain ⟨k,rfl⟩ : ∃ m,k = m + 1 + 1 + 1 := ⟨k - 3,by omega⟩
 unfold l4_CastleLow.f
 rw [short_eq,Option.bind_some]
 by_cases s : rows.length ≤ 15 ∧ noz.length ≤ 8
 case neg => rw [decide_eq_false s,if_neg (by decide),nope]
 rw [decide_eq_true s,if_pos rfl,refBasin_eq (by omega) (by omega) (by omega),Option.bind_some]
 cases b : okB rows draw noz weir spill with
 | false => rw [if_neg (by decide),nope]
 | true =>
  rw [if_pos rfl,change_eq (by omega),Option.bind_some]
  cases c : okC noz n hh with
  | false => rw [if_neg (by decide),nope]
  | true =>
   rw [if_pos rfl,r_cups,Option.bind_some]
   by_cases f : 0 ≤ cups ∧ cups ≤ 10000
   case neg => rw [decide_eq_false f];exact nope _
   rw [decide_eq_true f]
   have h := okB_iff.1 b
   have h' := chgH_ok h c
   obtain ⟨c1,c2⟩ := okC_iff.1 c
   have n2 := h.n2
   have hn : n.toNat < noz.length := by omega
   have cb : okC (chgH noz n hh) n (rd_T64 noz n).f1 = true := by
    rw [okC_iff,chgH_len]
    have := h.nn _ (getD_mem (xs := noz) z64 c1.1 (by omega))
    exact ⟨c1,by unfold rd_T64;exact this.2.2⟩
   have s1 := shareL_in h f.1
   have s2 := shareL_in h' f.1
   have u1 := shsum h f.1
   have u2 := shsum h' f.1
   have L := low_shares (n := n) (h := hh) (c := cups) h c
   simp only [l4_CastleLow.j0,Bool.not_true,Bool.false_eq_true,if_false]
   rw [if_pos c1.1,if_pos (by omega),cGains_eq h c f.1 f.2 (by omega),Option.bind_some,with_eq c (by omega),Option.bind_some,cGains_eq h' cb f.1 f.2 (by omega),Option.bind_some]
   unfold gainL gainO
   rw [chg_back c1.1 (by omega)]
   rw [chgH_len] at s2
   simp only [if_true]
   generalize shareL rows (chgH noz n hh) weir spill cups = X at *
   generalize shareL rows noz weir spill cups = Y at *
   have ld : (diffL X Y).length = noz.length := by simp [diffL];omega
   have ld' : (diffL Y X).length = noz.length := by simp [diffL];omega
   rw [if_pos (by omega),if_pos (by omega),if_neg (by omega),if_neg (by omega),if_neg (by omega),w64 (by omega)]
   have ne : ((cups - Y.sum - (cups - X.sum)) != -((cups - X.sum) - (cups - Y.sum))) = false := by simp;omega
   rw [ne]
   simp only [l4_CastleLow.j1,Bool.false_eq_true,if_false]
   have go : ∀ low : Bool,(low = true → rd Y n ≤ rd X n ∧ ∀ i,0 ≤ i → i ≠ n → rd X i ≤ rd Y i) → l4_CastleLow.l0 k (diffL X Y) (diffL Y X) (noz.length : Int) low (cups - X.sum - (cups - Y.sum)) 0 n hh = some true := by
    intro low hlow
    have := low_go (X := X) (Y := Y) (low := low) (n := n) (h := hh) (by omega) (by omega) s2.1 s1.1 hlow X.length k 0 (by omega) (by omega) (by omega)
    rw [s2.2] at this
    simpa [show cups - X.sum - (cups - Y.sum) = Y.sum - X.sum by omega] using this
   by_cases low : hh ≤ (rd_T64 noz n).f1
   · have l := L low f.1
     rw [if_pos low,decide_eq_true low,decide_eq_false (by omega)]
     simp only [l4_CastleLow.j2,Bool.false_eq_true,if_false]
     exact go true fun _ => l.2
   · rw [if_neg low,decide_eq_false low]
     simp only [l4_CastleLow.j2,Bool.false_eq_true,if_false]
     exact go false fun h => by simp at h
end Go.Proofs.YticlelgmmonloaaGreatDoor.C

/- A part of the proof: the walks of the functions that it reaches. TIGHT. -/
import Derived.Test.YticlelgmmonloaaGreatDoorM20
import Derived.Test.YticlelgmmonloaaGreatDoorLBounds3
set_option linter.unusedVariables false
set_option linter.unusedSimpArgs false
namespace Go.Proofs.YticlelgmmonloaaGreatDoor.C
open Go.RowKit Go.Proofs.YticlelgmmonloaaGreatDoorW.PrintWords Go.Proofs.YticlelgmmonloaaGreatDoorW.PrintLast Go.Proofs.YticlelgmmonloaaGreatDoorW.PrintMore
set_option linter.unusedVariables false
set_option linter.unusedSimpArgs false
set_option maxHeartbeats 16000000
set_option maxRecDepth 100000
def zipS (X Y : List Int) : List S40 := List.zipWith (fun a b => (⟨a,b⟩ : S40)) X Y
theorem drop_rd {X : List Int} {i : Int} (h0 : 0 ≤ i) (h1 : i < X.length) : X.drop i.toNat = rd X i :: X.drop (i.toNat + 1) := by
 have hi : i.toNat < X.length := by omega
 rw [List.drop_eq_getElem_cons hi];simp [rd,hi]
theorem zipS_drop {X Y : List Int} {i : Int} (hl : X.length = Y.length) (h0 : 0 ≤ i) (h1 : i < X.length) : zipS (X.drop i.toNat) (Y.drop i.toNat) = (⟨rd X i,rd Y i⟩ : S40) :: zipS (X.drop (i.toNat + 1)) (Y.drop (i.toNat + 1)) := by
 rw [drop_rd h0 h1,drop_rd h0 (by omega)];rfl
theorem cb_go (X Y : List Int) (a b : Int) (hl : X.length = Y.length) (hb : X.length ≤ 100) : ∀ (d k : Nat) (i : Int) (out : List S40),0 ≤ i → i + d = X.length → d < k → out.length + d ≤ 1000 →
 ca_Bounds.l0 k X a Y b out (X.length : Int) i = some (out ++ zipS (X.drop i.toNat) (Y.drop i.toNat),a,b,0)
 | 0,k,i,out,h0,h1,hk,ho => by
  obtain ⟨k,rfl⟩ := ksucc (by omega : 0 < k)
  simp only [ca_Bounds.l0]
  rw [if_neg (by omega),List.drop_of_length_le (by omega)]
  simp [zipS]
 | d + 1,k,i,out,h0,h1,hk,ho => by
  obtain ⟨k,rfl⟩ := ksucc (by omega : 0 < k)
  simp only [ca_Bounds.l0]
  rw [if_pos (by omega),if_pos h0,if_pos (by omega),if_pos (by omega),if_pos (by omega),w64 (n := i + 1) (by omega),zipS_drop hl h0 (by omega)]
  rw [cb_go X Y a b hl hb d k (i + 1) _ (by omega) (by omega) (by omega) (by simp;omega),show (i + 1).toNat = i.toNat + 1 by omega]
  simp
theorem rb_go (X Y : List Int) (a b : Int) (hl : X.length = Y.length) (hb : X.length ≤ 100) : ∀ (d k : Nat) (i : Int) (out : List S40),0 ≤ i → i + d = X.length → d < k → out.length + d ≤ 1000 →
 q4_Bounds.l0 k X a Y b out i = some (out ++ zipS (X.drop i.toNat) (Y.drop i.toNat),a,b)
 | 0,k,i,out,h0,h1,hk,ho => by
  obtain ⟨k,rfl⟩ := ksucc (by omega : 0 < k)
  simp only [q4_Bounds.l0]
  rw [if_neg (by omega),List.drop_of_length_le (by omega)]
  simp [zipS]
 | d + 1,k,i,out,h0,h1,hk,ho => by
  obtain ⟨k,rfl⟩ := ksucc (by omega : 0 < k)
  simp only [q4_Bounds.l0]
  rw [if_pos (by omega),if_pos h0,if_pos (by omega),if_pos (by omega),w64 (n := i + 1) (by omega),zipS_drop hl h0 (by omega)]
  rw [rb_go X Y a b hl hb d k (i + 1) _ (by omega) (by omega) (by omega) (by simp;omega),show (i + 1).toNat = i.toNat + 1 by omega]
  simp
theorem ss_go (xs : List S40) (hb : xs.length ≤ 1000) : ∀ (d k : Nat) (i : Int),0 ≤ i → i + d = xs.length → d < k → q4_SameSpans.l0 k xs xs i = some true
 | 0,k,i,h0,h1,hk => by
  obtain ⟨k,rfl⟩ := ksucc (by omega : 0 < k)
  simp only [q4_SameSpans.l0]
  rw [if_neg (by omega)]
 | d + 1,k,i,h0,h1,hk => by
  obtain ⟨k,rfl⟩ := ksucc (by omega : 0 < k)
  simp only [q4_SameSpans.l0]
  rw [if_pos (by omega),if_pos h0,if_pos (by omega),if_neg (by simp),w64 (n := i + 1) (by omega)]
  exact ss_go xs hb d k (i + 1) (by omega) (by omega) (by omega)
theorem ss_refl {xs : List S40} (hb : xs.length ≤ 1000) {k : Nat} (hk : xs.length < k) : q4_SameSpans.f k xs xs = some true := by
 unfold q4_SameSpans.f
 rw [if_pos rfl]
 exact ss_go xs hb xs.length k 0 (by omega) (by omega) hk
section
variable {rows : List S126} {draw : Int} {noz : List S64} {weir spill : Int}
def bndL (rows : List S126) (noz : List S64) (weir spill a b : Int) : List S40 := zipS (shareL rows noz weir spill a) (shareL rows noz weir spill b)
theorem cBounds_eq (h : OkB rows draw noz weir spill) {a b : Int} (ha : 0 ≤ a) (hab : a ≤ b) (hb : b ≤ 10000) {k : Nat} (hk : 410 ≤ k) :
 ca_Bounds.f k rows draw noz weir spill a b = some (bndL rows noz weir spill a b,a - (shareL rows noz weir spill a).sum,b - (shareL rows noz weir spill b).sum,0) := by
 obtain ⟨k,rfl⟩ := ksucc (by omega : 0 < k)
 have s1 := shareL_in h ha
 have s2 := shareL_in h (show 0 ≤ b by omega)
 have n2 := h.n2
 unfold ca_Bounds.f
 rw [isBasin_eq (by have := h.r2;omega),okB_iff.2 h,Option.bind_some,if_pos rfl,isSpanF_eq,spanF_iff.2 ⟨ha,hab,hb⟩,Option.bind_some]
 simp only [ca_Bounds.j0,Bool.not_true]
 rw [if_neg (by decide),fill_eq h (by omega),Option.bind_some]
 simp only [shares_eq h ha (show a ≤ 10000 by omega) (show 20 ≤ k by omega),shares_eq h (show 0 ≤ b by omega) hb (show 20 ≤ k by omega),Option.bind_some]
 rw [cb_go _ _ _ _ (by rw [s1.2,s2.2]) (by rw [s1.2];omega) (shareL rows noz weir spill a).length k 0 [] (by omega) (by omega) (by rw [s1.2];omega) (by rw [s1.2];simp;omega)]
 rfl
theorem rBounds_eq (h : OkB rows draw noz weir spill) {a b : Int} (ha : 0 ≤ a) (hab : a ≤ b) (hb : b ≤ 10000) {k : Nat} (hk : 70 ≤ k) :
 q4_Bounds.f k rows draw noz weir spill a b = some (bndL rows noz weir spill a b,a - (shareL rows noz weir spill a).sum,b - (shareL rows noz weir spill b).sum) := by
 have s1 := shareL_in h ha
 have s2 := shareL_in h (show 0 ≤ b by omega)
 have n2 := h.n2
 unfold q4_Bounds.f
 rw [rShares_eq h ha (by omega) (by omega),Option.bind_some,rShares_eq h (by omega) hb (by omega),Option.bind_some]
 simp only
 rw [rb_go _ _ _ _ (by rw [s1.2,s2.2]) (by rw [s1.2];omega) (shareL rows noz weir spill a).length k 0 [] (by omega) (by omega) (by rw [s1.2];omega) (by rw [s1.2];simp;omega)]
 rfl
theorem bndL_len (h : OkB rows draw noz weir spill) {a b : Int} (ha : 0 ≤ a) (hb : 0 ≤ b) : (bndL rows noz weir spill a b).length = noz.length := by
 simp [bndL,zipS,(shareL_in h ha).2,(shareL_in h hb).2]
theorem cBounds_bad (hl : rows.length ≤ 1000) {a b : Int} (hb : ¬ (okB rows draw noz weir spill = true ∧ spanF a b = true)) {k : Nat} (hk : 1 ≤ k) : ca_Bounds.f k rows draw noz weir spill a b = some ([],0,0,2) := by
 obtain ⟨k,rfl⟩ := ksucc (by omega : 0 < k)
 unfold ca_Bounds.f
 rw [isBasin_eq hl,Option.bind_some]
 cases c : okB rows draw noz weir spill with
 | false => rfl
 | true =>
  rw [if_pos rfl,isSpanF_eq,Option.bind_some]
  cases e : spanF a b with
  | false => rfl
  | true => exact absurd ⟨c,e⟩ hb
theorem cLevel_bad (hl : rows.length ≤ 1000) {a b : Int} (hb : ¬ (okB rows draw noz weir spill = true ∧ spanF a b = true)) {k : Nat} (hk : 1 ≤ k) : ca_Level.f k rows draw noz weir spill a b = some (0,0,2) := by
 obtain ⟨k,rfl⟩ := ksucc (by omega : 0 < k)
 unfold ca_Level.f
 rw [isBasin_eq hl,Option.bind_some]
 cases c : okB rows draw noz weir spill with
 | false => rfl
 | true =>
  rw [if_pos rfl,isSpanF_eq,Option.bind_some]
  cases e : spanF a b with
  | false => rfl
  | true => exact absurd ⟨c,e⟩ hb
end
theorem bounds_pure (rows : List S126) (draw : Int) (noz : List S64) (weir spill a b : Int) {k : Nat} (hk : 500 ≤ k) : l4_CastleBounds.f k rows draw noz weir spill a b = some true := by
 obtain ⟨k,rfl⟩ := ksucc (by omega : 0 < k)
 unfold l4_CastleBounds.f
 rw [short_eq,Option.bind_some]
 by_cases s : rows.length ≤ 15 ∧ noz.length ≤ 8
 case neg => rw [decide_eq_false s,if_neg (by decide),known_true];rfl
 rw [decide_eq_true s,if_pos rfl]
 by_cases hb : okB rows draw noz weir spill = true ∧ spanF a b = true
 · have h := okB_iff.1 hb.1
   have hs := spanF_iff.1 hb.2
   have hn := h.n2
   have hL := bndL_len h hs.1 (show 0 ≤ b by omega)
   rw [cLevel_eq h hs.1 hs.2.1 hs.2.2 (by omega),Option.bind_some,cBounds_eq h hs.1 hs.2.1 hs.2.2 (by omega),Option.bind_some,refBasin_eq (by omega) (by omega) (by omega),hb.1,Option.bind_some,if_pos rfl,flow_eq,hb.2,Option.bind_some]
   simp only [l4_CastleBounds.j0,Bool.not_true,Bool.false_eq_true,if_false]
   rw [rBounds_eq h hs.1 hs.2.1 hs.2.2 (by omega),Option.bind_some]
   simp only [if_true,stands_eq h hs.1 (show 51 ≤ k by omega),stands_eq h (show 0 ≤ b by omega) (show 51 ≤ k by omega),Option.bind_some]
   rw [ss_refl (by omega) (by omega)]
   simp [known_true]
 · rw [cLevel_bad (by omega) hb (by omega),Option.bind_some,cBounds_bad (by omega) hb (by omega),Option.bind_some,refBasin_eq (by omega) (by omega) (by omega),Option.bind_some]
   cases c : okB rows draw noz weir spill with
   | false => simp [l4_CastleBounds.j0,known_true]
   | true =>
    rw [if_pos rfl,flow_eq,Option.bind_some]
    cases e : spanF a b with
    | true => exact absurd ⟨c,e⟩ hb
    | false => simp [l4_CastleBounds.j0,known_true]
end Go.Proofs.YticlelgmmonloaaGreatDoor.C

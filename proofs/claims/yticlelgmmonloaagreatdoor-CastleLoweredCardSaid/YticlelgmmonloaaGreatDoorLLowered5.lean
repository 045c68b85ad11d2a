/- A part of the proof: the walks of the functions that it reaches. TIGHT. -/
import Derived.Test.YticlelgmmonloaaGreatDoorLLowered4
set_option linter.unusedVariables false
set_option linter.unusedSimpArgs false
namespace Go.Proofs.YticlelgmmonloaaGreatDoor.C
open Go.RowKit Go.Proofs.YticlelgmmonloaaGreatDoorW.PrintWords Go.Proofs.YticlelgmmonloaaGreatDoorW.PrintLast Go.Proofs.YticlelgmmonloaaGreatDoorW.PrintMore
set_option linter.unusedVariables false
set_option linter.unusedSimpArgs false
set_option maxHeartbeats 16000000
set_option maxRecDepth 100000
theorem ra_go (S : List Int) (C : List S40) (hS : S.length = C.length) (hC : C.length ≤ 100) : ∀ (d k : Nat) (i : Int),0 ≤ i → i + d = C.length → d < k → q4_Agrees.l0 k C S i = some (agr (S.drop i.toNat) (C.drop i.toNat))
 | 0,k,i,h0,h1,hk => by
  obtain ⟨k,rfl⟩ := ksucc (by omega : 0 < k)
  simp only [q4_Agrees.l0]
  rw [if_neg (by omega),List.drop_of_length_le (by omega : S.length ≤ i.toNat)]
  rfl
 | d + 1,k,i,h0,h1,hk => by
  obtain ⟨k,rfl⟩ := ksucc (by omega : 0 < k)
  simp only [q4_Agrees.l0]
  rw [if_pos (by omega),if_pos h0,if_pos (by omega),r4_in,Option.bind_some,drop_int h0 (by omega),drop_span h0 (by omega),w64 (n := i + 1) (by omega)]
  by_cases c : (rd_T40 C i).f0 ≤ rd S i ∧ rd S i ≤ (rd_T40 C i).f1
  · rw [decide_eq_true c,if_pos rfl,ra_go S C hS hC d k (i + 1) (by omega) (by omega) (by omega),show (i + 1).toNat = i.toNat + 1 by omega]
    simp only [agr,decide_eq_true c,Bool.true_and]
  · rw [decide_eq_false c,if_neg (by decide)]
    simp only [agr,decide_eq_false c,Bool.false_and]
section
variable {rows : List S126} {draw : Int} {noz : List S64} {weir spill : Int}
theorem agrees_eq (h : OkB rows draw noz weir spill) {cups : Int} (c0 : 0 ≤ cups) (c1 : cups ≤ 10000) {C : List S40} (hC : C.length = noz.length) {k : Nat} (hk : 70 ≤ k) :
 q4_Agrees.f k rows draw noz weir spill cups C = some (agr (shareL rows noz weir spill cups) C) := by
 have S := shareL_in h c0
 have n2 := h.n2
 unfold q4_Agrees.f
 rw [rShares_eq h c0 c1 (by omega),Option.bind_some]
 have := ra_go (shareL rows noz weir spill cups) C (by rw [S.2,hC]) (by omega) C.length k 0 (by omega) (by omega) (by omega)
 simpa using this
theorem rl1 (hB : OkB rows draw noz weir spill) {cups : Int} (c0 : 0 ≤ cups) (c1 : cups ≤ 10000) {C : List S40} (hC : C.length = noz.length) {n : Int} (n0 : 0 ≤ n) (n1 : n < noz.length) {r : Option (List S58)} {N0 : Nat} (hN : 80 ≤ N0) :
 ∀ (d : Nat) (h : Int) (out : List S58),0 ≤ h → h + d = 41 → out.length + d ≤ 1000 →
  (∀ k,N0 ≤ k → q4_Lowered.l0 k cups C (out ++ colL rows noz weir spill cups C n h d) (n + 1) rows draw noz weir spill = r) →
  ∀ k,N0 + d + 1 ≤ k → q4_Lowered.l1 k cups C out n h rows draw noz weir spill = r
 | 0,h,out,h0,h1,ho,hr,k,hk => by
  obtain ⟨k,rfl⟩ := ksucc (by omega : 0 < k)
  simp only [q4_Lowered.l1]
  rw [if_neg (by omega),w64 (n := n + 1) (by have := hB.n2;omega)]
  have := hr k (by omega)
  simpa [colL] using this
 | d + 1,h,out,h0,h1,ho,hr,k,hk => by
  have n2 := hB.n2
  obtain ⟨k,rfl⟩ := ksucc (by omega : 0 < k)
  simp only [q4_Lowered.l1]
  rw [if_pos (by omega),if_pos n0,if_pos n1,w64 (n := h + 1) (by omega)]
  have next : ∀ (o : List S58),o.length + d ≤ 1000 → o = out ++ (if hit rows noz weir spill cups C n h then [(⟨n,h⟩ : S58)] else []) →
   q4_Lowered.l1 k cups C o n (h + 1) rows draw noz weir spill = r := by
   intro o hol he
   refine rl1 hB c0 c1 hC n0 n1 hN d (h + 1) o (by omega) (by omega) hol ?_ k (by omega)
   intro k hk
   have := hr k hk
   rw [he]
   simpa [colL,List.append_assoc] using this
  by_cases e : h = (rd_T64 noz n).f1
  · rw [if_pos e]
    exact next out (by omega) (by simp [hit,e])
  · rw [if_neg e]
    have hc : okC noz n h = true := okC_iff.2 ⟨⟨n0,by omega⟩,h0,by omega⟩
    have hB' := chgH_ok hB hc
    rw [with_eq hc (by omega),Option.bind_some,agrees_eq hB' c0 c1 (by rw [chgH_len,hC]) (by omega),Option.bind_some]
    have hh : hit rows noz weir spill cups C n h = agr (shareL rows (chgH noz n h) weir spill cups) C := by simp [hit,e]
    cases g : agr (shareL rows (chgH noz n h) weir spill cups) C with
    | true =>
     rw [if_pos rfl,if_pos (by omega)]
     exact next _ (by simp only [List.length_append,List.length_singleton];omega) (by rw [hh,g];simp)
    | false =>
     rw [if_neg (by decide)]
     exact next _ (by omega) (by rw [hh,g];simp)
theorem rl0 (hB : OkB rows draw noz weir spill) {cups : Int} (c0 : 0 ≤ cups) (c1 : cups ≤ 10000) {C : List S40} (hC : C.length = noz.length) :
 ∀ (d : Nat) (n : Int) (out : List S58),0 ≤ n → n + d = noz.length → out.length + 41 * d ≤ 900 →
  ∀ k,90 + d * 44 ≤ k → q4_Lowered.l0 k cups C out n rows draw noz weir spill = some (out ++ rowL rows noz weir spill cups C n d)
 | 0,n,out,n0,n1,ho,k,hk => by
  obtain ⟨k,rfl⟩ := ksucc (by omega : 0 < k)
  simp only [q4_Lowered.l0]
  rw [if_neg (by omega)]
  simp [rowL]
 | d + 1,n,out,n0,n1,ho,k,hk => by
  obtain ⟨k,rfl⟩ := ksucc (by omega : 0 < k)
  simp only [q4_Lowered.l0]
  rw [if_pos (by omega)]
  have cl := colL_len (rows := rows) (noz := noz) (weir := weir) (spill := spill) cups C n 41 0
  refine rl1 hB c0 c1 hC n0 (by omega) (N0 := 90 + d * 44) (by omega) 41 0 out (by omega) (by omega) (by omega) ?_ k (by omega)
  intro k hk
  rw [rl0 hB c0 c1 hC d (n + 1) _ (by omega) (by omega) (by simp;omega) k hk]
  simp [rowL]
def okS (C : List S40) : Bool := C.all fun z => spanF z.f0 z.f1
theorem counts_go (C : List S40) (hC : C.length ≤ 1000) (hn : noz.length ≤ 1000) : ∀ (d k : Nat) (i : Int),0 ≤ i → i + d = C.length → d < k →
 q4_Counts.l0 k C i rows draw noz weir spill = some (okS (C.drop i.toNat) && decide (C.length = noz.length))
 | 0,k,i,h0,h1,hk => by
  obtain ⟨k,rfl⟩ := ksucc (by omega : 0 < k)
  simp only [q4_Counts.l0]
  rw [if_neg (by omega),List.drop_of_length_le (by omega)]
  congr 1
  simp only [okS,List.all_nil,Bool.true_and]
  by_cases e : C.length = noz.length
  · simp [e]
  · rw [decide_eq_false e,beq_eq_false_iff_ne];omega
 | d + 1,k,i,h0,h1,hk => by
  obtain ⟨k,rfl⟩ := ksucc (by omega : 0 < k)
  simp only [q4_Counts.l0]
  rw [if_pos (by omega),if_pos h0,flow_eq,Option.bind_some,w64 (n := i + 1) (by omega),drop_span h0 (by omega)]
  cases c : spanF (rd_T40 C i).f0 (rd_T40 C i).f1 with
  | true =>
   rw [if_pos rfl,counts_go C hC hn d k (i + 1) (by omega) (by omega) (by omega),show (i + 1).toNat = i.toNat + 1 by omega]
   simp [okS,c]
  | false =>
   rw [if_neg (by decide)]
   simp [okS,c]
theorem counts_eq {C : List S40} (hC : C.length ≤ 1000) (hn : noz.length ≤ 1000) {k : Nat} (hk : C.length < k) : q4_Counts.f k rows draw noz weir spill C = some (okS C && decide (C.length = noz.length)) := by
 unfold q4_Counts.f
 have := counts_go (rows := rows) (draw := draw) (noz := noz) (weir := weir) (spill := spill) C hC hn C.length k 0 (by omega) (by omega) hk
 simpa using this
theorem cfl_eq (C : List S40) : cf_Lowered.f C = some (!okS C) := by
 have : ∀ x : S40,ca_Lowered_1.f x.f0 x.f1 = some (!spanF x.f0 x.f1) := by
  intro x;unfold ca_Lowered_1.f;rw [isSpanF_eq];rfl
 unfold cf_Lowered.f
 rw [anyM_total this]
 simp [okS,List.all_eq_not_any_not]
theorem cLowered_eq (h : OkB rows draw noz weir spill) {cups : Int} (c0 : 0 ≤ cups) (c1 : cups ≤ 10000) {C : List S40} (hC : C.length = noz.length) (hS : okS C = true) {k : Nat} (hk : 3000 ≤ k) :
 ca_Lowered.f k rows draw noz weir spill cups C = some (rowL rows noz weir spill cups C 0 noz.length,0) := by
 obtain ⟨k,rfl⟩ := ksucc (by omega : 0 < k)
 have n2 := h.n2
 have n3 : noz.length * (43 * (noz.length + 2)) ≤ 6 * (43 * 8) := Nat.mul_le_mul n2 (Nat.mul_le_mul_left _ (by omega))
 unfold ca_Lowered.f
 rw [isBasin_eq (by have := h.r2;omega),okB_iff.2 h,Option.bind_some,if_pos rfl,c_flow,decide_eq_true ⟨c0,c1⟩,Option.bind_some,if_pos rfl,if_pos (by omega),cfl_eq,hS,Option.bind_some]
 simp only [ca_Lowered.j0,Bool.not_true]
 rw [if_neg (by decide)]
 have := cl0 h c0 c1 hC noz.length 0 [] (by omega) (by omega) (by simp;omega) k (by omega)
 simpa using this
theorem cLowered_bad (hl : rows.length ≤ 1000) {cups : Int} {C : List S40} (hb : ¬ (okB rows draw noz weir spill = true ∧ (0 ≤ cups ∧ cups ≤ 10000) ∧ C.length = noz.length ∧ okS C = true)) {k : Nat} (hk : 1 ≤ k) :
 ca_Lowered.f k rows draw noz weir spill cups C = some ([],2) := by
 obtain ⟨k,rfl⟩ := ksucc (by omega : 0 < k)
 unfold ca_Lowered.f
 rw [isBasin_eq hl,Option.bind_some]
 cases b : okB rows draw noz weir spill with
 | false => rfl
 | true =>
  rw [if_pos rfl,c_flow,Option.bind_some]
  by_cases c : 0 ≤ cups ∧ cups ≤ 10000
  case neg => rw [decide_eq_false c];rfl
  rw [decide_eq_true c,if_pos rfl]
  by_cases e : C.length = noz.length
  case neg => rw [if_neg (by omega)];rfl
  rw [if_pos (by omega),cfl_eq,Option.bind_some]
  cases f : okS C with
  | false => rfl
  | true => exact absurd ⟨b,c,e,f⟩ hb
theorem rLowered_eq (h : OkB rows draw noz weir spill) {cups : Int} (c0 : 0 ≤ cups) (c1 : cups ≤ 10000) {C : List S40} (hC : C.length = noz.length) {k : Nat} (hk : 400 ≤ k) :
 q4_Lowered.f k rows draw noz weir spill cups C = some (rowL rows noz weir spill cups C 0 noz.length) := by
 have n2 := h.n2
 unfold q4_Lowered.f
 have := rl0 h c0 c1 hC noz.length 0 [] (by omega) (by omega) (by simp;omega) k (by omega)
 simpa using this
end
theorem sc_go (xs : List S58) (hb : xs.length ≤ 1000) : ∀ (d k : Nat) (i : Int),0 ≤ i → i + d = xs.length → d < k → q4_SameChanges.l0 k xs xs i = some true
 | 0,k,i,h0,h1,hk => by
  obtain ⟨k,rfl⟩ := ksucc (by omega : 0 < k)
  simp only [q4_SameChanges.l0]
  rw [if_neg (by omega)]
 | d + 1,k,i,h0,h1,hk => by
  obtain ⟨k,rfl⟩ := ksucc (by omega : 0 < k)
  simp only [q4_SameChanges.l0]
  rw [if_pos (by omega),if_pos h0,if_pos (by omega),if_neg (by simp),w64 (n := i + 1) (by omega)]
  exact sc_go xs hb d k (i + 1) (by omega) (by omega) (by omega)
theorem sc_refl {xs : List S58} (hb : xs.length ≤ 1000) {k : Nat} (hk : xs.length < k) : q4_SameChanges.f k xs xs = some true := by
 unfold q4_SameChanges.f
 rw [if_pos rfl]
 exact sc_go xs hb xs.length k 0 (by omega) (by omega) hk
theorem lowered_pure (rows : List S126) (draw : Int) (noz : List S64) (weir spill cups : Int) (C : List S40) {k : Nat} (hk : 3500 ≤ k) : l4_CastleLowered.f k rows draw noz weir spill cups C = some true := by
 obtain ⟨k,rfl⟩ : ∃ m,k = m + 1 + 1 := ⟨k - 2,by omega⟩
 unfold l4_CastleLowered.f
 rw [short_eq,Option.bind_some]
 have nope : l4_CastleLowered.j0 (k + 1 + 1) cups C true rows draw noz weir spill = some true := by
  simp only [l4_CastleLowered.j0]
  rw [if_pos trivial,known_true];rfl
 by_cases s : rows.length ≤ 15 ∧ noz.length ≤ 8
 case neg => rw [decide_eq_false s,if_neg (by decide),nope]
 rw [decide_eq_true s,if_pos rfl]
 by_cases l8 : (C.length : Int) > 8
 · rw [decide_eq_true l8,nope]
 rw [decide_eq_false l8]
 simp only [l4_CastleLowered.j0,Bool.false_eq_true,if_false]
 by_cases hb : okB rows draw noz weir spill = true ∧ (0 ≤ cups ∧ cups ≤ 10000) ∧ C.length = noz.length ∧ okS C = true
 · obtain ⟨b,c,e,f⟩ := hb
   have h := okB_iff.1 b
   have n2 := h.n2
   have rl := rowL_len (rows := rows) (noz := noz) (weir := weir) (spill := spill) cups C noz.length 0
   rw [cLowered_eq h c.1 c.2 e f (by omega),Option.bind_some,refBasin_eq (by omega) (by omega) (by omega),b,Option.bind_some,if_pos rfl,r_cups,decide_eq_true c,Option.bind_some,if_pos rfl,counts_eq (by omega) (by omega) (by omega),f,decide_eq_true e,Option.bind_some]
   simp only [l4_CastleLowered.j1,Bool.and_self,Bool.not_true,Bool.false_eq_true,if_false,if_true]
   rw [rLowered_eq h c.1 c.2 e (by omega),Option.bind_some,sc_refl (by omega) (by omega)]
   simp [known_true]
 · rw [cLowered_bad (by omega) hb (by omega),Option.bind_some,refBasin_eq (by omega) (by omega) (by omega),Option.bind_some]
   have fin : l4_CastleLowered.j1 (k + 1) cups C [] 2 true rows draw noz weir spill = some true := by
    simp [l4_CastleLowered.j1,known_true]
   cases b : okB rows draw noz weir spill with
   | false => rw [if_neg (by decide)];exact fin
   | true =>
    rw [if_pos rfl,r_cups,Option.bind_some]
    by_cases c : 0 ≤ cups ∧ cups ≤ 10000
    case neg => rw [decide_eq_false c,if_neg (by decide)];exact fin
    rw [decide_eq_true c,if_pos rfl,counts_eq (by omega) (by omega) (by omega),Option.bind_some]
    have : (okS C && decide (C.length = noz.length)) = false := by
     cases f : okS C with
     | false => rfl
     | true =>
      by_cases e : C.length = noz.length
      · exact absurd ⟨b,c,e,f⟩ hb
      · rw [decide_eq_false e];rfl
    rw [this]
    exact fin
end Go.Proofs.YticlelgmmonloaaGreatDoor.C

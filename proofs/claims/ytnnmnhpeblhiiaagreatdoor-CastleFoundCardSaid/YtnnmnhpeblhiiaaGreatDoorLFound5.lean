/- A part of the proof: the walks of the functions that it reaches. TIGHT. -/
import Derived.Test.YtnnmnhpeblhiiaaGreatDoorM17
import Derived.Test.YtnnmnhpeblhiiaaGreatDoorLFound4
set_option linter.unusedVariables false
set_option linter.unusedSimpArgs false
namespace Go.Proofs.YtnnmnhpeblhiiaaGreatDoor.C
open Go.RowKit Go.Proofs.YtnnmnhpeblhiiaaGreatDoorW.PrintWords Go.Proofs.YtnnmnhpeblhiiaaGreatDoorW.PrintLast Go.Proofs.YtnnmnhpeblhiiaaGreatDoorW.PrintMore
set_option linter.unusedVariables false
set_option linter.unusedSimpArgs false
set_option maxHeartbeats 16000000
set_option maxRecDepth 100000
section
attribute [local go_sem] max2_int min2_int max_two min_two
attribute [local go_sem high] eqA44
set_option linter.unusedSimpArgs false
end
def chgH (noz : List S48) (n h : Int) : List S48 := noz.set n.toNat (⟨(rd_T48 noz n).f0,h⟩ : S48)
def okC (noz : List S48) (n h : Int) : Bool := decide (0 ≤ n ∧ n ≤ (noz.length : Int) - 1) && decide (0 ≤ h ∧ h ≤ 40)
theorem okC_iff {noz : List S48} {n h : Int} : okC noz n h = true ↔ (0 ≤ n ∧ n ≤ (noz.length : Int) - 1) ∧ 0 ≤ h ∧ h ≤ 40 := by
 unfold okC;simp only [Bool.and_eq_true,decide_eq_true_eq]
section
variable {rows : List S126} {draw : Int} {noz : List S48} {weir spill : Int}
theorem chgH_len (n h : Int) : (chgH noz n h).length = noz.length := by simp [chgH]
theorem chgH_ok (hB : OkB rows draw noz weir spill) {n h : Int} (hc : okC noz n h = true) : OkB rows draw (chgH noz n h) weir spill := by
 obtain ⟨h1,h2⟩ := okC_iff.1 hc
 have hb := okB_iff.2 hB
 apply okB_iff.1
 unfold okB at hb ⊢
 rw [chgH_len]
 simp only [Bool.and_eq_true] at hb ⊢
 obtain ⟨b1,b2,b3,b4,b5⟩ := hb
 refine ⟨b1,b2,b3,b4,?_⟩
 rw [List.all_eq_true] at b5 ⊢
 intro z hz
 rcases List.mem_or_eq_of_mem_set hz with hz | rfl
 · exact b5 z hz
 · have := b5 _ (getD_mem (xs := noz) z48 h1.1 (by omega))
   unfold nozOk at this ⊢
   simp only [Bool.and_eq_true,decide_eq_true_eq] at this ⊢
   exact ⟨this.1,h2⟩
theorem changed_eq {n h : Int} (hc : okC noz n h = true) (hn : noz.length ≤ 1000) : ca_changed.f rows draw noz weir spill n h = some (chgH noz n h) := by
 obtain ⟨h1,h2⟩ := okC_iff.1 hc
 unfold ca_changed.f
 rw [clone_z hn,Option.bind_some,if_pos h1.1,if_pos (by omega)]
 rfl
theorem with_eq {n h : Int} (hc : okC noz n h = true) (hn : noz.length ≤ 1000) : q4_With.f rows draw noz weir spill n h = some (chgH noz n h) := by
 obtain ⟨h1,h2⟩ := okC_iff.1 hc
 unfold q4_With.f
 rw [if_pos (by simp;omega),Option.bind_some,if_pos h1.1,if_pos (by simp;omega)]
 rfl
theorem change_eq {n h : Int} (hn : noz.length ≤ 1000) : q4_Change.f rows draw noz weir spill n h = some (okC noz n h) := by
 unfold q4_Change.f okC
 rw [w64 (by omega),r4_in,Option.bind_some]
 by_cases c : 0 ≤ n ∧ n ≤ (noz.length : Int) - 1
 · rw [decide_eq_true c,if_pos rfl,r_height];rfl
 · rw [decide_eq_false c,if_neg (by decide)];rfl
end
def agr : List Int → List S54 → Bool
 | x :: l,c :: m => decide (c.f0 ≤ x ∧ x ≤ c.f1) && agr l m
 | _,_ => true
theorem drop_span {C : List S54} {i : Int} (h0 : 0 ≤ i) (h1 : i < C.length) : C.drop i.toNat = rd_T54 C i :: C.drop (i.toNat + 1) := by
 have hi : i.toNat < C.length := by omega
 rw [List.drop_eq_getElem_cons hi];simp [rd_T54,hi]
theorem drop_int {X : List Int} {i : Int} (h0 : 0 ≤ i) (h1 : i < X.length) : X.drop i.toNat = rd X i :: X.drop (i.toNat + 1) := by
 have hi : i.toNat < X.length := by omega
 rw [List.drop_eq_getElem_cons hi];simp [rd,hi]
section
variable {rows : List S126} {draw : Int} {noz : List S48} {weir spill : Int}
def hit (rows : List S126) (noz : List S48) (weir spill cups : Int) (C : List S54) (n h : Int) : Bool :=
 !decide (h = (rd_T48 noz n).f1) && agr (shareL rows (chgH noz n h) weir spill cups) C
def colL (rows : List S126) (noz : List S48) (weir spill cups : Int) (C : List S54) (n : Int) : Int → Nat → List S44
 | _,0 => []
 | h,d + 1 => (if hit rows noz weir spill cups C n h then [(⟨n,h⟩ : S44)] else []) ++ colL rows noz weir spill cups C n (h + 1) d
def rowL (rows : List S126) (noz : List S48) (weir spill cups : Int) (C : List S54) : Int → Nat → List S44
 | _,0 => []
 | n,d + 1 => colL rows noz weir spill cups C n 0 41 ++ rowL rows noz weir spill cups C (n + 1) d
theorem colL_len (cups : Int) (C : List S54) (n : Int) : ∀ (d : Nat) (h : Int),(colL rows noz weir spill cups C n h d).length ≤ d
 | 0,h => by simp [colL]
 | d + 1,h => by
  have := colL_len cups C n d (h + 1)
  simp only [colL,List.length_append]
  split <;> simp <;> omega
theorem rowL_len (cups : Int) (C : List S54) : ∀ (d : Nat) (n : Int),(rowL rows noz weir spill cups C n d).length ≤ 41 * d
 | 0,n => by simp [rowL]
 | d + 1,n => by
  have := rowL_len cups C d (n + 1)
  have := colL_len (rows := rows) (noz := noz) (weir := weir) (spill := spill) cups C n 41 0
  simp only [rowL,List.length_append]
  omega
theorem cl2 {cups : Int} {C : List S54} {out : List S44} {n h z0 z1 : Int} {S : List Int} (hS : S.length = C.length) (hC : C.length ≤ 100) (ho : out.length ≤ 1000) (hh : 0 ≤ h ∧ h ≤ 40) {r : Option (List S44 × Int)} {N0 : Nat} (a0 : Int) :
 (∀ k,N0 ≤ k → ca_Lowered.l1 k cups C (if agr S C then out ++ [(⟨n,h⟩ : S44)] else out) n noz (noz.length : Int) a0 (h + 1) rows draw noz weir spill z0 z1 = r) →
 ∀ (d k : Nat) (i : Int),0 ≤ i → i + d = C.length → N0 + d < k → agr S C = agr (S.drop i.toNat) (C.drop i.toNat) →
  ca_Lowered.l2 k cups C out n S noz (noz.length : Int) a0 h C (C.length : Int) i rows draw noz weir spill z0 z1 n h = r := by
 intro hr d
 induction d with
 | zero =>
  intro k i h0 h1 hk he
  obtain ⟨k,rfl⟩ := ksucc (by omega : 0 < k)
  simp only [ca_Lowered.l2]
  rw [if_neg (by omega),if_pos (by omega),w64 (n := h + 1) (by omega)]
  have e : agr S C = true := by rw [he,List.drop_of_length_le (by omega : S.length ≤ i.toNat)];rfl
  have := hr k (by omega)
  rw [if_pos e] at this
  exact this
 | succ d ih =>
  intro k i h0 h1 hk he
  obtain ⟨k,rfl⟩ := ksucc (by omega : 0 < k)
  simp only [ca_Lowered.l2]
  rw [if_pos (by omega),if_pos h0,if_pos (by omega),if_pos (by omega),c_in,Option.bind_some]
  rw [drop_int h0 (by omega),drop_span h0 (by omega)] at he
  by_cases c : (rd_T54 C i).f0 ≤ rd S i ∧ rd S i ≤ (rd_T54 C i).f1
  · rw [decide_eq_true c,if_pos rfl,w64 (n := i + 1) (by omega)]
    refine ih k (i + 1) (by omega) (by omega) (by omega) ?_
    rw [he,show (i + 1).toNat = i.toNat + 1 by omega]
    simp only [agr,decide_eq_true c,Bool.true_and]
  · rw [decide_eq_false c,if_neg (by decide),w64 (n := h + 1) (by omega)]
    have e : agr S C = false := by rw [he];simp only [agr,decide_eq_false c,Bool.false_and]
    have := hr k (by omega)
    rw [e,if_neg (by decide)] at this
    exact this
theorem cl1 (hB : OkB rows draw noz weir spill) {cups : Int} (c0 : 0 ≤ cups) (c1 : cups ≤ 10000) {C : List S54} (hC : C.length = noz.length) {n : Int} (n0 : 0 ≤ n) (n1 : n < noz.length) {r : Option (List S44 × Int)} {N0 : Nat} (hN : 410 ≤ N0) :
 ∀ (d : Nat) (h : Int) (out : List S44),0 ≤ h → h + d = 41 → out.length + d ≤ 1000 →
  (∀ k,N0 ≤ k → ca_Lowered.l0 k cups C (out ++ colL rows noz weir spill cups C n h d) noz (noz.length : Int) (n + 1) rows draw noz weir spill = r) →
  ∀ k,N0 + (d + 1) * (noz.length + 2) ≤ k → ca_Lowered.l1 k cups C out n noz (noz.length : Int) n h rows draw noz weir spill (rd_T48 noz n).f0 (rd_T48 noz n).f1 = r
 | 0,h,out,h0,h1,ho,hr,k,hk => by
  obtain ⟨k,rfl⟩ := ksucc (by omega : 0 < k)
  simp only [ca_Lowered.l1]
  rw [if_neg (by omega),w64 (n := n + 1) (by have := hB.n2;omega)]
  have := hr k (by omega)
  simpa [colL] using this
 | d + 1,h,out,h0,h1,ho,hr,k,hk => by
  have n2 := hB.n2
  have hk' : N0 + (d + 1) * (noz.length + 2) + (noz.length + 2) ≤ k := by
   have : (d + 1 + 1) * (noz.length + 2) = (d + 1) * (noz.length + 2) + (noz.length + 2) := Nat.succ_mul _ _
   omega
  obtain ⟨k,rfl⟩ := ksucc (by omega : 0 < k)
  simp only [ca_Lowered.l1]
  rw [if_pos (by omega)]
  have next : ∀ (o : List S44),o.length + d ≤ 1000 → o = out ++ (if hit rows noz weir spill cups C n h then [(⟨n,h⟩ : S44)] else []) →
   ∀ k,N0 + (d + 1) * (noz.length + 2) ≤ k → ca_Lowered.l1 k cups C o n noz (noz.length : Int) n (h + 1) rows draw noz weir spill (rd_T48 noz n).f0 (rd_T48 noz n).f1 = r := by
   intro o hol he
   refine cl1 hB c0 c1 hC n0 n1 hN d (h + 1) o (by omega) (by omega) hol ?_
   intro k hk
   have := hr k hk
   rw [he]
   simpa [colL,List.append_assoc] using this
  by_cases e : h = (rd_T48 noz n).f1
  · rw [if_pos e,w64 (n := h + 1) (by omega)]
    exact next out (by omega) (by simp [hit,e]) k (by omega)
  · rw [if_neg e]
    have hc : okC noz n h = true := okC_iff.2 ⟨⟨n0,by omega⟩,h0,by omega⟩
    have hB' := chgH_ok hB hc
    have S := shareL_in hB' c0
    rw [changed_eq hc (by omega),Option.bind_some,fill_eq hB' (by omega),Option.bind_some]
    rw [shares_eq hB' c0 c1 (by omega),Option.bind_some]
    refine cl2 (by rw [S.2,chgH_len,hC]) (by omega) (by omega) ⟨h0,by omega⟩ n (N0 := N0 + (d + 1) * (noz.length + 2)) ?_ C.length k 0 (by omega) (by omega) (by omega) rfl
    have hh : hit rows noz weir spill cups C n h = agr (shareL rows (chgH noz n h) weir spill cups) C := by simp [hit,e]
    refine next _ ?_ ?_
    · split <;> (try simp only [List.length_append,List.length_singleton]) <;> omega
    · rw [hh];cases agr (shareL rows (chgH noz n h) weir spill cups) C <;> simp
theorem cl0 (hB : OkB rows draw noz weir spill) {cups : Int} (c0 : 0 ≤ cups) (c1 : cups ≤ 10000) {C : List S54} (hC : C.length = noz.length) :
 ∀ (d : Nat) (n : Int) (out : List S44),0 ≤ n → n + d = noz.length → out.length + 41 * d ≤ 900 →
  ∀ k,420 + d * (43 * (noz.length + 2)) ≤ k → ca_Lowered.l0 k cups C out noz (noz.length : Int) n rows draw noz weir spill = some (out ++ rowL rows noz weir spill cups C n d,0)
 | 0,n,out,n0,n1,ho,k,hk => by
  obtain ⟨k,rfl⟩ := ksucc (by omega : 0 < k)
  simp only [ca_Lowered.l0]
  rw [if_neg (by omega)]
  simp [rowL]
 | d + 1,n,out,n0,n1,ho,k,hk => by
  have hk' : 420 + d * (43 * (noz.length + 2)) + 43 * (noz.length + 2) ≤ k := by
   have : (d + 1) * (43 * (noz.length + 2)) = d * (43 * (noz.length + 2)) + 43 * (noz.length + 2) := Nat.succ_mul _ _
   omega
  obtain ⟨k,rfl⟩ := ksucc (by omega : 0 < k)
  simp only [ca_Lowered.l0]
  rw [if_pos (by omega),if_pos n0,if_pos (by omega)]
  have cl := colL_len (rows := rows) (noz := noz) (weir := weir) (spill := spill) cups C n 41 0
  refine cl1 hB c0 c1 hC n0 (by omega) (N0 := 420 + d * (43 * (noz.length + 2))) (by omega) 41 0 out (by omega) (by omega) (by omega) ?_ k (by omega)
  intro k hk
  rw [cl0 hB c0 c1 hC d (n + 1) _ (by omega) (by omega) (by simp;omega) k hk]
  simp [rowL]
end
section
variable {rows : List S126} {draw : Int} {noz : List S48} {weir spill : Int}
def okS (C : List S54) : Bool := C.all fun z => spanF z.f0 z.f1
theorem counts_go (C : List S54) (hC : C.length ≤ 1000) (hn : noz.length ≤ 1000) : ∀ (d k : Nat) (i : Int),0 ≤ i → i + d = C.length → d < k →
 q4_Counts.l0 k C i rows draw noz weir spill = some (okS (C.drop i.toNat) && decide (C.length = noz.length))
 | 0,k,i,h0,h1,hk => by
  obtain ⟨k,rfl⟩ := ksucc (by omega : 0 < k)
  simp only [q4_Counts.l0]
  rw [if_neg (by omega),List.drop_of_length_le (by omega)]
  congr 1
  simp only [okS,List.all_nil,Bool.true_and]
  by_cases e : C.length = noz.length
  · simp [e]
  · rw [decide_eq_false e,beq_eq_false_iff_ne];omega
 | d + 1,k,i,h0,h1,hk => by
  obtain ⟨k,rfl⟩ := ksucc (by omega : 0 < k)
  simp only [q4_Counts.l0]
  rw [if_pos (by omega),if_pos h0,flow_eq,Option.bind_some,w64 (n := i + 1) (by omega),drop_span h0 (by omega)]
  cases c : spanF (rd_T54 C i).f0 (rd_T54 C i).f1 with
  | true =>
   rw [if_pos rfl,counts_go C hC hn d k (i + 1) (by omega) (by omega) (by omega),show (i + 1).toNat = i.toNat + 1 by omega]
   simp [okS,c]
  | false =>
   rw [if_neg (by decide)]
   simp [okS,c]
theorem counts_eq {C : List S54} (hC : C.length ≤ 1000) (hn : noz.length ≤ 1000) {k : Nat} (hk : C.length < k) : q4_Counts.f k rows draw noz weir spill C = some (okS C && decide (C.length = noz.length)) := by
 unfold q4_Counts.f
 have := counts_go (rows := rows) (draw := draw) (noz := noz) (weir := weir) (spill := spill) C hC hn C.length k 0 (by omega) (by omega) hk
 simpa using this
theorem cfl_eq (C : List S54) : cf_Lowered.f C = some (!okS C) := by
 have : ∀ x : S54,ca_Lowered_1.f x.f0 x.f1 = some (!spanF x.f0 x.f1) := by
  intro x;unfold ca_Lowered_1.f;rw [isSpanF_eq];rfl
 unfold cf_Lowered.f
 rw [anyM_total this]
 simp [okS,List.all_eq_not_any_not]
theorem cLowered_eq (h : OkB rows draw noz weir spill) {cups : Int} (c0 : 0 ≤ cups) (c1 : cups ≤ 10000) {C : List S54} (hC : C.length = noz.length) (hS : okS C = true) {k : Nat} (hk : 3000 ≤ k) :
 ca_Lowered.f k rows draw noz weir spill cups C = some (rowL rows noz weir spill cups C 0 noz.length,0) := by
 obtain ⟨k,rfl⟩ := ksucc (by omega : 0 < k)
 have n2 := h.n2
 have n3 : noz.length * (43 * (noz.length + 2)) ≤ 6 * (43 * 8) := Nat.mul_le_mul n2 (Nat.mul_le_mul_left _ (by omega))
 unfold ca_Lowered.f
 rw [isBasin_eq (by have := h.r2;omega),okB_iff.2 h,Option.bind_some,if_pos rfl,c_flow,decide_eq_true ⟨c0,c1⟩,Option.bind_some,if_pos rfl,if_pos (by omega),cfl_eq,hS,Option.bind_some]
 simp only [ca_Lowered.j0,Bool.not_true]
 rw [if_neg (by decide)]
 have := cl0 h c0 c1 hC noz.length 0 [] (by omega) (by omega) (by simp;omega) k (by omega)
 simpa using this
end
theorem drop_chg {C : List S44} {i : Int} (h0 : 0 ≤ i) (h1 : i < C.length) : C.drop i.toNat = rd_T44 C i :: C.drop (i.toNat + 1) := by
 have hi : i.toNat < C.length := by omega
 rw [List.drop_eq_getElem_cons hi];simp [rd_T44,hi]
section
variable {rows : List S126} {draw : Int} {noz : List S48} {weir spill : Int}
def isX (p q : Int) (z : S44) : Bool := z.f0 == p && z.f1 == q
theorem mem_col (cups : Int) (C : List S54) (n p q : Int) : ∀ (d : Nat) (h : Int),(colL rows noz weir spill cups C n h d).any (isX p q) = (decide (n = p ∧ h ≤ q ∧ q < h + d) && hit rows noz weir spill cups C p q)
 | 0,h => by
  rw [colL,List.any_nil,decide_eq_false (by omega)];rfl
 | d + 1,h => by
  have ih := mem_col cups C n p q d (h + 1)
  rw [colL,List.any_append,ih]
  by_cases e : n = p ∧ h = q
  · obtain ⟨rfl,rfl⟩ := e
    rw [decide_eq_false (by omega : ¬ (n = n ∧ h + 1 ≤ h ∧ h < h + 1 + d)),decide_eq_true (by omega : n = n ∧ h ≤ h ∧ h < h + (d + 1 : Nat))]
    cases g : hit rows noz weir spill cups C n h with
    | true => simp [isX]
    | false => simp
  · have z : (if hit rows noz weir spill cups C n h then [(⟨n,h⟩ : S44)] else []).any (isX p q) = false := by
     split
     · simp only [List.any_cons,List.any_nil,Bool.or_false,isX]
       by_cases en : n = p
       · have : h ≠ q := fun x => e ⟨en,x⟩
         simp [this]
       · simp [en]
     · rfl
    rw [z,Bool.false_or]
    congr 1
    rw [decide_eq_decide]
    omega
theorem mem_row (cups : Int) (C : List S54) (p q : Int) : ∀ (d : Nat) (n : Int),(rowL rows noz weir spill cups C n d).any (isX p q) = (decide (n ≤ p ∧ p < n + d ∧ 0 ≤ q ∧ q ≤ 40) && hit rows noz weir spill cups C p q)
 | 0,n => by
  rw [rowL,List.any_nil,decide_eq_false (by omega)];rfl
 | d + 1,n => by
  rw [rowL,List.any_append,mem_row cups C p q d (n + 1),mem_col,← Bool.and_or_distrib_right]
  congr 1
  rw [← Bool.decide_or,decide_eq_decide]
  omega
end
theorem found_l1 (L : List S44) (hb : L.length ≤ 1000) (p q : Int) (fin : Bool) : ∀ (d k : Nat) (i : Int) (met : Bool),0 ≤ i → i + d = L.length → d < k → (met || (L.drop i.toNat).any (isX p q)) = fin →
 l4_CastleFound.l1 k L fin met i p q = some true
 | 0,k,i,met,h0,h1,hk,he => by
  obtain ⟨k,rfl⟩ := ksucc (by omega : 0 < k)
  simp only [l4_CastleFound.l1]
  rw [List.drop_of_length_le (by omega),List.any_nil,Bool.or_false] at he
  subst he
  rw [if_neg (by omega),if_pos (by simp),known_true];rfl
 | d + 1,k,i,met,h0,h1,hk,he => by
  obtain ⟨k,rfl⟩ := ksucc (by omega : 0 < k)
  simp only [l4_CastleFound.l1]
  rw [drop_chg h0 (by omega),List.any_cons] at he
  rw [if_pos (by omega),w64 (n := i + 1) (by omega)]
  cases met with
  | true =>
   rw [if_pos rfl]
   exact found_l1 L hb p q fin d k (i + 1) true (by omega) (by omega) (by omega) (by rw [← he,Bool.true_or,Bool.true_or])
  | false =>
   rw [if_neg (by decide),if_pos h0]
   refine found_l1 L hb p q fin d k (i + 1) _ (by omega) (by omega) (by omega) ?_
   rw [Bool.false_or] at he
   rw [show (i + 1).toNat = i.toNat + 1 by omega]
   exact he
theorem found_l0 (L : List S44) (hL : L.length ≤ 1000) (p q : Int) (S : List Int) (C : List S54) (hS : S.length = C.length) (hC : C.length ≤ 100) : ∀ (d k : Nat) (i : Int) (is : Bool),0 ≤ i → i + d = C.length → d + L.length + 2 < k → L.any (isX p q) = (is && agr (S.drop i.toNat) (C.drop i.toNat)) →
 l4_CastleFound.l0 k C L S is i p q = some true
 | 0,k,i,is,h0,h1,hk,he => by
  obtain ⟨k,rfl⟩ := ksucc (by omega : 0 < k)
  simp only [l4_CastleFound.l0]
  rw [if_neg (by omega)]
  refine found_l1 L hL p q is L.length k 0 false (by omega) (by omega) (by omega) ?_
  rw [List.drop_of_length_le (by omega : S.length ≤ i.toNat)] at he
  simpa [agr] using he
 | d + 1,k,i,is,h0,h1,hk,he => by
  obtain ⟨k,rfl⟩ := ksucc (by omega : 0 < k)
  simp only [l4_CastleFound.l0]
  have next : ∀ b : Bool,L.any (isX p q) = (b && agr (S.drop (i.toNat + 1)) (C.drop (i.toNat + 1))) → l4_CastleFound.l0 k C L S b (i + 1) p q = some true := fun b hb => found_l0 L hL p q S C hS hC d k (i + 1) b (by omega) (by omega) (by omega) (by rw [show (i + 1).toNat = i.toNat + 1 by omega];exact hb)
  rw [drop_int h0 (by omega),drop_span h0 (by omega)] at he
  simp only [agr] at he
  rw [if_pos (by omega),w64 (n := i + 1) (by omega)]
  cases is with
  | false => rw [if_neg (by decide)];exact next false (by rw [he];simp)
  | true =>
   rw [if_pos rfl,if_pos h0,if_pos (by omega)]
   by_cases c : rd S i ≥ (rd_T54 C i).f0
   · rw [if_pos c]
     refine next _ ?_
     rw [he]
     have c' : (rd_T54 C i).f0 ≤ rd S i := c
     simp [c']
   · rw [if_neg c]
     refine next false ?_
     rw [he,decide_eq_false (fun z => c z.1)]
     simp
theorem found_pure (rows : List S126) (draw : Int) (noz : List S48) (weir spill cups : Int) (C : List S54) (p q : Int) {k : Nat} (hk : 3500 ≤ k) : l4_CastleFound.f k rows draw noz weir spill cups C p q = some true := by
 obtain ⟨k,rfl⟩ : ∃ m,k = m + 1 + 1 := ⟨k - 2,by omega⟩
 unfold l4_CastleFound.f
 rw [short_eq,Option.bind_some]
 have nope : l4_CastleFound.j0 (k + 1 + 1) cups C true rows draw noz weir spill p q = some true := by
  simp only [l4_CastleFound.j0]
  rw [if_pos trivial,known_true];rfl
 by_cases s : rows.length ≤ 15 ∧ noz.length ≤ 8
 case neg => rw [decide_eq_false s,if_neg (by decide),nope]
 rw [decide_eq_true s,if_pos rfl]
 by_cases l8 : (C.length : Int) > 8
 · rw [if_pos l8,nope]
 rw [if_neg l8,refBasin_eq (by omega) (by omega) (by omega),Option.bind_some]
 cases hb : okB rows draw noz weir spill with
 | false => rw [if_neg (by decide),nope]
 | true =>
  rw [if_pos rfl,r_cups,Option.bind_some]
  by_cases c : 0 ≤ cups ∧ cups ≤ 10000
  case neg => rw [decide_eq_false c,if_neg (by decide),nope]
  rw [decide_eq_true c,if_pos rfl,counts_eq (by omega) (by omega) (by omega),Option.bind_some]
  cases hf : (okS C && decide (C.length = noz.length)) with
  | false => rw [if_neg (by decide),nope]
  | true =>
   simp only [Bool.and_eq_true,decide_eq_true_eq] at hf
   obtain ⟨f,e⟩ := hf
   rw [if_pos rfl,change_eq (by omega),Option.bind_some]
   cases hc : okC noz p q with
   | false => rw [if_neg (by decide),nope]
   | true =>
    obtain ⟨hp,hq⟩ := okC_iff.1 hc
    have h := okB_iff.1 hb
    have h' := chgH_ok h hc
    have n2 := h.n2
    rw [if_pos rfl,if_pos hp.1,if_pos (by omega)]
    by_cases g : q = (rd_T48 noz p).f1
    · rw [show (q == (rd_T48 noz p).f1) = true by simpa using g,nope]
    rw [show (q == (rd_T48 noz p).f1) = false by simpa using g]
    have rl := rowL_len (rows := rows) (noz := noz) (weir := weir) (spill := spill) cups C noz.length 0
    have S := shareL_in h' c.1
    rw [chgH_len] at S
    simp only [l4_CastleFound.j0,Bool.false_eq_true,if_false]
    rw [cLowered_eq h c.1 c.2 e f (by omega),Option.bind_some,with_eq hc (by omega),Option.bind_some,cShares_eq (by omega) (by omega),if_pos ⟨okB_iff.2 h',c⟩,Option.bind_some]
    simp only [if_true]
    rw [show (((shareL rows (chgH noz p q) weir spill cups).length : Int) != (C.length : Int)) = false by rw [S.2,e];simp]
    simp only [l4_CastleFound.j1,Bool.false_eq_true,if_false]
    refine found_l0 _ (by omega) p q _ C (by rw [S.2,e]) (by omega) C.length k 0 true (by omega) (by omega) (by omega) ?_
    rw [mem_row,decide_eq_true (by omega)]
    simp [hit,g]
end Go.Proofs.YtnnmnhpeblhiiaaGreatDoor.C

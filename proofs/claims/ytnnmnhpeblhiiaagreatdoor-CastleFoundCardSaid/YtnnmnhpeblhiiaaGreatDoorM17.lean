/- A part of the proof: the walks of the functions that it reaches. TIGHT. -/
import Derived.Test.YtnnmnhpeblhiiaaGreatDoorM16
set_option linter.unusedVariables false
set_option linter.unusedSimpArgs false
namespace Go.Proofs.YtnnmnhpeblhiiaaGreatDoor.C
open Go.RowKit Go.Proofs.YtnnmnhpeblhiiaaGreatDoorW.PrintWords Go.Proofs.YtnnmnhpeblhiiaaGreatDoorW.PrintLast Go.Proofs.YtnnmnhpeblhiiaaGreatDoorW.PrintMore
set_option linter.unusedVariables false
set_option linter.unusedSimpArgs false
set_option maxHeartbeats 16000000
set_option maxRecDepth 100000
def shGo : List Int → List Int → Int → List Int × Int
 | x :: l,y :: n,r => ((x + mn r (y - x)) :: (shGo l n (r - mn r (y - x))).1,(shGo l n (r - mn r (y - x))).2)
 | l,_,r => (l,r)
def pairOk : List Int → List Int → Prop
 | x :: l,y :: n => (0 ≤ x ∧ x ≤ y ∧ y ≤ 1000) ∧ pairOk l n
 | [],[] => True
 | _,_ => False
theorem mn_in {r d : Int} (h0 : 0 ≤ r) (h1 : 0 ≤ d) : 0 ≤ mn r d ∧ mn r d ≤ r ∧ mn r d ≤ d := by unfold mn;split <;> omega
theorem shGo_in : ∀ {l n : List Int} {r : Int},pairOk l n → 0 ≤ r → (∀ x ∈ (shGo l n r).1,0 ≤ x ∧ x ≤ 1000) ∧ 0 ≤ (shGo l n r).2 ∧ (shGo l n r).2 ≤ r ∧ (shGo l n r).1.length = l.length ∧ (shGo l n r).1.sum + (shGo l n r).2 = l.sum + r
 | [],[],r,_,hr => by simp [shGo];omega
 | x :: l,y :: n,r,h,hr => by
  have m := mn_in (r := r) (d := y - x) hr (by have := h.1;omega)
  have ih := shGo_in (r := r - mn r (y - x)) h.2 (by omega)
  have hx := h.1
  simp only [shGo,List.length_cons,List.sum_cons]
  refine ⟨fun z hz => ?_,ih.2.1,by omega,by rw [ih.2.2.2.1],by omega⟩
  rcases List.mem_cons.1 hz with rfl | hz
  · omega
  · exact ih.1 z hz
 | [],_ :: _,_,h,_ => h.elim
 | _ :: _,[],_,h,_ => h.elim
theorem rd_app (P : List Int) (x : Int) (l : List Int) : rd (P ++ x :: l) (P.length : Int) = x := by simp [rd]
theorem set_app {α : Type} (P : List α) (x v : α) (l : List α) : (P ++ x :: l).set (P.length : Int).toNat v = P ++ [v] ++ l := by simp
theorem sh_go {cups : Int} (hc0 : 0 ≤ cups) (hc1 : cups ≤ 10000) : ∀ (l n P Q : List Int) (r : Int) (k : Nat),pairOk l n → P.length = Q.length → (∀ x ∈ P,0 ≤ x ∧ x ≤ 1000) → P.length + l.length ≤ 100 → 0 ≤ r → r ≤ 10000 → P.length + 2 * l.length + 2 < k →
 gf_shares.l0 k cups (P ++ l) r (Q ++ n) (Q ++ n).length P.length = some (P ++ (shGo l n r).1,cups - (P ++ (shGo l n r).1).sum)
 | [],[],P,Q,r,k,_,hPQ,hP,hl,hr0,hr1,hk => by
  obtain ⟨k,rfl⟩ := ksucc (by omega : 0 < k)
  simp only [gf_shares.l0,shGo,List.append_nil]
  rw [if_neg (by omega)]
  simp only [List.length_nil] at hl hk
  rw [csum (by omega) (fun x hx => by have := hP x hx;omega) (by omega)]
  have s := sum_bd (l := P) (B := 1000) (by omega) (fun x hx => by have := hP x hx;omega)
  simp only [Option.bind_some]
  rw [w64 (by omega)]
 | x :: l,y :: n,P,Q,r,k,h,hPQ,hP,hl,hr0,hr1,hk => by
  obtain ⟨k,rfl⟩ := ksucc (by omega : 0 < k)
  simp only [List.length_cons] at hl hk
  have hx := h.1
  have m := mn_in (r := r) (d := y - x) hr0 (by omega)
  simp only [gf_shares.l0]
  have e : rd (Q ++ y :: n) (P.length : Int) = y := by rw [hPQ];exact rd_app Q y n
  rw [if_pos (by rw [List.length_append,List.length_cons];omega),if_pos (by omega),if_pos (by rw [List.length_append,List.length_cons];omega),if_pos (by rw [List.length_append,List.length_cons];omega),rd_app,e,w64 (n := y - x) (by omega),w64 (n := x + _) (by omega),w64 (n := r - _) (by omega),w64 (n := (P.length : Int) + 1) (by omega),set_app]
  have ih := sh_go hc0 hc1 l n (P ++ [x + mn r (y - x)]) (Q ++ [y]) (r - mn r (y - x)) k h.2 (by simp [hPQ]) (fun z hz => by
   rcases List.mem_append.1 hz with hz | hz
   · exact hP z hz
   · simp at hz;omega) (by simp;omega) (by omega) (by omega) (by simp;omega)
  have e2 : Q ++ y :: n = Q ++ [y] ++ n := by simp
  rw [e2,show (P.length : Int) + 1 = ((P ++ [x + mn r (y - x)]).length : Int) by simp,ih]
  simp [shGo]
 | [],_ :: _,_,_,_,_,h,_,_,_,_,_,_ => h.elim
 | _ :: _,[],_,_,_,_,h,_,_,_,_,_,_ => h.elim
section
variable {rows : List S126} {draw : Int} {noz : List S48} {weir spill : Int}
def levN (rows : List S126) (noz : List S48) (weir spill cups : Int) : Nat → Int
 | 0 => 0
 | n + 1 => if tot rows noz weir spill ((n : Int) + 1) ≤ cups then (n : Int) + 1 else levN rows noz weir spill cups n
def lev (rows : List S126) (noz : List S48) (weir spill cups : Int) : Int := levN rows noz weir spill cups 40
theorem levN_is (h : OkB rows draw noz weir spill) {cups : Int} (hc : 0 ≤ cups) : ∀ n : Nat,n ≤ 40 → (n < 40 → cups < tot rows noz weir spill ((n : Int) + 1)) → Lev rows noz weir spill cups (levN rows noz weir spill cups n)
 | 0,_,hn => ⟨by simp [levN],by simp [levN],by simp [levN,tot_zero h,hc],fun _ => by simpa [levN] using hn (by omega)⟩
 | n + 1,h1,hn => by
  unfold levN
  by_cases g : tot rows noz weir spill ((n : Int) + 1) ≤ cups
  · rw [if_pos g]
    exact ⟨by omega,by omega,g,fun _ => by have := hn (by omega);rw [Int.natCast_add] at this;exact this⟩
  · rw [if_neg g]
    exact levN_is h hc n (by omega) (fun _ => by omega)
theorem lev_is (h : OkB rows draw noz weir spill) {cups : Int} (hc : 0 ≤ cups) : Lev rows noz weir spill cups (lev rows noz weir spill cups) := levN_is h hc 40 (by omega) (fun h => by omega)
theorem level_lev (h : OkB rows draw noz weir spill) {cups : Int} (hc : 0 ≤ cups) : gf_level.f rows draw noz weir spill (grid rows noz) cups = some (lev rows noz weir spill cups) := by
 obtain ⟨r,hr,hl⟩ := level_eq h hc
 rw [hr,hl.uniq h (lev_is h hc)]
def shareL (rows : List S126) (noz : List S48) (weir spill cups : Int) : List Int :=
 if lev rows noz weir spill cups < 40 then (shGo (gat rows noz (lev rows noz weir spill cups)) (gat rows noz (lev rows noz weir spill cups + 1)) (cups - tot rows noz weir spill (lev rows noz weir spill cups))).1 else gat rows noz (lev rows noz weir spill cups)
theorem gat_pairs (h : OkB rows draw noz weir spill) {a b : Int} (hab : a ≤ b) : pairOk (gat rows noz a) (gat rows noz b) := by
 have : ∀ l : List S48,(∀ z ∈ l,z ∈ noz) → pairOk (l.map (pour rows a)) (l.map (pour rows b)) := by
  intro l
  induction l with
  | nil => intro _;trivial
  | cons z l ih =>
   intro hl
   have hz := hl z (by simp)
   exact ⟨⟨(pour_in h hz a).1,pour_mono h hz hab,(pour_in h hz b).2⟩,ih (fun y hy => hl y (by simp [hy]))⟩
 exact this noz (fun _ hz => hz)
theorem shareL_in (h : OkB rows draw noz weir spill) {cups : Int} (hc : 0 ≤ cups) : (∀ x ∈ shareL rows noz weir spill cups,0 ≤ x ∧ x ≤ 1000) ∧ (shareL rows noz weir spill cups).length = noz.length := by
 have L := lev_is h hc
 unfold shareL
 by_cases g : lev rows noz weir spill cups < 40
 case neg =>
  rw [if_neg g]
  exact ⟨gat_in h _,gat_len _⟩
 rw [if_pos g]
 have a := shGo_in (r := cups - tot rows noz weir spill (lev rows noz weir spill cups)) (gat_pairs h (show lev rows noz weir spill cups ≤ lev rows noz weir spill cups + 1 by omega)) (by have := L.2.2.1;omega)
 exact ⟨a.1,by rw [a.2.2.2.1,gat_len]⟩
theorem clone_int {l : List Int} (hl : l.length ≤ 1000) : sl_Clone_int.f l = some l := by unfold sl_Clone_int.f;rw [if_pos (by omega)]
theorem shares_eq (h : OkB rows draw noz weir spill) {cups : Int} (hc0 : 0 ≤ cups) (hc1 : cups ≤ 10000) {k : Nat} (hk : 20 ≤ k) :
 gf_shares.f k rows draw noz weir spill (grid rows noz) cups = some (shareL rows noz weir spill cups,cups - (shareL rows noz weir spill cups).sum) := by
 have L := lev_is h hc0
 have n2 := h.n2
 have t0 := tot_in h L.1 L.2.1
 have B := shareL_in h hc0
 have s := sum_bd (l := shareL rows noz weir spill cups) (B := 1000) (by omega) (fun x hx => by have := B.1 x hx;omega)
 rw [B.2] at s
 unfold gf_shares.f
 rw [level_lev h hc0,Option.bind_some,if_pos L.1,if_pos (by rw [grid_len];have := L.2.1;omega),grid_at _ _ L.1 L.2.1,clone_int (by rw [gat_len];omega),Option.bind_some]
 unfold shareL
 by_cases g : lev rows noz weir spill cups < 40
 · rw [if_pos g,if_pos g,out_eq h L.1 L.2.1,Option.bind_some,w64 (n := _ + 1) (by have := L.1;omega),if_pos (by have := L.1;omega),if_pos (by rw [grid_len];omega),grid_at _ _ (by have := L.1;omega) (by omega),w64 (by omega)]
   have f := sh_go hc0 hc1 (gat rows noz (lev rows noz weir spill cups)) (gat rows noz (lev rows noz weir spill cups + 1)) [] [] (cups - tot rows noz weir spill (lev rows noz weir spill cups)) k (gat_pairs h (by omega)) rfl (fun x hx => by simp at hx) (by simp [gat_len];omega) (by have := L.2.2.1;omega) (by omega) (by simp [gat_len];omega)
   simpa using f
 · rw [if_neg g,if_neg g]
   have a := gat_in h (lev rows noz weir spill cups)
   rw [csum (by rw [gat_len];omega) (fun x hx => by have := a x hx;omega) (by rw [gat_len];omega),Option.bind_some]
   have c := gsum_in h (lev rows noz weir spill cups)
   rw [w64 (by omega)]
theorem cShares_eq (hl : rows.length ≤ 1000) {cups : Int} {k : Nat} (hk : 410 ≤ k) : ca_Shares.f k rows draw noz weir spill cups =
 if okB rows draw noz weir spill = true ∧ 0 ≤ cups ∧ cups ≤ 10000 then some (shareL rows noz weir spill cups,cups - (shareL rows noz weir spill cups).sum,0) else some ([],0,2) := by
 obtain ⟨k,rfl⟩ := ksucc (by omega : 0 < k)
 unfold ca_Shares.f
 rw [isBasin_eq hl,Option.bind_some]
 cases hb : okB rows draw noz weir spill with
 | false => simp [ca_Shares.j0]
 | true =>
  have h := okB_iff.1 hb
  rw [if_pos rfl,c_flow,Option.bind_some]
  by_cases c : 0 ≤ cups ∧ cups ≤ 10000
  · rw [decide_eq_true c]
    simp only [ca_Shares.j0,Bool.not_true]
    rw [if_neg (by decide),fill_eq h (by omega),Option.bind_some,shares_eq h c.1 c.2 (by omega),Option.bind_some,if_pos ⟨trivial,c⟩]
  · rw [decide_eq_false c]
    simp only [ca_Shares.j0,Bool.not_false]
    rw [if_pos trivial,if_neg (fun q => c q.2)]
def setH (noz : List S48) (l : List Int) : List S48 := List.zipWith (fun z x => (⟨z.f0,x⟩ : S48)) noz l
theorem clone_z {l : List S48} (hl : l.length ≤ 1000) : sl_Clone_Z.f l = some l := by unfold sl_Clone_Z.f;rw [if_pos (by omega)]
theorem rout_go (h : OkB rows draw noz weir spill) (x : Int) (x0 : 0 ≤ x) (x1 : x ≤ 40) : ∀ (d k : Nat) (i : Int),0 ≤ i → i + d = noz.length → d < k →
 q4_Out.l0 k x ((noz.take i.toNat).map (pour rows x)) i rows draw noz weir spill = some (gat rows noz x,over weir spill x)
 | 0,k,i,h0,hi,hk => by
  obtain ⟨k,rfl⟩ := ksucc hk
  have a := over_in h x0 x1
  have c := h.w0;have c1 := h.w1
  simp only [q4_Out.l0]
  rw [if_neg (by omega),List.take_of_length_le (by omega),w64 (n := x - weir) (by omega),w64 (n := spill * _) (by unfold over at a;omega)]
  rfl
 | d + 1,k,i,h0,hi,hk => by
  obtain ⟨k,rfl⟩ := ksucc (by omega : 0 < k)
  have n2 := h.n2
  have hz := z_mem h0 (by omega : i < noz.length)
  have a := h.nn _ hz
  have g := gvz_in h hz
  simp only [q4_Out.l0]
  rw [if_pos (by omega),if_pos h0,if_pos a.1,if_pos a.2.1,if_pos (by rw [List.length_map,List.length_take];omega),w64 (n := x - _) (by omega),mm_swap]
  have e := take_snoc z48 (pour rows x) noz h0 (by omega)
  have f := rout_go h x x0 x1 d k (i + 1) (by omega) (by omega) (by omega)
  rw [e] at f
  have p : wrap64 (Int.tdiv (wrap64 ((rd_T126 rows (rd_T48 noz i).f0).f2 * mx 0 (mn 5 (x - (rd_T48 noz i).f1)))) 5) = pour rows x (noz.getD i.toNat z48) :=
   pour_prog (g := gvz rows (rd_T48 noz i)) (by omega) (by omega) (mm_cases _)
  rw [p,w64 (n := i + 1) (by omega)]
  exact f
theorem rout_eq (h : OkB rows draw noz weir spill) {x : Int} (x0 : 0 ≤ x) (x1 : x ≤ 40) {k : Nat} (hk : 10 ≤ k) : q4_Out.f k rows draw noz weir spill x = some (gat rows noz x,over weir spill x) :=
 rout_go h x x0 x1 noz.length k 0 (by omega) (by omega) (by have := h.n2;omega)
end
theorem short_eq {rows : List S126} {draw : Int} {noz : List S48} {weir spill : Int} : l4_short.f rows draw noz weir spill = some (decide (rows.length ≤ 15 ∧ noz.length ≤ 8)) := by
 unfold l4_short.f
 by_cases h : (rows.length : Int) ≤ 15
 · rw [if_pos h,show decide (rows.length ≤ 15 ∧ noz.length ≤ 8) = decide ((noz.length : Int) ≤ 8) from by rw [decide_eq_decide];omega]
 · rw [if_neg h,decide_eq_false (by omega)]
section
variable {rows : List S126} {draw : Int} {noz : List S48} {weir spill : Int}
end
def spanF (a b : Int) : Bool := decide (0 ≤ a ∧ a ≤ 10000) && (decide (0 ≤ b ∧ b ≤ 10000) && decide (a ≤ b))
theorem isSpanF_eq (a b : Int) : isSpan_isFlow.f a b = some (spanF a b) := by
 unfold isSpan_isFlow.f spanF
 simp only [c_flow,Option.bind_some]
 cases decide (0 ≤ a ∧ a ≤ 10000) <;> cases decide (0 ≤ b ∧ b ≤ 10000) <;> rfl
theorem flow_eq (a b : Int) : q4_Flow.f a b = some (spanF a b) := by
 unfold q4_Flow.f spanF
 simp only [r_cups,Option.bind_some]
 cases decide (0 ≤ a ∧ a ≤ 10000) <;> cases decide (0 ≤ b ∧ b ≤ 10000) <;> rfl
section
variable {rows : List S126} {draw : Int} {noz : List S48} {weir spill : Int}
end
section
variable {rows : List S126} {draw : Int} {noz : List S48} {weir spill : Int}
end
theorem same_go (xs ys : List Int) (hl : xs.length = ys.length) (hb : xs.length ≤ 1000) : ∀ (d k : Nat) (i : Int),0 ≤ i → i + d = xs.length → d < k →
 q1_Same.l0 k xs ys i = some (decide (xs.drop i.toNat = ys.drop i.toNat))
 | 0,k,i,h0,h1,hk => by
  obtain ⟨k,rfl⟩ := ksucc (by omega : 0 < k)
  simp only [q1_Same.l0]
  rw [if_neg (by omega),List.drop_of_length_le (by omega),List.drop_of_length_le (by omega),decide_eq_true rfl]
 | d + 1,k,i,h0,h1,hk => by
  obtain ⟨k,rfl⟩ := ksucc (by omega : 0 < k)
  simp only [q1_Same.l0]
  rw [if_pos (by omega),if_pos h0,if_pos (by omega),w64 (n := i + 1) (by omega)]
  have hi : i.toNat < xs.length := by omega
  have hj : i.toNat < ys.length := by omega
  have e1 : xs.drop i.toNat = rd xs i :: xs.drop (i.toNat + 1) := by rw [List.drop_eq_getElem_cons hi];simp [rd,hi]
  have e2 : ys.drop i.toNat = rd ys i :: ys.drop (i.toNat + 1) := by rw [List.drop_eq_getElem_cons hj];simp [rd,hj]
  rw [e1,e2]
  by_cases c : rd xs i = rd ys i
  · rw [if_pos c,same_go xs ys hl hb d k (i + 1) (by omega) (by omega) (by omega),show (i + 1).toNat = i.toNat + 1 by omega]
    simp [c]
  · rw [if_neg c]
    simp [c]
theorem same_eq {xs ys : List Int} (hb : xs.length ≤ 1000) {k : Nat} (hk : xs.length < k) : q4_Same.f k xs ys = some (decide (xs = ys)) := by
 unfold q4_Same.f q1_Same.f
 by_cases hl : xs.length = ys.length
 · rw [if_pos (by omega),same_go xs ys hl hb xs.length k 0 (by omega) (by omega) hk]
   simp
 · rw [if_neg (by omega),decide_eq_false (fun e => hl (by rw [e]))]
   rfl
end Go.Proofs.YtnnmnhpeblhiiaaGreatDoor.C

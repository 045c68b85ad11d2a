/- A part of the proof: the walks of the functions that it reaches. TIGHT. -/
import Derived.Test.YticlelgmmonloaaGreatDoorM21
import Derived.Test.YticlelgmmonloaaGreatDoorM14
set_option linter.unusedVariables false
set_option linter.unusedSimpArgs false
namespace Go.Proofs.YticlelgmmonloaaGreatDoor.C
open Go.RowKit Go.Proofs.YticlelgmmonloaaGreatDoorW.PrintWords Go.Proofs.YticlelgmmonloaaGreatDoorW.PrintLast Go.Proofs.YticlelgmmonloaaGreatDoorW.PrintMore
set_option linter.unusedVariables false
set_option linter.unusedSimpArgs false
set_option maxHeartbeats 16000000
set_option maxRecDepth 100000
def shGo : List Int → List Int → Int → List Int × Int
 | x :: l,y :: n,r => ((x + mn r (y - x)) :: (shGo l n (r - mn r (y - x))).1,(shGo l n (r - mn r (y - x))).2)
 | l,_,r => (l,r)
def pairOk : List Int → List Int → Prop
 | x :: l,y :: n => (0 ≤ x ∧ x ≤ y ∧ y ≤ 1000) ∧ pairOk l n
 | [],[] => True
 | _,_ => False
theorem mn_in {r d : Int} (h0 : 0 ≤ r) (h1 : 0 ≤ d) : 0 ≤ mn r d ∧ mn r d ≤ r ∧ mn r d ≤ d := by unfold mn;split <;> omega
theorem shGo_in : ∀ {l n : List Int} {r : Int},pairOk l n → 0 ≤ r → (∀ x ∈ (shGo l n r).1,0 ≤ x ∧ x ≤ 1000) ∧ 0 ≤ (shGo l n r).2 ∧ (shGo l n r).2 ≤ r ∧ (shGo l n r).1.length = l.length ∧ (shGo l n r).1.sum + (shGo l n r).2 = l.sum + r
 | [],[],r,_,hr => by simp [shGo];omega
 | x :: l,y :: n,r,h,hr => by
  have m := mn_in (r := r) (d := y - x) hr (by have := h.1;omega)
  have ih := shGo_in (r := r - mn r (y - x)) h.2 (by omega)
  have hx := h.1
  simp only [shGo,List.length_cons,List.sum_cons]
  refine ⟨fun z hz => ?_,ih.2.1,by omega,by rw [ih.2.2.2.1],by omega⟩
  rcases List.mem_cons.1 hz with rfl | hz
  · omega
  · exact ih.1 z hz
 | [],_ :: _,_,h,_ => h.elim
 | _ :: _,[],_,h,_ => h.elim
theorem rd_app (P : List Int) (x : Int) (l : List Int) : rd (P ++ x :: l) (P.length : Int) = x := by simp [rd]
theorem set_app {α : Type} (P : List α) (x v : α) (l : List α) : (P ++ x :: l).set (P.length : Int).toNat v = P ++ [v] ++ l := by simp
theorem sh_go {cups : Int} (hc0 : 0 ≤ cups) (hc1 : cups ≤ 10000) : ∀ (l n P Q : List Int) (r : Int) (k : Nat),pairOk l n → P.length = Q.length → (∀ x ∈ P,0 ≤ x ∧ x ≤ 1000) → P.length + l.length ≤ 100 → 0 ≤ r → r ≤ 10000 → P.length + 2 * l.length + 2 < k →
 gf_shares.l0 k cups (P ++ l) r (Q ++ n) (Q ++ n).length P.length = some (P ++ (shGo l n r).1,cups - (P ++ (shGo l n r).1).sum)
 | [],[],P,Q,r,k,_,hPQ,hP,hl,hr0,hr1,hk => by
  obtain ⟨k,rfl⟩ := ksucc (by omega : 0 < k)
  simp only [gf_shares.l0,shGo,List.append_nil]
  rw [if_neg (by omega)]
  simp only [List.length_nil] at hl hk
  rw [csum (by omega) (fun x hx => by have := hP x hx;omega) (by omega)]
  have s := sum_bd (l := P) (B := 1000) (by omega) (fun x hx => by have := hP x hx;omega)
  simp only [Option.bind_some]
  rw [w64 (by omega)]
 | x :: l,y :: n,P,Q,r,k,h,hPQ,hP,hl,hr0,hr1,hk => by
  obtain ⟨k,rfl⟩ := ksucc (by omega : 0 < k)
  simp only [List.length_cons] at hl hk
  have hx := h.1
  have m := mn_in (r := r) (d := y - x) hr0 (by omega)
  simp only [gf_shares.l0]
  have e : rd (Q ++ y :: n) (P.length : Int) = y := by rw [hPQ];exact rd_app Q y n
  rw [if_pos (by rw [List.length_append,List.length_cons];omega),if_pos (by omega),if_pos (by rw [List.length_append,List.length_cons];omega),if_pos (by rw [List.length_append,List.length_cons];omega),rd_app,e,w64 (n := y - x) (by omega),w64 (n := x + _) (by omega),w64 (n := r - _) (by omega),w64 (n := (P.length : Int) + 1) (by omega),set_app]
  have ih := sh_go hc0 hc1 l n (P ++ [x + mn r (y - x)]) (Q ++ [y]) (r - mn r (y - x)) k h.2 (by simp [hPQ]) (fun z hz => by
   rcases List.mem_append.1 hz with hz | hz
   · exact hP z hz
   · simp at hz;omega) (by simp;omega) (by omega) (by omega) (by simp;omega)
  have e2 : Q ++ y :: n = Q ++ [y] ++ n := by simp
  rw [e2,show (P.length : Int) + 1 = ((P ++ [x + mn r (y - x)]).length : Int) by simp,ih]
  simp [shGo]
 | [],_ :: _,_,_,_,_,h,_,_,_,_,_,_ => h.elim
 | _ :: _,[],_,_,_,_,h,_,_,_,_,_,_ => h.elim
section
variable {rows : List S126} {draw : Int} {noz : List S64} {weir spill : Int}
def levN (rows : List S126) (noz : List S64) (weir spill cups : Int) : Nat → Int
 | 0 => 0
 | n + 1 => if tot rows noz weir spill ((n : Int) + 1) ≤ cups then (n : Int) + 1 else levN rows noz weir spill cups n
def lev (rows : List S126) (noz : List S64) (weir spill cups : Int) : Int := levN rows noz weir spill cups 40
theorem levN_is (h : OkB rows draw noz weir spill) {cups : Int} (hc : 0 ≤ cups) : ∀ n : Nat,n ≤ 40 → (n < 40 → cups < tot rows noz weir spill ((n : Int) + 1)) → Lev rows noz weir spill cups (levN rows noz weir spill cups n)
 | 0,_,hn => ⟨by simp [levN],by simp [levN],by simp [levN,tot_zero h,hc],fun _ => by simpa [levN] using hn (by omega)⟩
 | n + 1,h1,hn => by
  unfold levN
  by_cases g : tot rows noz weir spill ((n : Int) + 1) ≤ cups
  · rw [if_pos g]
    exact ⟨by omega,by omega,g,fun _ => by have := hn (by omega);rw [Int.natCast_add] at this;exact this⟩
  · rw [if_neg g]
    exact levN_is h hc n (by omega) (fun _ => by omega)
theorem lev_is (h : OkB rows draw noz weir spill) {cups : Int} (hc : 0 ≤ cups) : Lev rows noz weir spill cups (lev rows noz weir spill cups) := levN_is h hc 40 (by omega) (fun h => by omega)
theorem level_lev (h : OkB rows draw noz weir spill) {cups : Int} (hc : 0 ≤ cups) : gf_level.f rows draw noz weir spill (grid rows noz) cups = some (lev rows noz weir spill cups) := by
 obtain ⟨r,hr,hl⟩ := level_eq h hc
 rw [hr,hl.uniq h (lev_is h hc)]
def shareL (rows : List S126) (noz : List S64) (weir spill cups : Int) : List Int :=
 if lev rows noz weir spill cups < 40 then (shGo (gat rows noz (lev rows noz weir spill cups)) (gat rows noz (lev rows noz weir spill cups + 1)) (cups - tot rows noz weir spill (lev rows noz weir spill cups))).1 else gat rows noz (lev rows noz weir spill cups)
theorem gat_pairs (h : OkB rows draw noz weir spill) {a b : Int} (hab : a ≤ b) : pairOk (gat rows noz a) (gat rows noz b) := by
 have : ∀ l : List S64,(∀ z ∈ l,z ∈ noz) → pairOk (l.map (pour rows a)) (l.map (pour rows b)) := by
  intro l
  induction l with
  | nil => intro _;trivial
  | cons z l ih =>
   intro hl
   have hz := hl z (by simp)
   exact ⟨⟨(pour_in h hz a).1,pour_mono h hz hab,(pour_in h hz b).2⟩,ih (fun y hy => hl y (by simp [hy]))⟩
 exact this noz (fun _ hz => hz)
theorem shareL_in (h : OkB rows draw noz weir spill) {cups : Int} (hc : 0 ≤ cups) : (∀ x ∈ shareL rows noz weir spill cups,0 ≤ x ∧ x ≤ 1000) ∧ (shareL rows noz weir spill cups).length = noz.length := by
 have L := lev_is h hc
 unfold shareL
 by_cases g : lev rows noz weir spill cups < 40
 case neg =>
  rw [if_neg g]
  exact ⟨gat_in h _,gat_len _⟩
 rw [if_pos g]
 have a := shGo_in (r := cups - tot rows noz weir spill (lev rows noz weir spill cups)) (gat_pairs h (show lev rows noz weir spill cups ≤ lev rows noz weir spill cups + 1 by omega)) (by have := L.2.2.1;omega)
 exact ⟨a.1,by rw [a.2.2.2.1,gat_len]⟩
theorem clone_int {l : List Int} (hl : l.length ≤ 1000) : sl_Clone_int.f l = some l := by unfold sl_Clone_int.f;rw [if_pos (by omega)]
theorem shares_eq (h : OkB rows draw noz weir spill) {cups : Int} (hc0 : 0 ≤ cups) (hc1 : cups ≤ 10000) {k : Nat} (hk : 20 ≤ k) :
 gf_shares.f k rows draw noz weir spill (grid rows noz) cups = some (shareL rows noz weir spill cups,cups - (shareL rows noz weir spill cups).sum) := by
 have L := lev_is h hc0
 have n2 := h.n2
 have t0 := tot_in h L.1 L.2.1
 have B := shareL_in h hc0
 have s := sum_bd (l := shareL rows noz weir spill cups) (B := 1000) (by omega) (fun x hx => by have := B.1 x hx;omega)
 rw [B.2] at s
 unfold gf_shares.f
 rw [level_lev h hc0,Option.bind_some,if_pos L.1,if_pos (by rw [grid_len];have := L.2.1;omega),grid_at _ _ L.1 L.2.1,clone_int (by rw [gat_len];omega),Option.bind_some]
 unfold shareL
 by_cases g : lev rows noz weir spill cups < 40
 · rw [if_pos g,if_pos g,out_eq h L.1 L.2.1,Option.bind_some,w64 (n := _ + 1) (by have := L.1;omega),if_pos (by have := L.1;omega),if_pos (by rw [grid_len];omega),grid_at _ _ (by have := L.1;omega) (by omega),w64 (by omega)]
   have f := sh_go hc0 hc1 (gat rows noz (lev rows noz weir spill cups)) (gat rows noz (lev rows noz weir spill cups + 1)) [] [] (cups - tot rows noz weir spill (lev rows noz weir spill cups)) k (gat_pairs h (by omega)) rfl (fun x hx => by simp at hx) (by simp [gat_len];omega) (by have := L.2.2.1;omega) (by omega) (by simp [gat_len];omega)
   simpa using f
 · rw [if_neg g,if_neg g]
   have a := gat_in h (lev rows noz weir spill cups)
   rw [csum (by rw [gat_len];omega) (fun x hx => by have := a x hx;omega) (by rw [gat_len];omega),Option.bind_some]
   have c := gsum_in h (lev rows noz weir spill cups)
   rw [w64 (by omega)]
def setH (noz : List S64) (l : List Int) : List S64 := List.zipWith (fun z x => (⟨z.f0,x⟩ : S64)) noz l
theorem clone_z {l : List S64} (hl : l.length ≤ 1000) : sl_Clone_Z.f l = some l := by unfold sl_Clone_Z.f;rw [if_pos (by omega)]
theorem rdz_app (P : List S64) (x : S64) (l : List S64) : rd_T64 (P ++ x :: l) (P.length : Int) = x := by simp [rd_T64]
theorem moved_go (rows : List S126) (draw weir spill : Int) : ∀ (l Q : List Int) (z P : List S64) (k : Nat),l.length = z.length → Q.length = P.length → P.length + z.length ≤ 1000 → z.length < k →
 ca_moved.l0 k (Q ++ l) (Q ++ l).length P.length rows draw (P ++ z) weir spill = some (draw,P ++ setH z l,weir,spill)
 | [],Q,[],P,k,_,hQ,hl,hk => by
  obtain ⟨k,rfl⟩ := ksucc (by omega : 0 < k)
  simp only [ca_moved.l0,List.append_nil,setH,List.zipWith_nil_left]
  rw [if_neg (by omega)]
 | x :: l,Q,y :: z,P,k,hlz,hQ,hl,hk => by
  simp only [List.length_cons] at hl hk hlz
  obtain ⟨k,rfl⟩ := ksucc (by omega : 0 < k)
  simp only [ca_moved.l0]
  have e : rd (Q ++ x :: l) (P.length : Int) = x := by rw [← hQ];exact rd_app Q x l
  rw [if_pos (by rw [List.length_append,List.length_cons];omega),if_pos (by omega),if_pos (by rw [List.length_append,List.length_cons];omega),if_pos (by rw [List.length_append,List.length_cons];omega),w64 (by omega),rdz_app,e,set_app]
  have ih := moved_go rows draw weir spill l (Q ++ [x]) z (P ++ [⟨y.f0,x⟩]) k (by omega) (by simp [hQ]) (by simp;omega) (by omega)
  have e2 : Q ++ x :: l = Q ++ [x] ++ l := by simp
  rw [e2,show (P.length : Int) + 1 = ((P ++ [(⟨y.f0,x⟩ : S64)]).length : Int) by simp,ih]
  simp [setH]
 | [],_,_ :: _,_,_,h,_,_,_ => by simp at h
 | _ :: _,_,[],_,_,h,_,_,_ => by simp at h
theorem moved_eq {l : List Int} (hl : l.length = noz.length) (hn : noz.length ≤ 1000) {k : Nat} (hk : noz.length < k) : ca_moved.f k rows draw noz weir spill l = some (draw,setH noz l,weir,spill) := by
 unfold ca_moved.f
 rw [clone_z hn,Option.bind_some]
 exact moved_go rows draw weir spill l [] noz [] k hl rfl (by simpa using hn) hk
theorem setH_len {l : List Int} (hl : l.length = noz.length) : (setH noz l).length = noz.length := by simp [setH,hl]
theorem setH_ok (h : OkB rows draw noz weir spill) {l : List Int} (hl : l.length = noz.length) (hz : ∀ x ∈ l,0 ≤ x ∧ x ≤ 40) : OkB rows draw (setH noz l) weir spill := by
 refine ⟨h.r1,h.r2,h.tab,h.rr,by rw [setH_len hl];exact h.n1,by rw [setH_len hl];exact h.n2,h.w0,h.w1,h.s0,h.s1,fun z hm => ?_⟩
 unfold setH at hm
 obtain ⟨i,hi,rfl⟩ := List.mem_iff_getElem.1 hm
 rw [List.getElem_zipWith]
 simp only [List.length_zipWith] at hi
 have a := h.nn _ (List.getElem_mem (show i < noz.length by omega))
 have b := hz _ (List.getElem_mem (show i < l.length by omega))
 exact ⟨a.1,a.2.1,b.1,b.2⟩
theorem sufGo_total (shares : List Int) : ∀ (claims : List Int) (i : Int),0 ≤ i → i + claims.length ≤ shares.length → ∃ b,sufGo shares claims i = some b
 | [],_,_,_ => ⟨true,rfl⟩
 | n :: rest,i,h0,h => by
  simp only [List.length_cons] at h
  simp only [sufGo]
  rw [if_pos (by omega)]
  by_cases g : rd shares i < n
  · rw [if_pos g];exact ⟨false,rfl⟩
  · rw [if_neg g];exact sufGo_total shares rest (i + 1) (by omega) (by omega)
theorem suffice_eq (h : OkB rows draw noz weir spill) {l claims : List Int} {cups : Int} (hl : l.length = noz.length) (hz : ∀ x ∈ l,0 ≤ x ∧ x ≤ 40) (hc0 : 0 ≤ cups) (hc1 : cups ≤ 10000) {k : Nat} (hk : 20 ≤ k) :
 suffice.f k rows draw noz weir spill cups claims l = sufGo (shareL rows (setH noz l) weir spill cups) claims 0 := by
 have h2 := setH_ok h hl hz
 have n2 := h.n2
 unfold suffice.f
 rw [moved_eq hl (by omega) (by omega)]
 simp only [Option.bind_some]
 rw [fillK_eq h2]
 simp only [Option.bind_some]
 rw [shares_eq h2 hc0 hc1 hk]
 rfl
theorem suffice_total (h : OkB rows draw noz weir spill) {l claims : List Int} {cups : Int} (hl : l.length = noz.length) (hz : ∀ x ∈ l,0 ≤ x ∧ x ≤ 40) (hc0 : 0 ≤ cups) (hc1 : cups ≤ 10000) {k : Nat} (hk : 20 ≤ k) (hcl : claims.length = noz.length) :
 ∃ b,suffice.f k rows draw noz weir spill cups claims l = some b := by
 rw [suffice_eq h hl hz hc0 hc1 hk]
 exact sufGo_total _ claims 0 (by omega) (by rw [(shareL_in (setH_ok h hl hz) hc0).2,setH_len hl];omega)
theorem rout_go (h : OkB rows draw noz weir spill) (x : Int) (x0 : 0 ≤ x) (x1 : x ≤ 40) : ∀ (d k : Nat) (i : Int),0 ≤ i → i + d = noz.length → d < k →
 q4_Out.l0 k x ((noz.take i.toNat).map (pour rows x)) i rows draw noz weir spill = some (gat rows noz x,over weir spill x)
 | 0,k,i,h0,hi,hk => by
  obtain ⟨k,rfl⟩ := ksucc hk
  have a := over_in h x0 x1
  have c := h.w0;have c1 := h.w1
  simp only [q4_Out.l0]
  rw [if_neg (by omega),List.take_of_length_le (by omega),w64 (n := x - weir) (by omega),w64 (n := spill * _) (by unfold over at a;omega)]
  rfl
 | d + 1,k,i,h0,hi,hk => by
  obtain ⟨k,rfl⟩ := ksucc (by omega : 0 < k)
  have n2 := h.n2
  have hz := z_mem h0 (by omega : i < noz.length)
  have a := h.nn _ hz
  have g := gvz_in h hz
  simp only [q4_Out.l0]
  rw [if_pos (by omega),if_pos h0,if_pos a.1,if_pos a.2.1,if_pos (by rw [List.length_map,List.length_take];omega),w64 (n := x - _) (by omega),mm_swap]
  have e := take_snoc z64 (pour rows x) noz h0 (by omega)
  have f := rout_go h x x0 x1 d k (i + 1) (by omega) (by omega) (by omega)
  rw [e] at f
  have p : wrap64 (Int.tdiv (wrap64 ((rd_T126 rows (rd_T64 noz i).f0).f2 * mx 0 (mn 5 (x - (rd_T64 noz i).f1)))) 5) = pour rows x (noz.getD i.toNat z64) :=
   pour_prog (g := gvz rows (rd_T64 noz i)) (by omega) (by omega) (mm_cases _)
  rw [p,w64 (n := i + 1) (by omega)]
  exact f
theorem rout_eq (h : OkB rows draw noz weir spill) {x : Int} (x0 : 0 ≤ x) (x1 : x ≤ 40) {k : Nat} (hk : 10 ≤ k) : q4_Out.f k rows draw noz weir spill x = some (gat rows noz x,over weir spill x) :=
 rout_go h x x0 x1 noz.length k 0 (by omega) (by omega) (by have := h.n2;omega)
theorem rtot_go (xs : List Int) (hl : xs.length ≤ 1000) (hx : ∀ x ∈ xs,0 ≤ x ∧ x ≤ 1000) : ∀ (d k : Nat) (i acc : Int),0 ≤ i → i + d = xs.length → d < k → 0 ≤ acc → acc ≤ 4000 + 1000 * i →
 q4_Total.l0 k xs acc i = some (acc + (xs.drop i.toNat).sum)
 | 0,k,i,acc,h0,hi,hk,hb,hb2 => by
  obtain ⟨k,rfl⟩ := ksucc hk
  simp only [q4_Total.l0]
  rw [if_neg (by omega),List.drop_of_length_le (by omega)]
  simp
 | d + 1,k,i,acc,h0,hi,hk,hb,hb2 => by
  obtain ⟨k,rfl⟩ := ksucc (by omega : 0 < k)
  simp only [q4_Total.l0]
  have e := drop_at (0 : Int) xs i h0 (by omega)
  have m := hx _ (getD_mem (0 : Int) h0 (by omega : i < xs.length))
  rw [if_pos (by omega),if_pos h0]
  unfold rd
  rw [w64 (n := acc + _) (by omega),w64 (by omega),rtot_go xs hl hx d k (i + 1) _ (by omega) (by omega) (by omega) (by omega) (by omega),e,List.sum_cons,Int.add_assoc]
theorem rtot_eq (h : OkB rows draw noz weir spill) {x : Int} (x0 : 0 ≤ x) (x1 : x ≤ 40) {k : Nat} (hk : 10 ≤ k) : q4_Total.f k rows draw noz weir spill x = some (tot rows noz weir spill x) := by
 have a := gat_in h x
 have b := over_in h x0 x1
 have n2 := h.n2
 unfold q4_Total.f
 rw [rout_eq h x0 x1 hk,Option.bind_some,rtot_go _ (by rw [gat_len];omega) a noz.length k 0 _ (by omega) (by rw [gat_len];omega) (by omega) (by omega) (by omega)]
 simp only [Int.toNat_zero,List.drop_zero]
 unfold tot
 rw [Int.add_comm]
theorem stands_go (h : OkB rows draw noz weir spill) {cups : Int} (hc : 0 ≤ cups) : ∀ (n k : Nat),n ≤ 40 → (n < 40 → cups < tot rows noz weir spill ((n : Int) + 1)) → n + 11 ≤ k →
 q4_Stands.l0 k cups n rows draw noz weir spill = some (lev rows noz weir spill cups)
 | n,k,h1,hn,hk => by
  obtain ⟨k,rfl⟩ := ksucc (by omega : 0 < k)
  simp only [q4_Stands.l0]
  rw [rtot_eq h (by omega) (by omega) (by omega),Option.bind_some]
  by_cases g : tot rows noz weir spill (n : Int) > cups
  case neg =>
   rw [if_neg g]
   have : Lev rows noz weir spill cups (n : Int) := ⟨by omega,by omega,by omega,fun _ => hn (by omega)⟩
   rw [this.uniq h (lev_is h hc)]
  rw [if_pos g]
  cases n with
  | zero => rw [show ((0 : Nat) : Int) = 0 from rfl,tot_zero h] at g;omega
  | succ n =>
   rw [w64 (by omega),show ((n + 1 : Nat) : Int) - 1 = (n : Int) by omega]
   exact stands_go h hc n k (by omega) (fun _ => by rw [Int.natCast_add] at g;exact g) (by omega)
theorem stands_eq (h : OkB rows draw noz weir spill) {cups : Int} (hc : 0 ≤ cups) {k : Nat} (hk : 51 ≤ k) : q4_Stands.f k rows draw noz weir spill cups = some (lev rows noz weir spill cups) :=
 stands_go h hc 40 k (by omega) (fun h => by omega) (by omega)
end
def ca_Mends.f (l0_0 : List S126) (a0_1 : Int) (l0_2 : List S64) (a0_3 a0_4 : Int) (claims : List Int) (cups : Int) : Option (List Int × Int × Int) :=
 if l0_0.length ≤ 1000 then ca_MendsK.f 500 l0_0 a0_1 l0_2 a0_3 a0_4 claims cups else none
theorem ca_Mends.calls (A0_0 : Option Addr) (c0_0 : Nat) (l0_0 : List S126) (a0_1 : Int) (A0_2 : Option Addr) (c0_2 : Nat) (l0_2 : List S64) (a0_3 a0_4 : Int) (A3 : Option Addr) (c3 : Nat) (claims : List Int) (cups : Int) (r1 : List Int) (r2 r3 : Int) (w : World) (hr0_0 : Kd.C k126 w A0_0 l0_0.length l0_0) (hc0_0 : l0_0.length ≤ c0_0) (hr0_2 : Kd.C k64 w A0_2 l0_2.length l0_2) (hc0_2 : l0_2.length ≤ c0_2) (hr3 : Kd.C (Kd.int .i64) w A3 claims.length claims) (hc3 : claims.length ≤ c3)
 (h : ca_Mends.f l0_0 a0_1 l0_2 a0_3 a0_4 claims cups = some (r1,r2,r3)) :
 Calls Tryz.prog 38 #[.agg #[.slice A0_0 l0_0.length c0_0,.int .i64 a0_1,.slice A0_2 l0_2.length c0_2,.int .i64 a0_3,.int .i64 a0_4],.slice A3 claims.length c3,.int .i64 cups] w (MendsPost r1 r2 r3 w) := by
 unfold ca_Mends.f at h
 split at h
 case isFalse => cases h
 case isTrue hl =>
  have ok : ca_isBasin.f l0_0 a0_1 l0_2 a0_3 a0_4 = some true → OkB l0_0 a0_1 l0_2 a0_3 a0_4 := fun hb => okB_iff.1 (Option.some.inj ((isBasin_eq hl).symm.trans hb))
  refine ca_MendsK.calls 500 A0_0 c0_0 l0_0 a0_1 A0_2 c0_2 l0_2 a0_3 a0_4 A3 c3 claims cups r1 r2 r3 w hr0_0 hc0_0 hr0_2 hc0_2 hr3 hc3 ?_ ?_ h
  · intro hb
    have B := ok hb
    refine ⟨fun z hz => ?_,B.n2⟩
    obtain ⟨y,hy,rfl⟩ := List.mem_map.1 hz
    exact (B.nn y hy).2.2
  · intro hb hcl hf l hl hz
    have f := of_decide_eq_true (Option.some.inj ((c_flow cups).symm.trans hf))
    exact suffice_total (ok hb) hl hz f.1 f.2 (by decide) hcl
section
attribute [local go_sem] max2_int min2_int max_two min_two
mutual
def l4_CastleMends.j0 : Nat → List Int → Int → Bool → List (S126) → Int → List (S64) → Int → Int → Option (Bool)
 | 0,_,_,_,_,_,_,_,_ => none
 | k + 1,x1,x2,x20,x877000,x877001,x877002,x877003,x877004 => if x20 = true then ((l4_known.f).bind fun t878 => (some t878)) else ((q4_Basin.f k x877000 x877001 x877002 x877003 x877004).bind fun t879 => (if t879 = true then ((q4_Claims.f k x877000 x877001 x877002 x877003 x877004 x1).bind fun t880 => (if t880 = true then ((q4_Cups.f x2).bind fun t881 => (l4_CastleMends.j1 k x1 x2 t881 x877000 x877001 x877002 x877003 x877004)) else (l4_CastleMends.j1 k x1 x2 false x877000 x877001 x877002 x877003 x877004))) else (l4_CastleMends.j1 k x1 x2 false x877000 x877001 x877002 x877003 x877004)))
def l4_CastleMends.j1 : Nat → List Int → Int → Bool → List (S126) → Int → List (S64) → Int → Int → Option (Bool)
 | 0,_,_,_,_,_,_,_,_ => none
 | k + 1,x1,x2,x7,x877000,x877001,x877002,x877003,x877004 => if x7 = true then (l4_CastleMends.j2 k x1 x2 x7 (decide ((x877002.length : Int) > 4)) x877000 x877001 x877002 x877003 x877004) else (l4_CastleMends.j2 k x1 x2 x7 false x877000 x877001 x877002 x877003 x877004)
def l4_CastleMends.j2 : Nat → List Int → Int → Bool → Bool → List (S126) → Int → List (S64) → Int → Int → Option (Bool)
 | 0,_,_,_,_,_,_,_,_,_ => none
 | k + 1,x1,x2,x7,x39,x877000,x877001,x877002,x877003,x877004 => if x39 = true then ((l4_known.f).bind fun t882 => (some t882)) else ((ca_Mends.f x877000 x877001 x877002 x877003 x877004 x1 x2).bind fun bt883 => (if x7 = true then ((q4_Mends.f k x877000 x877001 x877002 x877003 x877004 x1 x2).bind fun bt889 => (if bt889.2 = true then (if bt883.2.2 = 0 then ((q4_Same.f k bt883.1 bt889.1).bind fun t893 => (if t893 = true then ((q4_Moved.f k x877000 x877001 x877002 x877003 x877004 bt889.1).bind fun t894 => (if bt883.2.1 = t894 then ((l4_known.f).bind fun t895 => (some t895)) else (none))) else (none))) else (none)) else (if bt883.2.2 = 5 then (if (bt883.1.length : Int) = 0 then (if bt883.2.1 = 0 then ((l4_known.f).bind fun t896 => (some t896)) else (none)) else (none)) else (none)))) else (if bt883.2.2 = 2 then (if (bt883.1.length : Int) = 0 then (if bt883.2.1 = 0 then ((l4_known.f).bind fun t888 => (some t888)) else (none)) else (none)) else (none))))
end
def l4_CastleMends.f (k : Nat) (l0_0 : List (S126)) (a0_1 : Int) (l0_2 : List (S64)) (a0_3 : Int) (a0_4 : Int) (l1 : List Int) (a2 : Int) : Option (Bool) := (l4_short.f l0_0 a0_1 l0_2 a0_3 a0_4).bind fun t877 => (if t877 = true then (l4_CastleMends.j0 k l1 a2 (decide ((l1.length : Int) > 8)) l0_0 a0_1 l0_2 a0_3 a0_4) else (l4_CastleMends.j0 k l1 a2 true l0_0 a0_1 l0_2 a0_3 a0_4))
theorem l4_CastleMends.calls (k : Nat) (A0_0 : Option Addr) (c0_0 : Nat) (l0_0 : List (S126)) (a0_1 : Int) (A0_2 : Option Addr) (c0_2 : Nat) (l0_2 : List (S64)) (a0_3 : Int) (a0_4 : Int) (A1 : Option Addr) (c1 : Nat) (l1 : List Int) (a2 : Int) (r : Bool) (w : World) (hr0_0 : Kd.C k126 w A0_0 l0_0.length l0_0) (hc0_0 : l0_0.length ≤ c0_0) (hr0_2 : Kd.C k64 w A0_2 l0_2.length l0_2) (hc0_2 : l0_2.length ≤ c0_2) (hr1 : Kd.C (Kd.int .i64) w A1 l1.length l1) (hc1 : l1.length ≤ c1) (h : l4_CastleMends.f k l0_0 a0_1 l0_2 a0_3 a0_4 l1 a2 = some r) :
 Calls Tryz.prog 11 #[.agg #[.slice A0_0 l0_0.length c0_0,.int .i64 a0_1,.slice A0_2 l0_2.length c0_2,.int .i64 a0_3,.int .i64 a0_4],.slice A1 l1.length c1,.int .i64 a2] w fun e w' => e = .returned (.bool r) ∧ Below w.heap.size w w' := by
 have hu27 := Tryz.underlying27
 have HR0_0 := am hr0_0
 have HC0_0 := am hc0_0
 clear hr0_0 hc0_0
 have HR0_2 := am hr0_2
 have HC0_2 := am hc0_2
 clear hr0_2 hc0_2
 have HR1 := am hr1
 have HC1 := am hc1
 clear hr1 hc1
 have HB := am (Below.refl w.heap.size w)
 have H : ((l4_short.f l0_0 a0_1 l0_2 a0_3 a0_4).bind fun t877 => (if t877 = true then (l4_CastleMends.j0 k l1 a2 (decide ((l1.length : Int) > 8)) l0_0 a0_1 l0_2 a0_3 a0_4) else (l4_CastleMends.j0 k l1 a2 true l0_0 a0_1 l0_2 a0_3 a0_4))) = some r := h
 clear h
 have HC4 := am H
 clear H
 go_enter Tryz.func11,Tryz.ntmps11
 go_upto_region 1 with (first | ((refine gate_dst (N := 3) rfl ?_);(try (refine gate_guard (by rfl) ?_;dsimp only));refine box_event rfl (N := 3) rfl (cs := #[.slice A0_0 l0_0.length c0_0,.int .i64 a0_1,.slice A0_2 l0_2.length c0_2,.int .i64 a0_3,.int .i64 a0_4]) (t := 27) ?hr ?_;(case hr => go_simp;try rfl);intro gb876 hg w5 hbox hb;have BK876 := am (hbox);have GW876 := am (ge_new (HB.out) hg);have GE876 := am (ge_new (HB.out) hg);replace HB := am (below_step (HB.out) hb);clear hb hbox hg))
 (try simp only [Act.put,List.setIfInBounds_toArray,List.set_cons_zero,List.set_cons_succ])
 go_cut [20] (fun v20 wc => ∃ (kq : Nat) (x20_3 : Bool),v20 = .bool x20_3 ∧ Aside0 (l4_CastleMends.j0 kq l1 a2 x20_3 l0_0 a0_1 l0_2 a0_3 a0_4 = some r) ∧ Aside0 (kq ≤ k) ∧ Aside0 (wc.heap[gb876]? = some (.cells #[(.slice A0_0 l0_0.length c0_0),.int .i64 a0_1,(.slice A0_2 l0_2.length c0_2),.int .i64 a0_3,.int .i64 a0_4] 27 (0,0))) ∧ Aside0 (Below w.heap.size w wc))
 case first =>
  have H := HC4.out
  clear HC4
  replace H := obm H
  obtain ⟨t877,A60,H⟩ := H
  replace H : (if t877 = true then (l4_CastleMends.j0 k l1 a2 (decide ((l1.length : Int) > 8)) l0_0 a0_1 l0_2 a0_3 a0_4) else (l4_CastleMends.j0 k l1 a2 true l0_0 a0_1 l0_2 a0_3 a0_4)) = some r := H
  have A6 := am A60
  clear A60
  by_cases c7 : t877 = true
  · subst c7
    replace H : (l4_CastleMends.j0 k l1 a2 (decide ((l1.length : Int) > 8)) l0_0 a0_1 l0_2 a0_3 a0_4) = some r := by rw [if_pos rfl] at H;exact H
    replace H' := am H
    obtain ⟨hcz8_0,hcz8_1,hcz8_2,hcz8_3,hcz8_4⟩ := cO5 BK876.out
    go_wp2_with (first | ((with_reducible refine gate_callee (f := 14) rfl ?_);refine goesL_ (some 14) rfl rfl Tryz.func14 (by kernel_rfl) rfl #[.agg #[.slice A0_0 l0_0.length c0_0,.int .i64 a0_1,.slice A0_2 l0_2.length c0_2,.int .i64 a0_3,.int .i64 a0_4]] rfl (by (try simp only [List.map_toArray,List.map_cons,List.map_nil]);first | done | rfl | (simp only [List.length_drop,List.length_take];rfl)) ?_;(with_reducible refine (l4_short.calls _ _ l0_0 a0_1 _ _ l0_2 a0_3 a0_4 true _ ?side1 ?side2 ?side3 ?side4 A6.out).mono ?_);(case side1 => exact kC HR0_0.out HB.out);(case side2 => exact HC0_0.out);(case side3 => exact kC HR0_2.out HB.out);(case side4 => exact HC0_2.out);rintro e w9 ⟨rfl,hb⟩;refine ⟨_,rfl,?_⟩;replace BK876 := am (blk_below (g := gb876) (o := .cells #[.slice A0_0 l0_0.length c0_0,.int .i64 a0_1,.slice A0_2 l0_2.length c0_2,.int .i64 a0_3,.int .i64 a0_4] 27 (0,0)) (by (with_reducible repeat (first | refine blk_drewN ?_ _ | refine blk_drew ?_ | refine blk_alloc ?_ _));exact BK876.out) hb);replace HB := am (below_step (HB.out) hb);(try clear hb);(try clear hb2);(try clear hk);(try clear hi)))
    go_meet
    case rel => exact ⟨_,(decide ((l1.length : Int) > 8)),(by first | rfl | (simp;done) | (simp [*];done)),H',⟨by first | omega | exact Nat.le_refl _⟩,⟨BK876.out⟩,⟨HB.out⟩⟩
  · replace c7 := Bool.eq_false_iff.mpr c7
    subst c7
    replace H : (l4_CastleMends.j0 k l1 a2 true l0_0 a0_1 l0_2 a0_3 a0_4) = some r := by rw [if_neg (show ¬ (false = true) by decide)] at H;exact H
    replace H' := am H
    obtain ⟨hcz10_0,hcz10_1,hcz10_2,hcz10_3,hcz10_4⟩ := cO5 BK876.out
    go_wp2_with (first | ((with_reducible refine gate_callee (f := 14) rfl ?_);refine goesL_ (some 14) rfl rfl Tryz.func14 (by kernel_rfl) rfl #[.agg #[.slice A0_0 l0_0.length c0_0,.int .i64 a0_1,.slice A0_2 l0_2.length c0_2,.int .i64 a0_3,.int .i64 a0_4]] rfl (by (try simp only [List.map_toArray,List.map_cons,List.map_nil]);first | done | rfl | (simp only [List.length_drop,List.length_take];rfl)) ?_;(with_reducible refine (l4_short.calls _ _ l0_0 a0_1 _ _ l0_2 a0_3 a0_4 false _ ?side1 ?side2 ?side3 ?side4 A6.out).mono ?_);(case side1 => exact kC HR0_0.out HB.out);(case side2 => exact HC0_0.out);(case side3 => exact kC HR0_2.out HB.out);(case side4 => exact HC0_2.out);rintro e w11 ⟨rfl,hb⟩;refine ⟨_,rfl,?_⟩;replace BK876 := am (blk_below (g := gb876) (o := .cells #[.slice A0_0 l0_0.length c0_0,.int .i64 a0_1,.slice A0_2 l0_2.length c0_2,.int .i64 a0_3,.int .i64 a0_4] 27 (0,0)) (by (with_reducible repeat (first | refine blk_drewN ?_ _ | refine blk_drew ?_ | refine blk_alloc ?_ _));exact BK876.out) hb);replace HB := am (below_step (HB.out) hb);(try clear hb);(try clear hb2);(try clear hk);(try clear hi)))
    go_meet
    case rel => exact ⟨_,(true),(by first | rfl | (simp;done) | (simp [*];done)),H',⟨by first | omega | exact Nat.le_refl _⟩,⟨BK876.out⟩,⟨HB.out⟩⟩
 case rest =>
  clear HC4
  obtain ⟨kq,x20_3,rfl,HA,HJ3,BK876,HB⟩ := hcut
  cases kq with
  | zero => exact absurd HA.out (by simp [l4_CastleMends.j0])
  | succ kj3 =>
   have H := HA.out
   clear HA
   simp only [l4_CastleMends.j0] at H
   by_cases c12 : x20_3 = true
   · subst c12
     replace H : ((l4_known.f).bind fun t878 => (some t878)) = some r := by rw [if_pos rfl] at H;exact H
     replace H := obm H
     obtain ⟨t878,A130,H⟩ := H
     replace H : (some t878) = some r := H
     have A13 := am A130
     clear A130
     obtain rfl := Option.some.inj H
     go_wp2_with (first | ((with_reducible refine gate_callee (f := 15) rfl ?_);refine goesL_ (some 21) rfl rfl Tryz.func15 (by kernel_rfl) rfl #[] rfl (by (try simp only [List.map_toArray,List.map_cons,List.map_nil]);first | done | rfl | (simp only [List.length_drop,List.length_take];rfl)) ?_;(with_reducible refine (l4_known.calls  t878 _ A13.out).mono ?_);rintro e w14 ⟨rfl,hb⟩;refine ⟨_,rfl,?_⟩;replace BK876 := am (blk_below (g := gb876) (o := .cells #[.slice A0_0 l0_0.length c0_0,.int .i64 a0_1,.slice A0_2 l0_2.length c0_2,.int .i64 a0_3,.int .i64 a0_4] 27 (0,0)) (by (with_reducible repeat (first | refine blk_drewN ?_ _ | refine blk_drew ?_ | refine blk_alloc ?_ _));exact BK876.out) hb);replace HB := am (below_step (HB.out) hb);(try clear hb);(try clear hb2);(try clear hk);(try clear hi)))
     go_ret
     exact ⟨by first | rfl | (simp [*] <;> rfl),HB.out⟩
   · replace c12 := Bool.eq_false_iff.mpr c12
     subst c12
     replace H : ((q4_Basin.f kj3 l0_0 a0_1 l0_2 a0_3 a0_4).bind fun t879 => (if t879 = true then ((q4_Claims.f kj3 l0_0 a0_1 l0_2 a0_3 a0_4 l1).bind fun t880 => (if t880 = true then ((q4_Cups.f a2).bind fun t881 => (l4_CastleMends.j1 kj3 l1 a2 t881 l0_0 a0_1 l0_2 a0_3 a0_4)) else (l4_CastleMends.j1 kj3 l1 a2 false l0_0 a0_1 l0_2 a0_3 a0_4))) else (l4_CastleMends.j1 kj3 l1 a2 false l0_0 a0_1 l0_2 a0_3 a0_4))) = some r := by rw [if_neg (show ¬ (false = true) by decide)] at H;exact H
     have HC15 := am H
     clear H
     go_upto_region 3 with (fail)
     go_cut [7] (fun v7 wc => ∃ (kq : Nat) (x7_14 : Bool),v7 = .bool x7_14 ∧ Aside0 (l4_CastleMends.j1 kq l1 a2 x7_14 l0_0 a0_1 l0_2 a0_3 a0_4 = some r) ∧ Aside0 (kq ≤ kj3) ∧ Aside0 (wc.heap[gb876]? = some (.cells #[(.slice A0_0 l0_0.length c0_0),.int .i64 a0_1,(.slice A0_2 l0_2.length c0_2),.int .i64 a0_3,.int .i64 a0_4] 27 (0,0))) ∧ Aside0 (Below w.heap.size w wc))
     case first =>
      have H := HC15.out
      clear HC15
      replace H := obm H
      obtain ⟨t879,A160,H⟩ := H
      replace H : (if t879 = true then ((q4_Claims.f kj3 l0_0 a0_1 l0_2 a0_3 a0_4 l1).bind fun t880 => (if t880 = true then ((q4_Cups.f a2).bind fun t881 => (l4_CastleMends.j1 kj3 l1 a2 t881 l0_0 a0_1 l0_2 a0_3 a0_4)) else (l4_CastleMends.j1 kj3 l1 a2 false l0_0 a0_1 l0_2 a0_3 a0_4))) else (l4_CastleMends.j1 kj3 l1 a2 false l0_0 a0_1 l0_2 a0_3 a0_4)) = some r := H
      have A16 := am A160
      clear A160
      by_cases c17 : t879 = true
      case neg =>
       replace c17 := Bool.eq_false_iff.mpr c17
       subst c17
       replace H : (l4_CastleMends.j1 kj3 l1 a2 false l0_0 a0_1 l0_2 a0_3 a0_4) = some r := by rw [if_neg (show ¬ (false = true) by decide)] at H;exact H
       replace H' := am H
       obtain ⟨hcz29_0,hcz29_1,hcz29_2,hcz29_3,hcz29_4⟩ := cO5 BK876.out
       go_wp2_with (first | ((with_reducible refine gate_callee (f := 17) rfl ?_);refine goesL_ (some 23) rfl rfl Tryz.func17 (by kernel_rfl) rfl #[.agg #[.slice A0_0 l0_0.length c0_0,.int .i64 a0_1,.slice A0_2 l0_2.length c0_2,.int .i64 a0_3,.int .i64 a0_4]] rfl (by (try simp only [List.map_toArray,List.map_cons,List.map_nil]);first | done | rfl | (simp only [List.length_drop,List.length_take];rfl)) ?_;(with_reducible refine (q4_Basin.calls kj3 _ _ l0_0 a0_1 _ _ l0_2 a0_3 a0_4 false _ ?side1 ?side2 ?side3 ?side4 A16.out).mono ?_);(case side1 => exact kC HR0_0.out HB.out);(case side2 => exact HC0_0.out);(case side3 => exact kC HR0_2.out HB.out);(case side4 => exact HC0_2.out);rintro e w30 ⟨rfl,hb⟩;refine ⟨_,rfl,?_⟩;replace BK876 := am (blk_below (g := gb876) (o := .cells #[.slice A0_0 l0_0.length c0_0,.int .i64 a0_1,.slice A0_2 l0_2.length c0_2,.int .i64 a0_3,.int .i64 a0_4] 27 (0,0)) (by (with_reducible repeat (first | refine blk_drewN ?_ _ | refine blk_drew ?_ | refine blk_alloc ?_ _));exact BK876.out) hb);replace HB := am (below_step (HB.out) hb);(try clear hb);(try clear hb2);(try clear hk);(try clear hi)))
       go_meet
       case rel => exact ⟨_,(false),(by first | rfl | (simp;done) | (simp [*];done)),H',⟨by have := HJ3.out;first | omega | exact Nat.le_refl _⟩,⟨BK876.out⟩,⟨HB.out⟩⟩
      subst c17
      replace H : ((q4_Claims.f kj3 l0_0 a0_1 l0_2 a0_3 a0_4 l1).bind fun t880 => (if t880 = true then ((q4_Cups.f a2).bind fun t881 => (l4_CastleMends.j1 kj3 l1 a2 t881 l0_0 a0_1 l0_2 a0_3 a0_4)) else (l4_CastleMends.j1 kj3 l1 a2 false l0_0 a0_1 l0_2 a0_3 a0_4))) = some r := by rw [if_pos rfl] at H;exact H
      replace H := obm H
      obtain ⟨t880,A180,H⟩ := H
      replace H : (if t880 = true then ((q4_Cups.f a2).bind fun t881 => (l4_CastleMends.j1 kj3 l1 a2 t881 l0_0 a0_1 l0_2 a0_3 a0_4)) else (l4_CastleMends.j1 kj3 l1 a2 false l0_0 a0_1 l0_2 a0_3 a0_4)) = some r := H
      have A18 := am A180
      clear A180
      by_cases c19 : t880 = true
      case neg =>
       replace c19 := Bool.eq_false_iff.mpr c19
       subst c19
       replace H : (l4_CastleMends.j1 kj3 l1 a2 false l0_0 a0_1 l0_2 a0_3 a0_4) = some r := by rw [if_neg (show ¬ (false = true) by decide)] at H;exact H
       replace H' := am H
       obtain ⟨hcz25_0,hcz25_1,hcz25_2,hcz25_3,hcz25_4⟩ := cO5 BK876.out
       go_wp2_with (first | ((with_reducible refine gate_callee (f := 17) rfl ?_);refine goesL_ (some 23) rfl rfl Tryz.func17 (by kernel_rfl) rfl #[.agg #[.slice A0_0 l0_0.length c0_0,.int .i64 a0_1,.slice A0_2 l0_2.length c0_2,.int .i64 a0_3,.int .i64 a0_4]] rfl (by (try simp only [List.map_toArray,List.map_cons,List.map_nil]);first | done | rfl | (simp only [List.length_drop,List.length_take];rfl)) ?_;(with_reducible refine (q4_Basin.calls kj3 _ _ l0_0 a0_1 _ _ l0_2 a0_3 a0_4 true _ ?side1 ?side2 ?side3 ?side4 A16.out).mono ?_);(case side1 => exact kC HR0_0.out HB.out);(case side2 => exact HC0_0.out);(case side3 => exact kC HR0_2.out HB.out);(case side4 => exact HC0_2.out);rintro e w26 ⟨rfl,hb⟩;refine ⟨_,rfl,?_⟩;replace BK876 := am (blk_below (g := gb876) (o := .cells #[.slice A0_0 l0_0.length c0_0,.int .i64 a0_1,.slice A0_2 l0_2.length c0_2,.int .i64 a0_3,.int .i64 a0_4] 27 (0,0)) (by (with_reducible repeat (first | refine blk_drewN ?_ _ | refine blk_drew ?_ | refine blk_alloc ?_ _));exact BK876.out) hb);replace HB := am (below_step (HB.out) hb);(try clear hb);(try clear hb2);(try clear hk);(try clear hi);obtain ⟨hcz27_0,hcz27_1,hcz27_2,hcz27_3,hcz27_4⟩ := cO5 BK876.out) | (go_at_call 37;(with_reducible refine (q4_Claims.calls kj3 _ _ l0_0 a0_1 _ _ l0_2 a0_3 a0_4 _ _ l1 false _ ?side1 ?side2 ?side3 ?side4 ?side5 ?side6 A18.out).mono ?_);(case side1 => exact kC HR0_0.out HB.out);(case side2 => exact HC0_0.out);(case side3 => exact kC HR0_2.out HB.out);(case side4 => exact HC0_2.out);(case side5 => exact kC HR1.out HB.out);(case side6 => exact HC1.out);rintro e w28 ⟨rfl,hb⟩;replace BK876 := am (blk_below (g := gb876) (o := .cells #[.slice A0_0 l0_0.length c0_0,.int .i64 a0_1,.slice A0_2 l0_2.length c0_2,.int .i64 a0_3,.int .i64 a0_4] 27 (0,0)) (by (with_reducible repeat (first | refine blk_drewN ?_ _ | refine blk_drew ?_ | refine blk_alloc ?_ _));exact BK876.out) hb);replace HB := am (below_step (HB.out) hb);(try clear hb);(try clear hb2);(try clear hk);(try clear hi)))
       go_meet
       case rel => exact ⟨_,(false),(by first | rfl | (simp;done) | (simp [*];done)),H',⟨by have := HJ3.out;first | omega | exact Nat.le_refl _⟩,⟨BK876.out⟩,⟨HB.out⟩⟩
      subst c19
      replace H : ((q4_Cups.f a2).bind fun t881 => (l4_CastleMends.j1 kj3 l1 a2 t881 l0_0 a0_1 l0_2 a0_3 a0_4)) = some r := by rw [if_pos rfl] at H;exact H
      replace H := obm H
      obtain ⟨t881,A200,H⟩ := H
      replace H : (l4_CastleMends.j1 kj3 l1 a2 t881 l0_0 a0_1 l0_2 a0_3 a0_4) = some r := H
      have A20 := am A200
      clear A200
      replace H' := am H
      obtain ⟨hcz21_0,hcz21_1,hcz21_2,hcz21_3,hcz21_4⟩ := cO5 BK876.out
      go_wp2_with (first | ((with_reducible refine gate_callee (f := 17) rfl ?_);refine goesL_ (some 23) rfl rfl Tryz.func17 (by kernel_rfl) rfl #[.agg #[.slice A0_0 l0_0.length c0_0,.int .i64 a0_1,.slice A0_2 l0_2.length c0_2,.int .i64 a0_3,.int .i64 a0_4]] rfl (by (try simp only [List.map_toArray,List.map_cons,List.map_nil]);first | done | rfl | (simp only [List.length_drop,List.length_take];rfl)) ?_;(with_reducible refine (q4_Basin.calls kj3 _ _ l0_0 a0_1 _ _ l0_2 a0_3 a0_4 true _ ?side1 ?side2 ?side3 ?side4 A16.out).mono ?_);(case side1 => exact kC HR0_0.out HB.out);(case side2 => exact HC0_0.out);(case side3 => exact kC HR0_2.out HB.out);(case side4 => exact HC0_2.out);rintro e w22 ⟨rfl,hb⟩;refine ⟨_,rfl,?_⟩;replace BK876 := am (blk_below (g := gb876) (o := .cells #[.slice A0_0 l0_0.length c0_0,.int .i64 a0_1,.slice A0_2 l0_2.length c0_2,.int .i64 a0_3,.int .i64 a0_4] 27 (0,0)) (by (with_reducible repeat (first | refine blk_drewN ?_ _ | refine blk_drew ?_ | refine blk_alloc ?_ _));exact BK876.out) hb);replace HB := am (below_step (HB.out) hb);(try clear hb);(try clear hb2);(try clear hk);(try clear hi);obtain ⟨hcz23_0,hcz23_1,hcz23_2,hcz23_3,hcz23_4⟩ := cO5 BK876.out) | (go_at_call 37;(with_reducible refine (q4_Claims.calls kj3 _ _ l0_0 a0_1 _ _ l0_2 a0_3 a0_4 _ _ l1 true _ ?side1 ?side2 ?side3 ?side4 ?side5 ?side6 A18.out).mono ?_);(case side1 => exact kC HR0_0.out HB.out);(case side2 => exact HC0_0.out);(case side3 => exact kC HR0_2.out HB.out);(case side4 => exact HC0_2.out);(case side5 => exact kC HR1.out HB.out);(case side6 => exact HC1.out);rintro e w24 ⟨rfl,hb⟩;replace BK876 := am (blk_below (g := gb876) (o := .cells #[.slice A0_0 l0_0.length c0_0,.int .i64 a0_1,.slice A0_2 l0_2.length c0_2,.int .i64 a0_3,.int .i64 a0_4] 27 (0,0)) (by (with_reducible repeat (first | refine blk_drewN ?_ _ | refine blk_drew ?_ | refine blk_alloc ?_ _));exact BK876.out) hb);replace HB := am (below_step (HB.out) hb);(try clear hb);(try clear hb2);(try clear hk);(try clear hi)) | (go_at_call 18;(with_reducible refine (q4_Cups.calls a2 t881 _ A20.out).mono ?_);rintro e w' ⟨rfl,⟨nd,rfl⟩⟩))
      go_meet
      case rel => exact ⟨_,(t881),(by first | rfl | (simp;done) | (simp [*];done)),H',⟨by have := HJ3.out;first | omega | exact Nat.le_refl _⟩,⟨BK876.out⟩,⟨pw_below_drewN HB.out _⟩⟩
     case rest =>
      clear HC15
      obtain ⟨kq,x7_14,rfl,HA,HJ14,BK876,HB⟩ := hcut
      cases kq with
      | zero => exact absurd HA.out (by simp [l4_CastleMends.j1])
      | succ kj14 =>
       have H := HA.out
       clear HA
       simp only [l4_CastleMends.j1] at H
       have HC31 := am H
       clear H
       go_upto_region 4 with (fail)
       go_cut [39] (fun v39 wc => ∃ (kq : Nat) (x39_30 : Bool),v39 = .bool x39_30 ∧ Aside0 (l4_CastleMends.j2 kq l1 a2 x7_14 x39_30 l0_0 a0_1 l0_2 a0_3 a0_4 = some r) ∧ Aside0 (kq ≤ kj14) ∧ Aside0 (wc.heap[gb876]? = some (.cells #[(.slice A0_0 l0_0.length c0_0),.int .i64 a0_1,(.slice A0_2 l0_2.length c0_2),.int .i64 a0_3,.int .i64 a0_4] 27 (0,0))) ∧ Aside0 (Below w.heap.size w wc))
       case first =>
        have H := HC31.out
        clear HC31
        by_cases c32 : x7_14 = true
        case neg =>
         replace c32 := Bool.eq_false_iff.mpr c32
         subst c32
         replace H : (l4_CastleMends.j2 kj14 l1 a2 false false l0_0 a0_1 l0_2 a0_3 a0_4) = some r := by rw [if_neg (show ¬ (false = true) by decide)] at H;exact H
         replace H' := am H
         go_wp2
         go_meet
         case rel => exact ⟨_,(false),(by first | rfl | (simp;done) | (simp [*];done)),H',⟨by have := HJ3.out;have := HJ14.out;first | omega | exact Nat.le_refl _⟩,⟨BK876.out⟩,⟨HB.out⟩⟩
        subst c32
        replace H : (l4_CastleMends.j2 kj14 l1 a2 true (decide ((l0_2.length : Int) > 4)) l0_0 a0_1 l0_2 a0_3 a0_4) = some r := by rw [if_pos rfl] at H;exact H
        replace H' := am H
        obtain ⟨hcz33_0,hcz33_1,hcz33_2,hcz33_3,hcz33_4⟩ := cO5 BK876.out
        go_wp2
        go_meet
        case rel => exact ⟨_,(decide ((l0_2.length : Int) > 4)),(by first | rfl | (simp;done) | (simp [*];done)),H',⟨by have := HJ3.out;have := HJ14.out;first | omega | exact Nat.le_refl _⟩,⟨BK876.out⟩,⟨HB.out⟩⟩
       case rest =>
        clear HC31
        obtain ⟨kq,x39_30,rfl,HA,HJ30,BK876,HB⟩ := hcut
        cases kq with
        | zero => exact absurd HA.out (by simp [l4_CastleMends.j2])
        | succ kj30 =>
         have H := HA.out
         clear HA
         simp only [l4_CastleMends.j2] at H
         by_cases c34 : x39_30 = true
         · subst c34
           replace H : ((l4_known.f).bind fun t882 => (some t882)) = some r := by rw [if_pos rfl] at H;exact H
           replace H := obm H
           obtain ⟨t882,A350,H⟩ := H
           replace H : (some t882) = some r := H
           have A35 := am A350
           clear A350
           obtain rfl := Option.some.inj H
           go_wp2_with (first | ((with_reducible refine gate_callee (f := 15) rfl ?_);refine goesL_ (some 40) rfl rfl Tryz.func15 (by kernel_rfl) rfl #[] rfl (by (try simp only [List.map_toArray,List.map_cons,List.map_nil]);first | done | rfl | (simp only [List.length_drop,List.length_take];rfl)) ?_;(with_reducible refine (l4_known.calls  t882 _ A35.out).mono ?_);rintro e w36 ⟨rfl,hb⟩;refine ⟨_,rfl,?_⟩;replace BK876 := am (blk_below (g := gb876) (o := .cells #[.slice A0_0 l0_0.length c0_0,.int .i64 a0_1,.slice A0_2 l0_2.length c0_2,.int .i64 a0_3,.int .i64 a0_4] 27 (0,0)) (by (with_reducible repeat (first | refine blk_drewN ?_ _ | refine blk_drew ?_ | refine blk_alloc ?_ _));exact BK876.out) hb);replace HB := am (below_step (HB.out) hb);(try clear hb);(try clear hb2);(try clear hk);(try clear hi)))
           go_ret
           exact ⟨by first | rfl | (simp [*] <;> rfl),HB.out⟩
         · replace c34 := Bool.eq_false_iff.mpr c34
           subst c34
           replace H : ((ca_Mends.f l0_0 a0_1 l0_2 a0_3 a0_4 l1 a2).bind fun bt883 => (if x7_14 = true then ((q4_Mends.f kj30 l0_0 a0_1 l0_2 a0_3 a0_4 l1 a2).bind fun bt889 => (if bt889.2 = true then (if bt883.2.2 = 0 then ((q4_Same.f kj30 bt883.1 bt889.1).bind fun t893 => (if t893 = true then ((q4_Moved.f kj30 l0_0 a0_1 l0_2 a0_3 a0_4 bt889.1).bind fun t894 => (if bt883.2.1 = t894 then ((l4_known.f).bind fun t895 => (some t895)) else (none))) else (none))) else (none)) else (if bt883.2.2 = 5 then (if (bt883.1.length : Int) = 0 then (if bt883.2.1 = 0 then ((l4_known.f).bind fun t896 => (some t896)) else (none)) else (none)) else (none)))) else (if bt883.2.2 = 2 then (if (bt883.1.length : Int) = 0 then (if bt883.2.1 = 0 then ((l4_known.f).bind fun t888 => (some t888)) else (none)) else (none)) else (none)))) = some r := by rw [if_neg (show ¬ (false = true) by decide)] at H;exact H
           replace H := obm H
           obtain ⟨⟨t883,t886,t887⟩,A370,H⟩ := H
           replace H : (if x7_14 = true then ((q4_Mends.f kj30 l0_0 a0_1 l0_2 a0_3 a0_4 l1 a2).bind fun bt889 => (if bt889.2 = true then (if t887 = 0 then ((q4_Same.f kj30 t883 bt889.1).bind fun t893 => (if t893 = true then ((q4_Moved.f kj30 l0_0 a0_1 l0_2 a0_3 a0_4 bt889.1).bind fun t894 => (if t886 = t894 then ((l4_known.f).bind fun t895 => (some t895)) else (none))) else (none))) else (none)) else (if t887 = 5 then (if (t883.length : Int) = 0 then (if t886 = 0 then ((l4_known.f).bind fun t896 => (some t896)) else (none)) else (none)) else (none)))) else (if t887 = 2 then (if (t883.length : Int) = 0 then (if t886 = 0 then ((l4_known.f).bind fun t888 => (some t888)) else (none)) else (none)) else (none))) = some r := H
           have A37 := am A370
           clear A370
           by_cases c38 : x7_14 = true
           case neg =>
            replace c38 := Bool.eq_false_iff.mpr c38
            subst c38
            replace H : (if t887 = 2 then (if (t883.length : Int) = 0 then (if t886 = 0 then ((l4_known.f).bind fun t888 => (some t888)) else (none)) else (none)) else (none)) = some r := by rw [if_neg (show ¬ (false = true) by decide)] at H;exact H
            by_cases c66 : t887 = 2
            case neg =>
             rw [if_neg c66] at H
             exact absurd H (by simp)
            rw [if_pos c66] at H
            have c66b0 : (t887 == 2) = true := beq_iff_eq.mpr c66
            have c66b1 : (t887 != 2) = false := bne_eq_false_iff_eq.mpr c66
            clear c66
            by_cases c67 : (t883.length : Int) = 0
            case neg =>
             rw [if_neg c67] at H
             exact absurd H (by simp)
            rw [if_pos c67] at H
            have c67b0 : ((t883.length : Int) == 0) = true := beq_iff_eq.mpr c67
            have c67b1 : ((t883.length : Int) != 0) = false := bne_eq_false_iff_eq.mpr c67
            clear c67
            by_cases c68 : t886 = 0
            case neg =>
             rw [if_neg c68] at H
             exact absurd H (by simp)
            rw [if_pos c68] at H
            have c68b0 : (t886 == 0) = true := beq_iff_eq.mpr c68
            have c68b1 : (t886 != 0) = false := bne_eq_false_iff_eq.mpr c68
            clear c68
            replace H := obm H
            obtain ⟨t888,A690,H⟩ := H
            replace H : (some t888) = some r := H
            have A69 := am A690
            clear A690
            obtain rfl := Option.some.inj H
            obtain ⟨hcz70_0,hcz70_1,hcz70_2,hcz70_3,hcz70_4⟩ := cO5 BK876.out
            go_wp2_with (first | ((with_reducible refine gate_callee (f := 38) rfl ?_);refine goesL_ (some 45) rfl rfl Tryz.func38 (by kernel_rfl) rfl #[.agg #[.slice A0_0 l0_0.length c0_0,.int .i64 a0_1,.slice A0_2 l0_2.length c0_2,.int .i64 a0_3,.int .i64 a0_4],.slice A1 l1.length c1,.int .i64 a2] rfl (by (try simp only [List.map_toArray,List.map_cons,List.map_nil]);first | done | rfl | (simp only [List.length_drop,List.length_take];rfl)) ?_;(with_reducible refine (ca_Mends.calls _ _ l0_0 a0_1 _ _ l0_2 a0_3 a0_4 _ _ l1 a2 t883 t886 t887 _ ?side1 ?side2 ?side3 ?side4 ?side5 ?side6 A37.out).mono ?_);(case side1 => exact kC HR0_0.out HB.out);(case side2 => exact HC0_0.out);(case side3 => exact kC HR0_2.out HB.out);(case side4 => exact HC0_2.out);(case side5 => exact kC HR1.out HB.out);(case side6 => exact HC1.out);rintro e w71 ⟨v884,rfl,ho0,hb⟩;refine ⟨_,rfl,?_⟩;have HO885 := am (Kd.R_lower ho0 (below_size (HB.out)));replace BK876 := am (blk_below (g := gb876) (o := .cells #[.slice A0_0 l0_0.length c0_0,.int .i64 a0_1,.slice A0_2 l0_2.length c0_2,.int .i64 a0_3,.int .i64 a0_4] 27 (0,0)) (by (with_reducible repeat (first | refine blk_drewN ?_ _ | refine blk_drew ?_ | refine blk_alloc ?_ _));exact BK876.out) hb);replace HB := am (below_step (HB.out) hb);(try clear hb);(try clear hb2);(try clear hk);(try clear hi);(try clear ho0);obtain ⟨Ao72,co72,eo72⟩ := Kd.R_slice HO885.out;subst eo72) | (go_at_call 15;(with_reducible refine (l4_known.calls  t888 _ A69.out).mono ?_);rintro e w73 ⟨rfl,hb⟩;replace HO885 := am (Kd.R_below (by (with_reducible repeat (first | apply Kd.R_alloc | apply Kd.R_drewN | apply Kd.R_drew));exact HO885.out) hb);replace BK876 := am (blk_below (g := gb876) (o := .cells #[.slice A0_0 l0_0.length c0_0,.int .i64 a0_1,.slice A0_2 l0_2.length c0_2,.int .i64 a0_3,.int .i64 a0_4] 27 (0,0)) (by (with_reducible repeat (first | refine blk_drewN ?_ _ | refine blk_drew ?_ | refine blk_alloc ?_ _));exact BK876.out) hb);replace HB := am (below_step (HB.out) hb);(try clear hb);(try clear hb2);(try clear hk);(try clear hi)))
            go_ret
            exact ⟨by first | rfl | (simp [*] <;> rfl),HB.out⟩
           subst c38
           replace H : ((q4_Mends.f kj30 l0_0 a0_1 l0_2 a0_3 a0_4 l1 a2).bind fun bt889 => (if bt889.2 = true then (if t887 = 0 then ((q4_Same.f kj30 t883 bt889.1).bind fun t893 => (if t893 = true then ((q4_Moved.f kj30 l0_0 a0_1 l0_2 a0_3 a0_4 bt889.1).bind fun t894 => (if t886 = t894 then ((l4_known.f).bind fun t895 => (some t895)) else (none))) else (none))) else (none)) else (if t887 = 5 then (if (t883.length : Int) = 0 then (if t886 = 0 then ((l4_known.f).bind fun t896 => (some t896)) else (none)) else (none)) else (none)))) = some r := by rw [if_pos rfl] at H;exact H
           replace H := obm H
           obtain ⟨⟨t889,t892⟩,A390,H⟩ := H
           replace H : (if t892 = true then (if t887 = 0 then ((q4_Same.f kj30 t883 t889).bind fun t893 => (if t893 = true then ((q4_Moved.f kj30 l0_0 a0_1 l0_2 a0_3 a0_4 t889).bind fun t894 => (if t886 = t894 then ((l4_known.f).bind fun t895 => (some t895)) else (none))) else (none))) else (none)) else (if t887 = 5 then (if (t883.length : Int) = 0 then (if t886 = 0 then ((l4_known.f).bind fun t896 => (some t896)) else (none)) else (none)) else (none))) = some r := H
           have A39 := am A390
           clear A390
           by_cases c40 : t892 = true
           case neg =>
            replace c40 := Bool.eq_false_iff.mpr c40
            subst c40
            replace H : (if t887 = 5 then (if (t883.length : Int) = 0 then (if t886 = 0 then ((l4_known.f).bind fun t896 => (some t896)) else (none)) else (none)) else (none)) = some r := by rw [if_neg (show ¬ (false = true) by decide)] at H;exact H
            by_cases c56 : t887 = 5
            case neg =>
             rw [if_neg c56] at H
             exact absurd H (by simp)
            rw [if_pos c56] at H
            have c56b0 : (t887 == 5) = true := beq_iff_eq.mpr c56
            have c56b1 : (t887 != 5) = false := bne_eq_false_iff_eq.mpr c56
            clear c56
            by_cases c57 : (t883.length : Int) = 0
            case neg =>
             rw [if_neg c57] at H
             exact absurd H (by simp)
            rw [if_pos c57] at H
            have c57b0 : ((t883.length : Int) == 0) = true := beq_iff_eq.mpr c57
            have c57b1 : ((t883.length : Int) != 0) = false := bne_eq_false_iff_eq.mpr c57
            clear c57
            by_cases c58 : t886 = 0
            case neg =>
             rw [if_neg c58] at H
             exact absurd H (by simp)
            rw [if_pos c58] at H
            have c58b0 : (t886 == 0) = true := beq_iff_eq.mpr c58
            have c58b1 : (t886 != 0) = false := bne_eq_false_iff_eq.mpr c58
            clear c58
            replace H := obm H
            obtain ⟨t896,A590,H⟩ := H
            replace H : (some t896) = some r := H
            have A59 := am A590
            clear A590
            obtain rfl := Option.some.inj H
            obtain ⟨hcz60_0,hcz60_1,hcz60_2,hcz60_3,hcz60_4⟩ := cO5 BK876.out
            go_wp2_with (first | ((with_reducible refine gate_callee (f := 38) rfl ?_);refine goesL_ (some 45) rfl rfl Tryz.func38 (by kernel_rfl) rfl #[.agg #[.slice A0_0 l0_0.length c0_0,.int .i64 a0_1,.slice A0_2 l0_2.length c0_2,.int .i64 a0_3,.int .i64 a0_4],.slice A1 l1.length c1,.int .i64 a2] rfl (by (try simp only [List.map_toArray,List.map_cons,List.map_nil]);first | done | rfl | (simp only [List.length_drop,List.length_take];rfl)) ?_;(with_reducible refine (ca_Mends.calls _ _ l0_0 a0_1 _ _ l0_2 a0_3 a0_4 _ _ l1 a2 t883 t886 t887 _ ?side1 ?side2 ?side3 ?side4 ?side5 ?side6 A37.out).mono ?_);(case side1 => exact kC HR0_0.out HB.out);(case side2 => exact HC0_0.out);(case side3 => exact kC HR0_2.out HB.out);(case side4 => exact HC0_2.out);(case side5 => exact kC HR1.out HB.out);(case side6 => exact HC1.out);rintro e w61 ⟨v884,rfl,ho0,hb⟩;refine ⟨_,rfl,?_⟩;have HO885 := am (Kd.R_lower ho0 (below_size (HB.out)));replace BK876 := am (blk_below (g := gb876) (o := .cells #[.slice A0_0 l0_0.length c0_0,.int .i64 a0_1,.slice A0_2 l0_2.length c0_2,.int .i64 a0_3,.int .i64 a0_4] 27 (0,0)) (by (with_reducible repeat (first | refine blk_drewN ?_ _ | refine blk_drew ?_ | refine blk_alloc ?_ _));exact BK876.out) hb);replace HB := am (below_step (HB.out) hb);(try clear hb);(try clear hb2);(try clear hk);(try clear hi);(try clear ho0);obtain ⟨hcz62_0,hcz62_1,hcz62_2,hcz62_3,hcz62_4⟩ := cO5 BK876.out) | ((with_reducible refine gate_callee (f := 39) rfl ?_);refine goesL_ (some 69) rfl rfl Tryz.func39 (by kernel_rfl) rfl #[.agg #[.slice A0_0 l0_0.length c0_0,.int .i64 a0_1,.slice A0_2 l0_2.length c0_2,.int .i64 a0_3,.int .i64 a0_4],.slice A1 l1.length c1,.int .i64 a2] rfl (by (try simp only [List.map_toArray,List.map_cons,List.map_nil]);first | done | rfl | (simp only [List.length_drop,List.length_take];rfl)) ?_;(with_reducible refine (q4_Mends.calls kj30 _ _ l0_0 a0_1 _ _ l0_2 a0_3 a0_4 _ _ l1 a2 t889 false _ ?side1 ?side2 ?side3 ?side4 ?side5 ?side6 A39.out).mono ?_);(case side1 => exact kC HR0_0.out HB.out);(case side2 => exact HC0_0.out);(case side3 => exact kC HR0_2.out HB.out);(case side4 => exact HC0_2.out);(case side5 => exact kC HR1.out HB.out);(case side6 => exact HC1.out);rintro e w63 ⟨v890,rfl,ho0,hb⟩;refine ⟨_,rfl,?_⟩;have HO891 := am (Kd.R_lower (Kd.R_new' ho0 (Kd.R_lt (by (with_reducible repeat (first | apply Kd.R_alloc | apply Kd.R_drewN | apply Kd.R_drew));exact HO885.out))) (below_size (HB.out)));replace HO885 := am (Kd.R_elder' (by (with_reducible repeat (first | apply Kd.R_alloc | apply Kd.R_drewN | apply Kd.R_drew));exact HO885.out) (Kd.R_base ho0) hb);replace BK876 := am (blk_below (g := gb876) (o := .cells #[.slice A0_0 l0_0.length c0_0,.int .i64 a0_1,.slice A0_2 l0_2.length c0_2,.int .i64 a0_3,.int .i64 a0_4] 27 (0,0)) (by (with_reducible repeat (first | refine blk_drewN ?_ _ | refine blk_drew ?_ | refine blk_alloc ?_ _));exact BK876.out) hb);replace HB := am (below_step (HB.out) hb);(try clear hb);(try clear hb2);(try clear hk);(try clear hi);(try clear ho0);obtain ⟨Ao64,co64,eo64⟩ := Kd.R_slice HO885.out;subst eo64) | (go_at_call 15;(with_reducible refine (l4_known.calls  t896 _ A59.out).mono ?_);rintro e w65 ⟨rfl,hb⟩;replace HO885 := am (Kd.R_below (by (with_reducible repeat (first | apply Kd.R_alloc | apply Kd.R_drewN | apply Kd.R_drew));exact HO885.out) hb);replace HO891 := am (Kd.R_below (by (with_reducible repeat (first | apply Kd.R_alloc | apply Kd.R_drewN | apply Kd.R_drew));exact HO891.out) hb);replace BK876 := am (blk_below (g := gb876) (o := .cells #[.slice A0_0 l0_0.length c0_0,.int .i64 a0_1,.slice A0_2 l0_2.length c0_2,.int .i64 a0_3,.int .i64 a0_4] 27 (0,0)) (by (with_reducible repeat (first | refine blk_drewN ?_ _ | refine blk_drew ?_ | refine blk_alloc ?_ _));exact BK876.out) hb);replace HB := am (below_step (HB.out) hb);(try clear hb);(try clear hb2);(try clear hk);(try clear hi)))
            go_ret
            exact ⟨by first | rfl | (simp [*] <;> rfl),HB.out⟩
           subst c40
           replace H : (if t887 = 0 then ((q4_Same.f kj30 t883 t889).bind fun t893 => (if t893 = true then ((q4_Moved.f kj30 l0_0 a0_1 l0_2 a0_3 a0_4 t889).bind fun t894 => (if t886 = t894 then ((l4_known.f).bind fun t895 => (some t895)) else (none))) else (none))) else (none)) = some r := by rw [if_pos rfl] at H;exact H
           by_cases c41 : t887 = 0
           case neg =>
            rw [if_neg c41] at H
            exact absurd H (by simp)
           rw [if_pos c41] at H
           have c41b0 : (t887 == 0) = true := beq_iff_eq.mpr c41
           have c41b1 : (t887 != 0) = false := bne_eq_false_iff_eq.mpr c41
           clear c41
           replace H := obm H
           obtain ⟨t893,A420,H⟩ := H
           replace H : (if t893 = true then ((q4_Moved.f kj30 l0_0 a0_1 l0_2 a0_3 a0_4 t889).bind fun t894 => (if t886 = t894 then ((l4_known.f).bind fun t895 => (some t895)) else (none))) else (none)) = some r := H
           have A42 := am A420
           clear A420
           by_cases c43 : t893 = true
           case neg =>
            replace c43 := Bool.eq_false_iff.mpr c43
            subst c43
            replace H : (none) = some r := by rw [if_neg (show ¬ (false = true) by decide)] at H;exact H
            exact absurd H (by simp)
           subst c43
           replace H : ((q4_Moved.f kj30 l0_0 a0_1 l0_2 a0_3 a0_4 t889).bind fun t894 => (if t886 = t894 then ((l4_known.f).bind fun t895 => (some t895)) else (none))) = some r := by rw [if_pos rfl] at H;exact H
           replace H := obm H
           obtain ⟨t894,A440,H⟩ := H
           replace H : (if t886 = t894 then ((l4_known.f).bind fun t895 => (some t895)) else (none)) = some r := H
           have A44 := am A440
           clear A440
           by_cases c45 : t886 = t894
           case neg =>
            rw [if_neg c45] at H
            exact absurd H (by simp)
           rw [if_pos c45] at H
           have c45b0 : (t886 == t894) = true := beq_iff_eq.mpr c45
           have c45b1 : (t886 != t894) = false := bne_eq_false_iff_eq.mpr c45
           clear c45
           replace H := obm H
           obtain ⟨t895,A460,H⟩ := H
           replace H : (some t895) = some r := H
           have A46 := am A460
           clear A460
           obtain rfl := Option.some.inj H
           obtain ⟨hcz47_0,hcz47_1,hcz47_2,hcz47_3,hcz47_4⟩ := cO5 BK876.out
           go_wp2_with (first | ((with_reducible refine gate_callee (f := 38) rfl ?_);refine goesL_ (some 45) rfl rfl Tryz.func38 (by kernel_rfl) rfl #[.agg #[.slice A0_0 l0_0.length c0_0,.int .i64 a0_1,.slice A0_2 l0_2.length c0_2,.int .i64 a0_3,.int .i64 a0_4],.slice A1 l1.length c1,.int .i64 a2] rfl (by (try simp only [List.map_toArray,List.map_cons,List.map_nil]);first | done | rfl | (simp only [List.length_drop,List.length_take];rfl)) ?_;(with_reducible refine (ca_Mends.calls _ _ l0_0 a0_1 _ _ l0_2 a0_3 a0_4 _ _ l1 a2 t883 t886 t887 _ ?side1 ?side2 ?side3 ?side4 ?side5 ?side6 A37.out).mono ?_);(case side1 => exact kC HR0_0.out HB.out);(case side2 => exact HC0_0.out);(case side3 => exact kC HR0_2.out HB.out);(case side4 => exact HC0_2.out);(case side5 => exact kC HR1.out HB.out);(case side6 => exact HC1.out);rintro e w48 ⟨v884,rfl,ho0,hb⟩;refine ⟨_,rfl,?_⟩;have HO885 := am (Kd.R_lower ho0 (below_size (HB.out)));replace BK876 := am (blk_below (g := gb876) (o := .cells #[.slice A0_0 l0_0.length c0_0,.int .i64 a0_1,.slice A0_2 l0_2.length c0_2,.int .i64 a0_3,.int .i64 a0_4] 27 (0,0)) (by (with_reducible repeat (first | refine blk_drewN ?_ _ | refine blk_drew ?_ | refine blk_alloc ?_ _));exact BK876.out) hb);replace HB := am (below_step (HB.out) hb);(try clear hb);(try clear hb2);(try clear hk);(try clear hi);(try clear ho0);obtain ⟨hcz49_0,hcz49_1,hcz49_2,hcz49_3,hcz49_4⟩ := cO5 BK876.out) | ((with_reducible refine gate_callee (f := 39) rfl ?_);refine goesL_ (some 69) rfl rfl Tryz.func39 (by kernel_rfl) rfl #[.agg #[.slice A0_0 l0_0.length c0_0,.int .i64 a0_1,.slice A0_2 l0_2.length c0_2,.int .i64 a0_3,.int .i64 a0_4],.slice A1 l1.length c1,.int .i64 a2] rfl (by (try simp only [List.map_toArray,List.map_cons,List.map_nil]);first | done | rfl | (simp only [List.length_drop,List.length_take];rfl)) ?_;(with_reducible refine (q4_Mends.calls kj30 _ _ l0_0 a0_1 _ _ l0_2 a0_3 a0_4 _ _ l1 a2 t889 true _ ?side1 ?side2 ?side3 ?side4 ?side5 ?side6 A39.out).mono ?_);(case side1 => exact kC HR0_0.out HB.out);(case side2 => exact HC0_0.out);(case side3 => exact kC HR0_2.out HB.out);(case side4 => exact HC0_2.out);(case side5 => exact kC HR1.out HB.out);(case side6 => exact HC1.out);rintro e w50 ⟨v890,rfl,ho0,hb⟩;refine ⟨_,rfl,?_⟩;have HO891 := am (Kd.R_lower (Kd.R_new' ho0 (Kd.R_lt (by (with_reducible repeat (first | apply Kd.R_alloc | apply Kd.R_drewN | apply Kd.R_drew));exact HO885.out))) (below_size (HB.out)));replace HO885 := am (Kd.R_elder' (by (with_reducible repeat (first | apply Kd.R_alloc | apply Kd.R_drewN | apply Kd.R_drew));exact HO885.out) (Kd.R_base ho0) hb);replace BK876 := am (blk_below (g := gb876) (o := .cells #[.slice A0_0 l0_0.length c0_0,.int .i64 a0_1,.slice A0_2 l0_2.length c0_2,.int .i64 a0_3,.int .i64 a0_4] 27 (0,0)) (by (with_reducible repeat (first | refine blk_drewN ?_ _ | refine blk_drew ?_ | refine blk_alloc ?_ _));exact BK876.out) hb);replace HB := am (below_step (HB.out) hb);(try clear hb);(try clear hb2);(try clear hk);(try clear hi);(try clear ho0);obtain ⟨Ao51,co51,eo51⟩ := Kd.R_slice HO885.out;subst eo51;obtain ⟨Ao52,co52,eo52⟩ := Kd.R_slice HO891.out;subst eo52) | (go_at_call 20;(with_reducible refine (q4_Same.calls kj30 _ _ t883 _ _ t889 true _ ?side1 ?side2 ?side3 ?side4 A42.out).mono ?_);(case side1 => repeat (first | exact (Kd.R_reads' HO885.out).2.2 | (with_reducible refine Kd.C_alloc ?_ _) | (with_reducible refine Kd.C_drewN ?_ _) | (with_reducible refine Kd.C_drew ?_)));(case side2 => exact (Kd.R_reads' HO885.out).2.1);(case side3 => repeat (first | exact (Kd.R_reads' HO891.out).2.2 | (with_reducible refine Kd.C_alloc ?_ _) | (with_reducible refine Kd.C_drewN ?_ _) | (with_reducible refine Kd.C_drew ?_)));(case side4 => exact (Kd.R_reads' HO891.out).2.1);rintro e w' ⟨rfl,⟨nd,rfl⟩⟩;obtain ⟨hcz53_0,hcz53_1,hcz53_2,hcz53_3,hcz53_4⟩ := cO5 BK876.out) | (go_at_call 40;(with_reducible refine (q4_Moved.calls kj30 _ _ l0_0 a0_1 _ _ l0_2 a0_3 a0_4 _ _ t889 t894 _ ?side1 ?side2 ?side3 ?side4 ?side5 ?side6 A44.out).mono ?_);(case side1 => repeat (first | exact (kC HR0_0.out (pw_below_drewN HB.out _)) | (with_reducible refine Kd.C_alloc ?_ _) | (with_reducible refine Kd.C_drewN ?_ _) | (with_reducible refine Kd.C_drew ?_)));(case side2 => exact HC0_0.out);(case side3 => repeat (first | exact (kC HR0_2.out (pw_below_drewN HB.out _)) | (with_reducible refine Kd.C_alloc ?_ _) | (with_reducible refine Kd.C_drewN ?_ _) | (with_reducible refine Kd.C_drew ?_)));(case side4 => exact HC0_2.out);(case side5 => repeat (first | exact (Kd.R_reads' HO891.out).2.2 | (with_reducible refine Kd.C_alloc ?_ _) | (with_reducible refine Kd.C_drewN ?_ _) | (with_reducible refine Kd.C_drew ?_)));(case side6 => exact (Kd.R_reads' HO891.out).2.1);rintro e w54 ⟨rfl,hb⟩;replace HO885 := am (Kd.R_below (by (with_reducible repeat (first | apply Kd.R_alloc | apply Kd.R_drewN | apply Kd.R_drew));exact HO885.out) hb);replace HO891 := am (Kd.R_below (by (with_reducible repeat (first | apply Kd.R_alloc | apply Kd.R_drewN | apply Kd.R_drew));exact HO891.out) hb);replace BK876 := am (blk_below (g := gb876) (o := .cells #[.slice A0_0 l0_0.length c0_0,.int .i64 a0_1,.slice A0_2 l0_2.length c0_2,.int .i64 a0_3,.int .i64 a0_4] 27 (0,0)) (by (with_reducible repeat (first | refine blk_drewN ?_ _ | refine blk_drew ?_ | refine blk_alloc ?_ _));exact BK876.out) hb);replace HB := am (below_step (pw_below_drewN HB.out _) hb);(try clear hb);(try clear hb2);(try clear hk);(try clear hi)) | (go_at_call 15;(with_reducible refine (l4_known.calls  t895 _ A46.out).mono ?_);rintro e w55 ⟨rfl,hb⟩;replace HO885 := am (Kd.R_below (by (with_reducible repeat (first | apply Kd.R_alloc | apply Kd.R_drewN | apply Kd.R_drew));exact HO885.out) hb);replace HO891 := am (Kd.R_below (by (with_reducible repeat (first | apply Kd.R_alloc | apply Kd.R_drewN | apply Kd.R_drew));exact HO891.out) hb);replace BK876 := am (blk_below (g := gb876) (o := .cells #[.slice A0_0 l0_0.length c0_0,.int .i64 a0_1,.slice A0_2 l0_2.length c0_2,.int .i64 a0_3,.int .i64 a0_4] 27 (0,0)) (by (with_reducible repeat (first | refine blk_drewN ?_ _ | refine blk_drew ?_ | refine blk_alloc ?_ _));exact BK876.out) hb);replace HB := am (below_step (HB.out) hb);(try clear hb);(try clear hb2);(try clear hk);(try clear hi)))
           go_ret
           exact ⟨by first | rfl | (simp [*] <;> rfl),HB.out⟩
set_option linter.unusedSimpArgs false
set_option linter.unusedSimpArgs false
set_option linter.unusedSimpArgs false
end
end Go.Proofs.YticlelgmmonloaaGreatDoor.C

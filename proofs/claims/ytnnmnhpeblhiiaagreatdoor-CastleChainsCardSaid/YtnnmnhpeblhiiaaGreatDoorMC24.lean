/- A part of the proof: the walks of the functions that it reaches. TIGHT. -/
import Derived.Test.YtnnmnhpeblhiiaaGreatDoorMC23
set_option linter.unusedVariables false
set_option linter.unusedSimpArgs false
namespace Go.Proofs.YtnnmnhpeblhiiaaGreatDoor.C
open Go.RowKit Go.Proofs.YtnnmnhpeblhiiaaGreatDoorW.PrintWords Go.Proofs.YtnnmnhpeblhiiaaGreatDoorW.PrintLast Go.Proofs.YtnnmnhpeblhiiaaGreatDoorW.PrintMore
set_option linter.unusedVariables false
set_option linter.unusedSimpArgs false
set_option maxHeartbeats 16000000
set_option maxRecDepth 100000
def shGo : List Int→List Int→Int→List Int × Int
 | x :: l,y :: n,r=>((x + mn r (y - x)) :: (shGo l n (r - mn r (y - x))).1,(shGo l n (r - mn r (y - x))).2)
 | l,_,r=>(l,r)
def pairOk : List Int→List Int→Prop
 | x :: l,y :: n=>(0≤x∧x≤y∧y≤1000)∧pairOk l n
 | [],[]=>True
 | _,_=>False
theorem mn_in {r d : Int} (h0 : 0≤r) (h1 : 0≤d) : 0≤mn r d∧mn r d≤r∧mn r d≤d:=by unfold mn;split<;>omega
theorem shGo_in : ∀ {l n : List Int} {r : Int},pairOk l n→0≤r→(∀ x ∈ (shGo l n r).1,0≤x∧x≤1000)∧0≤(shGo l n r).2∧(shGo l n r).2≤r∧(shGo l n r).1.length = l.length∧(shGo l n r).1.sum + (shGo l n r).2 = l.sum + r
 | [],[],r,_,hr=>by simp [shGo];omega
 | x :: l,y :: n,r,h,hr=>by
  have m:=mn_in (r:=r) (d:=y - x) hr (by have:=h.1;omega)
  have ih:=shGo_in (r:=r - mn r (y - x)) h.2 (by omega)
  have hx:=h.1
  simp only [shGo,List.length_cons,List.sum_cons]
  refine ⟨fun z hz=>?_,ih.2.1,by omega,by rw [ih.2.2.2.1],by omega⟩
  rcases List.mem_cons.1 hz with rfl | hz
  ·omega
  ·exact ih.1 z hz
 | [],_ :: _,_,h,_=>h.elim
 | _ :: _,[],_,h,_=>h.elim
theorem rd_app (P : List Int) (x : Int) (l : List Int) : rd (P ++ x :: l) (P.length : Int) = x:=by simp [rd]
theorem set_app {α : Type} (P : List α) (x v : α) (l : List α) : (P ++ x :: l).set (P.length : Int).toNat v = P ++ [v] ++ l:=by simp
theorem sh_go {cups : Int} (hc0 : 0≤cups) (hc1 : cups≤10000) : ∀ (l n P Q : List Int) (r : Int) (k : Nat),pairOk l n→P.length = Q.length→(∀ x ∈ P,0≤x∧x≤1000)→P.length + l.length≤100→0≤r→r≤10000→P.length + 2 * l.length + 2 < k→
  gf_shares.l0 k cups (P ++ l) r (Q ++ n) (Q ++ n).length P.length = some (P ++ (shGo l n r).1,cups - (P ++ (shGo l n r).1).sum)
 | [],[],P,Q,r,k,_,hPQ,hP,hl,hr0,hr1,hk=>by
  obtain ⟨k,rfl⟩:=ksucc (by omega : 0 < k)
  simp only [gf_shares.l0,shGo,List.append_nil]
  rw [if_neg (by omega)]
  simp only [List.length_nil] at hl hk
  rw [csum (by omega) (fun x hx=>by have:=hP x hx;omega) (by omega)]
  have s:=sum_bd (l:=P) (B:=1000) (by omega) (fun x hx=>by have:=hP x hx;omega)
  simp only [Option.bind_some]
  rw [w64 (by omega)]
 | x :: l,y :: n,P,Q,r,k,h,hPQ,hP,hl,hr0,hr1,hk=>by
  obtain ⟨k,rfl⟩:=ksucc (by omega : 0 < k)
  simp only [List.length_cons] at hl hk
  have hx:=h.1
  have m:=mn_in (r:=r) (d:=y - x) hr0 (by omega)
  simp only [gf_shares.l0]
  have e : rd (Q ++ y :: n) (P.length : Int) = y:=by rw [hPQ];exact rd_app Q y n
  rw [if_pos (by rw [List.length_append,List.length_cons];omega),if_pos (by omega),if_pos (by rw [List.length_append,List.length_cons];omega),if_pos (by rw [List.length_append,List.length_cons];omega),rd_app,e,w64 (n:=y - x) (by omega),w64 (n:=x + _) (by omega),w64 (n:=r - _) (by omega),w64 (n:=(P.length : Int) + 1) (by omega),set_app]
  have ih:=sh_go hc0 hc1 l n (P ++ [x + mn r (y - x)]) (Q ++ [y]) (r - mn r (y - x)) k h.2 (by simp [hPQ]) (fun z hz=>by
   rcases List.mem_append.1 hz with hz | hz
   ·exact hP z hz
   ·simp at hz;omega) (by simp;omega) (by omega) (by omega) (by simp;omega)
  have e2 : Q ++ y :: n = Q ++ [y] ++ n:=by simp
  rw [e2,show (P.length : Int) + 1 = ((P ++ [x + mn r (y - x)]).length : Int) by simp,ih]
  simp [shGo]
 | [],_ :: _,_,_,_,_,h,_,_,_,_,_,_=>h.elim
 | _ :: _,[],_,_,_,_,h,_,_,_,_,_,_=>h.elim
section
variable {rows : List S126} {draw : Int} {noz : List S48} {weir spill : Int}
def levN (rows : List S126) (noz : List S48) (weir spill cups : Int) : Nat→Int
 | 0=>0
 | n + 1=>if tot rows noz weir spill ((n : Int) + 1)≤cups then (n : Int) + 1 else levN rows noz weir spill cups n
def lev (rows : List S126) (noz : List S48) (weir spill cups : Int) : Int:=levN rows noz weir spill cups 40
theorem levN_is (h : OkB rows draw noz weir spill) {cups : Int} (hc : 0≤cups) : ∀ n : Nat,n≤40→(n < 40→cups < tot rows noz weir spill ((n : Int) + 1))→Lev rows noz weir spill cups (levN rows noz weir spill cups n)
 | 0,_,hn=>⟨by simp [levN],by simp [levN],by simp [levN,tot_zero h,hc],fun _=>by simpa [levN] using hn (by omega)⟩
 | n + 1,h1,hn=>by
  unfold levN
  by_cases g : tot rows noz weir spill ((n : Int) + 1)≤cups
  ·rw [if_pos g]
   exact ⟨by omega,by omega,g,fun _=>by have:=hn (by omega);rw [Int.natCast_add] at this;exact this⟩
  ·rw [if_neg g]
   exact levN_is h hc n (by omega) (fun _=>by omega)
theorem lev_is (h : OkB rows draw noz weir spill) {cups : Int} (hc : 0≤cups) : Lev rows noz weir spill cups (lev rows noz weir spill cups):=levN_is h hc 40 (by omega) (fun h=>by omega)
theorem level_lev (h : OkB rows draw noz weir spill) {cups : Int} (hc : 0≤cups) : gf_level.f rows draw noz weir spill (grid rows noz) cups = some (lev rows noz weir spill cups):=by
 obtain ⟨r,hr,hl⟩:=level_eq h hc
 rw [hr,hl.uniq h (lev_is h hc)]
def shareL (rows : List S126) (noz : List S48) (weir spill cups : Int) : List Int:=
 if lev rows noz weir spill cups < 40 then (shGo (gat rows noz (lev rows noz weir spill cups)) (gat rows noz (lev rows noz weir spill cups + 1)) (cups - tot rows noz weir spill (lev rows noz weir spill cups))).1 else gat rows noz (lev rows noz weir spill cups)
theorem gat_pairs (h : OkB rows draw noz weir spill) {a b : Int} (hab : a≤b) : pairOk (gat rows noz a) (gat rows noz b):=by
 have : ∀ l : List S48,(∀ z ∈ l,z ∈ noz)→pairOk (l.map (pour rows a)) (l.map (pour rows b)):=by
  intro l
  induction l with
  | nil=>intro _;trivial
  | cons z l ih =>
   intro hl
   have hz:=hl z (by simp)
   exact ⟨⟨(pour_in h hz a).1,pour_mono h hz hab,(pour_in h hz b).2⟩,ih (fun y hy=>hl y (by simp [hy]))⟩
 exact this noz (fun _ hz=>hz)
theorem shareL_in (h : OkB rows draw noz weir spill) {cups : Int} (hc : 0≤cups) : (∀ x ∈ shareL rows noz weir spill cups,0≤x∧x≤1000)∧(shareL rows noz weir spill cups).length = noz.length:=by
 have L:=lev_is h hc
 unfold shareL
 by_cases g : lev rows noz weir spill cups < 40
 ·rw [if_pos g]
  have a:=shGo_in (r:=cups - tot rows noz weir spill (lev rows noz weir spill cups)) (gat_pairs h (show lev rows noz weir spill cups≤lev rows noz weir spill cups + 1 by omega)) (by have:=L.2.2.1;omega)
  exact ⟨a.1,by rw [a.2.2.2.1,gat_len]⟩
 ·rw [if_neg g]
  exact ⟨gat_in h _,gat_len _⟩
theorem clone_int {l : List Int} (hl : l.length≤1000) : sl_Clone_int.f l = some l:=by unfold sl_Clone_int.f;rw [if_pos (by omega)]
theorem shares_eq (h : OkB rows draw noz weir spill) {cups : Int} (hc0 : 0≤cups) (hc1 : cups≤10000) {k : Nat} (hk : 20≤k) :
  gf_shares.f k rows draw noz weir spill (grid rows noz) cups = some (shareL rows noz weir spill cups,cups - (shareL rows noz weir spill cups).sum):=by
 have L:=lev_is h hc0
 have n2:=h.n2
 have t0:=tot_in h L.1 L.2.1
 have B:=shareL_in h hc0
 have s:=sum_bd (l:=shareL rows noz weir spill cups) (B:=1000) (by omega) (fun x hx=>by have:=B.1 x hx;omega)
 rw [B.2] at s
 unfold gf_shares.f
 rw [level_lev h hc0,Option.bind_some,if_pos L.1,if_pos (by rw [grid_len];have:=L.2.1;omega),grid_at _ _ L.1 L.2.1,clone_int (by rw [gat_len];omega),Option.bind_some]
 unfold shareL
 by_cases g : lev rows noz weir spill cups < 40
 ·rw [if_pos g,if_pos g,out_eq h L.1 L.2.1,Option.bind_some,w64 (n:=_ + 1) (by have:=L.1;omega),if_pos (by have:=L.1;omega),if_pos (by rw [grid_len];omega),grid_at _ _ (by have:=L.1;omega) (by omega),w64 (by omega)]
  have f:=sh_go hc0 hc1 (gat rows noz (lev rows noz weir spill cups)) (gat rows noz (lev rows noz weir spill cups + 1)) [] [] (cups - tot rows noz weir spill (lev rows noz weir spill cups)) k (gat_pairs h (by omega)) rfl (fun x hx=>by simp at hx) (by simp [gat_len];omega) (by have:=L.2.2.1;omega) (by omega) (by simp [gat_len];omega)
  simpa using f
 ·rw [if_neg g,if_neg g]
  have a:=gat_in h (lev rows noz weir spill cups)
  rw [csum (by rw [gat_len];omega) (fun x hx=>by have:=a x hx;omega) (by rw [gat_len];omega),Option.bind_some]
  have c:=gsum_in h (lev rows noz weir spill cups)
  rw [w64 (by omega)]
def setH (noz : List S48) (l : List Int) : List S48:=List.zipWith (fun z x=>(⟨z.f0,x⟩ : S48)) noz l
theorem rout_go (h : OkB rows draw noz weir spill) (x : Int) (x0 : 0≤x) (x1 : x≤40) : ∀ (d k : Nat) (i : Int),0≤i→i + d = noz.length→d < k→
  q4_Out.l0 k x ((noz.take i.toNat).map (pour rows x)) i rows draw noz weir spill = some (gat rows noz x,over weir spill x)
 | 0,k,i,h0,hi,hk=>by
  obtain ⟨k,rfl⟩:=ksucc hk
  have a:=over_in h x0 x1
  have c:=h.w0;have c1:=h.w1
  simp only [q4_Out.l0]
  rw [if_neg (by omega),List.take_of_length_le (by omega),w64 (n:=x - weir) (by omega),w64 (n:=spill * _) (by unfold over at a;omega)]
  rfl
 | d + 1,k,i,h0,hi,hk=>by
  obtain ⟨k,rfl⟩:=ksucc (by omega : 0 < k)
  have n2:=h.n2
  have hz:=z_mem h0 (by omega : i < noz.length)
  have a:=h.nn _ hz
  have g:=gvz_in h hz
  simp only [q4_Out.l0]
  rw [if_pos (by omega),if_pos h0,if_pos a.1,if_pos a.2.1,if_pos (by rw [List.length_map,List.length_take];omega),w64 (n:=x - _) (by omega),mm_swap]
  have e:=take_snoc z48 (pour rows x) noz h0 (by omega)
  have f:=rout_go h x x0 x1 d k (i + 1) (by omega) (by omega) (by omega)
  rw [e] at f
  have p : wrap64 (Int.tdiv (wrap64 ((rd_T126 rows (rd_T48 noz i).f0).f2 * mx 0 (mn 5 (x - (rd_T48 noz i).f1)))) 5) = pour rows x (noz.getD i.toNat z48):=
   pour_prog (g:=gvz rows (rd_T48 noz i)) (by omega) (by omega) (mm_cases _)
  rw [p,w64 (n:=i + 1) (by omega)]
  exact f
theorem rout_eq (h : OkB rows draw noz weir spill) {x : Int} (x0 : 0≤x) (x1 : x≤40) {k : Nat} (hk : 10≤k) : q4_Out.f k rows draw noz weir spill x = some (gat rows noz x,over weir spill x):=
 rout_go h x x0 x1 noz.length k 0 (by omega) (by omega) (by have:=h.n2;omega)
theorem rtot_go (xs : List Int) (hl : xs.length≤1000) (hx : ∀ x ∈ xs,0≤x∧x≤1000) : ∀ (d k : Nat) (i acc : Int),0≤i→i + d = xs.length→d < k→0≤acc→acc≤4000 + 1000 * i→
  q4_Total.l0 k xs acc i = some (acc + (xs.drop i.toNat).sum)
 | 0,k,i,acc,h0,hi,hk,hb,hb2=>by
  obtain ⟨k,rfl⟩:=ksucc hk
  simp only [q4_Total.l0]
  rw [if_neg (by omega),List.drop_of_length_le (by omega)]
  simp
 | d + 1,k,i,acc,h0,hi,hk,hb,hb2=>by
  obtain ⟨k,rfl⟩:=ksucc (by omega : 0 < k)
  simp only [q4_Total.l0]
  have e:=drop_at (0 : Int) xs i h0 (by omega)
  have m:=hx _ (getD_mem (0 : Int) h0 (by omega : i < xs.length))
  rw [if_pos (by omega),if_pos h0]
  unfold rd
  rw [w64 (n:=acc + _) (by omega),w64 (by omega),rtot_go xs hl hx d k (i + 1) _ (by omega) (by omega) (by omega) (by omega) (by omega),e,List.sum_cons,Int.add_assoc]
theorem rtot_eq (h : OkB rows draw noz weir spill) {x : Int} (x0 : 0≤x) (x1 : x≤40) {k : Nat} (hk : 10≤k) : q4_Total.f k rows draw noz weir spill x = some (tot rows noz weir spill x):=by
 have a:=gat_in h x
 have b:=over_in h x0 x1
 have n2:=h.n2
 unfold q4_Total.f
 rw [rout_eq h x0 x1 hk,Option.bind_some,rtot_go _ (by rw [gat_len];omega) a noz.length k 0 _ (by omega) (by rw [gat_len];omega) (by omega) (by omega) (by omega)]
 simp only [Int.toNat_zero,List.drop_zero]
 unfold tot
 rw [Int.add_comm]
theorem stands_go (h : OkB rows draw noz weir spill) {cups : Int} (hc : 0≤cups) : ∀ (n k : Nat),n≤40→(n < 40→cups < tot rows noz weir spill ((n : Int) + 1))→n + 11≤k→
  q4_Stands.l0 k cups n rows draw noz weir spill = some (lev rows noz weir spill cups)
 | n,k,h1,hn,hk=>by
  obtain ⟨k,rfl⟩:=ksucc (by omega : 0 < k)
  simp only [q4_Stands.l0]
  rw [rtot_eq h (by omega) (by omega) (by omega),Option.bind_some]
  by_cases g : tot rows noz weir spill (n : Int) > cups
  ·rw [if_pos g]
   cases n with
   | zero=>rw [show ((0 : Nat) : Int) = 0 from rfl,tot_zero h] at g;omega
   | succ n =>
    rw [w64 (by omega),show ((n + 1 : Nat) : Int) - 1 = (n : Int) by omega]
    exact stands_go h hc n k (by omega) (fun _=>by rw [Int.natCast_add] at g;exact g) (by omega)
  ·rw [if_neg g]
   have : Lev rows noz weir spill cups (n : Int):=⟨by omega,by omega,by omega,fun _=>hn (by omega)⟩
   rw [this.uniq h (lev_is h hc)]
theorem stands_eq (h : OkB rows draw noz weir spill) {cups : Int} (hc : 0≤cups) {k : Nat} (hk : 51≤k) : q4_Stands.f k rows draw noz weir spill cups = some (lev rows noz weir spill cups):=
 stands_go h hc 40 k (by omega) (fun h=>by omega) (by omega)
end
theorem short_eq {rows : List S126} {draw : Int} {noz : List S48} {weir spill : Int} : l4_short.f rows draw noz weir spill = some (decide (rows.length≤15∧noz.length≤8)):=by
 unfold l4_short.f
 by_cases h : (rows.length : Int)≤15
 ·rw [if_pos h,show decide (rows.length≤15∧noz.length≤8) = decide ((noz.length : Int)≤8) from by rw [decide_eq_decide];omega]
 ·rw [if_neg h,decide_eq_false (by omega)]
section
variable {rows : List S126} {draw : Int} {noz : List S48} {weir spill : Int}
end
section
variable {rows : List S126} {draw : Int} {noz : List S48} {weir spill : Int}
end
theorem rsh_go {ov : Int} (ho0 : 0≤ov) (ho1 : ov≤10000) : ∀ (l n P Q : List Int) (r : Int) (k : Nat),pairOk l n→P.length = Q.length→P.length + l.length≤100→0≤r→r≤10000→l.length < k→
  q4_Shares.l0 k (P ++ l) ov r (Q ++ n) P.length = some (P ++ (shGo l n r).1,ov + (shGo l n r).2)
 | [],[],P,Q,r,k,_,hPQ,hl,hr0,hr1,hk=>by
  obtain ⟨k,rfl⟩:=ksucc (by omega : 0 < k)
  simp only [q4_Shares.l0,shGo,List.append_nil]
  rw [if_neg (by omega),w64 (by omega)]
 | x :: l,y :: n,P,Q,r,k,h,hPQ,hl,hr0,hr1,hk=>by
  obtain ⟨k,rfl⟩:=ksucc (by omega : 0 < k)
  simp only [List.length_cons] at hl hk
  have hx:=h.1
  have m:=mn_in (r:=r) (d:=y - x) hr0 (by omega)
  simp only [q4_Shares.l0]
  have e : rd (Q ++ y :: n) (P.length : Int) = y:=by rw [hPQ];exact rd_app Q y n
  rw [if_pos (by rw [List.length_append,List.length_cons];omega),if_pos (by omega),if_pos (by rw [List.length_append,List.length_cons];omega),rd_app,e,w64 (n:=y - x) (by omega),w64 (n:=x + _) (by omega),w64 (n:=r - _) (by omega),w64 (n:=(P.length : Int) + 1) (by omega),set_app]
  have ih:=rsh_go ho0 ho1 l n (P ++ [x + mn r (y - x)]) (Q ++ [y]) (r - mn r (y - x)) k h.2 (by simp [hPQ]) (by simp;omega) (by omega) (by omega) (by omega)
  have e2 : Q ++ y :: n = Q ++ [y] ++ n:=by simp
  rw [e2,show (P.length : Int) + 1 = ((P ++ [x + mn r (y - x)]).length : Int) by simp,ih]
  simp [shGo]
 | [],_ :: _,_,_,_,_,h,_,_,_,_,_=>h.elim
 | _ :: _,[],_,_,_,_,h,_,_,_,_,_=>h.elim
section
variable {rows : List S126} {draw : Int} {noz : List S48} {weir spill : Int}
theorem rShares_eq (h : OkB rows draw noz weir spill) {cups : Int} (hc0 : 0≤cups) (hc1 : cups≤10000) {k : Nat} (hk : 60≤k) :
  q4_Shares.f k rows draw noz weir spill cups = some (shareL rows noz weir spill cups,cups - (shareL rows noz weir spill cups).sum):=by
 have L:=lev_is h hc0
 have n2:=h.n2
 have t0:=tot_in h L.1 L.2.1
 have o0:=over_in h L.1 L.2.1
 have g0:=gsum_in h (lev rows noz weir spill cups)
 have te : tot rows noz weir spill (lev rows noz weir spill cups) = (gat rows noz (lev rows noz weir spill cups)).sum + over weir spill (lev rows noz weir spill cups):=rfl
 unfold q4_Shares.f
 rw [stands_eq h hc0 (by omega),Option.bind_some,rout_eq h L.1 L.2.1 (by omega),Option.bind_some,rtot_eq h L.1 L.2.1 (by omega),Option.bind_some,w64 (n:=cups - _) (by omega)]
 unfold shareL
 by_cases g : lev rows noz weir spill cups < 40
 ·rw [if_pos g,if_pos g,w64 (n:=_ + 1) (by have:=L.1;omega),rout_eq h (by have:=L.1;omega) (by omega) (by omega),Option.bind_some]
  have hp:=gat_pairs h (show lev rows noz weir spill cups≤lev rows noz weir spill cups + 1 by omega)
  have hr : 0≤cups - tot rows noz weir spill (lev rows noz weir spill cups):=by have:=L.2.2.1;omega
  have f:=rsh_go o0.1 (by omega) (gat rows noz (lev rows noz weir spill cups)) (gat rows noz (lev rows noz weir spill cups + 1)) [] [] (cups - tot rows noz weir spill (lev rows noz weir spill cups)) k hp rfl (by simp [gat_len];omega) hr (by omega) (by simp [gat_len];omega)
  have s:=(shGo_in hp hr).2.2.2.2
  simp only [List.nil_append,List.length_nil,Int.natCast_zero] at f
  rw [f]
  congr 2
  omega
 ·rw [if_neg g,if_neg g]
  congr 2
  rw [w64 (by omega)]
  omega
end
theorem same_go (xs ys : List Int) (hl : xs.length = ys.length) (hb : xs.length≤1000) : ∀ (d k : Nat) (i : Int),0≤i→i + d = xs.length→d < k→
  q1_Same.l0 k xs ys i = some (decide (xs.drop i.toNat = ys.drop i.toNat))
 | 0,k,i,h0,h1,hk=>by
  obtain ⟨k,rfl⟩:=ksucc (by omega : 0 < k)
  simp only [q1_Same.l0]
  rw [if_neg (by omega),List.drop_of_length_le (by omega),List.drop_of_length_le (by omega),decide_eq_true rfl]
 | d + 1,k,i,h0,h1,hk=>by
  obtain ⟨k,rfl⟩:=ksucc (by omega : 0 < k)
  simp only [q1_Same.l0]
  rw [if_pos (by omega),if_pos h0,if_pos (by omega),w64 (n:=i + 1) (by omega)]
  have hi : i.toNat < xs.length:=by omega
  have hj : i.toNat < ys.length:=by omega
  have e1 : xs.drop i.toNat = rd xs i :: xs.drop (i.toNat + 1):=by rw [List.drop_eq_getElem_cons hi];simp [rd,hi]
  have e2 : ys.drop i.toNat = rd ys i :: ys.drop (i.toNat + 1):=by rw [List.drop_eq_getElem_cons hj];simp [rd,hj]
  rw [e1,e2]
  by_cases c : rd xs i = rd ys i
  ·rw [if_pos c,same_go xs ys hl hb d k (i + 1) (by omega) (by omega) (by omega),show (i + 1).toNat = i.toNat + 1 by omega]
   simp [c]
  ·rw [if_neg c]
   simp [c]
theorem same_eq {xs ys : List Int} (hb : xs.length≤1000) {k : Nat} (hk : xs.length < k) : q4_Same.f k xs ys = some (decide (xs = ys)):=by
 unfold q4_Same.f q1_Same.f
 by_cases hl : xs.length = ys.length
 ·rw [if_pos (by omega),same_go xs ys hl hb xs.length k 0 (by omega) (by omega) hk]
  simp
 ·rw [if_neg (by omega),decide_eq_false (fun e=>hl (by rw [e]))]
  rfl
def okX (x : S27) : Bool:=okB x.f0.f0 x.f0.f1 x.f1 x.f2 x.f3
def nozN (bs : List S27) (n : Int) : Int:=((rd_T27 bs n).f1.length : Int)
def shX (x : S27) : Bool:=decide (x.f0.f0.length≤15∧x.f1.length≤8)
theorem drop_bas {C : List S27} {i : Int} (h0 : 0≤i) (h1 : i < C.length) : C.drop i.toNat = rd_T27 C i :: C.drop (i.toNat + 1):=by
 have hi : i.toNat < C.length:=by omega
 rw [List.drop_eq_getElem_cons hi];simp [rd_T27,hi]
theorem drop_feed {C : List S66} {i : Int} (h0 : 0≤i) (h1 : i < C.length) : C.drop i.toNat = rd_T66 C i :: C.drop (i.toNat + 1):=by
 have hi : i.toNat < C.length:=by omega
 rw [List.drop_eq_getElem_cons hi];simp [rd_T66,hi]
theorem take_feed {C : List S66} {i : Int} (h0 : 0≤i) (h1 : i < C.length) : C.take (i.toNat + 1) = C.take i.toNat ++ [rd_T66 C i]:=by
 have hi : i.toNat < C.length:=by omega
 rw [List.take_succ_eq_append_getElem hi];simp [rd_T66,hi]
theorem mem_bas {bs : List S27} {i : Int} (h0 : 0≤i) (h1 : i < bs.length) : rd_T27 bs i ∈ bs:=getD_mem z27 h0 h1
theorem all_rd {bs : List S27} {p : S27→Bool} (h : bs.all p = true) {i : Int} (h0 : 0≤i) (h1 : i < bs.length) : p (rd_T27 bs i) = true:=List.all_eq_true.1 h _ (mem_bas h0 h1)
theorem brief_go (bs : List S27) (fs : List S66) : ∀ (d k : Nat) (i : Int),0≤i→i≤6→i≤bs.length→i + d = 6→2 * d + 2≤k→l4_brief.l0 k i bs fs = some (((bs.drop i.toNat).take d).all shX && decide (bs.length≤6∧fs.length≤6))
 | 0,k,i,h0,h6,hl,h1,hk=>by
  obtain ⟨k,rfl⟩ : ∃ m,k = m + 1 + 1:=⟨k - 2,by omega⟩
  simp only [l4_brief.l0,l4_brief.j1]
  rw [decide_eq_false (by omega : ¬ i < 6)]
  simp only [Bool.false_eq_true,if_false,List.take_zero,List.all_nil,Bool.true_and,ite_self]
  by_cases c : (bs.length : Int)≤6
  ·rw [if_pos c,decide_eq_decide.2 (show (fs.length : Int)≤6↔bs.length≤6∧fs.length≤6 by omega)]
  ·rw [if_neg c,decide_eq_false (by omega)]
 | d + 1,k,i,h0,h6,hl,h1,hk=>by
  obtain ⟨k,rfl⟩ : ∃ m,k = m + 1 + 1:=⟨k - 2,by omega⟩
  simp only [l4_brief.l0,l4_brief.j1]
  by_cases c : i < (bs.length : Int)
  ·rw [if_pos c,decide_eq_true (by omega : i < 6),if_pos rfl,if_pos h0,if_pos c,short_eq,Option.bind_some,w64 (n:=i + 1) (by omega),drop_bas h0 c,List.take_succ_cons,List.all_cons]
   cases s : shX (rd_T27 bs i) with
   | true =>
    unfold shX at s
    rw [s,if_pos rfl,brief_go bs fs d k (i + 1) (by omega) (by omega) (by omega) (by omega) (by omega),show (i + 1).toNat = i.toNat + 1 by omega,Bool.true_and]
   | false =>
    unfold shX at s
    rw [s,if_neg (by decide),Bool.false_and,Bool.false_and]
  ·rw [if_neg c,List.drop_of_length_le (by omega)]
   simp only [Bool.false_eq_true,if_false,List.take_nil,List.all_nil,Bool.true_and]
   by_cases c : (bs.length : Int)≤6
   ·rw [if_pos c,decide_eq_decide.2 (show (fs.length : Int)≤6↔bs.length≤6∧fs.length≤6 by omega)]
   ·rw [if_neg c,decide_eq_false (by omega)]
def briefB (bs : List S27) (fs : List S66) : Bool:=(bs.take 6).all shX && decide (bs.length≤6∧fs.length≤6)
theorem brief_eq (bs : List S27) (fs : List S66) {k : Nat} (hk : 20≤k) : l4_brief.f k bs fs = some (briefB bs fs):=by
 unfold l4_brief.f
 have:=brief_go bs fs 6 k 0 (by omega) (by omega) (by omega) (by omega) (by omega)
 simpa [briefB] using this
theorem briefB_iff {bs : List S27} {fs : List S66} : briefB bs fs = true↔bs.all shX = true∧bs.length≤6∧fs.length≤6:=by
 unfold briefB
 simp only [Bool.and_eq_true,decide_eq_true_eq]
 constructor
 ·rintro ⟨a,b,c⟩
  rw [List.take_of_length_le b] at a
  exact ⟨a,b,c⟩
 ·rintro ⟨a,b,c⟩
  exact ⟨by rw [List.take_of_length_le b];exact a,b,c⟩
def feedB (bs : List S27) (met : List S66) (i : Int) (x : S66) : Bool:=!hasFeed met x && (decide (0≤x.f0∧x.f0≤i) && decide (-1≤x.f1∧x.f1≤nozN bs x.f0 - 1))
def feedsB (bs : List S27) : List S66→Int→List S66→Bool
 | [],_,_=>true
 | x :: rest,i,met=>feedB bs met i x && feedsB bs rest (i + 1) (met ++ [x])
def okCh (bs : List S27) (fs : List S66) : Bool:=bs.all okX && (decide (1≤bs.length∧bs.length≤4∧fs.length + 1 = bs.length) && feedsB bs fs 0 [])
theorem chainGo_eq (bs : List S27) (hS : bs.all shX = true) : ∀ (rest : List S66) (i : Int) (met : List S66),0≤i→i + rest.length + 1≤bs.length→chainGo bs rest i met = some (feedsB bs rest i met)
 | [],i,met,h0,h1=>rfl
 | x :: rest,i,met,h0,h1=>by
  simp only [List.length_cons] at h1
  simp only [chainGo,feedsB,feedB]
  cases hm : hasFeed met x with
  | true=>rfl
  | false =>
   rw [if_neg (by decide),c_in,Option.bind_some]
   by_cases c : 0≤x.f0∧x.f0≤i
   ·have hs:=all_rd hS c.1 (show x.f0 < (bs.length : Int) by omega)
    simp only [shX,decide_eq_true_eq] at hs
    rw [decide_eq_true c,if_pos rfl,if_pos c.1,if_pos (by omega),w64 (by omega),c_in,Option.bind_some]
    by_cases e : -1≤x.f1∧x.f1≤nozN bs x.f0 - 1
    ·rw [decide_eq_true e]
     have e' : -1≤x.f1∧x.f1≤((rd_T27 bs x.f0).f1.length : Int) - 1:=e
     rw [decide_eq_true e',if_pos rfl,chainGo_eq bs hS rest (i + 1) (met ++ [x]) (by omega) (by omega)]
     rfl
    ·rw [decide_eq_false e]
     have e' : ¬ (-1≤x.f1∧x.f1≤((rd_T27 bs x.f0).f1.length : Int) - 1):=e
     rw [decide_eq_false e',if_neg (by decide)]
     rfl
   ·rw [decide_eq_false c,if_neg (by decide)];rfl
theorem cChainIs_eq {bs : List S27} {fs : List S66} (hS : bs.all shX = true) : ca_isChain.f bs fs = some (okCh bs fs):=by
 unfold ca_isChain.f okCh
 rw [c_in,Option.bind_some]
 have hc : cf_isChain.f bs = some (!bs.all okX):=by
  unfold cf_isChain.f
  have : ∀ xs : List S27,(∀ x ∈ xs,x.f0.f0.length≤1000)→anyM (fun x=>ca_isChain_1.f x.f0.f0 x.f0.f1 x.f1 x.f2 x.f3) xs = some (!xs.all okX):=by
   intro xs
   induction xs with
   | nil=>intro _;rfl
   | cons x xs ih =>
    intro hx
    simp only [anyM,List.all_cons]
    have : ca_isChain_1.f x.f0.f0 x.f0.f1 x.f1 x.f2 x.f3 = some (!okX x):=by
     unfold ca_isChain_1.f
     rw [isBasin_eq (hx x (by simp))];rfl
    rw [this,Option.bind_some,ih (fun y hy=>hx y (by simp [hy]))]
    cases okX x<;>rfl
  refine this bs (fun x hx=>?_)
  have:=List.all_eq_true.1 hS x hx
  simp only [shX,decide_eq_true_eq] at this
  omega
 by_cases c : 1≤(bs.length : Int)∧(bs.length : Int)≤4
 ·rw [decide_eq_true c,if_pos rfl]
  by_cases e : (fs.length : Int) = (bs.length : Int) - 1
  ·rw [if_pos e,hc,Option.bind_some,decide_eq_true (by omega)]
   cases ha : bs.all okX with
   | false=>rfl
   | true =>
    rw [if_neg (by decide),chainGo_eq bs hS fs 0 [] (by omega) (by omega)]
    rfl
  ·rw [if_neg e,decide_eq_false (by omega),Bool.false_and,Bool.and_false]
 ·rw [decide_eq_false c,if_neg (by decide),decide_eq_false (by omega),Bool.false_and,Bool.and_false]
theorem rc_l2 (bs : List S27) (fs : List S66) (hf : fs.length≤6) (i : Int) (h0 : 0≤i) (h1 : i < fs.length) {r : Option Bool} {N0 : Nat} (a b : Int) (hr : ∀ k,N0≤k→q4_Chain.l1 k (i + 1) bs fs = r) : ∀ (d k : Nat) (j : Int),0≤j→j + d = i→N0 + d < k→
  q4_Chain.l2 k i j bs fs a b = if ((fs.take i.toNat).drop j.toNat).any (fun g=>g.f0 == a && (g.f1 == b)) = true then some false else r
 | 0,k,j,p0,p1,hk=>by
  obtain ⟨k,rfl⟩:=ksucc (by omega : 0 < k)
  simp only [q4_Chain.l2]
  rw [if_neg (by omega),w64 (n:=i + 1) (by omega),hr k (by omega),List.drop_of_length_le (by rw [List.length_take];omega),List.any_nil,if_neg (by decide)]
 | d + 1,k,j,p0,p1,hk=>by
  obtain ⟨k,rfl⟩:=ksucc (by omega : 0 < k)
  simp only [q4_Chain.l2]
  have hj : j.toNat < (fs.take i.toNat).length:=by rw [List.length_take];omega
  have e : (fs.take i.toNat).drop j.toNat = rd_T66 fs j :: (fs.take i.toNat).drop (j.toNat + 1):=by
   rw [List.drop_eq_getElem_cons hj]
   have hj2 : j.toNat < fs.length:=by omega
   simp [rd_T66,hj2]
  rw [if_pos (by omega),if_pos p0,if_pos (by omega),e,List.any_cons,w64 (n:=j + 1) (by omega)]
  cases c : ((rd_T66 fs j).f0 == a && ((rd_T66 fs j).f1 == b)) with
  | true=>rw [if_pos rfl,Bool.true_or,if_pos rfl]
  | false=>rw [if_neg (by decide),Bool.false_or,rc_l2 bs fs hf i h0 h1 a b hr d k (j + 1) (by omega) (by omega) (by omega),show (j + 1).toNat = j.toNat + 1 by omega]
theorem has_any (met : List S66) (x : S66) : met.any (fun g=>g.f0 == x.f0 && (g.f1 == x.f1)) = hasFeed met x:=by
 unfold hasFeed
 congr 1
 funext g
 rw [Bool.beq_comm (a:=g.f0),Bool.beq_comm (a:=g.f1)]
theorem rc_l1 (bs : List S27) (fs : List S66) (hS : bs.all shX = true) (hb : bs.length≤6) (hl : fs.length + 1 = bs.length) : ∀ (d k : Nat) (i : Int),0≤i→i + d = fs.length→10 * d < k→
  q4_Chain.l1 k i bs fs = some (feedsB bs (fs.drop i.toNat) i (fs.take i.toNat))
 | 0,k,i,h0,h1,hk=>by
  obtain ⟨k,rfl⟩:=ksucc (by omega : 0 < k)
  simp only [q4_Chain.l1]
  rw [if_neg (by omega),List.drop_of_length_le (by omega)];rfl
 | d + 1,k,i,h0,h1,hk=>by
  obtain ⟨k,rfl⟩ : ∃ m,k = m + 1 + 1:=⟨k - 2,by omega⟩
  simp only [q4_Chain.l1,q4_Chain.j3]
  rw [if_pos (by omega),if_pos h0,r4_in,Option.bind_some,drop_feed h0 (by omega)]
  simp only [feedsB,feedB]
  by_cases c : 0≤(rd_T66 fs i).f0∧(rd_T66 fs i).f0≤i
  ·have hs:=all_rd hS c.1 (show (rd_T66 fs i).f0 < (bs.length : Int) by omega)
   simp only [shX,decide_eq_true_eq] at hs
   rw [decide_eq_true c,if_pos rfl,if_pos c.1,if_pos (by omega),w64 (n:=_ - 1) (by omega),r4_in,Option.bind_some]
   by_cases e : -1≤(rd_T66 fs i).f1∧(rd_T66 fs i).f1≤nozN bs (rd_T66 fs i).f0 - 1
   ·have e' : -1≤(rd_T66 fs i).f1∧(rd_T66 fs i).f1≤((rd_T27 bs (rd_T66 fs i).f0).f1.length : Int) - 1:=e
    rw [decide_eq_true e,decide_eq_true e',Bool.not_true,if_neg (by decide)]
    rw [rc_l2 bs fs (by omega) i h0 (by omega) (N0:=10 * d + 1) _ _ (fun k hk=>rc_l1 bs fs hS hb hl d k (i + 1) (by omega) (by omega) (by omega)) i.toNat k 0 (by omega) (by omega) (by omega)]
    rw [Int.toNat_zero,List.drop_zero,has_any,show (i + 1).toNat = i.toNat + 1 by omega,take_feed h0 (by omega)]
    cases hasFeed (fs.take i.toNat) (rd_T66 fs i)<;>simp
   ·have e' : ¬ (-1≤(rd_T66 fs i).f1∧(rd_T66 fs i).f1≤((rd_T27 bs (rd_T66 fs i).f0).f1.length : Int) - 1):=e
    rw [decide_eq_false e,decide_eq_false e',Bool.not_false,if_pos rfl]
    simp
  ·rw [decide_eq_false c,if_neg (by decide)]
   simp
theorem rc_l0 (bs : List S27) (fs : List S66) (hS : bs.all shX = true) (hb : bs.length≤6) (hf : fs.length≤6) : ∀ (d k : Nat) (i : Int),0≤i→i + d = bs.length→100 + d < k→
  q4_Chain.l0 k i bs fs = some ((bs.drop i.toNat).all okX && (decide (1≤bs.length∧bs.length≤4∧fs.length + 1 = bs.length) && feedsB bs fs 0 []))
 | 0,k,i,h0,h1,hk=>by
  obtain ⟨k,rfl⟩ : ∃ m,k = m + 1 + 1:=⟨k - 2,by omega⟩
  simp only [q4_Chain.l0,q4_Chain.j1]
  rw [if_neg (by omega),r4_in,Option.bind_some,List.drop_of_length_le (by omega),List.all_nil,Bool.true_and]
  by_cases c : 1≤(bs.length : Int)∧(bs.length : Int)≤4
  ·rw [decide_eq_true c,if_pos rfl,w64 (by omega)]
   by_cases e : (fs.length : Int) = (bs.length : Int) - 1
   ·rw [show ((fs.length : Int) != (bs.length : Int) - 1) = false by simpa using e,if_neg (by decide),decide_eq_true (by omega),rc_l1 bs fs hS hb (by omega) fs.length k 0 (by omega) (by omega) (by omega)]
    rfl
   ·rw [show ((fs.length : Int) != (bs.length : Int) - 1) = true by simpa using e,if_pos rfl,decide_eq_false (by omega)];rfl
  ·rw [decide_eq_false c,if_neg (by decide),if_pos trivial,decide_eq_false (by omega)];rfl
 | d + 1,k,i,h0,h1,hk=>by
  obtain ⟨k,rfl⟩:=ksucc (by omega : 0 < k)
  simp only [q4_Chain.l0]
  have hs:=all_rd hS h0 (show i < (bs.length : Int) by omega)
  simp only [shX,decide_eq_true_eq] at hs
  rw [if_pos (by omega),if_pos h0,refBasin_eq (by omega) (by omega) (by omega),Option.bind_some,drop_bas h0 (by omega),List.all_cons,w64 (n:=i + 1) (by omega)]
  cases c : okX (rd_T27 bs i) with
  | true =>
   unfold okX at c
   rw [c,if_pos rfl,rc_l0 bs fs hS hb hf d k (i + 1) (by omega) (by omega) (by omega),show (i + 1).toNat = i.toNat + 1 by omega,Bool.true_and]
  | false =>
   unfold okX at c
   rw [c,if_neg (by decide)];rfl
theorem rChain_eq {bs : List S27} {fs : List S66} (hS : bs.all shX = true) (hb : bs.length≤6) (hf : fs.length≤6) {k : Nat} (hk : 110≤k) : q4_Chain.f k bs fs = some (okCh bs fs):=by
 unfold q4_Chain.f okCh
 have:=rc_l0 bs fs hS hb hf bs.length k 0 (by omega) (by omega) (by omega)
 simpa using this
theorem feedsB_at (bs : List S27) (fs : List S66) : ∀ (d : Nat) (i : Int),0≤i→i + d = fs.length→feedsB bs (fs.drop i.toNat) i (fs.take i.toNat) = true→∀ j : Int,i≤j→j < fs.length→feedB bs (fs.take j.toNat) j (rd_T66 fs j) = true
 | 0,i,h0,h1,h,j,p0,p1=>by omega
 | d + 1,i,h0,h1,h,j,p0,p1=>by
  rw [drop_feed h0 (by omega)] at h
  simp only [feedsB,Bool.and_eq_true] at h
  by_cases e : j = i
  ·subst e;exact h.1
  ·rw [← take_feed h0 (by omega),show i.toNat + 1 = (i + 1).toNat by omega] at h
   exact feedsB_at bs fs d (i + 1) (by omega) (by omega) h.2 j (by omega) p1
structure OkCh (bs : List S27) (fs : List S66) : Prop where
 n1 : 1≤bs.length
 n2 : bs.length≤4
 nf : fs.length + 1 = bs.length
 bas : ∀ i : Int,0≤i→i < bs.length→OkB (rd_T27 bs i).f0.f0 (rd_T27 bs i).f0.f1 (rd_T27 bs i).f1 (rd_T27 bs i).f2 (rd_T27 bs i).f3
 feed : ∀ i : Int,0≤i→i < fs.length→(0≤(rd_T66 fs i).f0∧(rd_T66 fs i).f0≤i)∧-1≤(rd_T66 fs i).f1∧(rd_T66 fs i).f1≤nozN bs (rd_T66 fs i).f0 - 1
 new : ∀ i : Int,0≤i→i < fs.length→hasFeed (fs.take i.toNat) (rd_T66 fs i) = false
theorem okCh_of {bs : List S27} {fs : List S66} (h : okCh bs fs = true) : OkCh bs fs:=by
 unfold okCh at h
 simp only [Bool.and_eq_true,decide_eq_true_eq] at h
 obtain ⟨ha,⟨h1,h2,h3⟩,hf⟩:=h
 have at_:=feedsB_at bs fs fs.length 0 (by omega) (by omega) (by simpa using hf)
 refine ⟨h1,h2,h3,fun i i0 i1=>okB_iff.1 (all_rd ha i0 i1),fun i i0 i1=>?_,fun i i0 i1=>?_⟩
 ·have:=at_ i i0 i1
  simp only [feedB,Bool.and_eq_true,decide_eq_true_eq,Bool.not_eq_true'] at this
  exact ⟨this.2.1,this.2.2⟩
 ·have:=at_ i i0 i1
  simp only [feedB,Bool.and_eq_true,decide_eq_true_eq,Bool.not_eq_true'] at this
  exact this.1
def leL : List Int→List Int→Prop
 | x :: l,y :: m=>x≤y∧leL l m
 | [],[]=>True
 | _,_=>False
theorem leL.refl : ∀ l : List Int,leL l l
 | []=>trivial
 | x :: l=>⟨Int.le_refl x,leL.refl l⟩
theorem leL.trans : ∀ {a b c : List Int},leL a b→leL b c→leL a c
 | [],[],[],_,_=>trivial
 | x :: a,y :: b,z :: c,h,k=>⟨Int.le_trans h.1 k.1,leL.trans h.2 k.2⟩
 | [],_ :: _,_,h,_=>h.elim
 | _ :: _,[],_,h,_=>h.elim
 | [],[],_ :: _,_,k=>k.elim
 | _ :: _,_ :: _,[],_,k=>k.elim
section
variable {rows : List S126} {draw : Int} {noz : List S48} {weir spill : Int}
theorem over_is (h : OkB rows draw noz weir spill) {c : Int} (hc : 0≤c) (g : lev rows noz weir spill c < 40) :
  c - (shareL rows noz weir spill c).sum = over weir spill (lev rows noz weir spill c) + (shGo (gat rows noz (lev rows noz weir spill c)) (gat rows noz (lev rows noz weir spill c + 1)) (c - tot rows noz weir spill (lev rows noz weir spill c))).2:=by
 have L:=lev_is h hc
 have q:=(shGo_in (r:=c - tot rows noz weir spill (lev rows noz weir spill c)) (gat_pairs h (show lev rows noz weir spill c≤lev rows noz weir spill c + 1 by omega)) (by have:=L.2.2.1;omega)).2.2.2.2
 have te : tot rows noz weir spill (lev rows noz weir spill c) = (gat rows noz (lev rows noz weir spill c)).sum + over weir spill (lev rows noz weir spill c):=rfl
 have e : shareL rows noz weir spill c = (shGo (gat rows noz (lev rows noz weir spill c)) (gat rows noz (lev rows noz weir spill c + 1)) (c - tot rows noz weir spill (lev rows noz weir spill c))).1:=by unfold shareL;rw [if_pos g]
 rw [e];omega
theorem over_ge (h : OkB rows draw noz weir spill) {c : Int} (hc : 0≤c) : over weir spill (lev rows noz weir spill c)≤c - (shareL rows noz weir spill c).sum:=by
 have L:=lev_is h hc
 have l3:=L.2.2.1
 by_cases g : lev rows noz weir spill c < 40
 ·rw [over_is h hc g]
  have q:=(shGo_in (r:=c - tot rows noz weir spill (lev rows noz weir spill c)) (gat_pairs h (show lev rows noz weir spill c≤lev rows noz weir spill c + 1 by omega)) (by omega)).2.1
  omega
 ·have te : tot rows noz weir spill (lev rows noz weir spill c) = (gat rows noz (lev rows noz weir spill c)).sum + over weir spill (lev rows noz weir spill c):=rfl
  unfold shareL;rw [if_neg g];omega
end
def inn (fs : List S66) (cups i : Int) (xs : List (List Int)) (ys : List Int) : Int:=
 if 0 < i then (if 0≤(rd_T66 fs (i - 1)).f1 then rd (rd_L3 xs (rd_T66 fs (i - 1)).f0) (rd_T66 fs (i - 1)).f1 else rd ys (rd_T66 fs (i - 1)).f0) else cups
def shX' (x : S27) (c : Int) : List Int:=shareL x.f0.f0 x.f1 x.f2 x.f3 c
def flL (fs : List S66) (cups : Int) : List S27→Int→List (List Int)→List Int→List (List Int) × List Int
 | [],_,xs,ys=>(xs,ys)
 | x :: rest,i,xs,ys=>flL fs cups rest (i + 1) (xs ++ [shX' x (inn fs cups i xs ys)]) (ys ++ [inn fs cups i xs ys - (shX' x (inn fs cups i xs ys)).sum])
structure FInv (bs : List S27) (i : Int) (xs : List (List Int)) (ys : List Int) : Prop where
 lx : (xs.length : Int) = i
 ly : (ys.length : Int) = i
 rows : ∀ j : Int,0≤j→j < i→((rd_L3 xs j).length : Int) = nozN bs j∧∀ v ∈ rd_L3 xs j,0≤v∧v≤1000
 over : ∀ j : Int,0≤j→j < i→0≤rd ys j∧rd ys j≤10000
theorem rdL_snoc {xs : List (List Int)} {l : List Int} {j : Int} (h0 : 0≤j) : rd_L3 (xs ++ [l]) j = if j < (xs.length : Int) then rd_L3 xs j else if j = (xs.length : Int) then l else []:=by
 unfold rd_L3
 by_cases c : j < (xs.length : Int)
 ·rw [if_pos c,List.getD_eq_getElem?_getD,List.getD_eq_getElem?_getD,List.getElem?_append_left (by omega)]
 ·rw [if_neg c,List.getD_eq_getElem?_getD,List.getElem?_append_right (by omega)]
  by_cases e : j = (xs.length : Int)
  ·rw [if_pos e,show j.toNat - xs.length = 0 by omega];rfl
  ·rw [if_neg e,List.getElem?_eq_none (by simp;omega)];rfl
theorem rd_snoc {ys : List Int} {n : Int} {j : Int} (h0 : 0≤j) : rd (ys ++ [n]) j = if j < (ys.length : Int) then rd ys j else if j = (ys.length : Int) then n else 0:=by
 unfold rd
 by_cases c : j < (ys.length : Int)
 ·rw [if_pos c,List.getD_eq_getElem?_getD,List.getD_eq_getElem?_getD,List.getElem?_append_left (by omega)]
 ·rw [if_neg c,List.getD_eq_getElem?_getD,List.getElem?_append_right (by omega)]
  by_cases e : j = (ys.length : Int)
  ·rw [if_pos e,show j.toNat - ys.length = 0 by omega];rfl
  ·rw [if_neg e,List.getElem?_eq_none (by simp;omega)];rfl
theorem share_X {bs : List S27} {fs : List S66} (h : OkCh bs fs) {i c : Int} (h0 : 0≤i) (h1 : i < bs.length) (c0 : 0≤c) (c1 : c≤10000) :
  (∀ v ∈ shX' (rd_T27 bs i) c,0≤v∧v≤1000)∧((shX' (rd_T27 bs i) c).length : Int) = nozN bs i∧0≤c - (shX' (rd_T27 bs i) c).sum∧c - (shX' (rd_T27 bs i) c).sum≤10000:=by
 have hb:=h.bas i h0 h1
 have s:=shareL_in hb c0
 have o:=over_ge hb c0
 have o2:=over_in hb (lev_is hb c0).1 (lev_is hb c0).2.1
 have n0:=sum_nn (fun x hx=>(s.1 x hx).1)
 refine ⟨s.1,by unfold shX' nozN;rw [s.2],?_,?_⟩
 ·unfold shX';omega
 ·unfold shX';omega
theorem rd_inR {X : List Int} {i : Int} (hX : ∀ x ∈ X,0≤x∧x≤1000) (h0 : 0≤i) (h1 : i < X.length) : 0≤rd X i∧rd X i≤1000:=by
 have hi : i.toNat < X.length:=by omega
 have : rd X i = X[i.toNat]:=by simp [rd,hi]
 rw [this];exact hX _ (List.getElem_mem _)
theorem inn_in {bs : List S27} {fs : List S66} (h : OkCh bs fs) {cups i : Int} {xs : List (List Int)} {ys : List Int} (c0 : 0≤cups) (c1 : cups≤10000) (h0 : 0≤i) (h1 : i < bs.length) (hI : FInv bs i xs ys) : 0≤inn fs cups i xs ys∧inn fs cups i xs ys≤10000:=by
 unfold inn
 by_cases p : 0 < i
 ·rw [if_pos p]
  have nf:=h.nf
  have f:=h.feed (i - 1) (by omega) (by omega)
  by_cases q : 0≤(rd_T66 fs (i - 1)).f1
  ·rw [if_pos q]
   have r:=hI.rows (rd_T66 fs (i - 1)).f0 (by omega) (by omega)
   have:=rd_inR r.2 q (by omega)
   omega
  ·rw [if_neg q]
   have:=hI.over (rd_T66 fs (i - 1)).f0 (by omega) (by omega)
   omega
 ·rw [if_neg p];omega
theorem FInv.step {bs : List S27} {fs : List S66} (h : OkCh bs fs) {i c : Int} {xs : List (List Int)} {ys : List Int} (h0 : 0≤i) (h1 : i < bs.length) (hI : FInv bs i xs ys) (c0 : 0≤c) (c1 : c≤10000) : FInv bs (i + 1) (xs ++ [shX' (rd_T27 bs i) c]) (ys ++ [c - (shX' (rd_T27 bs i) c).sum]):=by
 have s:=share_X h h0 h1 c0 c1
 have lx:=hI.lx
 have ly:=hI.ly
 refine ⟨by simp;omega,by simp;omega,fun j j0 j1=>?_,fun j j0 j1=>?_⟩
 ·rw [rdL_snoc j0]
  by_cases e : j < (xs.length : Int)
  ·rw [if_pos e];exact hI.rows j j0 (by omega)
  ·rw [if_neg e,if_pos (by omega),show j = i by omega];exact ⟨s.2.1,s.1⟩
 ·rw [rd_snoc j0]
  by_cases e : j < (ys.length : Int)
  ·rw [if_pos e];exact hI.over j j0 (by omega)
  ·rw [if_neg e,if_pos (by omega)];exact s.2.2
theorem FInv.nil (bs : List S27) : FInv bs 0 [] []:=⟨rfl,rfl,fun j a b=>by omega,fun j a b=>by omega⟩
def filX (x : S27) : S110:=filledOf x (x.f0.f1,x.f2,x.f3,grid x.f0.f0 x.f1)
theorem basinsGo_eq : ∀ (l : List S27) (acc : List S110),(∀ x ∈ l,OkB x.f0.f0 x.f0.f1 x.f1 x.f2 x.f3)→acc.length + l.length≤1000→basinsGo l acc = some (acc ++ l.map filX)
 | [],acc,h,hl=>by simp [basinsGo]
 | x :: l,acc,h,hl=>by
  simp only [List.length_cons] at hl
  rw [basinsGo,fillK_eq (h x (by simp)),Option.bind_some,if_pos (by omega),basinsGo_eq l _ (fun y hy=>h y (by simp [hy])) (by simp;omega)]
  simp [filX]
theorem flow_go {bs : List S27} {fs : List S66} (h : OkCh bs fs) {cups : Int} (c0 : 0≤cups) (c1 : cups≤10000) {k : Nat} (hk : 20≤k) : ∀ (d : Nat) (i : Int) (xs : List (List Int)) (ys : List Int) (u : Int),0≤i→i + d = bs.length→FInv bs i xs ys→(¬ 0 < i→u = cups)→
  flowGo k fs ((bs.drop i.toNat).map filX) i u xs ys = some (flL fs cups (bs.drop i.toNat) i xs ys)
 | 0,i,xs,ys,u,h0,h1,hI,hu=>by
  rw [List.drop_of_length_le (by omega)];rfl
 | d + 1,i,xs,ys,u,h0,h1,hI,hu=>by
  have n2:=h.n2
  have nf:=h.nf
  have lx:=hI.lx
  have ly:=hI.ly
  have ii:=inn_in h c0 c1 h0 (show i < (bs.length : Int) by omega) hI
  rw [drop_bas h0 (by omega),List.map_cons]
  simp only [flowGo,flL]
  have e : flowIn fs i u xs ys = some (inn fs cups i xs ys):=by
   unfold flowIn inn
   by_cases p : 0 < i
   ·have f:=h.feed (i - 1) (by omega) (by omega)
    rw [if_pos p,if_pos p,if_pos (by omega),if_pos f.1.1,if_pos (by omega)]
    by_cases q : 0≤(rd_T66 fs (i - 1)).f1
    ·have r:=hI.rows (rd_T66 fs (i - 1)).f0 (by omega) (by omega)
     rw [if_pos q,if_pos q,if_pos (by omega),if_pos (by omega)]
    ·rw [if_neg q,if_neg q]
   ·rw [if_neg p,if_neg p,hu p]
  have hb:=h.bas i h0 (by omega)
  have sh : gf_shares.f k (filX (rd_T27 bs i)).f0.f0.f0 (filX (rd_T27 bs i)).f0.f0.f1 (filX (rd_T27 bs i)).f0.f1 (filX (rd_T27 bs i)).f0.f2 (filX (rd_T27 bs i)).f0.f3 (filX (rd_T27 bs i)).f1 (inn fs cups i xs ys) = some (shX' (rd_T27 bs i) (inn fs cups i xs ys),inn fs cups i xs ys - (shX' (rd_T27 bs i) (inn fs cups i xs ys)).sum):=shares_eq hb ii.1 ii.2 hk
  rw [e,Option.bind_some,sh,Option.bind_some,if_pos (by omega),if_pos (by omega)]
  have:=flow_go h c0 c1 hk d (i + 1) _ _ (inn fs cups i xs ys) (by omega) (by omega) (hI.step h h0 (by omega) ii.1 ii.2) (fun p=>absurd (show 0 < i + 1 by omega) p)
  rw [show (i + 1).toNat = i.toNat + 1 by omega] at this
  exact this
def flowsL (bs : List S27) (fs : List S66) (cups : Int) : List (List Int) × List Int:=flL fs cups bs 0 [] []
theorem okX_all {bs : List S27} {fs : List S66} (h : okCh bs fs = true) : ∀ x ∈ bs,OkB x.f0.f0 x.f0.f1 x.f1 x.f2 x.f3:=by
 unfold okCh at h
 simp only [Bool.and_eq_true] at h
 intro x hx
 exact okB_iff.1 (List.all_eq_true.1 h.1 x hx)
theorem basins_eq {bs : List S27} {fs : List S66} (h : okCh bs fs = true) : ca_basins.f bs = some (bs.map filX):=by
 have n2:=(okCh_of h).n2
 have:=basinsGo_eq bs [] (okX_all h) (by simp;omega)
 simpa [ca_basins.f] using this
theorem cflow_eq {bs : List S27} {fs : List S66} (h : okCh bs fs = true) {cups : Int} (c0 : 0≤cups) (c1 : cups≤10000) {k : Nat} (hk : 20≤k) : ca_flow.f k (bs.map filX) fs cups = some (flowsL bs fs cups):=by
 have:=flow_go (okCh_of h) c0 c1 hk bs.length 0 [] [] cups (by omega) (by omega) (FInv.nil bs) (fun _=>rfl)
 simpa [ca_flow.f,flowsL] using this
theorem cFlow_eq {bs : List S27} {fs : List S66} (hS : bs.all shX = true) (h : okCh bs fs = true) {cups : Int} (c0 : 0≤cups) (c1 : cups≤10000) {k : Nat} (hk : 20≤k) : ca_Flow.f k bs fs cups = some ((flowsL bs fs cups).1,(flowsL bs fs cups).2,0):=by
 unfold ca_Flow.f
 rw [cChainIs_eq hS,h,Option.bind_some,if_pos rfl,c_flow,decide_eq_true ⟨c0,c1⟩,Option.bind_some,if_pos rfl,basins_eq h,Option.bind_some,cflow_eq h c0 c1 hk,Option.bind_some]
theorem cFlow_bad {bs : List S27} {fs : List S66} (hS : bs.all shX = true) {cups : Int} (h : ¬ (okCh bs fs = true∧0≤cups∧cups≤10000)) {k : Nat} : ca_Flow.f k bs fs cups = some ([],[],2):=by
 unfold ca_Flow.f
 rw [cChainIs_eq hS,Option.bind_some]
 cases c : okCh bs fs with
 | false=>rfl
 | true =>
  rw [if_pos rfl,c_flow,Option.bind_some]
  by_cases e : 0≤cups∧cups≤10000
  ·exact absurd ⟨c,e⟩ h
  ·rw [decide_eq_false e];rfl
theorem rflow_go {bs : List S27} {fs : List S66} (h : OkCh bs fs) {cups : Int} (c0 : 0≤cups) (c1 : cups≤10000) : ∀ (d k : Nat) (i : Int) (xs : List (List Int)) (ys : List Int),0≤i→i + d = bs.length→FInv bs i xs ys→70 + d < k→
  q4_Flows.l0 k cups xs ys i bs fs = some (flL fs cups (bs.drop i.toNat) i xs ys)
 | 0,k,i,xs,ys,h0,h1,hI,hk=>by
  obtain ⟨k,rfl⟩:=ksucc (by omega : 0 < k)
  simp only [q4_Flows.l0]
  rw [if_neg (by omega),List.drop_of_length_le (by omega)];rfl
 | d + 1,k,i,xs,ys,h0,h1,hI,hk=>by
  obtain ⟨k,rfl⟩:=ksucc (by omega : 0 < k)
  have n2:=h.n2
  have nf:=h.nf
  have lx:=hI.lx
  have ly:=hI.ly
  have ii:=inn_in h c0 c1 h0 (show i < (bs.length : Int) by omega) hI
  have hb:=h.bas i h0 (by omega)
  have ih:=rflow_go h c0 c1 d k (i + 1) _ _ (by omega) (by omega) (hI.step h h0 (by omega) ii.1 ii.2) (by omega)
  rw [show (i + 1).toNat = i.toNat + 1 by omega] at ih
  have sh : ∀ c,c = inn fs cups i xs ys→q4_Shares.f k (rd_T27 bs i).f0.f0 (rd_T27 bs i).f0.f1 (rd_T27 bs i).f1 (rd_T27 bs i).f2 (rd_T27 bs i).f3 c = some (shX' (rd_T27 bs i) (inn fs cups i xs ys),inn fs cups i xs ys - (shX' (rd_T27 bs i) (inn fs cups i xs ys)).sum):=fun c e=>by
   subst e;exact rShares_eq hb ii.1 ii.2 (by omega)
  simp only [q4_Flows.l0]
  rw [if_pos (by omega),drop_bas h0 (by omega),w64 (n:=i + 1) (by omega)]
  simp only [flL]
  by_cases p : i > 0
  ·have f:=h.feed (i - 1) (by omega) (by omega)
   rw [if_pos p,w64 (n:=i - 1) (by omega),if_pos (by omega),if_pos (by omega),if_pos f.1.1,if_pos (by omega)]
   by_cases q : (rd_T66 fs (i - 1)).f1 ≥ 0
   ·have r:=hI.rows (rd_T66 fs (i - 1)).f0 (by omega) (by omega)
    rw [if_pos q,if_pos (by omega),if_pos q,if_pos (by omega),if_pos h0,sh _ (by unfold inn;rw [if_pos p,if_pos q]),Option.bind_some,if_pos (by omega),if_pos (by omega)]
    exact ih
   ·rw [if_neg q,if_pos h0,sh _ (by unfold inn;rw [if_pos p,if_neg q]),Option.bind_some,if_pos (by omega),if_pos (by omega)]
    exact ih
  ·rw [if_neg p,if_pos h0,sh _ (by unfold inn;rw [if_neg p]),Option.bind_some,if_pos (by omega),if_pos (by omega)]
   exact ih
theorem rFlows_eq {bs : List S27} {fs : List S66} (h : okCh bs fs = true) {cups : Int} (c0 : 0≤cups) (c1 : cups≤10000) {k : Nat} (hk : 80≤k) : q4_Flows.f k bs fs cups = some (flowsL bs fs cups):=by
 have n2:=(okCh_of h).n2
 have:=rflow_go (okCh_of h) c0 c1 bs.length k 0 [] [] (by omega) (by omega) (FInv.nil bs) (by omega)
 simpa [q4_Flows.f,flowsL] using this
theorem flL_inv {bs : List S27} {fs : List S66} (h : OkCh bs fs) {cups : Int} (c0 : 0≤cups) (c1 : cups≤10000) : ∀ (d : Nat) (i : Int) (xs : List (List Int)) (ys : List Int),0≤i→i + d = bs.length→FInv bs i xs ys→FInv bs bs.length (flL fs cups (bs.drop i.toNat) i xs ys).1 (flL fs cups (bs.drop i.toNat) i xs ys).2
 | 0,i,xs,ys,h0,h1,hI=>by
  rw [List.drop_of_length_le (by omega),show (bs.length : Int) = i by omega];exact hI
 | d + 1,i,xs,ys,h0,h1,hI=>by
  have ii:=inn_in h c0 c1 h0 (show i < (bs.length : Int) by omega) hI
  rw [drop_bas h0 (by omega)]
  have:=flL_inv h c0 c1 d (i + 1) _ _ (by omega) (by omega) (hI.step h h0 (by omega) ii.1 ii.2)
  rw [show (i + 1).toNat = i.toNat + 1 by omega] at this
  exact this
theorem flowsL_inv {bs : List S27} {fs : List S66} (h : okCh bs fs = true) {cups : Int} (c0 : 0≤cups) (c1 : cups≤10000) : FInv bs bs.length (flowsL bs fs cups).1 (flowsL bs fs cups).2:=by
 have:=flL_inv (okCh_of h) c0 c1 bs.length 0 [] [] (by omega) (by omega) (FInv.nil bs)
 simpa [flowsL] using this
theorem sl_go (xs : List (List Int)) (hb : xs.length≤1000) (hl : ∀ l ∈ xs,l.length≤1000) : ∀ (d k : Nat) (i : Int),0≤i→i + d = xs.length→1001 + d < k→q4_SameLists.l0 k xs xs i = some true
 | 0,k,i,h0,h1,hk=>by
  obtain ⟨k,rfl⟩:=ksucc (by omega : 0 < k)
  simp only [q4_SameLists.l0]
  rw [if_neg (by omega)]
 | d + 1,k,i,h0,h1,hk=>by
  obtain ⟨k,rfl⟩:=ksucc (by omega : 0 < k)
  have hm : rd_L3 xs i ∈ xs:=getD_mem ([] : List Int) h0 (by omega)
  have:=hl _ hm
  simp only [q4_SameLists.l0]
  rw [if_pos (by omega),if_pos h0,if_pos (by omega),same_eq (by omega) (by omega),decide_eq_true rfl,Option.bind_some,if_pos rfl,w64 (n:=i + 1) (by omega)]
  exact sl_go xs hb hl d k (i + 1) (by omega) (by omega) (by omega)
theorem sl_refl {xs : List (List Int)} (hb : xs.length≤1000) (hl : ∀ l ∈ xs,l.length≤1000) {k : Nat} (hk : 1001 + xs.length < k) : q4_SameLists.f k xs xs = some true:=by
 unfold q4_SameLists.f
 rw [if_pos rfl]
 exact sl_go xs hb hl xs.length k 0 (by omega) (by omega) hk
theorem chains_pure (bs : List S27) (fs : List S66) (cups : Int) {k : Nat} (hk : 1200≤k) : l4_CastleChains.f k bs fs cups = some true:=by
 obtain ⟨k,rfl⟩ : ∃ m,k = m + 1 + 1:=⟨k - 2,by omega⟩
 unfold l4_CastleChains.f
 rw [brief_eq bs fs (by omega),Option.bind_some]
 cases s : briefB bs fs with
 | false=>rw [if_neg (by decide),known_true];rfl
 | true =>
  obtain ⟨hS,hb,hf⟩:=briefB_iff.1 s
  have hc : ca_Chain.f bs fs = some (if okCh bs fs = true then 0 else 2):=by
   unfold ca_Chain.f
   rw [cChainIs_eq hS,Option.bind_some]
   split<;>rfl
  rw [if_pos rfl,hc,Option.bind_some,rChain_eq hS hb hf (by omega)]
  cases b : okCh bs fs with
  | false =>
   rw [cFlow_bad hS (by rw [b];rintro ⟨h,_⟩;cases h),Option.bind_some,Option.bind_some]
   simp only [Bool.false_eq_true,if_false,l4_CastleChains.j0]
   rw [rChain_eq hS hb hf (by omega),b,Option.bind_some]
   simp [l4_CastleChains.j1,known_true]
  | true =>
   by_cases c : 0≤cups∧cups≤10000
   ·have I:=flowsL_inv b c.1 c.2
    have n2:=(okCh_of b).n2
    have lx:=I.lx
    have ly:=I.ly
    rw [cFlow_eq hS b c.1 c.2 (by omega),Option.bind_some,Option.bind_some]
    simp only [if_true,l4_CastleChains.j0,Bool.false_eq_true,if_false]
    rw [rChain_eq hS hb hf (by omega),b,Option.bind_some]
    simp only [if_true,r_cups,decide_eq_true c,Option.bind_some,Bool.not_true,l4_CastleChains.j1,Bool.false_eq_true,if_false]
    rw [rFlows_eq b c.1 c.2 (by omega),Option.bind_some]
    have hl : ∀ l ∈ (flowsL bs fs cups).1,l.length≤1000:=by
     intro l hl
     obtain ⟨j,hj,rfl⟩:=List.getElem_of_mem hl
     have r:=(I.rows (j : Int) (by omega) (by omega)).1
     have e : rd_L3 (flowsL bs fs cups).1 (j : Int) = (flowsL bs fs cups).1[j]:=by unfold rd_L3;simp [hj]
     have hn:=((okCh_of b).bas (j : Int) (by omega) (by omega)).n2
     rw [e] at r
     unfold nozN at r
     omega
    rw [sl_refl (by omega) hl (by omega),Option.bind_some,same_eq (by omega) (by omega)]
    simp [known_true]
   ·rw [cFlow_bad hS (fun q=>c q.2),Option.bind_some,Option.bind_some]
    simp only [if_true,l4_CastleChains.j0,Bool.false_eq_true,if_false]
    rw [rChain_eq hS hb hf (by omega),b,Option.bind_some]
    simp [r_cups,decide_eq_false c,l4_CastleChains.j1,known_true]
end Go.Proofs.YtnnmnhpeblhiiaaGreatDoor.C

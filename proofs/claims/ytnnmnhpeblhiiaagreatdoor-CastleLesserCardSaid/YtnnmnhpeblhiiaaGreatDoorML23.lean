/- A part of the proof: the walks of the functions that it reaches. TIGHT. -/
import Derived.Test.YtnnmnhpeblhiiaaGreatDoorML22
set_option linter.unusedSimpArgs false
set_option linter.unusedVariables false
namespace Go.Proofs.YtnnmnhpeblhiiaaGreatDoor.C
open Go.RowKit Go.Proofs.YtnnmnhpeblhiiaaGreatDoorW.PrintWords Go.Proofs.YtnnmnhpeblhiiaaGreatDoorW.PrintLast Go.Proofs.YtnnmnhpeblhiiaaGreatDoorW.PrintMore
set_option maxHeartbeats 16000000
set_option maxRecDepth 100000
section
attribute [local go_sem] zwa zq9 zwf zwe
end
theorem short_eq {rows : List S126} {draw : Int} {noz : List S48} {weir spill : Int} : l4_short.f rows draw noz weir spill = some (decide (rows.length≤15∧noz.length≤8)):=by
 unfold l4_short.f
 by_cases h : (rows.length : Int)≤15
 ·rw [if_pos h,show decide (rows.length≤15∧noz.length≤8) = decide ((noz.length : Int)≤8) from by rw [decide_eq_decide];omega]
 ·rw [if_neg h,decide_eq_false (by omega)]
section
variable {rows : List S126} {draw : Int} {noz : List S48} {weir spill : Int}
end
section
variable {rows : List S126} {draw : Int} {noz : List S48} {weir spill : Int}
end
theorem rsh_go {ov : Int} (ho0 : 0≤ov) (ho1 : ov≤10000) : ∀ (l n P Q : List Int) (r : Int) (k : Nat),zmx l n→P.length = Q.length→P.length + l.length≤100→0≤r→r≤10000→l.length < k→
 q4_Shares.l0 k (P ++ l) ov r (Q ++ n) P.length = some (P ++ (shGo l n r).1,ov + (shGo l n r).2)
 | [],[],P,Q,r,k,_,hPQ,hl,hr0,hr1,hk=>by
  obtain ⟨k,rfl⟩:=ksucc (by omega : 0 < k)
  simp only [q4_Shares.l0,shGo,List.append_nil]
  rw [if_neg (by omega),w64 (by omega)]
 | x :: l,y :: n,P,Q,r,k,h,hPQ,hl,hr0,hr1,hk=>by
  obtain ⟨k,rfl⟩:=ksucc (by omega : 0 < k)
  simp only [List.length_cons] at hl hk
  have hx:=h.1
  have m:=mn_in (r:=r) (d:=y - x) hr0 (by omega)
  simp only [q4_Shares.l0]
  have e : rd (Q ++ y :: n) (P.length : Int) = y:=by rw [hPQ];exact zmu Q y n
  rw [if_pos (by rw [List.length_append,List.length_cons];omega),if_pos (by omega),if_pos (by rw [List.length_append,List.length_cons];omega),zmu,e,w64 (n:=y - x) (by omega),w64 (n:=x + _) (by omega),w64 (n:=r - _) (by omega),w64 (n:=(P.length : Int) + 1) (by omega),znx]
  have ih:=rsh_go ho0 ho1 l n (P ++ [x + mn r (y - x)]) (Q ++ [y]) (r - mn r (y - x)) k h.2 (by simp [hPQ]) (by simp;omega) (by omega) (by omega) (by omega)
  have e2 : Q ++ y :: n = Q ++ [y] ++ n:=by simp
  rw [e2,show (P.length : Int) + 1 = ((P ++ [x + mn r (y - x)]).length : Int) by simp,ih]
  simp [shGo]
 | [],_ :: _,_,_,_,_,h,_,_,_,_,_=>h.elim
 | _ :: _,[],_,_,_,_,h,_,_,_,_,_=>h.elim
section
variable {rows : List S126} {draw : Int} {noz : List S48} {weir spill : Int}
theorem rShares_eq (h : OkB rows draw noz weir spill) {cups : Int} (hc0 : 0≤cups) (hc1 : cups≤10000) {k : Nat} (hk : 60≤k) :
 q4_Shares.f k rows draw noz weir spill cups = some (zw7 rows noz weir spill cups,cups - (zw7 rows noz weir spill cups).sum):=by
 have L:=zp9 h hc0
 have n2:=h.n2
 have t0:=tot_in h L.1 L.2.1
 have o0:=zjq h L.1 L.2.1
 have g0:=zpc h (lev rows noz weir spill cups)
 have te : tot rows noz weir spill (lev rows noz weir spill cups) = (gat rows noz (lev rows noz weir spill cups)).sum + over weir spill (lev rows noz weir spill cups):=rfl
 unfold q4_Shares.f
 rw [stands_eq h hc0 (by omega),Option.bind_some,rout_eq h L.1 L.2.1 (by omega),Option.bind_some,rtot_eq h L.1 L.2.1 (by omega),Option.bind_some,w64 (n:=cups - _) (by omega)]
 unfold zw7
 by_cases g : lev rows noz weir spill cups < 40
 ·rw [if_pos g,if_pos g,w64 (n:=_ + 1) (by have:=L.1;omega),rout_eq h (by have:=L.1;omega) (by omega) (by omega),Option.bind_some]
  have hp:=zgq h (show lev rows noz weir spill cups≤lev rows noz weir spill cups + 1 by omega)
  have hr : 0≤cups - tot rows noz weir spill (lev rows noz weir spill cups):=by have:=L.2.2.1;omega
  have f:=rsh_go o0.1 (by omega) (gat rows noz (lev rows noz weir spill cups)) (gat rows noz (lev rows noz weir spill cups + 1)) [] [] (cups - tot rows noz weir spill (lev rows noz weir spill cups)) k hp rfl (by simp [zvb];omega) hr (by omega) (by simp [zvb];omega)
  have s:=(shGo_in hp hr).2.2.2.2
  simp only [List.nil_append,List.length_nil,Int.natCast_zero] at f
  rw [f]
  congr 2
  omega
 ·rw [if_neg g,if_neg g]
  congr 2
  rw [w64 (by omega)]
  omega
end
def absI (x : Int) : Int:=max x (-x)
def alBy (F : Int→List (List Int)) (ht left : Int) : Nat→List (List Int)
 | 0=>[]
 | d + 1=>(if (0≤ht + (2 - (d : Int))∧ht + (2 - (d : Int))≤40)∧absI (2 - (d : Int))≤left then (F (left - absI (2 - (d : Int)))).map ((ht + (2 - (d : Int))) :: ·) else []) ++ alBy F ht left d
def alL : List Int→Int→List (List Int)
 | [],left=>if 0 < left then [] else [[]]
 | ht :: rest,left=>alBy (alL rest) ht left 5
theorem hs_by {F : List Int→Int→List (List Int)} {G : Int→List (List Int)} (pre : List Int) (ht left : Int) (hF : ∀ p l,0≤l→F p l = (G l).map (p ++ ·)) : ∀ d,hsBy F pre ht left d = (alBy G ht left d).map (pre ++ ·)
 | 0=>rfl
 | d + 1=>by
  simp only [hsBy,alBy,List.map_append,hs_by pre ht left hF d]
  congr 1
  rw [zpi]
  by_cases a : 0≤ht + (2 - (d : Int))∧ht + (2 - (d : Int))≤40
  ·rw [decide_eq_true a,if_pos rfl]
   by_cases b : absI (2 - (d : Int))≤left
   ·have ab : (0≤ht + (2 - (d : Int))∧ht + (2 - (d : Int))≤40)∧absI (2 - (d : Int))≤left:=⟨a,b⟩
    rw [if_pos ab]
    unfold absI at b ⊢
    rw [if_pos b,hF _ _ (by omega)]
    simp [List.append_assoc,Function.comp_def]
   ·have nab : ¬ ((0≤ht + (2 - (d : Int))∧ht + (2 - (d : Int))≤40)∧absI (2 - (d : Int))≤left):=fun h=>b h.2
    rw [if_neg nab]
    unfold absI at b
    rw [if_neg b];rfl
  ·have na : ¬ ((0≤ht + (2 - (d : Int))∧ht + (2 - (d : Int))≤40)∧absI (2 - (d : Int))≤left):=fun h=>a h.1
   rw [decide_eq_false a,if_neg (by decide),if_neg na];rfl
theorem hs_eq : ∀ (hts pre : List Int) (left : Int),0≤left→hsOf hts pre left = (alL hts left).map (pre ++ ·)
 | [],pre,left,h=>by
  simp only [hsOf,alL]
  split<;>simp
 | ht :: rest,pre,left,h=>by
  simp only [hsOf,alL]
  exact hs_by pre ht left (fun p l hl=>hs_eq rest p l hl) 5
theorem hs_eq0 (hts : List Int) {left : Int} (h : 0≤left) : hsOf hts [] left = alL hts left:=by
 rw [hs_eq hts [] left h];simp
def chg : List Int→List Int→Int
 | x :: l,y :: m=>absI (x - y) + chg l m
 | _,_=>0
theorem zpl {F : Int→List (List Int)} {ht left : Int} {l : List Int} : ∀ d : Nat,l ∈ alBy F ht left d↔∃ e : Nat,e < d∧(0≤ht + (2 - (e : Int))∧ht + (2 - (e : Int))≤40)∧absI (2 - (e : Int))≤left∧∃ m ∈ F (left - absI (2 - (e : Int))),l = (ht + (2 - (e : Int))) :: m
 | 0=>by simp [alBy]
 | d + 1=>by
  simp only [alBy,List.mem_append,zpl d]
  constructor
  ·rintro (h | ⟨e,he,h⟩)
   ·split at h
    ·rename_i c
     obtain ⟨m,hm,rfl⟩:=List.mem_map.1 h
     exact ⟨d,by omega,c.1,c.2,m,hm,rfl⟩
    ·cases h
   ·exact ⟨e,by omega,h⟩
  ·rintro ⟨e,he,h1,h2,m,hm,rfl⟩
   by_cases c : e = d
   ·subst c
    left
    rw [if_pos ⟨h1,h2⟩]
    exact List.mem_map.2 ⟨m,hm,rfl⟩
   ·exact .inr ⟨e,by omega,h1,h2,m,hm,rfl⟩
def okH : List Int→List Int→Prop
 | x :: l,y :: m=>(0≤x∧x≤40)∧absI (x - y)≤2∧okH l m
 | [],[]=>True
 | _,_=>False
theorem zg8 : ∀ {hts : List Int} {left : Int} {l : List Int},0≤left→(l ∈ alL hts left↔okH l hts∧chg l hts = left)
 | [],left,l,h=>by
  simp only [alL]
  split
  ·constructor
   ·intro h;cases h
   ·rintro ⟨h1,h2⟩
    cases l with
    | nil=>simp only [chg] at h2;omega
    | cons _ _=>exact h1.elim
  ·have : left = 0:=by omega
   subst this
   cases l with
   | nil=>simp [okH,chg]
   | cons _ _=>simp [okH]
 | y :: hts,left,l,h=>by
  simp only [alL,zpl]
  constructor
  ·rintro ⟨e,he,h1,h2,m,hm,rfl⟩
   have ih:=(zg8 (hts:=hts) (by omega)).1 hm
   have ea : y + (2 - (e : Int)) - y = 2 - (e : Int):=by omega
   refine ⟨⟨h1,?_,ih.1⟩,?_⟩
   ·rw [ea];unfold absI;omega
   ·simp only [chg,ea,ih.2];omega
  ·rintro ⟨h1,h2⟩
   cases l with
   | nil=>exact h1.elim
   | cons x l =>
    obtain ⟨a,b,c⟩:=h1
    simp only [chg] at h2
    have cn : 0≤chg l hts:=by
     clear h2 c
     induction l generalizing hts with
     | nil=>cases hts<;>simp [chg]
     | cons u l ih=>cases hts with
      | nil=>simp [chg]
      | cons v hts=>have:=ih (hts:=hts);simp only [chg];unfold absI;omega
    have ex : (2 : Int) - ((2 - (x - y)).toNat : Int) = x - y:=by unfold absI at b;omega
    refine ⟨(2 - (x - y)).toNat,by unfold absI at b;omega,?_,?_,l,?_,?_⟩
    ·rw [ex];omega
    ·rw [ex];omega
    ·rw [ex];exact (zg8 (by omega)).2 ⟨c,by omega⟩
    ·rw [ex];congr 1;omega
theorem zgc : ∀ {l m : List Int},okH l m→l.length = m.length
 | [],[],_=>rfl
 | x :: l,y :: m,h=>by simp [zgc h.2.2]
 | [],_ :: _,h=>h.elim
 | _ :: _,[],h=>h.elim
theorem okH_in : ∀ {l m : List Int},okH l m→∀ z ∈ l,0≤z∧z≤40
 | [],[],_,z,hz=>by cases hz
 | x :: l,y :: m,h,z,hz=>by
  rcases List.mem_cons.1 hz with rfl | hz
  ·exact h.1
  ·exact okH_in h.2.2 z hz
 | [],_ :: _,h,_,_=>h.elim
 | _ :: _,[],h,_,_=>h.elim
theorem far_eq {a b : Int} (ha : -10000≤a∧a≤10000) (hb : -10000≤b∧b≤10000) : q4_far.f a b = some (absI (a - b)):=by
 unfold q4_far.f mx absI
 rw [w64 (by omega),w64 (by omega)]
 congr 1
 split<;>omega
section
variable {rows : List S126} {draw : Int} {noz : List S48} {weir spill : Int}
end
theorem dropI {X : List Int} {i : Int} (h0 : 0≤i) (h1 : i < X.length) : X.drop i.toNat = rd X i :: X.drop (i.toNat + 1):=by
 have hi : i.toNat < X.length:=by omega
 rw [List.drop_eq_getElem_cons hi];simp [rd,hi]
def sufB : List Int→List Int→Bool
 | s :: S,c :: C=>!decide (s < c) && sufB S C
 | _,_=>true
theorem sufGo_eq (S : List Int) : ∀ (C : List Int) (i : Int),0≤i→i + C.length≤S.length→sufGo S C i = some (sufB (S.drop i.toNat) C)
 | [],i,h0,h=>by simp only [sufGo];cases S.drop i.toNat<;>rfl
 | c :: C,i,h0,h=>by
  simp only [List.length_cons] at h
  simp only [sufGo]
  rw [if_pos (by omega),dropI h0 (by omega)]
  simp only [sufB]
  by_cases g : rd S i < c
  ·rw [if_pos g,decide_eq_true g];rfl
  ·rw [if_neg g,decide_eq_false g,sufGo_eq S C (i + 1) (by omega) (by omega),show (i + 1).toNat = i.toNat + 1 by omega];rfl
theorem rsuf_go (S C : List Int) (hl : C.length = S.length) (hb : S.length≤1000) : ∀ (d k : Nat) (i : Int),0≤i→i + d = S.length→d < k→q4_Suffices.l0 k C S i = some (sufB (S.drop i.toNat) (C.drop i.toNat))
 | 0,k,i,h0,h1,hk=>by
  obtain ⟨k,rfl⟩:=ksucc (by omega : 0 < k)
  simp only [q4_Suffices.l0]
  rw [if_neg (by omega),List.drop_of_length_le (by omega : S.length≤i.toNat)]
  rfl
 | d + 1,k,i,h0,h1,hk=>by
  obtain ⟨k,rfl⟩:=ksucc (by omega : 0 < k)
  simp only [q4_Suffices.l0]
  rw [if_pos (by omega),if_pos h0,if_pos (by omega),dropI h0 (by omega),dropI (X:=C) h0 (by omega)]
  simp only [sufB]
  by_cases g : rd S i < rd C i
  ·rw [if_pos g,decide_eq_true g];rfl
  ·rw [if_neg g,decide_eq_false g,w64 (n:=i + 1) (by omega),rsuf_go S C hl hb d k (i + 1) (by omega) (by omega) (by omega),show (i + 1).toNat = i.toNat + 1 by omega];rfl
section
variable {rows : List S126} {draw : Int} {noz : List S48} {weir spill : Int}
def sufL (rows : List S126) (noz : List S48) (weir spill cups : Int) (claims l : List Int) : Bool:=sufB (zw7 rows (setH noz l) weir spill cups) claims
theorem suf_eq (h : OkB rows draw noz weir spill) {l claims : List Int} {cups : Int} (hl : l.length = noz.length) (hz : ∀ x ∈ l,0≤x∧x≤40) (hc0 : 0≤cups) (hc1 : cups≤10000) {k : Nat} (hk : 20≤k) (hcl : claims.length = noz.length) :
 suffice.f k rows draw noz weir spill cups claims l = some (sufL rows noz weir spill cups claims l):=by
 rw [zmm h hl hz hc0 hc1 hk,sufGo_eq _ claims 0 (by omega) (by rw [(zxs (zb0 h hl hz) hc0).2,zvx hl];omega)]
 rfl
theorem at_go (rows : List S126) (draw weir spill : Int) : ∀ (l Q : List Int) (z P : List S48) (k : Nat),l.length = z.length→Q.length = P.length→P.length + z.length≤1000→z.length < k→
 q4_At.l0 k (Q ++ l) P.length rows draw (P ++ z) weir spill = some (draw,P ++ setH z l,weir,spill)
 | [],Q,[],P,k,_,hQ,hl,hk=>by
  obtain ⟨k,rfl⟩:=ksucc (by omega : 0 < k)
  simp only [q4_At.l0,List.append_nil,setH,List.zipWith_nil_left]
  rw [if_neg (by omega)]
 | x :: l,Q,y :: z,P,k,hlz,hQ,hl,hk=>by
  simp only [List.length_cons] at hl hk hlz
  obtain ⟨k,rfl⟩:=ksucc (by omega : 0 < k)
  simp only [q4_At.l0]
  have e : rd (Q ++ x :: l) (P.length : Int) = x:=by rw [← hQ];exact zmu Q x l
  rw [if_pos (by rw [List.length_append,List.length_cons];omega),if_pos (by omega),if_pos (by rw [List.length_append,List.length_cons];omega),w64 (by omega),rdz_app,e,znx]
  have ih:=at_go rows draw weir spill l (Q ++ [x]) z (P ++ [⟨y.f0,x⟩]) k (by omega) (by simp [hQ]) (by simp;omega) (by omega)
  have e2 : Q ++ x :: l = Q ++ [x] ++ l:=by simp
  rw [e2,show (P.length : Int) + 1 = ((P ++ [(⟨y.f0,x⟩ : S48)]).length : Int) by simp,ih]
  simp [setH]
 | [],_,_ :: _,_,_,h,_,_,_=>by simp at h
 | _ :: _,_,[],_,_,h,_,_,_=>by simp at h
theorem at_eq {l : List Int} (hl : l.length = noz.length) (hn : noz.length≤1000) {k : Nat} (hk : noz.length < k) : q4_At.f k rows draw noz weir spill l = some (draw,setH noz l,weir,spill):=by
 unfold q4_At.f
 rw [if_pos (by simp;omega)]
 exact at_go rows draw weir spill l [] noz [] k hl rfl (by simpa using hn) hk
theorem rsuf_eq (h : OkB rows draw noz weir spill) {l claims : List Int} {cups : Int} (hl : l.length = noz.length) (hz : ∀ x ∈ l,0≤x∧x≤40) (hc0 : 0≤cups) (hc1 : cups≤10000) {k : Nat} (hk : 100≤k) (hcl : claims.length = noz.length) :
 q4_Suffices.f k rows draw noz weir spill l claims cups = some (sufL rows noz weir spill cups claims l):=by
 have n2:=h.n2
 have h2:=zb0 h hl hz
 have S:=zxs h2 hc0
 unfold q4_Suffices.f
 rw [at_eq hl (by omega) (by omega),Option.bind_some]
 simp only
 rw [rShares_eq h2 hc0 hc1 (by omega),Option.bind_some]
 have:=rsuf_go (zw7 rows (setH noz l) weir spill cups) claims (by rw [S.2,zvx hl,hcl]) (by rw [S.2,zvx hl];omega) (zw7 rows (setH noz l) weir spill cups).length k 0 (by omega) (by omega) (by rw [S.2,zvx hl];omega)
 simpa [sufL] using this
def okK (claims : List Int) : Bool:=claims.all fun c=>decide (0≤c∧c≤10000)
theorem claims_go (C : List Int) (hC : C.length≤1000) (hn : noz.length≤1000) : ∀ (d k : Nat) (i : Int),0≤i→i + d = C.length→d < k→
 q4_Claims.l0 k C i rows draw noz weir spill = some (okK (C.drop i.toNat) && decide (C.length = noz.length))
 | 0,k,i,h0,h1,hk=>by
  obtain ⟨k,rfl⟩:=ksucc (by omega : 0 < k)
  simp only [q4_Claims.l0]
  rw [if_neg (by omega),List.drop_of_length_le (by omega)]
  congr 1
  simp only [okK,List.all_nil,Bool.true_and]
  by_cases e : C.length = noz.length
  ·simp [e]
  ·rw [decide_eq_false e,beq_eq_false_iff_ne];omega
 | d + 1,k,i,h0,h1,hk=>by
  obtain ⟨k,rfl⟩:=ksucc (by omega : 0 < k)
  simp only [q4_Claims.l0]
  rw [if_pos (by omega),if_pos h0,r_cups,Option.bind_some,w64 (n:=i + 1) (by omega),dropI h0 (by omega)]
  by_cases c : 0≤rd C i∧rd C i≤10000
  ·rw [decide_eq_true c,if_pos rfl,claims_go C hC hn d k (i + 1) (by omega) (by omega) (by omega),show (i + 1).toNat = i.toNat + 1 by omega]
   simp [okK,c]
  ·rw [decide_eq_false c,if_neg (by decide)]
   simp only [okK,List.all_cons,decide_eq_false c,Bool.false_and]
theorem claims_eq {C : List Int} (hC : C.length≤1000) (hn : noz.length≤1000) {k : Nat} (hk : C.length < k) : q4_Claims.f k rows draw noz weir spill C = some (okK C && decide (C.length = noz.length)):=by
 unfold q4_Claims.f
 have:=claims_go (rows:=rows) (draw:=draw) (noz:=noz) (weir:=weir) (spill:=spill) C hC hn C.length k 0 (by omega) (by omega) hk
 simpa using this
theorem cfm_eq (C : List Int) : cf_Mends.f C = some (!okK C):=by
 have : ∀ x : Int,ca_Mends_1.f x = some (!decide (0≤x∧x≤10000)):=by
  intro x;unfold ca_Mends_1.f;rw [c_flow];rfl
 unfold cf_Mends.f
 rw [zke this]
 simp only [okK,List.all_eq_not_any_not,Bool.not_not]
def mnd (q : List Int→Bool) (H : Int→List (List Int)) : Nat→Int→Option (List Int × Int)
 | 0,_=>none
 | d + 1,c=>match (H c).find? q with | some l=>some (l,c) | none=>mnd q H d (c + 1)
theorem zgu {q' : List Int→Option Bool} {q : List Int→Bool} : ∀ {hs : List (List Int)},(∀ y ∈ hs,q' y = some (q y))→zx3 q' hs = some (hs.find? q)
 | [],_=>rfl
 | y :: hs,h=>by
  rw [zx3,h y (by simp),Option.bind_some,List.find?_cons]
  cases q y with
  | true=>rfl
  | false=>exact zgu fun z hz=>h z (by simp [hz])
def mndR : Option (List Int × Int)→List Int × Int × Int
 | some (l,c)=>(l,c,0)
 | none=>([],0,5)
theorem zm2 {q' : List Int→Option Bool} {q : List Int→Bool} {H' H : Int→List (List Int)} (hH : ∀ c,0≤c→H' c = H c) (h : ∀ c,0≤c→∀ y ∈ H c,q' y = some (q y)) : ∀ (d : Nat) (c : Int),0≤c→zko q' H' d c = some (mndR (mnd q H d c))
 | 0,_,_=>rfl
 | d + 1,c,hc=>by
  simp only [zko,mnd]
  rw [hH c hc,zgu (h c hc),Option.bind_some]
  cases (H c).find? q with
  | some l=>rfl
  | none=>exact zm2 hH h d (c + 1) (by omega)
theorem mnd_mem {q : List Int→Bool} {H : Int→List (List Int)} : ∀ {d : Nat} {c : Int} {l : List Int} {e : Int},mnd q H d c = some (l,e)→l ∈ H e∧q l = true∧c≤e∧e < c + d
 | 0,c,l,e,h=>by cases h
 | d + 1,c,l,e,h=>by
  simp only [mnd] at h
  split at h
  ·rename_i x hx
   simp only [Option.some.injEq,Prod.mk.injEq] at h
   obtain ⟨rfl,rfl⟩:=h
   exact ⟨List.mem_of_find?_eq_some hx,List.find?_some hx,by omega,by omega⟩
  ·have:=mnd_mem h
   exact ⟨this.1,this.2.1,by omega,by omega⟩
end
section
variable {rows : List S126} {draw : Int} {noz : List S48} {weir spill : Int}
theorem moved_go2 {l : List Int} (hn : noz.length≤100) (hl : l.length = noz.length) (hz : ∀ z ∈ noz,0≤z.f1∧z.f1≤40) : ∀ (d k : Nat) (i acc : Int),0≤i→i + d = l.length→d < k→okH (l.drop i.toNat) ((noz.drop i.toNat).map (·.f1))→0≤acc→acc≤2 * i→
 q4_Moved.l0 k l acc i rows draw noz weir spill = some (acc + chg (l.drop i.toNat) ((noz.drop i.toNat).map (·.f1))):=by
 intro d
 induction d with
 | zero =>
  intro k i acc h0 h1 hk ho a0 a1
  obtain ⟨k,rfl⟩:=ksucc (by omega : 0 < k)
  simp only [q4_Moved.l0]
  rw [if_neg (by omega),List.drop_of_length_le (by omega : l.length≤i.toNat)]
  simp [chg]
 | succ d ih =>
  intro k i acc h0 h1 hk ho a0 a1
  obtain ⟨k,rfl⟩:=ksucc (by omega : 0 < k)
  have hi : i.toNat < noz.length:=by omega
  have e : zql noz i = noz[i.toNat]:=by simp [zql,hi]
  rw [dropI h0 (by omega),List.drop_eq_getElem_cons hi,← e,List.map_cons] at ho ⊢
  have z:=hz _ (List.getElem_mem hi)
  rw [← e] at z
  obtain ⟨o1,o2,o3⟩:=ho
  simp only [q4_Moved.l0,chg]
  have o4 : 0≤absI (rd l i - (zql noz i).f1):=by unfold absI;omega
  rw [if_pos (by omega),if_pos h0,if_pos (by omega),far_eq (by omega) (by omega),Option.bind_some,w64 (by omega),w64 (by omega),ih k (i + 1) _ (by omega) (by omega) (by omega) (by rw [show (i + 1).toNat = i.toNat + 1 by omega];exact o3) (by omega) (by omega),show (i + 1).toNat = i.toNat + 1 by omega]
  congr 1
  omega
theorem zpw (h : OkB rows draw noz weir spill) {l : List Int} (ho : okH l (noz.map (·.f1))) {k : Nat} (hk : 100≤k) : q4_Moved.f k rows draw noz weir spill l = some (chg l (noz.map (·.f1))):=by
 have n2:=h.n2
 have hl:=zgc ho
 rw [List.length_map] at hl
 unfold q4_Moved.f
 have:=moved_go2 (rows:=rows) (draw:=draw) (weir:=weir) (spill:=spill) (l:=l) (noz:=noz) (by omega) hl (fun z hz=>(h.nn z hz).2.2) l.length k 0 0 (by omega) (by omega) (by omega) (by simpa using ho) (by omega) (by omega)
 simpa using this
def best (rows : List S126) (noz : List S48) (weir spill : Int) (claims : List Int) (cups : Int) : Option (List Int × Int):=mnd (sufL rows noz weir spill cups claims) (alL (noz.map (·.f1))) (2 * noz.length + 1) 0
theorem cMends_eq (h : OkB rows draw noz weir spill) {claims : List Int} {cups : Int} (hc0 : 0≤cups) (hc1 : cups≤10000) (hcl : claims.length = noz.length) (hK : okK claims = true) :
 ca_Mends.f rows draw noz weir spill claims cups = some (mndR (best rows noz weir spill claims cups)):=by
 have r2:=h.r2
 unfold ca_Mends.f ca_MendsK.f
 rw [if_pos (by omega),zjx (by omega),zgd.2 h,Option.bind_some,if_pos rfl,if_pos hcl,cfm_eq,hK,Option.bind_some]
 simp only [Bool.not_true,if_true]
 rw [c_flow,decide_eq_true ⟨hc0,hc1⟩,Option.bind_some,if_pos rfl]
 refine zm2 (fun c hc=>hs_eq0 _ hc) (fun c hc y hy=>?_) _ 0 (by omega)
 have o:=((zg8 hc).1 hy).1
 exact suf_eq h (by rw [zgc o,List.length_map]) (okH_in o) hc0 hc1 (by decide) hcl
end
def leL : List Int→List Int→Prop
 | x :: l,y :: m=>x≤y∧leL l m
 | [],[]=>True
 | _,_=>False
theorem leL.refl : ∀ l : List Int,leL l l
 | []=>trivial
 | x :: l=>⟨Int.le_refl x,leL.refl l⟩
theorem leL.trans : ∀ {a b c : List Int},leL a b→leL b c→leL a c
 | [],[],[],_,_=>trivial
 | x :: a,y :: b,z :: c,h,k=>⟨Int.le_trans h.1 k.1,leL.trans h.2 k.2⟩
 | [],_ :: _,_,h,_=>h.elim
 | _ :: _,[],_,h,_=>h.elim
 | [],[],_ :: _,_,k=>k.elim
 | _ :: _,_ :: _,[],_,k=>k.elim
section
variable {rows : List S126} {draw : Int} {noz : List S48} {weir spill : Int}
end
def okHb : List Int→List Int→Bool
 | x :: l,y :: m=>decide (0≤x∧x≤40) && (decide (absI (x - y)≤2) && okHb l m)
 | [],[]=>true
 | _,_=>false
theorem zn5 : ∀ {l m : List Int},okHb l m = true↔okH l m
 | [],[]=>by simp [okHb,okH]
 | x :: l,y :: m=>by simp only [okHb,okH,Bool.and_eq_true,decide_eq_true_eq,zn5 (l:=l) (m:=m)]
 | [],_ :: _=>by simp [okHb,okH]
 | _ :: _,[]=>by simp [okHb,okH]
section
variable {rows : List S126} {draw : Int} {noz : List S48} {weir spill : Int}
theorem heights_go {l : List Int} (hn : noz.length≤100) (hl : l.length≤100) (hz : ∀ z ∈ noz,0≤z.f1∧z.f1≤40) : ∀ (d k : Nat) (i : Int),0≤i→i≤l.length→i≤noz.length→(l.length : Int) - i≤d→2 * d + 1 < k→
 q4_Heights.l0 k l i rows draw noz weir spill = some (okHb (l.drop i.toNat) ((noz.drop i.toNat).map (·.f1))):=by
 intro d
 have fin : ∀ (k : Nat) (i : Int),0 < k→0≤i→i≤l.length→i≤noz.length→(i = l.length∨i = noz.length)→q4_Heights.j1 k l i false rows draw noz weir spill = some (okHb (l.drop i.toNat) ((noz.drop i.toNat).map (·.f1))):=by
  intro k i hk h0 h1 h2 h3
  obtain ⟨k,rfl⟩:=ksucc hk
  simp only [q4_Heights.j1]
  rw [if_neg (by decide)]
  congr 1
  by_cases a : i = l.length
  ·rw [List.drop_of_length_le (by omega : l.length≤i.toNat)]
   by_cases b : i = noz.length
   ·rw [List.drop_of_length_le (by omega)]
    have : (l.length : Int) = noz.length:=by omega
    simp [okHb,this]
   ·have hi : i.toNat < noz.length:=by omega
    rw [List.drop_eq_getElem_cons hi,List.map_cons]
    have : (l.length : Int) ≠ noz.length:=by omega
    simp only [okHb,beq_eq_false_iff_ne]
    exact this
  ·have b : i = noz.length:=by omega
   rw [List.drop_of_length_le (by omega : noz.length≤i.toNat),dropI h0 (by omega)]
   have : (l.length : Int) ≠ noz.length:=by omega
   simp only [List.map_nil,okHb,beq_eq_false_iff_ne]
   exact this
 induction d with
 | zero =>
  intro k i h0 h1 h2 h3 hk
  obtain ⟨k,rfl⟩:=ksucc (by omega : 0 < k)
  simp only [q4_Heights.l0]
  rw [if_neg (by omega)]
  exact fin k i (by omega) h0 h1 h2 (by omega)
 | succ d ih =>
  intro k i h0 h1 h2 h3 hk
  obtain ⟨k,rfl⟩ : ∃ m,k = m + 1 + 1:=⟨k - 2,by omega⟩
  simp only [q4_Heights.l0]
  by_cases a : i < l.length
  case neg=>rw [if_neg a];exact fin (k + 1) i (by omega) h0 h1 h2 (by omega)
  rw [if_pos a]
  by_cases b : i < noz.length
  case neg=>rw [decide_eq_false b];exact fin (k + 1) i (by omega) h0 h1 h2 (by omega)
  have hi : i.toNat < noz.length:=by omega
  have e : zql noz i = noz[i.toNat]:=by simp [zql,hi]
  have z:=hz _ (List.getElem_mem hi)
  rw [← e] at z
  rw [decide_eq_true b,dropI h0 a,List.drop_eq_getElem_cons hi,← e,List.map_cons]
  simp only [q4_Heights.j1,okHb,if_true]
  rw [if_pos h0,if_pos a,zn2,Option.bind_some]
  by_cases c : 0≤rd l i∧rd l i≤40
  case neg=>rw [decide_eq_false c,if_neg (by decide)];rfl
  rw [decide_eq_true c,if_pos rfl,if_pos b,far_eq (by omega) (by omega),Option.bind_some]
  by_cases f : absI (rd l i - (zql noz i).f1)≤2
  ·rw [if_neg (by omega),decide_eq_true f,w64 (by omega),ih k (i + 1) (by omega) (by omega) (by omega) (by omega) (by omega),show (i + 1).toNat = i.toNat + 1 by omega];rfl
  ·rw [if_pos (by omega),decide_eq_false f];rfl
theorem zm9 (h : OkB rows draw noz weir spill) {l : List Int} (hl : l.length≤100) {k : Nat} (hk : 300≤k) : q4_Heights.f k rows draw noz weir spill l = some (okHb l (noz.map (·.f1))):=by
 have n2:=h.n2
 unfold q4_Heights.f
 have:=heights_go (rows:=rows) (draw:=draw) (weir:=weir) (spill:=spill) (l:=l) (noz:=noz) (by omega) hl (fun z hz=>(h.nn z hz).2.2) 100 k 0 (by omega) (by omega) (by omega) (by omega) (by omega)
 simpa using this
end
def lexL : List Int→List Int→Bool
 | x :: a,y :: b=>if x = y then lexL a b else decide (x < y)
 | [],[]=>false
 | [],_ :: _=>true
 | _ :: _,[]=>false
theorem lexL_irr : ∀ l : List Int,lexL l l = false
 | []=>rfl
 | x :: l=>by simp [lexL,lexL_irr l]
theorem before_go (a b : List Int) (ha : a.length≤100) (hl : a.length = b.length) : ∀ (d k : Nat) (i : Int),0≤i→i + d = a.length→2 * d + 1 < k→q4_Before.l0 k a b i = some (lexL (a.drop i.toNat) (b.drop i.toNat)):=by
 intro d
 induction d with
 | zero =>
  intro k i h0 h1 hk
  obtain ⟨k,rfl⟩ : ∃ m,k = m + 1 + 1:=⟨k - 2,by omega⟩
  simp only [q4_Before.l0,q4_Before.j1]
  rw [if_neg (by omega),if_neg (by decide),List.drop_of_length_le (by omega : a.length≤i.toNat),List.drop_of_length_le (by omega : b.length≤i.toNat),decide_eq_false (by omega)]
  rfl
 | succ d ih =>
  intro k i h0 h1 hk
  obtain ⟨k,rfl⟩ : ∃ m,k = m + 1 + 1:=⟨k - 2,by omega⟩
  simp only [q4_Before.l0]
  rw [if_pos (by omega),decide_eq_true (by omega),dropI h0 (by omega),dropI (X:=b) h0 (by omega)]
  simp only [q4_Before.j1,lexL,if_true]
  rw [if_pos h0,if_pos (by omega),if_pos (by omega)]
  by_cases e : rd a i = rd b i
  ·rw [if_pos e,if_pos e,w64 (by omega),ih k (i + 1) (by omega) (by omega) (by omega),show (i + 1).toNat = i.toNat + 1 by omega]
  ·rw [if_neg e,if_neg e]
theorem before_eq {a b : List Int} (ha : a.length≤100) (hl : a.length = b.length) {k : Nat} (hk : 300≤k) : q4_Before.f k a b = some (lexL a b):=by
 unfold q4_Before.f
 have:=before_go a b ha hl a.length k 0 (by omega) (by omega) (by omega)
 simpa using this
def ordL (xs : List (List Int)) : Prop:=xs.Pairwise fun a b=>lexL b a = false
theorem ordBy {F : Int→List (List Int)} (hF : ∀ l,ordL (F l)) (ht left : Int) : ∀ d,ordL (alBy F ht left d)
 | 0=>List.Pairwise.nil
 | d + 1=>by
  unfold ordL
  simp only [alBy]
  rw [List.pairwise_append]
  refine ⟨?_,ordBy hF ht left d,?_⟩
  ·split
   ·rw [List.pairwise_map]
    refine (hF _).imp ?_
    intro a b h
    simpa [lexL] using h
   ·exact List.Pairwise.nil
  ·intro a ha b hb
   split at ha
   ·obtain ⟨m,_,rfl⟩:=List.mem_map.1 ha
    obtain ⟨e,he,_,_,m2,_,rfl⟩:=(zpl d).1 hb
    simp only [lexL]
    rw [if_neg (by omega),decide_eq_false (by omega)]
   ·cases ha
theorem ord_all : ∀ (hts : List Int) (left : Int),ordL (alL hts left)
 | [],left=>by
  unfold ordL
  simp only [alL]
  split
  ·exact List.Pairwise.nil
  ·exact List.pairwise_singleton _ _
 | ht :: rest,left=>ordBy (fun l=>ord_all rest l) ht left 5
theorem zn7 {q : List Int→Bool} {H : Int→List (List Int)} : ∀ {d : Nat} {c : Int},mnd q H d c = none→∀ e,c≤e→e < c + d→∀ y ∈ H e,q y = false
 | 0,c,_,e,h1,h2,_,_=>by omega
 | d + 1,c,h,e,h1,h2,y,hy=>by
  simp only [mnd] at h
  split at h
  ·cases h
  ·rename_i hn
   by_cases g : e = c
   ·subst g
    have:=List.find?_eq_none.1 hn y hy
    simpa using this
   ·exact zn7 h e (by omega) (by omega) y hy
theorem zgj {q : List Int→Bool} {H : Int→List (List Int)} : ∀ {d : Nat} {c : Int} {l : List Int} {e : Int},mnd q H d c = some (l,e)→(H e).find? q = some l∧∀ e',c≤e'→e' < e→∀ y ∈ H e',q y = false
 | 0,c,l,e,h=>by cases h
 | d + 1,c,l,e,h=>by
  simp only [mnd] at h
  split at h
  ·rename_i x hx
   simp only [Option.some.injEq,Prod.mk.injEq] at h
   obtain ⟨rfl,rfl⟩:=h
   exact ⟨hx,fun e' h1 h2=>by omega⟩
  ·rename_i hn
   have ih:=zgj h
   refine ⟨ih.1,fun e' h1 h2 y hy=>?_⟩
   by_cases g : e' = c
   ·subst g
    have:=List.find?_eq_none.1 hn y hy
    simpa using this
   ·exact ih.2 e' (by omega) h2 y hy
theorem first_ord {q : List Int→Bool} {xs : List (List Int)} {l y : List Int} (ho : ordL xs) (hf : xs.find? q = some l) (hy : y ∈ xs) (hq : q y = true) : lexL y l = false:=by
 obtain ⟨_,P,Q,rfl,hP⟩:=List.find?_eq_some_iff_append.1 hf
 rcases List.mem_append.1 hy with h | h
 ·have:=hP y h;simp [hq] at this
 ·rcases List.mem_cons.1 h with rfl | h
  ·exact lexL_irr _
  ·exact List.rel_of_pairwise_cons (List.pairwise_append.1 ho).2.1 h
theorem chg_in : ∀ {l m : List Int},okH l m→0≤chg l m∧chg l m≤2 * m.length
 | [],[],_=>by simp [chg]
 | x :: l,y :: m,h=>by
  have:=chg_in h.2.2
  have a:=h.2.1
  simp only [chg,List.length_cons]
  unfold absI at a ⊢
  omega
 | [],_ :: _,h=>h.elim
 | _ :: _,[],h=>h.elim
theorem zpn : ∀ {S C C' : List Int},leL C' C→sufB S C = true→sufB S C' = true
 | [],_,_,_,_=>by simp [sufB]
 | s :: S,[],[],_,_=>rfl
 | s :: S,c :: C,c' :: C',h,hs=>by
  simp only [sufB,Bool.and_eq_true,Bool.not_eq_true',decide_eq_false_iff_not] at hs ⊢
  exact ⟨by have:=h.1;omega,zpn h.2 hs.2⟩
 | _ :: _,[],_ :: _,h,_=>h.elim
 | _ :: _,_ :: _,[],h,_=>h.elim
def fewL (less : Int) (claims : List Int) : List Int:=claims.map fun c=>mx 0 (c - less)
theorem few_in {less : Int} (h0 : 0≤less) : ∀ {C : List Int},okK C = true→okK (fewL less C) = true∧leL (fewL less C) C
 | [],_=>⟨rfl,trivial⟩
 | c :: C,h=>by
  simp only [okK,List.all_cons,Bool.and_eq_true,decide_eq_true_eq] at h
  have ih:=few_in h0 (C:=C) (by simpa [okK] using h.2)
  have a : 0≤mx 0 (c - less)∧mx 0 (c - less)≤10000∧mx 0 (c - less)≤c:=by unfold mx;split<;>omega
  refine ⟨?_,a.2.2,ih.2⟩
  simp only [fewL,List.map_cons,okK,List.all_cons,Bool.and_eq_true,decide_eq_true_eq]
  exact ⟨⟨a.1,a.2.1⟩,by simpa [okK,fewL] using ih.1⟩
section
variable {rows : List S126} {draw : Int} {noz : List S48} {weir spill : Int}
theorem less_go {claims l other S : List Int} {cups less e : Int} {is : Bool} {r : Option Bool} {N0 : Nat} (hl : S.length = claims.length) (hb : claims.length≤100) (hK : okK claims = true) (hs : 0≤less∧less≤10000) (hsuf : sufB S claims = true)
 (hr : ∀ k,N0≤k→l4_CastleLesser.l0 (k + 1) claims cups other less l e is S (fewL less claims) (claims.length : Int) rows draw noz weir spill = r) :
 ∀ (d k : Nat) (i : Int),0≤i→i + d = claims.length→N0 + d < k→sufB (S.drop i.toNat) (claims.drop i.toNat) = true→
  l4_CastleLesser.l0 k claims cups other less l e is S ((fewL less claims).take i.toNat) i rows draw noz weir spill = r:=by
 intro d
 induction d with
 | zero =>
  intro k i h0 h1 hk hq
  obtain ⟨k,rfl⟩:=ksucc (by omega : 0 < k)
  obtain rfl : i = claims.length:=by omega
  have:=hr k (by omega)
  rw [List.take_of_length_le (by simp [fewL])]
  exact this
 | succ d ih =>
  intro k i h0 h1 hk hq
  obtain ⟨k,rfl⟩:=ksucc (by omega : 0 < k)
  have hi : i.toNat < claims.length:=by omega
  have cm : 0≤rd claims i∧rd claims i≤10000:=by
   have e1 : rd claims i = claims[i.toNat]:=by simp [rd,hi]
   rw [e1]
   have:=List.all_eq_true.1 hK _ (List.getElem_mem hi)
   simpa using this
  rw [dropI h0 (by omega),dropI (X:=claims) h0 (by omega)] at hq
  simp only [sufB,Bool.and_eq_true,Bool.not_eq_true',decide_eq_false_iff_not] at hq
  simp only [l4_CastleLesser.l0]
  have fl : (fewL less claims).length = claims.length:=by simp [fewL]
  rw [if_pos (by omega),if_pos h0,if_pos (by omega),if_neg hq.1,if_pos (by rw [List.length_take];omega),w64 (by omega),w64 (by omega)]
  have hf : i.toNat < (fewL less claims).length:=by omega
  have e2 : (fewL less claims)[i.toNat] = mx 0 (rd claims i - less):=by simp [fewL,rd,hi]
  have:=ih k (i + 1) (by omega) (by omega) (by omega) (by rw [show (i + 1).toNat = i.toNat + 1 by omega];exact hq.2)
  rw [show (i + 1).toNat = i.toNat + 1 by omega,List.take_succ_eq_append_getElem hf,e2] at this
  exact this
end
theorem lesser_pure (rows : List S126) (draw : Int) (noz : List S48) (weir spill : Int) (claims : List Int) (cups : Int) (other : List Int) (less : Int) {k : Nat} (hk : 600≤k) : l4_CastleLesser.f k rows draw noz weir spill claims cups other less = some true:=by
 obtain ⟨k,rfl⟩ : ∃ m,k = m + 1 + 1 + 1:=⟨k - 3,by omega⟩
 have nope : l4_CastleLesser.j0 (k + 1 + 1 + 1) claims cups other less true rows draw noz weir spill = some true:=by
  simp only [l4_CastleLesser.j0]
  rw [if_pos trivial,zjw];rfl
 unfold l4_CastleLesser.f
 rw [short_eq,Option.bind_some]
 by_cases s : rows.length≤15∧noz.length≤8
 case neg=>rw [decide_eq_false s,if_neg (by decide),nope]
 rw [decide_eq_true s,if_pos rfl]
 by_cases l8 : (claims.length : Int) > 8
 ·rw [if_pos l8,nope]
 by_cases o8 : (other.length : Int) > 8
 ·rw [if_neg l8,if_pos o8,nope]
 rw [if_neg l8,if_neg o8,refBasin_eq (by omega) (by omega) (by omega),Option.bind_some]
 cases b : okB rows draw noz weir spill with
 | false=>rw [if_neg (by decide),nope]
 | true =>
 have h:=zgd.1 b
 have n2:=h.n2
 rw [if_pos rfl,claims_eq (by omega) (by omega) (by omega),Option.bind_some]
 cases f : (okK claims && decide (claims.length = noz.length)) with
 | false=>rw [if_neg (by decide),nope]
 | true =>
 rw [Bool.and_eq_true,decide_eq_true_eq] at f
 obtain ⟨hK,hcl⟩:=f
 rw [if_pos rfl,r_cups,Option.bind_some]
 by_cases c : 0≤cups∧cups≤10000
 case neg=>rw [decide_eq_false c,if_neg (by decide),nope]
 rw [decide_eq_true c,if_pos rfl,zm9 h (by omega) (by omega),Option.bind_some]
 cases oh : okHb other (noz.map (·.f1)) with
 | false=>rw [if_neg (by decide),nope]
 | true =>
 have oo:=zn5.1 oh
 have ol:=zgc oo
 rw [List.length_map] at ol
 have og:=chg_in oo
 rw [List.length_map] at og
 rw [if_pos rfl,r_cups,Option.bind_some]
 by_cases ls : 0≤less∧less≤10000
 case neg=>rw [decide_eq_false ls];exact nope
 rw [decide_eq_true ls]
 have om : other ∈ alL (noz.map (·.f1)) (chg other (noz.map (·.f1))):=(zg8 og.1).2 ⟨oo,rfl⟩
 simp only [l4_CastleLesser.j0,Bool.not_true,Bool.false_eq_true,if_false]
 rw [cMends_eq h c.1 c.2 hcl hK,Option.bind_some,rsuf_eq h ol (okH_in oo) c.1 c.2 (by omega) hcl,Option.bind_some]
 cases m : best rows noz weir spill claims cups with
 | none =>
  have no:=zn7 m _ (by omega) (by omega) _ om
  rw [no]
  simp [mndR,zjw]
 | some x =>
  obtain ⟨l,e⟩:=x
  have mm:=mnd_mem m
  have ml:=zgj m
  have o:=(zg8 (by omega)).1 mm.1
  have lo:=zgc o.1
  rw [List.length_map] at lo
  have lz:=okH_in o.1
  have h2:=zb0 h lo lz
  have S:=zxs h2 c.1
  rw [zvx lo] at S
  simp only [mndR,if_true]
  rw [zm9 h (by omega) (by omega),zn5.2 o.1,Option.bind_some,if_pos rfl,zpw h o.1 (by omega),o.2,Option.bind_some]
  have ne : (e != e) = false:=by simp
  rw [ne]
  simp only [l4_CastleLesser.j1,Bool.false_eq_true,if_false]
  rw [at_eq lo (by omega) (by omega),Option.bind_some]
  simp only
  rw [cShares_eq (by omega) (by omega),if_pos ⟨zgd.2 h2,c⟩,Option.bind_some]
  simp only [if_true]
  have nl : (((zw7 rows (setH noz l) weir spill cups).length : Int) != (claims.length : Int)) = false:=by simp;omega
  rw [nl]
  obtain ⟨k,rfl⟩ : ∃ m,k = m + 1:=⟨k - 1,by omega⟩
  simp only [l4_CastleLesser.j2,Bool.false_eq_true,if_false]
  have few:=few_in ls.1 hK
  have fl : (fewL less claims).length = noz.length:=by simp [fewL,hcl]
  have j4 : ∀ k,l4_CastleLesser.j4 (k + 1) cups e (fewL less claims) false rows draw noz weir spill = some true:=by
   intro k
   simp only [l4_CastleLesser.j4,Bool.false_eq_true,if_false]
   rw [cMends_eq h c.1 c.2 fl few.1,Option.bind_some]
   have ql : sufL rows noz weir spill cups (fewL less claims) l = true:=zpn few.2 mm.2.1
   cases m2 : best rows noz weir spill (fewL less claims) cups with
   | none=>exact absurd (zn7 m2 e (by omega) (by omega) l mm.1) (by rw [ql];decide)
   | some x2 =>
    obtain ⟨l2,e2⟩:=x2
    have le : e2≤e:=by
     apply Classical.byContradiction
     intro g
     exact absurd ((zgj m2).2 e (by omega) (by omega) l mm.1) (by rw [ql];decide)
    simp [mndR,le,zjw]
  have go:=less_go (rows:=rows) (draw:=draw) (noz:=noz) (weir:=weir) (spill:=spill) (claims:=claims) (l:=l) (other:=other) (S:=zw7 rows (setH noz l) weir spill cups) (cups:=cups) (less:=less) (e:=e) (is:=sufL rows noz weir spill cups claims other) (r:=some true) (N0:=400) (by omega) (by omega) hK ls mm.2.1 (by
   intro k hk
   obtain ⟨k,rfl⟩:=ksucc (by omega : 0 < k)
   simp only [l4_CastleLesser.l0]
   rw [if_neg (by omega),zpw h oo (by omega),Option.bind_some]
   cases is : sufL rows noz weir spill cups claims other with
   | false=>rw [if_neg (by decide)];exact j4 k
   | true =>
    rw [if_pos rfl,if_neg (by intro g;have:=ml.2 _ (by omega) g _ om;rw [is] at this;cases this)]
    by_cases g : chg other (noz.map (·.f1)) = e
    ·rw [if_pos g,before_eq (by omega) (by omega) (by omega),Option.bind_some,first_ord (ord_all _ _) ml.1 (by rw [← g];exact om) is]
     exact j4 k
    ·rw [if_neg g];exact j4 k) claims.length (k + 1) 0 (by omega) (by omega) (by omega) (by simpa [sufL] using mm.2.1)
  simpa using go
end Go.Proofs.YtnnmnhpeblhiiaaGreatDoor.C

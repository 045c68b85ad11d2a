/- A part of the proof: the walks of the functions that it reaches. TIGHT. -/
import Derived.Test.YtnnmnhpeblhiiaaGreatDoorME21
import Derived.Test.YtnnmnhpeblhiiaaGreatDoorME20
set_option linter.unusedVariables false
set_option linter.unusedSimpArgs false
namespace Go.Proofs.YtnnmnhpeblhiiaaGreatDoor.C
open Go.RowKit Go.Proofs.YtnnmnhpeblhiiaaGreatDoorW.PrintWords Go.Proofs.YtnnmnhpeblhiiaaGreatDoorW.PrintLast Go.Proofs.YtnnmnhpeblhiiaaGreatDoorW.PrintMore
set_option linter.unusedVariables false
set_option linter.unusedSimpArgs false
set_option maxHeartbeats 16000000
set_option maxRecDepth 100000
def inn (fs : List S66) (cups i : Int) (xs : List (List Int)) (ys : List Int) : Int:=
 if 0 < i then (if 0≤(rd_T66 fs (i - 1)).f1 then rd (rd_L3 xs (rd_T66 fs (i - 1)).f0) (rd_T66 fs (i - 1)).f1 else rd ys (rd_T66 fs (i - 1)).f0) else cups
def shX' (x : S27) (c : Int) : List Int:=shareL x.f0.f0 x.f1 x.f2 x.f3 c
def flL (fs : List S66) (cups : Int) : List S27→Int→List (List Int)→List Int→List (List Int) × List Int
 | [],_,xs,ys=>(xs,ys)
 | x :: rest,i,xs,ys=>flL fs cups rest (i + 1) (xs ++ [shX' x (inn fs cups i xs ys)]) (ys ++ [inn fs cups i xs ys - (shX' x (inn fs cups i xs ys)).sum])
structure FInv (bs : List S27) (i : Int) (xs : List (List Int)) (ys : List Int) : Prop where
 lx : (xs.length : Int) = i
 ly : (ys.length : Int) = i
 rows : ∀ j : Int,0≤j→j < i→((rd_L3 xs j).length : Int) = nozN bs j∧∀ v ∈ rd_L3 xs j,0≤v∧v≤1000
 over : ∀ j : Int,0≤j→j < i→0≤rd ys j∧rd ys j≤10000
theorem rdL_snoc {xs : List (List Int)} {l : List Int} {j : Int} (h0 : 0≤j) : rd_L3 (xs ++ [l]) j = if j < (xs.length : Int) then rd_L3 xs j else if j = (xs.length : Int) then l else []:=by
 unfold rd_L3
 by_cases c : j < (xs.length : Int)
 ·rw [if_pos c,List.getD_eq_getElem?_getD,List.getD_eq_getElem?_getD,List.getElem?_append_left (by omega)]
 ·rw [if_neg c,List.getD_eq_getElem?_getD,List.getElem?_append_right (by omega)]
  by_cases e : j = (xs.length : Int)
  ·rw [if_pos e,show j.toNat - xs.length = 0 by omega];rfl
  ·rw [if_neg e,List.getElem?_eq_none (by simp;omega)];rfl
theorem rd_snoc {ys : List Int} {n : Int} {j : Int} (h0 : 0≤j) : rd (ys ++ [n]) j = if j < (ys.length : Int) then rd ys j else if j = (ys.length : Int) then n else 0:=by
 unfold rd
 by_cases c : j < (ys.length : Int)
 ·rw [if_pos c,List.getD_eq_getElem?_getD,List.getD_eq_getElem?_getD,List.getElem?_append_left (by omega)]
 ·rw [if_neg c,List.getD_eq_getElem?_getD,List.getElem?_append_right (by omega)]
  by_cases e : j = (ys.length : Int)
  ·rw [if_pos e,show j.toNat - ys.length = 0 by omega];rfl
  ·rw [if_neg e,List.getElem?_eq_none (by simp;omega)];rfl
theorem share_X {bs : List S27} {fs : List S66} (h : OkCh bs fs) {i c : Int} (h0 : 0≤i) (h1 : i < bs.length) (c0 : 0≤c) (c1 : c≤10000) :
  (∀ v ∈ shX' (rd_T27 bs i) c,0≤v∧v≤1000)∧((shX' (rd_T27 bs i) c).length : Int) = nozN bs i∧0≤c - (shX' (rd_T27 bs i) c).sum∧c - (shX' (rd_T27 bs i) c).sum≤10000:=by
 have hb:=h.bas i h0 h1
 have s:=shareL_in hb c0
 have o:=over_ge hb c0
 have o2:=over_in hb (lev_is hb c0).1 (lev_is hb c0).2.1
 have n0:=sum_nn (fun x hx=>(s.1 x hx).1)
 refine ⟨s.1,by unfold shX' nozN;rw [s.2],?_,?_⟩
 ·unfold shX';omega
 ·unfold shX';omega
theorem rd_inR {X : List Int} {i : Int} (hX : ∀ x ∈ X,0≤x∧x≤1000) (h0 : 0≤i) (h1 : i < X.length) : 0≤rd X i∧rd X i≤1000:=by
 have hi : i.toNat < X.length:=by omega
 have : rd X i = X[i.toNat]:=by simp [rd,hi]
 rw [this];exact hX _ (List.getElem_mem _)
theorem inn_in {bs : List S27} {fs : List S66} (h : OkCh bs fs) {cups i : Int} {xs : List (List Int)} {ys : List Int} (c0 : 0≤cups) (c1 : cups≤10000) (h0 : 0≤i) (h1 : i < bs.length) (hI : FInv bs i xs ys) : 0≤inn fs cups i xs ys∧inn fs cups i xs ys≤10000:=by
 unfold inn
 by_cases p : 0 < i
 ·rw [if_pos p]
  have nf:=h.nf
  have f:=h.feed (i - 1) (by omega) (by omega)
  by_cases q : 0≤(rd_T66 fs (i - 1)).f1
  ·rw [if_pos q]
   have r:=hI.rows (rd_T66 fs (i - 1)).f0 (by omega) (by omega)
   have:=rd_inR r.2 q (by omega)
   omega
  ·rw [if_neg q]
   have:=hI.over (rd_T66 fs (i - 1)).f0 (by omega) (by omega)
   omega
 ·rw [if_neg p];omega
theorem FInv.step {bs : List S27} {fs : List S66} (h : OkCh bs fs) {i c : Int} {xs : List (List Int)} {ys : List Int} (h0 : 0≤i) (h1 : i < bs.length) (hI : FInv bs i xs ys) (c0 : 0≤c) (c1 : c≤10000) : FInv bs (i + 1) (xs ++ [shX' (rd_T27 bs i) c]) (ys ++ [c - (shX' (rd_T27 bs i) c).sum]):=by
 have s:=share_X h h0 h1 c0 c1
 have lx:=hI.lx
 have ly:=hI.ly
 refine ⟨by simp;omega,by simp;omega,fun j j0 j1=>?_,fun j j0 j1=>?_⟩
 ·rw [rdL_snoc j0]
  by_cases e : j < (xs.length : Int)
  ·rw [if_pos e];exact hI.rows j j0 (by omega)
  ·rw [if_neg e,if_pos (by omega),show j = i by omega];exact ⟨s.2.1,s.1⟩
 ·rw [rd_snoc j0]
  by_cases e : j < (ys.length : Int)
  ·rw [if_pos e];exact hI.over j j0 (by omega)
  ·rw [if_neg e,if_pos (by omega)];exact s.2.2
theorem FInv.nil (bs : List S27) : FInv bs 0 [] []:=⟨rfl,rfl,fun j a b=>by omega,fun j a b=>by omega⟩
def filX (x : S27) : S110:=filledOf x (x.f0.f1,x.f2,x.f3,grid x.f0.f0 x.f1)
theorem basinsGo_eq : ∀ (l : List S27) (acc : List S110),(∀ x ∈ l,OkB x.f0.f0 x.f0.f1 x.f1 x.f2 x.f3)→acc.length + l.length≤1000→basinsGo l acc = some (acc ++ l.map filX)
 | [],acc,h,hl=>by simp [basinsGo]
 | x :: l,acc,h,hl=>by
  simp only [List.length_cons] at hl
  rw [basinsGo,fillK_eq (h x (by simp)),Option.bind_some,if_pos (by omega),basinsGo_eq l _ (fun y hy=>h y (by simp [hy])) (by simp;omega)]
  simp [filX]
theorem flow_go {bs : List S27} {fs : List S66} (h : OkCh bs fs) {cups : Int} (c0 : 0≤cups) (c1 : cups≤10000) {k : Nat} (hk : 20≤k) : ∀ (d : Nat) (i : Int) (xs : List (List Int)) (ys : List Int) (u : Int),0≤i→i + d = bs.length→FInv bs i xs ys→(¬ 0 < i→u = cups)→
  flowGo k fs ((bs.drop i.toNat).map filX) i u xs ys = some (flL fs cups (bs.drop i.toNat) i xs ys)
 | 0,i,xs,ys,u,h0,h1,hI,hu=>by
  rw [List.drop_of_length_le (by omega)];rfl
 | d + 1,i,xs,ys,u,h0,h1,hI,hu=>by
  have n2:=h.n2
  have nf:=h.nf
  have lx:=hI.lx
  have ly:=hI.ly
  have ii:=inn_in h c0 c1 h0 (show i < (bs.length : Int) by omega) hI
  rw [drop_bas h0 (by omega),List.map_cons]
  simp only [flowGo,flL]
  have e : flowIn fs i u xs ys = some (inn fs cups i xs ys):=by
   unfold flowIn inn
   by_cases p : 0 < i
   ·have f:=h.feed (i - 1) (by omega) (by omega)
    rw [if_pos p,if_pos p,if_pos (by omega),if_pos f.1.1,if_pos (by omega)]
    by_cases q : 0≤(rd_T66 fs (i - 1)).f1
    ·have r:=hI.rows (rd_T66 fs (i - 1)).f0 (by omega) (by omega)
     rw [if_pos q,if_pos q,if_pos (by omega),if_pos (by omega)]
    ·rw [if_neg q,if_neg q]
   ·rw [if_neg p,if_neg p,hu p]
  have hb:=h.bas i h0 (by omega)
  have sh : gf_shares.f k (filX (rd_T27 bs i)).f0.f0.f0 (filX (rd_T27 bs i)).f0.f0.f1 (filX (rd_T27 bs i)).f0.f1 (filX (rd_T27 bs i)).f0.f2 (filX (rd_T27 bs i)).f0.f3 (filX (rd_T27 bs i)).f1 (inn fs cups i xs ys) = some (shX' (rd_T27 bs i) (inn fs cups i xs ys),inn fs cups i xs ys - (shX' (rd_T27 bs i) (inn fs cups i xs ys)).sum):=shares_eq hb ii.1 ii.2 hk
  rw [e,Option.bind_some,sh,Option.bind_some,if_pos (by omega),if_pos (by omega)]
  have:=flow_go h c0 c1 hk d (i + 1) _ _ (inn fs cups i xs ys) (by omega) (by omega) (hI.step h h0 (by omega) ii.1 ii.2) (fun p=>absurd (show 0 < i + 1 by omega) p)
  rw [show (i + 1).toNat = i.toNat + 1 by omega] at this
  exact this
def flowsL (bs : List S27) (fs : List S66) (cups : Int) : List (List Int) × List Int:=flL fs cups bs 0 [] []
theorem okX_all {bs : List S27} {fs : List S66} (h : okCh bs fs = true) : ∀ x ∈ bs,OkB x.f0.f0 x.f0.f1 x.f1 x.f2 x.f3:=by
 unfold okCh at h
 simp only [Bool.and_eq_true] at h
 intro x hx
 exact okB_iff.1 (List.all_eq_true.1 h.1 x hx)
theorem basins_eq {bs : List S27} {fs : List S66} (h : okCh bs fs = true) : ca_basins.f bs = some (bs.map filX):=by
 have n2:=(okCh_of h).n2
 have:=basinsGo_eq bs [] (okX_all h) (by simp;omega)
 simpa [ca_basins.f] using this
theorem cflow_eq {bs : List S27} {fs : List S66} (h : okCh bs fs = true) {cups : Int} (c0 : 0≤cups) (c1 : cups≤10000) {k : Nat} (hk : 20≤k) : ca_flow.f k (bs.map filX) fs cups = some (flowsL bs fs cups):=by
 have:=flow_go (okCh_of h) c0 c1 hk bs.length 0 [] [] cups (by omega) (by omega) (FInv.nil bs) (fun _=>rfl)
 simpa [ca_flow.f,flowsL] using this
theorem cFlow_eq {bs : List S27} {fs : List S66} (hS : bs.all shX = true) (h : okCh bs fs = true) {cups : Int} (c0 : 0≤cups) (c1 : cups≤10000) {k : Nat} (hk : 20≤k) : ca_Flow.f k bs fs cups = some ((flowsL bs fs cups).1,(flowsL bs fs cups).2,0):=by
 unfold ca_Flow.f
 rw [cChainIs_eq hS,h,Option.bind_some,if_pos rfl,c_flow,decide_eq_true ⟨c0,c1⟩,Option.bind_some,if_pos rfl,basins_eq h,Option.bind_some,cflow_eq h c0 c1 hk,Option.bind_some]
theorem flL_inv {bs : List S27} {fs : List S66} (h : OkCh bs fs) {cups : Int} (c0 : 0≤cups) (c1 : cups≤10000) : ∀ (d : Nat) (i : Int) (xs : List (List Int)) (ys : List Int),0≤i→i + d = bs.length→FInv bs i xs ys→FInv bs bs.length (flL fs cups (bs.drop i.toNat) i xs ys).1 (flL fs cups (bs.drop i.toNat) i xs ys).2
 | 0,i,xs,ys,h0,h1,hI=>by
  rw [List.drop_of_length_le (by omega),show (bs.length : Int) = i by omega];exact hI
 | d + 1,i,xs,ys,h0,h1,hI=>by
  have ii:=inn_in h c0 c1 h0 (show i < (bs.length : Int) by omega) hI
  rw [drop_bas h0 (by omega)]
  have:=flL_inv h c0 c1 d (i + 1) _ _ (by omega) (by omega) (hI.step h h0 (by omega) ii.1 ii.2)
  rw [show (i + 1).toNat = i.toNat + 1 by omega] at this
  exact this
theorem flowsL_inv {bs : List S27} {fs : List S66} (h : okCh bs fs = true) {cups : Int} (c0 : 0≤cups) (c1 : cups≤10000) : FInv bs bs.length (flowsL bs fs cups).1 (flowsL bs fs cups).2:=by
 have:=flL_inv (okCh_of h) c0 c1 bs.length 0 [] [] (by omega) (by omega) (FInv.nil bs)
 simpa [flowsL] using this
def bis (g : Int→Bool) : Nat→Int→Int→Int
 | 0,lo,_=>lo
 | n + 1,lo,hi=>if lo < hi then (if g ((lo + hi) / 2) = true then bis g n lo ((lo + hi) / 2) else bis g n ((lo + hi) / 2 + 1) hi) else lo
theorem mid {lo hi : Int} (h0 : 0≤lo) (h1 : hi≤10000) (h : lo < hi) : wrap64 (Int.tdiv (wrap64 (lo + hi)) 2) = (lo + hi) / 2∧lo≤(lo + hi) / 2∧(lo + hi) / 2 < hi:=by
 rw [w64 (n:=lo + hi) (by omega),Int.tdiv_eq_ediv_of_nonneg (by omega),w64 (by omega)]
 omega
theorem bisGo_eq {q : Int→Option Bool} {g : Int→Bool} (hq : ∀ m,0≤m→m≤10000→q m = some (g m)) : ∀ (n k : Nat) (lo hi : Int),0≤lo→hi≤10000→hi - lo < 2 ^ n→n < k→bisGo q k lo hi = some (bis g n lo hi)
 | 0,k,lo,hi,h0,h1,hd,hk=>by
  obtain ⟨k,rfl⟩:=ksucc (by omega : 0 < k)
  rw [bisGo,if_neg (by omega)];rfl
 | n + 1,k,lo,hi,h0,h1,hd,hk=>by
  obtain ⟨k,rfl⟩:=ksucc (by omega : 0 < k)
  rw [bisGo,bis]
  by_cases c : lo < hi
  ·obtain ⟨e,m0,m1⟩:=mid h0 h1 c
   have p : (2 : Int) ^ (n + 1) = 2 * 2 ^ n:=by rw [Int.pow_succ];omega
   rw [if_pos c,if_pos c,e,hq _ (by omega) (by omega),Option.bind_some,w64 (n:=(lo + hi) / 2 + 1) (by omega)]
   cases g ((lo + hi) / 2) with
   | true=>rw [if_pos rfl,if_pos rfl];exact bisGo_eq hq n k _ _ (by omega) (by omega) (by omega) (by omega)
   | false=>rw [if_neg (by decide),if_neg (by decide)];exact bisGo_eq hq n k _ _ (by omega) (by omega) (by omega) (by omega)
  ·rw [if_neg c,if_neg c]
theorem bis_is {g : Int→Bool} (hg : ∀ a b,0≤a→a≤b→b≤10000→g a = true→g b = true) : ∀ (n : Nat) (lo hi : Int),0≤lo→lo≤hi→hi≤10000→hi - lo < 2 ^ n→g hi = true→(lo≤bis g n lo hi∧bis g n lo hi≤hi)∧g (bis g n lo hi) = true∧∀ m,lo≤m→m < bis g n lo hi→g m = false
 | 0,lo,hi,h0,h1,h2,hd,hh=>by
  have : lo = hi:=by omega
  subst this
  exact ⟨⟨Int.le_refl _,Int.le_refl _⟩,hh,fun m a b=>by simp only [bis] at b;omega⟩
 | n + 1,lo,hi,h0,h1,h2,hd,hh=>by
  rw [bis]
  have p : (2 : Int) ^ (n + 1) = 2 * 2 ^ n:=by rw [Int.pow_succ];omega
  by_cases c : lo < hi
  ·rw [if_pos c]
   cases e : g ((lo + hi) / 2) with
   | true =>
    rw [if_pos rfl]
    obtain ⟨a,b,z⟩:=bis_is hg n lo ((lo + hi) / 2) h0 (by omega) (by omega) (by omega) e
    exact ⟨by omega,b,z⟩
   | false =>
    rw [if_neg (by decide)]
    obtain ⟨a,b,z⟩:=bis_is hg n ((lo + hi) / 2 + 1) hi (by omega) (by omega) h2 (by omega) hh
    refine ⟨by omega,b,fun m m0 m1=>?_⟩
    by_cases q : (lo + hi) / 2 + 1≤m
    ·exact z m q m1
    ·cases f : g m with
     | false=>rfl
     | true=>rw [hg m ((lo + hi) / 2) (by omega) (by omega) (by omega) f] at e;cases e
  ·rw [if_neg c]
   have : lo = hi:=by omega
   subst this
   exact ⟨⟨Int.le_refl _,Int.le_refl _⟩,hh,fun m a b=>by omega⟩
def getsL (bs : List S27) (fs : List S66) (b n cups : Int) : Int:=rd (rd_L3 (flowsL bs fs cups).1 b) n
def nozB (bs : List S27) (b n : Int) : Bool:=decide (0≤b∧b≤(bs.length : Int) - 1) && decide (0≤n∧n≤nozN bs b - 1)
theorem nozB_iff {bs : List S27} {b n : Int} : nozB bs b n = true↔(0≤b∧b≤(bs.length : Int) - 1)∧0≤n∧n≤nozN bs b - 1:=by
 unfold nozB;simp only [Bool.and_eq_true,decide_eq_true_eq]
theorem short_noz {bs : List S27} (hS : bs.all shX = true) {b : Int} (h0 : 0≤b) (h1 : b < bs.length) : nozN bs b≤8∧0≤nozN bs b:=by
 have hs:=all_rd hS h0 h1
 simp only [shX,decide_eq_true_eq] at hs
 unfold nozN;omega
theorem nz_eq {bs : List S27} {fs : List S66} (hS : bs.all shX = true) (hb : bs.length≤6) {b n : Int} : q4_Nozzle.f bs fs b n = some (nozB bs b n):=by
 unfold q4_Nozzle.f nozB
 rw [w64 (by omega),r4_in,Option.bind_some]
 by_cases c : 0≤b∧b≤(bs.length : Int) - 1
 ·have:=short_noz hS c.1 (by omega)
  have e : w64 (n:=(((rd_T27 bs b).f1.length : Nat) : Int) - 1) (by unfold nozN at this;omega) = w64 (n:=(((rd_T27 bs b).f1.length : Nat) : Int) - 1) (by unfold nozN at this;omega):=rfl
  rw [decide_eq_true c,if_pos rfl,if_pos c.1,if_pos (by omega),w64 (n:=(((rd_T27 bs b).f1.length : Nat) : Int) - 1) (by unfold nozN at this;omega),r4_in]
  rfl
 ·rw [decide_eq_false c,if_neg (by decide)];rfl
section
variable {bs : List S27} {fs : List S66}
theorem gets_in (h : okCh bs fs = true) {b n cups : Int} (hN : nozB bs b n = true) (c0 : 0≤cups) (c1 : cups≤10000) : (b < ((flowsL bs fs cups).1.length : Int))∧n < ((rd_L3 (flowsL bs fs cups).1 b).length : Int)∧((flowsL bs fs cups).1.length = bs.length)∧((rd_L3 (flowsL bs fs cups).1 b).length : Int) = nozN bs b∧((flowsL bs fs cups).2.length = bs.length):=by
 have I:=flowsL_inv h c0 c1
 obtain ⟨p,q⟩:=nozB_iff.1 hN
 have lx:=I.lx
 have ly:=I.ly
 have r:=(I.rows b p.1 (by omega)).1
 exact ⟨by omega,by omega,by omega,r,by omega⟩
theorem enough_eq (h : okCh bs fs = true) {b n claim cups : Int} (hN : nozB bs b n = true) (c0 : 0≤cups) (c1 : cups≤10000) {k : Nat} (hk : 20≤k) : enough.f k (bs.map filX) fs b n claim cups = some (decide (claim≤getsL bs fs b n cups)):=by
 have g:=gets_in h hN c0 c1
 obtain ⟨p,q⟩:=nozB_iff.1 hN
 unfold enough.f
 rw [cflow_eq h c0 c1 hk,Option.bind_some,if_pos p.1,if_pos g.1,if_pos q.1,if_pos g.2.1]
 rfl
def leastL (bs : List S27) (fs : List S66) (b n claim : Int) : Int:=bis (fun m=>decide (claim≤getsL bs fs b n m)) 14 0 10000
theorem cLeast_eq (hS : bs.all shX = true) (h : okCh bs fs = true) {b n claim : Int} (hN : nozB bs b n = true) (c0 : 0≤claim) (c1 : claim≤10000) {k : Nat} (hk : 20≤k) : ca_Least.f k bs fs b n claim = some (if claim≤getsL bs fs b n 10000 then (leastL bs fs b n claim,0) else (0,5)):=by
 have n2:=(okCh_of h).n2
 obtain ⟨p,q⟩:=nozB_iff.1 hN
 have sn:=short_noz hS p.1 (by omega)
 unfold ca_Least.f
 rw [cChainIs_eq hS,h,Option.bind_some,if_pos rfl,w64 (by omega),c_in,decide_eq_true p,Option.bind_some,if_pos rfl,if_pos p.1,if_pos (by omega),w64 (by unfold nozN at sn;omega),c_in,decide_eq_true (by unfold nozN at q;exact q),Option.bind_some,if_pos rfl,c_flow,decide_eq_true ⟨c0,c1⟩,Option.bind_some,if_pos rfl,basins_eq h,Option.bind_some,enough_eq h hN (by omega) (by omega) hk,Option.bind_some]
 by_cases c : claim≤getsL bs fs b n 10000
 ·rw [decide_eq_true c,if_pos rfl,if_pos c,bisGo_eq (g:=fun m=>decide (claim≤getsL bs fs b n m)) (fun m m0 m1=>enough_eq h hN m0 m1 hk) 14 k 0 10000 (by omega) (by omega) (by decide) (by omega)]
  rfl
 ·rw [decide_eq_false c,if_neg (by decide),if_neg c]
end
def leF (xs xs' : List (List Int)) (ys ys' : List Int) : Prop:=(∀ j : Int,0≤j→leL (rd_L3 xs j) (rd_L3 xs' j))∧∀ j : Int,0≤j→rd ys j≤rd ys' j
theorem inn_mono {fs : List S66} {a c i : Int} {xs xs' : List (List Int)} {ys ys' : List Int} (hac : a≤c) (hf : 0 < i→0≤(rd_T66 fs (i - 1)).f0) (h : leF xs xs' ys ys') : inn fs a i xs ys≤inn fs c i xs' ys':=by
 unfold inn
 by_cases p : 0 < i
 ·rw [if_pos p,if_pos p]
  by_cases q : 0≤(rd_T66 fs (i - 1)).f1
  ·rw [if_pos q,if_pos q];exact (h.1 _ (hf p)).rd _
  ·rw [if_neg q,if_neg q];exact h.2 _ (hf p)
 ·rw [if_neg p,if_neg p];exact hac
theorem leF.step {bs : List S27} {i u v m n : Int} {xs xs' : List (List Int)} {ys ys' : List Int} {l l' : List Int} (hI : FInv bs i xs ys) (hI' : FInv bs i xs' ys') (h : leF xs xs' ys ys') (hl : leL l l') (hn : m≤n) : leF (xs ++ [l]) (xs' ++ [l']) (ys ++ [m]) (ys' ++ [n]):=by
 have e1:=hI.lx;have e2:=hI'.lx;have e3:=hI.ly;have e4:=hI'.ly
 refine ⟨fun j j0=>?_,fun j j0=>?_⟩
 ·rw [rdL_snoc j0,rdL_snoc j0]
  by_cases c : j < i
  ·rw [if_pos (show j < (xs.length : Int) by omega),if_pos (show j < (xs'.length : Int) by omega)];exact h.1 j j0
  ·rw [if_neg (show ¬ j < (xs.length : Int) by omega),if_neg (show ¬ j < (xs'.length : Int) by omega)]
   by_cases e : j = i
   ·rw [if_pos (show j = (xs.length : Int) by omega),if_pos (show j = (xs'.length : Int) by omega)];exact hl
   ·rw [if_neg (show ¬ j = (xs.length : Int) by omega),if_neg (show ¬ j = (xs'.length : Int) by omega)];exact leL.refl _
 ·rw [rd_snoc j0,rd_snoc j0]
  by_cases c : j < i
  ·rw [if_pos (show j < (ys.length : Int) by omega),if_pos (show j < (ys'.length : Int) by omega)];exact h.2 j j0
  ·rw [if_neg (show ¬ j < (ys.length : Int) by omega),if_neg (show ¬ j < (ys'.length : Int) by omega)]
   by_cases e : j = i
   ·rw [if_pos (show j = (ys.length : Int) by omega),if_pos (show j = (ys'.length : Int) by omega)];exact hn
   ·rw [if_neg (show ¬ j = (ys.length : Int) by omega),if_neg (show ¬ j = (ys'.length : Int) by omega)];exact Int.le_refl _
theorem flL_mono {bs : List S27} {fs : List S66} (h : OkCh bs fs) {a c : Int} (a0 : 0≤a) (hac : a≤c) (c1 : c≤10000) : ∀ (d : Nat) (i : Int) (xs xs' : List (List Int)) (ys ys' : List Int),0≤i→i + d = bs.length→FInv bs i xs ys→FInv bs i xs' ys'→leF xs xs' ys ys'→
  leF (flL fs a (bs.drop i.toNat) i xs ys).1 (flL fs c (bs.drop i.toNat) i xs' ys').1 (flL fs a (bs.drop i.toNat) i xs ys).2 (flL fs c (bs.drop i.toNat) i xs' ys').2
 | 0,i,xs,xs',ys,ys',h0,h1,hI,hI',hl=>by
  rw [List.drop_of_length_le (by omega)];exact hl
 | d + 1,i,xs,xs',ys,ys',h0,h1,hI,hI',hl=>by
  have nf:=h.nf
  have ii:=inn_in h a0 (show a≤10000 by omega) h0 (show i < (bs.length : Int) by omega) hI
  have ii':=inn_in h (show 0≤c by omega) c1 h0 (show i < (bs.length : Int) by omega) hI'
  have m:=inn_mono (fs:=fs) (a:=a) (c:=c) (i:=i) hac (fun p=>(h.feed (i - 1) (by omega) (by omega)).1.1) hl
  have hb:=h.bas i h0 (by omega)
  have s:=share_mono hb ii.1 m
  rw [drop_bas h0 (by omega)]
  have:=flL_mono h a0 hac c1 d (i + 1) _ _ _ _ (by omega) (by omega) (hI.step h h0 (by omega) ii.1 ii.2) (hI'.step h h0 (by omega) ii'.1 ii'.2) (leF.step (u:=0) (v:=0) hI hI' hl s.1 s.2)
  rw [show (i + 1).toNat = i.toNat + 1 by omega] at this
  exact this
theorem gets_mono {bs : List S27} {fs : List S66} (h : okCh bs fs = true) {b n : Int} (hN : nozB bs b n = true) {a c : Int} (a0 : 0≤a) (hac : a≤c) (c1 : c≤10000) : getsL bs fs b n a≤getsL bs fs b n c:=by
 have:=flL_mono (okCh_of h) a0 hac c1 bs.length 0 [] [] [] [] (by omega) (by omega) (FInv.nil bs) (FInv.nil bs) ⟨fun j _=>leL.refl _,fun j _=>Int.le_refl _⟩
 have e:=(this.1 b (nozB_iff.1 hN).1.1).rd n.toNat
 simpa [getsL,flowsL,rd] using e
theorem enough_pure (bs : List S27) (fs : List S66) (b n claim other : Int) {k : Nat} (hk : 500≤k) : l4_CastleEnough.f k bs fs b n claim other = some true:=by
 obtain ⟨k,rfl⟩ : ∃ m,k = m + 1 + 1 + 1:=⟨k - 3,by omega⟩
 unfold l4_CastleEnough.f
 rw [brief_eq bs fs (by omega),Option.bind_some]
 have nope : l4_CastleEnough.j0 (k + 1 + 1 + 1) b n claim other true bs fs = some true:=by
  simp only [l4_CastleEnough.j0]
  rw [if_pos trivial,known_true];rfl
 cases s : briefB bs fs with
 | false=>rw [if_neg (by decide),nope]
 | true =>
  obtain ⟨hS,hb,hf⟩:=briefB_iff.1 s
  rw [if_pos rfl,rChain_eq hS hb hf (by omega),Option.bind_some]
  cases h : okCh bs fs with
  | false=>rw [if_neg (by decide),nope]
  | true =>
   rw [if_pos rfl,nz_eq hS hb,Option.bind_some]
   cases hN : nozB bs b n with
   | false=>rw [if_neg (by decide),nope]
   | true =>
    rw [if_pos rfl,r_cups,Option.bind_some]
    by_cases c : 0≤claim∧claim≤10000
    case neg=>rw [decide_eq_false c,if_neg (by decide),nope]
    rw [decide_eq_true c,if_pos rfl,r_cups,Option.bind_some]
    by_cases o : 0≤other∧other≤10000
    case neg=>rw [decide_eq_false o];exact nope
    rw [decide_eq_true o]
    have g:=gets_in h hN o.1 o.2
    obtain ⟨p,q⟩:=nozB_iff.1 hN
    have go : getsL bs fs b n other = rd (rd_L3 (flowsL bs fs other).1 b) n:=rfl
    simp only [Bool.not_true,l4_CastleEnough.j0,Bool.false_eq_true,if_false]
    rw [cLeast_eq hS h hN c.1 c.2 (by omega),Option.bind_some,cFlow_eq hS h o.1 o.2 (by omega),Option.bind_some]
    simp only [if_true]
    rw [if_pos (by omega),if_pos p.1,if_pos g.1,if_pos (by omega),if_pos (show ((rd_L3 (flowsL bs fs other).1 b).length : Int) = ((rd_T27 bs b).f1.length : Int) from g.2.2.2.1)]
    by_cases e : claim≤getsL bs fs b n 10000
    ·rw [if_pos e]
     simp only [if_true,l4_CastleEnough.j1,Bool.false_eq_true,if_false]
     rw [if_pos p.1,if_pos g.1,if_pos q.1,if_pos g.2.1]
     have L:=bis_is (g:=fun m=>decide (claim≤getsL bs fs b n m)) (fun x y x0 xy y1 hx=>by
      have:=gets_mono h hN x0 xy y1
      simp only [decide_eq_true_eq] at hx ⊢
      omega) 14 0 10000 (by omega) (by omega) (by omega) (by decide) (decide_eq_true e)
     obtain ⟨⟨l0,l1⟩,l2,l3⟩:=L
     have lE : bis (fun m=>decide (claim≤getsL bs fs b n m)) 14 0 10000 = leastL bs fs b n claim:=rfl
     rw [lE] at l0 l1 l2 l3
     simp only [decide_eq_true_eq] at l2
     have is : decide (rd (rd_L3 (flowsL bs fs other).1 b) n ≥ claim) = decide (other ≥ leastL bs fs b n claim):=by
      rw [decide_eq_decide,← go]
      constructor
      ·intro z
       rcases (show other ≥ leastL bs fs b n claim∨other < leastL bs fs b n claim by omega) with w | w
       ·exact w
       ·have:=l3 other o.1 w
        simp only [decide_eq_false_iff_not] at this
        omega
      ·intro z
       have:=gets_mono h hN l0 (show leastL bs fs b n claim≤other from z) o.2
       omega
     have g':=gets_in h hN l0 l1
     have g2 : getsL bs fs b n (leastL bs fs b n claim) = rd (rd_L3 (flowsL bs fs (leastL bs fs b n claim)).1 b) n:=rfl
     rw [r_cups,decide_eq_true ⟨l0,l1⟩,Option.bind_some,if_pos rfl,is,bne_self_eq_false]
     simp only [l4_CastleEnough.j2,Bool.false_eq_true,if_false]
     rw [cFlow_eq hS h l0 l1 (by omega),Option.bind_some]
     simp only [if_true]
     rw [if_pos (by omega),if_pos p.1,if_pos g'.1,if_pos (by omega),if_pos (by omega),if_pos q.1,if_pos g'.2.1,if_pos (by omega),known_true]
     rfl
    ·rw [if_neg e]
     simp only [show ((5 : Int) = 0) = False by decide,if_false,bne_self_eq_false,l4_CastleEnough.j1,Bool.false_eq_true]
     have:=gets_mono h hN o.1 o.2 (Int.le_refl 10000)
     rw [if_pos p.1,if_pos g.1,if_pos q.1,if_pos g.2.1,if_neg (by omega),known_true]
     rfl
end Go.Proofs.YtnnmnhpeblhiiaaGreatDoor.C

/- A part of the proof: the walks of the functions that it reaches. TIGHT. -/
import Derived.Test.YtnnmnhpeblhiiaaGreatDoorML20
import Derived.Test.YtnnmnhpeblhiiaaGreatDoorML16
set_option linter.unusedSimpArgs false
set_option linter.unusedVariables false
namespace Go.Proofs.YtnnmnhpeblhiiaaGreatDoor.C
open Go.RowKit Go.Proofs.YtnnmnhpeblhiiaaGreatDoorW.PrintWords Go.Proofs.YtnnmnhpeblhiiaaGreatDoorW.PrintLast Go.Proofs.YtnnmnhpeblhiiaaGreatDoorW.PrintMore
set_option maxHeartbeats 16000000
set_option maxRecDepth 100000
theorem sum_bd {l : List Int} {B : Int} (hB : 0≤B) (h : ∀ x ∈ l,-B≤x∧x≤B) : -(B * l.length)≤l.sum∧l.sum≤B * l.length:=by
 induction l with
 | nil=>simp
 | cons x l ih =>
  have a:=h x (by simp)
  have b:=ih (fun y hy=>h y (by simp [hy]))
  rw [List.sum_cons,List.length_cons,Int.natCast_add,Int.mul_add]
  omega
theorem sum_go (xs : List Int) (hl : xs.length≤1000) (hx : ∀ x ∈ xs,-1000000≤x∧x≤1000000) : ∀ (d k : Nat) (i acc : Int),0≤i→i + d = xs.length→d < k→-1000000 * i≤acc∧acc≤1000000 * i→
 ca_sum.l0 k acc xs xs.length i = some (acc + (xs.drop i.toNat).sum)
 | 0,k,i,acc,h0,hi,hk,hb=>by
  obtain ⟨k,rfl⟩:=ksucc hk
  simp only [ca_sum.l0]
  rw [if_neg (by omega),List.drop_of_length_le (by omega)]
  simp
 | d + 1,k,i,acc,h0,hi,hk,hb=>by
  obtain ⟨k,rfl⟩:=ksucc (by omega : 0 < k)
  simp only [ca_sum.l0]
  have e:=zj2 (0 : Int) xs i h0 (by omega)
  have m:=hx _ (zwz (0 : Int) h0 (by omega : i < xs.length))
  rw [if_pos (by omega),if_pos h0,if_pos (by omega)]
  unfold rd
  rw [w64 (n:=acc + _) (by omega),w64 (by omega),sum_go xs hl hx d k (i + 1) _ (by omega) (by omega) (by omega) (by omega),e,List.sum_cons,Int.add_assoc]
theorem csum {k : Nat} {l : List Int} (hl : l.length≤1000) (hx : ∀ x ∈ l,-1000000≤x∧x≤1000000) (hk : l.length < k) : ca_sum.f k l = some l.sum:=by
 unfold ca_sum.f
 rw [sum_go l hl hx l.length k 0 0 (by omega) (by omega) hk (by omega)]
 simp
theorem nsum {k : Nat} {l : List Int} (hl : l.length≤1000) (hx : ∀ x ∈ l,-1000000≤x∧x≤1000000) (hk : l.length < k) : nz_sum.f k l = some l.sum:=by
 have e : ∀ k x3 x6 x7 x8,nz_sum.l0 k x3 x6 x7 x8 = ca_sum.l0 k x3 x6 x7 x8:=by
  intro k
  induction k with
  | zero=>intros;rfl
  | succ k ih=>intro a b c d;simp only [nz_sum.l0,ca_sum.l0,ih]
 have h:=csum hl hx hk
 unfold ca_sum.f at h
 unfold nz_sum.f
 rw [e,h]
theorem isRow_eq {rows : List S126} {draw n : Int} (hl : rows.length≤1000) : nz_isRow.f rows draw n = some (decide (0≤n∧n≤(rows.length : Int) - 1)):=by
 unfold nz_isRow.f
 rw [w64 (by omega),n_in]
 rfl
theorem isSet1_eq {rows : List S126} {draw n : Int} (h0 : 0≤n) (h1 : n < rows.length) (hl : rows.length≤1000) : nz_isSet.f rows draw [n] = some true:=by
 unfold nz_isSet.f
 rw [if_pos (by simp)]
 have : sl_IsSorted_int_int.f ([n].length + 1) [n] = some true:=by
  unfold sl_IsSorted_int_int.f
  simp only [sl_IsSorted_int_int.l0,List.length_cons,List.length_nil]
  rw [if_neg (by unfold wrap64;omega)]
 rw [this]
 simp only [Option.bind_some,anyM,isRow_eq hl]
 rw [decide_eq_true (show 0≤n∧n≤(rows.length : Int) - 1 by omega)]
 rfl
theorem gives1_eq {rows : List S126} {draw n : Int} {k : Nat} (h0 : 0≤n) (h1 : n < rows.length) (hl : rows.length≤1000) (hg : 0≤(zqw rows n).f2∧(zqw rows n).f2≤1000000) (hk : 5≤k) : nz_gives.f k rows draw [n] = some (zqw rows n).f2:=by
 obtain ⟨m,rfl⟩ : ∃ m,k = m + 1 + 1:=⟨k - 2,by omega⟩
 unfold nz_gives.f
 have e0 : rd [n] 0 = n:=rfl
 have e1 : wrap64 (0 + 1) = 1:=by unfold wrap64;omega
 simp only [nz_gives.l0,List.length_cons,List.length_nil,e0,e1]
 rw [if_pos (by decide),if_pos (by decide),if_pos (by decide),if_pos h0,if_pos h1,if_pos (by decide),if_neg (by decide)]
 simp only [List.nil_append]
 rw [nsum (by simp) (by intro x hx;simp at hx;subst hx;omega) (by simp;omega)]
 simp
theorem Gives1_eq {rows : List S126} {draw : Int} {noz : List S48} {weir spill : Int} (h : OkB rows draw noz weir spill) {z : S48} (hz : z ∈ noz) {k : Nat} (hk : 5≤k) : nz_Gives.f k rows draw [z.f0] = some (gvz rows z,0):=by
 have a:=h.nn z hz
 have g:=gvz_in h hz
 unfold nz_Gives.f
 rw [zm7,h.tab,Option.bind_some,if_pos rfl,isSet1_eq a.1 a.2.1 (by have:=h.r2;omega),Option.bind_some,if_pos rfl,gives1_eq a.1 a.2.1 (by have:=h.r2;omega) (by unfold gvz at g;omega) hk]
 rfl
def grid (rows : List S126) (noz : List S48) : List (List Int):=(List.range 41).map fun (j : Nat)=>gat rows noz (j : Int)
theorem zbq (rows : List S126) (noz : List S48) : (grid rows noz).length = 41:=by simp [grid]
theorem grid_at (rows : List S126) (noz : List S48) {h : Int} (h0 : 0≤h) (h1 : h≤40) : rd_L3 (grid rows noz) h = gat rows noz h:=by
 unfold rd_L3 grid
 rw [List.getD_eq_getElem?_getD,List.getElem?_map,List.getElem?_range (by omega)]
 simp only [Option.map_some,Option.getD_some]
 rw [show ((h.toNat : Nat) : Int) = h by omega]
section
variable {rows : List S126} {draw : Int} {noz : List S48} {weir spill : Int}
theorem z_mem {i : Int} (h0 : 0≤i) (h1 : i < noz.length) : zql noz i ∈ noz:=zwz z48 h0 h1
theorem fill_l2 (h : OkB rows draw noz weir spill) (hh : Int) (p0 : 0≤hh) (p1 : hh≤40) (G : List (List Int)) (hG : G.length≤41) (r) (C : Nat) (hr : ∀ k,C≤k→ca_fill.l1 k (noz.map (gvz rows)) (hh + 1) rows draw noz weir spill rows draw noz weir spill (G ++ [gat rows noz hh]) = r) : ∀ (d k : Nat) (i : Int),0≤i→i + d = noz.length→C + d < k→
 ca_fill.l2 k (noz.map (gvz rows)) hh ((noz.take i.toNat).map (pour rows hh)) hh noz noz.length i rows draw noz weir spill rows draw noz weir spill G = r
 | 0,k,i,h0,hi,hk=>by
  obtain ⟨k,rfl⟩:=ksucc (by omega : 0 < k)
  simp only [ca_fill.l2]
  rw [if_neg (by omega),if_pos (by omega),w64 (by omega),List.take_of_length_le (by omega)]
  exact hr k (by omega)
 | d + 1,k,i,h0,hi,hk=>by
  obtain ⟨k,rfl⟩:=ksucc (by omega : 0 < k)
  have n2:=h.n2
  have hz:=z_mem h0 (by omega : i < noz.length)
  have a:=h.nn _ hz
  have g:=gvz_in h hz
  simp only [ca_fill.l2]
  rw [if_pos (by omega),if_pos h0,if_pos (by omega),if_pos (by rw [List.length_map];omega),if_pos (by rw [List.length_map,List.length_take];omega),rd_map _ h0 (by omega),w64 (n:=hh - _) (by omega),zp4 (by omega) (by omega) (zn8 _),w64 (n:=i + 1) (by omega)]
  have e:=zbv z48 (pour rows hh) noz h0 (by omega)
  have f:=fill_l2 h hh p0 p1 G hG r C hr d k (i + 1) (by omega) (by omega) (by omega)
  rw [e] at f
  exact f
theorem fill_l1 (h : OkB rows draw noz weir spill) : ∀ (d k j : Nat),j + d = 41→d * (noz.length + 3) < k→
 ca_fill.l1 k (noz.map (gvz rows)) j rows draw noz weir spill rows draw noz weir spill ((List.range j).map fun (q : Nat)=>gat rows noz (q : Int)) = some (draw,weir,spill,grid rows noz)
 | 0,k,j,hj,hk=>by
  obtain ⟨k,rfl⟩:=ksucc (by omega : 0 < k)
  obtain rfl : j = 41:=by omega
  simp only [ca_fill.l1]
  rw [if_neg (by omega)]
  rfl
 | d + 1,k,j,hj,hk=>by
  rw [Nat.succ_mul] at hk
  obtain ⟨k,rfl⟩:=ksucc (by omega : 0 < k)
  simp only [ca_fill.l1]
  rw [if_pos (by omega)]
  refine fill_l2 h j (by omega) (by omega) _ (by simp;omega) _ (d * (noz.length + 3) + 1) (fun k' hk'=>?_) noz.length k 0 (by omega) (by omega) (by omega)
  have f:=fill_l1 h d k' (j + 1) (by omega) (by omega)
  rw [List.range_succ,List.map_append] at f
  exact f
theorem fill_l0 (h : OkB rows draw noz weir spill) : ∀ (d k : Nat) (i : Int),0≤i→i + d = noz.length→41 * (noz.length + 3) + d + 5 < k→
 ca_fill.l0 k ((noz.take i.toNat).map (gvz rows)) noz noz.length i rows draw noz weir spill rows draw noz weir spill = some (draw,weir,spill,grid rows noz)
 | 0,k,i,h0,hi,hk=>by
  obtain ⟨k,rfl⟩:=ksucc (by omega : 0 < k)
  simp only [ca_fill.l0]
  rw [if_neg (by omega),List.take_of_length_le (by omega)]
  exact fill_l1 h 41 k 0 (by omega) (by omega)
 | d + 1,k,i,h0,hi,hk=>by
  obtain ⟨k,rfl⟩:=ksucc (by omega : 0 < k)
  have n2:=h.n2
  simp only [ca_fill.l0]
  rw [if_pos (by omega),if_pos h0,if_pos (by omega),Gives1_eq h (z_mem h0 (by omega)) (by omega),Option.bind_some,if_pos (by rw [List.length_map,List.length_take];omega),w64 (by omega)]
  have e:=zbv z48 (gvz rows) noz h0 (by omega)
  have f:=fill_l0 h d k (i + 1) (by omega) (by omega) (by omega)
  rw [e] at f
  exact f
theorem fill_eq (h : OkB rows draw noz weir spill) {k : Nat} (hk : 400≤k) : ca_fill.f k rows draw noz weir spill = some (draw,weir,spill,grid rows noz):=
 fill_l0 h noz.length k 0 (by omega) (by omega) (by have:=h.n2;omega)
theorem fillK_eq (h : OkB rows draw noz weir spill) : ca_fill.f (fillK noz.length) rows draw noz weir spill = some (draw,weir,spill,grid rows noz):=
 fill_l0 h noz.length _ 0 (by omega) (by omega) (by unfold fillK;omega)
def over (weir spill h : Int) : Int:=spill * mx 0 (h - weir)
def tot (rows : List S126) (noz : List S48) (weir spill h : Int) : Int:=(gat rows noz h).sum + over weir spill h
theorem zjq (h : OkB rows draw noz weir spill) {x : Int} (h0 : 0≤x) (h1 : x≤40) : 0≤over weir spill x∧over weir spill x≤4000:=by
 have a:=h.s0;have b:=h.s1;have c:=h.w0
 unfold over
 have m : 0≤mx 0 (x - weir)∧mx 0 (x - weir)≤40:=by unfold mx;split<;>omega
 exact ⟨Int.mul_nonneg a m.1,by have:=Int.mul_le_mul b m.2 m.1 (by omega : (0 : Int)≤100);omega⟩
theorem gat_in (h : OkB rows draw noz weir spill) (x : Int) : ∀ y ∈ gat rows noz x,0≤y∧y≤1000:=by
 intro y hy
 unfold gat at hy
 obtain ⟨z,hz,rfl⟩:=List.mem_map.1 hy
 exact pour_in h hz x
theorem zvb (x : Int) : (gat rows noz x).length = noz.length:=by simp [gat]
theorem sum_nn {l : List Int} (h : ∀ x ∈ l,0≤x) : 0≤l.sum:=by
 induction l with
 | nil=>simp
 | cons x l ih=>rw [List.sum_cons];have:=h x (by simp);have:=ih (fun y hy=>h y (by simp [hy]));omega
theorem zpc (h : OkB rows draw noz weir spill) (x : Int) : 0≤(gat rows noz x).sum∧(gat rows noz x).sum≤6000:=by
 have a:=gat_in h x
 have b:=sum_bd (l:=gat rows noz x) (B:=1000) (by omega) (fun y hy=>by have:=a y hy;omega)
 rw [zvb] at b
 have:=h.n2
 exact ⟨sum_nn (fun y hy=>(a y hy).1),by omega⟩
theorem tot_in (h : OkB rows draw noz weir spill) {x : Int} (h0 : 0≤x) (h1 : x≤40) : 0≤tot rows noz weir spill x∧tot rows noz weir spill x≤10000:=by
 have a:=zpc h x
 have b:=zjq h h0 h1
 unfold tot
 omega
theorem weir_eq (h : OkB rows draw noz weir spill) {x : Int} (h0 : 0≤x) (h1 : x≤40) : gf_weir.f rows draw noz weir spill (grid rows noz) x = some (over weir spill x):=by
 have a:=zjq h h0 h1
 have c:=h.w0;have c1:=h.w1
 unfold gf_weir.f
 rw [w64 (n:=x - weir) (by omega),w64 (n:=spill * _) (by unfold over at a;omega)]
 rfl
theorem out_eq (h : OkB rows draw noz weir spill) {x : Int} (h0 : 0≤x) (h1 : x≤40) : gf_out.f rows draw noz weir spill (grid rows noz) x = some (tot rows noz weir spill x):=by
 have a:=gat_in h x
 have b:=zjq h h0 h1
 have c:=zpc h x
 unfold gf_out.f gf_nozzles.f
 rw [if_pos h0,if_pos (by rw [zbq];omega),grid_at _ _ h0 h1,csum (by rw [zvb];have:=h.n2;omega) (fun y hy=>by have:=a y hy;omega) (by omega),weir_eq h h0 h1]
 simp only [Option.bind_some]
 rw [w64 (n:=(gat rows noz x).sum) (by omega),w64 (by omega)]
 rfl
theorem mm_mono {a b : Int} (h : a≤b) : mx 0 (mn 5 a)≤mx 0 (mn 5 b):=by unfold mx mn;(repeat' split)<;>omega
theorem zp5 (h : OkB rows draw noz weir spill) {z : S48} (hz : z ∈ noz) {a b : Int} (hab : a≤b) : pour rows a z≤pour rows b z:=by
 have g:=gvz_in h hz
 unfold pour
 exact Int.ediv_le_ediv (by omega) (Int.mul_le_mul_of_nonneg_left (mm_mono (by omega)) (by omega))
theorem zbd {f g : S48→Int} : ∀ {l : List S48},(∀ z ∈ l,f z≤g z)→(l.map f).sum≤(l.map g).sum
 | [],_=>by simp
 | z :: l,h=>by
  simp only [List.map_cons,List.sum_cons]
  have:=h z (by simp)
  have:=zbd (l:=l) (fun y hy=>h y (by simp [hy]))
  omega
theorem over_mono (h : OkB rows draw noz weir spill) {a b : Int} (hab : a≤b) : over weir spill a≤over weir spill b:=by
 unfold over
 exact Int.mul_le_mul_of_nonneg_left (by unfold mx;(repeat' split)<;>omega) h.s0
theorem tot_mono (h : OkB rows draw noz weir spill) {a b : Int} (hab : a≤b) : tot rows noz weir spill a≤tot rows noz weir spill b:=by
 have:=over_mono h hab
 have:=zbd (f:=pour rows a) (g:=pour rows b) (l:=noz) (fun z hz=>zp5 h hz hab)
 unfold tot gat
 omega
theorem zns (h : OkB rows draw noz weir spill) : tot rows noz weir spill 0 = 0:=by
 have e : gat rows noz 0 = noz.map (fun _=>0):=by
  unfold gat
  refine List.map_congr_left fun z hz=>?_
  have a:=h.nn z hz
  unfold pour
  rw [show mx 0 (mn 5 (0 - z.f1)) = 0 by unfold mx mn;(repeat' split)<;>omega]
  simp
 have s : ∀ l : List S48,(l.map (fun _=>(0 : Int))).sum = 0:=by
  intro l
  induction l with
  | nil=>rfl
  | cons z l ih=>simp only [List.map_cons,List.sum_cons,ih];rfl
 have o : over weir spill 0 = 0:=by
  have:=h.w0
  unfold over
  rw [show mx 0 (0 - weir) = 0 by unfold mx;split<;>omega]
  simp
 unfold tot
 rw [e,s,o]
 rfl
def Lev (rows : List S126) (noz : List S48) (weir spill cups h : Int) : Prop:=0≤h∧h≤40∧tot rows noz weir spill h≤cups∧(h < 40→cups < tot rows noz weir spill (h + 1))
theorem Lev.uniq (h : OkB rows draw noz weir spill) {cups a b : Int} (ha : Lev rows noz weir spill cups a) (hb : Lev rows noz weir spill cups b) : a = b:=by
 obtain ⟨a0,a1,a2,a3⟩:=ha
 obtain ⟨b0,b1,b2,b3⟩:=hb
 rcases Int.lt_trichotomy a b with l | l | l
 ·have:=a3 (by omega)
  have:=tot_mono h (show a + 1≤b by omega)
  omega
 ·exact l
 ·have:=b3 (by omega)
  have:=tot_mono h (show b + 1≤a by omega)
  omega
theorem zm4 (h : OkB rows draw noz weir spill) {cups : Int} : ∀ (n : Nat) (i : Int),0≤i→i + n = 41→(0 < i→tot rows noz weir spill (i - 1)≤cups)→0≤cups→
 ∃ r,zkp rows draw noz weir spill (grid rows noz) cups n i (mx 0 (i - 1)) = some r∧Lev rows noz weir spill cups r
 | 0,i,h0,hi,hp,hc=>by
  obtain rfl : i = 41:=by omega
  exact ⟨_,rfl,by unfold mx;split<;>omega,by unfold mx;split<;>omega,hp (by omega),fun hh=>absurd hh (by unfold mx;split<;>omega)⟩
 | n + 1,i,h0,hi,hp,hc=>by
  simp only [zkp]
  rw [out_eq h h0 (by omega),Option.bind_some]
  by_cases g : tot rows noz weir spill i > cups
  ·rw [if_pos g]
   have i0 : 0 < i:=by
    rcases Int.lt_or_eq_of_le h0 with l | l
    ·exact l
    ·rw [← l,zns h] at g;omega
   have e : mx 0 (i - 1) = i - 1:=by unfold mx;split<;>omega
   rw [e]
   exact ⟨_,rfl,by omega,by omega,hp i0,fun _=>by rw [show i - 1 + 1 = i by omega];exact g⟩
  ·rw [if_neg g]
   obtain ⟨r,hr,hl⟩:=zm4 h n (i + 1) (by omega) (by omega) (fun _=>by rw [show i + 1 - 1 = i by omega];omega) hc
   rw [show mx 0 (i + 1 - 1) = i by unfold mx;split<;>omega] at hr
   exact ⟨r,hr,hl⟩
theorem level_eq (h : OkB rows draw noz weir spill) {cups : Int} (hc : 0≤cups) : ∃ r,gf_level.f rows draw noz weir spill (grid rows noz) cups = some r∧Lev rows noz weir spill cups r:=by
 unfold gf_level.f
 rw [zbq]
 have:=zm4 h (cups:=cups) 41 0 (by omega) (by omega) (fun h=>by omega) hc
 simpa [mx] using this
end
def shGo : List Int→List Int→Int→List Int × Int
 | x :: l,y :: n,r=>((x + mn r (y - x)) :: (shGo l n (r - mn r (y - x))).1,(shGo l n (r - mn r (y - x))).2)
 | l,_,r=>(l,r)
def zmx : List Int→List Int→Prop
 | x :: l,y :: n=>(0≤x∧x≤y∧y≤1000)∧zmx l n
 | [],[]=>True
 | _,_=>False
theorem mn_in {r d : Int} (h0 : 0≤r) (h1 : 0≤d) : 0≤mn r d∧mn r d≤r∧mn r d≤d:=by unfold mn;split<;>omega
theorem shGo_in : ∀ {l n : List Int} {r : Int},zmx l n→0≤r→(∀ x ∈ (shGo l n r).1,0≤x∧x≤1000)∧0≤(shGo l n r).2∧(shGo l n r).2≤r∧(shGo l n r).1.length = l.length∧(shGo l n r).1.sum + (shGo l n r).2 = l.sum + r
 | [],[],r,_,hr=>by simp [shGo];omega
 | x :: l,y :: n,r,h,hr=>by
  have m:=mn_in (r:=r) (d:=y - x) hr (by have:=h.1;omega)
  have ih:=shGo_in (r:=r - mn r (y - x)) h.2 (by omega)
  have hx:=h.1
  simp only [shGo,List.length_cons,List.sum_cons]
  refine ⟨fun z hz=>?_,ih.2.1,by omega,by rw [ih.2.2.2.1],by omega⟩
  rcases List.mem_cons.1 hz with rfl | hz
  ·omega
  ·exact ih.1 z hz
 | [],_ :: _,_,h,_=>h.elim
 | _ :: _,[],_,h,_=>h.elim
theorem zmu (P : List Int) (x : Int) (l : List Int) : rd (P ++ x :: l) (P.length : Int) = x:=by simp [rd]
theorem znx {α : Type} (P : List α) (x v : α) (l : List α) : (P ++ x :: l).set (P.length : Int).toNat v = P ++ [v] ++ l:=by simp
theorem sh_go {cups : Int} (hc0 : 0≤cups) (hc1 : cups≤10000) : ∀ (l n P Q : List Int) (r : Int) (k : Nat),zmx l n→P.length = Q.length→(∀ x ∈ P,0≤x∧x≤1000)→P.length + l.length≤100→0≤r→r≤10000→P.length + 2 * l.length + 2 < k→
 gf_shares.l0 k cups (P ++ l) r (Q ++ n) (Q ++ n).length P.length = some (P ++ (shGo l n r).1,cups - (P ++ (shGo l n r).1).sum)
 | [],[],P,Q,r,k,_,hPQ,hP,hl,hr0,hr1,hk=>by
  obtain ⟨k,rfl⟩:=ksucc (by omega : 0 < k)
  simp only [gf_shares.l0,shGo,List.append_nil]
  rw [if_neg (by omega)]
  simp only [List.length_nil] at hl hk
  rw [csum (by omega) (fun x hx=>by have:=hP x hx;omega) (by omega)]
  have s:=sum_bd (l:=P) (B:=1000) (by omega) (fun x hx=>by have:=hP x hx;omega)
  simp only [Option.bind_some]
  rw [w64 (by omega)]
 | x :: l,y :: n,P,Q,r,k,h,hPQ,hP,hl,hr0,hr1,hk=>by
  obtain ⟨k,rfl⟩:=ksucc (by omega : 0 < k)
  simp only [List.length_cons] at hl hk
  have hx:=h.1
  have m:=mn_in (r:=r) (d:=y - x) hr0 (by omega)
  simp only [gf_shares.l0]
  have e : rd (Q ++ y :: n) (P.length : Int) = y:=by rw [hPQ];exact zmu Q y n
  rw [if_pos (by rw [List.length_append,List.length_cons];omega),if_pos (by omega),if_pos (by rw [List.length_append,List.length_cons];omega),if_pos (by rw [List.length_append,List.length_cons];omega),zmu,e,w64 (n:=y - x) (by omega),w64 (n:=x + _) (by omega),w64 (n:=r - _) (by omega),w64 (n:=(P.length : Int) + 1) (by omega),znx]
  have ih:=sh_go hc0 hc1 l n (P ++ [x + mn r (y - x)]) (Q ++ [y]) (r - mn r (y - x)) k h.2 (by simp [hPQ]) (fun z hz=>by
   rcases List.mem_append.1 hz with hz | hz
   ·exact hP z hz
   ·simp at hz;omega) (by simp;omega) (by omega) (by omega) (by simp;omega)
  have e2 : Q ++ y :: n = Q ++ [y] ++ n:=by simp
  rw [e2,show (P.length : Int) + 1 = ((P ++ [x + mn r (y - x)]).length : Int) by simp,ih]
  simp [shGo]
 | [],_ :: _,_,_,_,_,h,_,_,_,_,_,_=>h.elim
 | _ :: _,[],_,_,_,_,h,_,_,_,_,_,_=>h.elim
section
variable {rows : List S126} {draw : Int} {noz : List S48} {weir spill : Int}
def levN (rows : List S126) (noz : List S48) (weir spill cups : Int) : Nat→Int
 | 0=>0
 | n + 1=>if tot rows noz weir spill ((n : Int) + 1)≤cups then (n : Int) + 1 else levN rows noz weir spill cups n
def lev (rows : List S126) (noz : List S48) (weir spill cups : Int) : Int:=levN rows noz weir spill cups 40
theorem levN_is (h : OkB rows draw noz weir spill) {cups : Int} (hc : 0≤cups) : ∀ n : Nat,n≤40→(n < 40→cups < tot rows noz weir spill ((n : Int) + 1))→Lev rows noz weir spill cups (levN rows noz weir spill cups n)
 | 0,_,hn=>⟨by simp [levN],by simp [levN],by simp [levN,zns h,hc],fun _=>by simpa [levN] using hn (by omega)⟩
 | n + 1,h1,hn=>by
  unfold levN
  by_cases g : tot rows noz weir spill ((n : Int) + 1)≤cups
  ·rw [if_pos g]
   exact ⟨by omega,by omega,g,fun _=>by have:=hn (by omega);rw [Int.natCast_add] at this;exact this⟩
  ·rw [if_neg g]
   exact levN_is h hc n (by omega) (fun _=>by omega)
theorem zp9 (h : OkB rows draw noz weir spill) {cups : Int} (hc : 0≤cups) : Lev rows noz weir spill cups (lev rows noz weir spill cups):=levN_is h hc 40 (by omega) (fun h=>by omega)
theorem level_lev (h : OkB rows draw noz weir spill) {cups : Int} (hc : 0≤cups) : gf_level.f rows draw noz weir spill (grid rows noz) cups = some (lev rows noz weir spill cups):=by
 obtain ⟨r,hr,hl⟩:=level_eq h hc
 rw [hr,hl.uniq h (zp9 h hc)]
def zw7 (rows : List S126) (noz : List S48) (weir spill cups : Int) : List Int:=
 if lev rows noz weir spill cups < 40 then (shGo (gat rows noz (lev rows noz weir spill cups)) (gat rows noz (lev rows noz weir spill cups + 1)) (cups - tot rows noz weir spill (lev rows noz weir spill cups))).1 else gat rows noz (lev rows noz weir spill cups)
theorem zgq (h : OkB rows draw noz weir spill) {a b : Int} (hab : a≤b) : zmx (gat rows noz a) (gat rows noz b):=by
 have : ∀ l : List S48,(∀ z ∈ l,z ∈ noz)→zmx (l.map (pour rows a)) (l.map (pour rows b)):=by
  intro l
  induction l with
  | nil=>intro _;trivial
  | cons z l ih =>
   intro hl
   have hz:=hl z (by simp)
   exact ⟨⟨(pour_in h hz a).1,zp5 h hz hab,(pour_in h hz b).2⟩,ih (fun y hy=>hl y (by simp [hy]))⟩
 exact this noz (fun _ hz=>hz)
theorem zxs (h : OkB rows draw noz weir spill) {cups : Int} (hc : 0≤cups) : (∀ x ∈ zw7 rows noz weir spill cups,0≤x∧x≤1000)∧(zw7 rows noz weir spill cups).length = noz.length:=by
 have L:=zp9 h hc
 unfold zw7
 by_cases g : lev rows noz weir spill cups < 40
 ·rw [if_pos g]
  have a:=shGo_in (r:=cups - tot rows noz weir spill (lev rows noz weir spill cups)) (zgq h (show lev rows noz weir spill cups≤lev rows noz weir spill cups + 1 by omega)) (by have:=L.2.2.1;omega)
  exact ⟨a.1,by rw [a.2.2.2.1,zvb]⟩
 ·rw [if_neg g]
  exact ⟨gat_in h _,zvb _⟩
theorem clone_int {l : List Int} (hl : l.length≤1000) : sl_Clone_int.f l = some l:=by unfold sl_Clone_int.f;rw [if_pos (by omega)]
theorem zpr (h : OkB rows draw noz weir spill) {cups : Int} (hc0 : 0≤cups) (hc1 : cups≤10000) {k : Nat} (hk : 20≤k) :
 gf_shares.f k rows draw noz weir spill (grid rows noz) cups = some (zw7 rows noz weir spill cups,cups - (zw7 rows noz weir spill cups).sum):=by
 have L:=zp9 h hc0
 have n2:=h.n2
 have t0:=tot_in h L.1 L.2.1
 have B:=zxs h hc0
 have s:=sum_bd (l:=zw7 rows noz weir spill cups) (B:=1000) (by omega) (fun x hx=>by have:=B.1 x hx;omega)
 rw [B.2] at s
 unfold gf_shares.f
 rw [level_lev h hc0,Option.bind_some,if_pos L.1,if_pos (by rw [zbq];have:=L.2.1;omega),grid_at _ _ L.1 L.2.1,clone_int (by rw [zvb];omega),Option.bind_some]
 unfold zw7
 by_cases g : lev rows noz weir spill cups < 40
 ·rw [if_pos g,if_pos g,out_eq h L.1 L.2.1,Option.bind_some,w64 (n:=_ + 1) (by have:=L.1;omega),if_pos (by have:=L.1;omega),if_pos (by rw [zbq];omega),grid_at _ _ (by have:=L.1;omega) (by omega),w64 (by omega)]
  have f:=sh_go hc0 hc1 (gat rows noz (lev rows noz weir spill cups)) (gat rows noz (lev rows noz weir spill cups + 1)) [] [] (cups - tot rows noz weir spill (lev rows noz weir spill cups)) k (zgq h (by omega)) rfl (fun x hx=>by simp at hx) (by simp [zvb];omega) (by have:=L.2.2.1;omega) (by omega) (by simp [zvb];omega)
  simpa using f
 ·rw [if_neg g,if_neg g]
  have a:=gat_in h (lev rows noz weir spill cups)
  rw [csum (by rw [zvb];omega) (fun x hx=>by have:=a x hx;omega) (by rw [zvb];omega),Option.bind_some]
  have c:=zpc h (lev rows noz weir spill cups)
  rw [w64 (by omega)]
theorem cShares_eq (hl : rows.length≤1000) {cups : Int} {k : Nat} (hk : 410≤k) : ca_Shares.f k rows draw noz weir spill cups =
 if okB rows draw noz weir spill = true∧0≤cups∧cups≤10000 then some (zw7 rows noz weir spill cups,cups - (zw7 rows noz weir spill cups).sum,0) else some ([],0,2):=by
 obtain ⟨k,rfl⟩:=ksucc (by omega : 0 < k)
 unfold ca_Shares.f
 rw [zjx hl,Option.bind_some]
 cases hb : okB rows draw noz weir spill with
 | false=>simp [ca_Shares.j0]
 | true =>
  have h:=zgd.1 hb
  rw [if_pos rfl,c_flow,Option.bind_some]
  by_cases c : 0≤cups∧cups≤10000
  ·rw [decide_eq_true c]
   simp only [ca_Shares.j0,Bool.not_true]
   rw [if_neg (by decide),fill_eq h (by omega),Option.bind_some,zpr h c.1 c.2 (by omega),Option.bind_some,if_pos ⟨trivial,c⟩]
  ·rw [decide_eq_false c]
   simp only [ca_Shares.j0,Bool.not_false]
   rw [if_pos trivial,if_neg (fun q=>c q.2)]
def setH (noz : List S48) (l : List Int) : List S48:=List.zipWith (fun z x=>(⟨z.f0,x⟩ : S48)) noz l
theorem clone_z {l : List S48} (hl : l.length≤1000) : sl_Clone_Z.f l = some l:=by unfold sl_Clone_Z.f;rw [if_pos (by omega)]
theorem rdz_app (P : List S48) (x : S48) (l : List S48) : zql (P ++ x :: l) (P.length : Int) = x:=by simp [zql]
theorem moved_go (rows : List S126) (draw weir spill : Int) : ∀ (l Q : List Int) (z P : List S48) (k : Nat),l.length = z.length→Q.length = P.length→P.length + z.length≤1000→z.length < k→
 ca_moved.l0 k (Q ++ l) (Q ++ l).length P.length rows draw (P ++ z) weir spill = some (draw,P ++ setH z l,weir,spill)
 | [],Q,[],P,k,_,hQ,hl,hk=>by
  obtain ⟨k,rfl⟩:=ksucc (by omega : 0 < k)
  simp only [ca_moved.l0,List.append_nil,setH,List.zipWith_nil_left]
  rw [if_neg (by omega)]
 | x :: l,Q,y :: z,P,k,hlz,hQ,hl,hk=>by
  simp only [List.length_cons] at hl hk hlz
  obtain ⟨k,rfl⟩:=ksucc (by omega : 0 < k)
  simp only [ca_moved.l0]
  have e : rd (Q ++ x :: l) (P.length : Int) = x:=by rw [← hQ];exact zmu Q x l
  rw [if_pos (by rw [List.length_append,List.length_cons];omega),if_pos (by omega),if_pos (by rw [List.length_append,List.length_cons];omega),if_pos (by rw [List.length_append,List.length_cons];omega),w64 (by omega),rdz_app,e,znx]
  have ih:=moved_go rows draw weir spill l (Q ++ [x]) z (P ++ [⟨y.f0,x⟩]) k (by omega) (by simp [hQ]) (by simp;omega) (by omega)
  have e2 : Q ++ x :: l = Q ++ [x] ++ l:=by simp
  rw [e2,show (P.length : Int) + 1 = ((P ++ [(⟨y.f0,x⟩ : S48)]).length : Int) by simp,ih]
  simp [setH]
 | [],_,_ :: _,_,_,h,_,_,_=>by simp at h
 | _ :: _,_,[],_,_,h,_,_,_=>by simp at h
theorem moved_eq {l : List Int} (hl : l.length = noz.length) (hn : noz.length≤1000) {k : Nat} (hk : noz.length < k) : ca_moved.f k rows draw noz weir spill l = some (draw,setH noz l,weir,spill):=by
 unfold ca_moved.f
 rw [clone_z hn,Option.bind_some]
 exact moved_go rows draw weir spill l [] noz [] k hl rfl (by simpa using hn) hk
theorem zvx {l : List Int} (hl : l.length = noz.length) : (setH noz l).length = noz.length:=by simp [setH,hl]
theorem zb0 (h : OkB rows draw noz weir spill) {l : List Int} (hl : l.length = noz.length) (hz : ∀ x ∈ l,0≤x∧x≤40) : OkB rows draw (setH noz l) weir spill:=by
 refine ⟨h.r1,h.r2,h.tab,h.rr,by rw [zvx hl];exact h.n1,by rw [zvx hl];exact h.n2,h.w0,h.w1,h.s0,h.s1,fun z hm=>?_⟩
 unfold setH at hm
 obtain ⟨i,hi,rfl⟩:=List.mem_iff_getElem.1 hm
 rw [List.getElem_zipWith]
 simp only [List.length_zipWith] at hi
 have a:=h.nn _ (List.getElem_mem (show i < noz.length by omega))
 have b:=hz _ (List.getElem_mem (show i < l.length by omega))
 exact ⟨a.1,a.2.1,b.1,b.2⟩
theorem zbw (shares : List Int) : ∀ (claims : List Int) (i : Int),0≤i→i + claims.length≤shares.length→∃ b,sufGo shares claims i = some b
 | [],_,_,_=>⟨true,rfl⟩
 | n :: rest,i,h0,h=>by
  simp only [List.length_cons] at h
  simp only [sufGo]
  rw [if_pos (by omega)]
  by_cases g : rd shares i < n
  ·rw [if_pos g];exact ⟨false,rfl⟩
  ·rw [if_neg g];exact zbw shares rest (i + 1) (by omega) (by omega)
theorem zmm (h : OkB rows draw noz weir spill) {l claims : List Int} {cups : Int} (hl : l.length = noz.length) (hz : ∀ x ∈ l,0≤x∧x≤40) (hc0 : 0≤cups) (hc1 : cups≤10000) {k : Nat} (hk : 20≤k) :
 suffice.f k rows draw noz weir spill cups claims l = sufGo (zw7 rows (setH noz l) weir spill cups) claims 0:=by
 have h2:=zb0 h hl hz
 have n2:=h.n2
 unfold suffice.f
 rw [moved_eq hl (by omega) (by omega)]
 simp only [Option.bind_some]
 rw [fillK_eq h2]
 simp only [Option.bind_some]
 rw [zpr h2 hc0 hc1 hk]
 rfl
theorem znt (h : OkB rows draw noz weir spill) {l claims : List Int} {cups : Int} (hl : l.length = noz.length) (hz : ∀ x ∈ l,0≤x∧x≤40) (hc0 : 0≤cups) (hc1 : cups≤10000) {k : Nat} (hk : 20≤k) (hcl : claims.length = noz.length) :
 ∃ b,suffice.f k rows draw noz weir spill cups claims l = some b:=by
 rw [zmm h hl hz hc0 hc1 hk]
 exact zbw _ claims 0 (by omega) (by rw [(zxs (zb0 h hl hz) hc0).2,zvx hl];omega)
theorem rout_go (h : OkB rows draw noz weir spill) (x : Int) (x0 : 0≤x) (x1 : x≤40) : ∀ (d k : Nat) (i : Int),0≤i→i + d = noz.length→d < k→
 q4_Out.l0 k x ((noz.take i.toNat).map (pour rows x)) i rows draw noz weir spill = some (gat rows noz x,over weir spill x)
 | 0,k,i,h0,hi,hk=>by
  obtain ⟨k,rfl⟩:=ksucc hk
  have a:=zjq h x0 x1
  have c:=h.w0;have c1:=h.w1
  simp only [q4_Out.l0]
  rw [if_neg (by omega),List.take_of_length_le (by omega),w64 (n:=x - weir) (by omega),w64 (n:=spill * _) (by unfold over at a;omega)]
  rfl
 | d + 1,k,i,h0,hi,hk=>by
  obtain ⟨k,rfl⟩:=ksucc (by omega : 0 < k)
  have n2:=h.n2
  have hz:=z_mem h0 (by omega : i < noz.length)
  have a:=h.nn _ hz
  have g:=gvz_in h hz
  simp only [q4_Out.l0]
  rw [if_pos (by omega),if_pos h0,if_pos a.1,if_pos a.2.1,if_pos (by rw [List.length_map,List.length_take];omega),w64 (n:=x - _) (by omega),mm_swap]
  have e:=zbv z48 (pour rows x) noz h0 (by omega)
  have f:=rout_go h x x0 x1 d k (i + 1) (by omega) (by omega) (by omega)
  rw [e] at f
  have p : wrap64 (Int.tdiv (wrap64 ((zqw rows (zql noz i).f0).f2 * mx 0 (mn 5 (x - (zql noz i).f1)))) 5) = pour rows x (noz.getD i.toNat z48):=
   zp4 (g:=gvz rows (zql noz i)) (by omega) (by omega) (zn8 _)
  rw [p,w64 (n:=i + 1) (by omega)]
  exact f
theorem rout_eq (h : OkB rows draw noz weir spill) {x : Int} (x0 : 0≤x) (x1 : x≤40) {k : Nat} (hk : 10≤k) : q4_Out.f k rows draw noz weir spill x = some (gat rows noz x,over weir spill x):=
 rout_go h x x0 x1 noz.length k 0 (by omega) (by omega) (by have:=h.n2;omega)
theorem rtot_go (xs : List Int) (hl : xs.length≤1000) (hx : ∀ x ∈ xs,0≤x∧x≤1000) : ∀ (d k : Nat) (i acc : Int),0≤i→i + d = xs.length→d < k→0≤acc→acc≤4000 + 1000 * i→
 q4_Total.l0 k xs acc i = some (acc + (xs.drop i.toNat).sum)
 | 0,k,i,acc,h0,hi,hk,hb,hb2=>by
  obtain ⟨k,rfl⟩:=ksucc hk
  simp only [q4_Total.l0]
  rw [if_neg (by omega),List.drop_of_length_le (by omega)]
  simp
 | d + 1,k,i,acc,h0,hi,hk,hb,hb2=>by
  obtain ⟨k,rfl⟩:=ksucc (by omega : 0 < k)
  simp only [q4_Total.l0]
  have e:=zj2 (0 : Int) xs i h0 (by omega)
  have m:=hx _ (zwz (0 : Int) h0 (by omega : i < xs.length))
  rw [if_pos (by omega),if_pos h0]
  unfold rd
  rw [w64 (n:=acc + _) (by omega),w64 (by omega),rtot_go xs hl hx d k (i + 1) _ (by omega) (by omega) (by omega) (by omega) (by omega),e,List.sum_cons,Int.add_assoc]
theorem rtot_eq (h : OkB rows draw noz weir spill) {x : Int} (x0 : 0≤x) (x1 : x≤40) {k : Nat} (hk : 10≤k) : q4_Total.f k rows draw noz weir spill x = some (tot rows noz weir spill x):=by
 have a:=gat_in h x
 have b:=zjq h x0 x1
 have n2:=h.n2
 unfold q4_Total.f
 rw [rout_eq h x0 x1 hk,Option.bind_some,rtot_go _ (by rw [zvb];omega) a noz.length k 0 _ (by omega) (by rw [zvb];omega) (by omega) (by omega) (by omega)]
 simp only [Int.toNat_zero,List.drop_zero]
 unfold tot
 rw [Int.add_comm]
theorem zpq (h : OkB rows draw noz weir spill) {cups : Int} (hc : 0≤cups) : ∀ (n k : Nat),n≤40→(n < 40→cups < tot rows noz weir spill ((n : Int) + 1))→n + 11≤k→
 q4_Stands.l0 k cups n rows draw noz weir spill = some (lev rows noz weir spill cups)
 | n,k,h1,hn,hk=>by
  obtain ⟨k,rfl⟩:=ksucc (by omega : 0 < k)
  simp only [q4_Stands.l0]
  rw [rtot_eq h (by omega) (by omega) (by omega),Option.bind_some]
  by_cases g : tot rows noz weir spill (n : Int) > cups
  ·rw [if_pos g]
   cases n with
   | zero=>rw [show ((0 : Nat) : Int) = 0 from rfl,zns h] at g;omega
   | succ n =>
    rw [w64 (by omega),show ((n + 1 : Nat) : Int) - 1 = (n : Int) by omega]
    exact zpq h hc n k (by omega) (fun _=>by rw [Int.natCast_add] at g;exact g) (by omega)
  ·rw [if_neg g]
   have : Lev rows noz weir spill cups (n : Int):=⟨by omega,by omega,by omega,fun _=>hn (by omega)⟩
   rw [this.uniq h (zp9 h hc)]
theorem stands_eq (h : OkB rows draw noz weir spill) {cups : Int} (hc : 0≤cups) {k : Nat} (hk : 51≤k) : q4_Stands.f k rows draw noz weir spill cups = some (lev rows noz weir spill cups):=
 zpq h hc 40 k (by omega) (fun h=>by omega) (by omega)
end
def ca_Mends.f (lA : List S126) (aA : Int) (lB : List S48) (a0_3 aC : Int) (claims : List Int) (cups : Int) : Option (List Int × Int × Int):=
 if lA.length≤1000 then ca_MendsK.f 500 lA aA lB a0_3 aC claims cups else none
theorem ca_Mends.calls (AX : Option Addr) (c0_0 : Nat) (lA : List S126) (aA : Int) (AY : Option Addr) (cB : Nat) (lB : List S48) (a0_3 aC : Int) (A3 : Option Addr) (c3 : Nat) (claims : List Int) (cups : Int) (r1 : List Int) (r2 r3 : Int) (w : World) (hra : Kd.C k126 w AX lA.length lA) (hc0_0 : lA.length≤c0_0) (hrb : Kd.C k48 w AY lB.length lB) (hcb : lB.length≤cB) (hr3 : Kd.C (Kd.int .i64) w A3 claims.length claims) (hc3 : claims.length≤c3)
 (h : ca_Mends.f lA aA lB a0_3 aC claims cups = some (r1,r2,r3)) :
 Calls Tryz.prog 20 #[.agg #[.slice AX lA.length c0_0,.int .i64 aA,.slice AY lB.length cB,.int .i64 a0_3,.int .i64 aC],.slice A3 claims.length c3,.int .i64 cups] w (MendsPost r1 r2 r3 w):=by
 unfold ca_Mends.f at h
 split at h
 case isFalse=>cases h
 case isTrue hl =>
  have ok : ca_isBasin.f lA aA lB a0_3 aC = some true→OkB lA aA lB a0_3 aC:=fun hb=>zgd.1 (Option.some.inj ((zjx hl).symm.trans hb))
  refine ca_MendsK.calls 500 AX c0_0 lA aA AY cB lB a0_3 aC A3 c3 claims cups r1 r2 r3 w hra hc0_0 hrb hcb hr3 hc3 ?_ ?_ h
  ·intro hb
   have B:=ok hb
   refine ⟨fun z hz=>?_,B.n2⟩
   obtain ⟨y,hy,rfl⟩:=List.mem_map.1 hz
   exact (B.nn y hy).2.2
  ·intro hb hcl hf l hl hz
   have f:=of_decide_eq_true (Option.some.inj ((c_flow cups).symm.trans hf))
   exact znt (ok hb) hl hz f.1 f.2 (by decide) hcl
end Go.Proofs.YtnnmnhpeblhiiaaGreatDoor.C

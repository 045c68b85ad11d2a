/- A part of the proof: the walks of the functions that it reaches. TIGHT. -/
import Derived.Test.YtnnmnhpeblhiiaaGreatDoorMQ12
import Derived.Lib.Hide
import Derived.WideKeyRuns
import Derived.BigQuiet
import Derived.Laws.EntriesVeiled
set_option linter.unusedVariables false
set_option linter.unusedSimpArgs false
namespace Go.Proofs.YtnnmnhpeblhiiaaGreatDoor.C
open Go.RowKit Go.Proofs.YtnnmnhpeblhiiaaGreatDoorW.PrintWords Go.Proofs.YtnnmnhpeblhiiaaGreatDoorW.PrintLast Go.Proofs.YtnnmnhpeblhiiaaGreatDoorW.PrintMore
set_option linter.unusedVariables false
set_option linter.unusedSimpArgs false
set_option maxHeartbeats 16000000
set_option maxRecDepth 100000
section
attribute [local go_sem] max2_int min2_int max_two min_two
set_option linter.unusedSimpArgs false
end
set_option linter.unusedSimpArgs false
section
attribute [local go_sem] max2_int min2_int max_two min_two
set_option linter.unusedSimpArgs false
set_option linter.unusedSimpArgs false
set_option linter.unusedSimpArgs false
set_option linter.unusedSimpArgs false
set_option linter.unusedSimpArgs false
set_option linter.unusedSimpArgs false
set_option linter.unusedSimpArgs false
end
set_option linter.unusedSimpArgs false
section
attribute [local go_sem] max2_int min2_int max_two min_two
set_option linter.unusedSimpArgs false
set_option linter.unusedSimpArgs false
end
set_option linter.unusedSimpArgs false
def fillK (n : Nat) : Nat:=50 * (n + 2) + 100
section
variable {rows : List S126} {draw : Int} {noz : List S48} {weir spill : Int}
def over (weir spill h : Int) : Int:=spill * mx 0 (h - weir)
end
set_option linter.unusedSimpArgs false
section
attribute [local go_sem] max2_int min2_int max_two min_two
set_option linter.unusedSimpArgs false
end
set_option linter.unusedSimpArgs false
set_option linter.unusedSimpArgs false
section
attribute [local go_sem] max2_int min2_int max_two min_two
set_option linter.unusedSimpArgs false
end
set_option linter.unusedSimpArgs false
section
attribute [local go_sem] max2_int min2_int max_two min_two
set_option linter.unusedSimpArgs false
end
def pairOk : List Int→List Int→Prop
 | x :: l,y :: n=>(0≤x∧x≤y∧y≤1000)∧pairOk l n
 | [],[]=>True
 | _,_=>False
section
variable {rows : List S126} {draw : Int} {noz : List S48} {weir spill : Int}
def setH (noz : List S48) (l : List Int) : List S48:=List.zipWith (fun z x=>(⟨z.f0,x⟩ : S48)) noz l
end
section
variable {rows : List S126} {draw : Int} {noz : List S48} {weir spill : Int}
end
section
variable {rows : List S126} {draw : Int} {noz : List S48} {weir spill : Int}
end
section
variable {rows : List S126} {draw : Int} {noz : List S48} {weir spill : Int}
end
def endL (c : Int) : ByteArray:=endB ++ itB (c.tdiv 100) ++ itB ((c.tdiv 10).tmod 10) ++ itB (c.tmod 10)
theorem sealGo_out : ∀ (xs : List ByteArray) (i : Int) (out : ByteArray) (chk : Int),ubl (sealGo xs i out chk).1 = ubl out ++ ((xs.map ubl).map (· ++ [10])).flatten
 | [],i,out,chk=>by simp [sealGo]
 | x :: xs,i,out,chk=>by
  simp only [sealGo,List.map_cons,List.flatten_cons]
  rw [sealGo_out xs,bl_app,bl_app]
  simp [nlB,ubl]
theorem last_bl (out : ByteArray) (c : Int) : ubl (lastB out c) = ubl out ++ (ubl (endL c) ++ [10]):=by
 unfold lastB endL
 simp [bl_app,nlB,ubl]
def clean (c : UInt8) (b : ByteArray) : Prop:=c ∉ ubl b
theorem clean_app {c : UInt8} {a b : ByteArray} (h : clean c a) (k : clean c b) : clean c (a ++ b):=by
 unfold clean at *
 rw [bl_app]
 simp [h,k]
theorem clean_it {c : UInt8} (hc : c.toNat < 48) {n : Int} (h : 0≤n) : clean c (itB n):=fun hx=>by
 have:=itB_digit h hx
 omega
theorem line_clean {wd : ByteArray} {a b : Int} (hw : clean 10 wd) (a0 : 0≤a) (b0 : 0≤b) : clean 10 (lineB wd a b):=by
 unfold lineB
 exact clean_app (clean_app hw (clean_app (by unfold clean spB ubl;decide) (clean_it (by decide) a0))) (clean_app (by unfold clean spB ubl;decide) (clean_it (by decide) b0))
theorem ca_clean (c : UInt8) (h : c = 10∨c = 32) : clean c castleB∧clean c nozzleB∧(c = 10→clean c endB):=by
 rcases h with rfl | rfl
 ·exact ⟨by unfold clean castleB ubl;decide,by unfold clean nozzleB ubl;decide,fun _=>by unfold clean endB ubl;decide⟩
 ·exact ⟨by unfold clean castleB ubl;decide,by unfold clean nozzleB ubl;decide,fun h=>by cases h⟩
theorem end_clean {c : Int} (c0 : 0≤c) : clean 10 (endL c):=by
 have q1 : Int.tdiv c 100 = c / 100:=Int.tdiv_eq_ediv_of_nonneg c0
 have q2 : Int.tdiv c 10 = c / 10:=Int.tdiv_eq_ediv_of_nonneg c0
 have q3 : Int.tmod c 10 = c % 10:=Int.tmod_eq_emod_of_nonneg c0
 have q4 : Int.tmod (c / 10) 10 = c / 10 % 10:=Int.tmod_eq_emod_of_nonneg (by omega)
 unfold endL
 rw [q1,q2,q3,q4]
 exact clean_app (clean_app (clean_app ((ca_clean 10 (.inl rfl)).2.2 rfl) (clean_it (by decide) (by omega))) (clean_it (by decide) (by omega))) (clean_it (by decide) (by omega))
theorem seal_cut {xs : List ByteArray} (hx : ∀ x ∈ xs,clean 10 x) {c : Int} (c0 : 0≤c) (i chk : Int) : cutL 10 (ubl (lastB (sealGo xs i ByteArray.empty chk).1 c)) = xs.map ubl ++ [ubl (endL c),[]]:=by
 rw [last_bl,sealGo_out]
 have : ubl ByteArray.empty = []:=rfl
 rw [this,List.nil_append,cutL_lines _ (fun l hl=>by obtain ⟨x,hx2,rfl⟩:=List.mem_map.1 hl;exact hx x hx2)]
 rw [cutL_app (end_clean c0)]
 rfl
theorem chk_nn : ∀ (xs : List ByteArray) (i : Int) (out : ByteArray) (chk : Int),0≤i→i + xs.length≤900→(∀ x ∈ xs,x.size≤1000)→0≤chk→chk≤255000000000 * i→0≤(sealGo xs i out chk).2
 | [],i,out,chk,h0,h1,hx,c0,c1=>c0
 | x :: xs,i,out,chk,h0,h1,hx,c0,c1=>by
  simp only [List.length_cons] at h1
  have hz:=hx x (by simp)
  have sb : sumBd x.size≤255000000000:=by unfold sumBd;omega
  have hs:=sum_in x i h0 (by omega) x.size 0 chk (by omega) (by omega) c0 (by omega)
  exact chk_nn xs (i + 1) _ _ (by omega) (by omega) (fun y hy=>hx y (by simp [hy])) (by omega) (by omega)
def chkC (weir spill : Int) (noz : List S48) : Int:=(sealGo (linesL weir spill noz) 0 ByteArray.empty 0).2.tmod 127
theorem lines_clean {weir spill : Int} {noz : List S48} (h : okN weir spill noz) : ∀ x ∈ linesL weir spill noz,clean 10 x:=by
 obtain ⟨h0,h1,h2⟩:=h
 intro x hx
 rcases List.mem_cons.1 hx with rfl | hx
 ·exact line_clean (ca_clean 10 (.inl rfl)).1 h1.1 h1.2.2.1
 ·obtain ⟨z,hz,rfl⟩:=List.mem_map.1 hx
  have:=h2 z hz
  exact line_clean (ca_clean 10 (.inl rfl)).2.1 this.1 this.2.2.1
theorem chkC_nn {weir spill : Int} {noz : List S48} (h : okN weir spill noz) : 0≤chkC weir spill noz∧chkC weir spill noz≤126:=by
 have hl:=h.1
 have:=chk_nn (linesL weir spill noz) 0 ByteArray.empty 0 (by omega) (by simp [linesL];omega) (fun x hx=>by have:=lines_size h x hx;omega) (by omega) (by omega)
 unfold chkC
 rw [Int.tmod_eq_emod_of_nonneg this]
 omega
theorem text_split {weir spill : Int} {noz : List S48} (h : okN weir spill noz) : splitF (ca_text.f weir spill noz) nlB = linesL weir spill noz ++ [endL (chkC weir spill noz),ByteArray.empty]:=by
 apply bls_inj
 have c:=seal_cut (lines_clean h) (chkC_nn h).1 0 0
 unfold chkC at c ⊢
 rw [splitF_cut _ nlB 10 rfl,text_seal,c]
 simp
 rfl
theorem line_split {wd : ByteArray} {a b : Int} (hw : clean 32 wd) (a0 : 0≤a) (b0 : 0≤b) : splitF (lineB wd a b) spB = [wd,itB a,itB b]:=by
 apply bls_inj
 rw [splitF_cut _ spB 32 rfl]
 have e : ubl (lineB wd a b) = ubl wd ++ 32 :: (ubl (itB a) ++ 32 :: ubl (itB b)):=by simp [lineB,bl_app,spB,ubl]
 rw [e,cutL_app hw,cutL_app (clean_it (by decide) a0),cutL_none (clean_it (by decide) b0)]
 rfl
theorem told_line {wd : ByteArray} {a b : Int} (hw : clean 32 wd) (a0 : 0≤a) (a1 : a≤999) (b0 : 0≤b) (b1 : b≤999) : toldF (lineB wd a b) wd = some (a,b):=by
 unfold toldF
 rw [line_split hw a0 b0]
 simp only [toldW,if_true]
 rw [numF_it a0 a1,numF_it b0 b1]
 rfl
def okP (weir spill : Int) (noz : List S48) : Prop:=noz.length≤800∧(0≤weir∧weir≤999∧0≤spill∧spill≤999)∧∀ z ∈ noz,0≤z.f0∧z.f0≤999∧0≤z.f1∧z.f1≤999
theorem okP.n {weir spill : Int} {noz : List S48} (h : okP weir spill noz) : okN weir spill noz:=⟨h.1,by have:=h.2.1;omega,fun z hz=>by have:=h.2.2 z hz;omega⟩
theorem rowsGo_eq : ∀ {noz : List S48},(∀ z ∈ noz,0≤z.f0∧z.f0≤999∧0≤z.f1∧z.f1≤999)→rowsGo (noz.map fun z=>lineB nozzleB z.f0 z.f1) = some noz
 | [],_=>rfl
 | z :: noz,h=>by
  have hz:=h z (by simp)
  simp only [List.map_cons,rowsGo]
  rw [told_line (ca_clean 32 (.inr rfl)).2.1 hz.1 hz.2.1 hz.2.2.1 hz.2.2.2,Option.bind_some,rowsGo_eq (fun y hy=>h y (by simp [hy]))]
  rfl
theorem parsed_text {weir spill : Int} {noz : List S48} (h : okP weir spill noz) : parsedF (ca_text.f weir spill noz) = some (weir,spill,noz):=by
 unfold parsedF
 rw [text_split h.n]
 unfold parsedW linesL
 have hl : (lineB castleB weir spill :: noz.map (fun z=>lineB nozzleB z.f0 z.f1) ++ [endL (chkC weir spill noz),ByteArray.empty]).length = noz.length + 3:=by simp
 rw [if_pos (by rw [hl];omega)]
 have g0 : (lineB castleB weir spill :: noz.map (fun z=>lineB nozzleB z.f0 z.f1) ++ [endL (chkC weir spill noz),ByteArray.empty]).getD 0 ByteArray.empty = lineB castleB weir spill:=rfl
 have g1 : ((lineB castleB weir spill :: noz.map (fun z=>lineB nozzleB z.f0 z.f1) ++ [endL (chkC weir spill noz),ByteArray.empty]).drop 1).take ((lineB castleB weir spill :: noz.map (fun z=>lineB nozzleB z.f0 z.f1) ++ [endL (chkC weir spill noz),ByteArray.empty]).length - 3) = noz.map (fun z=>lineB nozzleB z.f0 z.f1):=by
  rw [hl,List.cons_append,List.drop_succ_cons,List.drop_zero,Nat.add_sub_cancel,List.take_append_of_le_length (by simp),List.take_of_length_le (by simp)]
 rw [g0,g1,told_line (ca_clean 32 (.inr rfl)).1 h.2.1.1 h.2.1.2.1 h.2.1.2.2.1 h.2.1.2.2.2,Option.bind_some,rowsGo_eq h.2.2,Option.bind_some,if_pos rfl]
theorem okB_P {rows : List S126} {draw : Int} {noz : List S48} {weir spill : Int} (h : okB rows draw noz weir spill = true) : okP weir spill noz∧noz.length≤6∧weir≤40∧spill≤100∧∀ z ∈ noz,z.f0≤11∧z.f1≤40:=by
 have hB:=okB_iff.1 h
 unfold okB at h
 simp only [Bool.and_eq_true,decide_eq_true_eq] at h
 have n2:=hB.n2
 have r2:=hB.r2
 have hz : ∀ z ∈ noz,0≤z.f0∧z.f0≤11∧0≤z.f1∧z.f1≤40:=fun z hz=>by
  have:=List.all_eq_true.1 h.2.2.2.2 z hz
  unfold nozOk at this
  simp only [Bool.and_eq_true,decide_eq_true_eq] at this
  omega
 refine ⟨⟨by omega,by omega,fun z hm=>by have:=hz z hm;omega⟩,by omega,by omega,by omega,fun z hm=>by have:=hz z hm;omega⟩
theorem textP_eq {rows : List S126} {draw : Int} {noz : List S48} {weir spill : Int} (h : okB rows draw noz weir spill = true) : ca_textP.f rows draw noz weir spill = some (ca_text.f weir spill noz):=by
 have p:=(okB_P h).1
 unfold ca_textP.f
 rw [if_pos ⟨by have:=p.1;omega,by have:=p.2.1;omega,List.all_eq_true.2 fun z hz=>by have:=p.2.2 z hz;simp only [smallN,decide_eq_true_eq];omega⟩]
theorem cPrint_eq {rows : List S126} {draw : Int} {noz : List S48} {weir spill : Int} (hl : rows.length≤1000) : ca_Print.f rows draw noz weir spill = some (if okB rows draw noz weir spill = true then (ca_text.f weir spill noz,0) else (⟨#[]⟩,2)):=by
 unfold ca_Print.f
 rw [isBasin_eq hl,Option.bind_some]
 cases h : okB rows draw noz weir spill with
 | false=>rfl
 | true=>rw [if_pos rfl,textP_eq h];rfl
theorem st_go (rows : List S126) (d1 d2 : Int) (hl : rows.length≤1000) : ∀ (d k : Nat) (i : Int),0≤i→i + d = rows.length→d < k→q3_SameTables.l0 k i rows d1 rows d2 = some true
 | 0,k,i,h0,h1,hk=>by
  obtain ⟨k,rfl⟩:=ksucc (by omega : 0 < k)
  simp only [q3_SameTables.l0]
  rw [if_neg (by omega)]
 | d + 1,k,i,h0,h1,hk=>by
  obtain ⟨k,rfl⟩:=ksucc (by omega : 0 < k)
  simp only [q3_SameTables.l0]
  rw [if_pos (by omega),if_pos h0,if_pos (by omega),if_neg (by simp),w64 (n:=i + 1) (by omega)]
  exact st_go rows d1 d2 hl d k (i + 1) (by omega) (by omega) (by omega)
theorem sb_go (rows : List S126) (draw : Int) (noz : List S48) (weir spill : Int) (hl : noz.length≤1000) : ∀ (d k : Nat) (i : Int),0≤i→i + d = noz.length→d < k→q4_SameBasins.l0 k i rows draw noz weir spill rows draw noz weir spill = some true
 | 0,k,i,h0,h1,hk=>by
  obtain ⟨k,rfl⟩:=ksucc (by omega : 0 < k)
  simp only [q4_SameBasins.l0]
  rw [if_neg (by omega)]
 | d + 1,k,i,h0,h1,hk=>by
  obtain ⟨k,rfl⟩:=ksucc (by omega : 0 < k)
  simp only [q4_SameBasins.l0]
  rw [if_pos (by omega),if_pos h0,if_pos (by omega),if_neg (by simp),w64 (n:=i + 1) (by omega)]
  exact sb_go rows draw noz weir spill hl d k (i + 1) (by omega) (by omega) (by omega)
theorem sb_refl {rows : List S126} {draw : Int} {noz : List S48} {weir spill : Int} (hr : rows.length≤1000) (hl : noz.length≤1000) {k : Nat} (hk : rows.length + noz.length + 3≤k) : q4_SameBasins.f k rows draw noz weir spill rows draw noz weir spill = some true:=by
 obtain ⟨k,rfl⟩:=ksucc (by omega : 0 < k)
 unfold q4_SameBasins.f q3_SameTables.f
 rw [if_pos rfl]
 simp only [bne_self_eq_false,q3_SameTables.j0,Bool.false_eq_true,if_false]
 rw [st_go rows draw draw hr rows.length k 0 (by omega) (by omega) (by omega),Option.bind_some,if_pos rfl]
 simp only [if_true,q4_SameBasins.j0,Bool.false_eq_true,if_false]
 exact sb_go rows draw noz weir spill hl noz.length k 0 (by omega) (by omega) (by omega)
theorem bl_get (s : ByteArray) {i : Nat} (h : i < (ubl s).length) : bt s (i : Int) = (((ubl s)[i]'h).toNat : Int):=by rw [bt_ubl,dif_pos h]
theorem rsplit_go (s : ByteArray) (c : UInt8) (hs : s.size≤100000) : ∀ (d k i from_ : Nat) (out : List ByteArray),from_≤i→i + d = s.size→d + 1≤k→out.length≤i→
 ∃ R,q1_Split.l0 k s (c.toNat : Int) out (from_ : Int) (i : Int) = some (out ++ R)∧R.map ubl = (((ubl s).take i).drop from_ ++ (cut1 c ((ubl s).drop i)).1) :: (cut1 c ((ubl s).drop i)).2
 | 0,k,i,from_,out,h0,h1,hk,ho=>by
  obtain ⟨k,rfl⟩:=ksucc (by omega : 0 < k)
  simp only [q1_Split.l0]
  rw [if_neg (by omega),if_pos (by omega),if_pos (by omega),if_pos (by omega)]
  refine ⟨[s.extract from_ s.size],by simp,?_⟩
  have e : (ubl s).drop i = []:=List.drop_of_length_le (by rw [bl_size];omega)
  rw [e,List.map_cons,bl_extract]
  have : i = s.size:=by omega
  subst this
  simp [cut1]
 | d + 1,k,i,from_,out,h0,h1,hk,ho=>by
  obtain ⟨k,rfl⟩:=ksucc (by omega : 0 < k)
  have hi : i < (ubl s).length:=by rw [bl_size];omega
  simp only [q1_Split.l0]
  rw [if_pos (by omega),if_pos (by omega),bl_get s hi,w64 (n:=(i : Int) + 1) (by omega),List.drop_eq_getElem_cons hi]
  have e1 : ((i : Int) + 1) = ((i + 1 : Nat) : Int):=by omega
  by_cases e : (ubl s)[i] = c
  ·rw [if_pos (by rw [e]),if_pos (by omega),if_pos (by omega),if_pos (by omega),if_pos (by omega),e1]
   obtain ⟨R,hR,hb⟩:=rsplit_go s c hs d k (i + 1) (i + 1) (out ++ [s.extract ((from_ : Int)).toNat ((i : Int)).toNat]) (by omega) (by omega) (by omega) (by simp;omega)
   refine ⟨s.extract from_ i :: R,by rw [hR];simp,?_⟩
   rw [List.map_cons,hb,bl_extract,cut1,if_pos e]
   have : ((ubl s).take (i + 1)).drop (i + 1) = []:=List.drop_of_length_le (by simp;omega)
   rw [this]
   simp
  ·have hne : ¬ (((ubl s)[i].toNat : Int) = (c.toNat : Int)):=fun h=>e (UInt8.toNat_inj.1 (by omega))
   rw [if_neg hne,e1]
   obtain ⟨R,hR,hb⟩:=rsplit_go s c hs d k (i + 1) from_ out (by omega) (by omega) (by omega) (by omega)
   refine ⟨R,hR,?_⟩
   rw [hb,cut1,if_neg e,List.take_succ_eq_append_getElem hi,List.drop_append_of_le_length (by rw [List.length_take];omega)]
   simp
theorem rSplit_eq (s sep : ByteArray) (c : UInt8) (hc : ubl sep = [c]) (hs : s.size≤100000) {k : Nat} (hk : s.size + 1≤k) : q1_Split.f k s (c.toNat : Int) = some (splitF s sep):=by
 obtain ⟨R,hR,hb⟩:=rsplit_go s c hs s.size k 0 0 [] (by omega) (by omega) (by omega) (by simp)
 have e : R = splitF s sep:=by
  apply bls_inj
  rw [hb,splitF_cut s sep c hc,cutL]
  simp
 unfold q1_Split.f
 rw [← e]
 simpa using hR
theorem decNeg : ∀ (m : Nat) (n : Int) (k : Nat),n < 0→-(10 ^ (m + 1)) < n→m≤5→2 * m + 2≤k→∃ y,q1_Decimal.f k n = some y∧y.size≤m + 2:=by
 intro m
 induction m with
 | zero =>
  intro n k h0 h1 hm hk
  obtain ⟨k,rfl⟩ : ∃ q,k = q + 1 + 1:=⟨k - 2,by omega⟩
  have h1 : -10 < n:=by simpa using h1
  simp only [q1_Decimal.f,q1_Decimal.j0]
  rw [if_pos (by omega),decide_eq_true h0,if_pos rfl,w64 (by omega),Int.emod_eq_of_lt (by omega) (by omega),Option.bind_some,son1 (by omega) (by omega)]
  refine ⟨_,if_pos (by show 1 + 1≤_;omega),?_⟩
  rw [ByteArray.size_append]
  show 1 + 1≤2
  omega
 | succ m ih =>
  intro n k h0 h1 hm hk
  obtain ⟨k,rfl⟩ : ∃ q,k = q + 1 + 1:=⟨k - 2,by omega⟩
  by_cases c : n > -10
  ·obtain ⟨y,hy,hs⟩ : ∃ y,q1_Decimal.f (k + 1 + 1) n = some y∧y.size≤2:=by
    simp only [q1_Decimal.f,q1_Decimal.j0]
    rw [if_pos (by omega),decide_eq_true h0,if_pos rfl,w64 (by omega),Int.emod_eq_of_lt (by omega) (by omega),Option.bind_some,son1 (by omega) (by omega)]
    refine ⟨_,if_pos (by show 1 + 1≤_;omega),?_⟩
    rw [ByteArray.size_append]
    show 1 + 1≤2
    omega
   exact ⟨y,hy,by omega⟩
  ·have p : (10 : Int) ^ (m + 1 + 1) = 10 * 10 ^ (m + 1):=by rw [Int.pow_succ];omega
   have pb : (10 : Int) ^ (m + 1)≤10 ^ 6:=by
    have : (10 : Nat) ^ (m + 1)≤10 ^ 6:=Nat.pow_le_pow_right (by omega) (by omega)
    exact_mod_cast this
   have pv : (10 : Int) ^ 6 = 1000000:=by decide
   have q1 : Int.tdiv n 10 = -((-n) / 10):=by
    have : Int.tdiv (-n) 10 = (-n) / 10:=Int.tdiv_eq_ediv_of_nonneg (by omega)
    rw [Int.neg_tdiv] at this
    omega
   have q2 : Int.tmod n 10 = -((-n) % 10):=by
    have : Int.tmod (-n) 10 = (-n) % 10:=Int.tmod_eq_emod_of_nonneg (by omega)
    rw [Int.neg_tmod] at this
    omega
   obtain ⟨y,hy,hs⟩:=ih (-((-n) / 10)) k (by omega) (by omega) (by omega) (by omega)
   simp only [q1_Decimal.f,q1_Decimal.j0]
   rw [if_neg c,if_neg (by decide),if_pos h0,q1,q2,w64 (n:=-((-n) / 10)) (by omega),hy,Option.bind_some,w64 (n:=48 - -((-n) % 10)) (by omega),Int.emod_eq_of_lt (a:=48 - -((-n) % 10)) (by omega) (by omega),Option.bind_some,son1 (by omega) (by omega)]
   have e1 : (⟨#[UInt8.ofNat (48 - -((-n) % 10)).toNat]⟩ : ByteArray).size = 1:=rfl
   refine ⟨_,if_pos (by omega),?_⟩
   rw [ByteArray.size_append];omega
theorem num_go (x d : ByteArray) (h3 : d.size≤3) : ∀ (m k p : Nat),p + m = d.size→m + 20≤k→(∀ q,q < p→48≤bt d q∧bt d q≤57)→
 q1_Number.l0 k x d (valTo d p) (p : Int) = if (∀ q,q < d.size→48≤bt d q∧bt d q≤57) then (if (d.size : Int) < (x.size : Int) then (q1_Decimal.f (k - m - 1) (-(valTo d d.size))).bind fun t=>some (-(valTo d d.size),t.toList == x.toList) else (q1_Decimal.f (k - m - 1) (valTo d d.size)).bind fun t=>some (valTo d d.size,t.toList == x.toList)) else some (0,false)
 | 0,k,p,hp,hk,hd=>by
  obtain ⟨k,rfl⟩:=ksucc (by omega : 0 < k)
  have hv:=valTo_range hd (by omega : p≤3)
  obtain rfl : p = d.size:=by omega
  simp only [q1_Number.l0]
  rw [if_neg (by omega),if_pos hd,w64 (n:=-(valTo d d.size)) (by omega)]
  rfl
 | m + 1,k,p,hp,hk,hd=>by
  obtain ⟨k,rfl⟩:=ksucc (by omega : 0 < k)
  have hv:=valTo_range hd (by omega : p≤3)
  have hb:=bt_in d (p : Int)
  simp only [q1_Number.l0]
  rw [if_pos (by omega),if_pos (by omega)]
  by_cases c1 : bt d (p : Int) < 48
  ·rw [if_pos c1,if_neg (fun h=>by have:=h p (by omega);omega)]
  ·rw [if_neg c1]
   by_cases c2 : bt d (p : Int) > 57
   ·rw [if_pos c2,if_neg (fun h=>by have:=h p (by omega);omega)]
   ·rw [if_neg c2,w64 (n:=10 * valTo d p) (by omega),Int.emod_eq_of_lt (a:=bt d (p : Int) - 48) (by omega) (by omega),w64 (n:=10 * valTo d p + (bt d (p : Int) - 48)) (by omega),w64 (n:=(p : Int) + 1) (by omega)]
    have:=num_go x d h3 m k (p + 1) (by omega) (by omega) (digs_snoc hd ⟨by omega,by omega⟩)
    rw [show ((p + 1 : Nat) : Int) = (p : Int) + 1 by omega,show k + 1 - (m + 1) - 1 = k - m - 1 by omega] at *
    exact this
abbrev okD (d : ByteArray) : Prop:=∀ q : Nat,q < d.size→48≤bt d q∧bt d q≤57
theorem numF_is {x : ByteArray} (h3 : x.size≤3) (h0 : x.size ≠ 0) (hd : okD x) : numF x = if itB (valTo x x.size) = x then some (valTo x x.size) else none:=by
 by_cases e : itB (valTo x x.size) = x
 ·rw [if_pos e];exact numF_some h0 hd h3 e
 ·rw [if_neg e];exact numF_ne e
theorem beq_ba (a b : ByteArray) : (a.toList == b.toList) = decide (a = b):=by
 by_cases e : a = b
 ·rw [bl_true e,decide_eq_true e]
 ·rw [bl_false e,decide_eq_false e]
theorem number_is (x : ByteArray) {k : Nat} (hk : 40≤k) : ∃ n b,q1_Number.f k x 3 = some (n,b)∧numF x = (if b = true∧0≤n then some n else none):=by
 obtain ⟨k,rfl⟩ : ∃ q,k = q + 1 + 1 + 1:=⟨k - 3,by omega⟩
 have bad : ∀ n : Int,¬ ((false = true)∧0≤n):=fun n h=>by cases h.1
 by_cases z : x.size = 0
 ·refine ⟨0,false,?_,by rw [if_neg (bad 0)];exact numF_empty z⟩
  unfold q1_Number.f
  rw [if_neg (by omega)]
  simp only [q1_Number.j0,Bool.false_eq_true,if_false,q1_Number.j1]
  rw [if_pos (by omega)]
  simp [q1_Number.j2]
 ·unfold q1_Number.f
  rw [if_pos (by omega),if_pos (by omega)]
  by_cases m : bt x 0 = 45
  ·-- a minus
   have hn : numF x = none:=digB_false (p:=0) (by omega) (fun h=>by have : bt x ((0 : Nat) : Int) = 45:=m;omega)
   rw [show (bt x 0 == 45) = true by simpa using m]
   simp only [q1_Number.j0,if_true,q1_Number.j1]
   rw [if_pos (by omega)]
   have hds : (x.extract 1 x.size).size = x.size - 1:=by rw [ByteArray.size_extract];omega
   by_cases z1 : ((x.extract 1 x.size).size : Int) = 0
   ·refine ⟨0,false,?_,by rw [if_neg (bad 0),hn]⟩
    rw [if_pos z1];simp [q1_Number.j2]
   rw [if_neg z1]
   by_cases z3 : ((x.extract 1 x.size).size : Int) > 3
   ·refine ⟨0,false,?_,by rw [if_neg (bad 0),hn]⟩
    rw [decide_eq_true z3];simp [q1_Number.j2]
   rw [decide_eq_false z3]
   simp only [q1_Number.j2,Bool.false_eq_true,if_false]
   have g:=num_go x (x.extract 1 x.size) (by omega) (x.extract 1 x.size).size k 0 (by omega) (by omega) (fun q hq=>by omega)
   simp only [valTo,Int.natCast_zero] at g
   rw [g]
   by_cases hd : okD (x.extract 1 x.size)
   ·have hv:=valTo_range hd (by omega : (x.extract 1 x.size).size≤3)
    rw [if_pos hd,if_pos (by omega)]
    by_cases v0 : valTo (x.extract 1 x.size) (x.extract 1 x.size).size = 0
    ·rw [v0,Int.neg_zero,decimal_eq 3 0 _ (by omega) (by omega) (by omega) (by omega),Option.bind_some]
     have ne : itB 0 ≠ x:=fun e=>by
      have h0:=bt_ubl (itB 0) 0
      rw [itB_nn (by omega),dec1 (by decide)] at h0
      rw [← e] at m
      rw [show ((0 : Nat) : Int) = 0 from rfl,m] at h0
      revert h0
      decide
     refine ⟨0,_,rfl,?_⟩
     rw [beq_ba,decide_eq_false ne,if_neg (bad 0),hn]
    ·obtain ⟨y,hy,_⟩:=decNeg 2 (-(valTo (x.extract 1 x.size) (x.extract 1 x.size).size)) (k - (x.extract 1 x.size).size - 1) (by omega) (by omega) (by omega) (by omega)
     rw [hy,Option.bind_some]
     refine ⟨_,_,rfl,?_⟩
     rw [if_neg (fun h=>by omega),hn]
   ·refine ⟨0,false,if_neg hd,by rw [if_neg (bad 0),hn]⟩
  ·rw [show (bt x 0 == 45) = false by simpa using m]
   simp only [q1_Number.j0,Bool.false_eq_true,if_false,q1_Number.j1]
   rw [if_neg (by omega)]
   by_cases z3 : (x.size : Int) > 3
   ·refine ⟨0,false,?_,?_⟩
    ·rw [decide_eq_true z3];simp [q1_Number.j2]
    ·rw [if_neg (bad 0)]
     exact digB_false (p:=0) (by omega) (fun h=>by omega)
   rw [decide_eq_false z3]
   simp only [q1_Number.j2,Bool.false_eq_true,if_false]
   have g:=num_go x x (by omega) x.size k 0 (by omega) (by omega) (fun q hq=>by omega)
   simp only [valTo,Int.natCast_zero] at g
   rw [g]
   by_cases hd : okD x
   ·have hv:=valTo_range hd (by omega : x.size≤3)
    rw [if_pos hd,if_neg (by omega),decimal_eq 3 _ _ hv.1 (by omega) (by omega) (by omega),Option.bind_some]
    refine ⟨_,_,rfl,?_⟩
    rw [numF_is (by omega) z hd,beq_ba]
    by_cases e : itB (valTo x x.size) = x
    ·rw [if_pos e,if_pos ⟨decide_eq_true e,hv.1⟩]
    ·rw [if_neg e,if_neg (fun h=>e (of_decide_eq_true h.1))]
   ·refine ⟨0,false,if_neg hd,?_⟩
    rw [if_neg (bad 0)]
    have : ∃ q,q < x.size∧¬ (48≤bt x q∧bt x q≤57):=Classical.byContradiction fun h=>hd fun q hq=>Classical.byContradiction fun h2=>h ⟨q,hq,h2⟩
    obtain ⟨q,hq,h2⟩:=this
    exact digB_false hq (fun h=>h2 ⟨h.1,h.2.1⟩)
theorem rowsGo_some : ∀ (ws : List ByteArray) (l : List S48),rowsGo ws = some l→(∀ z ∈ l,0≤z.f0∧z.f0≤999∧0≤z.f1∧z.f1≤999)∧l.length = ws.length
 | [],l,h=>by
  simp only [rowsGo,Option.some.injEq] at h
  subst h
  exact ⟨fun z hz=>(by cases hz),rfl⟩
 | x :: xs,l,h=>by
  simp only [rowsGo] at h
  obtain ⟨q,hq,h⟩:=Option.bind_eq_some_iff.1 h
  obtain ⟨m,hm,h⟩:=Option.bind_eq_some_iff.1 h
  cases h
  obtain ⟨a,b⟩:=rowsGo_some xs m hm
  have:=toldF_range (a:=q.1) (b:=q.2) hq
  refine ⟨fun z hz=>?_,by simp [b]⟩
  rcases List.mem_cons.1 hz with rfl | hz
  ·exact this
  ·exact a z hz
theorem parsed_some {s : ByteArray} (hs : s.size≤300) {x : Int × Int × List S48} (h : parsedF s = some x) : ca_text.f x.1 x.2.1 x.2.2 = s∧okP x.1 x.2.1 x.2.2:=by
 have l2:=splitF_len2 s nlB (by decide)
 unfold parsedF parsedW at h
 split at h
 ·obtain ⟨p,hp,h⟩:=Option.bind_eq_some_iff.1 h
  obtain ⟨l,hl,h⟩:=Option.bind_eq_some_iff.1 h
  split at h
  ·rename_i c
   cases h
   have hr:=toldF_range (a:=p.1) (b:=p.2) hp
   obtain ⟨a,b⟩:=rowsGo_some _ _ hl
   refine ⟨c,?_,hr,a⟩
   rw [b,List.length_take]
   simp only [List.length_drop]
   omega
  ·cases h
 ·cases h
def numsF : List ByteArray→Option (List Int)
 | []=>some []
 | x :: xs=>(numF x).bind fun a=>(numsF xs).bind fun l=>some (a :: l)
theorem numbers_go (ws : List ByteArray) (hl : ws.length≤1000) : ∀ (d k : Nat) (i : Int) (out : List Int),0≤i→i + d = ws.length→d + 45≤k→(out.length : Int) = i→
 ∃ ns b,q1_Numbers.l0 k ws 3 out i = some (ns,b)∧((b = true∧(∀ v ∈ ns.drop out.length,0≤v))→ns.take out.length = out∧numsF (ws.drop i.toNat) = some (ns.drop out.length))∧(¬ (b = true∧(∀ v ∈ ns.drop out.length,0≤v))→numsF (ws.drop i.toNat) = none)∧(b = true→ns.length = ws.length)
 | 0,k,i,out,h0,h1,hk,ho=>by
  obtain ⟨k,rfl⟩:=ksucc (by omega : 0 < k)
  simp only [q1_Numbers.l0]
  rw [if_neg (by omega),List.drop_of_length_le (by omega : ws.length≤i.toNat)]
  refine ⟨out,true,rfl,fun _=>⟨by simp,by simp [numsF]⟩,fun h=>absurd ⟨rfl,by simp⟩ h,fun _=>by omega⟩
 | d + 1,k,i,out,h0,h1,hk,ho=>by
  obtain ⟨k,rfl⟩:=ksucc (by omega : 0 < k)
  obtain ⟨n,b,hn,hf⟩:=number_is (rdOf ByteArray.empty ws i) (k:=k) (by omega)
  simp only [q1_Numbers.l0]
  rw [if_pos (by omega),if_pos h0,hn,Option.bind_some,rdOf_drop (d:=ByteArray.empty) h0 (by omega)]
  simp only [numsF]
  cases b with
  | false =>
   rw [if_neg (by simp)]
   have e : numF (rdOf ByteArray.empty ws i) = none:=by rw [hf,if_neg (fun h=>by cases h.1)]
   rw [e]
   refine ⟨[],false,rfl,fun h=>absurd h.1 (by decide),fun _=>rfl,fun h=>absurd h (by decide)⟩
  | true =>
   rw [if_pos rfl,if_pos (by omega),w64 (n:=i + 1) (by omega)]
   obtain ⟨ns,b,hr,p1,p2,p3⟩:=numbers_go ws hl d k (i + 1) (out ++ [n]) (by omega) (by omega) (by omega) (by simp;omega)
   have hi1 : (i + 1).toNat = i.toNat + 1:=by omega
   have ho1 : (out ++ [n]).length = out.length + 1:=by simp
   rw [hi1,ho1] at p1 p2
   refine ⟨ns,b,hr,?_,?_,p3⟩
   ·rintro ⟨hb,hv⟩
    have hlen:=p3 hb
    have hol : out.length < ns.length:=by omega
    have hd:=List.drop_eq_getElem_cons hol
    rw [hd] at hv
    obtain ⟨q1,q2⟩:=p1 ⟨hb,fun v hv2=>hv v (List.mem_cons_of_mem _ hv2)⟩
    rw [List.take_succ_eq_append_getElem hol] at q1
    have e2:=List.append_inj q1 (by rw [List.length_take];omega)
    have e3 : ns[out.length] = n:=by simpa using e2.2
    have hn0 : 0≤n:=by rw [← e3];exact hv _ List.mem_cons_self
    rw [hf,if_pos ⟨rfl,hn0⟩,Option.bind_some,q2,Option.bind_some,hd,e3]
    exact ⟨e2.1,rfl⟩
   ·intro hno
    by_cases hn0 : 0≤n
    ·rw [hf,if_pos ⟨rfl,hn0⟩,Option.bind_some,p2 (fun ⟨hb,hv⟩=>hno ⟨hb,fun v hv2=>by
      have hlen:=p3 hb
      have hol : out.length < ns.length:=by omega
      obtain ⟨q1,_⟩:=p1 ⟨hb,hv⟩
      rw [List.take_succ_eq_append_getElem hol] at q1
      have e2:=List.append_inj q1 (by rw [List.length_take];omega)
      have e3 : ns[out.length] = n:=by simpa using e2.2
      rw [List.drop_eq_getElem_cons hol,e3] at hv2
      rcases List.mem_cons.1 hv2 with rfl | hv3
      ·exact hn0
      ·exact hv v hv3⟩)]
     rfl
    ·rw [hf,if_neg (fun h=>hn0 h.2)];rfl
theorem numbers_eq (ws : List ByteArray) (hl : ws.length≤1000) {k : Nat} (hk : ws.length + 45≤k) : ∃ ns b,q1_Numbers.f k ws 3 = some (ns,b)∧((b = true∧(∀ v ∈ ns,0≤v))→numsF ws = some ns)∧(¬ (b = true∧(∀ v ∈ ns,0≤v))→numsF ws = none):=by
 obtain ⟨ns,b,h,p1,p2,_⟩:=numbers_go ws hl ws.length k 0 [] (by omega) (by omega) hk rfl
 refine ⟨ns,b,h,fun q=>?_,fun q=>?_⟩
 ·simpa using (p1 (by simpa using q)).2
 ·simpa using p2 (by simpa using q)
def told2 (r : ByteArray) : Option (Int × Int):=match (splitF r spB).drop 1 with
 | [w1,w2]=>(numF w1).bind fun a=>(numF w2).bind fun b=>some (a,b)
 | _=>none
theorem told2_nums (r : ByteArray) : told2 r = (numsF ((splitF r spB).drop 1)).bind fun l=>match l with | [a,b]=>some (a,b) | _=>none:=by
 unfold told2
 have len : ∀ (ws : List ByteArray) (l : List Int),numsF ws = some l→l.length = ws.length:=by
  intro ws
  induction ws with
  | nil=>intro l h;simp only [numsF,Option.some.injEq] at h;subst h;rfl
  | cons x xs ih =>
   intro l h
   simp only [numsF,Option.bind_eq_some_iff] at h
   obtain ⟨a,_,m,hm,h⟩:=h
   cases h
   simp [ih m hm]
 generalize (splitF r spB).drop 1 = ws
 match ws with
 | [w1,w2] =>
  simp only [numsF]
  cases numF w1<;>cases numF w2<;>rfl
 | []=>rfl
 | [w1] =>
  cases h : numsF [w1] with
  | none=>rfl
  | some l =>
   have:=len _ _ h
   match l,this with
   | [a],_=>rfl
 | w1 :: w2 :: w3 :: rest =>
  cases h : numsF (w1 :: w2 :: w3 :: rest) with
  | none=>rfl
  | some l =>
   have:=len _ _ h
   match l,this with
   | a :: b :: c :: r,_=>rfl
def stepR (i : Int) (p : Int × Int) (q : List S48 × Int × Int) : List S48 × Int × Int:=if i = 0 then (q.1,p.1,p.2) else (q.1 ++ [⟨p.1,p.2⟩],q.2.1,q.2.2)
def goR (s : ByteArray) : List ByteArray→Int→List S48 × Int × Int→Option (Int × Int × List S48)
 | [],_,q=>if ca_text.f q.2.1 q.2.2 q.1 = s then some (q.2.1,q.2.2,q.1) else none
 | r :: rs,i,q=>(told2 r).bind fun p=>goR s rs (i + 1) (stepR i p q)
def outR (rows : List S126) (draw : Int) : Option (Int × Int × List S48)→List S126 × Int × List S48 × Int × Int × Bool
 | some x=>(rows,draw,x.2.2,x.1,x.2.1,true)
 | none=>([],0,[],0,0,false)
theorem numF_range {x : ByteArray} {v : Int} (hx : numF x = some v) : 0≤v∧v≤999:=by
 unfold numF at hx
 split at hx
 ·rename_i hc
  obtain rfl:=Option.some.inj hx
  have hd:=hc.2.1
  unfold digB at hd
  simp only [Bool.and_eq_true,decide_eq_true_eq,List.all_eq_true,List.mem_range] at hd
  exact valTo_range hd.2 hd.1
 ·cases hx
theorem told2_range {r : ByteArray} {p : Int × Int} (h : told2 r = some p) : 0≤p.1∧p.1≤999∧0≤p.2∧p.2≤999:=by
 unfold told2 at h
 split at h
 ·obtain ⟨x,hx,h⟩:=Option.bind_eq_some_iff.1 h
  obtain ⟨y,hy,h⟩:=Option.bind_eq_some_iff.1 h
  cases h
  have:=numF_range hx
  have:=numF_range hy
  simp only
  omega
 ·cases h
def okQ (q : List S48 × Int × Int) : Prop:=(0≤q.2.1∧q.2.1≤999∧0≤q.2.2∧q.2.2≤999)∧∀ z ∈ q.1,0≤z.f0∧z.f0≤999∧0≤z.f1∧z.f1≤999
theorem okQ.step {q : List S48 × Int × Int} (h : okQ q) {p : Int × Int} (hp : 0≤p.1∧p.1≤999∧0≤p.2∧p.2≤999) (i : Int) : okQ (stepR i p q):=by
 unfold stepR
 split
 ·exact ⟨hp,h.2⟩
 ·refine ⟨h.1,fun z hz=>?_⟩
  rcases List.mem_append.1 hz with hz | hz
  ·exact h.2 z hz
  ·rw [List.mem_singleton.1 hz];exact hp
theorem stepR_len (i : Int) (p : Int × Int) (q : List S48 × Int × Int) : (stepR i p q).1.length≤q.1.length + 1:=by
 unfold stepR
 split<;>simp
theorem splitF_ne (r sep : ByteArray) (h1 : 1≤sep.size) : 1≤(splitF r sep).length:=by
 have hl : (splitF r sep).length = Lib.countB r sep + 1:=Lib.splitB_all sep h1 0 _ r rfl
 omega
theorem rread_go (s : ByteArray) (rows : List S126) (draw : Int) (ws : List ByteArray) (hs : s.size≤300) (hw : ws.length≤301) (hz : ∀ x ∈ ws,x.size≤300) : ∀ (d k : Nat) (i : Int) (q : List S48 × Int × Int),0≤i→i + d = (ws.length : Int) - 2→okQ q→(q.1.length : Int)≤i→304000 + 2 * d < k→
 q4_Read.l0 k s ws i rows draw q.1 q.2.1 q.2.2 = some (outR rows draw (goR s ((ws.take (ws.length - 2)).drop i.toNat) i q))
 | 0,k,i,q,h0,h1,hq,hn,hk=>by
  obtain ⟨k,rfl⟩:=ksucc (by omega : 0 < k)
  simp only [q4_Read.l0]
  have e : (ws.take (ws.length - 2)).drop i.toNat = []:=List.drop_of_length_le (by rw [List.length_take];omega)
  rw [w64 (n:=(ws.length : Int) - 2) (by omega),if_neg (by omega),e]
  simp only [goR]
  have hp : okN q.2.1 q.2.2 q.1:=⟨by omega,by have:=hq.1;omega,fun z hz=>by have:=hq.2 z hz;omega⟩
  rw [rPrint_eq rows draw hp (by omega),Option.bind_some]
  by_cases c : ca_text.f q.2.1 q.2.2 q.1 = s
  ·rw [if_pos c,if_pos (by rw [c])];rfl
  ·rw [if_neg c,if_neg (fun h=>c (by rw [ByteArray.toList_eq,ByteArray.toList_eq] at h;exact bl_inj h))];rfl
 | d + 1,k,i,q,h0,h1,hq,hn,hk=>by
  obtain ⟨k,rfl⟩ : ∃ m,k = m + 1 + 1:=⟨k - 2,by omega⟩
  have hi : i.toNat < (ws.take (ws.length - 2)).length:=by rw [List.length_take];omega
  have hi2 : i.toNat < ws.length:=by omega
  have e : (ws.take (ws.length - 2)).drop i.toNat = rdOf ByteArray.empty ws i :: (ws.take (ws.length - 2)).drop (i.toNat + 1):=by
   rw [List.drop_eq_getElem_cons hi];simp [rdOf,hi2]
  have hm : rdOf ByteArray.empty ws i ∈ ws:=by
   have : rdOf ByteArray.empty ws i = ws[i.toNat]:=by simp [rdOf,hi2]
   rw [this];exact List.getElem_mem _
  have hrs:=hz _ hm
  obtain ⟨r,hr⟩ : ∃ r,rdOf ByteArray.empty ws i = r:=⟨_,rfl⟩
  rw [e]
  simp only [q4_Read.l0,q4_Read.j1,goR]
  rw [hr] at hrs ⊢
  have l1:=splitF_ne r spB (by decide)
  have l2:=splitF_len2 r spB (by decide)
  obtain ⟨ns,b,hnum,hyes,hno⟩:=numbers_eq ((splitF r spB).drop 1) (k:=k + 1) (by simp;omega) (by simp;omega)
  rw [w64 (n:=(ws.length : Int) - 2) (by omega),if_pos (by omega),if_pos h0,if_pos (by omega),show (32 : Int) = ((32 : UInt8).toNat : Int) from rfl,rSplit_eq r spB 32 rfl (by omega) (by omega),Option.bind_some,if_pos (by omega),hnum,Option.bind_some,told2_nums]
  have nope : q4_Read.j1 (k + 1) s ws i ns true rows draw q.1 q.2.1 q.2.2 = some (outR rows draw none):=by
   simp [q4_Read.j1,outR]
  cases b with
  | false =>
   rw [hno (fun h=>by cases h.1)]
   simp [outR]
  | true =>
   simp only [if_true]
   by_cases hl : (ns.length : Int) = 2
   case neg =>
    rw [if_neg hl]
    have : ((numsF ((splitF r spB).drop 1)).bind fun l=>match l with | [a,b]=>some (a,b) | _=>none) = none:=by
     by_cases hv : ∀ v ∈ ns,0≤v
     ·rw [hyes ⟨rfl,hv⟩,Option.bind_some]
      split
      ·rename_i a b
       exact absurd rfl hl
      ·rfl
     ·rw [hno (fun h=>hv h.2)];rfl
    rw [this]
    simp [outR]
   case pos =>
    obtain ⟨x,y,rfl⟩ : ∃ x y,ns = [x,y]:=by
     match ns,hl with
     | [x,y],_=>exact ⟨x,y,rfl⟩
    have r0 : rd [x,y] 0 = x:=rfl
    have r1 : rd [x,y] 1 = y:=rfl
    rw [if_pos hl,if_pos (by simp),r0]
    by_cases x0 : x < 0
    ·rw [if_pos x0,hno (fun h=>by have:=h.2 x (by simp);omega)]
     simp [outR]
    ·rw [if_neg x0,if_pos (by simp),r1]
     by_cases y0 : y < 0
     ·rw [decide_eq_true y0,hno (fun h=>by have:=h.2 y (by simp);omega)]
      simp [outR]
     ·rw [decide_eq_false y0,hyes ⟨rfl,fun v hv=>by
       rcases List.mem_cons.1 hv with rfl | hv
       ·omega
       ·rw [List.mem_singleton.1 hv];omega⟩,Option.bind_some,Option.bind_some]
      have ht : told2 r = some (x,y):=by
       rw [told2_nums,hyes ⟨rfl,fun v hv=>by
        rcases List.mem_cons.1 hv with rfl | hv
        ·omega
        ·rw [List.mem_singleton.1 hv];omega⟩]
       rfl
      have hp:=told2_range ht
      have ih:=rread_go s rows draw ws hs hw hz d k (i + 1) (stepR i (x,y) q) (by omega) (by omega) (hq.step hp i) (by have:=stepR_len i (x,y) q;omega) (by omega)
      rw [show (i + 1).toNat = i.toNat + 1 by omega] at ih
      rw [← ih]
      simp only [Bool.false_eq_true,if_false]
      rw [w64 (n:=i + 1) (by omega)]
      unfold stepR
      by_cases z : i = 0
      ·simp [z,r0,r1]
      ·rw [if_neg z,if_pos (by simp),if_pos (by simp),if_pos (by omega),if_neg z]
def refSpec (s : ByteArray) : Option (Int × Int × List S48):=goR s ((splitF s nlB).take ((splitF s nlB).length - 2)) 0 ([],0,0)
theorem rRead_eq (s : ByteArray) (rows : List S126) (draw : Int) (hs : s.size≤300) {k : Nat} (hk : 305000≤k) : q4_Read.f k rows draw s = some (outR rows draw (refSpec s)):=by
 have l2:=splitF_len2 s nlB (by decide)
 have l1:=splitF_ne s nlB (by decide)
 have hz : ∀ x ∈ splitF s nlB,x.size≤300:=fun x hx=>by have:=splitF_mem_size hx;omega
 unfold q4_Read.f refSpec
 rw [show (10 : Int) = ((10 : UInt8).toNat : Int) from rfl,rSplit_eq s nlB 10 rfl (by omega) (by omega),Option.bind_some]
 have okq : okQ (([] : List S48),(0 : Int),(0 : Int)):=⟨⟨by decide,by decide,by decide,by decide⟩,fun z hz=>by cases hz⟩
 by_cases c : 2≤(splitF s nlB).length
 ·have:=rread_go s rows draw (splitF s nlB) hs (by omega) hz ((splitF s nlB).length - 2) k 0 ([],0,0) (by omega) (by omega) okq (by simp) (by omega)
  simpa using this
 ·obtain ⟨k,rfl⟩:=ksucc (by omega : 0 < k)
  simp only [q4_Read.l0]
  have e : (splitF s nlB).length - 2 = 0:=by omega
  rw [w64 (n:=((splitF s nlB).length : Int) - 2) (by omega),if_neg (by omega),e,List.take_zero]
  simp only [goR]
  have hp : okN 0 0 ([] : List S48):=⟨by simp,by omega,fun z hz=>by cases hz⟩
  rw [rPrint_eq rows draw hp (by simp;omega),Option.bind_some]
  by_cases c : ca_text.f 0 0 ([] : List S48) = s
  ·rw [if_pos c,if_pos (by rw [c])];rfl
  ·rw [if_neg c,if_neg (fun h=>c (by rw [ByteArray.toList_eq,ByteArray.toList_eq] at h;exact bl_inj h))];rfl
theorem told2_line {wd : ByteArray} {a b : Int} (hw : clean 32 wd) (a0 : 0≤a) (a1 : a≤999) (b0 : 0≤b) (b1 : b≤999) : told2 (lineB wd a b) = some (a,b):=by
 unfold told2
 rw [line_split hw a0 b0]
 simp only [List.drop_succ_cons,List.drop_zero]
 rw [numF_it a0 a1,numF_it b0 b1]
 rfl
theorem goR_lines (s : ByteArray) (weir spill : Int) : ∀ (noz acc : List S48) (i : Int),0 < i→(∀ z ∈ noz,0≤z.f0∧z.f0≤999∧0≤z.f1∧z.f1≤999)→goR s (noz.map fun z=>lineB nozzleB z.f0 z.f1) i (acc,weir,spill) = if ca_text.f weir spill (acc ++ noz) = s then some (weir,spill,acc ++ noz) else none
 | [],acc,i,h0,h=>by simp [goR]
 | z :: noz,acc,i,h0,h=>by
  have hz:=h z (by simp)
  simp only [List.map_cons,goR]
  rw [told2_line (ca_clean 32 (.inr rfl)).2.1 hz.1 hz.2.1 hz.2.2.1 hz.2.2.2,Option.bind_some]
  unfold stepR
  rw [if_neg (by omega)]
  have:=goR_lines s weir spill noz (acc ++ [z]) (i + 1) (by omega) (fun y hy=>h y (by simp [hy]))
  rw [List.append_assoc] at this
  exact this
theorem refSpec_text {weir spill : Int} {noz : List S48} (h : okP weir spill noz) : refSpec (ca_text.f weir spill noz) = some (weir,spill,noz):=by
 unfold refSpec
 rw [text_split h.n]
 have e : (linesL weir spill noz ++ [endL (chkC weir spill noz),ByteArray.empty]).take ((linesL weir spill noz ++ [endL (chkC weir spill noz),ByteArray.empty]).length - 2) = linesL weir spill noz:=by
  rw [List.length_append];simp
 rw [e]
 unfold linesL
 simp only [goR]
 rw [told2_line (ca_clean 32 (.inr rfl)).1 h.2.1.1 h.2.1.2.1 h.2.1.2.2.1 h.2.1.2.2.2,Option.bind_some]
 unfold stepR
 rw [if_pos rfl,goR_lines _ _ _ _ _ _ (by omega) h.2.2]
 simp
theorem goR_some (s : ByteArray) : ∀ (rs : List ByteArray) (i : Int) (q : List S48 × Int × Int) (x : Int × Int × List S48),okQ q→goR s rs i q = some x→ca_text.f x.1 x.2.1 x.2.2 = s∧okQ (x.2.2,x.1,x.2.1)∧x.2.2.length≤q.1.length + rs.length
 | [],i,q,x,hq,h=>by
  simp only [goR] at h
  split at h
  ·rename_i c
   cases h
   exact ⟨c,hq,by simp⟩
  ·cases h
 | r :: rs,i,q,x,hq,h=>by
  simp only [goR] at h
  obtain ⟨p,hp,h⟩:=Option.bind_eq_some_iff.1 h
  obtain ⟨a,b,c⟩:=goR_some s rs (i + 1) (stepR i p q) x (hq.step (told2_range hp) i) h
  have:=stepR_len i p q
  exact ⟨a,b,by simp only [List.length_cons];omega⟩
theorem ref_is_parsed (s : ByteArray) (hs : s.size≤300) : refSpec s = parsedF s:=by
 have l2:=splitF_len2 s nlB (by decide)
 cases h : parsedF s with
 | some x =>
  obtain ⟨a,b⟩:=parsed_some hs h
  rw [← a]
  exact refSpec_text b
 | none =>
  cases g : refSpec s with
  | none=>rfl
  | some x =>
   obtain ⟨a,b,c⟩:=goR_some s _ 0 ([],0,0) x ⟨⟨by decide,by decide,by decide,by decide⟩,fun z hz=>by cases hz⟩ g
   have hp : okP x.1 x.2.1 x.2.2:=⟨by simp only [List.length_nil,List.length_take] at c;omega,b.1,b.2⟩
   rw [← a,parsed_text hp] at h
   cases h
def outP (rows : List S126) (draw : Int) (s : ByteArray) : List S126 × Int × List S48 × Int × Int × Int:=
 if 200 < s.size then ([],0,[],0,0,3) else match parsedF s with
  | none=>([],0,[],0,0,4)
  | some x=>if okB rows draw x.2.2 x.1 x.2.1 = true then (rows,draw,x.2.2,x.1,x.2.1,0) else ([],0,[],0,0,2)
theorem cReadP_eq (rows : List S126) (draw : Int) (s : ByteArray) (hl : rows.length≤15) (hs : s.size≤300) : ca_ReadP.f rows draw s = some (outP rows draw s):=by
 unfold ca_ReadP.f ca_Read.f outP
 rw [if_pos ⟨by omega,by omega⟩]
 by_cases c : 200 < s.size
 ·rw [if_pos c,if_pos c]
 ·rw [if_neg c,if_neg c]
  cases h : parsedF s with
  | none=>rfl
  | some x =>
   simp only
   rw [isBasin_eq (by omega),Option.bind_some]
   cases okB rows draw x.2.2 x.1 x.2.1<;>rfl
theorem reads_pure (rows : List S126) (draw : Int) (s : ByteArray) {k : Nat} (hk : 310000≤k) : l4_CastleReads.f k rows draw s = some true:=by
 obtain ⟨k,rfl⟩ : ∃ m,k = m + 1 + 1:=⟨k - 2,by omega⟩
 have big : l4_CastleReads.j0 (k + 1 + 1) s true rows draw = some true:=by
  simp only [l4_CastleReads.j0,if_true]
  rw [known_true];rfl
 have zer : ∀ (e : Int) (r : List S126) (d : Int) (n : List S48) (a b : Int),e ≠ 0→l4_CastleReads.j1 (k + 1) s e e [] 0 [] 0 0 r d n a b = some true:=by
  intro e r d n a b he
  simp only [l4_CastleReads.j1]
  rw [if_neg he,if_pos trivial,sb_refl (by simp) (by simp) (by simp;omega),Option.bind_some,if_pos rfl,known_true];rfl
 unfold l4_CastleReads.f
 by_cases hs : (s.size : Int) > 300
 ·rw [if_pos hs];exact big
 rw [if_neg hs]
 by_cases hl : (rows.length : Int) > 15
 ·rw [decide_eq_true hl];exact big
 rw [decide_eq_false hl]
 simp only [l4_CastleReads.j0,Bool.false_eq_true,if_false]
 rw [cReadP_eq rows draw s (by omega) (by omega),Option.bind_some,rRead_eq s rows draw (by omega) (by omega),Option.bind_some,ref_is_parsed s (by omega)]
 unfold outP
 by_cases c : 200 < s.size
 ·rw [if_pos c,if_pos (by omega)]
  exact zer 3 _ _ _ _ _ (by decide)
 ·rw [if_neg c,if_neg (by omega)]
  cases h : parsedF s with
  | none =>
   simp only [outR,Bool.false_eq_true,if_false]
   exact zer 4 _ _ _ _ _ (by decide)
  | some x =>
   obtain ⟨he,hp⟩:=parsed_some (by omega) h
   have hn:=hp.1
   simp only [outR,if_true]
   rw [refBasin_eq (by omega) (by omega) (by omega),Option.bind_some]
   cases b : okB rows draw x.2.2 x.1 x.2.1 with
   | false =>
    simp only [Bool.false_eq_true,if_false]
    exact zer 2 _ _ _ _ _ (by decide)
   | true =>
    simp only [if_true]
    simp only [l4_CastleReads.j1,if_true]
    rw [cPrint_eq (by omega),b,Option.bind_some]
    simp only [if_true]
    rw [sb_refl (by omega) (by omega) (by omega),Option.bind_some,if_pos rfl,if_pos (by rw [he]),known_true];rfl
end Go.Proofs.YtnnmnhpeblhiiaaGreatDoor.C

/- A part of the proof: the walks of the functions that it reaches. TIGHT. -/
import Derived.Test.YtnnmnhpeblhiiaaGreatDoorMP23
import Derived.BigQuiet
import Derived.Laws.EntriesVeiled
set_option linter.unusedVariables false
set_option linter.unusedSimpArgs false
namespace Go.Proofs.YtnnmnhpeblhiiaaGreatDoor.C
open Go.RowKit Go.Proofs.YtnnmnhpeblhiiaaGreatDoorW.PrintWords Go.Proofs.YtnnmnhpeblhiiaaGreatDoorW.PrintLast Go.Proofs.YtnnmnhpeblhiiaaGreatDoorW.PrintMore
set_option linter.unusedVariables false
set_option linter.unusedSimpArgs false
set_option maxHeartbeats 16000000
set_option maxRecDepth 100000
section
attribute [local go_sem] max2_int min2_int max_two min_two
set_option linter.unusedSimpArgs false
end
set_option linter.unusedSimpArgs false
set_option linter.unusedSimpArgs false
section
attribute [local go_sem] max2_int min2_int max_two min_two
set_option linter.unusedSimpArgs false
end
set_option linter.unusedSimpArgs false
section
attribute [local go_sem] max2_int min2_int max_two min_two
set_option linter.unusedSimpArgs false
end
def pairOk : List Int→List Int→Prop
 | x :: l,y :: n=>(0≤x∧x≤y∧y≤1000)∧pairOk l n
 | [],[]=>True
 | _,_=>False
section
variable {rows : List S126} {draw : Int} {noz : List S48} {weir spill : Int}
def setH (noz : List S48) (l : List Int) : List S48:=List.zipWith (fun z x=>(⟨z.f0,x⟩ : S48)) noz l
end
theorem short_eq {rows : List S126} {draw : Int} {noz : List S48} {weir spill : Int} : l4_short.f rows draw noz weir spill = some (decide (rows.length≤15∧noz.length≤8)):=by
 unfold l4_short.f
 by_cases h : (rows.length : Int)≤15
 ·rw [if_pos h,show decide (rows.length≤15∧noz.length≤8) = decide ((noz.length : Int)≤8) from by rw [decide_eq_decide];omega]
 ·rw [if_neg h,decide_eq_false (by omega)]
section
variable {rows : List S126} {draw : Int} {noz : List S48} {weir spill : Int}
end
section
variable {rows : List S126} {draw : Int} {noz : List S48} {weir spill : Int}
end
section
variable {rows : List S126} {draw : Int} {noz : List S48} {weir spill : Int}
end
def endL (c : Int) : ByteArray:=endB ++ itB (c.tdiv 100) ++ itB ((c.tdiv 10).tmod 10) ++ itB (c.tmod 10)
theorem sealGo_out : ∀ (xs : List ByteArray) (i : Int) (out : ByteArray) (chk : Int),ubl (sealGo xs i out chk).1 = ubl out ++ ((xs.map ubl).map (· ++ [10])).flatten
 | [],i,out,chk=>by simp [sealGo]
 | x :: xs,i,out,chk=>by
  simp only [sealGo,List.map_cons,List.flatten_cons]
  rw [sealGo_out xs,bl_app,bl_app]
  simp [nlB,ubl]
theorem last_bl (out : ByteArray) (c : Int) : ubl (lastB out c) = ubl out ++ (ubl (endL c) ++ [10]):=by
 unfold lastB endL
 simp [bl_app,nlB,ubl]
def clean (c : UInt8) (b : ByteArray) : Prop:=c ∉ ubl b
theorem clean_app {c : UInt8} {a b : ByteArray} (h : clean c a) (k : clean c b) : clean c (a ++ b):=by
 unfold clean at *
 rw [bl_app]
 simp [h,k]
theorem clean_it {c : UInt8} (hc : c.toNat < 48) {n : Int} (h : 0≤n) : clean c (itB n):=fun hx=>by
 have:=itB_digit h hx
 omega
theorem line_clean {wd : ByteArray} {a b : Int} (hw : clean 10 wd) (a0 : 0≤a) (b0 : 0≤b) : clean 10 (lineB wd a b):=by
 unfold lineB
 exact clean_app (clean_app hw (clean_app (by unfold clean spB ubl;decide) (clean_it (by decide) a0))) (clean_app (by unfold clean spB ubl;decide) (clean_it (by decide) b0))
theorem ca_clean (c : UInt8) (h : c = 10∨c = 32) : clean c castleB∧clean c nozzleB∧(c = 10→clean c endB):=by
 rcases h with rfl | rfl
 ·exact ⟨by unfold clean castleB ubl;decide,by unfold clean nozzleB ubl;decide,fun _=>by unfold clean endB ubl;decide⟩
 ·exact ⟨by unfold clean castleB ubl;decide,by unfold clean nozzleB ubl;decide,fun h=>by cases h⟩
theorem end_clean {c : Int} (c0 : 0≤c) : clean 10 (endL c):=by
 have q1 : Int.tdiv c 100 = c / 100:=Int.tdiv_eq_ediv_of_nonneg c0
 have q2 : Int.tdiv c 10 = c / 10:=Int.tdiv_eq_ediv_of_nonneg c0
 have q3 : Int.tmod c 10 = c % 10:=Int.tmod_eq_emod_of_nonneg c0
 have q4 : Int.tmod (c / 10) 10 = c / 10 % 10:=Int.tmod_eq_emod_of_nonneg (by omega)
 unfold endL
 rw [q1,q2,q3,q4]
 exact clean_app (clean_app (clean_app ((ca_clean 10 (.inl rfl)).2.2 rfl) (clean_it (by decide) (by omega))) (clean_it (by decide) (by omega))) (clean_it (by decide) (by omega))
theorem seal_cut {xs : List ByteArray} (hx : ∀ x ∈ xs,clean 10 x) {c : Int} (c0 : 0≤c) (i chk : Int) : cutL 10 (ubl (lastB (sealGo xs i ByteArray.empty chk).1 c)) = xs.map ubl ++ [ubl (endL c),[]]:=by
 rw [last_bl,sealGo_out]
 have : ubl ByteArray.empty = []:=rfl
 rw [this,List.nil_append,cutL_lines _ (fun l hl=>by obtain ⟨x,hx2,rfl⟩:=List.mem_map.1 hl;exact hx x hx2)]
 rw [cutL_app (end_clean c0)]
 rfl
theorem chk_nn : ∀ (xs : List ByteArray) (i : Int) (out : ByteArray) (chk : Int),0≤i→i + xs.length≤900→(∀ x ∈ xs,x.size≤1000)→0≤chk→chk≤255000000000 * i→0≤(sealGo xs i out chk).2
 | [],i,out,chk,h0,h1,hx,c0,c1=>c0
 | x :: xs,i,out,chk,h0,h1,hx,c0,c1=>by
  simp only [List.length_cons] at h1
  have hz:=hx x (by simp)
  have sb : sumBd x.size≤255000000000:=by unfold sumBd;omega
  have hs:=sum_in x i h0 (by omega) x.size 0 chk (by omega) (by omega) c0 (by omega)
  exact chk_nn xs (i + 1) _ _ (by omega) (by omega) (fun y hy=>hx y (by simp [hy])) (by omega) (by omega)
def chkC (weir spill : Int) (noz : List S48) : Int:=(sealGo (linesL weir spill noz) 0 ByteArray.empty 0).2.tmod 127
theorem lines_clean {weir spill : Int} {noz : List S48} (h : okN weir spill noz) : ∀ x ∈ linesL weir spill noz,clean 10 x:=by
 obtain ⟨h0,h1,h2⟩:=h
 intro x hx
 rcases List.mem_cons.1 hx with rfl | hx
 ·exact line_clean (ca_clean 10 (.inl rfl)).1 h1.1 h1.2.2.1
 ·obtain ⟨z,hz,rfl⟩:=List.mem_map.1 hx
  have:=h2 z hz
  exact line_clean (ca_clean 10 (.inl rfl)).2.1 this.1 this.2.2.1
theorem chkC_nn {weir spill : Int} {noz : List S48} (h : okN weir spill noz) : 0≤chkC weir spill noz∧chkC weir spill noz≤126:=by
 have hl:=h.1
 have:=chk_nn (linesL weir spill noz) 0 ByteArray.empty 0 (by omega) (by simp [linesL];omega) (fun x hx=>by have:=lines_size h x hx;omega) (by omega) (by omega)
 unfold chkC
 rw [Int.tmod_eq_emod_of_nonneg this]
 omega
theorem text_split {weir spill : Int} {noz : List S48} (h : okN weir spill noz) : splitF (ca_text.f weir spill noz) nlB = linesL weir spill noz ++ [endL (chkC weir spill noz),ByteArray.empty]:=by
 apply bls_inj
 have c:=seal_cut (lines_clean h) (chkC_nn h).1 0 0
 unfold chkC at c ⊢
 rw [splitF_cut _ nlB 10 rfl,text_seal,c]
 simp
 rfl
theorem line_split {wd : ByteArray} {a b : Int} (hw : clean 32 wd) (a0 : 0≤a) (b0 : 0≤b) : splitF (lineB wd a b) spB = [wd,itB a,itB b]:=by
 apply bls_inj
 rw [splitF_cut _ spB 32 rfl]
 have e : ubl (lineB wd a b) = ubl wd ++ 32 :: (ubl (itB a) ++ 32 :: ubl (itB b)):=by simp [lineB,bl_app,spB,ubl]
 rw [e,cutL_app hw,cutL_app (clean_it (by decide) a0),cutL_none (clean_it (by decide) b0)]
 rfl
theorem told_line {wd : ByteArray} {a b : Int} (hw : clean 32 wd) (a0 : 0≤a) (a1 : a≤999) (b0 : 0≤b) (b1 : b≤999) : toldF (lineB wd a b) wd = some (a,b):=by
 unfold toldF
 rw [line_split hw a0 b0]
 simp only [toldW,if_true]
 rw [numF_it a0 a1,numF_it b0 b1]
 rfl
def okP (weir spill : Int) (noz : List S48) : Prop:=noz.length≤800∧(0≤weir∧weir≤999∧0≤spill∧spill≤999)∧∀ z ∈ noz,0≤z.f0∧z.f0≤999∧0≤z.f1∧z.f1≤999
theorem okP.n {weir spill : Int} {noz : List S48} (h : okP weir spill noz) : okN weir spill noz:=⟨h.1,by have:=h.2.1;omega,fun z hz=>by have:=h.2.2 z hz;omega⟩
theorem rowsGo_eq : ∀ {noz : List S48},(∀ z ∈ noz,0≤z.f0∧z.f0≤999∧0≤z.f1∧z.f1≤999)→rowsGo (noz.map fun z=>lineB nozzleB z.f0 z.f1) = some noz
 | [],_=>rfl
 | z :: noz,h=>by
  have hz:=h z (by simp)
  simp only [List.map_cons,rowsGo]
  rw [told_line (ca_clean 32 (.inr rfl)).2.1 hz.1 hz.2.1 hz.2.2.1 hz.2.2.2,Option.bind_some,rowsGo_eq (fun y hy=>h y (by simp [hy]))]
  rfl
theorem parsed_text {weir spill : Int} {noz : List S48} (h : okP weir spill noz) : parsedF (ca_text.f weir spill noz) = some (weir,spill,noz):=by
 unfold parsedF
 rw [text_split h.n]
 unfold parsedW linesL
 have hl : (lineB castleB weir spill :: noz.map (fun z=>lineB nozzleB z.f0 z.f1) ++ [endL (chkC weir spill noz),ByteArray.empty]).length = noz.length + 3:=by simp
 rw [if_pos (by rw [hl];omega)]
 have g0 : (lineB castleB weir spill :: noz.map (fun z=>lineB nozzleB z.f0 z.f1) ++ [endL (chkC weir spill noz),ByteArray.empty]).getD 0 ByteArray.empty = lineB castleB weir spill:=rfl
 have g1 : ((lineB castleB weir spill :: noz.map (fun z=>lineB nozzleB z.f0 z.f1) ++ [endL (chkC weir spill noz),ByteArray.empty]).drop 1).take ((lineB castleB weir spill :: noz.map (fun z=>lineB nozzleB z.f0 z.f1) ++ [endL (chkC weir spill noz),ByteArray.empty]).length - 3) = noz.map (fun z=>lineB nozzleB z.f0 z.f1):=by
  rw [hl,List.cons_append,List.drop_succ_cons,List.drop_zero,Nat.add_sub_cancel,List.take_append_of_le_length (by simp),List.take_of_length_le (by simp)]
 rw [g0,g1,told_line (ca_clean 32 (.inr rfl)).1 h.2.1.1 h.2.1.2.1 h.2.1.2.2.1 h.2.1.2.2.2,Option.bind_some,rowsGo_eq h.2.2,Option.bind_some,if_pos rfl]
theorem okB_P {rows : List S126} {draw : Int} {noz : List S48} {weir spill : Int} (h : okB rows draw noz weir spill = true) : okP weir spill noz∧noz.length≤6∧weir≤40∧spill≤100∧∀ z ∈ noz,z.f0≤11∧z.f1≤40:=by
 have hB:=okB_iff.1 h
 unfold okB at h
 simp only [Bool.and_eq_true,decide_eq_true_eq] at h
 have n2:=hB.n2
 have r2:=hB.r2
 have hz : ∀ z ∈ noz,0≤z.f0∧z.f0≤11∧0≤z.f1∧z.f1≤40:=fun z hz=>by
  have:=List.all_eq_true.1 h.2.2.2.2 z hz
  unfold nozOk at this
  simp only [Bool.and_eq_true,decide_eq_true_eq] at this
  omega
 refine ⟨⟨by omega,by omega,fun z hm=>by have:=hz z hm;omega⟩,by omega,by omega,by omega,fun z hm=>by have:=hz z hm;omega⟩
theorem text_size {weir spill : Int} {noz : List S48} (h : okP weir spill noz) (hn : noz.length≤6) (w1 : weir≤40) (s1 : spill≤100) (hz : ∀ z ∈ noz,z.f0≤11∧z.f1≤40) : (ca_text.f weir spill noz).size≤200:=by
 rw [text_seal]
 have it2 : ∀ n : Int,0≤n→n < 100→(itB n).size≤2:=fun n a b=>by rw [← bl_size,itB_nn a];exact decLen n.toNat 1 (by omega)
 have it3 : ∀ n : Int,0≤n→n < 1000→(itB n).size≤3:=fun n a b=>by rw [← bl_size,itB_nn a];exact decLen n.toNat 2 (by omega)
 have it1 : ∀ n : Int,0≤n→n < 10→(itB n).size≤1:=fun n a b=>by rw [← bl_size,itB_nn a];exact decLen n.toNat 0 (by omega)
 have esp : spB.size = 1:=rfl
 have ec : castleB.size = 6:=rfl
 have en : nozzleB.size = 6:=rfl
 have enl : nlB.size = 1:=rfl
 have ee : endB.size = 4:=rfl
 have gen : ∀ (xs : List ByteArray) (i : Int) (out : ByteArray) (chk : Int),(∀ x ∈ xs,x.size≤13)→(sealGo xs i out chk).1.size≤out.size + 14 * xs.length:=by
  intro xs
  induction xs with
  | nil=>intro i out chk _;simp [sealGo]
  | cons x xs ih =>
   intro i out chk h
   simp only [sealGo]
   have:=ih (i + 1) (out ++ (x ++ nlB)) (sumB x i x.size 0 chk) (fun y hy=>h y (by simp [hy]))
   have hx:=h x (by simp)
   rw [ByteArray.size_append,ByteArray.size_append] at this
   simp only [List.length_cons]
   omega
 have hs:=gen (linesL weir spill noz) 0 ByteArray.empty 0 (fun x hx=>by
  rcases List.mem_cons.1 hx with rfl | hx
  ·have a:=it2 weir h.2.1.1 (by omega)
   have b:=it3 spill h.2.1.2.2.1 (by omega)
   unfold lineB;simp only [ByteArray.size_append];omega
  ·obtain ⟨z,hz2,rfl⟩:=List.mem_map.1 hx
   have q:=hz z hz2
   have q2:=h.2.2 z hz2
   have a:=it2 z.f0 q2.1 (by omega)
   have b:=it2 z.f1 q2.2.2.1 (by omega)
   unfold lineB;simp only [ByteArray.size_append];omega)
 have hl : (linesL weir spill noz).length≤7:=by simp [linesL];omega
 have c:=chkC_nn h.n
 unfold chkC at c
 obtain ⟨cc,hc⟩ : ∃ cc,(sealGo (linesL weir spill noz) 0 ByteArray.empty 0).2.tmod 127 = cc:=⟨_,rfl⟩
 rw [hc] at c ⊢
 have q1 : Int.tdiv cc 100 = cc / 100:=Int.tdiv_eq_ediv_of_nonneg c.1
 have q2 : Int.tdiv cc 10 = cc / 10:=Int.tdiv_eq_ediv_of_nonneg c.1
 have q3 : Int.tmod cc 10 = cc % 10:=Int.tmod_eq_emod_of_nonneg c.1
 have q4 : Int.tmod (cc / 10) 10 = cc / 10 % 10:=Int.tmod_eq_emod_of_nonneg (by omega)
 have i1:=it1 (cc / 100) (by omega) (by omega)
 have i2:=it1 (cc / 10 % 10) (by omega) (by omega)
 have i3:=it1 (cc % 10) (by omega) (by omega)
 have e0 : ByteArray.empty.size = 0:=rfl
 unfold lastB
 rw [q1,q2,q3,q4]
 simp only [ByteArray.size_append]
 omega
theorem textP_eq {rows : List S126} {draw : Int} {noz : List S48} {weir spill : Int} (h : okB rows draw noz weir spill = true) : ca_textP.f rows draw noz weir spill = some (ca_text.f weir spill noz):=by
 have p:=(okB_P h).1
 unfold ca_textP.f
 rw [if_pos ⟨by have:=p.1;omega,by have:=p.2.1;omega,List.all_eq_true.2 fun z hz=>by have:=p.2.2 z hz;simp only [smallN,decide_eq_true_eq];omega⟩]
theorem cPrint_eq {rows : List S126} {draw : Int} {noz : List S48} {weir spill : Int} (hl : rows.length≤1000) : ca_Print.f rows draw noz weir spill = some (if okB rows draw noz weir spill = true then (ca_text.f weir spill noz,0) else (⟨#[]⟩,2)):=by
 unfold ca_Print.f
 rw [isBasin_eq hl,Option.bind_some]
 cases h : okB rows draw noz weir spill with
 | false=>rfl
 | true=>rw [if_pos rfl,textP_eq h];rfl
theorem cRead_text {rows : List S126} {draw : Int} {noz : List S48} {weir spill : Int} (h : okB rows draw noz weir spill = true) : ca_ReadP.f rows draw (ca_text.f weir spill noz) = some (rows,draw,noz,weir,spill,0):=by
 obtain ⟨p,n,w,s,z⟩:=okB_P h
 have t:=text_size p n w s z
 have hB:=okB_iff.1 h
 have r2:=hB.r2
 unfold ca_ReadP.f ca_Read.f
 rw [if_pos ⟨by omega,by omega⟩,if_neg (by omega),parsed_text p]
 simp only
 rw [isBasin_eq (by omega),h,Option.bind_some,if_pos rfl]
theorem st_go (rows : List S126) (d1 d2 : Int) (hl : rows.length≤1000) : ∀ (d k : Nat) (i : Int),0≤i→i + d = rows.length→d < k→q3_SameTables.l0 k i rows d1 rows d2 = some true
 | 0,k,i,h0,h1,hk=>by
  obtain ⟨k,rfl⟩:=ksucc (by omega : 0 < k)
  simp only [q3_SameTables.l0]
  rw [if_neg (by omega)]
 | d + 1,k,i,h0,h1,hk=>by
  obtain ⟨k,rfl⟩:=ksucc (by omega : 0 < k)
  simp only [q3_SameTables.l0]
  rw [if_pos (by omega),if_pos h0,if_pos (by omega),if_neg (by simp),w64 (n:=i + 1) (by omega)]
  exact st_go rows d1 d2 hl d k (i + 1) (by omega) (by omega) (by omega)
theorem sb_go (rows : List S126) (draw : Int) (noz : List S48) (weir spill : Int) (hl : noz.length≤1000) : ∀ (d k : Nat) (i : Int),0≤i→i + d = noz.length→d < k→q4_SameBasins.l0 k i rows draw noz weir spill rows draw noz weir spill = some true
 | 0,k,i,h0,h1,hk=>by
  obtain ⟨k,rfl⟩:=ksucc (by omega : 0 < k)
  simp only [q4_SameBasins.l0]
  rw [if_neg (by omega)]
 | d + 1,k,i,h0,h1,hk=>by
  obtain ⟨k,rfl⟩:=ksucc (by omega : 0 < k)
  simp only [q4_SameBasins.l0]
  rw [if_pos (by omega),if_pos h0,if_pos (by omega),if_neg (by simp),w64 (n:=i + 1) (by omega)]
  exact sb_go rows draw noz weir spill hl d k (i + 1) (by omega) (by omega) (by omega)
theorem sb_refl {rows : List S126} {draw : Int} {noz : List S48} {weir spill : Int} (hr : rows.length≤1000) (hl : noz.length≤1000) {k : Nat} (hk : rows.length + noz.length + 3≤k) : q4_SameBasins.f k rows draw noz weir spill rows draw noz weir spill = some true:=by
 obtain ⟨k,rfl⟩:=ksucc (by omega : 0 < k)
 unfold q4_SameBasins.f q3_SameTables.f
 rw [if_pos rfl]
 simp only [bne_self_eq_false,q3_SameTables.j0,Bool.false_eq_true,if_false]
 rw [st_go rows draw draw hr rows.length k 0 (by omega) (by omega) (by omega),Option.bind_some,if_pos rfl]
 simp only [if_true,q4_SameBasins.j0,Bool.false_eq_true,if_false]
 exact sb_go rows draw noz weir spill hl noz.length k 0 (by omega) (by omega) (by omega)
theorem prints_pure (rows : List S126) (draw : Int) (noz : List S48) (weir spill : Int) {k : Nat} (hk : 10000≤k) : l4_CastlePrints.f k rows draw noz weir spill = some true:=by
 unfold l4_CastlePrints.f
 rw [short_eq,Option.bind_some]
 by_cases s : rows.length≤15∧noz.length≤8
 case neg=>rw [decide_eq_false s,if_neg (by decide),known_true];rfl
 rw [decide_eq_true s,if_pos rfl,cPrint_eq (by omega),Option.bind_some,refBasin_eq (by omega) (by omega) (by omega),Option.bind_some]
 cases b : okB rows draw noz weir spill with
 | false =>
  simp only [Bool.false_eq_true,if_false,if_true]
  rw [if_pos (by rw [ByteArray.toList_eq]),known_true];rfl
 | true =>
  have p:=okB_P b
  simp only [if_true]
  rw [cRead_text b,Option.bind_some,rPrint_eq rows draw p.1.n (by omega),Option.bind_some]
  simp only [if_true]
  rw [sb_refl (by omega) (by omega) (by omega),Option.bind_some,if_pos rfl,known_true];rfl
end Go.Proofs.YtnnmnhpeblhiiaaGreatDoor.C

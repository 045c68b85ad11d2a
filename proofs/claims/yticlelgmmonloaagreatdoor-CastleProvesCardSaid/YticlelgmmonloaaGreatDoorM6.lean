/- A part of the proof: the walks of the functions that it reaches. TIGHT. -/
import Derived.Test.YticlelgmmonloaaGreatDoorM5
import Derived.Laws.MakeOwn
import Derived.Laws.EntriesVeiled
import Derived.Tactics2
import Derived.Defers
import Derived.Recover
import Derived.Laws.Pointers
import Derived.Lib.Hide
namespace Go.Proofs.YticlelgmmonloaaGreatDoor.C
open Go Go.RowKit Go.Shelf Go.Proofs.YticlelgmmonloaaGreatDoorW.PrintWords Go.Proofs.YticlelgmmonloaaGreatDoorW.PrintLast Go.Proofs.YticlelgmmonloaaGreatDoorW.PrintMore
set_option linter.unusedVariables false
set_option linter.unusedSimpArgs false
set_option maxHeartbeats 16000000
set_option maxRecDepth 100000
section
attribute [local go_sem] max2_int min2_int max_two min_two
def hsBy (F : List Int → Int → List (List Int)) (pre : List Int) (ht left : Int) : Nat → List (List Int)
 | 0 => []
 | k + 1 => (if ca_isHeight.f (ht + (2 - (k : Int))) = some true then (if max (2 - (k : Int)) (-(2 - (k : Int))) ≤ left then F (pre ++ [ht + (2 - (k : Int))]) (left - max (2 - (k : Int)) (-(2 - (k : Int)))) else []) else []) ++ hsBy F pre ht left k
def hsOf : List Int → List Int → Int → List (List Int)
 | [],pre,left => if 0 < left then [] else [pre]
 | ht :: rest,pre,left => hsBy (hsOf rest) pre ht left 5
theorem set_nil (w0 : World) (l gn gr gy gb gs : Nat) (A0_0 : Option Addr) (c0_0 n0 : Nat) (a0_1 : Int) (A0_2 : Option Addr) (c0_2 : Nat) (l0_2 : List S64) (a0_3 a0_4 : Int) (J Jx : List HX → World → Prop) (Bd : Nat) (hJ : AbidesC Bd J) (m : Nat) (hY : ∀ pre x W1,J pre W1 → hOk l0_2.length x W1 → YieldAt Fence.wide m Tryz.prog l (hEnc x) W1 fun e W' => (e = .returned (.bool true) ∧ J (pre ++ [x]) W' ∧ KeepsCells W1 W') ∨ (e = .returned (.bool false) ∧ Jx (pre ++ [x]) W')) (pre0 : List Int) (left : Int) (px : List HX) (n : Nat) (W : World) (hnl : pre0.length < 17592186044416) (hP : pre0.length = l0_2.length ∧ ∀ z ∈ pre0,0 ≤ z ∧ z ≤ 40) (st : HSt W w0 l gn gr gy gb gs A0_0 c0_0 n0 a0_1 A0_2 c0_2 l0_2 a0_3 a0_4 (pre0 ++ [])) (hj : J px W) :
 CallsIn Fence.wide n Tryz.prog 106 #[.int .i64 pre0.length,.int .i64 left,.pointer (some ⟨gn,0,none⟩),.pointer (some ⟨gy,0,none⟩),.pointer (some ⟨gb,0,none⟩),.pointer (some ⟨gs,0,none⟩)] W (fun e W' => (e = .returned (.bool true) ∧ ∃ (tl : List Int) (xs : List HX),tl.length = ([] : List Int).length ∧ HSt W' w0 l gn gr gy gb gs A0_0 c0_0 n0 a0_1 A0_2 c0_2 l0_2 a0_3 a0_4 (pre0 ++ tl) ∧ xs.map (·.1) = hsOf ([]) pre0 left ∧ J (px ++ xs) W') ∨ (e = .returned (.bool false) ∧ ∃ xs : List HX,xs.map (·.1) <+: hsOf ([]) pre0 left ∧ Jx (px ++ xs) W')) := by
 have st0 := st
 rw [List.append_nil] at st
 by_cases hl : 0 < left
 · refine (set_end_no w0 l gn gr gy gb gs A0_0 c0_0 n0 a0_1 A0_2 c0_2 l0_2 a0_3 a0_4 pre0 left hl n W st).mono ?_
   rintro e W' ⟨rfl,hb⟩
   exact .inl ⟨rfl,[],[],rfl,st0.keeps (KeepsCells.of_below hb),by simp [hsOf,hl],by rw [List.append_nil];exact hJ.below hj hb⟩
 · refine (set_end_yes w0 l gn gr gy gb gs A0_0 c0_0 n0 a0_1 A0_2 c0_2 l0_2 a0_3 a0_4 J Jx Bd hJ m hY pre0 left hl hnl hP n px W st hj).mono ?_
   rintro e W' (⟨rfl,hk,x,hx,hj2⟩ | ⟨rfl,x,hx,hx2⟩)
   · exact .inl ⟨rfl,[],[x],rfl,st0.keeps hk,by simp [hsOf,hl,hx],hj2⟩
   · exact .inr ⟨rfl,[x],by simp [hsOf,hl,hx],hx2⟩
theorem grown_set {W : World} {g i : Nat} {v : Value} : W.grownBy (W.setCell ⟨g,i,none⟩ v) (some g) :=
 have hb := (Below.refl 0 W).setCell (p := ⟨g,i,none⟩) (Nat.zero_le _) v
 ⟨hb.os,hb.tape,hb.output,hb.size,fun k hk hne => by
  obtain ⟨q,hq⟩ : ∃ q,W.heap[k]? = some q := ⟨_,Array.getElem?_eq_getElem hk⟩
  rw [hq]
  exact obj_far (p := ⟨g,i,none⟩) hq (fun e => hne (by rw [e])) _⟩
theorem setStep (w0 : World) {l gn gr gy gb gs : Nat} {A0_0 : Option Addr} {c0_0 n0 : Nat} {a0_1 : Int} {A0_2 : Option Addr} {c0_2 : Nat} {l0_2 : List S64} {a0_3 a0_4 : Int} (J Jx : List HX → World → Prop) (Bd : Nat) (hJ : AbidesC Bd J) (hgr : Bd ≤ gr) {ht : Int} {rest pre0 tl1 dn tail : List Int} {y0 left : Int} {px : List HX}
 (hd : l0_2.map (·.f1) = dn ++ ht :: rest) (hdl : dn.length = pre0.length) (htl3 : tl1.length = rest.length) (h0 : 0 ≤ left) (h1 : left ≤ 1000) (hh : ∀ h ∈ ht :: rest,0 ≤ h ∧ h ≤ 40) (hnl : (pre0 ++ tail).length < 17592186044416 ∧ ∀ z ∈ pre0,0 ≤ z ∧ z ≤ 40) (hlen : (pre0 ++ tail).length = pre0.length + (rest.length + 1)) (far h : Int) (hfar : 0 ≤ far) (hin : 0 ≤ h ∧ h ≤ 40) (hf : far ≤ left) {W2 : World} (hs : HSt W2 w0 l gn gr gy gb gs A0_0 c0_0 n0 a0_1 A0_2 c0_2 l0_2 a0_3 a0_4 (pre0 ++ y0 :: tl1)) (hj : J px W2)
 (ih : ∀ (pre0 tail : List Int) (left : Int) (px : List HX) (n : Nat) (W : World) (dn : List Int),l0_2.map (·.f1) = dn ++ rest → dn.length = pre0.length → tail.length = rest.length → 0 ≤ left → left ≤ 1000 → (∀ h ∈ rest,0 ≤ h ∧ h ≤ 40) → ((pre0 ++ tail).length < 17592186044416 ∧ ∀ z ∈ pre0,0 ≤ z ∧ z ≤ 40) → HSt W w0 l gn gr gy gb gs A0_0 c0_0 n0 a0_1 A0_2 c0_2 l0_2 a0_3 a0_4 (pre0 ++ tail) → J px W → CallsIn Fence.wide n Tryz.prog 106 #[.int .i64 pre0.length,.int .i64 left,.pointer (some ⟨gn,0,none⟩),.pointer (some ⟨gy,0,none⟩),.pointer (some ⟨gb,0,none⟩),.pointer (some ⟨gs,0,none⟩)] W (fun e W' => (e = .returned (.bool true) ∧ ∃ (tl : List Int) (xs : List HX),tl.length = (rest : List Int).length ∧ HSt W' w0 l gn gr gy gb gs A0_0 c0_0 n0 a0_1 A0_2 c0_2 l0_2 a0_3 a0_4 (pre0 ++ tl) ∧ xs.map (·.1) = hsOf (rest) pre0 left ∧ J (px ++ xs) W') ∨ (e = .returned (.bool false) ∧ ∃ xs : List HX,xs.map (·.1) <+: hsOf (rest) pre0 left ∧ Jx (px ++ xs) W'))) (n : Nat) :
 CallsIn Fence.wide n Tryz.prog 106 #[.int .i64 ((pre0.length : Int) + 1),.int .i64 (left - far),.pointer (some ⟨gn,0,none⟩),.pointer (some ⟨gy,0,none⟩),.pointer (some ⟨gb,0,none⟩),.pointer (some ⟨gs,0,none⟩)] (W2.setCell ⟨gr,pre0.length,none⟩ (.int .i64 h)) (fun e W' => (e = .returned (.bool true) ∧ ∃ (tl : List Int) (xs : List HX),tl.length = (rest : List Int).length ∧ HSt W' w0 l gn gr gy gb gs A0_0 c0_0 n0 a0_1 A0_2 c0_2 l0_2 a0_3 a0_4 ((pre0 ++ [h]) ++ tl) ∧ xs.map (·.1) = hsOf (rest) (pre0 ++ [h]) (left - far) ∧ J (px ++ xs) W') ∨ (e = .returned (.bool false) ∧ ∃ xs : List HX,xs.map (·.1) <+: hsOf (rest) (pre0 ++ [h]) (left - far) ∧ Jx (px ++ xs) W')) := by
 have h3 := ih (pre0 ++ [h]) tl1 (left - far) px n (W2.setCell ⟨gr,pre0.length,none⟩ (.int .i64 h)) (dn ++ [ht]) (by rw [hd];simp) (by simp [hdl]) htl3 (by omega) (by omega) (fun z hz => hh z (List.mem_cons_of_mem _ hz)) ⟨by have hnl := hnl.1;rw [hlen] at hnl;simp;omega,fun z hz => (List.mem_append.1 hz).elim (hnl.2 z) (fun e => by rw [List.mem_singleton.1 e];exact hin)⟩
  (by have h4 := hs.store pre0.length h;rw [show (pre0 ++ y0 :: tl1).set pre0.length h = pre0 ++ [h] ++ tl1 by simp] at h4;exact h4) (hJ _ _ _ _ hj grown_set (fun r e => by cases e;exact hgr))
 rw [show (((pre0 ++ [h]).length : Nat) : Int) = (pre0.length : Int) + 1 by simp] at h3
 exact h3
theorem isH_in {h : Int} (hh : ca_isHeight.f h = some true) : 0 ≤ h ∧ h ≤ 40 := by
 unfold ca_isHeight.f ca_in.f at hh
 split at hh
 · rename_i h1
   have := of_decide_eq_true (Option.some.inj hh)
   omega
 · cases hh
theorem isH_total (h : Int) : ∃ t,ca_isHeight.f h = some t := by
 unfold ca_isHeight.f ca_in.f
 split <;> exact ⟨_,rfl⟩
theorem set_in (w0 : World) (l gn gr gy gb gs : Nat) (A0_0 : Option Addr) (c0_0 n0 : Nat) (a0_1 : Int) (A0_2 : Option Addr) (c0_2 : Nat) (l0_2 : List S64) (a0_3 a0_4 : Int) (J Jx : List HX → World → Prop) (Bd : Nat) (hJ : AbidesC Bd J) (m : Nat) (hY : ∀ pre x W1,J pre W1 → hOk l0_2.length x W1 → YieldAt Fence.wide m Tryz.prog l (hEnc x) W1 fun e W' => (e = .returned (.bool true) ∧ J (pre ++ [x]) W' ∧ KeepsCells W1 W') ∨ (e = .returned (.bool false) ∧ Jx (pre ++ [x]) W')) (hgr : Bd ≤ gr) (hrows : Kd.C k64 w0 A0_2 l0_2.length l0_2) : ∀ (rest pre0 tail : List Int) (left : Int) (px : List HX) (n : Nat) (W : World) (dn : List Int),l0_2.map (·.f1) = dn ++ rest → dn.length = pre0.length → tail.length = rest.length → 0 ≤ left → left ≤ 1000 → (∀ h ∈ rest,0 ≤ h ∧ h ≤ 40) → ((pre0 ++ tail).length < 17592186044416 ∧ ∀ z ∈ pre0,0 ≤ z ∧ z ≤ 40) → HSt W w0 l gn gr gy gb gs A0_0 c0_0 n0 a0_1 A0_2 c0_2 l0_2 a0_3 a0_4 (pre0 ++ tail) → J px W →
 CallsIn Fence.wide n Tryz.prog 106 #[.int .i64 pre0.length,.int .i64 left,.pointer (some ⟨gn,0,none⟩),.pointer (some ⟨gy,0,none⟩),.pointer (some ⟨gb,0,none⟩),.pointer (some ⟨gs,0,none⟩)] W (fun e W' => (e = .returned (.bool true) ∧ ∃ (tl : List Int) (xs : List HX),tl.length = (rest : List Int).length ∧ HSt W' w0 l gn gr gy gb gs A0_0 c0_0 n0 a0_1 A0_2 c0_2 l0_2 a0_3 a0_4 (pre0 ++ tl) ∧ xs.map (·.1) = hsOf (rest) pre0 left ∧ J (px ++ xs) W') ∨ (e = .returned (.bool false) ∧ ∃ xs : List HX,xs.map (·.1) <+: hsOf (rest) pre0 left ∧ Jx (px ++ xs) W')) := by
 intro rest
 induction rest with
 | nil =>
  intro pre0 tail left px n W dn hd hdl htl h0 h1 hh hnlp st hj
  obtain ⟨hnl,hpr⟩ := hnlp
  obtain rfl := List.length_eq_zero_iff.1 htl
  exact set_nil w0 l gn gr gy gb gs A0_0 c0_0 n0 a0_1 A0_2 c0_2 l0_2 a0_3 a0_4 J Jx Bd hJ m hY pre0 left px n W (by simpa using hnl) ⟨by have := congrArg List.length hd;simp at this;omega,hpr⟩ st hj
 | cons ht rest ih =>
  intro pre0 tail left px n W dn hd hdl htl h0 h1 hh hnlp st hj
  obtain ⟨hnl,hpr⟩ := hnlp
  have hlen : (pre0 ++ tail).length = pre0.length + (rest.length + 1) := by rw [List.length_append,htl];rfl
  have hn2 : l0_2.length = pre0.length + (rest.length + 1) := by have := congrArg List.length hd;simp at this;omega
  have hht := hh ht List.mem_cons_self
  have hrd : (rd_T64 l0_2 (pre0.length : Int)).f1 = ht := by
   have h3 : (l0_2.map (·.f1))[pre0.length]? = some ht := by rw [hd,← hdl];simp
   unfold rd_T64
   rw [List.getElem?_map] at h3
   obtain ⟨y,hy,hy2⟩ := Option.map_eq_some_iff.mp h3
   rw [List.getD_eq_getElem?_getD,show ((pre0.length : Int)).toNat = pre0.length by omega,hy]
   exact hy2
  obtain ⟨adz,ez,hx0,hx1⟩ := at_T64 hrows (pre0.length : Int) (by omega) (by omega)
  subst ez
  rw [hrd] at hx1
  simp only [Int.toNat_natCast] at hx1
  have HX1 := am hx1
  clear hx0 hx1
  have hb0 : ((pre0.length : Int) == ((pre0 ++ tail).length : Int)) = false := by rw [hlen];simp;omega
  have hcap := st.cap
  have c0 := (blk_cell st.bn 0).trans rfl
  have q0 : (0 : Int) ≤ (pre0.length : Int) := by omega
  have q1 : (pre0.length : Int) < (l0_2.length : Int) := by omega
  refine callsIn_of_wp Tryz.func106 rfl trivial ?_ rfl
  simp only [Tryz.ntmps106,List.size_toArray,List.length_cons,List.length_nil,Nat.reduceAdd,Nat.reduceSub,Array.replicate_succ,Array.replicate_zero,List.push_toArray,List.append_toArray,List.nil_append,List.cons_append]
  gi_wp2
  obtain ⟨T,hT⟩ : ∃ T,hsBy (hsOf rest) pre0 ht left 5 = T := ⟨_,rfl⟩
  gi_loopw [9] (fun v9 W' => ∃ (k : Nat) (tl : List Int) (xs : List HX),k ≤ 5 ∧ v9 = .int .i64 (3 - (k : Int)) ∧ tl.length = rest.length + 1 ∧ Aside0 (HSt W' w0 l gn gr gy gb gs A0_0 c0_0 n0 a0_1 (some adz) c0_2 l0_2 a0_3 a0_4 (pre0 ++ tl)) ∧ Aside0 (xs.map (·.1) ++ hsBy (hsOf rest) pre0 ht left k = T) ∧ Aside0 (J (px ++ xs) W')) (fun v9 _ => (3 - intOf v9).toNat)
  case atStart => exact ⟨5,tail,[],by omega,rfl,by rw [htl];rfl,⟨st⟩,⟨by simpa using hT⟩,⟨by simpa using hj⟩⟩
  case round =>
   clear c0 hb0 hcap
   obtain ⟨k,tl,xs,hk5,rfl,htl2,HS,HX2,HJ2⟩ := hrel
   have hlen2 : (pre0 ++ tl).length = pre0.length + (rest.length + 1) := by rw [List.length_append,htl2]
   have hx1 := keeps_cell HS.out.old HX1.out
   have c0 := (blk_cell HS.out.bn 0).trans rfl
   have c1 := (blk_cell HS.out.bb 2).trans rfl
   have c2 := (blk_cell HS.out.bs 0).trans rfl
   have q2 : (pre0.length : Int) < ((pre0 ++ tl).length : Int) := by omega
   obtain ⟨b,hb⟩ : ∃ b : Int,3 - (k : Int) = b := ⟨_,rfl⟩
   rw [hb]
   obtain ⟨y0,tl1,rfl⟩ : ∃ y0 tl1,tl = y0 :: tl1 := by cases tl with
    | nil => simp at htl2
    | cons a t => exact ⟨a,t,rfl⟩
   have htl3 : tl1.length = rest.length := by simpa using htl2
   have hkc : k = 0 ∨ k = 1 ∨ k = 2 ∨ k = 3 ∨ k = 4 ∨ k = 5 := by omega
   rcases hkc with rfl | rfl | rfl | rfl | rfl | rfl
   · obtain rfl : b = (3) := by omega
     gi_wp2
     go_ret
     exact .inl ⟨rfl,y0 :: tl1,xs,htl2,HS.out,by have := HX2.out;rw [hsBy,List.append_nil] at this;exact this.trans hT.symm,HJ2.out⟩
   · obtain rfl : b = (2) := by omega
     have hw : IntKind.i64.wrap (ht + (2)) = ht + (2) := (i64_w _).trans (by unfold wrap64;omega)
     have hs1 : hsBy (hsOf rest) pre0 ht left 1 = (if ca_isHeight.f (ht + (2)) = some true then (if 2 ≤ left then hsOf rest (pre0 ++ [ht + (2)]) (left - 2) else []) else []) ++ hsBy (hsOf rest) pre0 ht left 0 := rfl
     have hx2 := HX2.out
     rw [hs1] at hx2
     obtain ⟨t,hh2⟩ := isH_total (ht + (2))
     cases t with
     | false =>
      rw [hh2,if_neg (by decide),List.nil_append] at hx2
      gi_wp2_with (refine ⟨trivial,fun h => Bool.noConfusion h,?_⟩;refine (callsIn_wide.2 (ca_isHeight.calls (ht + (2)) false _ hh2)).mono ?_;rintro e W2 ⟨rfl,hdr⟩;have hkp := KeepsCells.of_below hdr.below;have HS2 := am (HS.out.keeps hkp);have HJ3 := am (hJ.below HJ2.out hdr.below);have d0 := (blk_cell HS2.out.bn 0).trans rfl;have d1 := (blk_cell HS2.out.bb 2).trans rfl;have d2 := (blk_cell HS2.out.bs 0).trans rfl;clear hdr)
      go_roundw
      case rel => first | exact ⟨0,y0 :: tl1,xs,by omega,by simp,htl2,HS2,⟨hx2⟩,HJ3⟩ | trivial
      case measure => first | (simp [intOf];done) | trivial | omega
     | true =>
      rw [hh2,if_pos rfl] at hx2
      by_cases hf : (2 : Int) ≤ left
      case neg =>
       rw [if_neg hf,List.nil_append] at hx2
       have hd9 : decide (left < (2 : Int)) = true := decide_eq_true (by omega)
       gi_wp2_with (refine ⟨trivial,fun h => Bool.noConfusion h,?_⟩;refine (callsIn_wide.2 (ca_isHeight.calls (ht + (2)) true _ hh2)).mono ?_;rintro e W2 ⟨rfl,hdr⟩;have hkp := KeepsCells.of_below hdr.below;have HS2 := am (HS.out.keeps hkp);have HJ3 := am (hJ.below HJ2.out hdr.below);have d0 := (blk_cell HS2.out.bn 0).trans rfl;have d1 := (blk_cell HS2.out.bb 2).trans rfl;have d2 := (blk_cell HS2.out.bs 0).trans rfl;clear hdr)
       go_roundw
       case rel => first | exact ⟨0,y0 :: tl1,xs,by omega,by simp,htl2,HS2,⟨hx2⟩,HJ3⟩ | trivial
       case measure => first | (simp [intOf];done) | trivial | omega
      rw [if_pos hf] at hx2
      have hd9 : decide (left < (2 : Int)) = false := decide_eq_false (by omega)
      have hw5 : IntKind.i64.wrap ((pre0.length : Int) + 1) = (pre0.length : Int) + 1 := (i64_w _).trans (by unfold wrap64;omega)
      have hw6 : IntKind.i64.wrap (left - 2) = left - 2 := (i64_w _).trans (by unfold wrap64;omega)
      gi_wp2_with (first | (refine ⟨trivial,fun h => Bool.noConfusion h,?_⟩;refine (callsIn_wide.2 (ca_isHeight.calls (ht + (2)) true _ hh2)).mono ?_;rintro e W2 ⟨rfl,hdr⟩;have hkp := KeepsCells.of_below hdr.below;have HS2 := am (HS.out.keeps hkp);have HJ3 := am (hJ.below HJ2.out hdr.below);have d0 := (blk_cell HS2.out.bn 0).trans rfl;have d1 := (blk_cell HS2.out.bb 2).trans rfl;have d2 := (blk_cell HS2.out.bs 0).trans rfl;have d3 : W2.cell? ⟨gr,pre0.length,none⟩ = some (.int .i64 y0) := (blk_cell HS2.out.br pre0.length).trans (by simp);have d4 := blk_frozen HS2.out.br pre0.length;have hne1 : gs ≠ gr := obj_ne HS2.out.bs HS2.out.br (by decide);have hne2 : gr ≠ gs := fun e => hne1 e.symm;have ihx := setStep w0 J Jx Bd hJ hgr hd hdl htl3 h0 h1 hh ⟨hnl,hpr⟩ hlen 2 (ht + (2)) (by decide) (isH_in hh2) hf HS2.out HJ3.out ih (n - 1);clear hdr) | (refine ⟨trivial,fun h => Bool.noConfusion h,?_⟩;refine ihx.mono ?_;rintro e W4 (⟨rfl,tl2,xs2,htl4,hs4,hxs2,hj4⟩ | ⟨rfl,xs2,hxs2,hj4⟩)))
      · go_roundw
        case rel => exact ⟨0,(ht + (2)) :: tl2,xs ++ xs2,by omega,by simp,by simp [htl4],⟨by simpa using hs4⟩,⟨by rw [List.map_append,hxs2,List.append_assoc];exact hx2⟩,⟨by simpa [List.append_assoc] using hj4⟩⟩
        case measure => first | (simp [intOf];done) | omega
      · go_ret
        obtain ⟨rr,hrr⟩ := hxs2
        exact .inr ⟨rfl,xs ++ xs2,⟨rr ++ hsBy (hsOf rest) pre0 ht left 0,by rw [List.map_append,List.append_assoc,← List.append_assoc _ rr,hrr];exact hx2.trans hT.symm⟩,by simpa [List.append_assoc] using hj4⟩
   · obtain rfl : b = (1) := by omega
     have hw : IntKind.i64.wrap (ht + (1)) = ht + (1) := (i64_w _).trans (by unfold wrap64;omega)
     have hs1 : hsBy (hsOf rest) pre0 ht left 2 = (if ca_isHeight.f (ht + (1)) = some true then (if 1 ≤ left then hsOf rest (pre0 ++ [ht + (1)]) (left - 1) else []) else []) ++ hsBy (hsOf rest) pre0 ht left 1 := rfl
     have hx2 := HX2.out
     rw [hs1] at hx2
     obtain ⟨t,hh2⟩ := isH_total (ht + (1))
     cases t with
     | false =>
      rw [hh2,if_neg (by decide),List.nil_append] at hx2
      gi_wp2_with (refine ⟨trivial,fun h => Bool.noConfusion h,?_⟩;refine (callsIn_wide.2 (ca_isHeight.calls (ht + (1)) false _ hh2)).mono ?_;rintro e W2 ⟨rfl,hdr⟩;have hkp := KeepsCells.of_below hdr.below;have HS2 := am (HS.out.keeps hkp);have HJ3 := am (hJ.below HJ2.out hdr.below);have d0 := (blk_cell HS2.out.bn 0).trans rfl;have d1 := (blk_cell HS2.out.bb 2).trans rfl;have d2 := (blk_cell HS2.out.bs 0).trans rfl;clear hdr)
      go_roundw
      case rel => first | exact ⟨1,y0 :: tl1,xs,by omega,by simp,htl2,HS2,⟨hx2⟩,HJ3⟩ | trivial
      case measure => first | (simp [intOf];done) | trivial | omega
     | true =>
      rw [hh2,if_pos rfl] at hx2
      by_cases hf : (1 : Int) ≤ left
      case neg =>
       rw [if_neg hf,List.nil_append] at hx2
       have hd9 : decide (left < (1 : Int)) = true := decide_eq_true (by omega)
       gi_wp2_with (refine ⟨trivial,fun h => Bool.noConfusion h,?_⟩;refine (callsIn_wide.2 (ca_isHeight.calls (ht + (1)) true _ hh2)).mono ?_;rintro e W2 ⟨rfl,hdr⟩;have hkp := KeepsCells.of_below hdr.below;have HS2 := am (HS.out.keeps hkp);have HJ3 := am (hJ.below HJ2.out hdr.below);have d0 := (blk_cell HS2.out.bn 0).trans rfl;have d1 := (blk_cell HS2.out.bb 2).trans rfl;have d2 := (blk_cell HS2.out.bs 0).trans rfl;clear hdr)
       go_roundw
       case rel => first | exact ⟨1,y0 :: tl1,xs,by omega,by simp,htl2,HS2,⟨hx2⟩,HJ3⟩ | trivial
       case measure => first | (simp [intOf];done) | trivial | omega
      rw [if_pos hf] at hx2
      have hd9 : decide (left < (1 : Int)) = false := decide_eq_false (by omega)
      have hw5 : IntKind.i64.wrap ((pre0.length : Int) + 1) = (pre0.length : Int) + 1 := (i64_w _).trans (by unfold wrap64;omega)
      have hw6 : IntKind.i64.wrap (left - 1) = left - 1 := (i64_w _).trans (by unfold wrap64;omega)
      gi_wp2_with (first | (refine ⟨trivial,fun h => Bool.noConfusion h,?_⟩;refine (callsIn_wide.2 (ca_isHeight.calls (ht + (1)) true _ hh2)).mono ?_;rintro e W2 ⟨rfl,hdr⟩;have hkp := KeepsCells.of_below hdr.below;have HS2 := am (HS.out.keeps hkp);have HJ3 := am (hJ.below HJ2.out hdr.below);have d0 := (blk_cell HS2.out.bn 0).trans rfl;have d1 := (blk_cell HS2.out.bb 2).trans rfl;have d2 := (blk_cell HS2.out.bs 0).trans rfl;have d3 : W2.cell? ⟨gr,pre0.length,none⟩ = some (.int .i64 y0) := (blk_cell HS2.out.br pre0.length).trans (by simp);have d4 := blk_frozen HS2.out.br pre0.length;have hne1 : gs ≠ gr := obj_ne HS2.out.bs HS2.out.br (by decide);have hne2 : gr ≠ gs := fun e => hne1 e.symm;have ihx := setStep w0 J Jx Bd hJ hgr hd hdl htl3 h0 h1 hh ⟨hnl,hpr⟩ hlen 1 (ht + (1)) (by decide) (isH_in hh2) hf HS2.out HJ3.out ih (n - 1);clear hdr) | (refine ⟨trivial,fun h => Bool.noConfusion h,?_⟩;refine ihx.mono ?_;rintro e W4 (⟨rfl,tl2,xs2,htl4,hs4,hxs2,hj4⟩ | ⟨rfl,xs2,hxs2,hj4⟩)))
      · go_roundw
        case rel => exact ⟨1,(ht + (1)) :: tl2,xs ++ xs2,by omega,by simp,by simp [htl4],⟨by simpa using hs4⟩,⟨by rw [List.map_append,hxs2,List.append_assoc];exact hx2⟩,⟨by simpa [List.append_assoc] using hj4⟩⟩
        case measure => first | (simp [intOf];done) | omega
      · go_ret
        obtain ⟨rr,hrr⟩ := hxs2
        exact .inr ⟨rfl,xs ++ xs2,⟨rr ++ hsBy (hsOf rest) pre0 ht left 1,by rw [List.map_append,List.append_assoc,← List.append_assoc _ rr,hrr];exact hx2.trans hT.symm⟩,by simpa [List.append_assoc] using hj4⟩
   · obtain rfl : b = (0) := by omega
     have hw : IntKind.i64.wrap ht = ht := (i64_w _).trans (by unfold wrap64;omega)
     have hs1 : hsBy (hsOf rest) pre0 ht left 3 = (if ca_isHeight.f ht = some true then (if 0 ≤ left then hsOf rest (pre0 ++ [ht]) left else []) else []) ++ hsBy (hsOf rest) pre0 ht left 2 := by
      have h0_ : ht + (2 - ((2 : Nat) : Int)) = ht := by omega
      have h1_ : left - max (2 - ((2 : Nat) : Int)) (-(2 - ((2 : Nat) : Int))) = left := by omega
      rw [hsBy,h0_,h1_];rfl
     have hx2 := HX2.out
     rw [hs1] at hx2
     obtain ⟨t,hh2⟩ := isH_total ht
     cases t with
     | false =>
      rw [hh2,if_neg (by decide),List.nil_append] at hx2
      gi_wp2_with (refine ⟨trivial,fun h => Bool.noConfusion h,?_⟩;refine (callsIn_wide.2 (ca_isHeight.calls ht false _ hh2)).mono ?_;rintro e W2 ⟨rfl,hdr⟩;have hkp := KeepsCells.of_below hdr.below;have HS2 := am (HS.out.keeps hkp);have HJ3 := am (hJ.below HJ2.out hdr.below);have d0 := (blk_cell HS2.out.bn 0).trans rfl;have d1 := (blk_cell HS2.out.bb 2).trans rfl;have d2 := (blk_cell HS2.out.bs 0).trans rfl;clear hdr)
      go_roundw
      case rel => first | exact ⟨2,y0 :: tl1,xs,by omega,by simp,htl2,HS2,⟨hx2⟩,HJ3⟩ | trivial
      case measure => first | (simp [intOf];done) | trivial | omega
     | true =>
      rw [hh2,if_pos rfl] at hx2
      by_cases hf : (0 : Int) ≤ left
      case neg =>
       exact absurd h0 hf
      rw [if_pos hf] at hx2
      have hd9 : decide (left < (0 : Int)) = false := decide_eq_false (by omega)
      have hw5 : IntKind.i64.wrap ((pre0.length : Int) + 1) = (pre0.length : Int) + 1 := (i64_w _).trans (by unfold wrap64;omega)
      have hw6 : IntKind.i64.wrap left = left := (i64_w _).trans (by unfold wrap64;omega)
      gi_wp2_with (first | (refine ⟨trivial,fun h => Bool.noConfusion h,?_⟩;refine (callsIn_wide.2 (ca_isHeight.calls ht true _ hh2)).mono ?_;rintro e W2 ⟨rfl,hdr⟩;have hkp := KeepsCells.of_below hdr.below;have HS2 := am (HS.out.keeps hkp);have HJ3 := am (hJ.below HJ2.out hdr.below);have d0 := (blk_cell HS2.out.bn 0).trans rfl;have d1 := (blk_cell HS2.out.bb 2).trans rfl;have d2 := (blk_cell HS2.out.bs 0).trans rfl;have d3 : W2.cell? ⟨gr,pre0.length,none⟩ = some (.int .i64 y0) := (blk_cell HS2.out.br pre0.length).trans (by simp);have d4 := blk_frozen HS2.out.br pre0.length;have hne1 : gs ≠ gr := obj_ne HS2.out.bs HS2.out.br (by decide);have hne2 : gr ≠ gs := fun e => hne1 e.symm;have ihx := setStep w0 J Jx Bd hJ hgr hd hdl htl3 h0 h1 hh ⟨hnl,hpr⟩ hlen 0 ht (by decide) (isH_in hh2) hf HS2.out HJ3.out ih (n - 1);rw [Int.sub_zero] at ihx;clear hdr) | (refine ⟨trivial,fun h => Bool.noConfusion h,?_⟩;refine ihx.mono ?_;rintro e W4 (⟨rfl,tl2,xs2,htl4,hs4,hxs2,hj4⟩ | ⟨rfl,xs2,hxs2,hj4⟩)))
      · go_roundw
        case rel => exact ⟨2,ht :: tl2,xs ++ xs2,by omega,by simp,by simp [htl4],⟨by simpa using hs4⟩,⟨by rw [List.map_append,hxs2,List.append_assoc];exact hx2⟩,⟨by simpa [List.append_assoc] using hj4⟩⟩
        case measure => first | (simp [intOf];done) | omega
      · go_ret
        obtain ⟨rr,hrr⟩ := hxs2
        exact .inr ⟨rfl,xs ++ xs2,⟨rr ++ hsBy (hsOf rest) pre0 ht left 2,by rw [List.map_append,List.append_assoc,← List.append_assoc _ rr,hrr];exact hx2.trans hT.symm⟩,by simpa [List.append_assoc] using hj4⟩
   · obtain rfl : b = (-1) := by omega
     have hw : IntKind.i64.wrap (ht + (-1)) = ht + (-1) := (i64_w _).trans (by unfold wrap64;omega)
     have hs1 : hsBy (hsOf rest) pre0 ht left 4 = (if ca_isHeight.f (ht + (-1)) = some true then (if 1 ≤ left then hsOf rest (pre0 ++ [ht + (-1)]) (left - 1) else []) else []) ++ hsBy (hsOf rest) pre0 ht left 3 := rfl
     have hx2 := HX2.out
     rw [hs1] at hx2
     obtain ⟨t,hh2⟩ := isH_total (ht + (-1))
     cases t with
     | false =>
      rw [hh2,if_neg (by decide),List.nil_append] at hx2
      gi_wp2_with (refine ⟨trivial,fun h => Bool.noConfusion h,?_⟩;refine (callsIn_wide.2 (ca_isHeight.calls (ht + (-1)) false _ hh2)).mono ?_;rintro e W2 ⟨rfl,hdr⟩;have hkp := KeepsCells.of_below hdr.below;have HS2 := am (HS.out.keeps hkp);have HJ3 := am (hJ.below HJ2.out hdr.below);have d0 := (blk_cell HS2.out.bn 0).trans rfl;have d1 := (blk_cell HS2.out.bb 2).trans rfl;have d2 := (blk_cell HS2.out.bs 0).trans rfl;clear hdr)
      go_roundw
      case rel => first | exact ⟨3,y0 :: tl1,xs,by omega,by simp,htl2,HS2,⟨hx2⟩,HJ3⟩ | trivial
      case measure => first | (simp [intOf];done) | trivial | omega
     | true =>
      rw [hh2,if_pos rfl] at hx2
      by_cases hf : (1 : Int) ≤ left
      case neg =>
       rw [if_neg hf,List.nil_append] at hx2
       have hd9 : decide (left < (1 : Int)) = true := decide_eq_true (by omega)
       gi_wp2_with (refine ⟨trivial,fun h => Bool.noConfusion h,?_⟩;refine (callsIn_wide.2 (ca_isHeight.calls (ht + (-1)) true _ hh2)).mono ?_;rintro e W2 ⟨rfl,hdr⟩;have hkp := KeepsCells.of_below hdr.below;have HS2 := am (HS.out.keeps hkp);have HJ3 := am (hJ.below HJ2.out hdr.below);have d0 := (blk_cell HS2.out.bn 0).trans rfl;have d1 := (blk_cell HS2.out.bb 2).trans rfl;have d2 := (blk_cell HS2.out.bs 0).trans rfl;clear hdr)
       go_roundw
       case rel => first | exact ⟨3,y0 :: tl1,xs,by omega,by simp,htl2,HS2,⟨hx2⟩,HJ3⟩ | trivial
       case measure => first | (simp [intOf];done) | trivial | omega
      rw [if_pos hf] at hx2
      have hd9 : decide (left < (1 : Int)) = false := decide_eq_false (by omega)
      have hw5 : IntKind.i64.wrap ((pre0.length : Int) + 1) = (pre0.length : Int) + 1 := (i64_w _).trans (by unfold wrap64;omega)
      have hw6 : IntKind.i64.wrap (left - 1) = left - 1 := (i64_w _).trans (by unfold wrap64;omega)
      gi_wp2_with (first | (refine ⟨trivial,fun h => Bool.noConfusion h,?_⟩;refine (callsIn_wide.2 (ca_isHeight.calls (ht + (-1)) true _ hh2)).mono ?_;rintro e W2 ⟨rfl,hdr⟩;have hkp := KeepsCells.of_below hdr.below;have HS2 := am (HS.out.keeps hkp);have HJ3 := am (hJ.below HJ2.out hdr.below);have d0 := (blk_cell HS2.out.bn 0).trans rfl;have d1 := (blk_cell HS2.out.bb 2).trans rfl;have d2 := (blk_cell HS2.out.bs 0).trans rfl;have d3 : W2.cell? ⟨gr,pre0.length,none⟩ = some (.int .i64 y0) := (blk_cell HS2.out.br pre0.length).trans (by simp);have d4 := blk_frozen HS2.out.br pre0.length;have hne1 : gs ≠ gr := obj_ne HS2.out.bs HS2.out.br (by decide);have hne2 : gr ≠ gs := fun e => hne1 e.symm;have ihx := setStep w0 J Jx Bd hJ hgr hd hdl htl3 h0 h1 hh ⟨hnl,hpr⟩ hlen 1 (ht + (-1)) (by decide) (isH_in hh2) hf HS2.out HJ3.out ih (n - 1);clear hdr) | (refine ⟨trivial,fun h => Bool.noConfusion h,?_⟩;refine ihx.mono ?_;rintro e W4 (⟨rfl,tl2,xs2,htl4,hs4,hxs2,hj4⟩ | ⟨rfl,xs2,hxs2,hj4⟩)))
      · go_roundw
        case rel => exact ⟨3,(ht + (-1)) :: tl2,xs ++ xs2,by omega,by simp,by simp [htl4],⟨by simpa using hs4⟩,⟨by rw [List.map_append,hxs2,List.append_assoc];exact hx2⟩,⟨by simpa [List.append_assoc] using hj4⟩⟩
        case measure => first | (simp [intOf];done) | omega
      · go_ret
        obtain ⟨rr,hrr⟩ := hxs2
        exact .inr ⟨rfl,xs ++ xs2,⟨rr ++ hsBy (hsOf rest) pre0 ht left 3,by rw [List.map_append,List.append_assoc,← List.append_assoc _ rr,hrr];exact hx2.trans hT.symm⟩,by simpa [List.append_assoc] using hj4⟩
   · obtain rfl : b = (-2) := by omega
     have hw : IntKind.i64.wrap (ht + (-2)) = ht + (-2) := (i64_w _).trans (by unfold wrap64;omega)
     have hs1 : hsBy (hsOf rest) pre0 ht left 5 = (if ca_isHeight.f (ht + (-2)) = some true then (if 2 ≤ left then hsOf rest (pre0 ++ [ht + (-2)]) (left - 2) else []) else []) ++ hsBy (hsOf rest) pre0 ht left 4 := rfl
     have hx2 := HX2.out
     rw [hs1] at hx2
     obtain ⟨t,hh2⟩ := isH_total (ht + (-2))
     cases t with
     | false =>
      rw [hh2,if_neg (by decide),List.nil_append] at hx2
      gi_wp2_with (refine ⟨trivial,fun h => Bool.noConfusion h,?_⟩;refine (callsIn_wide.2 (ca_isHeight.calls (ht + (-2)) false _ hh2)).mono ?_;rintro e W2 ⟨rfl,hdr⟩;have hkp := KeepsCells.of_below hdr.below;have HS2 := am (HS.out.keeps hkp);have HJ3 := am (hJ.below HJ2.out hdr.below);have d0 := (blk_cell HS2.out.bn 0).trans rfl;have d1 := (blk_cell HS2.out.bb 2).trans rfl;have d2 := (blk_cell HS2.out.bs 0).trans rfl;clear hdr)
      go_roundw
      case rel => first | exact ⟨4,y0 :: tl1,xs,by omega,by simp,htl2,HS2,⟨hx2⟩,HJ3⟩ | trivial
      case measure => first | (simp [intOf];done) | trivial | omega
     | true =>
      rw [hh2,if_pos rfl] at hx2
      by_cases hf : (2 : Int) ≤ left
      case neg =>
       rw [if_neg hf,List.nil_append] at hx2
       have hd9 : decide (left < (2 : Int)) = true := decide_eq_true (by omega)
       gi_wp2_with (refine ⟨trivial,fun h => Bool.noConfusion h,?_⟩;refine (callsIn_wide.2 (ca_isHeight.calls (ht + (-2)) true _ hh2)).mono ?_;rintro e W2 ⟨rfl,hdr⟩;have hkp := KeepsCells.of_below hdr.below;have HS2 := am (HS.out.keeps hkp);have HJ3 := am (hJ.below HJ2.out hdr.below);have d0 := (blk_cell HS2.out.bn 0).trans rfl;have d1 := (blk_cell HS2.out.bb 2).trans rfl;have d2 := (blk_cell HS2.out.bs 0).trans rfl;clear hdr)
       go_roundw
       case rel => first | exact ⟨4,y0 :: tl1,xs,by omega,by simp,htl2,HS2,⟨hx2⟩,HJ3⟩ | trivial
       case measure => first | (simp [intOf];done) | trivial | omega
      rw [if_pos hf] at hx2
      have hd9 : decide (left < (2 : Int)) = false := decide_eq_false (by omega)
      have hw5 : IntKind.i64.wrap ((pre0.length : Int) + 1) = (pre0.length : Int) + 1 := (i64_w _).trans (by unfold wrap64;omega)
      have hw6 : IntKind.i64.wrap (left - 2) = left - 2 := (i64_w _).trans (by unfold wrap64;omega)
      gi_wp2_with (first | (refine ⟨trivial,fun h => Bool.noConfusion h,?_⟩;refine (callsIn_wide.2 (ca_isHeight.calls (ht + (-2)) true _ hh2)).mono ?_;rintro e W2 ⟨rfl,hdr⟩;have hkp := KeepsCells.of_below hdr.below;have HS2 := am (HS.out.keeps hkp);have HJ3 := am (hJ.below HJ2.out hdr.below);have d0 := (blk_cell HS2.out.bn 0).trans rfl;have d1 := (blk_cell HS2.out.bb 2).trans rfl;have d2 := (blk_cell HS2.out.bs 0).trans rfl;have d3 : W2.cell? ⟨gr,pre0.length,none⟩ = some (.int .i64 y0) := (blk_cell HS2.out.br pre0.length).trans (by simp);have d4 := blk_frozen HS2.out.br pre0.length;have hne1 : gs ≠ gr := obj_ne HS2.out.bs HS2.out.br (by decide);have hne2 : gr ≠ gs := fun e => hne1 e.symm;have ihx := setStep w0 J Jx Bd hJ hgr hd hdl htl3 h0 h1 hh ⟨hnl,hpr⟩ hlen 2 (ht + (-2)) (by decide) (isH_in hh2) hf HS2.out HJ3.out ih (n - 1);clear hdr) | (refine ⟨trivial,fun h => Bool.noConfusion h,?_⟩;refine ihx.mono ?_;rintro e W4 (⟨rfl,tl2,xs2,htl4,hs4,hxs2,hj4⟩ | ⟨rfl,xs2,hxs2,hj4⟩)))
      · go_roundw
        case rel => exact ⟨4,(ht + (-2)) :: tl2,xs ++ xs2,by omega,by simp,by simp [htl4],⟨by simpa using hs4⟩,⟨by rw [List.map_append,hxs2,List.append_assoc];exact hx2⟩,⟨by simpa [List.append_assoc] using hj4⟩⟩
        case measure => first | (simp [intOf];done) | omega
      · go_ret
        obtain ⟨rr,hrr⟩ := hxs2
        exact .inr ⟨rfl,xs ++ xs2,⟨rr ++ hsBy (hsOf rest) pre0 ht left 4,by rw [List.map_append,List.append_assoc,← List.append_assoc _ rr,hrr];exact hx2.trans hT.symm⟩,by simpa [List.append_assoc] using hj4⟩
end
theorem eventIn {F : Fence} {n : Nat} {P : Program} {ops : Array Oper} {o : Oper} {a : Act} {Q : Exit → Act → World → Prop} {rest : List Oper} {W W1 : World} {v : Value} (hro : F.round = none) (hfn : ∀ f,F.fn f) (hgd : o.guard = none)
 (hrun : (execOp a.eval o).run P W = .ok (.value v) W1) (h : wpListIn F n P ops Q rest (a.put o.dst v) W1) : wpListIn F n P ops Q (o :: rest) a W := by
 refine wpListIn_plain hgd fun K hK => ?_
 unfold Oper.wpIn
 refine ⟨fun f _ => hfn f,?_⟩
 rw [hro,Oper.semAt_none,hrun,Oper.uponIn_value]
 exact hK _ _ h
theorem boxIn {F : Fence} {n : Nat} {P : Program} {ops : Array Oper} {o : Oper} {a : Act} {Q : Exit → Act → World → Prop} {rest : List Oper} {W : World} (hro : F.round = none) (hfn : ∀ f,F.fn f) (hgd : o.guard = none) {cs : Array Value} {t : TypeId}
 (hrun : (execOp a.eval o).run P W = .ok (.value (.pointer (some ⟨W.heap.size,0,none⟩))) (W.alloc (.cells cs t (0,0))))
 (h : ∀ g,g = W.heap.size → ∀ w1,w1.heap[g]? = some (.cells cs t (0,0)) → Below W.heap.size W w1 → wpListIn F n P ops Q rest (a.put o.dst (.pointer (some ⟨g,0,none⟩))) w1) : wpListIn F n P ops Q (o :: rest) a W :=
 eventIn hro hfn hgd hrun (h _ rfl _ (blk_new W _) (below_alloc (Below.refl _ _) _))
theorem made_ints (n : Nat) : madeCells (Value.int .i64 0).cells (n * 1) = ((List.replicate n (0 : Int)).map (Value.int .i64)).toArray := by
 rw [Nat.mul_one]
 apply Array.ext
 · rw [size_madeCells];simp
 · intro i h1 h2
   simp [madeCells,Value.cells]
   rw [Nat.mod_one]
   rfl
theorem infoInt3 : (Tryz.prog.info? 3).map (fun i => (i.zero,i.size,i.bytes)) = some (some (.int .i64 0),1,8) := by kernel_rfl
theorem run_makeInts (n : Nat) (hn : n ≤ 1000000) (W : World) : (Instr.makeSlice 30 (.int .i64 (n : Int)) (.int .i64 (n : Int))).run Tryz.prog W = .ok (.slice (some ⟨W.heap.size,0,none⟩) n n) (W.alloc (.cells ((List.replicate n (0 : Int)).map (Value.int .i64)).toArray 3)) := by
 obtain ⟨i0,hi,hz0,hz1,hz2⟩ := info_parts infoInt3
 have h := run_makeSlice (P := Tryz.prog) (w := W) 30 3 i0 (.int .i64 0) Tryz.underlying30 hi hz0 .i64 .i64 (n : Int) (n : Int) (by omega) (Int.le_refl _) (by rw [hz1];omega) (by rw [hz2];omega) (by omega)
 rw [hz1] at h
 simp only [Int.toNat_natCast] at h
 rw [made_ints] at h
 exact h
theorem gateIn {F : Fence} {n : Nat} {P : Program} {ops : Array Oper} {o : Oper} {a : Act} {Q : Exit → Act → World → Prop} {rest : List Oper} {W : World} {N : Tmp} (_ : o.dst = some N) (h : wpListIn F n P ops Q (o :: rest) a W) : wpListIn F n P ops Q (o :: rest) a W := h
theorem hst5 {w0 w1 : World} {l gy gb : Nat} {A0_0 : Option Addr} {c0_0 n0 : Nat} {a0_1 : Int} {A0_2 : Option Addr} {c0_2 : Nat} {l0_2 : List S64} {a0_3 a0_4 : Int} (by_ : w1.heap[gy]? = some (.cells #[.func (.yield l) #[] #[]] 109 (0,0))) (bb : w1.heap[gb]? = some (.cells #[.slice A0_0 n0 c0_0,.int .i64 a0_1,.slice A0_2 l0_2.length c0_2,.int .i64 a0_3,.int .i64 a0_4] 27 (0,0))) (old : KeepsCells w0 w1) (hnl : l0_2.length ≤ 1000000) :
 HSt (((w1.alloc (.cells (Array.replicate l0_2.length (Value.int .i64 0)) 3)).alloc (.cells #[.slice (some ⟨w1.heap.size,0,none⟩) l0_2.length l0_2.length] 30)).alloc (.cells #[.func (.func 106) #[] #[.pointer (some ⟨w1.heap.size + 1,0,none⟩),.pointer (some ⟨gy,0,none⟩),.pointer (some ⟨gb,0,none⟩),.pointer (some ⟨w1.heap.size + 1 + 1,0,none⟩)]] 140)) w0 l (w1.heap.size + 1) w1.heap.size gy gb (w1.heap.size + 1 + 1) A0_0 c0_0 n0 a0_1 A0_2 c0_2 l0_2 a0_3 a0_4 (List.replicate l0_2.length 0) := by
 refine ⟨?_,?_,blk_alloc (blk_alloc (blk_alloc by_ _) _) _,blk_alloc (blk_alloc (blk_alloc bb _) _) _,?_,old.trans (KeepsCells.of_below (below_alloc (below_alloc (below_alloc (Below.refl _ _) _) _) _)),old.size,by simp;omega⟩
 · rw [List.length_replicate]
   refine blk_alloc ?_ _
   have := blk_new (w1.alloc (.cells (Array.replicate l0_2.length (Value.int .i64 0)) 3)) (.cells #[.slice (some ⟨w1.heap.size,0,none⟩) l0_2.length l0_2.length] 30)
   rwa [World.size_alloc] at this
 · refine blk_alloc (blk_alloc ((blk_new w1 _).trans ?_) _) _
   simp
 · have := blk_new ((w1.alloc (.cells (Array.replicate l0_2.length (Value.int .i64 0)) 3)).alloc (.cells #[.slice (some ⟨w1.heap.size,0,none⟩) l0_2.length l0_2.length] 30)) (.cells #[.func (.func 106) #[] #[.pointer (some ⟨w1.heap.size + 1,0,none⟩),.pointer (some ⟨gy,0,none⟩),.pointer (some ⟨gb,0,none⟩),.pointer (some ⟨w1.heap.size + 1 + 1,0,none⟩)]] 140)
   rw [World.size_alloc,World.size_alloc] at this
   exact this
attribute [local go_sem] Oper.semAt_some
theorem heights_stops (gb gch : Nat) (A0_0 : Option Addr) (c0_0 n0 : Nat) (a0_1 : Int) (A0_2 : Option Addr) (c0_2 : Nat) (l0_2 : List S64) (a0_3 a0_4 change : Int) (w : World) (bb : w.heap[gb]? = some (.cells #[.slice A0_0 n0 c0_0,.int .i64 a0_1,.slice A0_2 l0_2.length c0_2,.int .i64 a0_3,.int .i64 a0_4] 27 (0,0))) (bch : w.heap[gch]? = some (.cells #[.int .i64 change] 3 (0,0))) (hrows : Kd.C k64 w A0_2 l0_2.length l0_2) (h0 : 0 ≤ change) (h1 : change ≤ 1000) (hh : ∀ h ∈ l0_2.map (·.f1),0 ≤ h ∧ h ≤ 40) (hnl : l0_2.length ≤ 1000000) (n : Nat) :
 SeqStopsC Fence.wide n Tryz.prog 105 #[.pointer (some ⟨gb,0,none⟩),.pointer (some ⟨gch,0,none⟩)] hEnc (hOk l0_2.length) KeepsCells (fun xs => xs.map (·.1) = hsOf (l0_2.map (·.f1)) [] change) (fun xs => xs.map (·.1) <+: hsOf (l0_2.map (·.f1)) [] change) w := by
 intro l J Jx W hW hlt hJ hY hj
 have hu := Tryz.underlying27
 have hms := run_makeInts l0_2.length hnl
 have bb2 := blk_below bb hW
 have bch2 := blk_below bch hW
 have e0 := (blk_cell bb2 2).trans rfl
 have e1 := (blk_cell bch2 0).trans rfl
 refine callsIn_of_wp Tryz.func105 rfl trivial ?_ rfl
 simp only [Tryz.ntmps105,List.size_toArray,List.length_cons,List.length_nil,Nat.reduceAdd,Nat.reduceSub,Array.replicate_succ,Array.replicate_zero,List.push_toArray,List.append_toArray,List.nil_append,List.cons_append]
 have hW := am hW
 have bb2 := am bb2
 have bch2 := am bch2
 have hj := am hj
 gi_wp2_with (first | ((with_reducible refine gateIn (N := 3) rfl ?_);refine boxIn rfl (fun _ => trivial) ?hg (cs := #[.func (.yield l) #[] #[]]) (t := 109) ?hr ?_;(case hg => rfl);(case hr => go_simp;try rfl);intro gy hg w1 hbox hb;have Sgy := am hg;have hW2 := below_then hW.out hW.out.size hb;have n1 := am hW2;clear hW hW2;have hW := n1;clear n1;have n1 := (kmv hb bb2);clear bb2;have bb2 := n1;clear n1;have n1 := (kmv hb bch2);clear bch2;have bch2 := n1;clear n1;have n1 := am (hJ.below hj.out hb);clear hj;have hj := n1;clear n1;have Bgy := am hbox;have hb5 := below_alloc (below_alloc (below_alloc (Below.refl w1.heap.size w1) (.cells (Array.replicate l0_2.length (Value.int .i64 0)) 3)) (.cells #[.slice (some ⟨w1.heap.size,0,none⟩) l0_2.length l0_2.length] 30)) (.cells #[.func (.func 106) #[] #[.pointer (some ⟨w1.heap.size + 1,0,none⟩),.pointer (some ⟨gy,0,none⟩),.pointer (some ⟨gb,0,none⟩),.pointer (some ⟨w1.heap.size + 1 + 1,0,none⟩)]] 140);have e5 := (blk_cell (blk_below bch2.out hb5) 0).trans rfl;have S5 := hst5 (l := l) Bgy.out bb2.out (KeepsCells.of_below hW.out) hnl;have C5 := am (set_in w l (w1.heap.size + 1) w1.heap.size gy gb (w1.heap.size + 1 + 1) A0_0 c0_0 n0 a0_1 A0_2 c0_2 l0_2 a0_3 a0_4 J Jx W.heap.size hJ (n - 1) (fun pre x W1 h1_ h2_ => hY pre x W1 h1_ h2_) hb.size hrows (l0_2.map (·.f1)) [] (List.replicate l0_2.length 0) change [] (n - 1) _ [] rfl rfl (by simp) h0 h1 hh ⟨by simp;omega,fun z hz => by cases hz⟩ S5 (hJ.below hj.out hb5));clear S5 hb5;clear hg hb hbox;(try clear e0 e1);have e0 : w1.cell? ⟨gb,2,none⟩ = some (.slice A0_2 l0_2.length c0_2) := (blk_cell bb2.out 2).trans rfl;have e1 := cO1 bch2.out) | ((with_reducible refine gateIn (N := 9) rfl ?_);refine eventIn rfl (fun _ => trivial) ?hg ?hr ?_;(case hg => rfl);(case hr => exact hms _);generalize hgr : w1.heap.size = gr;(have hbox := blk_new w1 (.cells ((List.replicate l0_2.length (0 : Int)).map (Value.int .i64)).toArray 3 (0,0)));rw [hgr] at hbox;have hb := below_alloc (Below.refl w1.heap.size w1) (.cells ((List.replicate l0_2.length (0 : Int)).map (Value.int .i64)).toArray 3 (0,0));generalize w1.alloc (.cells ((List.replicate l0_2.length (0 : Int)).map (Value.int .i64)).toArray 3 (0,0)) = w2 at hbox hb ⊢;have Sgr := am hgr.symm;have hW2 := below_then hW.out hW.out.size hb;have n1 := am hW2;clear hW hW2;have hW := n1;clear n1;have n1 := (kmv hb bb2);clear bb2;have bb2 := n1;clear n1;have n1 := (kmv hb bch2);clear bch2;have bch2 := n1;clear n1;have n1 := am (hJ.below hj.out hb);clear hj;have hj := n1;clear n1;have n1 := (kmv hb Bgy);clear Bgy;have Bgy := n1;clear n1;have Bgr := am hbox;clear hgr hb hbox;(try clear e0 e1);have e0 : w2.cell? ⟨gb,2,none⟩ = some (.slice A0_2 l0_2.length c0_2) := (blk_cell bb2.out 2).trans rfl;have e1 := cO1 bch2.out) | ((with_reducible refine gateIn (N := 4) rfl ?_);refine boxIn rfl (fun _ => trivial) ?hg (cs := #[.slice none 0 0]) (t := 30) ?hr ?_;(case hg => rfl);(case hr => go_simp;try rfl);intro gn hg w3 hbox hb;have Sgn := am hg;have hW2 := below_then hW.out hW.out.size hb;have n1 := am hW2;clear hW hW2;have hW := n1;clear n1;have n1 := (kmv hb bb2);clear bb2;have bb2 := n1;clear n1;have n1 := (kmv hb bch2);clear bch2;have bch2 := n1;clear n1;have n1 := am (hJ.below hj.out hb);clear hj;have hj := n1;clear n1;have n1 := (kmv hb Bgy);clear Bgy;have Bgy := n1;clear n1;have n1 := (kmv hb Bgr);clear Bgr;have Bgr := n1;clear n1;have Bgn := am hbox;clear hg hb hbox;(try clear e0 e1);have e0 : w3.cell? ⟨gb,2,none⟩ = some (.slice A0_2 l0_2.length c0_2) := (blk_cell bb2.out 2).trans rfl;have e1 := cO1 bch2.out;(try clear hcgn);have hcgn := cO1 Bgn.out))
 refine ⟨trivial,fun h => Bool.noConfusion h,?_⟩
 have c5 := C5.out
 rw [show (((([] : List Int).length : Nat)) : Int) = 0 from rfl] at c5
 refine c5.mono ?_
 rintro e W6 (⟨rfl,tl,xs,_,_,hxs,hj6⟩ | ⟨rfl,xs,hxs,hj6⟩)
 · gi_wp2
   go_end0
   exact ⟨⟨_,rfl⟩,.inl ⟨xs,hxs,by simpa using hj6⟩⟩
 · gi_wp2
   go_end0
   exact ⟨⟨_,rfl⟩,.inr ⟨xs,hxs,by simpa using hj6⟩⟩
end Go.Proofs.YticlelgmmonloaaGreatDoor.C
namespace Go.Proofs.YticlelgmmonloaaGreatDoor.C
open Go.RowKit Go.Proofs.YticlelgmmonloaaGreatDoorW.PrintWords Go.Proofs.YticlelgmmonloaaGreatDoorW.PrintLast Go.Proofs.YticlelgmmonloaaGreatDoorW.PrintMore
set_option linter.unusedVariables false
set_option linter.unusedSimpArgs false
set_option maxHeartbeats 16000000
set_option maxRecDepth 100000
theorem ca_heights.calls (A0_0 : Option Addr) (n0 c0_0 : Nat) (a0_1 : Int) (A0_2 : Option Addr) (n2 c0_2 : Nat) (a0_3 a0_4 a1 : Int) (w : World) :
 Calls Tryz.prog 80 #[.agg #[.slice A0_0 n0 c0_0,.int .i64 a0_1,.slice A0_2 n2 c0_2,.int .i64 a0_3,.int .i64 a0_4],.int .i64 a1] w fun e w' => ∃ gb gch : Nat,e = .returned (.func (.func 105) #[] #[.pointer (some ⟨gb,0,none⟩),.pointer (some ⟨gch,0,none⟩)]) ∧ w'.heap[gb]? = some (.cells #[.slice A0_0 n0 c0_0,.int .i64 a0_1,.slice A0_2 n2 c0_2,.int .i64 a0_3,.int .i64 a0_4] 27 (0,0)) ∧ w'.heap[gch]? = some (.cells #[.int .i64 a1] 3 (0,0)) ∧ Below w.heap.size w w' := by
 have hu := Tryz.underlying27
 have hmf : ∀ (fn : Fn) (first cap : Array Value) (w : World),(Instr.makeFunc fn first cap).run Tryz.prog w = .ok (.func fn first cap) w := fun _ _ _ _ => rfl
 have HB := Aside0.mk (Below.refl w.heap.size w)
 go_enter Tryz.func80,Tryz.ntmps80
 go_wp2_with (first | ((with_reducible refine gate_dst (N := 2) rfl ?_);(try (refine gate_guard (by rfl) ?_;dsimp only));refine box_event ?hg (N := 2) ?hd (cs := #[.slice A0_0 n0 c0_0,.int .i64 a0_1,.slice A0_2 n2 c0_2,.int .i64 a0_3,.int .i64 a0_4]) (t := 27) ?hr ?_;(case hd => rfl);(case hg => rfl);(case hr => go_simp;try rfl);intro gb hg w1 hbox hb;have n_ := Aside0.mk (below_then HB.out HB.out.size hb);clear HB;have HB := n_;clear n_;clear hg;have BKgb := Aside0.mk hbox;clear hbox;(try clear hczgb_0 hfzgb_0);have hczgb_0 : w1.cell? ⟨gb,0,none⟩ = some (.slice A0_0 n0 c0_0) := (blk_cell BKgb.out 0).trans rfl;have hfzgb_0 := blk_frozen BKgb.out 0;(try clear hczgb_1 hfzgb_1);have hczgb_1 : w1.cell? ⟨gb,1,none⟩ = some (.int .i64 a0_1) := (blk_cell BKgb.out 1).trans rfl;have hfzgb_1 := blk_frozen BKgb.out 1;(try clear hczgb_2 hfzgb_2);have hczgb_2 : w1.cell? ⟨gb,2,none⟩ = some (.slice A0_2 n2 c0_2) := (blk_cell BKgb.out 2).trans rfl;have hfzgb_2 := blk_frozen BKgb.out 2;(try clear hczgb_3 hfzgb_3);have hczgb_3 : w1.cell? ⟨gb,3,none⟩ = some (.int .i64 a0_3) := (blk_cell BKgb.out 3).trans rfl;have hfzgb_3 := blk_frozen BKgb.out 3;(try clear hczgb_4 hfzgb_4);have hczgb_4 : w1.cell? ⟨gb,4,none⟩ = some (.int .i64 a0_4) := (blk_cell BKgb.out 4).trans rfl;have hfzgb_4 := blk_frozen BKgb.out 4;clear hb) | ((with_reducible refine gate_dst (N := 3) rfl ?_);(try (refine gate_guard (by rfl) ?_;dsimp only));refine box_event ?hg (N := 3) ?hd (cs := #[.int .i64 a1]) (t := 3) ?hr ?_;(case hd => rfl);(case hg => rfl);(case hr => go_simp;try rfl);intro gch hg w2 hbox hb;have n_ := Aside0.mk (below_then HB.out HB.out.size hb);clear HB;have HB := n_;clear n_;have n_ := Aside0.mk (blk_below BKgb.out hb);clear BKgb;have BKgb := n_;clear n_;clear hg;have BKgch := Aside0.mk hbox;clear hbox;(try clear hczgb_0 hfzgb_0);have hczgb_0 : w2.cell? ⟨gb,0,none⟩ = some (.slice A0_0 n0 c0_0) := (blk_cell BKgb.out 0).trans rfl;have hfzgb_0 := blk_frozen BKgb.out 0;(try clear hczgb_1 hfzgb_1);have hczgb_1 : w2.cell? ⟨gb,1,none⟩ = some (.int .i64 a0_1) := (blk_cell BKgb.out 1).trans rfl;have hfzgb_1 := blk_frozen BKgb.out 1;(try clear hczgb_2 hfzgb_2);have hczgb_2 : w2.cell? ⟨gb,2,none⟩ = some (.slice A0_2 n2 c0_2) := (blk_cell BKgb.out 2).trans rfl;have hfzgb_2 := blk_frozen BKgb.out 2;(try clear hczgb_3 hfzgb_3);have hczgb_3 : w2.cell? ⟨gb,3,none⟩ = some (.int .i64 a0_3) := (blk_cell BKgb.out 3).trans rfl;have hfzgb_3 := blk_frozen BKgb.out 3;(try clear hczgb_4 hfzgb_4);have hczgb_4 : w2.cell? ⟨gb,4,none⟩ = some (.int .i64 a0_4) := (blk_cell BKgb.out 4).trans rfl;have hfzgb_4 := blk_frozen BKgb.out 4;(try clear hczgch_0 hfzgch_0);have hczgch_0 : w2.cell? ⟨gch,0,none⟩ = some (.int .i64 a1) := (blk_cell BKgch.out 0).trans rfl;have hfzgch_0 := blk_frozen BKgch.out 0;clear hb))
 go_ret
 exact ⟨_,_,rfl,BKgb.out,BKgch.out,HB.out⟩
theorem catch_idle (p : Addr) (w : World) :
 CallsD Tryz.prog 102 #[.pointer (some p)] .returning w fun e u' w' => e = .returned (.tuple #[]) ∧ u' = .returning ∧ w' = w := by
 refine callsD_of_wpS Tryz.func102 rfl fun c₀ cs hu => ?_
 apply wpS_seq
 apply wpS_region
 simp [wpOpsS,go_sem,recoverD,hu,Tryz.ntmps102,Exit.thenS]
 refine wpS_of_wp ?_
 simp only [List.size_toArray,List.length_cons,List.length_nil,Nat.reduceAdd,Nat.reduceSub,Array.replicate_succ,Array.replicate_zero,List.push_toArray,List.append_toArray,List.nil_append,List.cons_append,List.setIfInBounds_toArray,List.set_cons_zero,List.set_cons_succ]
 go_wp2
 cases c₀
 simp_all [bodyPostS,results,Tryz.results102]
theorem catch_reading (p : Addr) (x : Int) (a b : Int) (older : List PanicEntry) (w : World) (hc : w.cell? p = some (.int .i64 x)) (hz : w.frozen? p = false) :
 CallsD Tryz.prog 102 #[.pointer (some p)] (.panicking ({ v := .iface 135 (.agg #[.int .i64 a,.int .i64 b]),recovered := false } :: older)) w fun e u' w' => e = .returned (.tuple #[]) ∧ u' = .panicking ({ v := .iface 135 (.agg #[.int .i64 a,.int .i64 b]),recovered := true } :: older) ∧ w' = (w.alloc (.cells #[.int .i64 a,.int .i64 b] 135)).setCell p (.int .i64 7) := by
 have hta : ∀ (v : Value) (W : World),(Instr.typeAssert (.iface 135 v) 20 135 true).run Tryz.prog W = .ok (.tuple #[v,.bool true]) W := fun v W => by kernel_rfl
 have huT := Tryz.underlying135
 have hc2 : (w.alloc (.cells #[.int .i64 a,.int .i64 b] 135)).cell? p = some (.int .i64 x) := pw_cell_below (below_alloc (Below.refl _ w) _) hc
 have hz2 : (w.alloc (.cells #[.int .i64 a,.int .i64 b] 135)).frozen? p = false := ((below_alloc (Below.refl w.heap.size w) _).frozen (World.block_lt_of_cell? w p hc)).trans hz
 refine callsD_of_wpS Tryz.func102 rfl fun c₀ cs hu => ?_
 apply wpS_seq
 apply wpS_region
 simp [wpOpsS,go_sem,recoverD,hu,Tryz.ntmps102,Exit.thenS]
 refine wpS_of_wp ?_
 simp only [List.size_toArray,List.length_cons,List.length_nil,Nat.reduceAdd,Nat.reduceSub,Array.replicate_succ,Array.replicate_zero,List.push_toArray,List.append_toArray,List.nil_append,List.cons_append,List.setIfInBounds_toArray,List.set_cons_zero,List.set_cons_succ]
 go_wp2
 cases c₀
 simp_all [bodyPostS,results,Tryz.results102]
theorem attempt_Proves_ok (g1 g2 g3 : Nat) (I : World → Prop) (w : World)
 (hX : Calls Tryz.prog 71 #[.pointer (some ⟨g1,0,none⟩),.pointer (some ⟨g2,0,none⟩),.pointer (some ⟨g3,0,none⟩)] (w.alloc (.cells #[.int .i64 0] 31)) fun e W' => e = .returned (.tuple #[]) ∧ I W') (hI : ∀ W',I W' → W'.cell? ⟨w.heap.size,0,none⟩ = some (.int .i64 0) ∧ W'.frozen? ⟨w.heap.size,0,none⟩ = false) :
 Calls Tryz.prog 70 #[.func (.func 71) #[] #[.pointer (some ⟨g1,0,none⟩),.pointer (some ⟨g2,0,none⟩),.pointer (some ⟨g3,0,none⟩)]] w fun e w' => e = .returned (.int .i64 0) ∧ ∃ W',I W' ∧ w' = W'.setCell ⟨w.heap.size,0,none⟩ (.int .i64 0) := by
 have hmf : ∀ (fn : Fn) (first cap : Array Value) (w : World),(Instr.makeFunc fn first cap).run Tryz.prog w = .ok (.func fn first cap) w := fun _ _ _ _ => rfl
 have HX := Lib.hid hX
 have HI := Lib.hid hI
 clear hX hI
 go_enter_defers Tryz.func70,Tryz.ntmps70
 go_wp2_with (go_at_call 71;refine (HX.out).mono ?_;rintro e W1 ⟨rfl,hi⟩;have hc0 := (HI.out _ hi).1;have hz0 := (HI.out _ hi).2)
 refine leaves_cons (f := 102) (args := #[.pointer (some ⟨w.heap.size,0,none⟩)]) (by simp) (by simp [go_sem]) ?_
 refine (catch_idle ⟨w.heap.size,0,none⟩ _).mono ?_
 rintro e u' w'' ⟨rfl,rfl,rfl⟩
 refine ⟨.int .i64 0,?_,rfl,W1,hi,rfl⟩
 simp [settle,results,Tryz.results70,go_sem,hc0,hz0]
theorem attempt_Proves_reading (g1 g2 g3 : Nat) (a b : Int) (I : World → Prop) (w : World)
 (hX : Calls Tryz.prog 71 #[.pointer (some ⟨g1,0,none⟩),.pointer (some ⟨g2,0,none⟩),.pointer (some ⟨g3,0,none⟩)] (w.alloc (.cells #[.int .i64 0] 31)) fun e W' => e = .panicked [{ v := .iface 135 (.agg #[.int .i64 a,.int .i64 b]),recovered := false }] ∧ I W') (hI : ∀ W',I W' → W'.cell? ⟨w.heap.size,0,none⟩ = some (.int .i64 0) ∧ W'.frozen? ⟨w.heap.size,0,none⟩ = false) :
 Calls Tryz.prog 70 #[.func (.func 71) #[] #[.pointer (some ⟨g1,0,none⟩),.pointer (some ⟨g2,0,none⟩),.pointer (some ⟨g3,0,none⟩)]] w fun e w' => e = .returned (.int .i64 7) ∧ ∃ W',I W' ∧ w' = (W'.alloc (.cells #[.int .i64 a,.int .i64 b] 135)).setCell ⟨w.heap.size,0,none⟩ (.int .i64 7) := by
 have hmf : ∀ (fn : Fn) (first cap : Array Value) (w : World),(Instr.makeFunc fn first cap).run Tryz.prog w = .ok (.func fn first cap) w := fun _ _ _ _ => rfl
 have HX := Lib.hid hX
 have HI := Lib.hid hI
 clear hX hI
 go_enter_defers Tryz.func70,Tryz.ntmps70
 go_wp2_with (go_at_call 71;refine (HX.out).mono ?_;rintro e W1 ⟨rfl,hi⟩;have hc0 := (HI.out _ hi).1;have hz0 := (HI.out _ hi).2)
 refine leaves_cons (f := 102) (args := #[.pointer (some ⟨w.heap.size,0,none⟩)]) (by simp) (by simp [go_sem]) ?_
 refine (catch_reading ⟨w.heap.size,0,none⟩ 0 a b [] _ hc0 hz0).mono ?_
 rintro e u' w'' ⟨rfl,rfl,rfl⟩
 refine ⟨.int .i64 7,?_,rfl,W1,hi,rfl⟩
 have hc2 : (W1.alloc (.cells #[.int .i64 a,.int .i64 b] 135)).cell? ⟨w.heap.size,0,none⟩ = some (.int .i64 0) := pw_cell_below (below_alloc (Below.refl _ W1) _) hc0
 simp [settle,results,Tryz.results70,go_sem]
 rw [World.cell?_setCell_same' _ _ _ (by rw [hc2];rfl)]
section
attribute [local go_sem] max2_int min2_int max_two min_two
def ca_sum.l0 : Nat → Int → List Int → Int → Int → Option (Int)
 | 0,_,_,_,_ => none
 | k + 1,x3,x6,x7,x8 => if x8 < x7 then (if 0 ≤ x8 then (if x8 < (x6.length : Int) then (ca_sum.l0 k (wrap64 (x3 + (rd x6 x8))) x6 x7 (wrap64 (x8 + 1))) else (none)) else (none)) else (some x3)
def ca_sum.f (k : Nat) (l0 : List Int) : Option (Int) := ca_sum.l0 k 0 l0 (l0.length : Int) 0
theorem ca_sum.calls (k : Nat) (A0 : Option Addr) (c0 : Nat) (l0 : List Int) (r : Int) (w : World) (hr0 : Kd.C (Kd.int .i64) w A0 l0.length l0) (hc0 : l0.length ≤ c0) (h : ca_sum.f k l0 = some r) :
 Calls Tryz.prog 100 #[.slice A0 l0.length c0] w fun e w' => e = .returned (.int .i64 r) ∧ Drawn0 w w' := by
 have HR0 := am hr0
 have HC0 := am hc0
 clear hr0 hc0
 have H : (ca_sum.l0 k 0 l0 (l0.length : Int) 0) = some r := h
 clear h
 replace H' := am H
 go_enter Tryz.func100,Tryz.ntmps100
 go_wp2
 go_loopg [3,8] k (fun kq v3 v8 w' => ∃ (x3_1 : Int) (x8_1 : Int),v3 = .int .i64 x3_1 ∧ v8 = .int .i64 x8_1 ∧ Aside0 (ca_sum.l0 kq x3_1 l0 (l0.length : Int) x8_1 = some r) ∧ Aside0 (kq ≤ k) ∧ Drawn0 w w')
 case atStart => exact ⟨(0),(0),(by first | rfl | (simp;done) | (simp [*];done)),(by first | rfl | (simp;done) | (simp [*];done)),H',⟨Nat.le_refl _⟩,by repeat (first | exact Drawn0.refl _ | apply Drawn0.step)⟩
 case round =>
  clear H'
  obtain ⟨x3_1,x8_1,rfl,rfl,HA,HK1,⟨m1,rfl⟩⟩ := hrel
  cases gk with
  | zero => exact absurd HA.out (by simp [ca_sum.l0])
  | succ k1 =>
   have H := HA.out
   clear HA
   simp only [ca_sum.l0] at H
   by_cases c2 : x8_1 < (l0.length : Int)
   case neg =>
    rw [if_neg c2] at H
    have c2b0 : decide (x8_1 < (l0.length : Int)) = false := decide_eq_false c2
    clear c2
    obtain rfl := Option.some.inj H
    go_wp2
    go_ret
    exact ⟨by first | rfl | (simp;done) | (simp [*];done),by repeat (first | exact Drawn0.refl _ | apply Drawn0.step)⟩
   rw [if_pos c2] at H
   have c2b0 : decide (x8_1 < (l0.length : Int)) = true := decide_eq_true c2
   clear c2
   by_cases c3 : 0 ≤ x8_1
   case neg =>
    rw [if_neg c3] at H
    exact absurd H (by simp)
   rw [if_pos c3] at H
   have c3b0 : decide (0 ≤ x8_1) = true := decide_eq_true c3
   clear c3
   by_cases c4 : x8_1 < (l0.length : Int)
   case neg =>
    rw [if_neg c4] at H
    exact absurd H (by simp)
   rw [if_pos c4] at H
   have c4b0 : decide (x8_1 < (l0.length : Int)) = true := decide_eq_true c4
   clear c4
   replace H' := am H
   have p149 : 0 ≤ (x8_1 : Int) := of_decide_eq_true (by assumption)
   have q149 : x8_1 < (l0.length : Int) := of_decide_eq_true (by assumption)
   obtain ⟨ad149,e149,hx149_0⟩ := Kd.at_int HR0.out x8_1 p149 q149
   cases e149
   replace p149 := eq_true p149
   replace q149 := eq_true q149
   go_wp2
   go_roundg k1
   case measure => have := HK1.out;omega
   case rel => exact ⟨(wrap64 (x3_1 + (rd l0 x8_1))),(wrap64 (x8_1 + 1)),(by first | rfl | (simp;done) | (simp [*];done)),(by first | rfl | (simp;done) | (simp [*];done)),H',⟨by have := HK1.out;omega⟩,by repeat (first | exact Drawn0.refl _ | apply Drawn0.step)⟩
def gf_nozzles.f (k : Nat) (l0_0 : List (S126)) (a0_1 : Int) (l0_2 : List (S64)) (a0_3 : Int) (a0_4 : Int) (l0_5 : List (List Int)) (a1 : Int) : Option (Int) := if 0 ≤ a1 then (if a1 < (l0_5.length : Int) then ((ca_sum.f k (rd_L3 l0_5 a1)).bind fun t1003 => (some t1003)) else (none)) else (none)
theorem gf_nozzles.calls (k : Nat) (A0_0 : Option Addr) (c0_0 : Nat) (l0_0 : List (S126)) (a0_1 : Int) (A0_2 : Option Addr) (c0_2 : Nat) (l0_2 : List (S64)) (a0_3 : Int) (a0_4 : Int) (A0_5 : Option Addr) (c0_5 : Nat) (l0_5 : List (List Int)) (a1 : Int) (r : Int) (w : World) (hr0_0 : Kd.C k126 w A0_0 l0_0.length l0_0) (hc0_0 : l0_0.length ≤ c0_0) (hr0_2 : Kd.C k64 w A0_2 l0_2.length l0_2) (hc0_2 : l0_2.length ≤ c0_2) (hr0_5 : Kd.C (Kd.slice 3 (Kd.int .i64)) w A0_5 l0_5.length l0_5) (hc0_5 : l0_5.length ≤ c0_5) (h : gf_nozzles.f k l0_0 a0_1 l0_2 a0_3 a0_4 l0_5 a1 = some r) :
 Calls Tryz.prog 119 #[.agg #[.slice A0_0 l0_0.length c0_0,.int .i64 a0_1,.slice A0_2 l0_2.length c0_2,.int .i64 a0_3,.int .i64 a0_4,.slice A0_5 l0_5.length c0_5],.int .i64 a1] w fun e w' => e = .returned (.int .i64 r) ∧ Below w.heap.size w w' := by
 have hu99 := Tryz.underlying99
 have HR0_0 := am hr0_0
 have HC0_0 := am hc0_0
 clear hr0_0 hc0_0
 have HR0_2 := am hr0_2
 have HC0_2 := am hc0_2
 clear hr0_2 hc0_2
 have HR0_5 := am hr0_5
 have HC0_5 := am hc0_5
 clear hr0_5 hc0_5
 have HB := am (Below.refl w.heap.size w)
 have H : (if 0 ≤ a1 then (if a1 < (l0_5.length : Int) then ((ca_sum.f k (rd_L3 l0_5 a1)).bind fun t1003 => (some t1003)) else (none)) else (none)) = some r := h
 clear h
 by_cases c3 : 0 ≤ a1
 case neg =>
  rw [if_neg c3] at H
  exact absurd H (by simp)
 rw [if_pos c3] at H
 have c3b0 : decide (0 ≤ a1) = true := decide_eq_true c3
 clear c3
 by_cases c4 : a1 < (l0_5.length : Int)
 case neg =>
  rw [if_neg c4] at H
  exact absurd H (by simp)
 rw [if_pos c4] at H
 have c4b0 : decide (a1 < (l0_5.length : Int)) = true := decide_eq_true c4
 clear c4
 replace H := obm H
 obtain ⟨t1003,A50,H⟩ := H
 (try dsimp only at H)
 have A5 := am A50
 clear A50
 obtain rfl := Option.some.inj H
 go_enter Tryz.func119,Tryz.ntmps119
 go_wp2_with (first | ((refine gate_dst (N := 2) rfl ?_);refine box_event rfl (N := 2) rfl (cs := #[.slice A0_0 l0_0.length c0_0,.int .i64 a0_1,.slice A0_2 l0_2.length c0_2,.int .i64 a0_3,.int .i64 a0_4,.slice A0_5 l0_5.length c0_5]) (t := 99) ?hr ?_;(case hr => go_simp;try rfl);intro gb1001 hg w6 hbox hb;have BK1001 := am (hbox);have GE1001 := am (ge_new (HB.out) hg);replace HB := am (below_step (HB.out) hb);clear hb hbox hg;obtain ⟨hcz7_0,hcz7_1,hcz7_2,hcz7_3,hcz7_4,hcz7_5⟩ := cO6 BK1001.out;have p1002 : 0 ≤ (a1 : Int) := of_decide_eq_true (by assumption);have q1002 : a1 < (l0_5.length : Int) := of_decide_eq_true (by assumption);obtain ⟨ad1002,A1002_0,c1002_0,e1002,hx1002_0,hl1002_0,hi1002_0⟩ := at_L3 HR0_5.out a1 p1002 q1002;cases e1002;replace hx1002_0 := (HB.out.cell (wbl hx1002_0)).trans hx1002_0;have HR1002_0 := am hi1002_0;have HC1002_0 := am hl1002_0;clear hi1002_0 hl1002_0;replace p1002 := eq_true p1002;replace q1002 := eq_true q1002) | ((with_reducible refine gate_callee (f := 100) rfl ?_);refine goesL_ (some 10) rfl rfl Tryz.func100 (by kernel_rfl) rfl #[.slice A1002_0 (rd_L3 l0_5 a1).length c1002_0] rfl (by (try simp only [List.map_toArray,List.map_cons,List.map_nil]);first | done | rfl | (simp only [List.length_drop,List.length_take];rfl)) ?_;(refine (ca_sum.calls k _ _ (rd_L3 l0_5 a1) t1003 _ ?side1 ?side2 A5.out).mono ?_);(case side1 => exact kC HR1002_0.out HB.out);(case side2 => exact HC1002_0.out);rintro e w' ⟨rfl,⟨nd,rfl⟩⟩;refine ⟨_,rfl,?_⟩))
 go_ret
 exact ⟨by first | rfl | (simp [*] <;> rfl),pw_below_drewN HB.out _⟩
def gf_weir.f (l0_0 : List (S126)) (a0_1 : Int) (l0_2 : List (S64)) (a0_3 : Int) (a0_4 : Int) (l0_5 : List (List Int)) (a1 : Int) : Option (Int) := some (wrap64 (a0_4 * (mx 0 (wrap64 (a1 - a0_3)))))
theorem gf_weir.calls (A0_0 : Option Addr) (c0_0 : Nat) (l0_0 : List (S126)) (a0_1 : Int) (A0_2 : Option Addr) (c0_2 : Nat) (l0_2 : List (S64)) (a0_3 : Int) (a0_4 : Int) (A0_5 : Option Addr) (c0_5 : Nat) (l0_5 : List (List Int)) (a1 : Int) (r : Int) (w : World) (hr0_0 : Kd.C k126 w A0_0 l0_0.length l0_0) (hc0_0 : l0_0.length ≤ c0_0) (hr0_2 : Kd.C k64 w A0_2 l0_2.length l0_2) (hc0_2 : l0_2.length ≤ c0_2) (hr0_5 : Kd.C (Kd.slice 3 (Kd.int .i64)) w A0_5 l0_5.length l0_5) (hc0_5 : l0_5.length ≤ c0_5) (h : gf_weir.f l0_0 a0_1 l0_2 a0_3 a0_4 l0_5 a1 = some r) :
 Calls Tryz.prog 69 #[.agg #[.slice A0_0 l0_0.length c0_0,.int .i64 a0_1,.slice A0_2 l0_2.length c0_2,.int .i64 a0_3,.int .i64 a0_4,.slice A0_5 l0_5.length c0_5],.int .i64 a1] w fun e w' => e = .returned (.int .i64 r) ∧ Below w.heap.size w w' := by
 have hu99 := Tryz.underlying99
 have HR0_0 := am hr0_0
 have HC0_0 := am hc0_0
 clear hr0_0 hc0_0
 have HR0_2 := am hr0_2
 have HC0_2 := am hc0_2
 clear hr0_2 hc0_2
 have HR0_5 := am hr0_5
 have HC0_5 := am hc0_5
 clear hr0_5 hc0_5
 have HB := am (Below.refl w.heap.size w)
 have H : (some (wrap64 (a0_4 * (mx 0 (wrap64 (a1 - a0_3)))))) = some r := h
 clear h
 obtain ⟨ji3,hji3⟩ : ∃ j_ : Int,(mx 0 (wrap64 (a1 - a0_3))) = j_ := ⟨_,rfl⟩
 replace H : (some (wrap64 (a0_4 * (ji3)))) = some r := by first | (rw [hji3] at H;exact H) | (simp only [hji3] at H ⊢;exact H)
 (try (have hji3l : 0 ≤ ji3 := by (rw [← hji3];unfold mx;(repeat' split) <;> omega)))
 (try (have hji3m : 0 ≤ ji3 := by omega))
 have hji3_ : (if 0 < (wrap64 (a1 - a0_3)) then (wrap64 (a1 - a0_3)) else 0) = ji3 := hji3
 obtain rfl := Option.some.inj H
 go_enter Tryz.func69,Tryz.ntmps69
 go_wp2_with (first | ((refine gate_dst (N := 2) rfl ?_);refine box_event rfl (N := 2) rfl (cs := #[.slice A0_0 l0_0.length c0_0,.int .i64 a0_1,.slice A0_2 l0_2.length c0_2,.int .i64 a0_3,.int .i64 a0_4,.slice A0_5 l0_5.length c0_5]) (t := 99) ?hr ?_;(case hr => go_simp;try rfl);intro gb218 hg w4 hbox hb;have BK218 := am (hbox);have GE218 := am (ge_new (HB.out) hg);replace HB := am (below_step (HB.out) hb);clear hb hbox hg;obtain ⟨hcz5_0,hcz5_1,hcz5_2,hcz5_3,hcz5_4,hcz5_5⟩ := cO6 BK218.out))
 go_ret
 exact ⟨by first | rfl | (simp [errW_none,errW_some] <;> rfl) | (simp only [← hji3];first | rfl | (simp [errW_none,errW_some] <;> rfl)) | (simp [*,errW_none,errW_some] <;> rfl),HB.out⟩
end
def gf_out.f (l0_0 : List S126) (a0_1 : Int) (l0_2 : List S64) (a0_3 a0_4 : Int) (l0_5 : List (List Int)) (a1 : Int) : Option Int :=
 (gf_nozzles.f ((rd_L3 l0_5 a1).length + 1) l0_0 a0_1 l0_2 a0_3 a0_4 l0_5 a1).bind fun x => (gf_weir.f l0_0 a0_1 l0_2 a0_3 a0_4 l0_5 a1).bind fun y => some (wrap64 (wrap64 x + y))
theorem gf_out.calls (A0_0 : Option Addr) (c0_0 : Nat) (l0_0 : List S126) (a0_1 : Int) (A0_2 : Option Addr) (c0_2 : Nat) (l0_2 : List S64) (a0_3 a0_4 : Int) (A0_5 : Option Addr) (c0_5 : Nat) (l0_5 : List (List Int)) (a1 : Int) (r : Int) (w : World) (hr0_0 : Kd.C k126 w A0_0 l0_0.length l0_0) (hc0_0 : l0_0.length ≤ c0_0) (hr0_2 : Kd.C k64 w A0_2 l0_2.length l0_2) (hc0_2 : l0_2.length ≤ c0_2) (hr0_5 : Kd.C (Kd.slice 3 (Kd.int .i64)) w A0_5 l0_5.length l0_5) (hc0_5 : l0_5.length ≤ c0_5) (h : gf_out.f l0_0 a0_1 l0_2 a0_3 a0_4 l0_5 a1 = some r) :
 Calls Tryz.prog 99 #[.agg #[.slice A0_0 l0_0.length c0_0,.int .i64 a0_1,.slice A0_2 l0_2.length c0_2,.int .i64 a0_3,.int .i64 a0_4,.slice A0_5 l0_5.length c0_5],.int .i64 a1] w fun e w' => e = .returned (.int .i64 r) ∧ Below w.heap.size w w' := by
 have hu := Tryz.underlying99
 have HB := am (Below.refl w.heap.size w)
 have HR0 := am hr0_0
 have HC0 := am hc0_0
 have HR2 := am hr0_2
 have HC2 := am hc0_2
 have HR5 := am hr0_5
 have HC5 := am hc0_5
 clear hr0_0 hc0_0 hr0_2 hc0_2 hr0_5 hc0_5
 unfold gf_out.f at h
 obtain ⟨x,hx,h⟩ := obm h
 obtain ⟨y,hy,h⟩ := obm h
 have H1 := am hx
 have H2 := am hy
 have H3 := am (Option.some.inj h)
 clear hx hy h
 go_enter Tryz.func99,Tryz.ntmps99
 go_wp2_with ((refine gate_dst (N := 2) rfl ?_);(try (refine gate_guard (by rfl) ?_;dsimp only));refine box_event rfl (N := 2) rfl (cs := #[.slice A0_0 l0_0.length c0_0,.int .i64 a0_1,.slice A0_2 l0_2.length c0_2,.int .i64 a0_3,.int .i64 a0_4,.slice A0_5 l0_5.length c0_5]) (t := 99) ?hr ?_;(case hr => go_simp;try rfl);intro g hg w2 hbox hb;replace HB := (bmv HB hb);clear hg;have BKg := am hbox;clear hbox;(try clear hczg_0 hczg_1 hczg_2 hczg_3 hczg_4 hczg_5);obtain ⟨hczg_0,hczg_1,hczg_2,hczg_3,hczg_4,hczg_5⟩ := cO6 BKg.out;clear hb)
 have hi0 : ∀ W,(Instr.index 156 (.agg #[.func (.func 119) #[.agg #[.slice A0_0 l0_0.length c0_0,.int .i64 a0_1,.slice A0_2 l0_2.length c0_2,.int .i64 a0_3,.int .i64 a0_4,.slice A0_5 l0_5.length c0_5]] #[],.func (.func 69) #[.agg #[.slice A0_0 l0_0.length c0_0,.int .i64 a0_1,.slice A0_2 l0_2.length c0_2,.int .i64 a0_3,.int .i64 a0_4,.slice A0_5 l0_5.length c0_5]] #[]]) (.int .i64 0)).run Tryz.prog W = .ok (.func (.func 119) #[.agg #[.slice A0_0 l0_0.length c0_0,.int .i64 a0_1,.slice A0_2 l0_2.length c0_2,.int .i64 a0_3,.int .i64 a0_4,.slice A0_5 l0_5.length c0_5]] #[]) W := fun W => by rfl
 have hi1 : ∀ W,(Instr.index 156 (.agg #[.func (.func 119) #[.agg #[.slice A0_0 l0_0.length c0_0,.int .i64 a0_1,.slice A0_2 l0_2.length c0_2,.int .i64 a0_3,.int .i64 a0_4,.slice A0_5 l0_5.length c0_5]] #[],.func (.func 69) #[.agg #[.slice A0_0 l0_0.length c0_0,.int .i64 a0_1,.slice A0_2 l0_2.length c0_2,.int .i64 a0_3,.int .i64 a0_4,.slice A0_5 l0_5.length c0_5]] #[]]) (.int .i64 1)).run Tryz.prog W = .ok (.func (.func 69) #[.agg #[.slice A0_0 l0_0.length c0_0,.int .i64 a0_1,.slice A0_2 l0_2.length c0_2,.int .i64 a0_3,.int .i64 a0_4,.slice A0_5 l0_5.length c0_5]] #[]) W := fun W => by rfl
 go_loopw [6,8,15] (fun v6 v8 v15 w' => ((v6 = .int .i64 0 ∧ v15 = .int .i64 0) ∨ (v6 = .int .i64 (wrap64 x) ∧ v15 = .int .i64 1) ∨ (v6 = .int .i64 (wrap64 (wrap64 x + y)) ∧ v15 = .int .i64 2)) ∧ Aside0 (Below w.heap.size w w')) (fun _ _ v15 _ => 2 - (intOf v15).toNat)
 case atStart => exact ⟨.inl ⟨rfl,rfl⟩,⟨below_alloc HB.out _⟩⟩
 case round =>
  obtain ⟨hc,HBr⟩ := hrel
  rcases hc with ⟨rfl,rfl⟩ | ⟨rfl,rfl⟩ | ⟨rfl,rfl⟩
  · go_wp2_with (go_at_call 119;refine (gf_nozzles.calls _ A0_0 c0_0 l0_0 a0_1 A0_2 c0_2 l0_2 a0_3 a0_4 A0_5 c0_5 l0_5 a1 x _ (kC HR0.out HBr.out) HC0.out (kC HR2.out HBr.out) HC2.out (kC HR5.out HBr.out) HC5.out H1.out).mono ?_;rintro e w3 ⟨rfl,hb⟩)
    go_roundw
    case rel => exact ⟨.inr (.inl ⟨by simp,by simp⟩),⟨below_then HBr.out HBr.out.size hb⟩⟩
    case measure => simp [intOf]
  · go_wp2_with (go_at_call 69;refine (gf_weir.calls A0_0 c0_0 l0_0 a0_1 A0_2 c0_2 l0_2 a0_3 a0_4 A0_5 c0_5 l0_5 a1 y _ (kC HR0.out HBr.out) HC0.out (kC HR2.out HBr.out) HC2.out (kC HR5.out HBr.out) HC5.out H2.out).mono ?_;rintro e w3 ⟨rfl,hb⟩)
    go_roundw
    case rel => exact ⟨.inr (.inr ⟨by simp,by simp⟩),⟨below_then HBr.out HBr.out.size hb⟩⟩
    case measure => simp [intOf]
  · go_wp2
    go_ret
    exact ⟨ret_int_eq H3.out,HBr.out⟩
section
attribute [local go_sem] max2_int min2_int max_two min_two
def gf_proves.f (l0_0 : List (S126)) (a0_1 : Int) (l0_2 : List (S64)) (a0_3 : Int) (a0_4 : Int) (l0_5 : List (List Int)) (a1_0 : Int) (a1_1 : Int) : Option (Int × Int) := (gf_out.f l0_0 a0_1 l0_2 a0_3 a0_4 l0_5 a1_0).bind fun t1007 => (if a1_1 < 40 then ((gf_out.f l0_0 a0_1 l0_2 a0_3 a0_4 l0_5 (wrap64 (a1_1 + 1))).bind fun t1009 => (if t1007 > (mn 10000 (wrap64 (t1009 - 1))) then (none) else (some (t1007,mn 10000 (wrap64 (t1009 - 1)))))) else (if t1007 > 10000 then (none) else (some (t1007,10000))))
def gf_proves.T3 : Bool × List (List Nat × List Nat) := (true,[([],[]),([0],[0]),([],[]),([],[]),([3],[3]),([4],[4]),([2,5],[2,5]),([6],[6]),([1,7],[1,7]),([0,1,2,3,4,5,6,7,8],[]),([9,8,6,0,1,2,3,4,5,6,7,8],[8,9])])
def gf_proves.B3 : List Nat := [0,1,0,0,8,24,60,124,255,511,1023]
theorem gf_proves.tab3 : rtab .any (opsOf Tryz.f72 3) = gf_proves.T3 := by kernel_rfl
theorem gf_proves.bits3 : waitsOk gf_proves.T3.2 gf_proves.B3 = true := by kernel_rfl
theorem gf_proves.calls (A0_0 : Option Addr) (c0_0 : Nat) (l0_0 : List (S126)) (a0_1 : Int) (A0_2 : Option Addr) (c0_2 : Nat) (l0_2 : List (S64)) (a0_3 : Int) (a0_4 : Int) (A0_5 : Option Addr) (c0_5 : Nat) (l0_5 : List (List Int)) (a1_0 : Int) (a1_1 : Int) (r1 : Int) (r2 : Int) (w : World) (hr0_0 : Kd.C k126 w A0_0 l0_0.length l0_0) (hc0_0 : l0_0.length ≤ c0_0) (hr0_2 : Kd.C k64 w A0_2 l0_2.length l0_2) (hc0_2 : l0_2.length ≤ c0_2) (hr0_5 : Kd.C (Kd.slice 3 (Kd.int .i64)) w A0_5 l0_5.length l0_5) (hc0_5 : l0_5.length ≤ c0_5) (h : gf_proves.f l0_0 a0_1 l0_2 a0_3 a0_4 l0_5 a1_0 a1_1 = some (r1,r2)) :
 Calls Tryz.prog 72 #[.agg #[.slice A0_0 l0_0.length c0_0,.int .i64 a0_1,.slice A0_2 l0_2.length c0_2,.int .i64 a0_3,.int .i64 a0_4,.slice A0_5 l0_5.length c0_5],.agg #[.int .i64 a1_0,.int .i64 a1_1]] w fun e w' => e = .returned (.agg #[.int .i64 r1,.int .i64 r2]) ∧ Below w.heap.size w w' := by
 have hu99 := Tryz.underlying99
 have hu40 := Tryz.underlying40
 have hu135 := Tryz.underlying135
 have HR0_0 := am hr0_0
 have HC0_0 := am hc0_0
 clear hr0_0 hc0_0
 have HR0_2 := am hr0_2
 have HC0_2 := am hc0_2
 clear hr0_2 hc0_2
 have HR0_5 := am hr0_5
 have HC0_5 := am hc0_5
 clear hr0_5 hc0_5
 have HB := am (Below.refl w.heap.size w)
 have H : ((gf_out.f l0_0 a0_1 l0_2 a0_3 a0_4 l0_5 a1_0).bind fun t1007 => (if a1_1 < 40 then ((gf_out.f l0_0 a0_1 l0_2 a0_3 a0_4 l0_5 (wrap64 (a1_1 + 1))).bind fun t1009 => (if t1007 > (mn 10000 (wrap64 (t1009 - 1))) then (none) else (some (t1007,mn 10000 (wrap64 (t1009 - 1)))))) else (if t1007 > 10000 then (none) else (some (t1007,10000))))) = some (r1,r2) := h
 clear h
 replace H := obm H
 obtain ⟨t1007,A30,H⟩ := H
 (try dsimp only at H)
 have A3 := am A30
 clear A30
 by_cases c4 : a1_1 < 40
 case neg =>
  rw [if_neg c4] at H
  have c4b0 : decide (a1_1 < 40) = false := decide_eq_false c4
  clear c4
  by_cases c29 : t1007 > 10000
  · rw [if_pos c29] at H
    have c29b0 : decide (10000 < t1007) = true := decide_eq_true c29
    clear c29
    exact absurd H (by simp)
  · rw [if_neg c29] at H
    have c29b0 : decide (10000 < t1007) = false := decide_eq_false c29
    clear c29
    simp only [Option.some.injEq,Prod.mk.injEq] at H
    obtain ⟨rfl,rfl⟩ := H
    go_enter Tryz.func72,Tryz.ntmps72
    go_wp2_with (first | ((refine gate_dst (N := 2) rfl ?_);refine box_event rfl (N := 2) rfl (cs := #[.slice A0_0 l0_0.length c0_0,.int .i64 a0_1,.slice A0_2 l0_2.length c0_2,.int .i64 a0_3,.int .i64 a0_4,.slice A0_5 l0_5.length c0_5]) (t := 99) ?hr ?_;(case hr => go_simp;try rfl);intro gb1004 hg w30 hbox hb;have BK1004 := am (hbox);have GE1004 := am (ge_new (HB.out) hg);replace HB := am (below_step (HB.out) hb);clear hb hbox hg) | ((refine gate_dst (N := 3) rfl ?_);refine box_event rfl (N := 3) rfl (cs := #[.int .i64 a1_0,.int .i64 a1_1]) (t := 40) ?hr ?_;(case hr => go_simp;try rfl);intro gb1005 hg w31 hbox hb;have BK1005 := am (hbox);have GE1005 := am (ge_new (HB.out) hg);have NB1004_1005 := am (ne_new BK1004.out hg);have NB1005_1004 := am (ne_new2 BK1004.out hg);replace BK1004 := (kmv hb BK1004);replace HB := am (below_step (HB.out) hb);clear hb hbox hg) | ((refine gate_dst (N := 4) rfl ?_);refine box_event rfl (N := 4) rfl (cs := #[.int .i64 0,.int .i64 0]) (t := 40) ?hr ?_;(case hr => go_simp;try rfl);intro gb1006 hg w32 hbox hb;have BK1006 := am (hbox);have GE1006 := am (ge_new (HB.out) hg);have NB1004_1006 := am (ne_new BK1004.out hg);have NB1006_1004 := am (ne_new2 BK1004.out hg);have NB1005_1006 := am (ne_new BK1005.out hg);have NB1006_1005 := am (ne_new2 BK1005.out hg);replace BK1004 := (kmv hb BK1004);replace BK1005 := (kmv hb BK1005);replace HB := am (below_step (HB.out) hb);clear hb hbox hg;have hnb33 := NB1004_1005.out;have hnc33 := NB1005_1004.out;have hnb34 := NB1004_1006.out;have hnc34 := NB1006_1004.out;obtain ⟨hcz35_0,hcz35_1,hcz35_2,hcz35_3,hcz35_4,hcz35_5⟩ := cO6 BK1004.out;have hnb36 := NB1005_1006.out;have hnc36 := NB1006_1005.out;obtain ⟨hcz37_0,hcz37_1⟩ := cO2 BK1005.out) | ((with_reducible refine gate_callee (f := 99) rfl ?_);refine goesL_ (some 9) rfl rfl Tryz.func99 (by kernel_rfl) rfl #[.agg #[.slice A0_0 l0_0.length c0_0,.int .i64 a0_1,.slice A0_2 l0_2.length c0_2,.int .i64 a0_3,.int .i64 a0_4,.slice A0_5 l0_5.length c0_5],.int .i64 a1_0] rfl (by (try simp only [List.map_toArray,List.map_cons,List.map_nil]);first | done | rfl | (simp only [List.length_drop,List.length_take];rfl)) ?_;(refine (gf_out.calls _ _ l0_0 a0_1 _ _ l0_2 a0_3 a0_4 _ _ l0_5 a1_0 t1007 _ ?side1 ?side2 ?side3 ?side4 ?side5 ?side6 A3.out).mono ?_);(case side1 => exact kC HR0_0.out HB.out);(case side2 => exact HC0_0.out);(case side3 => exact kC HR0_2.out HB.out);(case side4 => exact HC0_2.out);(case side5 => exact kC HR0_5.out HB.out);(case side6 => exact HC0_5.out);rintro e w38 ⟨rfl,hb⟩;refine ⟨_,rfl,?_⟩;replace BK1004 := (kmv hb BK1004);replace BK1005 := (kmv hb BK1005);replace BK1006 := (kmv hb BK1006);replace HB := am (below_step (HB.out) hb);(try clear hb);(try clear hb2);(try clear hk);(try clear hi)) | ((refine gate_dst (N := 5) rfl ?_);refine box_event rfl (N := 5) rfl (cs := #[.int .i64 0,.int .i64 0]) (t := 40) ?hr ?_;(case hr => go_simp;try rfl);intro gb1008 hg w39 hbox hb;have BK1008 := am (hbox);have GE1008 := am (ge_new (HB.out) hg);have NB1004_1008 := am (ne_new BK1004.out hg);have NB1008_1004 := am (ne_new2 BK1004.out hg);have NB1005_1008 := am (ne_new BK1005.out hg);have NB1008_1005 := am (ne_new2 BK1005.out hg);have NB1006_1008 := am (ne_new BK1006.out hg);have NB1008_1006 := am (ne_new2 BK1006.out hg);replace BK1004 := (kmv hb BK1004);replace BK1005 := (kmv hb BK1005);replace BK1006 := (kmv hb BK1006);replace HB := am (below_step (HB.out) hb);clear hb hbox hg;have hnb40 := NB1008_1004.out;have hnc40 := NB1004_1008.out;have hnb41 := NB1008_1005.out;have hnc41 := NB1005_1008.out;have hnb42 := NB1008_1006.out;have hnc42 := NB1006_1008.out;obtain ⟨hcz43_0,hcz43_1⟩ := cO2 BK1008.out;have hfz43_0 := blk_frozen BK1008.out 0;have hfz43_1 := blk_frozen BK1008.out 1;obtain ⟨hcz44_0,hcz44_1⟩ := cO2 BK1005.out;obtain ⟨hcz45_0,hcz45_1⟩ := cO2 BK1006.out;have hfz45_0 := blk_frozen BK1006.out 0;have hfz45_1 := blk_frozen BK1006.out 1))
    refine bodyPost_ret (results_cell_row rfl _ _ gb1006 40 #[.int .i64 t1007,.int .i64 10000] (0,0) _ rfl (blk_put (cs := #[.int .i64 t1007,.int .i64 0]) (blk_put (cs := #[.int .i64 0,.int .i64 0]) (blk_far (blk_far BK1006.out NB1006_1008.out _) NB1006_1008.out _) 0 _ rfl) 1 _ rfl) Tryz.underlying40 rfl (by kernel_rfl)) rfl ?_
    exact ⟨by first | rfl | (simp [*] <;> rfl),by repeat (first | (with_reducible first | exact HB.out | refine below_set ?_ (Aside0.out (by assumption)) | apply below_alloc | apply pw_below_drewN) | exact HB.out)⟩
 rw [if_pos c4] at H
 have c4b0 : decide (a1_1 < 40) = true := decide_eq_true c4
 clear c4
 replace H := obm H
 obtain ⟨t1009,A50,H⟩ := H
 (try dsimp only at H)
 have A5 := am A50
 clear A50
 obtain ⟨ji6,hji6⟩ : ∃ j_ : Int,(mn 10000 (wrap64 (t1009 - 1))) = j_ := ⟨_,rfl⟩
 replace H : (if t1007 > (ji6) then (none) else (some (t1007,ji6))) = some (r1,r2) := by first | (rw [hji6] at H;exact H) | (simp only [hji6] at H ⊢;exact H)
 (try rw [hji6] at A3)
 (try rw [hji6] at A5)
 (try (have hji6h : ji6 ≤ 10000 := by (rw [← hji6];unfold mn;(repeat' split) <;> omega)))
 (try (have hji6g : ji6 ≤ 64 := by omega))
 have hji6_ : (if (wrap64 (t1009 - 1)) < 10000 then (wrap64 (t1009 - 1)) else 10000) = ji6 := hji6
 by_cases c7 : t1007 > (ji6)
 · rw [if_pos c7] at H
   have c7b0 : decide ((ji6) < t1007) = true := decide_eq_true c7
   clear c7
   exact absurd H (by simp)
 · rw [if_neg c7] at H
   have c7b0 : decide ((ji6) < t1007) = false := decide_eq_false c7
   clear c7
   simp only [Option.some.injEq,Prod.mk.injEq] at H
   obtain ⟨rfl,rfl⟩ := H
   go_enter Tryz.func72,Tryz.ntmps72
   try go_wp2_with (first | ((refine gate_dst (N := 2) rfl ?_);refine box_event rfl (N := 2) rfl (cs := #[.slice A0_0 l0_0.length c0_0,.int .i64 a0_1,.slice A0_2 l0_2.length c0_2,.int .i64 a0_3,.int .i64 a0_4,.slice A0_5 l0_5.length c0_5]) (t := 99) ?hr ?_;(case hr => go_simp;try rfl);intro gb1004 hg w8 hbox hb;have BK1004 := am (hbox);have GE1004 := am (ge_new (HB.out) hg);replace HB := am (below_step (HB.out) hb);clear hb hbox hg) | ((refine gate_dst (N := 3) rfl ?_);refine box_event rfl (N := 3) rfl (cs := #[.int .i64 a1_0,.int .i64 a1_1]) (t := 40) ?hr ?_;(case hr => go_simp;try rfl);intro gb1005 hg w9 hbox hb;have BK1005 := am (hbox);have GE1005 := am (ge_new (HB.out) hg);have NB1004_1005 := am (ne_new BK1004.out hg);have NB1005_1004 := am (ne_new2 BK1004.out hg);replace BK1004 := (kmv hb BK1004);replace HB := am (below_step (HB.out) hb);clear hb hbox hg) | ((refine gate_dst (N := 4) rfl ?_);refine box_event rfl (N := 4) rfl (cs := #[.int .i64 0,.int .i64 0]) (t := 40) ?hr ?_;(case hr => go_simp;try rfl);intro gb1006 hg w10 hbox hb;have BK1006 := am (hbox);have GE1006 := am (ge_new (HB.out) hg);have NB1004_1006 := am (ne_new BK1004.out hg);have NB1006_1004 := am (ne_new2 BK1004.out hg);have NB1005_1006 := am (ne_new BK1005.out hg);have NB1006_1005 := am (ne_new2 BK1005.out hg);replace BK1004 := (kmv hb BK1004);replace BK1005 := (kmv hb BK1005);replace HB := am (below_step (HB.out) hb);clear hb hbox hg;have hnb11 := NB1004_1005.out;have hnc11 := NB1005_1004.out;have hnb12 := NB1004_1006.out;have hnc12 := NB1006_1004.out;obtain ⟨hcz13_0,hcz13_1,hcz13_2,hcz13_3,hcz13_4,hcz13_5⟩ := cO6 BK1004.out;have hnb14 := NB1005_1006.out;have hnc14 := NB1006_1005.out;obtain ⟨hcz15_0,hcz15_1⟩ := cO2 BK1005.out) | ((with_reducible refine gate_callee (f := 99) rfl ?_);refine goesL_ (some 9) rfl rfl Tryz.func99 (by kernel_rfl) rfl #[.agg #[.slice A0_0 l0_0.length c0_0,.int .i64 a0_1,.slice A0_2 l0_2.length c0_2,.int .i64 a0_3,.int .i64 a0_4,.slice A0_5 l0_5.length c0_5],.int .i64 a1_0] rfl (by (try simp only [List.map_toArray,List.map_cons,List.map_nil]);first | done | rfl | (simp only [List.length_drop,List.length_take];rfl)) ?_;(refine (gf_out.calls _ _ l0_0 a0_1 _ _ l0_2 a0_3 a0_4 _ _ l0_5 a1_0 t1007 _ ?side1 ?side2 ?side3 ?side4 ?side5 ?side6 A3.out).mono ?_);(case side1 => exact kC HR0_0.out HB.out);(case side2 => exact HC0_0.out);(case side3 => exact kC HR0_2.out HB.out);(case side4 => exact HC0_2.out);(case side5 => exact kC HR0_5.out HB.out);(case side6 => exact HC0_5.out);rintro e w16 ⟨rfl,hb⟩;refine ⟨_,rfl,?_⟩;replace BK1004 := (kmv hb BK1004);replace BK1005 := (kmv hb BK1005);replace BK1006 := (kmv hb BK1006);replace HB := am (below_step (HB.out) hb);(try clear hb);(try clear hb2);(try clear hk);(try clear hi)) | ((refine gate_dst (N := 5) rfl ?_);refine box_event rfl (N := 5) rfl (cs := #[.int .i64 0,.int .i64 0]) (t := 40) ?hr ?_;(case hr => go_simp;try rfl);intro gb1008 hg w17 hbox hb;have BK1008 := am (hbox);have GE1008 := am (ge_new (HB.out) hg);have NB1004_1008 := am (ne_new BK1004.out hg);have NB1008_1004 := am (ne_new2 BK1004.out hg);have NB1005_1008 := am (ne_new BK1005.out hg);have NB1008_1005 := am (ne_new2 BK1005.out hg);have NB1006_1008 := am (ne_new BK1006.out hg);have NB1008_1006 := am (ne_new2 BK1006.out hg);replace BK1004 := (kmv hb BK1004);replace BK1005 := (kmv hb BK1005);replace BK1006 := (kmv hb BK1006);replace HB := am (below_step (HB.out) hb);clear hb hbox hg;have hnb18 := NB1008_1004.out;have hnc18 := NB1004_1008.out;have hnb19 := NB1008_1005.out;have hnc19 := NB1005_1008.out;have hnb20 := NB1008_1006.out;have hnc20 := NB1006_1008.out;obtain ⟨hcz21_0,hcz21_1⟩ := cO2 BK1008.out;have hfz21_0 := blk_frozen BK1008.out 0;have hfz21_1 := blk_frozen BK1008.out 1;obtain ⟨hcz22_0,hcz22_1⟩ := cO2 BK1005.out))
   have n0_ : Aside0 (((w17.setCell ⟨gb1008,0,none⟩ (.int .i64 t1007)).setCell ⟨gb1008,1,none⟩ (.int .i64 10000)).heap[gb1004]? = some (.cells #[.slice A0_0 l0_0.length c0_0,.int .i64 a0_1,.slice A0_2 l0_2.length c0_2,.int .i64 a0_3,.int .i64 a0_4,.slice A0_5 l0_5.length c0_5] 99 (0,0))) := ⟨(blk_far (blk_far BK1004.out NB1004_1008.out _) NB1004_1008.out _)⟩
   have n1_ : Aside0 (((w17.setCell ⟨gb1008,0,none⟩ (.int .i64 t1007)).setCell ⟨gb1008,1,none⟩ (.int .i64 10000)).heap[gb1005]? = some (.cells #[.int .i64 a1_0,.int .i64 a1_1] 40 (0,0))) := ⟨(blk_far (blk_far BK1005.out NB1005_1008.out _) NB1005_1008.out _)⟩
   have n2_ : Aside0 (((w17.setCell ⟨gb1008,0,none⟩ (.int .i64 t1007)).setCell ⟨gb1008,1,none⟩ (.int .i64 10000)).heap[gb1006]? = some (.cells #[.int .i64 0,.int .i64 0] 40 (0,0))) := ⟨(blk_far (blk_far BK1006.out NB1006_1008.out _) NB1006_1008.out _)⟩
   have n3_ : Aside0 (((w17.setCell ⟨gb1008,0,none⟩ (.int .i64 t1007)).setCell ⟨gb1008,1,none⟩ (.int .i64 10000)).heap[gb1008]? = some (.cells #[.int .i64 t1007,.int .i64 10000] 40 (0,0))) := ⟨(blk_put (cs := #[.int .i64 t1007,.int .i64 0]) (blk_put (cs := #[.int .i64 0,.int .i64 0]) BK1008.out 0 _ rfl) 1 _ rfl)⟩
   have n4_ : Aside0 (Below w.heap.size w ((w17.setCell ⟨gb1008,0,none⟩ (.int .i64 t1007)).setCell ⟨gb1008,1,none⟩ (.int .i64 10000))) := ⟨by repeat (first | (with_reducible first | exact HB.out | refine below_set ?_ (Aside0.out (by assumption)) | apply below_alloc | apply pw_below_drewN) | exact HB.out)⟩
   (try clear BK1004)
   (try clear BK1005)
   (try clear BK1006)
   (try clear BK1008)
   (try clear HB)
   generalize ((w17.setCell ⟨gb1008,0,none⟩ (.int .i64 t1007)).setCell ⟨gb1008,1,none⟩ (.int .i64 10000)) = w23 at n0_ n1_ n2_ n3_ n4_ ⊢
   have BK1004 := n0_
   have BK1005 := n1_
   have BK1006 := n2_
   have BK1008 := n3_
   have HB := n4_
   clear n0_ n1_ n2_ n3_ n4_
   replace BK1004 := am (blk_drew BK1004.out)
   replace BK1005 := am (blk_drew BK1005.out)
   replace BK1006 := am (blk_drew BK1006.out)
   replace BK1008 := am (blk_drew BK1008.out)
   replace HB := am (below_drew1 HB.out)
   refine start_ (n := 11) (S := fun w' => w'.cell? ⟨gb1008,0,none⟩ = some (.int .i64 t1007) ∧ w'.cell? ⟨gb1008,1,none⟩ = some (.int .i64 10000) ∧ w'.cell? ⟨gb1004,0,none⟩ = some (.slice A0_0 l0_0.length c0_0) ∧ w'.cell? ⟨gb1004,1,none⟩ = some (.int .i64 a0_1) ∧ w'.cell? ⟨gb1004,2,none⟩ = some (.slice A0_2 l0_2.length c0_2) ∧ w'.cell? ⟨gb1004,3,none⟩ = some (.int .i64 a0_3) ∧ w'.cell? ⟨gb1004,4,none⟩ = some (.int .i64 a0_4) ∧ w'.cell? ⟨gb1004,5,none⟩ = some (.slice A0_5 l0_5.length c0_5) ∧ w'.cell? ⟨gb1005,0,none⟩ = some (.int .i64 a1_0) ∧ w'.cell? ⟨gb1005,1,none⟩ = some (.int .i64 a1_1)) (ds := [10]) (ba 11 0) (by kernel_rfl) rfl rfl ⟨(blk_cell BK1008.out 0).trans rfl,(blk_cell BK1008.out 1).trans rfl,(blk_cell BK1004.out 0).trans rfl,(blk_cell BK1004.out 1).trans rfl,(blk_cell BK1004.out 2).trans rfl,(blk_cell BK1004.out 3).trans rfl,(blk_cell BK1004.out 4).trans rfl,(blk_cell BK1004.out 5).trans rfl,(blk_cell BK1005.out 0).trans rfl,(blk_cell BK1005.out 1).trans rfl⟩ (fun hHeld => ?_);refine with_tabW gf_proves.tab3 gf_proves.bits3 (fun HT_ HW_ => ?_)
   generalize w23.drew = w24 at BK1004 BK1005 BK1006 BK1008 HB hHeld ⊢
   refine pure_ (i := 0) (N := some 14) (v := ?_) (a' := ?_) (ba 11 1) rfl rfl (any_of HT_.out (by kernel_rfl)) (fun _ _ _ h => h) (Or.inl ⟨by rfl,?_⟩) ?_ ?_
   rotate_left
   · intro w'
     go_simp
     with_reducible rfl
   rotate_left
   · simp only [Act.put,NRM]
     rfl
   refine pure_ (i := 3) (N := some 17) (v := ?_) (a' := ?_) (ba 11 9) rfl rfl (any_of HT_.out (by kernel_rfl)) (fun _ _ _ h => h) (Or.inl ⟨by rfl,?_⟩) ?_ ?_
   rotate_left
   · intro w'
     go_simp
     with_reducible rfl
   rotate_left
   · simp only [Act.put,NRM]
     rfl
   refine take_ (i := 1) (N := some 15) (v := ?_) (a' := ?_) (ba 11 11) rfl rfl (take_ofW HT_.out HW_.out (by kernel_rfl)) (fun _ _ _ h => h) (Or.inl ⟨by rfl,?_⟩) hHeld ?_ ?_
   rotate_left
   · rintro w' ⟨s0,s1,s2,s3,s4,s5,s6,s7,s8,s9⟩
     go_simp
     with_reducible rfl
   rotate_left
   · simp only [Act.put,NRM]
     rfl
   refine take_ (i := 2) (N := some 16) (v := ?_) (a' := ?_) (ba 11 15) rfl rfl (take_ofW HT_.out HW_.out (by kernel_rfl)) (fun _ _ _ h => h) (Or.inl ⟨by rfl,?_⟩) hHeld ?_ ?_
   rotate_left
   · rintro w' ⟨s0,s1,s2,s3,s4,s5,s6,s7,s8,s9⟩
     go_simp
     with_reducible rfl
   rotate_left
   · simp only [Act.put,NRM]
     rfl
   refine take_ (i := 4) (N := some 18) (v := ?_) (a' := ?_) (ba 11 31) rfl rfl (take_ofW HT_.out HW_.out (by kernel_rfl)) (fun _ _ _ h => h) (Or.inl ⟨by rfl,?_⟩) hHeld ?_ ?_
   rotate_left
   · rintro w' ⟨s0,s1,s2,s3,s4,s5,s6,s7,s8,s9⟩
     go_simp
     with_reducible rfl
   rotate_left
   · simp only [Act.put,NRM]
     rfl
   refine pure_ (i := 5) (N := some 19) (v := ?_) (a' := ?_) (ba 11 63) rfl rfl (any_of HT_.out (by kernel_rfl)) (fun _ _ _ h => h) (Or.inl ⟨by rfl,?_⟩) ?_ ?_
   rotate_left
   · intro w'
     go_simp
     with_reducible rfl
   rotate_left
   · simp only [Act.put,NRM]
     rfl
   refine one_ (i := 6) (N := some 20) (ba 11 127) rfl rfl (one_of HT_.out (by kernel_rfl)) (by decide) (fun K hK => ?_)
   refine goes_ Tryz.func99 (by kernel_rfl) rfl #[.agg #[.slice A0_0 l0_0.length c0_0,.int .i64 a0_1,.slice A0_2 l0_2.length c0_2,.int .i64 a0_3,.int .i64 a0_4,.slice A0_5 l0_5.length c0_5],.int .i64 (wrap64 (a1_1 + 1))] (by rfl) rfl rfl (by (try simp only [List.map_toArray,List.map_cons,List.map_nil]);first | done | rfl | (simp only [List.length_drop,List.length_take];rfl)) ?_
   with_reducible refine (gf_out.calls _ _ l0_0 a0_1 _ _ l0_2 a0_3 a0_4 _ _ l0_5 (wrap64 (a1_1 + 1)) t1009 _ ?side1 ?side2 ?side3 ?side4 ?side5 ?side6 A5.out).mono ?_
   (case side1 => exact kC HR0_0.out HB.out)
   (case side2 => exact HC0_0.out)
   (case side3 => exact kC HR0_2.out HB.out)
   (case side4 => exact HC0_2.out)
   (case side5 => exact kC HR0_5.out HB.out)
   (case side6 => exact HC0_5.out)
   rintro e w25 ⟨rfl,hb⟩
   refine ⟨_,rfl,?_⟩
   replace BK1004 := (kmv hb BK1004)
   replace BK1005 := (kmv hb BK1005)
   replace BK1006 := (kmv hb BK1006)
   replace BK1008 := (kmv hb BK1008)
   replace HB := am (below_step (HB.out) hb)
   (try clear hb)
   (try clear hb2)
   (try clear hk)
   (try clear hi)
   refine hK.out _ _ ⟨(blk_cell BK1008.out 0).trans rfl,(blk_cell BK1008.out 1).trans rfl,(blk_cell BK1004.out 0).trans rfl,(blk_cell BK1004.out 1).trans rfl,(blk_cell BK1004.out 2).trans rfl,(blk_cell BK1004.out 3).trans rfl,(blk_cell BK1004.out 4).trans rfl,(blk_cell BK1004.out 5).trans rfl,(blk_cell BK1005.out 0).trans rfl,(blk_cell BK1005.out 1).trans rfl⟩ (fun hHeld => ?_)
   clear hK K
   refine norm_ (a' := ?_) ?_ ?_
   rotate_left
   · show Act.put _ (some 20) _ = _
     simp only [Act.put,NRM]
     rfl
   refine pure_ (i := 7) (N := some 21) (v := ?_) (a' := ?_) (ba 11 255) rfl rfl (any_of HT_.out (by kernel_rfl)) (fun _ _ _ h => h) (Or.inl ⟨by rfl,?_⟩) ?_ ?_
   rotate_left
   · intro w'
     go_simp
     with_reducible rfl
   rotate_left
   · simp only [Act.put,NRM]
     rfl
   refine pure_ (i := 8) (N := some 22) (v := ?_) (a' := ?_) (ba 11 511) rfl rfl (any_of HT_.out (by kernel_rfl)) (fun _ _ _ h => h) (Or.inl ⟨by rfl,?_⟩) ?_ ?_
   rotate_left
   · intro w'
     go_simp
     with_reducible rfl
   rotate_left
   · simp only [Act.put,NRM]
     rfl
   refine pure_ (i := 9) (N := some 23) (v := ?_) (a' := ?_) (ba 11 1023) rfl rfl (any_of HT_.out (by kernel_rfl)) (fun _ _ _ h => h) (Or.inl ⟨by rfl,?_⟩) ?_ ?_
   rotate_left
   · intro w'
     go_simp
     with_reducible rfl
   rotate_left
   · simp only [Act.put,NRM]
     rfl
   refine last_ (i := 10) (N := none) (ba 11 2047) rfl rfl (one_of HT_.out (by kernel_rfl)) (by decide) (fun K hK => ?_)
   have hs26 : w25.cell? ⟨gb1008,1,none⟩ = some (.int .i64 10000) := (blk_cell BK1008.out 1).trans rfl
   have hfs26 := blk_frozen BK1008.out 1
   have hns26_0 := NB1004_1008.out
   have hns26_1 := NB1005_1008.out
   have hns26_2 := NB1006_1008.out
   have hms26_0 := NB1008_1004.out
   have hms26_1 := NB1008_1005.out
   have hms26_2 := NB1008_1006.out
   refine skip_ (w1 := ?_) (by rfl) rfl ?_ ?_
   rotate_left
   · go_simp
     rfl
   refine hK.out _ _ ?_
   clear hK K
   refine done_ (done_of HT_.out (by kernel_rfl)) ?_
   obtain ⟨hcz27_0,hcz27_1⟩ := cO2 BK1008.out
   have hfz27_0 := blk_frozen BK1008.out 0
   have hfz27_1 := blk_frozen BK1008.out 1
   obtain ⟨hcz28_0,hcz28_1⟩ := cO2 BK1006.out
   have hfz28_0 := blk_frozen BK1006.out 0
   have hfz28_1 := blk_frozen BK1006.out 1
   try go_wp2
   refine bodyPost_ret (results_cell_row rfl _ _ gb1006 40 #[.int .i64 t1007,.int .i64 ji6] (0,0) _ rfl (blk_put (cs := #[.int .i64 t1007,.int .i64 0]) (blk_put (cs := #[.int .i64 0,.int .i64 0]) (blk_far BK1006.out NB1006_1008.out _) 0 _ rfl) 1 _ rfl) Tryz.underlying40 rfl (by kernel_rfl)) rfl ?_
   exact ⟨by first | rfl | (simp [errW_none,errW_some] <;> rfl) | (simp only [← hji6];first | rfl | (simp [errW_none,errW_some] <;> rfl)) | (simp [*,errW_none,errW_some] <;> rfl),by repeat (first | (with_reducible first | exact HB.out | refine below_set ?_ (Aside0.out (by assumption)) | apply below_alloc | apply pw_below_drewN) | exact HB.out)⟩
end
end Go.Proofs.YticlelgmmonloaaGreatDoor.C

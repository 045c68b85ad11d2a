/- A part of the proof: the walks of the functions that it reaches. TIGHT. -/
import Derived.Test.YtnnmnhpeblhiiaaGreatDoorML18
import Derived.Laws.MakeOwn
import Derived.Laws.EntriesVeiled
import Derived.Tactics2
import Derived.Defers
import Derived.Recover
import Derived.Laws.Pointers
import Derived.Lib.Hide
import Derived.BigQuiet
set_option linter.unusedSimpArgs false
set_option linter.unusedVariables false
namespace Go.Proofs.YtnnmnhpeblhiiaaGreatDoor.C
open Go Go.RowKit Go.Shelf Go.Proofs.YtnnmnhpeblhiiaaGreatDoorW.PrintWords Go.Proofs.YtnnmnhpeblhiiaaGreatDoorW.PrintLast Go.Proofs.YtnnmnhpeblhiiaaGreatDoorW.PrintMore
set_option maxHeartbeats 16000000
set_option maxRecDepth 100000
section
attribute [local go_sem] Oper.semAt_some zwa zq9 zwf zwe
def hsBy (F : List Int→Int→List (List Int)) (pre : List Int) (ht left : Int) : Nat→List (List Int)
 | 0=>[]
 | k + 1=>(if ca_isHeight.f (ht + (2 - (k : Int))) = some true then (if max (2 - (k : Int)) (-(2 - (k : Int)))≤left then F (pre ++ [ht + (2 - (k : Int))]) (left - max (2 - (k : Int)) (-(2 - (k : Int)))) else []) else []) ++ hsBy F pre ht left k
def hsOf : List Int→List Int→Int→List (List Int)
 | [],pre,left=>if 0 < left then [] else [pre]
 | ht :: rest,pre,left=>hsBy (hsOf rest) pre ht left 5
theorem set_nil (w0 : World) (l gn gr gy gb gs : Nat) (AX : Option Addr) (c0_0 n0 : Nat) (aA : Int) (AY : Option Addr) (cB : Nat) (lB : List S48) (a0_3 aC : Int) (J Jx : List HX→World→Prop) (Bd : Nat) (hJ : zvk Bd J) (m : Nat) (hY : ∀ pre x W1,J pre W1→hOk Bd lB.length x W1→YieldAt Fence.wide m Tryz.prog l (hEnc x) W1 fun e W'=>(e = .returned (.bool true)∧J (pre ++ [x]) W'∧zqp W1 W')∨(e = .returned (.bool false)∧Jx (pre ++ [x]) W')) (hgr : Bd≤gr) (pre0 : List Int) (left : Int) (px : List HX) (n : Nat) (W : World) (hnl : pre0.length < 17592186044416) (hP : pre0.length = lB.length∧∀ z ∈ pre0,0≤z∧z≤40) (st : HSt W w0 l gn gr gy gb gs AX c0_0 n0 aA AY cB lB a0_3 aC (pre0 ++ [])) (hj : J px W) :
 CallsIn Fence.wide n Tryz.prog 112 #[.int .i64 pre0.length,.int .i64 left,.pointer (some ⟨gn,0,none⟩),.pointer (some ⟨gy,0,none⟩),.pointer (some ⟨gb,0,none⟩),.pointer (some ⟨gs,0,none⟩)] W (fun e W'=>(e = .returned (.bool true)∧∃ (tl : List Int) (xs : List HX),tl.length = ([] : List Int).length∧HSt W' w0 l gn gr gy gb gs AX c0_0 n0 aA AY cB lB a0_3 aC (pre0 ++ tl)∧xs.map (·.1) = hsOf ([]) pre0 left∧J (px ++ xs) W')∨(e = .returned (.bool false)∧∃ xs : List HX,xs.map (·.1) <+: hsOf ([]) pre0 left∧Jx (px ++ xs) W')):=by
 have st0:=st
 rw [List.append_nil] at st
 by_cases hl : 0 < left
 ·refine (set_end_no w0 l gn gr gy gb gs AX c0_0 n0 aA AY cB lB a0_3 aC pre0 left hl n W st).mono ?_
  rintro e W' ⟨rfl,hb⟩
  exact .inl ⟨rfl,[],[],rfl,st0.keeps (zqp.of_below hb),by simp [hsOf,hl],by rw [List.append_nil];exact hJ.below hj hb⟩
 ·refine (set_end_yes w0 l gn gr gy gb gs AX c0_0 n0 aA AY cB lB a0_3 aC J Jx Bd hJ m hY hgr pre0 left hl hnl hP n px W st hj).mono ?_
  rintro e W' (⟨rfl,hk,x,hx,hj2⟩ | ⟨rfl,x,hx,hx2⟩)
  ·exact .inl ⟨rfl,[],[x],rfl,st0.keeps hk,by simp [hsOf,hl,hx],hj2⟩
  ·exact .inr ⟨rfl,[x],by simp [hsOf,hl,hx],hx2⟩
theorem grown_set {W : World} {g i : Nat} {v : Value} : W.grownBy (W.setCell ⟨g,i,none⟩ v) (some g):=
 have hb:=(Below.refl 0 W).setCell (p:=⟨g,i,none⟩) (Nat.zero_le _) v
 ⟨hb.os,hb.tape,hb.output,hb.size,fun k hk hne=>by
  obtain ⟨q,hq⟩ : ∃ q,W.heap[k]? = some q:=⟨_,Array.getElem?_eq_getElem hk⟩
  rw [hq]
  exact zjr (p:=⟨g,i,none⟩) hq (fun e=>hne (by rw [e])) _⟩
theorem zbz (w0 : World) {l gn gr gy gb gs : Nat} {AX : Option Addr} {c0_0 n0 : Nat} {aA : Int} {AY : Option Addr} {cB : Nat} {lB : List S48} {a0_3 aC : Int} (J Jx : List HX→World→Prop) (Bd : Nat) (hJ : zvk Bd J) (hgr : Bd≤gr) {ht : Int} {rest pre0 tl1 dn tail : List Int} {y0 left : Int} {px : List HX}
 (hd : lB.map (·.f1) = dn ++ ht :: rest) (hdl : dn.length = pre0.length) (htl3 : tl1.length = rest.length) (h0 : 0≤left) (h1 : left≤1000) (hh : ∀ h ∈ ht :: rest,0≤h∧h≤40) (hnl : (pre0 ++ tail).length < 17592186044416∧∀ z ∈ pre0,0≤z∧z≤40) (hlen : (pre0 ++ tail).length = pre0.length + (rest.length + 1)) (far h : Int) (hfar : 0≤far) (hin : 0≤h∧h≤40) (hf : far≤left) {W2 : World} (hs : HSt W2 w0 l gn gr gy gb gs AX c0_0 n0 aA AY cB lB a0_3 aC (pre0 ++ y0 :: tl1)) (hj : J px W2)
 (ih : ∀ (pre0 tail : List Int) (left : Int) (px : List HX) (n : Nat) (W : World) (dn : List Int),lB.map (·.f1) = dn ++ rest→dn.length = pre0.length→tail.length = rest.length→0≤left→left≤1000→(∀ h ∈ rest,0≤h∧h≤40)→((pre0 ++ tail).length < 17592186044416∧∀ z ∈ pre0,0≤z∧z≤40)→HSt W w0 l gn gr gy gb gs AX c0_0 n0 aA AY cB lB a0_3 aC (pre0 ++ tail)→J px W→CallsIn Fence.wide n Tryz.prog 112 #[.int .i64 pre0.length,.int .i64 left,.pointer (some ⟨gn,0,none⟩),.pointer (some ⟨gy,0,none⟩),.pointer (some ⟨gb,0,none⟩),.pointer (some ⟨gs,0,none⟩)] W (fun e W'=>(e = .returned (.bool true)∧∃ (tl : List Int) (xs : List HX),tl.length = (rest : List Int).length∧HSt W' w0 l gn gr gy gb gs AX c0_0 n0 aA AY cB lB a0_3 aC (pre0 ++ tl)∧xs.map (·.1) = hsOf (rest) pre0 left∧J (px ++ xs) W')∨(e = .returned (.bool false)∧∃ xs : List HX,xs.map (·.1) <+: hsOf (rest) pre0 left∧Jx (px ++ xs) W'))) (n : Nat) :
 CallsIn Fence.wide n Tryz.prog 112 #[.int .i64 ((pre0.length : Int) + 1),.int .i64 (left - far),.pointer (some ⟨gn,0,none⟩),.pointer (some ⟨gy,0,none⟩),.pointer (some ⟨gb,0,none⟩),.pointer (some ⟨gs,0,none⟩)] (W2.setCell ⟨gr,pre0.length,none⟩ (.int .i64 h)) (fun e W'=>(e = .returned (.bool true)∧∃ (tl : List Int) (xs : List HX),tl.length = (rest : List Int).length∧HSt W' w0 l gn gr gy gb gs AX c0_0 n0 aA AY cB lB a0_3 aC ((pre0 ++ [h]) ++ tl)∧xs.map (·.1) = hsOf (rest) (pre0 ++ [h]) (left - far)∧J (px ++ xs) W')∨(e = .returned (.bool false)∧∃ xs : List HX,xs.map (·.1) <+: hsOf (rest) (pre0 ++ [h]) (left - far)∧Jx (px ++ xs) W')):=by
 have h3:=ih (pre0 ++ [h]) tl1 (left - far) px n (W2.setCell ⟨gr,pre0.length,none⟩ (.int .i64 h)) (dn ++ [ht]) (by rw [hd];simp) (by simp [hdl]) htl3 (by omega) (by omega) (fun z hz=>hh z (List.mem_cons_of_mem _ hz)) ⟨by have hnl:=hnl.1;rw [hlen] at hnl;simp;omega,fun z hz=>(List.mem_append.1 hz).elim (hnl.2 z) (fun e=>by rw [List.mem_singleton.1 e];exact hin)⟩
  (by have h4:=hs.store pre0.length h;rw [show (pre0 ++ y0 :: tl1).set pre0.length h = pre0 ++ [h] ++ tl1 by simp] at h4;exact h4) (hJ _ _ _ _ hj grown_set (fun r e=>by cases e;exact hgr))
 rw [show (((pre0 ++ [h]).length : Nat) : Int) = (pre0.length : Int) + 1 by simp] at h3
 exact h3
theorem isH_in {h : Int} (hh : ca_isHeight.f h = some true) : 0≤h∧h≤40:=by
 unfold ca_isHeight.f ca_in.f at hh
 split at hh
 ·rename_i h1
  have:=of_decide_eq_true (Option.some.inj hh)
  omega
 ·cases hh
theorem zxz (h : Int) : ∃ t,ca_isHeight.f h = some t:=by
 unfold ca_isHeight.f ca_in.f
 split<;>exact ⟨_,rfl⟩
theorem set_in (w0 : World) (l gn gr gy gb gs : Nat) (AX : Option Addr) (c0_0 n0 : Nat) (aA : Int) (AY : Option Addr) (cB : Nat) (lB : List S48) (a0_3 aC : Int) (J Jx : List HX→World→Prop) (Bd : Nat) (hJ : zvk Bd J) (m : Nat) (hY : ∀ pre x W1,J pre W1→hOk Bd lB.length x W1→YieldAt Fence.wide m Tryz.prog l (hEnc x) W1 fun e W'=>(e = .returned (.bool true)∧J (pre ++ [x]) W'∧zqp W1 W')∨(e = .returned (.bool false)∧Jx (pre ++ [x]) W')) (hgr : Bd≤gr) (hrows : Kd.C k48 w0 AY lB.length lB) : ∀ (rest pre0 tail : List Int) (left : Int) (px : List HX) (n : Nat) (W : World) (dn : List Int),lB.map (·.f1) = dn ++ rest→dn.length = pre0.length→tail.length = rest.length→0≤left→left≤1000→(∀ h ∈ rest,0≤h∧h≤40)→((pre0 ++ tail).length < 17592186044416∧∀ z ∈ pre0,0≤z∧z≤40)→HSt W w0 l gn gr gy gb gs AX c0_0 n0 aA AY cB lB a0_3 aC (pre0 ++ tail)→J px W→
 CallsIn Fence.wide n Tryz.prog 112 #[.int .i64 pre0.length,.int .i64 left,.pointer (some ⟨gn,0,none⟩),.pointer (some ⟨gy,0,none⟩),.pointer (some ⟨gb,0,none⟩),.pointer (some ⟨gs,0,none⟩)] W (fun e W'=>(e = .returned (.bool true)∧∃ (tl : List Int) (xs : List HX),tl.length = (rest : List Int).length∧HSt W' w0 l gn gr gy gb gs AX c0_0 n0 aA AY cB lB a0_3 aC (pre0 ++ tl)∧xs.map (·.1) = hsOf (rest) pre0 left∧J (px ++ xs) W')∨(e = .returned (.bool false)∧∃ xs : List HX,xs.map (·.1) <+: hsOf (rest) pre0 left∧Jx (px ++ xs) W')):=by
 intro rest
 induction rest with
 | nil =>
  intro pre0 tail left px n W dn hd hdl htl h0 h1 hh hnlp st hj
  obtain ⟨hnl,hpr⟩:=hnlp
  obtain rfl:=List.length_eq_zero_iff.1 htl
  exact set_nil w0 l gn gr gy gb gs AX c0_0 n0 aA AY cB lB a0_3 aC J Jx Bd hJ m hY hgr pre0 left px n W (by simpa using hnl) ⟨by have:=congrArg List.length hd;simp at this;omega,hpr⟩ st hj
 | cons ht rest ih =>
  intro pre0 tail left px n W dn hd hdl htl h0 h1 hh hnlp st hj
  obtain ⟨hnl,hpr⟩:=hnlp
  have hlen : (pre0 ++ tail).length = pre0.length + (rest.length + 1):=by rw [List.length_append,htl];rfl
  have hn2 : lB.length = pre0.length + (rest.length + 1):=by have:=congrArg List.length hd;simp at this;omega
  have hht:=hh ht List.mem_cons_self
  have hrd : (zql lB (pre0.length : Int)).f1 = ht:=by
   have h3 : (lB.map (·.f1))[pre0.length]? = some ht:=by rw [hd,← hdl];simp
   unfold zql
   rw [List.getElem?_map] at h3
   obtain ⟨y,hy,hy2⟩:=Option.map_eq_some_iff.mp h3
   rw [List.getD_eq_getElem?_getD,show ((pre0.length : Int)).toNat = pre0.length by omega,hy]
   exact hy2
  obtain ⟨adz,ez,hx0,hx1⟩:=zvi hrows (pre0.length : Int) (by omega) (by omega)
  subst ez
  rw [hrd] at hx1
  simp only [Int.toNat_natCast] at hx1
  have HX1:=am hx1
  clear hx0 hx1
  have hb0 : ((pre0.length : Int) == ((pre0 ++ tail).length : Int)) = false:=by rw [hlen];simp;omega
  have hcap:=st.cap
  have c0:=(zqe st.bn 0).trans rfl
  have q0 : (0 : Int)≤(pre0.length : Int):=by omega
  have q1 : (pre0.length : Int) < (lB.length : Int):=by omega
  refine callsIn_of_wp Tryz.func112 rfl trivial ?_ rfl
  simp only [Tryz.ntmps112,List.size_toArray,List.length_cons,List.length_nil,Nat.reduceAdd,Nat.reduceSub,Array.replicate_succ,Array.replicate_zero,List.push_toArray,List.append_toArray,List.nil_append,List.cons_append]
  gi_wp2
  obtain ⟨T,hT⟩ : ∃ T,hsBy (hsOf rest) pre0 ht left 5 = T:=⟨_,rfl⟩
  gi_loopw [9] (fun v9 W'=>∃ (k : Nat) (tl : List Int) (xs : List HX),k≤5∧v9 = .int .i64 (3 - (k : Int))∧tl.length = rest.length + 1∧zqk (HSt W' w0 l gn gr gy gb gs AX c0_0 n0 aA (some adz) cB lB a0_3 aC (pre0 ++ tl))∧zqk (xs.map (·.1) ++ hsBy (hsOf rest) pre0 ht left k = T)∧zqk (J (px ++ xs) W')) (fun v9 _=>(3 - intOf v9).toNat)
  case atStart=>exact ⟨5,tail,[],by omega,rfl,by rw [htl];rfl,⟨st⟩,⟨by simpa using hT⟩,⟨by simpa using hj⟩⟩
  case round =>
   clear c0 hb0 hcap
   obtain ⟨k,tl,xs,hk5,rfl,htl2,HS,HX2,HJ2⟩:=hrel
   have hlen2 : (pre0 ++ tl).length = pre0.length + (rest.length + 1):=by rw [List.length_append,htl2]
   have hx1:=zm6 HS.out.old HX1.out
   have c0:=(zqe HS.out.bn 0).trans rfl
   have c1:=(zqe HS.out.bb 2).trans rfl
   have c2:=(zqe HS.out.bs 0).trans rfl
   have q2 : (pre0.length : Int) < ((pre0 ++ tl).length : Int):=by omega
   obtain ⟨b,hb⟩ : ∃ b : Int,3 - (k : Int) = b:=⟨_,rfl⟩
   rw [hb]
   obtain ⟨y0,tl1,rfl⟩ : ∃ y0 tl1,tl = y0 :: tl1:=by cases tl with
    | nil=>simp at htl2
    | cons a t=>exact ⟨a,t,rfl⟩
   have htl3 : tl1.length = rest.length:=by simpa using htl2
   have hkc : k = 0∨k = 1∨k = 2∨k = 3∨k = 4∨k = 5:=by omega
   rcases hkc with rfl | rfl | rfl | rfl | rfl | rfl
   ·obtain rfl : b = (3):=by omega
    gi_wp2
    go_ret
    exact .inl ⟨rfl,y0 :: tl1,xs,htl2,HS.out,by have:=HX2.out;rw [hsBy,List.append_nil] at this;exact this.trans hT.symm,HJ2.out⟩
   ·obtain rfl : b = (2):=by omega
    have hw : IntKind.i64.wrap (ht + (2)) = ht + (2):=(i64_w _).trans (by unfold wrap64;omega)
    have hs1 : hsBy (hsOf rest) pre0 ht left 1 = (if ca_isHeight.f (ht + (2)) = some true then (if 2≤left then hsOf rest (pre0 ++ [ht + (2)]) (left - 2) else []) else []) ++ hsBy (hsOf rest) pre0 ht left 0:=rfl
    have hx2:=HX2.out
    rw [hs1] at hx2
    obtain ⟨t,hh2⟩:=zxz (ht + (2))
    cases t with
    | false =>
     rw [hh2,if_neg (by decide),List.nil_append] at hx2
     gi_wp2_with (refine ⟨trivial,fun h=>Bool.noConfusion h,?_⟩;refine (callsIn_wide.2 (ca_isHeight.calls (ht + (2)) false _ hh2)).mono ?_;rintro e W2 ⟨rfl,hdr⟩;have hkp:=zqp.of_below hdr.below;have HS2:=am (HS.out.keeps hkp);have HJ3:=am (hJ.below HJ2.out hdr.below);have d0:=(zqe HS2.out.bn 0).trans rfl;have d1:=(zqe HS2.out.bb 2).trans rfl;have d2:=(zqe HS2.out.bs 0).trans rfl;clear hdr)
     go_roundw
     case rel=>first | exact ⟨0,y0 :: tl1,xs,by omega,by simp,htl2,HS2,⟨hx2⟩,HJ3⟩ | trivial
     case measure=>first | (simp [intOf];done) | trivial | omega
    | true =>
     rw [hh2,if_pos rfl] at hx2
     by_cases hf : (2 : Int)≤left
     case neg =>
      rw [if_neg hf,List.nil_append] at hx2
      have hd9 : decide (left < (2 : Int)) = true:=decide_eq_true (by omega)
      gi_wp2_with (refine ⟨trivial,fun h=>Bool.noConfusion h,?_⟩;refine (callsIn_wide.2 (ca_isHeight.calls (ht + (2)) true _ hh2)).mono ?_;rintro e W2 ⟨rfl,hdr⟩;have hkp:=zqp.of_below hdr.below;have HS2:=am (HS.out.keeps hkp);have HJ3:=am (hJ.below HJ2.out hdr.below);have d0:=(zqe HS2.out.bn 0).trans rfl;have d1:=(zqe HS2.out.bb 2).trans rfl;have d2:=(zqe HS2.out.bs 0).trans rfl;clear hdr)
      go_roundw
      case rel=>first | exact ⟨0,y0 :: tl1,xs,by omega,by simp,htl2,HS2,⟨hx2⟩,HJ3⟩ | trivial
      case measure=>first | (simp [intOf];done) | trivial | omega
     rw [if_pos hf] at hx2
     have hd9 : decide (left < (2 : Int)) = false:=decide_eq_false (by omega)
     have hw5 : IntKind.i64.wrap ((pre0.length : Int) + 1) = (pre0.length : Int) + 1:=(i64_w _).trans (by unfold wrap64;omega)
     have hw6 : IntKind.i64.wrap (left - 2) = left - 2:=(i64_w _).trans (by unfold wrap64;omega)
     gi_wp2_with (first | (refine ⟨trivial,fun h=>Bool.noConfusion h,?_⟩;refine (callsIn_wide.2 (ca_isHeight.calls (ht + (2)) true _ hh2)).mono ?_;rintro e W2 ⟨rfl,hdr⟩;have hkp:=zqp.of_below hdr.below;have HS2:=am (HS.out.keeps hkp);have HJ3:=am (hJ.below HJ2.out hdr.below);have d0:=(zqe HS2.out.bn 0).trans rfl;have d1:=(zqe HS2.out.bb 2).trans rfl;have d2:=(zqe HS2.out.bs 0).trans rfl;have d3 : W2.cell? ⟨gr,pre0.length,none⟩ = some (.int .i64 y0):=(zqe HS2.out.br pre0.length).trans (by simp);have d4:=zqd HS2.out.br pre0.length;have hne1 : gs ≠ gr:=zxy HS2.out.bs HS2.out.br (by decide);have hne2 : gr ≠ gs:=fun e=>hne1 e.symm;have ihx:=zbz w0 J Jx Bd hJ hgr hd hdl htl3 h0 h1 hh ⟨hnl,hpr⟩ hlen 2 (ht + (2)) (by decide) (isH_in hh2) hf HS2.out HJ3.out ih (n - 1);clear hdr) | (refine ⟨trivial,fun h=>Bool.noConfusion h,?_⟩;refine ihx.mono ?_;rintro e W4 (⟨rfl,tl2,xs2,htl4,hs4,hxs2,hj4⟩ | ⟨rfl,xs2,hxs2,hj4⟩)))
     ·go_roundw
      case rel=>exact ⟨0,(ht + (2)) :: tl2,xs ++ xs2,by omega,by simp,by simp [htl4],⟨by simpa using hs4⟩,⟨by rw [List.map_append,hxs2,List.append_assoc];exact hx2⟩,⟨by simpa [List.append_assoc] using hj4⟩⟩
      case measure=>first | (simp [intOf];done) | omega
     ·go_ret
      obtain ⟨rr,hrr⟩:=hxs2
      exact .inr ⟨rfl,xs ++ xs2,⟨rr ++ hsBy (hsOf rest) pre0 ht left 0,by rw [List.map_append,List.append_assoc,← List.append_assoc _ rr,hrr];exact hx2.trans hT.symm⟩,by simpa [List.append_assoc] using hj4⟩
   ·obtain rfl : b = (1):=by omega
    have hw : IntKind.i64.wrap (ht + (1)) = ht + (1):=(i64_w _).trans (by unfold wrap64;omega)
    have hs1 : hsBy (hsOf rest) pre0 ht left 2 = (if ca_isHeight.f (ht + (1)) = some true then (if 1≤left then hsOf rest (pre0 ++ [ht + (1)]) (left - 1) else []) else []) ++ hsBy (hsOf rest) pre0 ht left 1:=rfl
    have hx2:=HX2.out
    rw [hs1] at hx2
    obtain ⟨t,hh2⟩:=zxz (ht + (1))
    cases t with
    | false =>
     rw [hh2,if_neg (by decide),List.nil_append] at hx2
     gi_wp2_with (refine ⟨trivial,fun h=>Bool.noConfusion h,?_⟩;refine (callsIn_wide.2 (ca_isHeight.calls (ht + (1)) false _ hh2)).mono ?_;rintro e W2 ⟨rfl,hdr⟩;have hkp:=zqp.of_below hdr.below;have HS2:=am (HS.out.keeps hkp);have HJ3:=am (hJ.below HJ2.out hdr.below);have d0:=(zqe HS2.out.bn 0).trans rfl;have d1:=(zqe HS2.out.bb 2).trans rfl;have d2:=(zqe HS2.out.bs 0).trans rfl;clear hdr)
     go_roundw
     case rel=>first | exact ⟨1,y0 :: tl1,xs,by omega,by simp,htl2,HS2,⟨hx2⟩,HJ3⟩ | trivial
     case measure=>first | (simp [intOf];done) | trivial | omega
    | true =>
     rw [hh2,if_pos rfl] at hx2
     by_cases hf : (1 : Int)≤left
     case neg =>
      rw [if_neg hf,List.nil_append] at hx2
      have hd9 : decide (left < (1 : Int)) = true:=decide_eq_true (by omega)
      gi_wp2_with (refine ⟨trivial,fun h=>Bool.noConfusion h,?_⟩;refine (callsIn_wide.2 (ca_isHeight.calls (ht + (1)) true _ hh2)).mono ?_;rintro e W2 ⟨rfl,hdr⟩;have hkp:=zqp.of_below hdr.below;have HS2:=am (HS.out.keeps hkp);have HJ3:=am (hJ.below HJ2.out hdr.below);have d0:=(zqe HS2.out.bn 0).trans rfl;have d1:=(zqe HS2.out.bb 2).trans rfl;have d2:=(zqe HS2.out.bs 0).trans rfl;clear hdr)
      go_roundw
      case rel=>first | exact ⟨1,y0 :: tl1,xs,by omega,by simp,htl2,HS2,⟨hx2⟩,HJ3⟩ | trivial
      case measure=>first | (simp [intOf];done) | trivial | omega
     rw [if_pos hf] at hx2
     have hd9 : decide (left < (1 : Int)) = false:=decide_eq_false (by omega)
     have hw5 : IntKind.i64.wrap ((pre0.length : Int) + 1) = (pre0.length : Int) + 1:=(i64_w _).trans (by unfold wrap64;omega)
     have hw6 : IntKind.i64.wrap (left - 1) = left - 1:=(i64_w _).trans (by unfold wrap64;omega)
     gi_wp2_with (first | (refine ⟨trivial,fun h=>Bool.noConfusion h,?_⟩;refine (callsIn_wide.2 (ca_isHeight.calls (ht + (1)) true _ hh2)).mono ?_;rintro e W2 ⟨rfl,hdr⟩;have hkp:=zqp.of_below hdr.below;have HS2:=am (HS.out.keeps hkp);have HJ3:=am (hJ.below HJ2.out hdr.below);have d0:=(zqe HS2.out.bn 0).trans rfl;have d1:=(zqe HS2.out.bb 2).trans rfl;have d2:=(zqe HS2.out.bs 0).trans rfl;have d3 : W2.cell? ⟨gr,pre0.length,none⟩ = some (.int .i64 y0):=(zqe HS2.out.br pre0.length).trans (by simp);have d4:=zqd HS2.out.br pre0.length;have hne1 : gs ≠ gr:=zxy HS2.out.bs HS2.out.br (by decide);have hne2 : gr ≠ gs:=fun e=>hne1 e.symm;have ihx:=zbz w0 J Jx Bd hJ hgr hd hdl htl3 h0 h1 hh ⟨hnl,hpr⟩ hlen 1 (ht + (1)) (by decide) (isH_in hh2) hf HS2.out HJ3.out ih (n - 1);clear hdr) | (refine ⟨trivial,fun h=>Bool.noConfusion h,?_⟩;refine ihx.mono ?_;rintro e W4 (⟨rfl,tl2,xs2,htl4,hs4,hxs2,hj4⟩ | ⟨rfl,xs2,hxs2,hj4⟩)))
     ·go_roundw
      case rel=>exact ⟨1,(ht + (1)) :: tl2,xs ++ xs2,by omega,by simp,by simp [htl4],⟨by simpa using hs4⟩,⟨by rw [List.map_append,hxs2,List.append_assoc];exact hx2⟩,⟨by simpa [List.append_assoc] using hj4⟩⟩
      case measure=>first | (simp [intOf];done) | omega
     ·go_ret
      obtain ⟨rr,hrr⟩:=hxs2
      exact .inr ⟨rfl,xs ++ xs2,⟨rr ++ hsBy (hsOf rest) pre0 ht left 1,by rw [List.map_append,List.append_assoc,← List.append_assoc _ rr,hrr];exact hx2.trans hT.symm⟩,by simpa [List.append_assoc] using hj4⟩
   ·obtain rfl : b = (0):=by omega
    have hw : IntKind.i64.wrap ht = ht:=(i64_w _).trans (by unfold wrap64;omega)
    have hs1 : hsBy (hsOf rest) pre0 ht left 3 = (if ca_isHeight.f ht = some true then (if 0≤left then hsOf rest (pre0 ++ [ht]) left else []) else []) ++ hsBy (hsOf rest) pre0 ht left 2:=by
     have h0_ : ht + (2 - ((2 : Nat) : Int)) = ht:=by omega
     have h1_ : left - max (2 - ((2 : Nat) : Int)) (-(2 - ((2 : Nat) : Int))) = left:=by omega
     rw [hsBy,h0_,h1_];rfl
    have hx2:=HX2.out
    rw [hs1] at hx2
    obtain ⟨t,hh2⟩:=zxz ht
    cases t with
    | false =>
     rw [hh2,if_neg (by decide),List.nil_append] at hx2
     gi_wp2_with (refine ⟨trivial,fun h=>Bool.noConfusion h,?_⟩;refine (callsIn_wide.2 (ca_isHeight.calls ht false _ hh2)).mono ?_;rintro e W2 ⟨rfl,hdr⟩;have hkp:=zqp.of_below hdr.below;have HS2:=am (HS.out.keeps hkp);have HJ3:=am (hJ.below HJ2.out hdr.below);have d0:=(zqe HS2.out.bn 0).trans rfl;have d1:=(zqe HS2.out.bb 2).trans rfl;have d2:=(zqe HS2.out.bs 0).trans rfl;clear hdr)
     go_roundw
     case rel=>first | exact ⟨2,y0 :: tl1,xs,by omega,by simp,htl2,HS2,⟨hx2⟩,HJ3⟩ | trivial
     case measure=>first | (simp [intOf];done) | trivial | omega
    | true =>
     rw [hh2,if_pos rfl] at hx2
     by_cases hf : (0 : Int)≤left
     case neg =>
      exact absurd h0 hf
     rw [if_pos hf] at hx2
     have hd9 : decide (left < (0 : Int)) = false:=decide_eq_false (by omega)
     have hw5 : IntKind.i64.wrap ((pre0.length : Int) + 1) = (pre0.length : Int) + 1:=(i64_w _).trans (by unfold wrap64;omega)
     have hw6 : IntKind.i64.wrap left = left:=(i64_w _).trans (by unfold wrap64;omega)
     gi_wp2_with (first | (refine ⟨trivial,fun h=>Bool.noConfusion h,?_⟩;refine (callsIn_wide.2 (ca_isHeight.calls ht true _ hh2)).mono ?_;rintro e W2 ⟨rfl,hdr⟩;have hkp:=zqp.of_below hdr.below;have HS2:=am (HS.out.keeps hkp);have HJ3:=am (hJ.below HJ2.out hdr.below);have d0:=(zqe HS2.out.bn 0).trans rfl;have d1:=(zqe HS2.out.bb 2).trans rfl;have d2:=(zqe HS2.out.bs 0).trans rfl;have d3 : W2.cell? ⟨gr,pre0.length,none⟩ = some (.int .i64 y0):=(zqe HS2.out.br pre0.length).trans (by simp);have d4:=zqd HS2.out.br pre0.length;have hne1 : gs ≠ gr:=zxy HS2.out.bs HS2.out.br (by decide);have hne2 : gr ≠ gs:=fun e=>hne1 e.symm;have ihx:=zbz w0 J Jx Bd hJ hgr hd hdl htl3 h0 h1 hh ⟨hnl,hpr⟩ hlen 0 ht (by decide) (isH_in hh2) hf HS2.out HJ3.out ih (n - 1);rw [Int.sub_zero] at ihx;clear hdr) | (refine ⟨trivial,fun h=>Bool.noConfusion h,?_⟩;refine ihx.mono ?_;rintro e W4 (⟨rfl,tl2,xs2,htl4,hs4,hxs2,hj4⟩ | ⟨rfl,xs2,hxs2,hj4⟩)))
     ·go_roundw
      case rel=>exact ⟨2,ht :: tl2,xs ++ xs2,by omega,by simp,by simp [htl4],⟨by simpa using hs4⟩,⟨by rw [List.map_append,hxs2,List.append_assoc];exact hx2⟩,⟨by simpa [List.append_assoc] using hj4⟩⟩
      case measure=>first | (simp [intOf];done) | omega
     ·go_ret
      obtain ⟨rr,hrr⟩:=hxs2
      exact .inr ⟨rfl,xs ++ xs2,⟨rr ++ hsBy (hsOf rest) pre0 ht left 2,by rw [List.map_append,List.append_assoc,← List.append_assoc _ rr,hrr];exact hx2.trans hT.symm⟩,by simpa [List.append_assoc] using hj4⟩
   ·obtain rfl : b = (-1):=by omega
    have hw : IntKind.i64.wrap (ht + (-1)) = ht + (-1):=(i64_w _).trans (by unfold wrap64;omega)
    have hs1 : hsBy (hsOf rest) pre0 ht left 4 = (if ca_isHeight.f (ht + (-1)) = some true then (if 1≤left then hsOf rest (pre0 ++ [ht + (-1)]) (left - 1) else []) else []) ++ hsBy (hsOf rest) pre0 ht left 3:=rfl
    have hx2:=HX2.out
    rw [hs1] at hx2
    obtain ⟨t,hh2⟩:=zxz (ht + (-1))
    cases t with
    | false =>
     rw [hh2,if_neg (by decide),List.nil_append] at hx2
     gi_wp2_with (refine ⟨trivial,fun h=>Bool.noConfusion h,?_⟩;refine (callsIn_wide.2 (ca_isHeight.calls (ht + (-1)) false _ hh2)).mono ?_;rintro e W2 ⟨rfl,hdr⟩;have hkp:=zqp.of_below hdr.below;have HS2:=am (HS.out.keeps hkp);have HJ3:=am (hJ.below HJ2.out hdr.below);have d0:=(zqe HS2.out.bn 0).trans rfl;have d1:=(zqe HS2.out.bb 2).trans rfl;have d2:=(zqe HS2.out.bs 0).trans rfl;clear hdr)
     go_roundw
     case rel=>first | exact ⟨3,y0 :: tl1,xs,by omega,by simp,htl2,HS2,⟨hx2⟩,HJ3⟩ | trivial
     case measure=>first | (simp [intOf];done) | trivial | omega
    | true =>
     rw [hh2,if_pos rfl] at hx2
     by_cases hf : (1 : Int)≤left
     case neg =>
      rw [if_neg hf,List.nil_append] at hx2
      have hd9 : decide (left < (1 : Int)) = true:=decide_eq_true (by omega)
      gi_wp2_with (refine ⟨trivial,fun h=>Bool.noConfusion h,?_⟩;refine (callsIn_wide.2 (ca_isHeight.calls (ht + (-1)) true _ hh2)).mono ?_;rintro e W2 ⟨rfl,hdr⟩;have hkp:=zqp.of_below hdr.below;have HS2:=am (HS.out.keeps hkp);have HJ3:=am (hJ.below HJ2.out hdr.below);have d0:=(zqe HS2.out.bn 0).trans rfl;have d1:=(zqe HS2.out.bb 2).trans rfl;have d2:=(zqe HS2.out.bs 0).trans rfl;clear hdr)
      go_roundw
      case rel=>first | exact ⟨3,y0 :: tl1,xs,by omega,by simp,htl2,HS2,⟨hx2⟩,HJ3⟩ | trivial
      case measure=>first | (simp [intOf];done) | trivial | omega
     rw [if_pos hf] at hx2
     have hd9 : decide (left < (1 : Int)) = false:=decide_eq_false (by omega)
     have hw5 : IntKind.i64.wrap ((pre0.length : Int) + 1) = (pre0.length : Int) + 1:=(i64_w _).trans (by unfold wrap64;omega)
     have hw6 : IntKind.i64.wrap (left - 1) = left - 1:=(i64_w _).trans (by unfold wrap64;omega)
     gi_wp2_with (first | (refine ⟨trivial,fun h=>Bool.noConfusion h,?_⟩;refine (callsIn_wide.2 (ca_isHeight.calls (ht + (-1)) true _ hh2)).mono ?_;rintro e W2 ⟨rfl,hdr⟩;have hkp:=zqp.of_below hdr.below;have HS2:=am (HS.out.keeps hkp);have HJ3:=am (hJ.below HJ2.out hdr.below);have d0:=(zqe HS2.out.bn 0).trans rfl;have d1:=(zqe HS2.out.bb 2).trans rfl;have d2:=(zqe HS2.out.bs 0).trans rfl;have d3 : W2.cell? ⟨gr,pre0.length,none⟩ = some (.int .i64 y0):=(zqe HS2.out.br pre0.length).trans (by simp);have d4:=zqd HS2.out.br pre0.length;have hne1 : gs ≠ gr:=zxy HS2.out.bs HS2.out.br (by decide);have hne2 : gr ≠ gs:=fun e=>hne1 e.symm;have ihx:=zbz w0 J Jx Bd hJ hgr hd hdl htl3 h0 h1 hh ⟨hnl,hpr⟩ hlen 1 (ht + (-1)) (by decide) (isH_in hh2) hf HS2.out HJ3.out ih (n - 1);clear hdr) | (refine ⟨trivial,fun h=>Bool.noConfusion h,?_⟩;refine ihx.mono ?_;rintro e W4 (⟨rfl,tl2,xs2,htl4,hs4,hxs2,hj4⟩ | ⟨rfl,xs2,hxs2,hj4⟩)))
     ·go_roundw
      case rel=>exact ⟨3,(ht + (-1)) :: tl2,xs ++ xs2,by omega,by simp,by simp [htl4],⟨by simpa using hs4⟩,⟨by rw [List.map_append,hxs2,List.append_assoc];exact hx2⟩,⟨by simpa [List.append_assoc] using hj4⟩⟩
      case measure=>first | (simp [intOf];done) | omega
     ·go_ret
      obtain ⟨rr,hrr⟩:=hxs2
      exact .inr ⟨rfl,xs ++ xs2,⟨rr ++ hsBy (hsOf rest) pre0 ht left 3,by rw [List.map_append,List.append_assoc,← List.append_assoc _ rr,hrr];exact hx2.trans hT.symm⟩,by simpa [List.append_assoc] using hj4⟩
   ·obtain rfl : b = (-2):=by omega
    have hw : IntKind.i64.wrap (ht + (-2)) = ht + (-2):=(i64_w _).trans (by unfold wrap64;omega)
    have hs1 : hsBy (hsOf rest) pre0 ht left 5 = (if ca_isHeight.f (ht + (-2)) = some true then (if 2≤left then hsOf rest (pre0 ++ [ht + (-2)]) (left - 2) else []) else []) ++ hsBy (hsOf rest) pre0 ht left 4:=rfl
    have hx2:=HX2.out
    rw [hs1] at hx2
    obtain ⟨t,hh2⟩:=zxz (ht + (-2))
    cases t with
    | false =>
     rw [hh2,if_neg (by decide),List.nil_append] at hx2
     gi_wp2_with (refine ⟨trivial,fun h=>Bool.noConfusion h,?_⟩;refine (callsIn_wide.2 (ca_isHeight.calls (ht + (-2)) false _ hh2)).mono ?_;rintro e W2 ⟨rfl,hdr⟩;have hkp:=zqp.of_below hdr.below;have HS2:=am (HS.out.keeps hkp);have HJ3:=am (hJ.below HJ2.out hdr.below);have d0:=(zqe HS2.out.bn 0).trans rfl;have d1:=(zqe HS2.out.bb 2).trans rfl;have d2:=(zqe HS2.out.bs 0).trans rfl;clear hdr)
     go_roundw
     case rel=>first | exact ⟨4,y0 :: tl1,xs,by omega,by simp,htl2,HS2,⟨hx2⟩,HJ3⟩ | trivial
     case measure=>first | (simp [intOf];done) | trivial | omega
    | true =>
     rw [hh2,if_pos rfl] at hx2
     by_cases hf : (2 : Int)≤left
     case neg =>
      rw [if_neg hf,List.nil_append] at hx2
      have hd9 : decide (left < (2 : Int)) = true:=decide_eq_true (by omega)
      gi_wp2_with (refine ⟨trivial,fun h=>Bool.noConfusion h,?_⟩;refine (callsIn_wide.2 (ca_isHeight.calls (ht + (-2)) true _ hh2)).mono ?_;rintro e W2 ⟨rfl,hdr⟩;have hkp:=zqp.of_below hdr.below;have HS2:=am (HS.out.keeps hkp);have HJ3:=am (hJ.below HJ2.out hdr.below);have d0:=(zqe HS2.out.bn 0).trans rfl;have d1:=(zqe HS2.out.bb 2).trans rfl;have d2:=(zqe HS2.out.bs 0).trans rfl;clear hdr)
      go_roundw
      case rel=>first | exact ⟨4,y0 :: tl1,xs,by omega,by simp,htl2,HS2,⟨hx2⟩,HJ3⟩ | trivial
      case measure=>first | (simp [intOf];done) | trivial | omega
     rw [if_pos hf] at hx2
     have hd9 : decide (left < (2 : Int)) = false:=decide_eq_false (by omega)
     have hw5 : IntKind.i64.wrap ((pre0.length : Int) + 1) = (pre0.length : Int) + 1:=(i64_w _).trans (by unfold wrap64;omega)
     have hw6 : IntKind.i64.wrap (left - 2) = left - 2:=(i64_w _).trans (by unfold wrap64;omega)
     gi_wp2_with (first | (refine ⟨trivial,fun h=>Bool.noConfusion h,?_⟩;refine (callsIn_wide.2 (ca_isHeight.calls (ht + (-2)) true _ hh2)).mono ?_;rintro e W2 ⟨rfl,hdr⟩;have hkp:=zqp.of_below hdr.below;have HS2:=am (HS.out.keeps hkp);have HJ3:=am (hJ.below HJ2.out hdr.below);have d0:=(zqe HS2.out.bn 0).trans rfl;have d1:=(zqe HS2.out.bb 2).trans rfl;have d2:=(zqe HS2.out.bs 0).trans rfl;have d3 : W2.cell? ⟨gr,pre0.length,none⟩ = some (.int .i64 y0):=(zqe HS2.out.br pre0.length).trans (by simp);have d4:=zqd HS2.out.br pre0.length;have hne1 : gs ≠ gr:=zxy HS2.out.bs HS2.out.br (by decide);have hne2 : gr ≠ gs:=fun e=>hne1 e.symm;have ihx:=zbz w0 J Jx Bd hJ hgr hd hdl htl3 h0 h1 hh ⟨hnl,hpr⟩ hlen 2 (ht + (-2)) (by decide) (isH_in hh2) hf HS2.out HJ3.out ih (n - 1);clear hdr) | (refine ⟨trivial,fun h=>Bool.noConfusion h,?_⟩;refine ihx.mono ?_;rintro e W4 (⟨rfl,tl2,xs2,htl4,hs4,hxs2,hj4⟩ | ⟨rfl,xs2,hxs2,hj4⟩)))
     ·go_roundw
      case rel=>exact ⟨4,(ht + (-2)) :: tl2,xs ++ xs2,by omega,by simp,by simp [htl4],⟨by simpa using hs4⟩,⟨by rw [List.map_append,hxs2,List.append_assoc];exact hx2⟩,⟨by simpa [List.append_assoc] using hj4⟩⟩
      case measure=>first | (simp [intOf];done) | omega
     ·go_ret
      obtain ⟨rr,hrr⟩:=hxs2
      exact .inr ⟨rfl,xs ++ xs2,⟨rr ++ hsBy (hsOf rest) pre0 ht left 4,by rw [List.map_append,List.append_assoc,← List.append_assoc _ rr,hrr];exact hx2.trans hT.symm⟩,by simpa [List.append_assoc] using hj4⟩
end
theorem eventIn {F : Fence} {n : Nat} {P : Program} {ops : Array Oper} {o : Oper} {a : Act} {Q : Exit→Act→World→Prop} {rest : List Oper} {W W1 : World} {v : Value} (hro : F.round = none) (hfn : ∀ f,F.fn f) (hgd : o.guard = none)
 (hrun : (execOp a.eval o).run P W = .ok (.value v) W1) (h : wpListIn F n P ops Q rest (a.put o.dst v) W1) : wpListIn F n P ops Q (o :: rest) a W:=by
 refine wpListIn_plain hgd fun K hK=>?_
 unfold Oper.wpIn
 refine ⟨fun f _=>hfn f,?_⟩
 rw [hro,Oper.semAt_none,hrun,Oper.uponIn_value]
 exact hK _ _ h
theorem boxIn {F : Fence} {n : Nat} {P : Program} {ops : Array Oper} {o : Oper} {a : Act} {Q : Exit→Act→World→Prop} {rest : List Oper} {W : World} (hro : F.round = none) (hfn : ∀ f,F.fn f) (hgd : o.guard = none) {cs : Array Value} {t : TypeId}
 (hrun : (execOp a.eval o).run P W = .ok (.value (.pointer (some ⟨W.heap.size,0,none⟩))) (W.alloc (.cells cs t (0,0))))
 (h : ∀ g,g = W.heap.size→∀ w1,w1.heap[g]? = some (.cells cs t (0,0))→Below W.heap.size W w1→wpListIn F n P ops Q rest (a.put o.dst (.pointer (some ⟨g,0,none⟩))) w1) : wpListIn F n P ops Q (o :: rest) a W:=
 eventIn hro hfn hgd hrun (h _ rfl _ (zkw W _) (zqc (Below.refl _ _) _))
theorem made_ints (n : Nat) : madeCells (Value.int .i64 0).cells (n * 1) = ((List.replicate n (0 : Int)).map (Value.int .i64)).toArray:=by
 rw [Nat.mul_one]
 apply Array.ext
 ·rw [size_madeCells];simp
 ·intro i h1 h2
  simp [madeCells,Value.cells]
  rw [Nat.mod_one]
  rfl
theorem infoInt3 : (Tryz.prog.info? 3).map (fun i=>(i.zero,i.size,i.bytes)) = some (some (.int .i64 0),1,8):=by kernel_rfl
theorem zpu (n : Nat) (hn : n≤1000000) (W : World) : (Instr.makeSlice 28 (.int .i64 (n : Int)) (.int .i64 (n : Int))).run Tryz.prog W = .ok (.slice (some ⟨W.heap.size,0,none⟩) n n) (W.alloc (.cells ((List.replicate n (0 : Int)).map (Value.int .i64)).toArray 3)):=by
 obtain ⟨i0,hi,hz0,hz1,hz2⟩:=info_parts infoInt3
 have h:=run_makeSlice (P:=Tryz.prog) (w:=W) 28 3 i0 (.int .i64 0) Tryz.underlying28 hi hz0 .i64 .i64 (n : Int) (n : Int) (by omega) (Int.le_refl _) (by rw [hz1];omega) (by rw [hz2];omega) (by omega)
 rw [hz1] at h
 simp only [Int.toNat_natCast] at h
 rw [made_ints] at h
 exact h
theorem gateIn {F : Fence} {n : Nat} {P : Program} {ops : Array Oper} {o : Oper} {a : Act} {Q : Exit→Act→World→Prop} {rest : List Oper} {W : World} {N : Tmp} (_ : o.dst = some N) (h : wpListIn F n P ops Q (o :: rest) a W) : wpListIn F n P ops Q (o :: rest) a W:=h
theorem hst5 {w0 w1 : World} {l gy gb : Nat} {AX : Option Addr} {c0_0 n0 : Nat} {aA : Int} {AY : Option Addr} {cB : Nat} {lB : List S48} {a0_3 aC : Int} (by_ : w1.heap[gy]? = some (.cells #[.func (.yield l) #[] #[]] 113 (0,0))) (bb : w1.heap[gb]? = some (.cells #[.slice AX n0 c0_0,.int .i64 aA,.slice AY lB.length cB,.int .i64 a0_3,.int .i64 aC] 27 (0,0))) (old : zqp w0 w1) (hnl : lB.length≤1000000) :
 HSt (((w1.alloc (.cells (Array.replicate lB.length (Value.int .i64 0)) 3)).alloc (.cells #[.slice (some ⟨w1.heap.size,0,none⟩) lB.length lB.length] 28)).alloc (.cells #[.func (.func 112) #[] #[.pointer (some ⟨w1.heap.size + 1,0,none⟩),.pointer (some ⟨gy,0,none⟩),.pointer (some ⟨gb,0,none⟩),.pointer (some ⟨w1.heap.size + 1 + 1,0,none⟩)]] 144)) w0 l (w1.heap.size + 1) w1.heap.size gy gb (w1.heap.size + 1 + 1) AX c0_0 n0 aA AY cB lB a0_3 aC (List.replicate lB.length 0):=by
 refine ⟨?_,?_,zqg (zqg (zqg by_ _) _) _,zqg (zqg (zqg bb _) _) _,?_,old.trans (zqp.of_below (zqc (zqc (zqc (Below.refl _ _) _) _) _)),old.size,by simp;omega⟩
 ·rw [List.length_replicate]
  refine zqg ?_ _
  have:=zkw (w1.alloc (.cells (Array.replicate lB.length (Value.int .i64 0)) 3)) (.cells #[.slice (some ⟨w1.heap.size,0,none⟩) lB.length lB.length] 28)
  rwa [World.size_alloc] at this
 ·refine zqg (zqg ((zkw w1 _).trans ?_) _) _
  simp
 ·have:=zkw ((w1.alloc (.cells (Array.replicate lB.length (Value.int .i64 0)) 3)).alloc (.cells #[.slice (some ⟨w1.heap.size,0,none⟩) lB.length lB.length] 28)) (.cells #[.func (.func 112) #[] #[.pointer (some ⟨w1.heap.size + 1,0,none⟩),.pointer (some ⟨gy,0,none⟩),.pointer (some ⟨gb,0,none⟩),.pointer (some ⟨w1.heap.size + 1 + 1,0,none⟩)]] 144)
  rw [World.size_alloc,World.size_alloc] at this
  exact this
attribute [local go_sem] Oper.semAt_some
theorem zpb (gb gch : Nat) (AX : Option Addr) (c0_0 n0 : Nat) (aA : Int) (AY : Option Addr) (cB : Nat) (lB : List S48) (a0_3 aC change : Int) (w : World) (bb : w.heap[gb]? = some (.cells #[.slice AX n0 c0_0,.int .i64 aA,.slice AY lB.length cB,.int .i64 a0_3,.int .i64 aC] 27 (0,0))) (bch : w.heap[gch]? = some (.cells #[.int .i64 change] 3 (0,0))) (hrows : Kd.C k48 w AY lB.length lB) (h0 : 0≤change) (h1 : change≤1000) (hh : ∀ h ∈ lB.map (·.f1),0≤h∧h≤40) (hnl : lB.length≤1000000) (n : Nat) :
 SeqStopsC Fence.wide n Tryz.prog 111 #[.pointer (some ⟨gb,0,none⟩),.pointer (some ⟨gch,0,none⟩)] hEnc (hOk w.heap.size lB.length) zqp (fun xs=>xs.map (·.1) = hsOf (lB.map (·.f1)) [] change) (fun xs=>xs.map (·.1) <+: hsOf (lB.map (·.f1)) [] change) w:=by
 intro l J Jx W hW hlt hJ hY hj
 have hu:=Tryz.underlying27
 have hms:=zpu lB.length hnl
 have bb2:=zqh bb hW
 have bch2:=zqh bch hW
 have e0:=(zqe bb2 2).trans rfl
 have e1:=(zqe bch2 0).trans rfl
 refine callsIn_of_wp Tryz.func111 rfl trivial ?_ rfl
 simp only [Tryz.ntmps111,List.size_toArray,List.length_cons,List.length_nil,Nat.reduceAdd,Nat.reduceSub,Array.replicate_succ,Array.replicate_zero,List.push_toArray,List.append_toArray,List.nil_append,List.cons_append]
 have hWs:=am hW.size
 have hW:=am hW
 have bb2:=am bb2
 have bch2:=am bch2
 have hj:=am hj
 gi_wp2_with (first | ((with_reducible refine gateIn (N:=3) rfl ?_);refine boxIn rfl (fun _=>trivial) ?hg (cs:=#[.func (.yield l) #[] #[]]) (t:=113) ?hr ?_;(case hg=>rfl);(case hr=>go_simp;try rfl);intro gy hg w1 hbox hb;have Sgy:=am hg;have hW2:=zq0 hW.out hW.out.size hb;have n1:=am hW2;clear hW hW2;have hW:=n1;clear n1;have n1:=(kmv hb bb2);clear bb2;have bb2:=n1;clear n1;have n1:=(kmv hb bch2);clear bch2;have bch2:=n1;clear n1;have n1:=am (hJ.below hj.out hb);clear hj;have hj:=n1;clear n1;have Bgy:=am hbox;have hb5:=zqc (zqc (zqc (Below.refl w1.heap.size w1) (.cells (Array.replicate lB.length (Value.int .i64 0)) 3)) (.cells #[.slice (some ⟨w1.heap.size,0,none⟩) lB.length lB.length] 28)) (.cells #[.func (.func 112) #[] #[.pointer (some ⟨w1.heap.size + 1,0,none⟩),.pointer (some ⟨gy,0,none⟩),.pointer (some ⟨gb,0,none⟩),.pointer (some ⟨w1.heap.size + 1 + 1,0,none⟩)]] 144);have e5:=(zqe (zqh bch2.out hb5) 0).trans rfl;have S5:=hst5 (l:=l) Bgy.out bb2.out (zqp.of_below hW.out) hnl;have C5:=am (set_in w l (w1.heap.size + 1) w1.heap.size gy gb (w1.heap.size + 1 + 1) AX c0_0 n0 aA AY cB lB a0_3 aC J Jx W.heap.size hJ (n - 1) (fun pre x W1 h1_ h2_=>hY pre x W1 h1_ (hOk_lower h2_ hWs.out)) hb.size hrows (lB.map (·.f1)) [] (List.replicate lB.length 0) change [] (n - 1) _ [] rfl rfl (by simp) h0 h1 hh ⟨by simp;omega,fun z hz=>by cases hz⟩ S5 (hJ.below hj.out hb5));clear S5 hb5;clear hg hb hbox;(try clear e0 e1);have e0 : w1.cell? ⟨gb,2,none⟩ = some (.slice AY lB.length cB):=(zqe bb2.out 2).trans rfl;have e1:=cO1 bch2.out) | ((with_reducible refine gateIn (N:=9) rfl ?_);refine eventIn rfl (fun _=>trivial) ?hg ?hr ?_;(case hg=>rfl);(case hr=>exact hms _);generalize hgr : w1.heap.size = gr;(have hbox:=zkw w1 (.cells ((List.replicate lB.length (0 : Int)).map (Value.int .i64)).toArray 3 (0,0)));rw [hgr] at hbox;have hb:=zqc (Below.refl w1.heap.size w1) (.cells ((List.replicate lB.length (0 : Int)).map (Value.int .i64)).toArray 3 (0,0));generalize w1.alloc (.cells ((List.replicate lB.length (0 : Int)).map (Value.int .i64)).toArray 3 (0,0)) = w2 at hbox hb ⊢;have Sgr:=am hgr.symm;have hW2:=zq0 hW.out hW.out.size hb;have n1:=am hW2;clear hW hW2;have hW:=n1;clear n1;have n1:=(kmv hb bb2);clear bb2;have bb2:=n1;clear n1;have n1:=(kmv hb bch2);clear bch2;have bch2:=n1;clear n1;have n1:=am (hJ.below hj.out hb);clear hj;have hj:=n1;clear n1;have n1:=(kmv hb Bgy);clear Bgy;have Bgy:=n1;clear n1;have Bgr:=am hbox;clear hgr hb hbox;(try clear e0 e1);have e0 : w2.cell? ⟨gb,2,none⟩ = some (.slice AY lB.length cB):=(zqe bb2.out 2).trans rfl;have e1:=cO1 bch2.out) | ((with_reducible refine gateIn (N:=4) rfl ?_);refine boxIn rfl (fun _=>trivial) ?hg (cs:=#[.slice none 0 0]) (t:=28) ?hr ?_;(case hg=>rfl);(case hr=>go_simp;try rfl);intro gn hg w3 hbox hb;have Sgn:=am hg;have hW2:=zq0 hW.out hW.out.size hb;have n1:=am hW2;clear hW hW2;have hW:=n1;clear n1;have n1:=(kmv hb bb2);clear bb2;have bb2:=n1;clear n1;have n1:=(kmv hb bch2);clear bch2;have bch2:=n1;clear n1;have n1:=am (hJ.below hj.out hb);clear hj;have hj:=n1;clear n1;have n1:=(kmv hb Bgy);clear Bgy;have Bgy:=n1;clear n1;have n1:=(kmv hb Bgr);clear Bgr;have Bgr:=n1;clear n1;have Bgn:=am hbox;clear hg hb hbox;(try clear e0 e1);have e0 : w3.cell? ⟨gb,2,none⟩ = some (.slice AY lB.length cB):=(zqe bb2.out 2).trans rfl;have e1:=cO1 bch2.out;(try clear hcgn);have hcgn:=cO1 Bgn.out))
 refine ⟨trivial,fun h=>Bool.noConfusion h,?_⟩
 have c5:=C5.out
 rw [show (((([] : List Int).length : Nat)) : Int) = 0 from rfl] at c5
 refine c5.mono ?_
 rintro e W6 (⟨rfl,tl,xs,_,_,hxs,hj6⟩ | ⟨rfl,xs,hxs,hj6⟩)
 ·gi_wp2
  go_end0
  exact ⟨⟨_,rfl⟩,.inl ⟨xs,hxs,by simpa using hj6⟩⟩
 ·gi_wp2
  go_end0
  exact ⟨⟨_,rfl⟩,.inr ⟨xs,hxs,by simpa using hj6⟩⟩
end Go.Proofs.YtnnmnhpeblhiiaaGreatDoor.C
namespace Go.Proofs.YtnnmnhpeblhiiaaGreatDoor.C
open Go.RowKit Go.Proofs.YtnnmnhpeblhiiaaGreatDoorW.PrintWords Go.Proofs.YtnnmnhpeblhiiaaGreatDoorW.PrintLast Go.Proofs.YtnnmnhpeblhiiaaGreatDoorW.PrintMore
set_option maxHeartbeats 16000000
set_option maxRecDepth 100000
theorem ca_heights.calls (AX : Option Addr) (n0 c0_0 : Nat) (aA : Int) (AY : Option Addr) (n2 cB : Nat) (a0_3 aC a1 : Int) (w : World) :
 Calls Tryz.prog 73 #[.agg #[.slice AX n0 c0_0,.int .i64 aA,.slice AY n2 cB,.int .i64 a0_3,.int .i64 aC],.int .i64 a1] w fun e w'=>∃ gb gch : Nat,e = .returned (.func (.func 111) #[] #[.pointer (some ⟨gb,0,none⟩),.pointer (some ⟨gch,0,none⟩)])∧w'.heap[gb]? = some (.cells #[.slice AX n0 c0_0,.int .i64 aA,.slice AY n2 cB,.int .i64 a0_3,.int .i64 aC] 27 (0,0))∧w'.heap[gch]? = some (.cells #[.int .i64 a1] 3 (0,0))∧Below w.heap.size w w':=by
 have hu:=Tryz.underlying27
 have hmf : ∀ (fn : Fn) (first cap : Array Value) (w : World),(Instr.makeFunc fn first cap).run Tryz.prog w = .ok (.func fn first cap) w:=fun _ _ _ _=>rfl
 have HB:=zqk.mk (Below.refl w.heap.size w)
 go_enter Tryz.func73,Tryz.ntmps73
 go_wp2_with (first | ((with_reducible refine zqn (N:=2) rfl ?_);(try (refine zqu (by rfl) ?_;dsimp only));refine zqm ?hg (N:=2) ?hd (cs:=#[.slice AX n0 c0_0,.int .i64 aA,.slice AY n2 cB,.int .i64 a0_3,.int .i64 aC]) (t:=27) ?hr ?_;(case hd=>rfl);(case hg=>rfl);(case hr=>go_simp;try rfl);intro gb hg w1 hbox hb;have n_:=zqk.mk (zq0 HB.out HB.out.size hb);clear HB;have HB:=n_;clear n_;clear hg;have BKgb:=zqk.mk hbox;clear hbox;(try clear hczgb_0 hfzgb_0);have hczgb_0 : w1.cell? ⟨gb,0,none⟩ = some (.slice AX n0 c0_0):=(zqe BKgb.out 0).trans rfl;have hfzgb_0:=zqd BKgb.out 0;(try clear hczgb_1 hfzgb_1);have hczgb_1 : w1.cell? ⟨gb,1,none⟩ = some (.int .i64 aA):=(zqe BKgb.out 1).trans rfl;have hfzgb_1:=zqd BKgb.out 1;(try clear hczgb_2 hfzgb_2);have hczgb_2 : w1.cell? ⟨gb,2,none⟩ = some (.slice AY n2 cB):=(zqe BKgb.out 2).trans rfl;have hfzgb_2:=zqd BKgb.out 2;(try clear hczgb_3 hfzgb_3);have hczgb_3 : w1.cell? ⟨gb,3,none⟩ = some (.int .i64 a0_3):=(zqe BKgb.out 3).trans rfl;have hfzgb_3:=zqd BKgb.out 3;(try clear hczgb_4 hfzgb_4);have hczgb_4 : w1.cell? ⟨gb,4,none⟩ = some (.int .i64 aC):=(zqe BKgb.out 4).trans rfl;have hfzgb_4:=zqd BKgb.out 4;clear hb) | ((with_reducible refine zqn (N:=3) rfl ?_);(try (refine zqu (by rfl) ?_;dsimp only));refine zqm ?hg (N:=3) ?hd (cs:=#[.int .i64 a1]) (t:=3) ?hr ?_;(case hd=>rfl);(case hg=>rfl);(case hr=>go_simp;try rfl);intro gch hg w2 hbox hb;have n_:=zqk.mk (zq0 HB.out HB.out.size hb);clear HB;have HB:=n_;clear n_;have n_:=zqk.mk (zqh BKgb.out hb);clear BKgb;have BKgb:=n_;clear n_;clear hg;have BKgch:=zqk.mk hbox;clear hbox;(try clear hczgb_0 hfzgb_0);have hczgb_0 : w2.cell? ⟨gb,0,none⟩ = some (.slice AX n0 c0_0):=(zqe BKgb.out 0).trans rfl;have hfzgb_0:=zqd BKgb.out 0;(try clear hczgb_1 hfzgb_1);have hczgb_1 : w2.cell? ⟨gb,1,none⟩ = some (.int .i64 aA):=(zqe BKgb.out 1).trans rfl;have hfzgb_1:=zqd BKgb.out 1;(try clear hczgb_2 hfzgb_2);have hczgb_2 : w2.cell? ⟨gb,2,none⟩ = some (.slice AY n2 cB):=(zqe BKgb.out 2).trans rfl;have hfzgb_2:=zqd BKgb.out 2;(try clear hczgb_3 hfzgb_3);have hczgb_3 : w2.cell? ⟨gb,3,none⟩ = some (.int .i64 a0_3):=(zqe BKgb.out 3).trans rfl;have hfzgb_3:=zqd BKgb.out 3;(try clear hczgb_4 hfzgb_4);have hczgb_4 : w2.cell? ⟨gb,4,none⟩ = some (.int .i64 aC):=(zqe BKgb.out 4).trans rfl;have hfzgb_4:=zqd BKgb.out 4;(try clear hczgch_0 hfzgch_0);have hczgch_0 : w2.cell? ⟨gch,0,none⟩ = some (.int .i64 a1):=(zqe BKgch.out 0).trans rfl;have hfzgch_0:=zqd BKgch.out 0;clear hb))
 go_ret
 exact ⟨_,_,rfl,BKgb.out,BKgch.out,HB.out⟩
section
attribute [local go_sem] zwa zq9 zwf zwe
end
def fillK (n : Nat) : Nat:=50 * (n + 2) + 100
section
attribute [local go_sem] zwa zq9 zwf zwe
end
section
attribute [local go_sem] zwa zq9 zwf zwe
def ca_moved.l0 : Nat→List Int→Int→Int→List (S126)→Int→List (S48)→Int→Int→Option (Int × (List (S48)) × Int × Int)
 | 0,_,_,_,_,_,_,_,_=>none
 | k + 1,x11,x12,x13,x1080000,x1080001,x1080002,x1080003,x1080004=>if x13 < x12 then (if 0≤x13 then (if x13 < (x11.length : Int) then (if x13 < (x1080002.length : Int) then (ca_moved.l0 k x11 x12 (wrap64 (x13 + 1)) x1080000 x1080001 (x1080002.set (x13 : Int).toNat (⟨(zql x1080002 x13).f0,rd x11 x13⟩ : S48)) x1080003 x1080004) else (none)) else (none)) else (none)) else (some (x1080001,x1080002,x1080003,x1080004))
def ca_moved.f (k : Nat) (lA : List (S126)) (aA : Int) (lB : List (S48)) (a0_3 : Int) (aC : Int) (l1 : List Int) : Option (Int × (List (S48)) × Int × Int):=(sl_Clone_Z.f lB).bind fun t1081=>(ca_moved.l0 k l1 (l1.length : Int) 0 lA aA t1081 a0_3 aC)
theorem ca_moved.calls (k : Nat) (AX : Option Addr) (c0_0 : Nat) (lA : List (S126)) (aA : Int) (AY : Option Addr) (cB : Nat) (lB : List (S48)) (a0_3 : Int) (aC : Int) (A1 : Option Addr) (c1 : Nat) (l1 : List Int) (r1 : Int) (r2 : List (S48)) (r3 : Int) (r4 : Int) (w : World) (hra : Kd.C k126 w AX lA.length lA) (hc0_0 : lA.length≤c0_0) (hrb : Kd.C k48 w AY lB.length lB) (hcb : lB.length≤cB) (hr1 : Kd.C (Kd.int .i64) w A1 l1.length l1) (hc1 : l1.length≤c1) (h : ca_moved.f k lA aA lB a0_3 aC l1 = some (r1,r2,r3,r4)) :
 Calls Tryz.prog 70 #[.agg #[.slice AX lA.length c0_0,.int .i64 aA,.slice AY lB.length cB,.int .i64 a0_3,.int .i64 aC],.slice A1 l1.length c1] w fun e w'=>∃ v1_ : Value,e = .returned (.agg #[.slice AX lA.length c0_0,.int .i64 r1,v1_,.int .i64 r3,.int .i64 r4])∧Kd.R k48 48 w' w.heap.size (fun _=>True) v1_ r2∧Below w.heap.size w w':=by
 have hu27:=Tryz.underlying27
 have HRA:=am hra
 have HCA:=am hc0_0
 clear hra hc0_0
 have HRB:=am hrb
 have HCB:=am hcb
 clear hrb hcb
 have HR1:=am hr1
 have HC1:=am hc1
 clear hr1 hc1
 have HB:=am (Below.refl w.heap.size w)
 have H : ((sl_Clone_Z.f lB).bind fun t1081=>(ca_moved.l0 k l1 (l1.length : Int) 0 lA aA t1081 a0_3 aC)) = some (r1,r2,r3,r4):=h
 clear h
 replace H:=obm H
 obtain ⟨t1081,A30,H⟩:=H
 replace H : (ca_moved.l0 k l1 (l1.length : Int) 0 lA aA t1081 a0_3 aC) = some (r1,r2,r3,r4):=H
 have A3:=am A30
 clear A30
 replace H':=am H
 go_enter Tryz.func70,Tryz.ntmps70
 go_wp2_with (first | ((refine zqn (N:=2) rfl ?_);refine zqm rfl (N:=2) rfl (cs:=#[.slice AX lA.length c0_0,.int .i64 aA,.slice AY lB.length cB,.int .i64 a0_3,.int .i64 aC]) (t:=27) ?hr ?_;(case hr=>go_simp;try rfl);intro gb1079 hg w4 hbox hb;have BK1079:=am (hbox);have GW1079:=am (zqq (HB.out) hg);have GE1079:=am (zqq (HB.out) hg);replace HB:=am (zqb (HB.out) hb);clear hb hbox hg) | ((refine zqn (N:=4) rfl ?_);refine zqm rfl (N:=4) rfl (cs:=#[.slice none 0 0,.int .i64 0,.slice none 0 0,.int .i64 0,.int .i64 0]) (t:=27) ?hr ?_;(case hr=>go_simp;try rfl);intro gb1080 hg w5 hbox hb;have BK1080:=am (hbox);have GW1080:=am (zqq (HB.out) hg);have GE1080:=am (zqq (HB.out) hg);have NB1079_1080:=am (zv9 BK1079.out hg);have NB1080_1079:=am (zvj BK1079.out hg);replace BK1079:=(kmv hb BK1079);replace HB:=am (zqb (HB.out) hb);clear hb hbox hg;have hnb6:=NB1079_1080.out;have hnc6:=NB1080_1079.out;obtain ⟨hcz7_0,hcz7_1,hcz7_2,hcz7_3,hcz7_4⟩:=cO5 BK1079.out;have hfz7_0:=zqd BK1079.out 0;have hfz7_1:=zqd BK1079.out 1;have hfz7_2:=zqd BK1079.out 2;have hfz7_3:=zqd BK1079.out 3;have hfz7_4:=zqd BK1079.out 4) | ((with_reducible refine zqo (f:=107) rfl ?_);refine zq3 (some 9) rfl rfl Tryz.func107 (by kernel_rfl) rfl #[.slice AY lB.length cB] rfl (by (try simp only [List.map_toArray,List.map_cons,List.map_nil]);first | done | rfl | (simp only [List.length_drop,List.length_take];rfl)) ?_;(refine (sl_Clone_Z.calls _ _ lB t1081 _ ?side1 ?side2 A3.out).mono ?_);(case side1=>exact kC HRB.out HB.out);(case side2=>exact HCB.out);rintro e w8 ⟨v1082,rfl,ho0,hb⟩;refine ⟨_,rfl,?_⟩;have HO1083:=am (Kd.R_lower ho0 (zqr (HB.out)));replace BK1079:=(kmv hb BK1079);replace BK1080:=(kmv hb BK1080);replace HB:=am (zqb (HB.out) hb);(try clear hb);(try clear hb2);(try clear hk);(try clear hi);(try clear ho0);obtain ⟨Ao9,co9,eo9⟩:=Kd.R_slice HO1083.out;subst eo9;obtain ⟨hcz10_0,hcz10_1,hcz10_2,hcz10_3,hcz10_4⟩:=cO5 BK1079.out;have hfz10_0:=zqd BK1079.out 0;have hfz10_1:=zqd BK1079.out 1;have hfz10_2:=zqd BK1079.out 2;have hfz10_3:=zqd BK1079.out 3;have hfz10_4:=zqd BK1079.out 4))
 go_loopg [13] k (fun kq v13 w'=>∃ (x13_1 : Int) (x1080002_1 : List (S48)) (u1080002 : Value),v13 = .int .i64 x13_1∧zqk (ca_moved.l0 kq l1 (l1.length : Int) x13_1 lA aA x1080002_1 a0_3 aC = some (r1,r2,r3,r4))∧zqk (kq≤k)∧zqk (Kd.R k48 48 w' w.heap.size (fun _=>True) u1080002 x1080002_1)∧zqk (w'.heap[gb1079]? = some (.cells #[(.slice AX lA.length c0_0),.int .i64 aA,u1080002,.int .i64 a0_3,.int .i64 aC] 27 (0,0)))∧zqk (w'.heap[gb1080]? = some (.cells #[(.slice none 0 0),.int .i64 0,(.slice none 0 0),.int .i64 0,.int .i64 0] 27 (0,0)))∧zqk (Below w.heap.size w w'))
 case atStart=>exact ⟨(0),(t1081),(.slice Ao9 t1081.length co9),(by first | rfl | (simp;done) | (simp [*];done)),H',⟨Nat.le_refl _⟩,⟨by (with_reducible repeat (first | apply Kd.R_alloc | apply Kd.R_drewN | apply Kd.R_drew));exact Kd.R_mono (Kd.R_far (p:=⟨gb1079,2,none⟩) (Kd.R_types HO1083.out BK1079.out (by decide)) (fun _ hk=>hk.2) (.slice Ao9 t1081.length co9)) (fun _ hk=>trivial)⟩,⟨(zq5 (cs:=#[.slice AX lA.length c0_0,.int .i64 aA,.slice AY lB.length cB,.int .i64 a0_3,.int .i64 aC]) BK1079.out 2 _ rfl)⟩,⟨(zq4 BK1080.out NB1080_1079.out _)⟩,⟨by repeat (first | (with_reducible first | exact HB.out | refine zqf ?_ (zqk.out (by assumption)) | apply zqc | apply zqa) | exact HB.out)⟩⟩
 case round =>
  clear H'
  obtain ⟨x13_1,x1080002_1,u1080002,rfl,HA,HK1,HO_1080002,BK1079,BK1080,HB⟩:=hrel
  cases gk with
  | zero=>exact absurd HA.out (by simp [ca_moved.l0])
  | succ k1 =>
   have H:=HA.out
   clear HA
   simp only [ca_moved.l0] at H
   by_cases c11 : x13_1 < (l1.length : Int)
   case neg =>
    rw [if_neg c11] at H
    have c11b0 : decide (x13_1 < (l1.length : Int)) = false:=decide_eq_false c11
    clear c11
    simp only [Option.some.injEq,Prod.mk.injEq] at H
    obtain ⟨rfl,rfl,rfl,rfl⟩:=H
    have hnb20:=NB1079_1080.out
    have hnc20:=NB1080_1079.out
    obtain ⟨hcz21_0,hcz21_1,hcz21_2,hcz21_3,hcz21_4⟩:=cO5 BK1079.out
    have hfz21_0:=zqd BK1079.out 0
    have hfz21_1:=zqd BK1079.out 1
    have hfz21_2:=zqd BK1079.out 2
    have hfz21_3:=zqd BK1079.out 3
    have hfz21_4:=zqd BK1079.out 4
    obtain ⟨hcz22_0,hcz22_1,hcz22_2,hcz22_3,hcz22_4⟩:=cO5 BK1080.out
    have hfz22_0:=zqd BK1080.out 0
    have hfz22_1:=zqd BK1080.out 1
    have hfz22_2:=zqd BK1080.out 2
    have hfz22_3:=zqd BK1080.out 3
    have hfz22_4:=zqd BK1080.out 4
    obtain ⟨Ao23,co23,eo23⟩:=Kd.R_slice HO_1080002.out
    subst eo23
    go_wp2
    refine bodyPost_ret (results_cell_row rfl _ _ gb1080 27 #[.slice AX lA.length c0_0,.int .i64 aA,.slice Ao23 x1080002_1.length co23,.int .i64 a0_3,.int .i64 aC] (0,0) _ rfl (zq5 (cs:=#[.slice AX lA.length c0_0,.int .i64 aA,.slice Ao23 x1080002_1.length co23,.int .i64 a0_3,.int .i64 0]) (zq5 (cs:=#[.slice AX lA.length c0_0,.int .i64 aA,.slice Ao23 x1080002_1.length co23,.int .i64 0,.int .i64 0]) (zq5 (cs:=#[.slice AX lA.length c0_0,.int .i64 aA,.slice none 0 0,.int .i64 0,.int .i64 0]) (zq5 (cs:=#[.slice AX lA.length c0_0,.int .i64 0,.slice none 0 0,.int .i64 0,.int .i64 0]) (zq5 (cs:=#[.slice none 0 0,.int .i64 0,.slice none 0 0,.int .i64 0,.int .i64 0]) BK1080.out 0 _ rfl) 1 _ rfl) 2 _ rfl) 3 _ rfl) 4 _ rfl) Tryz.underlying27 rfl (by kernel_rfl)) rfl ?_
    exact ⟨_,by first | rfl | (simp [*]<;>rfl),by (with_reducible repeat (first | apply Kd.R_alloc | apply Kd.R_drewN | apply Kd.R_drew));exact Kd.R_mono (Kd.R_far (p:=⟨gb1080,4,none⟩) (Kd.R_far (p:=⟨gb1080,3,none⟩) (Kd.R_far (p:=⟨gb1080,2,none⟩) (Kd.R_far (p:=⟨gb1080,1,none⟩) (Kd.R_far (p:=⟨gb1080,0,none⟩) (Kd.R_types HO_1080002.out BK1080.out (by decide)) (fun _ hk=>hk.2) (.slice AX lA.length c0_0)) (fun _ hk=>hk.2) (.int .i64 aA)) (fun _ hk=>hk.2) (.slice Ao23 x1080002_1.length co23)) (fun _ hk=>hk.2) (.int .i64 a0_3)) (fun _ hk=>hk.2) (.int .i64 aC)) (fun _ hk=>trivial),by repeat (first | (with_reducible first | exact HB.out | refine zqf ?_ (zqk.out (by assumption)) | apply zqc | apply zqa) | exact HB.out)⟩
   rw [if_pos c11] at H
   have c11b0 : decide (x13_1 < (l1.length : Int)) = true:=decide_eq_true c11
   clear c11
   by_cases c12 : 0≤x13_1
   case neg =>
    rw [if_neg c12] at H
    exact absurd H (by simp)
   rw [if_pos c12] at H
   have c12b0 : decide (0≤x13_1) = true:=decide_eq_true c12
   clear c12
   by_cases c13 : x13_1 < (l1.length : Int)
   case neg =>
    rw [if_neg c13] at H
    exact absurd H (by simp)
   rw [if_pos c13] at H
   have c13b0 : decide (x13_1 < (l1.length : Int)) = true:=decide_eq_true c13
   clear c13
   by_cases c14 : x13_1 < (x1080002_1.length : Int)
   case neg =>
    rw [if_neg c14] at H
    exact absurd H (by simp)
   rw [if_pos c14] at H
   have c14b0 : decide (x13_1 < (x1080002_1.length : Int)) = true:=decide_eq_true c14
   clear c14
   obtain ⟨y1085,hy1085⟩ : ∃ y_ : List (S48),y_ = (x1080002_1.set (x13_1 : Int).toNat (⟨(zql x1080002_1 x13_1).f0,rd l1 x13_1⟩ : S48)):=⟨_,rfl⟩
   replace H : (ca_moved.l0 k1 l1 (l1.length : Int) (wrap64 (x13_1 + 1)) lA aA y1085 a0_3 aC) = some (r1,r2,r3,r4):=by first | (rw [hy1085];with_reducible exact H) | (have H2_:=(Option.bind_some _ _).symm.trans H;rw [hy1085];with_reducible exact H2_) | (have H2_:=(Option.bind_some _ _).symm.trans H;with_reducible exact H2_) | with_reducible exact H | (rw [hy1085];exact H) | exact H
   have Ny1085:=am hy1085
   clear hy1085
   replace H':=am H
   have p1084 : 0≤(x13_1 : Int):=of_decide_eq_true (by assumption)
   have q1084 : x13_1 < (l1.length : Int):=of_decide_eq_true (by assumption)
   obtain ⟨ad1084,e1084,hx1084_0⟩:=Kd.at_int HR1.out x13_1 p1084 q1084
   cases e1084
   replace hx1084_0:=(HB.out.cell (wbl hx1084_0)).trans hx1084_0
   replace p1084:=eq_true p1084
   replace q1084:=eq_true q1084
   have hnb16:=NB1079_1080.out
   have hnc16:=NB1080_1079.out
   obtain ⟨hcz17_0,hcz17_1,hcz17_2,hcz17_3,hcz17_4⟩:=cO5 BK1079.out
   have hfz17_0:=zqd BK1079.out 0
   have hfz17_1:=zqd BK1079.out 1
   have hfz17_2:=zqd BK1079.out 2
   have hfz17_3:=zqd BK1079.out 3
   have hfz17_4:=zqd BK1079.out 4
   have p15 : 0≤(x13_1 : Int):=of_decide_eq_true (by assumption)
   have q15 : (x13_1 : Int) < ((x1080002_1.length : Int) : Int):=of_decide_eq_true (by assumption)
   obtain ⟨go15,co15,eo15,gb15,gl15,cl15,HG15⟩:=Kd.R_form HO_1080002.out (by omega)
   (first | cases eo15 | (injection eo15 with ea_ en_ ec_;(first | subst ea_ | (injection ea_ with ea_;subst ea_));subst ec_;clear en_))
   have GB15:=am gb15
   have GG15:=am HG15
   clear gb15 gl15 HG15
   obtain ⟨ce15,hcl15,hM15,hcc15,hfr15⟩:=Kd.R_elem HO_1080002.out z48 (x13_1 : Int) p15 q15
   obtain rfl:=zjc hM15
   have hx15_0 : wr.cell? ⟨go15,(x13_1 : Int).toNat * 2,none⟩ = some (.int .i64 ((zql x1080002_1 x13_1).f0)):=hcc15 0 _ rfl
   have hx15_1 : wr.cell? ⟨go15,(x13_1 : Int).toNat * 2 + 1,none⟩ = some (.int .i64 ((zql x1080002_1 x13_1).f1)):=hcc15 1 _ rfl
   have hf15_0 : wr.frozen? ⟨go15,(x13_1 : Int).toNat * 2,none⟩ = false:=hfr15 0
   have hf15_1 : wr.frozen? ⟨go15,(x13_1 : Int).toNat * 2 + 1,none⟩ = false:=hfr15 1
   clear hcl15 hcc15 hfr15 hM15
   replace p15:=eq_true p15
   replace q15:=eq_true q15
   have HX18:=am (show Kd.R k48 48 wr w.heap.size (fun _=>True) (.slice (some ⟨go15,0,none⟩) x1080002_1.length co15) x1080002_1 from HO_1080002.out)
   obtain ⟨ce18,hcl18,hM18,hcc18,hfr18⟩:=Kd.R_elem HX18.out z48 (x13_1 : Int) (of_decide_eq_true (by assumption)) (by have h_ : (x13_1 : Int) < ((x1080002_1.length : Int) : Int):=of_decide_eq_true (by assumption);first | exact h_ | (have e_:=(Kd.R_reads' HO_1080002.out).1;omega) | simpa using h_)
   obtain rfl:=zjc hM18
   have HP18:=Kd.R_seg HX18.out (x13_1 : Int) (of_decide_eq_true (by assumption)) (by have h_ : (x13_1 : Int) < ((x1080002_1.length : Int) : Int):=of_decide_eq_true (by assumption);first | exact h_ | (have e_:=(Kd.R_reads' HO_1080002.out).1;omega) | simpa using h_) (seg:=[.int .i64 (rd l1 x13_1)]) (j:=1) hcl18 hcc18 (show 2≤2 from by decide) (x':=(⟨(zql x1080002_1 x13_1).f0,rd l1 x13_1⟩ : S48)) (k48_mkM _ _ _ (⟨(zql x1080002_1 x13_1).f0,rd l1 x13_1⟩ : S48) ) (fun _ hk=>hk)
   have hx18_1:=hcc18 1 _ rfl
   (try simp only [show (k48).sz = 2 from rfl,Nat.mul_one,Nat.add_zero] at hx18_1)
   have hf18_1:=hfr18 1
   (try simp only [show (k48).sz = 2 from rfl,Nat.mul_one,Nat.add_zero] at hf18_1)
   clear hcl18 hcc18 hfr18 hM18
   go_wp2_with (first | ((with_reducible refine zxb (t:=3) (p:=23) rfl ?_);refine zvt (t:=3) (p:=23) (v:=?vo_w19) (w1:=(wr.setCell ⟨go15,(x13_1 : Int).toNat * 2 + 1,none⟩ (.int .i64 (rd l1 x13_1)))) ?hg ?ho ?hn ?hr ?_;(case ho=>rfl);(case hg=>rfl);(case hn=>rfl);(case hr=>go_simp;try rfl);intro w19 hw;have hg : wr.grownBy w19 (some go15):=(by rw [hw];exact HP18.2);have hp_ : Kd.R k48 48 w19 w.heap.size (fun _=>True) (.slice (some ⟨go15,0,none⟩) x1080002_1.length co15) y1085:=(by rw [hw,Ny1085.out];exact HP18.1);clear HP18;have n0_:=am (hp_);have n1_:=am (zq2 (g:=gb1079) (o:=.cells #[.slice AX lA.length c0_0,.int .i64 aA,.slice (some ⟨go15,0,none⟩) x1080002_1.length co15,.int .i64 a0_3,.int .i64 aC] 27 (0,0)) BK1079.out hg (Kd.R_ne HO_1080002.out BK1079.out (by decide)));have n2_:=am (zq2 (g:=gb1080) (o:=.cells #[.slice none 0 0,.int .i64 0,.slice none 0 0,.int .i64 0,.int .i64 0] 27 (0,0)) BK1080.out hg (Kd.R_ne HO_1080002.out BK1080.out (by decide)));have n3_:=am ((by rw [hw];exact zqf (HB.out) GB15.out : Below w.heap.size w w19));clear HO_1080002;clear BK1079;clear BK1080;clear HB;have HO_1080002:=n0_;have BK1079:=n1_;have BK1080:=n2_;have HB:=n3_;clear n0_ n1_ n2_ n3_;clear hg hw hp_))
   go_roundg k1
   case measure=>have:=HK1.out;omega
   case rel=>exact ⟨(wrap64 (x13_1 + 1)),(y1085),(.slice (some ⟨go15,0,none⟩) x1080002_1.length co15),(by first | rfl | (simp;done) | (simp [*];done)),H',⟨by have:=HK1.out;omega⟩,⟨by (with_reducible repeat (first | apply Kd.R_alloc | apply Kd.R_drewN | apply Kd.R_drew));exact HO_1080002.out⟩,⟨BK1079.out⟩,⟨BK1080.out⟩,⟨HB.out⟩⟩
end
end Go.Proofs.YtnnmnhpeblhiiaaGreatDoor.C

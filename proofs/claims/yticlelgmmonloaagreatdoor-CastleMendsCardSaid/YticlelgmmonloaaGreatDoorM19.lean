/- A part of the proof: the walks of the functions that it reaches. TIGHT. -/
import Derived.Test.YticlelgmmonloaaGreatDoorM18
import Derived.Shelf.Abstract
import Derived.WalkKit
import Derived.OwnWalkIn
import Derived.TacticsInMore
import Derived.LoopNIn
import Derived.LoopIn
import Derived.Shelf.RegionOpen
import Derived.Laws.MakeOwn
import Derived.Laws.EntriesVeiled
import Derived.Tactics2
import Derived.Defers
import Derived.Recover
import Derived.Laws.Pointers
import Derived.Lib.Hide
set_option linter.unusedVariables false
set_option linter.unusedSimpArgs false
namespace Go.Proofs.YticlelgmmonloaaGreatDoor.C
open Go Go.RowKit Go.Shelf Go.Proofs.YticlelgmmonloaaGreatDoorW.PrintWords Go.Proofs.YticlelgmmonloaaGreatDoorW.PrintLast Go.Proofs.YticlelgmmonloaaGreatDoorW.PrintMore
set_option linter.unusedVariables false
set_option linter.unusedSimpArgs false
set_option maxHeartbeats 16000000
set_option maxRecDepth 100000
section
attribute [local go_sem] Oper.semAt_some
abbrev HX := List Int × Option Addr × Nat
def hEnc (x : HX) : Array Value := #[.slice x.2.1 x.1.length x.2.2]
def hOk (B nz : Nat) (x : HX) (W : World) : Prop := (x.1.length = nz ∧ ∀ z ∈ x.1,0 ≤ z ∧ z ≤ 40) ∧ x.1.length ≤ x.2.2 ∧ Kd.C (Kd.int .i64) W x.2.1 x.1.length x.1 ∧ Kd.R (Kd.int .i64) 3 W B (fun _ => True) (.slice x.2.1 x.1.length x.2.2) x.1
theorem hOk_lower {B B' nz : Nat} {x : HX} {W : World} (h : hOk B nz x W) (hb : B' ≤ B) : hOk B' nz x W := ⟨h.1,h.2.1,h.2.2.1,Kd.R_lower h.2.2.2 hb⟩
theorem R_keepI {W W' : World} {B : Nat} {v : Value} {l : List Int} (h : Kd.R (Kd.int .i64) 3 W B (fun _ => True) v l) (hk : ∀ (k : Nat) (cells : Array Value),W.heap[k]? = some (Obj.cells cells 3 (0,0)) → W'.heap[k]? = some (Obj.cells cells 3 (0,0))) : Kd.R (Kd.int .i64) 3 W' B (fun _ => True) v l := by
 refine Kd.R_mono (Kd.R_move (Kd.R_bound h) ?_) (fun _ _ => trivial)
 rintro k ⟨_,_,_,q,hq,cells,hc⟩
 have : q = 3 := by simpa [Kd.int,Kd.scalar] using hq
 subst this
 rw [hk k cells hc,hc]
theorem grown_of_belowN {A B : World} (h : Below A.heap.size A B) : A.grownBy B none := ⟨h.os,h.tape,h.output,h.size,fun k hk _ => h.block k hk⟩
theorem AbidesC.below {β : Type} {B : Nat} {I : β → World → Prop} (h : AbidesC B I) {s : β} {W W' : World} (hs : I s W) (hb : Below W.heap.size W W') : I s W' := h s W W' none hs (grown_of_belowN hb) (fun r e => by cases e)
theorem hAnyRound {F : Fence} (hd : F.depth = none) {m m' : Nat} {P : Program} {l : Nat} {f : FuncId} {tmps : Array Value} {assign body : Code} {w : World} {R : Ending → World → Prop} (h : RoundIn F m P l f tmps assign body w R) : RoundIn F m' P l f tmps assign body w R := ⟨h.1,fun c cs _ => h.2 c cs (fun d h2 => by rw [hd] at h2;cases h2)⟩
theorem hAny {F : Fence} (hd : F.depth = none) {m : Nat} (m' : Nat) {P : Program} {l : Nat} {args : Array Value} {W : World} {R : Ending → World → Prop} (h : YieldAt F m P l args W R) : YieldAt F m' P l args W R := by
 obtain ⟨fn,tmps,assign,body,hy,hR⟩ := h
 exact ⟨fn,tmps,assign,body,hy,hAnyRound hd hR⟩
structure HSt (W w0 : World) (l gn gr gy gb gs : Nat) (A0_0 : Option Addr) (c0_0 : Nat) (n0 : Nat) (a0_1 : Int) (A0_2 : Option Addr) (c0_2 : Nat) (l0_2 : List S64) (a0_3 a0_4 : Int) (now : List Int) : Prop where
 bn : W.heap[gn]? = some (.cells #[.slice (some ⟨gr,0,none⟩) now.length now.length] 30 (0,0))
 br : W.heap[gr]? = some (.cells (now.map (Value.int .i64)).toArray 3 (0,0))
 by_ : W.heap[gy]? = some (.cells #[.func (.yield l) #[] #[]] 109 (0,0))
 bb : W.heap[gb]? = some (.cells #[.slice A0_0 n0 c0_0,.int .i64 a0_1,.slice A0_2 l0_2.length c0_2,.int .i64 a0_3,.int .i64 a0_4] 27 (0,0))
 bs : W.heap[gs]? = some (.cells #[.func (.func 106) #[] #[.pointer (some ⟨gn,0,none⟩),.pointer (some ⟨gy,0,none⟩),.pointer (some ⟨gb,0,none⟩),.pointer (some ⟨gs,0,none⟩)]] 140 (0,0))
 old : KeepsCells w0 W
 gr0 : w0.heap.size ≤ gr
 cap : now.length ≤ 9223372036854775807
theorem obj_ne {W : World} {a b : Nat} {x y : Array Value} {s t : Nat} (ha : W.heap[a]? = some (.cells x s (0,0))) (hb : W.heap[b]? = some (.cells y t (0,0))) (h : s ≠ t) : a ≠ b := fun e => by subst e;rw [ha] at hb;injection hb with hb;injection hb with _ h2 _;exact h h2
theorem keeps_cell {W W' : World} (hk : KeepsCells W W') {a : Addr} {v : Value} (h : W.cell? a = some v) : W'.cell? a = some v := by
 obtain ⟨o,ho,hc⟩ := cells_of_cell h
 have h2 := hk.same _ _ ho hc
 unfold World.cell? at h ⊢
 rw [h2]
 rw [ho] at h
 exact h
theorem keeps_C {α : Type} {d : Kd α} (hd : ∀ {W W' : World} {x : α} {cs : List Value},d.K W x cs → d.K W' x cs) {W W' : World} (hk : KeepsCells W W') {A : Option Addr} {n : Nat} {xs : List α} (h : d.C W A n xs) : d.C W' A n xs :=
 ⟨h.1,h.2.1,fun hn => by obtain ⟨ad,e,hc⟩ := h.2.2 hn;exact ⟨ad,e,fun j p hj => by obtain ⟨c,hl,hK,hcc⟩ := hc j p hj;exact ⟨c,hl,hd hK,fun i u hu => keeps_cell hk (hcc i u hu)⟩⟩⟩
theorem KeepsCells.set_ {w0 W : World} (hk : KeepsCells w0 W) {g : Nat} (hg : w0.heap.size ≤ g) (i : Nat) (v : Value) : KeepsCells w0 (W.setCell ⟨g,i,none⟩ v) := by
 have hb := (Below.refl w0.heap.size W).setCell (p := ⟨g,i,none⟩) hg v
 exact ⟨hb.os.trans hk.os,hb.tape.trans hk.tape,hb.output.trans hk.output,Nat.le_trans hk.size hb.size,fun k o ho hc => (hb.block k (Array.getElem?_eq_some_iff.1 ho).1).trans (hk.same k o ho hc)⟩
theorem HSt.keeps {w0 : World} {l gn gr gy gb gs : Nat} {A0_0 : Option Addr} {c0_0 n0 : Nat} {a0_1 : Int} {A0_2 : Option Addr} {c0_2 : Nat} {l0_2 : List S64} {a0_3 a0_4 : Int} {now : List Int} {W W' : World} (st : HSt W w0 l gn gr gy gb gs A0_0 c0_0 n0 a0_1 A0_2 c0_2 l0_2 a0_3 a0_4 now) (hk : KeepsCells W W') : HSt W' w0 l gn gr gy gb gs A0_0 c0_0 n0 a0_1 A0_2 c0_2 l0_2 a0_3 a0_4 now :=
 ⟨hk.same _ _ st.bn rfl,hk.same _ _ st.br rfl,hk.same _ _ st.by_ rfl,hk.same _ _ st.bb rfl,hk.same _ _ st.bs rfl,st.old.trans hk,st.gr0,st.cap⟩
theorem HSt.store {w0 : World} {l gn gr gy gb gs : Nat} {A0_0 : Option Addr} {c0_0 n0 : Nat} {a0_1 : Int} {A0_2 : Option Addr} {c0_2 : Nat} {l0_2 : List S64} {a0_3 a0_4 : Int} {now : List Int} {W : World} (st : HSt W w0 l gn gr gy gb gs A0_0 c0_0 n0 a0_1 A0_2 c0_2 l0_2 a0_3 a0_4 now) (i : Nat) (h : Int) : HSt (W.setCell ⟨gr,i,none⟩ (.int .i64 h)) w0 l gn gr gy gb gs A0_0 c0_0 n0 a0_1 A0_2 c0_2 l0_2 a0_3 a0_4 (now.set i h) :=
 ⟨by rw [List.length_set];exact obj_far (p := ⟨gr,i,none⟩) st.bn (obj_ne st.bn st.br (by decide)) _,by refine (blk_set st.br i _).trans ?_;simp [List.map_set],obj_far (p := ⟨gr,i,none⟩) st.by_ (obj_ne st.by_ st.br (by decide)) _,obj_far (p := ⟨gr,i,none⟩) st.bb (obj_ne st.bb st.br (by decide)) _,obj_far (p := ⟨gr,i,none⟩) st.bs (obj_ne st.bs st.br (by decide)) _,
  KeepsCells.set_ st.old st.gr0 i _,st.gr0,by rw [List.length_set];exact st.cap⟩
theorem set_end_no (w0 : World) (l gn gr gy gb gs : Nat) (A0_0 : Option Addr) (c0_0 n0 : Nat) (a0_1 : Int) (A0_2 : Option Addr) (c0_2 : Nat) (l0_2 : List S64) (a0_3 a0_4 : Int) (now : List Int) (left : Int) (hl : 0 < left) (n : Nat) (W : World) (st : HSt W w0 l gn gr gy gb gs A0_0 c0_0 n0 a0_1 A0_2 c0_2 l0_2 a0_3 a0_4 now) :
 CallsIn Fence.wide n Tryz.prog 106 #[.int .i64 now.length,.int .i64 left,.pointer (some ⟨gn,0,none⟩),.pointer (some ⟨gy,0,none⟩),.pointer (some ⟨gb,0,none⟩),.pointer (some ⟨gs,0,none⟩)] W fun e W' => e = .returned (.bool true) ∧ Below W.heap.size W W' := by
 have hd0 : decide (0 < left) = true := decide_eq_true hl
 have hcap := st.cap
 have c0 := (blk_cell st.bn 0).trans rfl
 refine callsIn_of_wp Tryz.func106 rfl trivial ?_ rfl
 simp only [Tryz.ntmps106,List.size_toArray,List.length_cons,List.length_nil,Nat.reduceAdd,Nat.reduceSub,Array.replicate_succ,Array.replicate_zero,List.push_toArray,List.append_toArray,List.nil_append,List.cons_append]
 have c1 := (blk_cell st.by_ 0).trans rfl
 gi_wp2
 gi_region_with (first | refine ⟨trivial,?_⟩ | refine ⟨fun _ _ => trivial,?_⟩)
 all_goals gi_wp2
 all_goals go_ret
 all_goals exact ⟨rfl,(by repeat (first | exact Below.refl _ _ | apply pw_below_drewN | apply below_drew1))⟩
theorem oneWay {e : Ending} {A1 A2 B1 : Prop} (h : (e = .returned (.bool true) ∧ A1 ∧ A2) ∨ (e = .returned (.bool false) ∧ B1)) : ∃ bb,e = .returned (.bool bb) ∧ (match bb with | true => A1 ∧ A2 | false => B1) := h.elim (fun ⟨a,b⟩ => ⟨true,a,b⟩) (fun ⟨a,b⟩ => ⟨false,a,b⟩)
theorem rowC {W : World} {gr : Nat} {now : List Int} (hb : W.heap[gr]? = some (.cells (now.map (Value.int .i64)).toArray 3 (0,0))) (hc : now.length ≤ 9223372036854775807) : (Kd.int .i64).C W (some ⟨gr,0,none⟩) now.length now := by
 refine ⟨rfl,hc,fun hn => ⟨_,rfl,fun j p hj => ⟨[.int .i64 p],rfl,rfl,?_⟩⟩⟩
 intro i u hu
 cases i with
 | succ i => simp at hu
 | zero =>
  have hu : Value.int .i64 p = u := by simpa using hu
  subst hu
  have ha : (Addr.add ⟨gr,0,none⟩ (j * (Kd.int .i64).sz + 0)) = ⟨gr,j,none⟩ := by
   show Addr.add ⟨gr,0,none⟩ (j * 1 + 0) = _
   simp [Addr.add]
   try (intro h;omega)
  rw [ha]
  refine (blk_cell hb j).trans ?_
  simp [hj]
theorem set_end_yes (w0 : World) (l gn gr gy gb gs : Nat) (A0_0 : Option Addr) (c0_0 n0 : Nat) (a0_1 : Int) (A0_2 : Option Addr) (c0_2 : Nat) (l0_2 : List S64) (a0_3 a0_4 : Int) (J Jx : List HX → World → Prop) (Bd : Nat) (hJ : AbidesC Bd J) (m : Nat) (hY : ∀ pre x W1,J pre W1 → hOk Bd l0_2.length x W1 → YieldAt Fence.wide m Tryz.prog l (hEnc x) W1 fun e W' => (e = .returned (.bool true) ∧ J (pre ++ [x]) W' ∧ KeepsCells W1 W') ∨ (e = .returned (.bool false) ∧ Jx (pre ++ [x]) W'))
 (hgr : Bd ≤ gr) (now : List Int) (left : Int) (hl : ¬ 0 < left) (hnl : now.length < 17592186044416) (hP : now.length = l0_2.length ∧ ∀ z ∈ now,0 ≤ z ∧ z ≤ 40) (n : Nat) (pre : List HX) (W : World) (st : HSt W w0 l gn gr gy gb gs A0_0 c0_0 n0 a0_1 A0_2 c0_2 l0_2 a0_3 a0_4 now) (hj : J pre W) :
 CallsIn Fence.wide n Tryz.prog 106 #[.int .i64 now.length,.int .i64 left,.pointer (some ⟨gn,0,none⟩),.pointer (some ⟨gy,0,none⟩),.pointer (some ⟨gb,0,none⟩),.pointer (some ⟨gs,0,none⟩)] W fun e W' => (e = .returned (.bool true) ∧ KeepsCells W W' ∧ ∃ x : HX,x.1 = now ∧ J (pre ++ [x]) W') ∨ (e = .returned (.bool false) ∧ ∃ x : HX,x.1 = now ∧ Jx (pre ++ [x]) W') := by
 have HP := am hP
 clear hP
 have hd0 : decide (0 < left) = false := decide_eq_false hl
 have hcap := st.cap
 have c0 := (blk_cell st.bn 0).trans rfl
 have c1 := (blk_cell st.by_ 0).trans rfl
 have HD := am (below_drew (Below.refl W.heap.size W))
 have HC := am (sl_Clone_int.calls (some ⟨gr,0,none⟩) now.length now now W.drew (kC (rowC st.br st.cap) HD.out) (Nat.le_refl _) (if_pos hnl))
 have HJ1 := am (hJ.below hj HD.out)
 have HGR := am (show Bd ≤ W.drew.heap.size from Nat.le_trans hgr (Nat.le_of_lt (Array.getElem?_eq_some_iff.1 st.br).1))
 refine callsIn_of_wp Tryz.func106 rfl trivial ?_ rfl
 simp only [Tryz.ntmps106,List.size_toArray,List.length_cons,List.length_nil,Nat.reduceAdd,Nat.reduceSub,Array.replicate_succ,Array.replicate_zero,List.push_toArray,List.append_toArray,List.nil_append,List.cons_append]
 gi_wp2
 gi_region_with (first | (refine ⟨trivial,fun h => Bool.noConfusion h,?_⟩;refine (callsIn_wide.2 HC.out).mono ?_;rintro e w1 ⟨v1,rfl,hr,hb⟩;obtain ⟨Ax,cx,rfl,hlx,hcx⟩ := Kd.R_reads hr;have hy1 := hY pre (now,Ax,cx) w1 (hJ.below HJ1.out hb) ⟨HP.out,hlx,hcx,Kd.R_lower hr HGR.out⟩;obtain ⟨fn,tmps,assign,body,hy,hR⟩ := hAny rfl (n - 1) hy1;dsimp only [hEnc] at hy;have c2 : w1.cell? ⟨gy,0,none⟩ = some (.func (.yield l) #[] #[]) := (blk_cell (blk_below (blk_drew st.by_) hb) 0).trans rfl) | (refine hR.mono ?_;intro e W2 hh;obtain ⟨bb,rfl,hres⟩ := oneWay hh) | (refine ⟨fun _ _ => trivial,fun h => Bool.noConfusion h,?_⟩;refine hR.mono ?_;intro e W2 hh;obtain ⟨bb,rfl,hres⟩ := oneWay hh) | (refine ⟨fun h => Bool.noConfusion h,?_⟩;refine hR.mono ?_;intro e W2 hh;obtain ⟨bb,rfl,hres⟩ := oneWay hh))
 all_goals gi_wp2
 all_goals go_ret
 all_goals (cases bb with | false => exact .inr ⟨rfl,_,rfl,hres⟩ | true => exact .inl ⟨rfl,((KeepsCells.of_below HD.out).trans (KeepsCells.of_below hb)).trans hres.2,_,rfl,hres.1⟩)
end
section
attribute [local go_sem] Oper.semAt_some max2_int min2_int max_two min_two
def hsBy (F : List Int → Int → List (List Int)) (pre : List Int) (ht left : Int) : Nat → List (List Int)
 | 0 => []
 | k + 1 => (if ca_isHeight.f (ht + (2 - (k : Int))) = some true then (if max (2 - (k : Int)) (-(2 - (k : Int))) ≤ left then F (pre ++ [ht + (2 - (k : Int))]) (left - max (2 - (k : Int)) (-(2 - (k : Int)))) else []) else []) ++ hsBy F pre ht left k
def hsOf : List Int → List Int → Int → List (List Int)
 | [],pre,left => if 0 < left then [] else [pre]
 | ht :: rest,pre,left => hsBy (hsOf rest) pre ht left 5
theorem set_nil (w0 : World) (l gn gr gy gb gs : Nat) (A0_0 : Option Addr) (c0_0 n0 : Nat) (a0_1 : Int) (A0_2 : Option Addr) (c0_2 : Nat) (l0_2 : List S64) (a0_3 a0_4 : Int) (J Jx : List HX → World → Prop) (Bd : Nat) (hJ : AbidesC Bd J) (m : Nat) (hY : ∀ pre x W1,J pre W1 → hOk Bd l0_2.length x W1 → YieldAt Fence.wide m Tryz.prog l (hEnc x) W1 fun e W' => (e = .returned (.bool true) ∧ J (pre ++ [x]) W' ∧ KeepsCells W1 W') ∨ (e = .returned (.bool false) ∧ Jx (pre ++ [x]) W')) (hgr : Bd ≤ gr) (pre0 : List Int) (left : Int) (px : List HX) (n : Nat) (W : World) (hnl : pre0.length < 17592186044416) (hP : pre0.length = l0_2.length ∧ ∀ z ∈ pre0,0 ≤ z ∧ z ≤ 40) (st : HSt W w0 l gn gr gy gb gs A0_0 c0_0 n0 a0_1 A0_2 c0_2 l0_2 a0_3 a0_4 (pre0 ++ [])) (hj : J px W) :
 CallsIn Fence.wide n Tryz.prog 106 #[.int .i64 pre0.length,.int .i64 left,.pointer (some ⟨gn,0,none⟩),.pointer (some ⟨gy,0,none⟩),.pointer (some ⟨gb,0,none⟩),.pointer (some ⟨gs,0,none⟩)] W (fun e W' => (e = .returned (.bool true) ∧ ∃ (tl : List Int) (xs : List HX),tl.length = ([] : List Int).length ∧ HSt W' w0 l gn gr gy gb gs A0_0 c0_0 n0 a0_1 A0_2 c0_2 l0_2 a0_3 a0_4 (pre0 ++ tl) ∧ xs.map (·.1) = hsOf ([]) pre0 left ∧ J (px ++ xs) W') ∨ (e = .returned (.bool false) ∧ ∃ xs : List HX,xs.map (·.1) <+: hsOf ([]) pre0 left ∧ Jx (px ++ xs) W')) := by
 have st0 := st
 rw [List.append_nil] at st
 by_cases hl : 0 < left
 · refine (set_end_no w0 l gn gr gy gb gs A0_0 c0_0 n0 a0_1 A0_2 c0_2 l0_2 a0_3 a0_4 pre0 left hl n W st).mono ?_
   rintro e W' ⟨rfl,hb⟩
   exact .inl ⟨rfl,[],[],rfl,st0.keeps (KeepsCells.of_below hb),by simp [hsOf,hl],by rw [List.append_nil];exact hJ.below hj hb⟩
 · refine (set_end_yes w0 l gn gr gy gb gs A0_0 c0_0 n0 a0_1 A0_2 c0_2 l0_2 a0_3 a0_4 J Jx Bd hJ m hY hgr pre0 left hl hnl hP n px W st hj).mono ?_
   rintro e W' (⟨rfl,hk,x,hx,hj2⟩ | ⟨rfl,x,hx,hx2⟩)
   · exact .inl ⟨rfl,[],[x],rfl,st0.keeps hk,by simp [hsOf,hl,hx],hj2⟩
   · exact .inr ⟨rfl,[x],by simp [hsOf,hl,hx],hx2⟩
theorem grown_set {W : World} {g i : Nat} {v : Value} : W.grownBy (W.setCell ⟨g,i,none⟩ v) (some g) :=
 have hb := (Below.refl 0 W).setCell (p := ⟨g,i,none⟩) (Nat.zero_le _) v
 ⟨hb.os,hb.tape,hb.output,hb.size,fun k hk hne => by
  obtain ⟨q,hq⟩ : ∃ q,W.heap[k]? = some q := ⟨_,Array.getElem?_eq_getElem hk⟩
  rw [hq]
  exact obj_far (p := ⟨g,i,none⟩) hq (fun e => hne (by rw [e])) _⟩
theorem setStep (w0 : World) {l gn gr gy gb gs : Nat} {A0_0 : Option Addr} {c0_0 n0 : Nat} {a0_1 : Int} {A0_2 : Option Addr} {c0_2 : Nat} {l0_2 : List S64} {a0_3 a0_4 : Int} (J Jx : List HX → World → Prop) (Bd : Nat) (hJ : AbidesC Bd J) (hgr : Bd ≤ gr) {ht : Int} {rest pre0 tl1 dn tail : List Int} {y0 left : Int} {px : List HX}
 (hd : l0_2.map (·.f1) = dn ++ ht :: rest) (hdl : dn.length = pre0.length) (htl3 : tl1.length = rest.length) (h0 : 0 ≤ left) (h1 : left ≤ 1000) (hh : ∀ h ∈ ht :: rest,0 ≤ h ∧ h ≤ 40) (hnl : (pre0 ++ tail).length < 17592186044416 ∧ ∀ z ∈ pre0,0 ≤ z ∧ z ≤ 40) (hlen : (pre0 ++ tail).length = pre0.length + (rest.length + 1)) (far h : Int) (hfar : 0 ≤ far) (hin : 0 ≤ h ∧ h ≤ 40) (hf : far ≤ left) {W2 : World} (hs : HSt W2 w0 l gn gr gy gb gs A0_0 c0_0 n0 a0_1 A0_2 c0_2 l0_2 a0_3 a0_4 (pre0 ++ y0 :: tl1)) (hj : J px W2)
 (ih : ∀ (pre0 tail : List Int) (left : Int) (px : List HX) (n : Nat) (W : World) (dn : List Int),l0_2.map (·.f1) = dn ++ rest → dn.length = pre0.length → tail.length = rest.length → 0 ≤ left → left ≤ 1000 → (∀ h ∈ rest,0 ≤ h ∧ h ≤ 40) → ((pre0 ++ tail).length < 17592186044416 ∧ ∀ z ∈ pre0,0 ≤ z ∧ z ≤ 40) → HSt W w0 l gn gr gy gb gs A0_0 c0_0 n0 a0_1 A0_2 c0_2 l0_2 a0_3 a0_4 (pre0 ++ tail) → J px W → CallsIn Fence.wide n Tryz.prog 106 #[.int .i64 pre0.length,.int .i64 left,.pointer (some ⟨gn,0,none⟩),.pointer (some ⟨gy,0,none⟩),.pointer (some ⟨gb,0,none⟩),.pointer (some ⟨gs,0,none⟩)] W (fun e W' => (e = .returned (.bool true) ∧ ∃ (tl : List Int) (xs : List HX),tl.length = (rest : List Int).length ∧ HSt W' w0 l gn gr gy gb gs A0_0 c0_0 n0 a0_1 A0_2 c0_2 l0_2 a0_3 a0_4 (pre0 ++ tl) ∧ xs.map (·.1) = hsOf (rest) pre0 left ∧ J (px ++ xs) W') ∨ (e = .returned (.bool false) ∧ ∃ xs : List HX,xs.map (·.1) <+: hsOf (rest) pre0 left ∧ Jx (px ++ xs) W'))) (n : Nat) :
 CallsIn Fence.wide n Tryz.prog 106 #[.int .i64 ((pre0.length : Int) + 1),.int .i64 (left - far),.pointer (some ⟨gn,0,none⟩),.pointer (some ⟨gy,0,none⟩),.pointer (some ⟨gb,0,none⟩),.pointer (some ⟨gs,0,none⟩)] (W2.setCell ⟨gr,pre0.length,none⟩ (.int .i64 h)) (fun e W' => (e = .returned (.bool true) ∧ ∃ (tl : List Int) (xs : List HX),tl.length = (rest : List Int).length ∧ HSt W' w0 l gn gr gy gb gs A0_0 c0_0 n0 a0_1 A0_2 c0_2 l0_2 a0_3 a0_4 ((pre0 ++ [h]) ++ tl) ∧ xs.map (·.1) = hsOf (rest) (pre0 ++ [h]) (left - far) ∧ J (px ++ xs) W') ∨ (e = .returned (.bool false) ∧ ∃ xs : List HX,xs.map (·.1) <+: hsOf (rest) (pre0 ++ [h]) (left - far) ∧ Jx (px ++ xs) W')) := by
 have h3 := ih (pre0 ++ [h]) tl1 (left - far) px n (W2.setCell ⟨gr,pre0.length,none⟩ (.int .i64 h)) (dn ++ [ht]) (by rw [hd];simp) (by simp [hdl]) htl3 (by omega) (by omega) (fun z hz => hh z (List.mem_cons_of_mem _ hz)) ⟨by have hnl := hnl.1;rw [hlen] at hnl;simp;omega,fun z hz => (List.mem_append.1 hz).elim (hnl.2 z) (fun e => by rw [List.mem_singleton.1 e];exact hin)⟩
  (by have h4 := hs.store pre0.length h;rw [show (pre0 ++ y0 :: tl1).set pre0.length h = pre0 ++ [h] ++ tl1 by simp] at h4;exact h4) (hJ _ _ _ _ hj grown_set (fun r e => by cases e;exact hgr))
 rw [show (((pre0 ++ [h]).length : Nat) : Int) = (pre0.length : Int) + 1 by simp] at h3
 exact h3
theorem isH_in {h : Int} (hh : ca_isHeight.f h = some true) : 0 ≤ h ∧ h ≤ 40 := by
 unfold ca_isHeight.f ca_in.f at hh
 split at hh
 · rename_i h1
   have := of_decide_eq_true (Option.some.inj hh)
   omega
 · cases hh
theorem isH_total (h : Int) : ∃ t,ca_isHeight.f h = some t := by
 unfold ca_isHeight.f ca_in.f
 split <;> exact ⟨_,rfl⟩
theorem set_in (w0 : World) (l gn gr gy gb gs : Nat) (A0_0 : Option Addr) (c0_0 n0 : Nat) (a0_1 : Int) (A0_2 : Option Addr) (c0_2 : Nat) (l0_2 : List S64) (a0_3 a0_4 : Int) (J Jx : List HX → World → Prop) (Bd : Nat) (hJ : AbidesC Bd J) (m : Nat) (hY : ∀ pre x W1,J pre W1 → hOk Bd l0_2.length x W1 → YieldAt Fence.wide m Tryz.prog l (hEnc x) W1 fun e W' => (e = .returned (.bool true) ∧ J (pre ++ [x]) W' ∧ KeepsCells W1 W') ∨ (e = .returned (.bool false) ∧ Jx (pre ++ [x]) W')) (hgr : Bd ≤ gr) (hrows : Kd.C k64 w0 A0_2 l0_2.length l0_2) : ∀ (rest pre0 tail : List Int) (left : Int) (px : List HX) (n : Nat) (W : World) (dn : List Int),l0_2.map (·.f1) = dn ++ rest → dn.length = pre0.length → tail.length = rest.length → 0 ≤ left → left ≤ 1000 → (∀ h ∈ rest,0 ≤ h ∧ h ≤ 40) → ((pre0 ++ tail).length < 17592186044416 ∧ ∀ z ∈ pre0,0 ≤ z ∧ z ≤ 40) → HSt W w0 l gn gr gy gb gs A0_0 c0_0 n0 a0_1 A0_2 c0_2 l0_2 a0_3 a0_4 (pre0 ++ tail) → J px W →
 CallsIn Fence.wide n Tryz.prog 106 #[.int .i64 pre0.length,.int .i64 left,.pointer (some ⟨gn,0,none⟩),.pointer (some ⟨gy,0,none⟩),.pointer (some ⟨gb,0,none⟩),.pointer (some ⟨gs,0,none⟩)] W (fun e W' => (e = .returned (.bool true) ∧ ∃ (tl : List Int) (xs : List HX),tl.length = (rest : List Int).length ∧ HSt W' w0 l gn gr gy gb gs A0_0 c0_0 n0 a0_1 A0_2 c0_2 l0_2 a0_3 a0_4 (pre0 ++ tl) ∧ xs.map (·.1) = hsOf (rest) pre0 left ∧ J (px ++ xs) W') ∨ (e = .returned (.bool false) ∧ ∃ xs : List HX,xs.map (·.1) <+: hsOf (rest) pre0 left ∧ Jx (px ++ xs) W')) := by
 intro rest
 induction rest with
 | nil =>
  intro pre0 tail left px n W dn hd hdl htl h0 h1 hh hnlp st hj
  obtain ⟨hnl,hpr⟩ := hnlp
  obtain rfl := List.length_eq_zero_iff.1 htl
  exact set_nil w0 l gn gr gy gb gs A0_0 c0_0 n0 a0_1 A0_2 c0_2 l0_2 a0_3 a0_4 J Jx Bd hJ m hY hgr pre0 left px n W (by simpa using hnl) ⟨by have := congrArg List.length hd;simp at this;omega,hpr⟩ st hj
 | cons ht rest ih =>
  intro pre0 tail left px n W dn hd hdl htl h0 h1 hh hnlp st hj
  obtain ⟨hnl,hpr⟩ := hnlp
  have hlen : (pre0 ++ tail).length = pre0.length + (rest.length + 1) := by rw [List.length_append,htl];rfl
  have hn2 : l0_2.length = pre0.length + (rest.length + 1) := by have := congrArg List.length hd;simp at this;omega
  have hht := hh ht List.mem_cons_self
  have hrd : (rd_T64 l0_2 (pre0.length : Int)).f1 = ht := by
   have h3 : (l0_2.map (·.f1))[pre0.length]? = some ht := by rw [hd,← hdl];simp
   unfold rd_T64
   rw [List.getElem?_map] at h3
   obtain ⟨y,hy,hy2⟩ := Option.map_eq_some_iff.mp h3
   rw [List.getD_eq_getElem?_getD,show ((pre0.length : Int)).toNat = pre0.length by omega,hy]
   exact hy2
  obtain ⟨adz,ez,hx0,hx1⟩ := at_T64 hrows (pre0.length : Int) (by omega) (by omega)
  subst ez
  rw [hrd] at hx1
  simp only [Int.toNat_natCast] at hx1
  have HX1 := am hx1
  clear hx0 hx1
  have hb0 : ((pre0.length : Int) == ((pre0 ++ tail).length : Int)) = false := by rw [hlen];simp;omega
  have hcap := st.cap
  have c0 := (blk_cell st.bn 0).trans rfl
  have q0 : (0 : Int) ≤ (pre0.length : Int) := by omega
  have q1 : (pre0.length : Int) < (l0_2.length : Int) := by omega
  refine callsIn_of_wp Tryz.func106 rfl trivial ?_ rfl
  simp only [Tryz.ntmps106,List.size_toArray,List.length_cons,List.length_nil,Nat.reduceAdd,Nat.reduceSub,Array.replicate_succ,Array.replicate_zero,List.push_toArray,List.append_toArray,List.nil_append,List.cons_append]
  gi_wp2
  obtain ⟨T,hT⟩ : ∃ T,hsBy (hsOf rest) pre0 ht left 5 = T := ⟨_,rfl⟩
  gi_loopw [9] (fun v9 W' => ∃ (k : Nat) (tl : List Int) (xs : List HX),k ≤ 5 ∧ v9 = .int .i64 (3 - (k : Int)) ∧ tl.length = rest.length + 1 ∧ Aside0 (HSt W' w0 l gn gr gy gb gs A0_0 c0_0 n0 a0_1 (some adz) c0_2 l0_2 a0_3 a0_4 (pre0 ++ tl)) ∧ Aside0 (xs.map (·.1) ++ hsBy (hsOf rest) pre0 ht left k = T) ∧ Aside0 (J (px ++ xs) W')) (fun v9 _ => (3 - intOf v9).toNat)
  case atStart => exact ⟨5,tail,[],by omega,rfl,by rw [htl];rfl,⟨st⟩,⟨by simpa using hT⟩,⟨by simpa using hj⟩⟩
  case round =>
   clear c0 hb0 hcap
   obtain ⟨k,tl,xs,hk5,rfl,htl2,HS,HX2,HJ2⟩ := hrel
   have hlen2 : (pre0 ++ tl).length = pre0.length + (rest.length + 1) := by rw [List.length_append,htl2]
   have hx1 := keeps_cell HS.out.old HX1.out
   have c0 := (blk_cell HS.out.bn 0).trans rfl
   have c1 := (blk_cell HS.out.bb 2).trans rfl
   have c2 := (blk_cell HS.out.bs 0).trans rfl
   have q2 : (pre0.length : Int) < ((pre0 ++ tl).length : Int) := by omega
   obtain ⟨b,hb⟩ : ∃ b : Int,3 - (k : Int) = b := ⟨_,rfl⟩
   rw [hb]
   obtain ⟨y0,tl1,rfl⟩ : ∃ y0 tl1,tl = y0 :: tl1 := by cases tl with
    | nil => simp at htl2
    | cons a t => exact ⟨a,t,rfl⟩
   have htl3 : tl1.length = rest.length := by simpa using htl2
   have hkc : k = 0 ∨ k = 1 ∨ k = 2 ∨ k = 3 ∨ k = 4 ∨ k = 5 := by omega
   rcases hkc with rfl | rfl | rfl | rfl | rfl | rfl
   · obtain rfl : b = (3) := by omega
     gi_wp2
     go_ret
     exact .inl ⟨rfl,y0 :: tl1,xs,htl2,HS.out,by have := HX2.out;rw [hsBy,List.append_nil] at this;exact this.trans hT.symm,HJ2.out⟩
   · obtain rfl : b = (2) := by omega
     have hw : IntKind.i64.wrap (ht + (2)) = ht + (2) := (i64_w _).trans (by unfold wrap64;omega)
     have hs1 : hsBy (hsOf rest) pre0 ht left 1 = (if ca_isHeight.f (ht + (2)) = some true then (if 2 ≤ left then hsOf rest (pre0 ++ [ht + (2)]) (left - 2) else []) else []) ++ hsBy (hsOf rest) pre0 ht left 0 := rfl
     have hx2 := HX2.out
     rw [hs1] at hx2
     obtain ⟨t,hh2⟩ := isH_total (ht + (2))
     cases t with
     | false =>
      rw [hh2,if_neg (by decide),List.nil_append] at hx2
      gi_wp2_with (refine ⟨trivial,fun h => Bool.noConfusion h,?_⟩;refine (callsIn_wide.2 (ca_isHeight.calls (ht + (2)) false _ hh2)).mono ?_;rintro e W2 ⟨rfl,hdr⟩;have hkp := KeepsCells.of_below hdr.below;have HS2 := am (HS.out.keeps hkp);have HJ3 := am (hJ.below HJ2.out hdr.below);have d0 := (blk_cell HS2.out.bn 0).trans rfl;have d1 := (blk_cell HS2.out.bb 2).trans rfl;have d2 := (blk_cell HS2.out.bs 0).trans rfl;clear hdr)
      go_roundw
      case rel => first | exact ⟨0,y0 :: tl1,xs,by omega,by simp,htl2,HS2,⟨hx2⟩,HJ3⟩ | trivial
      case measure => first | (simp [intOf];done) | trivial | omega
     | true =>
      rw [hh2,if_pos rfl] at hx2
      by_cases hf : (2 : Int) ≤ left
      case neg =>
       rw [if_neg hf,List.nil_append] at hx2
       have hd9 : decide (left < (2 : Int)) = true := decide_eq_true (by omega)
       gi_wp2_with (refine ⟨trivial,fun h => Bool.noConfusion h,?_⟩;refine (callsIn_wide.2 (ca_isHeight.calls (ht + (2)) true _ hh2)).mono ?_;rintro e W2 ⟨rfl,hdr⟩;have hkp := KeepsCells.of_below hdr.below;have HS2 := am (HS.out.keeps hkp);have HJ3 := am (hJ.below HJ2.out hdr.below);have d0 := (blk_cell HS2.out.bn 0).trans rfl;have d1 := (blk_cell HS2.out.bb 2).trans rfl;have d2 := (blk_cell HS2.out.bs 0).trans rfl;clear hdr)
       go_roundw
       case rel => first | exact ⟨0,y0 :: tl1,xs,by omega,by simp,htl2,HS2,⟨hx2⟩,HJ3⟩ | trivial
       case measure => first | (simp [intOf];done) | trivial | omega
      rw [if_pos hf] at hx2
      have hd9 : decide (left < (2 : Int)) = false := decide_eq_false (by omega)
      have hw5 : IntKind.i64.wrap ((pre0.length : Int) + 1) = (pre0.length : Int) + 1 := (i64_w _).trans (by unfold wrap64;omega)
      have hw6 : IntKind.i64.wrap (left - 2) = left - 2 := (i64_w _).trans (by unfold wrap64;omega)
      gi_wp2_with (first | (refine ⟨trivial,fun h => Bool.noConfusion h,?_⟩;refine (callsIn_wide.2 (ca_isHeight.calls (ht + (2)) true _ hh2)).mono ?_;rintro e W2 ⟨rfl,hdr⟩;have hkp := KeepsCells.of_below hdr.below;have HS2 := am (HS.out.keeps hkp);have HJ3 := am (hJ.below HJ2.out hdr.below);have d0 := (blk_cell HS2.out.bn 0).trans rfl;have d1 := (blk_cell HS2.out.bb 2).trans rfl;have d2 := (blk_cell HS2.out.bs 0).trans rfl;have d3 : W2.cell? ⟨gr,pre0.length,none⟩ = some (.int .i64 y0) := (blk_cell HS2.out.br pre0.length).trans (by simp);have d4 := blk_frozen HS2.out.br pre0.length;have hne1 : gs ≠ gr := obj_ne HS2.out.bs HS2.out.br (by decide);have hne2 : gr ≠ gs := fun e => hne1 e.symm;have ihx := setStep w0 J Jx Bd hJ hgr hd hdl htl3 h0 h1 hh ⟨hnl,hpr⟩ hlen 2 (ht + (2)) (by decide) (isH_in hh2) hf HS2.out HJ3.out ih (n - 1);clear hdr) | (refine ⟨trivial,fun h => Bool.noConfusion h,?_⟩;refine ihx.mono ?_;rintro e W4 (⟨rfl,tl2,xs2,htl4,hs4,hxs2,hj4⟩ | ⟨rfl,xs2,hxs2,hj4⟩)))
      · go_roundw
        case rel => exact ⟨0,(ht + (2)) :: tl2,xs ++ xs2,by omega,by simp,by simp [htl4],⟨by simpa using hs4⟩,⟨by rw [List.map_append,hxs2,List.append_assoc];exact hx2⟩,⟨by simpa [List.append_assoc] using hj4⟩⟩
        case measure => first | (simp [intOf];done) | omega
      · go_ret
        obtain ⟨rr,hrr⟩ := hxs2
        exact .inr ⟨rfl,xs ++ xs2,⟨rr ++ hsBy (hsOf rest) pre0 ht left 0,by rw [List.map_append,List.append_assoc,← List.append_assoc _ rr,hrr];exact hx2.trans hT.symm⟩,by simpa [List.append_assoc] using hj4⟩
   · obtain rfl : b = (1) := by omega
     have hw : IntKind.i64.wrap (ht + (1)) = ht + (1) := (i64_w _).trans (by unfold wrap64;omega)
     have hs1 : hsBy (hsOf rest) pre0 ht left 2 = (if ca_isHeight.f (ht + (1)) = some true then (if 1 ≤ left then hsOf rest (pre0 ++ [ht + (1)]) (left - 1) else []) else []) ++ hsBy (hsOf rest) pre0 ht left 1 := rfl
     have hx2 := HX2.out
     rw [hs1] at hx2
     obtain ⟨t,hh2⟩ := isH_total (ht + (1))
     cases t with
     | false =>
      rw [hh2,if_neg (by decide),List.nil_append] at hx2
      gi_wp2_with (refine ⟨trivial,fun h => Bool.noConfusion h,?_⟩;refine (callsIn_wide.2 (ca_isHeight.calls (ht + (1)) false _ hh2)).mono ?_;rintro e W2 ⟨rfl,hdr⟩;have hkp := KeepsCells.of_below hdr.below;have HS2 := am (HS.out.keeps hkp);have HJ3 := am (hJ.below HJ2.out hdr.below);have d0 := (blk_cell HS2.out.bn 0).trans rfl;have d1 := (blk_cell HS2.out.bb 2).trans rfl;have d2 := (blk_cell HS2.out.bs 0).trans rfl;clear hdr)
      go_roundw
      case rel => first | exact ⟨1,y0 :: tl1,xs,by omega,by simp,htl2,HS2,⟨hx2⟩,HJ3⟩ | trivial
      case measure => first | (simp [intOf];done) | trivial | omega
     | true =>
      rw [hh2,if_pos rfl] at hx2
      by_cases hf : (1 : Int) ≤ left
      case neg =>
       rw [if_neg hf,List.nil_append] at hx2
       have hd9 : decide (left < (1 : Int)) = true := decide_eq_true (by omega)
       gi_wp2_with (refine ⟨trivial,fun h => Bool.noConfusion h,?_⟩;refine (callsIn_wide.2 (ca_isHeight.calls (ht + (1)) true _ hh2)).mono ?_;rintro e W2 ⟨rfl,hdr⟩;have hkp := KeepsCells.of_below hdr.below;have HS2 := am (HS.out.keeps hkp);have HJ3 := am (hJ.below HJ2.out hdr.below);have d0 := (blk_cell HS2.out.bn 0).trans rfl;have d1 := (blk_cell HS2.out.bb 2).trans rfl;have d2 := (blk_cell HS2.out.bs 0).trans rfl;clear hdr)
       go_roundw
       case rel => first | exact ⟨1,y0 :: tl1,xs,by omega,by simp,htl2,HS2,⟨hx2⟩,HJ3⟩ | trivial
       case measure => first | (simp [intOf];done) | trivial | omega
      rw [if_pos hf] at hx2
      have hd9 : decide (left < (1 : Int)) = false := decide_eq_false (by omega)
      have hw5 : IntKind.i64.wrap ((pre0.length : Int) + 1) = (pre0.length : Int) + 1 := (i64_w _).trans (by unfold wrap64;omega)
      have hw6 : IntKind.i64.wrap (left - 1) = left - 1 := (i64_w _).trans (by unfold wrap64;omega)
      gi_wp2_with (first | (refine ⟨trivial,fun h => Bool.noConfusion h,?_⟩;refine (callsIn_wide.2 (ca_isHeight.calls (ht + (1)) true _ hh2)).mono ?_;rintro e W2 ⟨rfl,hdr⟩;have hkp := KeepsCells.of_below hdr.below;have HS2 := am (HS.out.keeps hkp);have HJ3 := am (hJ.below HJ2.out hdr.below);have d0 := (blk_cell HS2.out.bn 0).trans rfl;have d1 := (blk_cell HS2.out.bb 2).trans rfl;have d2 := (blk_cell HS2.out.bs 0).trans rfl;have d3 : W2.cell? ⟨gr,pre0.length,none⟩ = some (.int .i64 y0) := (blk_cell HS2.out.br pre0.length).trans (by simp);have d4 := blk_frozen HS2.out.br pre0.length;have hne1 : gs ≠ gr := obj_ne HS2.out.bs HS2.out.br (by decide);have hne2 : gr ≠ gs := fun e => hne1 e.symm;have ihx := setStep w0 J Jx Bd hJ hgr hd hdl htl3 h0 h1 hh ⟨hnl,hpr⟩ hlen 1 (ht + (1)) (by decide) (isH_in hh2) hf HS2.out HJ3.out ih (n - 1);clear hdr) | (refine ⟨trivial,fun h => Bool.noConfusion h,?_⟩;refine ihx.mono ?_;rintro e W4 (⟨rfl,tl2,xs2,htl4,hs4,hxs2,hj4⟩ | ⟨rfl,xs2,hxs2,hj4⟩)))
      · go_roundw
        case rel => exact ⟨1,(ht + (1)) :: tl2,xs ++ xs2,by omega,by simp,by simp [htl4],⟨by simpa using hs4⟩,⟨by rw [List.map_append,hxs2,List.append_assoc];exact hx2⟩,⟨by simpa [List.append_assoc] using hj4⟩⟩
        case measure => first | (simp [intOf];done) | omega
      · go_ret
        obtain ⟨rr,hrr⟩ := hxs2
        exact .inr ⟨rfl,xs ++ xs2,⟨rr ++ hsBy (hsOf rest) pre0 ht left 1,by rw [List.map_append,List.append_assoc,← List.append_assoc _ rr,hrr];exact hx2.trans hT.symm⟩,by simpa [List.append_assoc] using hj4⟩
   · obtain rfl : b = (0) := by omega
     have hw : IntKind.i64.wrap ht = ht := (i64_w _).trans (by unfold wrap64;omega)
     have hs1 : hsBy (hsOf rest) pre0 ht left 3 = (if ca_isHeight.f ht = some true then (if 0 ≤ left then hsOf rest (pre0 ++ [ht]) left else []) else []) ++ hsBy (hsOf rest) pre0 ht left 2 := by
      have h0_ : ht + (2 - ((2 : Nat) : Int)) = ht := by omega
      have h1_ : left - max (2 - ((2 : Nat) : Int)) (-(2 - ((2 : Nat) : Int))) = left := by omega
      rw [hsBy,h0_,h1_];rfl
     have hx2 := HX2.out
     rw [hs1] at hx2
     obtain ⟨t,hh2⟩ := isH_total ht
     cases t with
     | false =>
      rw [hh2,if_neg (by decide),List.nil_append] at hx2
      gi_wp2_with (refine ⟨trivial,fun h => Bool.noConfusion h,?_⟩;refine (callsIn_wide.2 (ca_isHeight.calls ht false _ hh2)).mono ?_;rintro e W2 ⟨rfl,hdr⟩;have hkp := KeepsCells.of_below hdr.below;have HS2 := am (HS.out.keeps hkp);have HJ3 := am (hJ.below HJ2.out hdr.below);have d0 := (blk_cell HS2.out.bn 0).trans rfl;have d1 := (blk_cell HS2.out.bb 2).trans rfl;have d2 := (blk_cell HS2.out.bs 0).trans rfl;clear hdr)
      go_roundw
      case rel => first | exact ⟨2,y0 :: tl1,xs,by omega,by simp,htl2,HS2,⟨hx2⟩,HJ3⟩ | trivial
      case measure => first | (simp [intOf];done) | trivial | omega
     | true =>
      rw [hh2,if_pos rfl] at hx2
      by_cases hf : (0 : Int) ≤ left
      case neg =>
       exact absurd h0 hf
      rw [if_pos hf] at hx2
      have hd9 : decide (left < (0 : Int)) = false := decide_eq_false (by omega)
      have hw5 : IntKind.i64.wrap ((pre0.length : Int) + 1) = (pre0.length : Int) + 1 := (i64_w _).trans (by unfold wrap64;omega)
      have hw6 : IntKind.i64.wrap left = left := (i64_w _).trans (by unfold wrap64;omega)
      gi_wp2_with (first | (refine ⟨trivial,fun h => Bool.noConfusion h,?_⟩;refine (callsIn_wide.2 (ca_isHeight.calls ht true _ hh2)).mono ?_;rintro e W2 ⟨rfl,hdr⟩;have hkp := KeepsCells.of_below hdr.below;have HS2 := am (HS.out.keeps hkp);have HJ3 := am (hJ.below HJ2.out hdr.below);have d0 := (blk_cell HS2.out.bn 0).trans rfl;have d1 := (blk_cell HS2.out.bb 2).trans rfl;have d2 := (blk_cell HS2.out.bs 0).trans rfl;have d3 : W2.cell? ⟨gr,pre0.length,none⟩ = some (.int .i64 y0) := (blk_cell HS2.out.br pre0.length).trans (by simp);have d4 := blk_frozen HS2.out.br pre0.length;have hne1 : gs ≠ gr := obj_ne HS2.out.bs HS2.out.br (by decide);have hne2 : gr ≠ gs := fun e => hne1 e.symm;have ihx := setStep w0 J Jx Bd hJ hgr hd hdl htl3 h0 h1 hh ⟨hnl,hpr⟩ hlen 0 ht (by decide) (isH_in hh2) hf HS2.out HJ3.out ih (n - 1);rw [Int.sub_zero] at ihx;clear hdr) | (refine ⟨trivial,fun h => Bool.noConfusion h,?_⟩;refine ihx.mono ?_;rintro e W4 (⟨rfl,tl2,xs2,htl4,hs4,hxs2,hj4⟩ | ⟨rfl,xs2,hxs2,hj4⟩)))
      · go_roundw
        case rel => exact ⟨2,ht :: tl2,xs ++ xs2,by omega,by simp,by simp [htl4],⟨by simpa using hs4⟩,⟨by rw [List.map_append,hxs2,List.append_assoc];exact hx2⟩,⟨by simpa [List.append_assoc] using hj4⟩⟩
        case measure => first | (simp [intOf];done) | omega
      · go_ret
        obtain ⟨rr,hrr⟩ := hxs2
        exact .inr ⟨rfl,xs ++ xs2,⟨rr ++ hsBy (hsOf rest) pre0 ht left 2,by rw [List.map_append,List.append_assoc,← List.append_assoc _ rr,hrr];exact hx2.trans hT.symm⟩,by simpa [List.append_assoc] using hj4⟩
   · obtain rfl : b = (-1) := by omega
     have hw : IntKind.i64.wrap (ht + (-1)) = ht + (-1) := (i64_w _).trans (by unfold wrap64;omega)
     have hs1 : hsBy (hsOf rest) pre0 ht left 4 = (if ca_isHeight.f (ht + (-1)) = some true then (if 1 ≤ left then hsOf rest (pre0 ++ [ht + (-1)]) (left - 1) else []) else []) ++ hsBy (hsOf rest) pre0 ht left 3 := rfl
     have hx2 := HX2.out
     rw [hs1] at hx2
     obtain ⟨t,hh2⟩ := isH_total (ht + (-1))
     cases t with
     | false =>
      rw [hh2,if_neg (by decide),List.nil_append] at hx2
      gi_wp2_with (refine ⟨trivial,fun h => Bool.noConfusion h,?_⟩;refine (callsIn_wide.2 (ca_isHeight.calls (ht + (-1)) false _ hh2)).mono ?_;rintro e W2 ⟨rfl,hdr⟩;have hkp := KeepsCells.of_below hdr.below;have HS2 := am (HS.out.keeps hkp);have HJ3 := am (hJ.below HJ2.out hdr.below);have d0 := (blk_cell HS2.out.bn 0).trans rfl;have d1 := (blk_cell HS2.out.bb 2).trans rfl;have d2 := (blk_cell HS2.out.bs 0).trans rfl;clear hdr)
      go_roundw
      case rel => first | exact ⟨3,y0 :: tl1,xs,by omega,by simp,htl2,HS2,⟨hx2⟩,HJ3⟩ | trivial
      case measure => first | (simp [intOf];done) | trivial | omega
     | true =>
      rw [hh2,if_pos rfl] at hx2
      by_cases hf : (1 : Int) ≤ left
      case neg =>
       rw [if_neg hf,List.nil_append] at hx2
       have hd9 : decide (left < (1 : Int)) = true := decide_eq_true (by omega)
       gi_wp2_with (refine ⟨trivial,fun h => Bool.noConfusion h,?_⟩;refine (callsIn_wide.2 (ca_isHeight.calls (ht + (-1)) true _ hh2)).mono ?_;rintro e W2 ⟨rfl,hdr⟩;have hkp := KeepsCells.of_below hdr.below;have HS2 := am (HS.out.keeps hkp);have HJ3 := am (hJ.below HJ2.out hdr.below);have d0 := (blk_cell HS2.out.bn 0).trans rfl;have d1 := (blk_cell HS2.out.bb 2).trans rfl;have d2 := (blk_cell HS2.out.bs 0).trans rfl;clear hdr)
       go_roundw
       case rel => first | exact ⟨3,y0 :: tl1,xs,by omega,by simp,htl2,HS2,⟨hx2⟩,HJ3⟩ | trivial
       case measure => first | (simp [intOf];done) | trivial | omega
      rw [if_pos hf] at hx2
      have hd9 : decide (left < (1 : Int)) = false := decide_eq_false (by omega)
      have hw5 : IntKind.i64.wrap ((pre0.length : Int) + 1) = (pre0.length : Int) + 1 := (i64_w _).trans (by unfold wrap64;omega)
      have hw6 : IntKind.i64.wrap (left - 1) = left - 1 := (i64_w _).trans (by unfold wrap64;omega)
      gi_wp2_with (first | (refine ⟨trivial,fun h => Bool.noConfusion h,?_⟩;refine (callsIn_wide.2 (ca_isHeight.calls (ht + (-1)) true _ hh2)).mono ?_;rintro e W2 ⟨rfl,hdr⟩;have hkp := KeepsCells.of_below hdr.below;have HS2 := am (HS.out.keeps hkp);have HJ3 := am (hJ.below HJ2.out hdr.below);have d0 := (blk_cell HS2.out.bn 0).trans rfl;have d1 := (blk_cell HS2.out.bb 2).trans rfl;have d2 := (blk_cell HS2.out.bs 0).trans rfl;have d3 : W2.cell? ⟨gr,pre0.length,none⟩ = some (.int .i64 y0) := (blk_cell HS2.out.br pre0.length).trans (by simp);have d4 := blk_frozen HS2.out.br pre0.length;have hne1 : gs ≠ gr := obj_ne HS2.out.bs HS2.out.br (by decide);have hne2 : gr ≠ gs := fun e => hne1 e.symm;have ihx := setStep w0 J Jx Bd hJ hgr hd hdl htl3 h0 h1 hh ⟨hnl,hpr⟩ hlen 1 (ht + (-1)) (by decide) (isH_in hh2) hf HS2.out HJ3.out ih (n - 1);clear hdr) | (refine ⟨trivial,fun h => Bool.noConfusion h,?_⟩;refine ihx.mono ?_;rintro e W4 (⟨rfl,tl2,xs2,htl4,hs4,hxs2,hj4⟩ | ⟨rfl,xs2,hxs2,hj4⟩)))
      · go_roundw
        case rel => exact ⟨3,(ht + (-1)) :: tl2,xs ++ xs2,by omega,by simp,by simp [htl4],⟨by simpa using hs4⟩,⟨by rw [List.map_append,hxs2,List.append_assoc];exact hx2⟩,⟨by simpa [List.append_assoc] using hj4⟩⟩
        case measure => first | (simp [intOf];done) | omega
      · go_ret
        obtain ⟨rr,hrr⟩ := hxs2
        exact .inr ⟨rfl,xs ++ xs2,⟨rr ++ hsBy (hsOf rest) pre0 ht left 3,by rw [List.map_append,List.append_assoc,← List.append_assoc _ rr,hrr];exact hx2.trans hT.symm⟩,by simpa [List.append_assoc] using hj4⟩
   · obtain rfl : b = (-2) := by omega
     have hw : IntKind.i64.wrap (ht + (-2)) = ht + (-2) := (i64_w _).trans (by unfold wrap64;omega)
     have hs1 : hsBy (hsOf rest) pre0 ht left 5 = (if ca_isHeight.f (ht + (-2)) = some true then (if 2 ≤ left then hsOf rest (pre0 ++ [ht + (-2)]) (left - 2) else []) else []) ++ hsBy (hsOf rest) pre0 ht left 4 := rfl
     have hx2 := HX2.out
     rw [hs1] at hx2
     obtain ⟨t,hh2⟩ := isH_total (ht + (-2))
     cases t with
     | false =>
      rw [hh2,if_neg (by decide),List.nil_append] at hx2
      gi_wp2_with (refine ⟨trivial,fun h => Bool.noConfusion h,?_⟩;refine (callsIn_wide.2 (ca_isHeight.calls (ht + (-2)) false _ hh2)).mono ?_;rintro e W2 ⟨rfl,hdr⟩;have hkp := KeepsCells.of_below hdr.below;have HS2 := am (HS.out.keeps hkp);have HJ3 := am (hJ.below HJ2.out hdr.below);have d0 := (blk_cell HS2.out.bn 0).trans rfl;have d1 := (blk_cell HS2.out.bb 2).trans rfl;have d2 := (blk_cell HS2.out.bs 0).trans rfl;clear hdr)
      go_roundw
      case rel => first | exact ⟨4,y0 :: tl1,xs,by omega,by simp,htl2,HS2,⟨hx2⟩,HJ3⟩ | trivial
      case measure => first | (simp [intOf];done) | trivial | omega
     | true =>
      rw [hh2,if_pos rfl] at hx2
      by_cases hf : (2 : Int) ≤ left
      case neg =>
       rw [if_neg hf,List.nil_append] at hx2
       have hd9 : decide (left < (2 : Int)) = true := decide_eq_true (by omega)
       gi_wp2_with (refine ⟨trivial,fun h => Bool.noConfusion h,?_⟩;refine (callsIn_wide.2 (ca_isHeight.calls (ht + (-2)) true _ hh2)).mono ?_;rintro e W2 ⟨rfl,hdr⟩;have hkp := KeepsCells.of_below hdr.below;have HS2 := am (HS.out.keeps hkp);have HJ3 := am (hJ.below HJ2.out hdr.below);have d0 := (blk_cell HS2.out.bn 0).trans rfl;have d1 := (blk_cell HS2.out.bb 2).trans rfl;have d2 := (blk_cell HS2.out.bs 0).trans rfl;clear hdr)
       go_roundw
       case rel => first | exact ⟨4,y0 :: tl1,xs,by omega,by simp,htl2,HS2,⟨hx2⟩,HJ3⟩ | trivial
       case measure => first | (simp [intOf];done) | trivial | omega
      rw [if_pos hf] at hx2
      have hd9 : decide (left < (2 : Int)) = false := decide_eq_false (by omega)
      have hw5 : IntKind.i64.wrap ((pre0.length : Int) + 1) = (pre0.length : Int) + 1 := (i64_w _).trans (by unfold wrap64;omega)
      have hw6 : IntKind.i64.wrap (left - 2) = left - 2 := (i64_w _).trans (by unfold wrap64;omega)
      gi_wp2_with (first | (refine ⟨trivial,fun h => Bool.noConfusion h,?_⟩;refine (callsIn_wide.2 (ca_isHeight.calls (ht + (-2)) true _ hh2)).mono ?_;rintro e W2 ⟨rfl,hdr⟩;have hkp := KeepsCells.of_below hdr.below;have HS2 := am (HS.out.keeps hkp);have HJ3 := am (hJ.below HJ2.out hdr.below);have d0 := (blk_cell HS2.out.bn 0).trans rfl;have d1 := (blk_cell HS2.out.bb 2).trans rfl;have d2 := (blk_cell HS2.out.bs 0).trans rfl;have d3 : W2.cell? ⟨gr,pre0.length,none⟩ = some (.int .i64 y0) := (blk_cell HS2.out.br pre0.length).trans (by simp);have d4 := blk_frozen HS2.out.br pre0.length;have hne1 : gs ≠ gr := obj_ne HS2.out.bs HS2.out.br (by decide);have hne2 : gr ≠ gs := fun e => hne1 e.symm;have ihx := setStep w0 J Jx Bd hJ hgr hd hdl htl3 h0 h1 hh ⟨hnl,hpr⟩ hlen 2 (ht + (-2)) (by decide) (isH_in hh2) hf HS2.out HJ3.out ih (n - 1);clear hdr) | (refine ⟨trivial,fun h => Bool.noConfusion h,?_⟩;refine ihx.mono ?_;rintro e W4 (⟨rfl,tl2,xs2,htl4,hs4,hxs2,hj4⟩ | ⟨rfl,xs2,hxs2,hj4⟩)))
      · go_roundw
        case rel => exact ⟨4,(ht + (-2)) :: tl2,xs ++ xs2,by omega,by simp,by simp [htl4],⟨by simpa using hs4⟩,⟨by rw [List.map_append,hxs2,List.append_assoc];exact hx2⟩,⟨by simpa [List.append_assoc] using hj4⟩⟩
        case measure => first | (simp [intOf];done) | omega
      · go_ret
        obtain ⟨rr,hrr⟩ := hxs2
        exact .inr ⟨rfl,xs ++ xs2,⟨rr ++ hsBy (hsOf rest) pre0 ht left 4,by rw [List.map_append,List.append_assoc,← List.append_assoc _ rr,hrr];exact hx2.trans hT.symm⟩,by simpa [List.append_assoc] using hj4⟩
end
theorem eventIn {F : Fence} {n : Nat} {P : Program} {ops : Array Oper} {o : Oper} {a : Act} {Q : Exit → Act → World → Prop} {rest : List Oper} {W W1 : World} {v : Value} (hro : F.round = none) (hfn : ∀ f,F.fn f) (hgd : o.guard = none)
 (hrun : (execOp a.eval o).run P W = .ok (.value v) W1) (h : wpListIn F n P ops Q rest (a.put o.dst v) W1) : wpListIn F n P ops Q (o :: rest) a W := by
 refine wpListIn_plain hgd fun K hK => ?_
 unfold Oper.wpIn
 refine ⟨fun f _ => hfn f,?_⟩
 rw [hro,Oper.semAt_none,hrun,Oper.uponIn_value]
 exact hK _ _ h
theorem boxIn {F : Fence} {n : Nat} {P : Program} {ops : Array Oper} {o : Oper} {a : Act} {Q : Exit → Act → World → Prop} {rest : List Oper} {W : World} (hro : F.round = none) (hfn : ∀ f,F.fn f) (hgd : o.guard = none) {cs : Array Value} {t : TypeId}
 (hrun : (execOp a.eval o).run P W = .ok (.value (.pointer (some ⟨W.heap.size,0,none⟩))) (W.alloc (.cells cs t (0,0))))
 (h : ∀ g,g = W.heap.size → ∀ w1,w1.heap[g]? = some (.cells cs t (0,0)) → Below W.heap.size W w1 → wpListIn F n P ops Q rest (a.put o.dst (.pointer (some ⟨g,0,none⟩))) w1) : wpListIn F n P ops Q (o :: rest) a W :=
 eventIn hro hfn hgd hrun (h _ rfl _ (blk_new W _) (below_alloc (Below.refl _ _) _))
theorem made_ints (n : Nat) : madeCells (Value.int .i64 0).cells (n * 1) = ((List.replicate n (0 : Int)).map (Value.int .i64)).toArray := by
 rw [Nat.mul_one]
 apply Array.ext
 · rw [size_madeCells];simp
 · intro i h1 h2
   simp [madeCells,Value.cells]
   rw [Nat.mod_one]
   rfl
theorem infoInt3 : (Tryz.prog.info? 3).map (fun i => (i.zero,i.size,i.bytes)) = some (some (.int .i64 0),1,8) := by kernel_rfl
theorem run_makeInts (n : Nat) (hn : n ≤ 1000000) (W : World) : (Instr.makeSlice 30 (.int .i64 (n : Int)) (.int .i64 (n : Int))).run Tryz.prog W = .ok (.slice (some ⟨W.heap.size,0,none⟩) n n) (W.alloc (.cells ((List.replicate n (0 : Int)).map (Value.int .i64)).toArray 3)) := by
 obtain ⟨i0,hi,hz0,hz1,hz2⟩ := info_parts infoInt3
 have h := run_makeSlice (P := Tryz.prog) (w := W) 30 3 i0 (.int .i64 0) Tryz.underlying30 hi hz0 .i64 .i64 (n : Int) (n : Int) (by omega) (Int.le_refl _) (by rw [hz1];omega) (by rw [hz2];omega) (by omega)
 rw [hz1] at h
 simp only [Int.toNat_natCast] at h
 rw [made_ints] at h
 exact h
theorem gateIn {F : Fence} {n : Nat} {P : Program} {ops : Array Oper} {o : Oper} {a : Act} {Q : Exit → Act → World → Prop} {rest : List Oper} {W : World} {N : Tmp} (_ : o.dst = some N) (h : wpListIn F n P ops Q (o :: rest) a W) : wpListIn F n P ops Q (o :: rest) a W := h
theorem hst5 {w0 w1 : World} {l gy gb : Nat} {A0_0 : Option Addr} {c0_0 n0 : Nat} {a0_1 : Int} {A0_2 : Option Addr} {c0_2 : Nat} {l0_2 : List S64} {a0_3 a0_4 : Int} (by_ : w1.heap[gy]? = some (.cells #[.func (.yield l) #[] #[]] 109 (0,0))) (bb : w1.heap[gb]? = some (.cells #[.slice A0_0 n0 c0_0,.int .i64 a0_1,.slice A0_2 l0_2.length c0_2,.int .i64 a0_3,.int .i64 a0_4] 27 (0,0))) (old : KeepsCells w0 w1) (hnl : l0_2.length ≤ 1000000) :
 HSt (((w1.alloc (.cells (Array.replicate l0_2.length (Value.int .i64 0)) 3)).alloc (.cells #[.slice (some ⟨w1.heap.size,0,none⟩) l0_2.length l0_2.length] 30)).alloc (.cells #[.func (.func 106) #[] #[.pointer (some ⟨w1.heap.size + 1,0,none⟩),.pointer (some ⟨gy,0,none⟩),.pointer (some ⟨gb,0,none⟩),.pointer (some ⟨w1.heap.size + 1 + 1,0,none⟩)]] 140)) w0 l (w1.heap.size + 1) w1.heap.size gy gb (w1.heap.size + 1 + 1) A0_0 c0_0 n0 a0_1 A0_2 c0_2 l0_2 a0_3 a0_4 (List.replicate l0_2.length 0) := by
 refine ⟨?_,?_,blk_alloc (blk_alloc (blk_alloc by_ _) _) _,blk_alloc (blk_alloc (blk_alloc bb _) _) _,?_,old.trans (KeepsCells.of_below (below_alloc (below_alloc (below_alloc (Below.refl _ _) _) _) _)),old.size,by simp;omega⟩
 · rw [List.length_replicate]
   refine blk_alloc ?_ _
   have := blk_new (w1.alloc (.cells (Array.replicate l0_2.length (Value.int .i64 0)) 3)) (.cells #[.slice (some ⟨w1.heap.size,0,none⟩) l0_2.length l0_2.length] 30)
   rwa [World.size_alloc] at this
 · refine blk_alloc (blk_alloc ((blk_new w1 _).trans ?_) _) _
   simp
 · have := blk_new ((w1.alloc (.cells (Array.replicate l0_2.length (Value.int .i64 0)) 3)).alloc (.cells #[.slice (some ⟨w1.heap.size,0,none⟩) l0_2.length l0_2.length] 30)) (.cells #[.func (.func 106) #[] #[.pointer (some ⟨w1.heap.size + 1,0,none⟩),.pointer (some ⟨gy,0,none⟩),.pointer (some ⟨gb,0,none⟩),.pointer (some ⟨w1.heap.size + 1 + 1,0,none⟩)]] 140)
   rw [World.size_alloc,World.size_alloc] at this
   exact this
attribute [local go_sem] Oper.semAt_some
theorem heights_stops (gb gch : Nat) (A0_0 : Option Addr) (c0_0 n0 : Nat) (a0_1 : Int) (A0_2 : Option Addr) (c0_2 : Nat) (l0_2 : List S64) (a0_3 a0_4 change : Int) (w : World) (bb : w.heap[gb]? = some (.cells #[.slice A0_0 n0 c0_0,.int .i64 a0_1,.slice A0_2 l0_2.length c0_2,.int .i64 a0_3,.int .i64 a0_4] 27 (0,0))) (bch : w.heap[gch]? = some (.cells #[.int .i64 change] 3 (0,0))) (hrows : Kd.C k64 w A0_2 l0_2.length l0_2) (h0 : 0 ≤ change) (h1 : change ≤ 1000) (hh : ∀ h ∈ l0_2.map (·.f1),0 ≤ h ∧ h ≤ 40) (hnl : l0_2.length ≤ 1000000) (n : Nat) :
 SeqStopsC Fence.wide n Tryz.prog 105 #[.pointer (some ⟨gb,0,none⟩),.pointer (some ⟨gch,0,none⟩)] hEnc (hOk w.heap.size l0_2.length) KeepsCells (fun xs => xs.map (·.1) = hsOf (l0_2.map (·.f1)) [] change) (fun xs => xs.map (·.1) <+: hsOf (l0_2.map (·.f1)) [] change) w := by
 intro l J Jx W hW hlt hJ hY hj
 have hu := Tryz.underlying27
 have hms := run_makeInts l0_2.length hnl
 have bb2 := blk_below bb hW
 have bch2 := blk_below bch hW
 have e0 := (blk_cell bb2 2).trans rfl
 have e1 := (blk_cell bch2 0).trans rfl
 refine callsIn_of_wp Tryz.func105 rfl trivial ?_ rfl
 simp only [Tryz.ntmps105,List.size_toArray,List.length_cons,List.length_nil,Nat.reduceAdd,Nat.reduceSub,Array.replicate_succ,Array.replicate_zero,List.push_toArray,List.append_toArray,List.nil_append,List.cons_append]
 have hWs := am hW.size
 have hW := am hW
 have bb2 := am bb2
 have bch2 := am bch2
 have hj := am hj
 gi_wp2_with (first | ((with_reducible refine gateIn (N := 3) rfl ?_);refine boxIn rfl (fun _ => trivial) ?hg (cs := #[.func (.yield l) #[] #[]]) (t := 109) ?hr ?_;(case hg => rfl);(case hr => go_simp;try rfl);intro gy hg w1 hbox hb;have Sgy := am hg;have hW2 := below_then hW.out hW.out.size hb;have n1 := am hW2;clear hW hW2;have hW := n1;clear n1;have n1 := (kmv hb bb2);clear bb2;have bb2 := n1;clear n1;have n1 := (kmv hb bch2);clear bch2;have bch2 := n1;clear n1;have n1 := am (hJ.below hj.out hb);clear hj;have hj := n1;clear n1;have Bgy := am hbox;have hb5 := below_alloc (below_alloc (below_alloc (Below.refl w1.heap.size w1) (.cells (Array.replicate l0_2.length (Value.int .i64 0)) 3)) (.cells #[.slice (some ⟨w1.heap.size,0,none⟩) l0_2.length l0_2.length] 30)) (.cells #[.func (.func 106) #[] #[.pointer (some ⟨w1.heap.size + 1,0,none⟩),.pointer (some ⟨gy,0,none⟩),.pointer (some ⟨gb,0,none⟩),.pointer (some ⟨w1.heap.size + 1 + 1,0,none⟩)]] 140);have e5 := (blk_cell (blk_below bch2.out hb5) 0).trans rfl;have S5 := hst5 (l := l) Bgy.out bb2.out (KeepsCells.of_below hW.out) hnl;have C5 := am (set_in w l (w1.heap.size + 1) w1.heap.size gy gb (w1.heap.size + 1 + 1) A0_0 c0_0 n0 a0_1 A0_2 c0_2 l0_2 a0_3 a0_4 J Jx W.heap.size hJ (n - 1) (fun pre x W1 h1_ h2_ => hY pre x W1 h1_ (hOk_lower h2_ hWs.out)) hb.size hrows (l0_2.map (·.f1)) [] (List.replicate l0_2.length 0) change [] (n - 1) _ [] rfl rfl (by simp) h0 h1 hh ⟨by simp;omega,fun z hz => by cases hz⟩ S5 (hJ.below hj.out hb5));clear S5 hb5;clear hg hb hbox;(try clear e0 e1);have e0 : w1.cell? ⟨gb,2,none⟩ = some (.slice A0_2 l0_2.length c0_2) := (blk_cell bb2.out 2).trans rfl;have e1 := cO1 bch2.out) | ((with_reducible refine gateIn (N := 9) rfl ?_);refine eventIn rfl (fun _ => trivial) ?hg ?hr ?_;(case hg => rfl);(case hr => exact hms _);generalize hgr : w1.heap.size = gr;(have hbox := blk_new w1 (.cells ((List.replicate l0_2.length (0 : Int)).map (Value.int .i64)).toArray 3 (0,0)));rw [hgr] at hbox;have hb := below_alloc (Below.refl w1.heap.size w1) (.cells ((List.replicate l0_2.length (0 : Int)).map (Value.int .i64)).toArray 3 (0,0));generalize w1.alloc (.cells ((List.replicate l0_2.length (0 : Int)).map (Value.int .i64)).toArray 3 (0,0)) = w2 at hbox hb ⊢;have Sgr := am hgr.symm;have hW2 := below_then hW.out hW.out.size hb;have n1 := am hW2;clear hW hW2;have hW := n1;clear n1;have n1 := (kmv hb bb2);clear bb2;have bb2 := n1;clear n1;have n1 := (kmv hb bch2);clear bch2;have bch2 := n1;clear n1;have n1 := am (hJ.below hj.out hb);clear hj;have hj := n1;clear n1;have n1 := (kmv hb Bgy);clear Bgy;have Bgy := n1;clear n1;have Bgr := am hbox;clear hgr hb hbox;(try clear e0 e1);have e0 : w2.cell? ⟨gb,2,none⟩ = some (.slice A0_2 l0_2.length c0_2) := (blk_cell bb2.out 2).trans rfl;have e1 := cO1 bch2.out) | ((with_reducible refine gateIn (N := 4) rfl ?_);refine boxIn rfl (fun _ => trivial) ?hg (cs := #[.slice none 0 0]) (t := 30) ?hr ?_;(case hg => rfl);(case hr => go_simp;try rfl);intro gn hg w3 hbox hb;have Sgn := am hg;have hW2 := below_then hW.out hW.out.size hb;have n1 := am hW2;clear hW hW2;have hW := n1;clear n1;have n1 := (kmv hb bb2);clear bb2;have bb2 := n1;clear n1;have n1 := (kmv hb bch2);clear bch2;have bch2 := n1;clear n1;have n1 := am (hJ.below hj.out hb);clear hj;have hj := n1;clear n1;have n1 := (kmv hb Bgy);clear Bgy;have Bgy := n1;clear n1;have n1 := (kmv hb Bgr);clear Bgr;have Bgr := n1;clear n1;have Bgn := am hbox;clear hg hb hbox;(try clear e0 e1);have e0 : w3.cell? ⟨gb,2,none⟩ = some (.slice A0_2 l0_2.length c0_2) := (blk_cell bb2.out 2).trans rfl;have e1 := cO1 bch2.out;(try clear hcgn);have hcgn := cO1 Bgn.out))
 refine ⟨trivial,fun h => Bool.noConfusion h,?_⟩
 have c5 := C5.out
 rw [show (((([] : List Int).length : Nat)) : Int) = 0 from rfl] at c5
 refine c5.mono ?_
 rintro e W6 (⟨rfl,tl,xs,_,_,hxs,hj6⟩ | ⟨rfl,xs,hxs,hj6⟩)
 · gi_wp2
   go_end0
   exact ⟨⟨_,rfl⟩,.inl ⟨xs,hxs,by simpa using hj6⟩⟩
 · gi_wp2
   go_end0
   exact ⟨⟨_,rfl⟩,.inr ⟨xs,hxs,by simpa using hj6⟩⟩
end Go.Proofs.YticlelgmmonloaaGreatDoor.C
namespace Go.Proofs.YticlelgmmonloaaGreatDoor.C
open Go.RowKit Go.Proofs.YticlelgmmonloaaGreatDoorW.PrintWords Go.Proofs.YticlelgmmonloaaGreatDoorW.PrintLast Go.Proofs.YticlelgmmonloaaGreatDoorW.PrintMore
set_option linter.unusedVariables false
set_option linter.unusedSimpArgs false
set_option maxHeartbeats 16000000
set_option maxRecDepth 100000
theorem ca_heights.calls (A0_0 : Option Addr) (n0 c0_0 : Nat) (a0_1 : Int) (A0_2 : Option Addr) (n2 c0_2 : Nat) (a0_3 a0_4 a1 : Int) (w : World) :
 Calls Tryz.prog 80 #[.agg #[.slice A0_0 n0 c0_0,.int .i64 a0_1,.slice A0_2 n2 c0_2,.int .i64 a0_3,.int .i64 a0_4],.int .i64 a1] w fun e w' => ∃ gb gch : Nat,e = .returned (.func (.func 105) #[] #[.pointer (some ⟨gb,0,none⟩),.pointer (some ⟨gch,0,none⟩)]) ∧ w'.heap[gb]? = some (.cells #[.slice A0_0 n0 c0_0,.int .i64 a0_1,.slice A0_2 n2 c0_2,.int .i64 a0_3,.int .i64 a0_4] 27 (0,0)) ∧ w'.heap[gch]? = some (.cells #[.int .i64 a1] 3 (0,0)) ∧ Below w.heap.size w w' := by
 have hu := Tryz.underlying27
 have hmf : ∀ (fn : Fn) (first cap : Array Value) (w : World),(Instr.makeFunc fn first cap).run Tryz.prog w = .ok (.func fn first cap) w := fun _ _ _ _ => rfl
 have HB := Aside0.mk (Below.refl w.heap.size w)
 go_enter Tryz.func80,Tryz.ntmps80
 go_wp2_with (first | ((with_reducible refine gate_dst (N := 2) rfl ?_);(try (refine gate_guard (by rfl) ?_;dsimp only));refine box_event ?hg (N := 2) ?hd (cs := #[.slice A0_0 n0 c0_0,.int .i64 a0_1,.slice A0_2 n2 c0_2,.int .i64 a0_3,.int .i64 a0_4]) (t := 27) ?hr ?_;(case hd => rfl);(case hg => rfl);(case hr => go_simp;try rfl);intro gb hg w1 hbox hb;have n_ := Aside0.mk (below_then HB.out HB.out.size hb);clear HB;have HB := n_;clear n_;clear hg;have BKgb := Aside0.mk hbox;clear hbox;(try clear hczgb_0 hfzgb_0);have hczgb_0 : w1.cell? ⟨gb,0,none⟩ = some (.slice A0_0 n0 c0_0) := (blk_cell BKgb.out 0).trans rfl;have hfzgb_0 := blk_frozen BKgb.out 0;(try clear hczgb_1 hfzgb_1);have hczgb_1 : w1.cell? ⟨gb,1,none⟩ = some (.int .i64 a0_1) := (blk_cell BKgb.out 1).trans rfl;have hfzgb_1 := blk_frozen BKgb.out 1;(try clear hczgb_2 hfzgb_2);have hczgb_2 : w1.cell? ⟨gb,2,none⟩ = some (.slice A0_2 n2 c0_2) := (blk_cell BKgb.out 2).trans rfl;have hfzgb_2 := blk_frozen BKgb.out 2;(try clear hczgb_3 hfzgb_3);have hczgb_3 : w1.cell? ⟨gb,3,none⟩ = some (.int .i64 a0_3) := (blk_cell BKgb.out 3).trans rfl;have hfzgb_3 := blk_frozen BKgb.out 3;(try clear hczgb_4 hfzgb_4);have hczgb_4 : w1.cell? ⟨gb,4,none⟩ = some (.int .i64 a0_4) := (blk_cell BKgb.out 4).trans rfl;have hfzgb_4 := blk_frozen BKgb.out 4;clear hb) | ((with_reducible refine gate_dst (N := 3) rfl ?_);(try (refine gate_guard (by rfl) ?_;dsimp only));refine box_event ?hg (N := 3) ?hd (cs := #[.int .i64 a1]) (t := 3) ?hr ?_;(case hd => rfl);(case hg => rfl);(case hr => go_simp;try rfl);intro gch hg w2 hbox hb;have n_ := Aside0.mk (below_then HB.out HB.out.size hb);clear HB;have HB := n_;clear n_;have n_ := Aside0.mk (blk_below BKgb.out hb);clear BKgb;have BKgb := n_;clear n_;clear hg;have BKgch := Aside0.mk hbox;clear hbox;(try clear hczgb_0 hfzgb_0);have hczgb_0 : w2.cell? ⟨gb,0,none⟩ = some (.slice A0_0 n0 c0_0) := (blk_cell BKgb.out 0).trans rfl;have hfzgb_0 := blk_frozen BKgb.out 0;(try clear hczgb_1 hfzgb_1);have hczgb_1 : w2.cell? ⟨gb,1,none⟩ = some (.int .i64 a0_1) := (blk_cell BKgb.out 1).trans rfl;have hfzgb_1 := blk_frozen BKgb.out 1;(try clear hczgb_2 hfzgb_2);have hczgb_2 : w2.cell? ⟨gb,2,none⟩ = some (.slice A0_2 n2 c0_2) := (blk_cell BKgb.out 2).trans rfl;have hfzgb_2 := blk_frozen BKgb.out 2;(try clear hczgb_3 hfzgb_3);have hczgb_3 : w2.cell? ⟨gb,3,none⟩ = some (.int .i64 a0_3) := (blk_cell BKgb.out 3).trans rfl;have hfzgb_3 := blk_frozen BKgb.out 3;(try clear hczgb_4 hfzgb_4);have hczgb_4 : w2.cell? ⟨gb,4,none⟩ = some (.int .i64 a0_4) := (blk_cell BKgb.out 4).trans rfl;have hfzgb_4 := blk_frozen BKgb.out 4;(try clear hczgch_0 hfzgch_0);have hczgch_0 : w2.cell? ⟨gch,0,none⟩ = some (.int .i64 a1) := (blk_cell BKgch.out 0).trans rfl;have hfzgch_0 := blk_frozen BKgch.out 0;clear hb))
 go_ret
 exact ⟨_,_,rfl,BKgb.out,BKgch.out,HB.out⟩
set_option linter.unusedSimpArgs false
set_option linter.unusedSimpArgs false
section
attribute [local go_sem] max2_int min2_int max_two min_two
set_option linter.unusedSimpArgs false
set_option linter.unusedSimpArgs false
def ca_isFlow.f (a0 : Int) : Option (Bool) := (ca_in.f a0 0 10000).bind fun t109 => (some t109)
theorem ca_isFlow.calls (a0 : Int) (r : Bool) (w : World) (h : ca_isFlow.f a0 = some r) :
 Calls Tryz.prog 58 #[.int .i64 a0] w fun e w' => e = .returned (.bool r) ∧ Drawn0 w w' := by
 have H : ((ca_in.f a0 0 10000).bind fun t109 => (some t109)) = some r := h
 clear h
 replace H := obm H
 obtain ⟨t109,A20,H⟩ := H
 replace H : (some t109) = some r := H
 have A2 := am A20
 clear A20
 obtain rfl := Option.some.inj H
 go_enter Tryz.func58,Tryz.ntmps58
 go_wp2_with (first | ((with_reducible refine gate_callee (f := 73) rfl ?_);refine goesL_ (some 4) rfl rfl Tryz.func73 (by kernel_rfl) rfl #[.int .i64 a0,.int .i64 0,.int .i64 10000] rfl (by (try simp only [List.map_toArray,List.map_cons,List.map_nil]);first | done | rfl | (simp only [List.length_drop,List.length_take];rfl)) ?_;(with_reducible refine (ca_in.calls a0 0 10000 t109 _ A2.out).mono ?_);rintro e w' ⟨rfl,⟨nd,rfl⟩⟩;refine ⟨_,rfl,?_⟩))
 go_ret
 exact ⟨by first | rfl | (simp;done) | (simp [*];done),by repeat (first | exact Drawn0.refl _ | apply Drawn0.step)⟩
end
set_option linter.unusedSimpArgs false
set_option linter.unusedSimpArgs false
def Pred_isBasin (g : Nat) (q : S64 → Option Bool) (w : World) (xs : List S64) : Prop := ∀ (x : S64) (b : Bool) (W : World) , x ∈ xs → q x = some b → Below w.heap.size w W → 
 Calls Tryz.prog 94 #[.agg #[.int .i64 x.f0,.int .i64 x.f1],.pointer (some ⟨g,0,none⟩)] W fun e W' => e = .returned (.bool b) ∧ Below W.heap.size W W'
theorem idx_isBasin (g : Nat) (q : S64 → Option Bool) (A : Option Addr) (c : Nat) (xs : List S64) (r : Int) (w : World) (hr : Kd.C k64 w A xs.length xs) (hp : Pred_isBasin g q w xs) (h : idxM q xs 0 = some r) :
 Calls Tryz.prog 116 #[.slice A xs.length c,.func (.func 94) #[] #[.pointer (some ⟨g,0,none⟩)]] w fun e w' => e = .returned (.int .i64 r) ∧ Below w.heap.size w w' := by
 have huE := Tryz.underlying64
 have HR := am hr
 have HP := am hp
 have HQ := am (show idxM q (xs.drop (0 : Int).toNat) 0 = some r from h)
 have hm : xs.length ≤ 9223372036854775807 := Kd.C_max hr
 clear hr hp h
 go_enter Tryz.func116,Tryz.ntmps116
 go_wp2
 go_loopw [5,8] (fun v5 v8 w' => ∃ i : Int,0 ≤ i ∧ i ≤ xs.length ∧ v8 = .int .i64 i ∧ Aside0 (idxM q (xs.drop i.toNat) i = some r) ∧ Aside0 (Below w.heap.size w w')) (fun _ v8 _ => xs.length - (intOf v8).toNat)
 case atStart => exact ⟨0,by omega,by omega,rfl,HQ,⟨Below.refl _ _⟩⟩
 case round =>
  clear HQ
  obtain ⟨i,p1,hi,rfl,HQ,HB⟩ := hrel
  by_cases hlt : i < (xs.length : Int)
  case neg =>
   go_wp2
   go_ret
   exact ⟨ret_int_eq (idxM_end (by omega) HQ.out),HB.out⟩
  obtain ⟨ad,e1,hx0,hx1⟩ := at_T64 HR.out i p1 hlt
  cases e1
  replace hx0 := (HB.out.cell (wbl hx0)).trans hx0
  replace hx1 := (HB.out.cell (wbl hx1)).trans hx1
  rcases idxM_step z64 p1 hlt HQ.out with ⟨hq,he⟩ | ⟨hq,hn⟩
  · have H1 := am hq
    have X1 := am (getD_mem z64 p1 hlt)
    have H2 := am he
    clear hq he
    go_wp2_with (go_at_call 94;refine (HP.out (xs.getD i.toNat z64) _ _ X1.out H1.out HB.out).mono ?_;rintro e W' ⟨rfl,hb⟩)
    go_ret
    exact ⟨ret_int_eq H2.out,below_then HB.out HB.out.size hb⟩
  · have H1 := am hq
    have X1 := am (getD_mem z64 p1 hlt)
    have H2 := am hn
    clear hq hn
    go_wp2_with (go_at_call 94;refine (HP.out (xs.getD i.toNat z64) _ _ X1.out H1.out HB.out).mono ?_;rintro e W' ⟨rfl,hb⟩)
    go_roundw
    case rel => exact ⟨i + 1,by omega,by omega,by go_num,H2,⟨below_then HB.out HB.out.size hb⟩⟩
    case measure => simp [intOf];omega
theorem any_isBasin (g : Nat) (q : S64 → Option Bool) (A : Option Addr) (c : Nat) (xs : List S64) (r : Bool) (w : World) (hr : Kd.C k64 w A xs.length xs) (hp : Pred_isBasin g q w xs) (h : anyM q xs = some r) :
 Calls Tryz.prog 96 #[.slice A xs.length c,.func (.func 94) #[] #[.pointer (some ⟨g,0,none⟩)]] w fun e w' => e = .returned (.bool r) ∧ Below w.heap.size w w' := by
 obtain ⟨j,hj,hd⟩ := idxM_of_anyM q xs 0 r (by omega) h
 have H1 := am hj
 have H2 := am hd
 have HR := am hr
 have HP := am hp
 clear hr hp h hj hd
 go_enter Tryz.func96,Tryz.ntmps96
 go_wp2_with (go_at_call 116;refine (idx_isBasin g q _ _ xs j _ HR.out HP.out H1.out).mono ?_;rintro e W' ⟨rfl,hb⟩)
 go_ret
 exact ⟨ret_bool_eq H2.out,hb⟩
end Go.Proofs.YticlelgmmonloaaGreatDoor.C

/- A part of the proof: the walks of the functions that it reaches. TIGHT. -/
import Derived.Test.YtnnmnhpeblhiiaaGreatDoorMC10
import Derived.WideKeyRuns
set_option linter.unusedVariables false
set_option linter.unusedSimpArgs false
namespace Go.Proofs.YtnnmnhpeblhiiaaGreatDoor.C
open Go.RowKit Go.Proofs.YtnnmnhpeblhiiaaGreatDoorW.PrintWords Go.Proofs.YtnnmnhpeblhiiaaGreatDoorW.PrintLast Go.Proofs.YtnnmnhpeblhiiaaGreatDoorW.PrintMore
set_option linter.unusedVariables false
set_option linter.unusedSimpArgs false
set_option maxHeartbeats 16000000
set_option maxRecDepth 100000
theorem skip_abs {P : Program} {ops : Array Oper} {o : Oper} {a : Act} {Q : Exit→Act→World→Prop} {rest : List Oper} {W W1 : World} (Rr : World→Prop) (hgd : o.guard = none) (hN : o.dst = none)
  (hrun : (execOp a.eval o).run P W = .ok .skip W1) (hR : Rr W1) (h : ∀ W',Rr W'→wpList P ops Q rest a W') : wpList P ops Q (o :: rest) a W:=by
 refine wpList_plain hgd fun K hK=>?_
 unfold Oper.wp
 rw [hrun]
 show K (a.put o.dst undef) W1
 rw [hN]
 exact hK _ _ (h W1 hR)
theorem eqFeed (d : Nat) (w : World) (x0 y0 : Int) (x1 y1 : Int) :
 (Op.equalIn (d + 2) 66 (.agg #[.int .i64 x0,.int .i64 x1]) (.agg #[.int .i64 y0,.int .i64 y1])).run Tryz.prog w = .ok (x0 == y0 && (x1 == y1)) w := by
 refine eqA_of Tryz.underlying66 (by kernel_rfl) ?_
 refine eqf_cons (by rfl) (by go_simp;rfl) (by go_simp;rfl) (by go_simp) ?_
 exact eqf_last (by rfl) (by go_simp;rfl) (by go_simp;rfl) (by go_simp)
def setO (W : World) (b : Nat) (o : Obj) : World := { W with heap := W.heap.setIfInBounds b o }
theorem setO_same {W : World} {b : Nat} {o' : Obj} (o : Obj) (h : W.heap[b]? = some o') : (setO W b o).heap[b]? = some o := by
 simp [setO,Array.getElem?_setIfInBounds,(Array.getElem?_eq_some_iff.1 h).1]
theorem setO_other {W : World} {b k : Nat} {o' : Obj} (o : Obj) (h : W.heap[k]? = some o') (hne : k ≠ b) : (setO W b o).heap[k]? = some o' := by
 simp [setO,Array.getElem?_setIfInBounds,Ne.symm hne,h]
theorem below_setO {B : Nat} {w W : World} {b : Nat} (o : Obj) (h : Below B w W) (hb : B ≤ b) : Below B w (setO W b o) :=
 ⟨h.os,h.tape,h.output,by simpa [setO] using h.size,fun i hi => by rw [show (setO W b o).heap[i]? = W.heap[i]? by simp [setO,Array.getElem?_setIfInBounds,show b ≠ i by omega]];exact h.block i hi⟩
theorem obj_far {w : World} {k : Nat} {o : Obj} (h : w.heap[k]? = some o) {p : Addr} (hp : k ≠ p.block) (u : Value) : (w.setCell p u).heap[k]? = some o := by
 simp [World.setCell,Array.getElem?_modify,Ne.symm hp,h]
def feedKey (f : S66) : Value := .agg #[.int .i64 f.f0,.int .i64 f.f1]
def ents (fs : List S66) : List MapEntry := fs.zipIdx.map fun p => ⟨feedKey p.1,.agg #[],p.2⟩
theorem ents_snoc (fs : List S66) (f : S66) : ents (fs ++ [f]) = ents fs ++ [⟨feedKey f,.agg #[],fs.length⟩] := by
 unfold ents;rw [List.zipIdx_append];simp
def hasFeed (fs : List S66) (f : S66) : Bool := fs.any fun g => f.f0 == g.f0 && f.f1 == g.f1
theorem chk (n : Nat) (em : Bool) (w : World) (x y : Int) : (Instr.checkKey em (n + 2) 66 (.agg #[.int .i64 x,.int .i64 y])).run Tryz.prog w = .ok () w := by
 have hu := Tryz.underlying66
 have h3 := Tryz.underlying3
 have h1 : ∀ z,(Instr.checkKey em (n + 1) 3 (.int .i64 z)).run Tryz.prog w = .ok () w := fun z => by simp [Instr.checkKey,run_underlying h3]
 rw [Instr.checkKey]
 simp [run_underlying hu,part,Sem.run_bind,h1,go_sem]
theorem asking (w : World) (f : S66) : ∀ (fs : List S66) (i j : Nat),∃ r,(Instr.findAsking 66 (feedKey f) ((fs.zipIdx j).map fun p => ⟨feedKey p.1,.agg #[],p.2⟩) i).run Tryz.prog w = .ok r w ∧ ((hasFeed fs f = true ∧ ∃ k,r = some (k,.agg #[])) ∨ (hasFeed fs f = false ∧ r = none))
 | [],i,j => ⟨none,by simp [Instr.findAsking],.inr ⟨rfl,rfl⟩⟩
 | g :: fs,i,j => by
  obtain ⟨r,hr,hc⟩ := asking w f fs (i + 1) (j + 1)
  simp only [List.zipIdx_cons,List.map_cons]
  by_cases he : f.f0 = g.f0 ∧ f.f1 = g.f1
  · exact ⟨some (i,.agg #[]),by simp [Instr.findAsking,feedKey,Op.equal,Op.maxDepth,eqFeed 9998,he],.inl ⟨by simp [hasFeed,he],i,rfl⟩⟩
  · refine ⟨r,?_,?_⟩
    · simp only [feedKey] at hr ⊢
      simp [Instr.findAsking,Op.equal,Op.maxDepth,eqFeed 9998,he,hr]
    · have : hasFeed (g :: fs) f = hasFeed fs f := by
       unfold hasFeed;rw [List.any_cons]
       have : (f.f0 == g.f0 && f.f1 == g.f1) = false := by
        rw [Bool.and_eq_false_iff];simp only [beq_eq_false_iff_ne];omega
       rw [this,Bool.false_or]
      rw [this];exact hc
theorem lookE (W : World) (b : Nat) (fs : List S66) (n : Nat) (f : S66) (hb : W.heap[b]? = some (.map (ents fs).toArray n)) :
 (Instr.lookup 148 (.map (some b)) (.agg #[.int .i64 f.f0,.int .i64 f.f1]) true).run Tryz.prog W = .ok (.tuple #[.agg #[],.bool (hasFeed fs f)]) W := by
 have hu := Tryz.underlying148
 obtain ⟨r,hr,hc⟩ := asking W f fs 0 0
 have hf : (Instr.findKey 66 (.agg #[.int .i64 f.f0,.int .i64 f.f1]) (ents fs)).run Tryz.prog W = .ok r W := by
  rw [run_findKey_eq W (by kernel_rfl)];exact hr
 have hk : ∀ em,(Instr.checkKey em 10000 66 (.agg #[.int .i64 f.f0,.int .i64 f.f1])).run Tryz.prog W = .ok () W := fun em => chk 9998 em W f.f0 f.f1
 have hz : (zeroValue 149).run Tryz.prog W = .ok (.agg #[]) W := by kernel_rfl
 have hg : (getObj b).run Tryz.prog W = .ok (.map (ents fs).toArray n) W := by simp [getObj,Sem.run,hb]
 unfold Instr.lookup
 rcases hc with ⟨h1,k,rfl⟩ | ⟨h1,rfl⟩
 · simp [run_underlying hu,go_sem,hg,hk,hf,h1]
 · simp [run_underlying hu,go_sem,hg,hk,hf,h1,hz]
theorem updE (W : World) (b : Nat) (fs : List S66) (f : S66) (hn : hasFeed fs f = false) (hb : W.heap[b]? = some (.map (ents fs).toArray fs.length)) :
 (Instr.mapUpdate 148 (.map (some b)) (.agg #[.int .i64 f.f0,.int .i64 f.f1]) (.agg #[])).run Tryz.prog W = .ok () (setO W b (.map (ents (fs ++ [f])).toArray (fs.length + 1))) := by
 have hu := Tryz.underlying148
 obtain ⟨r,hr,hc⟩ := asking W f fs 0 0
 have hf : (Instr.findKey 66 (.agg #[.int .i64 f.f0,.int .i64 f.f1]) (ents fs)).run Tryz.prog W = .ok r W := by
  rw [run_findKey_eq W (by kernel_rfl)];exact hr
 have hk : ∀ em,(Instr.checkKey em 10000 66 (.agg #[.int .i64 f.f0,.int .i64 f.f1])).run Tryz.prog W = .ok () W := fun em => chk 9998 em W f.f0 f.f1
 have hg : (getObj b).run Tryz.prog W = .ok (.map (ents fs).toArray fs.length) W := by simp [getObj,Sem.run,hb]
 have hs : ∀ o,(setObj b o).run Tryz.prog W = .ok () (setO W b o) := fun o => by simp [setObj,Sem.run,hb,setO]
 unfold Instr.mapUpdate
 rcases hc with ⟨h1,k,rfl⟩ | ⟨h1,rfl⟩
 · rw [hn] at h1;cases h1
 · simp [run_underlying hu,go_sem,hg,hk,hf,h1,hs,ents_snoc,feedKey]
def Pred_isBasin (g : Nat) (q : S48 → Option Bool) (w : World) (xs : List S48) : Prop := ∀ (x : S48) (b : Bool) (W : World) , x ∈ xs → q x = some b → Below w.heap.size w W → 
 Calls Tryz.prog 102 #[.agg #[.int .i64 x.f0,.int .i64 x.f1],.pointer (some ⟨g,0,none⟩)] W fun e W' => e = .returned (.bool b) ∧ Below W.heap.size W W'
theorem idx_isBasin (g : Nat) (q : S48 → Option Bool) (A : Option Addr) (c : Nat) (xs : List S48) (r : Int) (w : World) (hr : Kd.C k48 w A xs.length xs) (hp : Pred_isBasin g q w xs) (h : idxM q xs 0 = some r) :
 Calls Tryz.prog 128 #[.slice A xs.length c,.func (.func 102) #[] #[.pointer (some ⟨g,0,none⟩)]] w fun e w' => e = .returned (.int .i64 r) ∧ Below w.heap.size w w' := by
 have huE := Tryz.underlying48
 have HR := am hr
 have HP := am hp
 have HQ := am (show idxM q (xs.drop (0 : Int).toNat) 0 = some r from h)
 have hm : xs.length ≤ 9223372036854775807 := Kd.C_max hr
 clear hr hp h
 go_enter Tryz.func128,Tryz.ntmps128
 go_wp2
 go_loopw [5,8] (fun v5 v8 w' => ∃ i : Int,0 ≤ i ∧ i ≤ xs.length ∧ v8 = .int .i64 i ∧ Aside0 (idxM q (xs.drop i.toNat) i = some r) ∧ Aside0 (Below w.heap.size w w')) (fun _ v8 _ => xs.length - (intOf v8).toNat)
 case atStart => exact ⟨0,by omega,by omega,rfl,HQ,⟨Below.refl _ _⟩⟩
 case round =>
  clear HQ
  obtain ⟨i,p1,hi,rfl,HQ,HB⟩ := hrel
  by_cases hlt : i < (xs.length : Int)
  case neg =>
   go_wp2
   go_ret
   exact ⟨ret_int_eq (idxM_end (by omega) HQ.out),HB.out⟩
  obtain ⟨ad,e1,hx0,hx1⟩ := at_T48 HR.out i p1 hlt
  cases e1
  replace hx0 := (HB.out.cell (wbl hx0)).trans hx0
  replace hx1 := (HB.out.cell (wbl hx1)).trans hx1
  rcases idxM_step z48 p1 hlt HQ.out with ⟨hq,he⟩ | ⟨hq,hn⟩
  · have H1 := am hq
    have X1 := am (getD_mem z48 p1 hlt)
    have H2 := am he
    clear hq he
    go_wp2_with (go_at_call 102;refine (HP.out (xs.getD i.toNat z48) _ _ X1.out H1.out HB.out).mono ?_;rintro e W' ⟨rfl,hb⟩)
    go_ret
    exact ⟨ret_int_eq H2.out,below_then HB.out HB.out.size hb⟩
  · have H1 := am hq
    have X1 := am (getD_mem z48 p1 hlt)
    have H2 := am hn
    clear hq hn
    go_wp2_with (go_at_call 102;refine (HP.out (xs.getD i.toNat z48) _ _ X1.out H1.out HB.out).mono ?_;rintro e W' ⟨rfl,hb⟩)
    go_roundw
    case rel => exact ⟨i + 1,by omega,by omega,by go_num,H2,⟨below_then HB.out HB.out.size hb⟩⟩
    case measure => simp [intOf];omega
theorem any_isBasin (g : Nat) (q : S48 → Option Bool) (A : Option Addr) (c : Nat) (xs : List S48) (r : Bool) (w : World) (hr : Kd.C k48 w A xs.length xs) (hp : Pred_isBasin g q w xs) (h : anyM q xs = some r) :
 Calls Tryz.prog 104 #[.slice A xs.length c,.func (.func 102) #[] #[.pointer (some ⟨g,0,none⟩)]] w fun e w' => e = .returned (.bool r) ∧ Below w.heap.size w w' := by
 obtain ⟨j,hj,hd⟩ := idxM_of_anyM q xs 0 r (by omega) h
 have H1 := am hj
 have H2 := am hd
 have HR := am hr
 have HP := am hp
 clear hr hp h hj hd
 go_enter Tryz.func104,Tryz.ntmps104
 go_wp2_with (go_at_call 128;refine (idx_isBasin g q _ _ xs j _ HR.out HP.out H1.out).mono ?_;rintro e W' ⟨rfl,hb⟩)
 go_ret
 exact ⟨ret_bool_eq H2.out,hb⟩
section
attribute [local go_sem] max2_int min2_int max_two min_two
def nz_in.f (a0 : Int) (a1 : Int) (a2 : Int) : Option (Bool) := if a0 ≥ a1 then (some (decide (a0 ≤ a2))) else (some false)
theorem nz_in.calls (a0 : Int) (a1 : Int) (a2 : Int) (r : Bool) (w : World) (h : nz_in.f a0 a1 a2 = some r) :
 Calls Tryz.prog 135 #[.int .i64 a0,.int .i64 a1,.int .i64 a2] w fun e w' => e = .returned (.bool r) ∧ Drawn0 w w' := by
 have H : (if a0 ≥ a1 then (some (decide (a0 ≤ a2))) else (some false)) = some r := h
 clear h
 by_cases c4 : a0 ≥ a1
 · rw [if_pos c4] at H
   have c4b0 : decide (a1 ≤ a0) = true := decide_eq_true c4
   clear c4
   obtain rfl := Option.some.inj H
   go_enter Tryz.func135,Tryz.ntmps135
   go_wp2
   go_ret
   exact ⟨by first | rfl | (simp;done) | (simp [*];done),by repeat (first | exact Drawn0.refl _ | apply Drawn0.step)⟩
 · rw [if_neg c4] at H
   have c4b0 : decide (a1 ≤ a0) = false := decide_eq_false c4
   clear c4
   obtain rfl := Option.some.inj H
   go_enter Tryz.func135,Tryz.ntmps135
   go_wp2
   go_ret
   exact ⟨by first | rfl | (simp;done) | (simp [*];done),by repeat (first | exact Drawn0.refl _ | apply Drawn0.step)⟩
def nz_isTable_1.f (a0_0 : Int) (a0_1 : Int) (a0_2 : Int) : Option (Bool) := (nz_in.f a0_0 1 60).bind fun t1054 => (if t1054 = true then ((nz_in.f a0_1 1 60).bind fun t1055 => (if t1055 = true then ((nz_in.f a0_2 1 1000).bind fun t1056 => (some (!t1056))) else (some true))) else (some true))
theorem nz_isTable_1.calls (a0_0 : Int) (a0_1 : Int) (a0_2 : Int) (r : Bool) (w : World) (h : nz_isTable_1.f a0_0 a0_1 a0_2 = some r) :
 Calls Tryz.prog 137 #[.agg #[.int .i64 a0_0,.int .i64 a0_1,.int .i64 a0_2]] w fun e w' => e = .returned (.bool r) ∧ Below w.heap.size w w' := by
 have hu126 := Tryz.underlying126
 have HB := am (Below.refl w.heap.size w)
 have H : ((nz_in.f a0_0 1 60).bind fun t1054 => (if t1054 = true then ((nz_in.f a0_1 1 60).bind fun t1055 => (if t1055 = true then ((nz_in.f a0_2 1 1000).bind fun t1056 => (some (!t1056))) else (some true))) else (some true))) = some r := h
 clear h
 replace H := obm H
 obtain ⟨t1054,A20,H⟩ := H
 replace H : (if t1054 = true then ((nz_in.f a0_1 1 60).bind fun t1055 => (if t1055 = true then ((nz_in.f a0_2 1 1000).bind fun t1056 => (some (!t1056))) else (some true))) else (some true)) = some r := H
 have A2 := am A20
 clear A20
 by_cases c3 : t1054 = true
 case neg =>
  replace c3 := Bool.eq_false_iff.mpr c3
  subst c3
  replace H : (some true) = some r := by rw [if_neg (show ¬ (false = true) by decide)] at H;exact H
  obtain rfl := Option.some.inj H
  go_enter Tryz.func137,Tryz.ntmps137
  go_wp2_with (first | ((refine gate_dst (N := 1) rfl ?_);refine box_event rfl (N := 1) rfl (cs := #[.int .i64 a0_0,.int .i64 a0_1,.int .i64 a0_2]) (t := 126) ?hr ?_;(case hr => go_simp;try rfl);intro gb1053 hg w11 hbox hb;have BK1053 := am (hbox);have GW1053 := am (ge_new (HB.out) hg);have GE1053 := am (ge_new (HB.out) hg);replace HB := am (below_step (HB.out) hb);clear hb hbox hg;obtain ⟨hcz12_0,hcz12_1,hcz12_2⟩ := cO3 BK1053.out) | ((with_reducible refine gate_callee (f := 135) rfl ?_);refine goesL_ (some 5) rfl rfl Tryz.func135 (by kernel_rfl) rfl #[.int .i64 a0_0,.int .i64 1,.int .i64 60] rfl (by (try simp only [List.map_toArray,List.map_cons,List.map_nil]);first | done | rfl | (simp only [List.length_drop,List.length_take];rfl)) ?_;(with_reducible refine (nz_in.calls a0_0 1 60 false _ A2.out).mono ?_);rintro e w' ⟨rfl,⟨nd,rfl⟩⟩;refine ⟨_,rfl,?_⟩))
  go_ret
  exact ⟨by first | rfl | (simp [*] <;> rfl),pw_below_drewN HB.out _⟩
 subst c3
 replace H : ((nz_in.f a0_1 1 60).bind fun t1055 => (if t1055 = true then ((nz_in.f a0_2 1 1000).bind fun t1056 => (some (!t1056))) else (some true))) = some r := by rw [if_pos rfl] at H;exact H
 replace H := obm H
 obtain ⟨t1055,A40,H⟩ := H
 replace H : (if t1055 = true then ((nz_in.f a0_2 1 1000).bind fun t1056 => (some (!t1056))) else (some true)) = some r := H
 have A4 := am A40
 clear A40
 by_cases c5 : t1055 = true
 case neg =>
  replace c5 := Bool.eq_false_iff.mpr c5
  subst c5
  replace H : (some true) = some r := by rw [if_neg (show ¬ (false = true) by decide)] at H;exact H
  obtain rfl := Option.some.inj H
  go_enter Tryz.func137,Tryz.ntmps137
  go_wp2_with (first | ((refine gate_dst (N := 1) rfl ?_);refine box_event rfl (N := 1) rfl (cs := #[.int .i64 a0_0,.int .i64 a0_1,.int .i64 a0_2]) (t := 126) ?hr ?_;(case hr => go_simp;try rfl);intro gb1053 hg w9 hbox hb;have BK1053 := am (hbox);have GW1053 := am (ge_new (HB.out) hg);have GE1053 := am (ge_new (HB.out) hg);replace HB := am (below_step (HB.out) hb);clear hb hbox hg;obtain ⟨hcz10_0,hcz10_1,hcz10_2⟩ := cO3 BK1053.out) | ((with_reducible refine gate_callee (f := 135) rfl ?_);refine goesL_ (some 5) rfl rfl Tryz.func135 (by kernel_rfl) rfl #[.int .i64 a0_0,.int .i64 1,.int .i64 60] rfl (by (try simp only [List.map_toArray,List.map_cons,List.map_nil]);first | done | rfl | (simp only [List.length_drop,List.length_take];rfl)) ?_;(with_reducible refine (nz_in.calls a0_0 1 60 true _ A2.out).mono ?_);rintro e w' ⟨rfl,⟨nd,rfl⟩⟩;refine ⟨_,rfl,?_⟩) | (go_at_call 135;(with_reducible refine (nz_in.calls a0_1 1 60 false _ A4.out).mono ?_);rintro e w' ⟨rfl,⟨nd,rfl⟩⟩))
  go_ret
  exact ⟨by first | rfl | (simp [*] <;> rfl),pw_below_drewN HB.out _⟩
 subst c5
 replace H : ((nz_in.f a0_2 1 1000).bind fun t1056 => (some (!t1056))) = some r := by rw [if_pos rfl] at H;exact H
 replace H := obm H
 obtain ⟨t1056,A60,H⟩ := H
 replace H : (some (!t1056)) = some r := H
 have A6 := am A60
 clear A60
 obtain rfl := Option.some.inj H
 go_enter Tryz.func137,Tryz.ntmps137
 go_wp2_with (first | ((refine gate_dst (N := 1) rfl ?_);refine box_event rfl (N := 1) rfl (cs := #[.int .i64 a0_0,.int .i64 a0_1,.int .i64 a0_2]) (t := 126) ?hr ?_;(case hr => go_simp;try rfl);intro gb1053 hg w7 hbox hb;have BK1053 := am (hbox);have GW1053 := am (ge_new (HB.out) hg);have GE1053 := am (ge_new (HB.out) hg);replace HB := am (below_step (HB.out) hb);clear hb hbox hg;obtain ⟨hcz8_0,hcz8_1,hcz8_2⟩ := cO3 BK1053.out) | ((with_reducible refine gate_callee (f := 135) rfl ?_);refine goesL_ (some 5) rfl rfl Tryz.func135 (by kernel_rfl) rfl #[.int .i64 a0_0,.int .i64 1,.int .i64 60] rfl (by (try simp only [List.map_toArray,List.map_cons,List.map_nil]);first | done | rfl | (simp only [List.length_drop,List.length_take];rfl)) ?_;(with_reducible refine (nz_in.calls a0_0 1 60 true _ A2.out).mono ?_);rintro e w' ⟨rfl,⟨nd,rfl⟩⟩;refine ⟨_,rfl,?_⟩) | (go_at_call 135;(with_reducible refine (nz_in.calls a0_1 1 60 true _ A4.out).mono ?_);rintro e w' ⟨rfl,⟨nd,rfl⟩⟩) | (go_at_call 135;(with_reducible refine (nz_in.calls a0_2 1 1000 t1056 _ A6.out).mono ?_);rintro e w' ⟨rfl,⟨nd,rfl⟩⟩))
 go_ret
 exact ⟨by first | rfl | (simp [*] <;> rfl),pw_below_drewN HB.out _⟩
end
def Pred_isTable (q : S126 → Option Bool) (w : World) (xs : List S126) : Prop := ∀ (x : S126) (b : Bool) (W : World) , x ∈ xs → q x = some b → Below w.heap.size w W → 
 Calls Tryz.prog 137 #[.agg #[.int .i64 x.f0,.int .i64 x.f1,.int .i64 x.f2]] W fun e W' => e = .returned (.bool b) ∧ Below W.heap.size W W'
theorem idx_isTable (q : S126 → Option Bool) (A : Option Addr) (c : Nat) (xs : List S126) (r : Int) (w : World) (hr : Kd.C k126 w A xs.length xs) (hp : Pred_isTable q w xs) (h : idxM q xs 0 = some r) :
 Calls Tryz.prog 146 #[.slice A xs.length c,.func (.func 137) #[] #[]] w fun e w' => e = .returned (.int .i64 r) ∧ Below w.heap.size w w' := by
 have huE := Tryz.underlying126
 have HR := am hr
 have HP := am hp
 have HQ := am (show idxM q (xs.drop (0 : Int).toNat) 0 = some r from h)
 have hm : xs.length ≤ 9223372036854775807 := Kd.C_max hr
 clear hr hp h
 go_enter Tryz.func146,Tryz.ntmps146
 go_wp2
 go_loopw [5,8] (fun v5 v8 w' => ∃ i : Int,0 ≤ i ∧ i ≤ xs.length ∧ v8 = .int .i64 i ∧ Aside0 (idxM q (xs.drop i.toNat) i = some r) ∧ Aside0 (Below w.heap.size w w')) (fun _ v8 _ => xs.length - (intOf v8).toNat)
 case atStart => exact ⟨0,by omega,by omega,rfl,HQ,⟨Below.refl _ _⟩⟩
 case round =>
  clear HQ
  obtain ⟨i,p1,hi,rfl,HQ,HB⟩ := hrel
  by_cases hlt : i < (xs.length : Int)
  case neg =>
   go_wp2
   go_ret
   exact ⟨ret_int_eq (idxM_end (by omega) HQ.out),HB.out⟩
  obtain ⟨ad,e1,hx0,hx1,hx2⟩ := at_T126 HR.out i p1 hlt
  cases e1
  replace hx0 := (HB.out.cell (wbl hx0)).trans hx0
  replace hx1 := (HB.out.cell (wbl hx1)).trans hx1
  replace hx2 := (HB.out.cell (wbl hx2)).trans hx2
  rcases idxM_step z126 p1 hlt HQ.out with ⟨hq,he⟩ | ⟨hq,hn⟩
  · have H1 := am hq
    have X1 := am (getD_mem z126 p1 hlt)
    have H2 := am he
    clear hq he
    go_wp2_with (go_at_call 137;refine (HP.out (xs.getD i.toNat z126) _ _ X1.out H1.out HB.out).mono ?_;rintro e W' ⟨rfl,hb⟩)
    go_ret
    exact ⟨ret_int_eq H2.out,below_then HB.out HB.out.size hb⟩
  · have H1 := am hq
    have X1 := am (getD_mem z126 p1 hlt)
    have H2 := am hn
    clear hq hn
    go_wp2_with (go_at_call 137;refine (HP.out (xs.getD i.toNat z126) _ _ X1.out H1.out HB.out).mono ?_;rintro e W' ⟨rfl,hb⟩)
    go_roundw
    case rel => exact ⟨i + 1,by omega,by omega,by go_num,H2,⟨below_then HB.out HB.out.size hb⟩⟩
    case measure => simp [intOf];omega
theorem any_isTable (q : S126 → Option Bool) (A : Option Addr) (c : Nat) (xs : List S126) (r : Bool) (w : World) (hr : Kd.C k126 w A xs.length xs) (hp : Pred_isTable q w xs) (h : anyM q xs = some r) :
 Calls Tryz.prog 136 #[.slice A xs.length c,.func (.func 137) #[] #[]] w fun e w' => e = .returned (.bool r) ∧ Below w.heap.size w w' := by
 obtain ⟨j,hj,hd⟩ := idxM_of_anyM q xs 0 r (by omega) h
 have H1 := am hj
 have H2 := am hd
 have HR := am hr
 have HP := am hp
 clear hr hp h hj hd
 go_enter Tryz.func136,Tryz.ntmps136
 go_wp2_with (go_at_call 146;refine (idx_isTable q _ _ xs j _ HR.out HP.out H1.out).mono ?_;rintro e W' ⟨rfl,hb⟩)
 go_ret
 exact ⟨ret_bool_eq H2.out,hb⟩
def cf_isTable.f (l0 : List S126) : Option Bool := anyM (fun x => nz_isTable_1.f x.f0 x.f1 x.f2) l0
theorem cf_isTable.calls (A0 : Option Addr) (c0 : Nat) (l0 : List S126) (r : Bool) (w : World) (hr0 : Kd.C k126 w A0 l0.length l0) (hc0 : l0.length ≤ c0) (h : cf_isTable.f l0 = some r) :
 Calls Tryz.prog 136 #[.slice A0 l0.length c0,.func (.func 137) #[] #[]] w fun e w' => e = .returned (.bool r) ∧ Below w.heap.size w w' :=
 any_isTable (fun x => nz_isTable_1.f x.f0 x.f1 x.f2) A0 c0 l0 r w hr0 (fun x b W hx hq hb => (nz_isTable_1.calls _ _ _ b W hq).mono fun e W' ⟨he,hd⟩ => ⟨he,hd⟩) h
section
attribute [local go_sem] max2_int min2_int max_two min_two
def nz_isTable.f (l0_0 : List (S126)) (a0_1 : Int) : Option (Bool) := (nz_in.f (l0_0.length : Int) 1 12).bind fun t132 => (if t132 = true then ((nz_in.f a0_1 0 100).bind fun t133 => (if t133 = true then ((cf_isTable.f l0_0).bind fun t134 => (some (!t134))) else (some false))) else (some false))
theorem nz_isTable.calls (A0_0 : Option Addr) (c0_0 : Nat) (l0_0 : List (S126)) (a0_1 : Int) (r : Bool) (w : World) (hr0_0 : Kd.C k126 w A0_0 l0_0.length l0_0) (hc0_0 : l0_0.length ≤ c0_0) (h : nz_isTable.f l0_0 a0_1 = some r) :
 Calls Tryz.prog 127 #[.agg #[.slice A0_0 l0_0.length c0_0,.int .i64 a0_1]] w fun e w' => e = .returned (.bool r) ∧ Below w.heap.size w w' := by
 have hu24 := Tryz.underlying24
 have HR0_0 := am hr0_0
 have HC0_0 := am hc0_0
 clear hr0_0 hc0_0
 have HB := am (Below.refl w.heap.size w)
 have H : ((nz_in.f (l0_0.length : Int) 1 12).bind fun t132 => (if t132 = true then ((nz_in.f a0_1 0 100).bind fun t133 => (if t133 = true then ((cf_isTable.f l0_0).bind fun t134 => (some (!t134))) else (some false))) else (some false))) = some r := h
 clear h
 replace H := obm H
 obtain ⟨t132,A20,H⟩ := H
 replace H : (if t132 = true then ((nz_in.f a0_1 0 100).bind fun t133 => (if t133 = true then ((cf_isTable.f l0_0).bind fun t134 => (some (!t134))) else (some false))) else (some false)) = some r := H
 have A2 := am A20
 clear A20
 by_cases c3 : t132 = true
 case neg =>
  replace c3 := Bool.eq_false_iff.mpr c3
  subst c3
  replace H : (some false) = some r := by rw [if_neg (show ¬ (false = true) by decide)] at H;exact H
  obtain rfl := Option.some.inj H
  go_enter Tryz.func127,Tryz.ntmps127
  go_wp2_with (first | ((refine gate_dst (N := 1) rfl ?_);refine box_event rfl (N := 1) rfl (cs := #[.slice A0_0 l0_0.length c0_0,.int .i64 a0_1]) (t := 24) ?hr ?_;(case hr => go_simp;try rfl);intro gb131 hg w12 hbox hb;have BK131 := am (hbox);have GW131 := am (ge_new (HB.out) hg);have GE131 := am (ge_new (HB.out) hg);replace HB := am (below_step (HB.out) hb);clear hb hbox hg;obtain ⟨hcz13_0,hcz13_1⟩ := cO2 BK131.out) | ((with_reducible refine gate_callee (f := 135) rfl ?_);refine goesL_ (some 6) rfl rfl Tryz.func135 (by kernel_rfl) rfl #[.int .i64 (l0_0.length : Int),.int .i64 1,.int .i64 12] rfl (by (try simp only [List.map_toArray,List.map_cons,List.map_nil]);first | done | rfl | (simp only [List.length_drop,List.length_take];rfl)) ?_;(refine (nz_in.calls (l0_0.length : Int) 1 12 false _ A2.out).mono ?_);rintro e w' ⟨rfl,⟨nd,rfl⟩⟩;refine ⟨_,rfl,?_⟩))
  go_ret
  exact ⟨by first | rfl | (simp [*] <;> rfl),pw_below_drewN HB.out _⟩
 subst c3
 replace H : ((nz_in.f a0_1 0 100).bind fun t133 => (if t133 = true then ((cf_isTable.f l0_0).bind fun t134 => (some (!t134))) else (some false))) = some r := by rw [if_pos rfl] at H;exact H
 replace H := obm H
 obtain ⟨t133,A40,H⟩ := H
 replace H : (if t133 = true then ((cf_isTable.f l0_0).bind fun t134 => (some (!t134))) else (some false)) = some r := H
 have A4 := am A40
 clear A40
 by_cases c5 : t133 = true
 case neg =>
  replace c5 := Bool.eq_false_iff.mpr c5
  subst c5
  replace H : (some false) = some r := by rw [if_neg (show ¬ (false = true) by decide)] at H;exact H
  obtain rfl := Option.some.inj H
  go_enter Tryz.func127,Tryz.ntmps127
  go_wp2_with (first | ((refine gate_dst (N := 1) rfl ?_);refine box_event rfl (N := 1) rfl (cs := #[.slice A0_0 l0_0.length c0_0,.int .i64 a0_1]) (t := 24) ?hr ?_;(case hr => go_simp;try rfl);intro gb131 hg w10 hbox hb;have BK131 := am (hbox);have GW131 := am (ge_new (HB.out) hg);have GE131 := am (ge_new (HB.out) hg);replace HB := am (below_step (HB.out) hb);clear hb hbox hg;obtain ⟨hcz11_0,hcz11_1⟩ := cO2 BK131.out) | ((with_reducible refine gate_callee (f := 135) rfl ?_);refine goesL_ (some 6) rfl rfl Tryz.func135 (by kernel_rfl) rfl #[.int .i64 (l0_0.length : Int),.int .i64 1,.int .i64 12] rfl (by (try simp only [List.map_toArray,List.map_cons,List.map_nil]);first | done | rfl | (simp only [List.length_drop,List.length_take];rfl)) ?_;(refine (nz_in.calls (l0_0.length : Int) 1 12 true _ A2.out).mono ?_);rintro e w' ⟨rfl,⟨nd,rfl⟩⟩;refine ⟨_,rfl,?_⟩) | (go_at_call 135;(refine (nz_in.calls a0_1 0 100 false _ A4.out).mono ?_);rintro e w' ⟨rfl,⟨nd,rfl⟩⟩))
  go_ret
  exact ⟨by first | rfl | (simp [*] <;> rfl),pw_below_drewN HB.out _⟩
 subst c5
 replace H : ((cf_isTable.f l0_0).bind fun t134 => (some (!t134))) = some r := by rw [if_pos rfl] at H;exact H
 replace H := obm H
 obtain ⟨t134,A60,H⟩ := H
 replace H : (some (!t134)) = some r := H
 have A6 := am A60
 clear A60
 obtain rfl := Option.some.inj H
 go_enter Tryz.func127,Tryz.ntmps127
 go_wp2_with (first | ((refine gate_dst (N := 1) rfl ?_);refine box_event rfl (N := 1) rfl (cs := #[.slice A0_0 l0_0.length c0_0,.int .i64 a0_1]) (t := 24) ?hr ?_;(case hr => go_simp;try rfl);intro gb131 hg w7 hbox hb;have BK131 := am (hbox);have GW131 := am (ge_new (HB.out) hg);have GE131 := am (ge_new (HB.out) hg);replace HB := am (below_step (HB.out) hb);clear hb hbox hg;obtain ⟨hcz8_0,hcz8_1⟩ := cO2 BK131.out) | ((with_reducible refine gate_callee (f := 135) rfl ?_);refine goesL_ (some 6) rfl rfl Tryz.func135 (by kernel_rfl) rfl #[.int .i64 (l0_0.length : Int),.int .i64 1,.int .i64 12] rfl (by (try simp only [List.map_toArray,List.map_cons,List.map_nil]);first | done | rfl | (simp only [List.length_drop,List.length_take];rfl)) ?_;(refine (nz_in.calls (l0_0.length : Int) 1 12 true _ A2.out).mono ?_);rintro e w' ⟨rfl,⟨nd,rfl⟩⟩;refine ⟨_,rfl,?_⟩) | (go_at_call 135;(refine (nz_in.calls a0_1 0 100 true _ A4.out).mono ?_);rintro e w' ⟨rfl,⟨nd,rfl⟩⟩) | (go_at_call 136;(refine (cf_isTable.calls _ _ l0_0  t134 _ ?side1 ?side2 A6.out).mono ?_);(case side1 => repeat (first | exact (kC HR0_0.out (pw_below_drewN HB.out _)) | (with_reducible refine Kd.C_alloc ?_ _) | (with_reducible refine Kd.C_drewN ?_ _) | (with_reducible refine Kd.C_drew ?_)));(case side2 => exact HC0_0.out);rintro e w9 ⟨rfl,hb⟩;replace BK131 := (kmv hb BK131);replace HB := am (below_step (pw_below_drewN HB.out _) hb);(try clear hb);(try clear hb2);(try clear hk);(try clear hi)))
 go_ret
 exact ⟨by first | rfl | (simp [*] <;> rfl),HB.out⟩
def nz_Check.f (l0_0 : List (S126)) (a0_1 : Int) : Option (Int) := (nz_isTable.f l0_0 a0_1).bind fun t136 => (if t136 = true then (some 0) else (some 2))
theorem nz_Check.calls (A0_0 : Option Addr) (c0_0 : Nat) (l0_0 : List (S126)) (a0_1 : Int) (r : Int) (w : World) (hr0_0 : Kd.C k126 w A0_0 l0_0.length l0_0) (hc0_0 : l0_0.length ≤ c0_0) (h : nz_Check.f l0_0 a0_1 = some r) :
 Calls Tryz.prog 103 #[.agg #[.slice A0_0 l0_0.length c0_0,.int .i64 a0_1]] w fun e w' => e = .returned (.int .i64 r) ∧ Below w.heap.size w w' := by
 have hu24 := Tryz.underlying24
 have HR0_0 := am hr0_0
 have HC0_0 := am hc0_0
 clear hr0_0 hc0_0
 have HB := am (Below.refl w.heap.size w)
 have H : ((nz_isTable.f l0_0 a0_1).bind fun t136 => (if t136 = true then (some 0) else (some 2))) = some r := h
 clear h
 replace H := obm H
 obtain ⟨t136,A20,H⟩ := H
 replace H : (if t136 = true then (some 0) else (some 2)) = some r := H
 have A2 := am A20
 clear A20
 by_cases c3 : t136 = true
 · subst c3
   replace H : (some 0) = some r := by rw [if_pos rfl] at H;exact H
   obtain rfl := Option.some.inj H
   go_enter Tryz.func103,Tryz.ntmps103
   go_wp2_with (first | ((refine gate_dst (N := 1) rfl ?_);refine box_event rfl (N := 1) rfl (cs := #[.slice A0_0 l0_0.length c0_0,.int .i64 a0_1]) (t := 24) ?hr ?_;(case hr => go_simp;try rfl);intro gb135 hg w4 hbox hb;have BK135 := am (hbox);have GW135 := am (ge_new (HB.out) hg);have GE135 := am (ge_new (HB.out) hg);replace HB := am (below_step (HB.out) hb);clear hb hbox hg;obtain ⟨hcz5_0,hcz5_1⟩ := cO2 BK135.out) | ((with_reducible refine gate_callee (f := 127) rfl ?_);refine goesL_ (some 4) rfl rfl Tryz.func127 (by kernel_rfl) rfl #[.agg #[.slice A0_0 l0_0.length c0_0,.int .i64 a0_1]] rfl (by (try simp only [List.map_toArray,List.map_cons,List.map_nil]);first | done | rfl | (simp only [List.length_drop,List.length_take];rfl)) ?_;(refine (nz_isTable.calls _ _ l0_0 a0_1 true _ ?side1 ?side2 A2.out).mono ?_);(case side1 => exact kC HR0_0.out HB.out);(case side2 => exact HC0_0.out);rintro e w6 ⟨rfl,hb⟩;refine ⟨_,rfl,?_⟩;replace BK135 := (kmv hb BK135);replace HB := am (below_step (HB.out) hb);(try clear hb);(try clear hb2);(try clear hk);(try clear hi)))
   go_ret
   exact ⟨by first | rfl | (simp [*] <;> rfl),HB.out⟩
 · replace c3 := Bool.eq_false_iff.mpr c3
   subst c3
   replace H : (some 2) = some r := by rw [if_neg (show ¬ (false = true) by decide)] at H;exact H
   obtain rfl := Option.some.inj H
   go_enter Tryz.func103,Tryz.ntmps103
   go_wp2_with (first | ((refine gate_dst (N := 1) rfl ?_);refine box_event rfl (N := 1) rfl (cs := #[.slice A0_0 l0_0.length c0_0,.int .i64 a0_1]) (t := 24) ?hr ?_;(case hr => go_simp;try rfl);intro gb135 hg w7 hbox hb;have BK135 := am (hbox);have GW135 := am (ge_new (HB.out) hg);have GE135 := am (ge_new (HB.out) hg);replace HB := am (below_step (HB.out) hb);clear hb hbox hg;obtain ⟨hcz8_0,hcz8_1⟩ := cO2 BK135.out) | ((with_reducible refine gate_callee (f := 127) rfl ?_);refine goesL_ (some 4) rfl rfl Tryz.func127 (by kernel_rfl) rfl #[.agg #[.slice A0_0 l0_0.length c0_0,.int .i64 a0_1]] rfl (by (try simp only [List.map_toArray,List.map_cons,List.map_nil]);first | done | rfl | (simp only [List.length_drop,List.length_take];rfl)) ?_;(refine (nz_isTable.calls _ _ l0_0 a0_1 false _ ?side1 ?side2 A2.out).mono ?_);(case side1 => exact kC HR0_0.out HB.out);(case side2 => exact HC0_0.out);rintro e w9 ⟨rfl,hb⟩;refine ⟨_,rfl,?_⟩;replace BK135 := (kmv hb BK135);replace HB := am (below_step (HB.out) hb);(try clear hb);(try clear hb2);(try clear hk);(try clear hi)))
   go_ret
   exact ⟨by first | rfl | (simp [*] <;> rfl),HB.out⟩
def ca_in.f (a0 : Int) (a1 : Int) (a2 : Int) : Option (Bool) := if a0 ≥ a1 then (some (decide (a0 ≤ a2))) else (some false)
theorem ca_in.calls (a0 : Int) (a1 : Int) (a2 : Int) (r : Bool) (w : World) (h : ca_in.f a0 a1 a2 = some r) :
 Calls Tryz.prog 79 #[.int .i64 a0,.int .i64 a1,.int .i64 a2] w fun e w' => e = .returned (.bool r) ∧ Drawn0 w w' := by
 have H : (if a0 ≥ a1 then (some (decide (a0 ≤ a2))) else (some false)) = some r := h
 clear h
 by_cases c4 : a0 ≥ a1
 · rw [if_pos c4] at H
   have c4b0 : decide (a1 ≤ a0) = true := decide_eq_true c4
   clear c4
   obtain rfl := Option.some.inj H
   go_enter Tryz.func79,Tryz.ntmps79
   go_wp2
   go_ret
   exact ⟨by first | rfl | (simp;done) | (simp [*];done),by repeat (first | exact Drawn0.refl _ | apply Drawn0.step)⟩
 · rw [if_neg c4] at H
   have c4b0 : decide (a1 ≤ a0) = false := decide_eq_false c4
   clear c4
   obtain rfl := Option.some.inj H
   go_enter Tryz.func79,Tryz.ntmps79
   go_wp2
   go_ret
   exact ⟨by first | rfl | (simp;done) | (simp [*];done),by repeat (first | exact Drawn0.refl _ | apply Drawn0.step)⟩
def ca_isHeight.f (a0 : Int) : Option (Bool) := (ca_in.f a0 0 40).bind fun t130 => (some t130)
theorem ca_isHeight.calls (a0 : Int) (r : Bool) (w : World) (h : ca_isHeight.f a0 = some r) :
 Calls Tryz.prog 86 #[.int .i64 a0] w fun e w' => e = .returned (.bool r) ∧ Drawn0 w w' := by
 have H : ((ca_in.f a0 0 40).bind fun t130 => (some t130)) = some r := h
 clear h
 replace H := obm H
 obtain ⟨t130,A20,H⟩ := H
 replace H : (some t130) = some r := H
 have A2 := am A20
 clear A20
 obtain rfl := Option.some.inj H
 go_enter Tryz.func86,Tryz.ntmps86
 go_wp2_with (first | ((with_reducible refine gate_callee (f := 79) rfl ?_);refine goesL_ (some 4) rfl rfl Tryz.func79 (by kernel_rfl) rfl #[.int .i64 a0,.int .i64 0,.int .i64 40] rfl (by (try simp only [List.map_toArray,List.map_cons,List.map_nil]);first | done | rfl | (simp only [List.length_drop,List.length_take];rfl)) ?_;(with_reducible refine (ca_in.calls a0 0 40 t130 _ A2.out).mono ?_);rintro e w' ⟨rfl,⟨nd,rfl⟩⟩;refine ⟨_,rfl,?_⟩))
 go_ret
 exact ⟨by first | rfl | (simp;done) | (simp [*];done),by repeat (first | exact Drawn0.refl _ | apply Drawn0.step)⟩
end
def ca_isBasin_1.f (l0_0 : List S126) (x : S48) : Option Bool := (ca_in.f x.f0 0 (wrap64 ((l0_0.length : Int) - 1))).bind fun t => if t = true then (ca_isHeight.f x.f1).bind fun u => some (!u) else some true
theorem ca_isBasin_1.calls (g : Nat) (A0_0 : Option Addr) (c0_0 : Nat) (l0_0 : List S126) (a0_1 : Int) (A0_2 : Option Addr) (c0_2 : Nat) (l0_2 : List S48) (a0_3 a0_4 : Int) (x : S48) (r : Bool) (w : World) (hb : w.heap[g]? = some (.cells #[.slice A0_0 l0_0.length c0_0,.int .i64 a0_1,.slice A0_2 l0_2.length c0_2,.int .i64 a0_3,.int .i64 a0_4] 27 (0,0))) (h : ca_isBasin_1.f l0_0 x = some r) :
 Calls Tryz.prog 102 #[.agg #[.int .i64 x.f0,.int .i64 x.f1],.pointer (some ⟨g,0,none⟩)] w fun e w' => e = .returned (.bool r) ∧ Below w.heap.size w w' := by
 have hu := Tryz.underlying27
 have huz := Tryz.underlying48
 have hut := Tryz.underlying24
 have HB := am (Below.refl w.heap.size w)
 have BKg := am hb
 clear hb
 unfold ca_isBasin_1.f at h
 obtain ⟨t,ht,h⟩ := obm h
 have H1 := am ht
 clear ht
 cases t with
 | true =>
  rw [if_pos rfl] at h
  obtain ⟨u,hu2,h⟩ := obm h
  obtain rfl := Option.some.inj h
  have H2 := am hu2
  clear hu2 h
  go_enter Tryz.func102,Tryz.ntmps102
  go_wp2_with (first | ((refine gate_dst (N := 2) rfl ?_);(try (refine gate_guard (by rfl) ?_;dsimp only));refine box_event rfl (N := 2) rfl (cs := #[.int .i64 x.f0,.int .i64 x.f1]) (t := 48) ?hr ?_;(case hr => go_simp;try rfl);intro q hg w2 hbox hb;replace HB := (bmv HB hb);replace BKg := (kmv hb BKg);clear hg;have BKq := am hbox;clear hbox;(try clear hczg_0 hczg_1 hczg_2 hczg_3 hczg_4);obtain ⟨hczg_0,hczg_1,hczg_2,hczg_3,hczg_4⟩ := cO5 BKg.out;(try clear hczq_0 hczq_1);obtain ⟨hczq_0,hczq_1⟩ := cO2 BKq.out;clear hb) | (go_at_call 79;(with_reducible refine (ca_in.calls x.f0 0 (wrap64 ((l0_0.length : Int) - 1)) true _ H1.out).mono ?_);rintro e w1 ⟨rfl,hd⟩;have hb := hd.below;clear hd;replace HB := (bmv HB hb);replace BKg := (kmv hb BKg);replace BKq := (kmv hb BKq);(try clear hczg_0 hczg_1 hczg_2 hczg_3 hczg_4);obtain ⟨hczg_0,hczg_1,hczg_2,hczg_3,hczg_4⟩ := cO5 BKg.out;(try clear hczq_0 hczq_1);obtain ⟨hczq_0,hczq_1⟩ := cO2 BKq.out;clear hb) | (go_at_call 86;(with_reducible refine (ca_isHeight.calls x.f1 u _ H2.out).mono ?_);rintro e w1 ⟨rfl,hd⟩;have hb := hd.below;clear hd;replace HB := (bmv HB hb);replace BKg := (kmv hb BKg);replace BKq := (kmv hb BKq);(try clear hczg_0 hczg_1 hczg_2 hczg_3 hczg_4);obtain ⟨hczg_0,hczg_1,hczg_2,hczg_3,hczg_4⟩ := cO5 BKg.out;(try clear hczq_0 hczq_1);obtain ⟨hczq_0,hczq_1⟩ := cO2 BKq.out;clear hb))
  go_ret
  exact ⟨rfl,HB.out⟩
 | false =>
  rw [if_neg (by decide)] at h
  obtain rfl := Option.some.inj h
  clear h
  go_enter Tryz.func102,Tryz.ntmps102
  go_wp2_with (first | ((refine gate_dst (N := 2) rfl ?_);(try (refine gate_guard (by rfl) ?_;dsimp only));refine box_event rfl (N := 2) rfl (cs := #[.int .i64 x.f0,.int .i64 x.f1]) (t := 48) ?hr ?_;(case hr => go_simp;try rfl);intro q hg w2 hbox hb;replace HB := (bmv HB hb);replace BKg := (kmv hb BKg);clear hg;have BKq := am hbox;clear hbox;(try clear hczg_0 hczg_1 hczg_2 hczg_3 hczg_4);obtain ⟨hczg_0,hczg_1,hczg_2,hczg_3,hczg_4⟩ := cO5 BKg.out;(try clear hczq_0 hczq_1);obtain ⟨hczq_0,hczq_1⟩ := cO2 BKq.out;clear hb) | (go_at_call 79;(with_reducible refine (ca_in.calls x.f0 0 (wrap64 ((l0_0.length : Int) - 1)) false _ H1.out).mono ?_);rintro e w1 ⟨rfl,hd⟩;have hb := hd.below;clear hd;replace HB := (bmv HB hb);replace BKg := (kmv hb BKg);replace BKq := (kmv hb BKq);(try clear hczg_0 hczg_1 hczg_2 hczg_3 hczg_4);obtain ⟨hczg_0,hczg_1,hczg_2,hczg_3,hczg_4⟩ := cO5 BKg.out;(try clear hczq_0 hczq_1);obtain ⟨hczq_0,hczq_1⟩ := cO2 BKq.out;clear hb))
  go_ret
  exact ⟨rfl,HB.out⟩
def ca_isBasin.f (l0_0 : List S126) (a0_1 : Int) (l0_2 : List S48) (a0_3 a0_4 : Int) : Option Bool :=
 (nz_Check.f l0_0 a0_1).bind fun t1 => if t1 = 0 then (ca_in.f (l0_2.length : Int) 1 6).bind fun t2 => (if t2 = true then (ca_isHeight.f a0_3).bind fun t3 => (if t3 = true then (ca_in.f a0_4 0 100).bind fun t4 => (if t4 = true then (anyM (ca_isBasin_1.f l0_0) l0_2).bind fun u => some (!u) else some false) else some false) else some false) else some false
theorem ca_isBasin.calls (A0_0 : Option Addr) (c0_0 : Nat) (l0_0 : List S126) (a0_1 : Int) (A0_2 : Option Addr) (c0_2 : Nat) (l0_2 : List S48) (a0_3 a0_4 : Int) (r : Bool) (w : World) (hr0_0 : Kd.C k126 w A0_0 l0_0.length l0_0) (hc0_0 : l0_0.length ≤ c0_0) (hr0_2 : Kd.C k48 w A0_2 l0_2.length l0_2) (hc0_2 : l0_2.length ≤ c0_2) (h : ca_isBasin.f l0_0 a0_1 l0_2 a0_3 a0_4 = some r) :
 Calls Tryz.prog 64 #[.agg #[.slice A0_0 l0_0.length c0_0,.int .i64 a0_1,.slice A0_2 l0_2.length c0_2,.int .i64 a0_3,.int .i64 a0_4]] w fun e w' => e = .returned (.bool r) ∧ Below w.heap.size w w' := by
 have hu := Tryz.underlying27
 have hut := Tryz.underlying24
 have hm : l0_2.length ≤ 9223372036854775807 := Kd.C_max hr0_2
 have HR := am hr0_0
 have HC := am hc0_0
 have HR2 := am hr0_2
 have HC2 := am hc0_2
 have HB := am (Below.refl w.heap.size w)
 clear hr0_0 hc0_0 hr0_2 hc0_2
 unfold ca_isBasin.f at h
 obtain ⟨t1,ht,h⟩ := obm h
 have H1 := am ht
 clear ht
 by_cases h1 : t1 = 0
 case neg =>
  rw [if_neg h1] at h
  obtain rfl := Option.some.inj h
  clear h
  have b1 : (t1 == 0) = false := beq_eq_false_iff_ne.2 h1
  clear h1
  go_enter Tryz.func64,Tryz.ntmps64
  go_wp2_with (first | ((refine gate_dst (N := 1) rfl ?_);(try (refine gate_guard (by rfl) ?_;dsimp only));refine box_event rfl (N := 1) rfl (cs := #[.slice A0_0 l0_0.length c0_0,.int .i64 a0_1,.slice A0_2 l0_2.length c0_2,.int .i64 a0_3,.int .i64 a0_4]) (t := 27) ?hr ?_;(case hr => go_simp;try rfl);intro g hg w2 hbox hb;replace HR := (cmv HR hb);replace HR2 := (cmv HR2 hb);replace HB := (bmv HB hb);clear hg;have BKg := am hbox;clear hbox;(try clear hczg_0 hczg_1 hczg_2 hczg_3 hczg_4);obtain ⟨hczg_0,hczg_1,hczg_2,hczg_3,hczg_4⟩ := cO5 BKg.out;clear hb) | (go_at_call 103;(with_reducible refine (nz_Check.calls A0_0 c0_0 l0_0 a0_1 t1 _ HR.out HC.out H1.out).mono ?_);rintro e w1 ⟨rfl,hb⟩;replace HR := (cmv HR hb);replace HR2 := (cmv HR2 hb);replace HB := (bmv HB hb);replace BKg := (kmv hb BKg);(try clear hczg_0 hczg_1 hczg_2 hczg_3 hczg_4);obtain ⟨hczg_0,hczg_1,hczg_2,hczg_3,hczg_4⟩ := cO5 BKg.out;clear hb))
  go_ret
  exact ⟨rfl,HB.out⟩
 subst h1
 rw [if_pos rfl] at h
 obtain ⟨t2,ht,h⟩ := obm h
 have H2 := am ht
 clear ht
 cases t2 with
 | false =>
  rw [if_neg (by decide)] at h
  obtain rfl := Option.some.inj h
  clear h
  go_enter Tryz.func64,Tryz.ntmps64
  go_wp2_with (first | ((refine gate_dst (N := 1) rfl ?_);(try (refine gate_guard (by rfl) ?_;dsimp only));refine box_event rfl (N := 1) rfl (cs := #[.slice A0_0 l0_0.length c0_0,.int .i64 a0_1,.slice A0_2 l0_2.length c0_2,.int .i64 a0_3,.int .i64 a0_4]) (t := 27) ?hr ?_;(case hr => go_simp;try rfl);intro g hg w2 hbox hb;replace HR := (cmv HR hb);replace HR2 := (cmv HR2 hb);replace HB := (bmv HB hb);clear hg;have BKg := am hbox;clear hbox;(try clear hczg_0 hczg_1 hczg_2 hczg_3 hczg_4);obtain ⟨hczg_0,hczg_1,hczg_2,hczg_3,hczg_4⟩ := cO5 BKg.out;clear hb) | (go_at_call 103;(with_reducible refine (nz_Check.calls A0_0 c0_0 l0_0 a0_1 0 _ HR.out HC.out H1.out).mono ?_);rintro e w1 ⟨rfl,hb⟩;replace HR := (cmv HR hb);replace HR2 := (cmv HR2 hb);replace HB := (bmv HB hb);replace BKg := (kmv hb BKg);(try clear hczg_0 hczg_1 hczg_2 hczg_3 hczg_4);obtain ⟨hczg_0,hczg_1,hczg_2,hczg_3,hczg_4⟩ := cO5 BKg.out;clear hb) | (go_at_call 79;(with_reducible refine (ca_in.calls (l0_2.length : Int) 1 6 false _ H2.out).mono ?_);rintro e w1 ⟨rfl,hd⟩;have hb := hd.below;clear hd;replace HR := (cmv HR hb);replace HR2 := (cmv HR2 hb);replace HB := (bmv HB hb);replace BKg := (kmv hb BKg);(try clear hczg_0 hczg_1 hczg_2 hczg_3 hczg_4);obtain ⟨hczg_0,hczg_1,hczg_2,hczg_3,hczg_4⟩ := cO5 BKg.out;clear hb))
  go_ret
  exact ⟨rfl,HB.out⟩
 | true =>
  rw [if_pos rfl] at h
  obtain ⟨t3,ht,h⟩ := obm h
  have H3 := am ht
  clear ht
  cases t3 with
  | false =>
   rw [if_neg (by decide)] at h
   obtain rfl := Option.some.inj h
   clear h
   go_enter Tryz.func64,Tryz.ntmps64
   go_wp2_with (first | ((refine gate_dst (N := 1) rfl ?_);(try (refine gate_guard (by rfl) ?_;dsimp only));refine box_event rfl (N := 1) rfl (cs := #[.slice A0_0 l0_0.length c0_0,.int .i64 a0_1,.slice A0_2 l0_2.length c0_2,.int .i64 a0_3,.int .i64 a0_4]) (t := 27) ?hr ?_;(case hr => go_simp;try rfl);intro g hg w2 hbox hb;replace HR := (cmv HR hb);replace HR2 := (cmv HR2 hb);replace HB := (bmv HB hb);clear hg;have BKg := am hbox;clear hbox;(try clear hczg_0 hczg_1 hczg_2 hczg_3 hczg_4);obtain ⟨hczg_0,hczg_1,hczg_2,hczg_3,hczg_4⟩ := cO5 BKg.out;clear hb) | (go_at_call 103;(with_reducible refine (nz_Check.calls A0_0 c0_0 l0_0 a0_1 0 _ HR.out HC.out H1.out).mono ?_);rintro e w1 ⟨rfl,hb⟩;replace HR := (cmv HR hb);replace HR2 := (cmv HR2 hb);replace HB := (bmv HB hb);replace BKg := (kmv hb BKg);(try clear hczg_0 hczg_1 hczg_2 hczg_3 hczg_4);obtain ⟨hczg_0,hczg_1,hczg_2,hczg_3,hczg_4⟩ := cO5 BKg.out;clear hb) | (go_at_call 79;(with_reducible refine (ca_in.calls (l0_2.length : Int) 1 6 true _ H2.out).mono ?_);rintro e w1 ⟨rfl,hd⟩;have hb := hd.below;clear hd;replace HR := (cmv HR hb);replace HR2 := (cmv HR2 hb);replace HB := (bmv HB hb);replace BKg := (kmv hb BKg);(try clear hczg_0 hczg_1 hczg_2 hczg_3 hczg_4);obtain ⟨hczg_0,hczg_1,hczg_2,hczg_3,hczg_4⟩ := cO5 BKg.out;clear hb) | (go_at_call 86;(with_reducible refine (ca_isHeight.calls a0_3 false _ H3.out).mono ?_);rintro e w1 ⟨rfl,hd⟩;have hb := hd.below;clear hd;replace HR := (cmv HR hb);replace HR2 := (cmv HR2 hb);replace HB := (bmv HB hb);replace BKg := (kmv hb BKg);(try clear hczg_0 hczg_1 hczg_2 hczg_3 hczg_4);obtain ⟨hczg_0,hczg_1,hczg_2,hczg_3,hczg_4⟩ := cO5 BKg.out;clear hb))
   go_ret
   exact ⟨rfl,HB.out⟩
  | true =>
   rw [if_pos rfl] at h
   obtain ⟨t4,ht,h⟩ := obm h
   have H4 := am ht
   clear ht
   cases t4 with
   | false =>
    rw [if_neg (by decide)] at h
    obtain rfl := Option.some.inj h
    clear h
    go_enter Tryz.func64,Tryz.ntmps64
    go_wp2_with (first | ((refine gate_dst (N := 1) rfl ?_);(try (refine gate_guard (by rfl) ?_;dsimp only));refine box_event rfl (N := 1) rfl (cs := #[.slice A0_0 l0_0.length c0_0,.int .i64 a0_1,.slice A0_2 l0_2.length c0_2,.int .i64 a0_3,.int .i64 a0_4]) (t := 27) ?hr ?_;(case hr => go_simp;try rfl);intro g hg w2 hbox hb;replace HR := (cmv HR hb);replace HR2 := (cmv HR2 hb);replace HB := (bmv HB hb);clear hg;have BKg := am hbox;clear hbox;(try clear hczg_0 hczg_1 hczg_2 hczg_3 hczg_4);obtain ⟨hczg_0,hczg_1,hczg_2,hczg_3,hczg_4⟩ := cO5 BKg.out;clear hb) | (go_at_call 103;(with_reducible refine (nz_Check.calls A0_0 c0_0 l0_0 a0_1 0 _ HR.out HC.out H1.out).mono ?_);rintro e w1 ⟨rfl,hb⟩;replace HR := (cmv HR hb);replace HR2 := (cmv HR2 hb);replace HB := (bmv HB hb);replace BKg := (kmv hb BKg);(try clear hczg_0 hczg_1 hczg_2 hczg_3 hczg_4);obtain ⟨hczg_0,hczg_1,hczg_2,hczg_3,hczg_4⟩ := cO5 BKg.out;clear hb) | (go_at_call 79;(with_reducible refine (ca_in.calls (l0_2.length : Int) 1 6 true _ H2.out).mono ?_);rintro e w1 ⟨rfl,hd⟩;have hb := hd.below;clear hd;replace HR := (cmv HR hb);replace HR2 := (cmv HR2 hb);replace HB := (bmv HB hb);replace BKg := (kmv hb BKg);(try clear hczg_0 hczg_1 hczg_2 hczg_3 hczg_4);obtain ⟨hczg_0,hczg_1,hczg_2,hczg_3,hczg_4⟩ := cO5 BKg.out;clear hb) | (go_at_call 86;(with_reducible refine (ca_isHeight.calls a0_3 true _ H3.out).mono ?_);rintro e w1 ⟨rfl,hd⟩;have hb := hd.below;clear hd;replace HR := (cmv HR hb);replace HR2 := (cmv HR2 hb);replace HB := (bmv HB hb);replace BKg := (kmv hb BKg);(try clear hczg_0 hczg_1 hczg_2 hczg_3 hczg_4);obtain ⟨hczg_0,hczg_1,hczg_2,hczg_3,hczg_4⟩ := cO5 BKg.out;clear hb) | (go_at_call 79;(with_reducible refine (ca_in.calls a0_4 0 100 false _ H4.out).mono ?_);rintro e w1 ⟨rfl,hd⟩;have hb := hd.below;clear hd;replace HR := (cmv HR hb);replace HR2 := (cmv HR2 hb);replace HB := (bmv HB hb);replace BKg := (kmv hb BKg);(try clear hczg_0 hczg_1 hczg_2 hczg_3 hczg_4);obtain ⟨hczg_0,hczg_1,hczg_2,hczg_3,hczg_4⟩ := cO5 BKg.out;clear hb))
    go_ret
    exact ⟨rfl,HB.out⟩
   | true =>
    rw [if_pos rfl] at h
    obtain ⟨u,ht,h⟩ := obm h
    obtain rfl := Option.some.inj h
    have H5 := am ht
    clear ht h
    go_enter Tryz.func64,Tryz.ntmps64
    go_wp2_with (first | ((refine gate_dst (N := 1) rfl ?_);(try (refine gate_guard (by rfl) ?_;dsimp only));refine box_event rfl (N := 1) rfl (cs := #[.slice A0_0 l0_0.length c0_0,.int .i64 a0_1,.slice A0_2 l0_2.length c0_2,.int .i64 a0_3,.int .i64 a0_4]) (t := 27) ?hr ?_;(case hr => go_simp;try rfl);intro g hg w2 hbox hb;replace HR := (cmv HR hb);replace HR2 := (cmv HR2 hb);replace HB := (bmv HB hb);clear hg;have BKg := am hbox;clear hbox;(try clear hczg_0 hczg_1 hczg_2 hczg_3 hczg_4);obtain ⟨hczg_0,hczg_1,hczg_2,hczg_3,hczg_4⟩ := cO5 BKg.out;clear hb) | (go_at_call 103;(with_reducible refine (nz_Check.calls A0_0 c0_0 l0_0 a0_1 0 _ HR.out HC.out H1.out).mono ?_);rintro e w1 ⟨rfl,hb⟩;replace HR := (cmv HR hb);replace HR2 := (cmv HR2 hb);replace HB := (bmv HB hb);replace BKg := (kmv hb BKg);(try clear hczg_0 hczg_1 hczg_2 hczg_3 hczg_4);obtain ⟨hczg_0,hczg_1,hczg_2,hczg_3,hczg_4⟩ := cO5 BKg.out;clear hb) | (go_at_call 79;(with_reducible refine (ca_in.calls (l0_2.length : Int) 1 6 true _ H2.out).mono ?_);rintro e w1 ⟨rfl,hd⟩;have hb := hd.below;clear hd;replace HR := (cmv HR hb);replace HR2 := (cmv HR2 hb);replace HB := (bmv HB hb);replace BKg := (kmv hb BKg);(try clear hczg_0 hczg_1 hczg_2 hczg_3 hczg_4);obtain ⟨hczg_0,hczg_1,hczg_2,hczg_3,hczg_4⟩ := cO5 BKg.out;clear hb) | (go_at_call 86;(with_reducible refine (ca_isHeight.calls a0_3 true _ H3.out).mono ?_);rintro e w1 ⟨rfl,hd⟩;have hb := hd.below;clear hd;replace HR := (cmv HR hb);replace HR2 := (cmv HR2 hb);replace HB := (bmv HB hb);replace BKg := (kmv hb BKg);(try clear hczg_0 hczg_1 hczg_2 hczg_3 hczg_4);obtain ⟨hczg_0,hczg_1,hczg_2,hczg_3,hczg_4⟩ := cO5 BKg.out;clear hb) | (go_at_call 79;(with_reducible refine (ca_in.calls a0_4 0 100 true _ H4.out).mono ?_);rintro e w1 ⟨rfl,hd⟩;have hb := hd.below;clear hd;replace HR := (cmv HR hb);replace HR2 := (cmv HR2 hb);replace HB := (bmv HB hb);replace BKg := (kmv hb BKg);(try clear hczg_0 hczg_1 hczg_2 hczg_3 hczg_4);obtain ⟨hczg_0,hczg_1,hczg_2,hczg_3,hczg_4⟩ := cO5 BKg.out;clear hb) | (go_at_call 104;refine (any_isBasin g (ca_isBasin_1.f l0_0) A0_2 c0_2 l0_2 u _ HR2.out (fun x b W hx hq hb => ca_isBasin_1.calls g A0_0 c0_0 l0_0 a0_1 A0_2 c0_2 l0_2 a0_3 a0_4 x b W (blk_below BKg.out hb) hq) H5.out).mono ?_;rintro e w1 ⟨rfl,hb⟩;replace HR := (cmv HR hb);replace HR2 := (cmv HR2 hb);replace HB := (bmv HB hb);replace BKg := (kmv hb BKg);(try clear hczg_0 hczg_1 hczg_2 hczg_3 hczg_4);obtain ⟨hczg_0,hczg_1,hczg_2,hczg_3,hczg_4⟩ := cO5 BKg.out;clear hb))
    go_ret
    exact ⟨rfl,HB.out⟩
section
attribute [local go_sem] max2_int min2_int max_two min_two
def ca_isChain_1.f (l0_0 : List (S126)) (a0_1 : Int) (l0_2 : List (S48)) (a0_3 : Int) (a0_4 : Int) : Option (Bool) := (ca_isBasin.f l0_0 a0_1 l0_2 a0_3 a0_4).bind fun t1061 => (some (!t1061))
theorem ca_isChain_1.calls (A0_0 : Option Addr) (c0_0 : Nat) (l0_0 : List (S126)) (a0_1 : Int) (A0_2 : Option Addr) (c0_2 : Nat) (l0_2 : List (S48)) (a0_3 : Int) (a0_4 : Int) (r : Bool) (w : World) (hr0_0 : Kd.C k126 w A0_0 l0_0.length l0_0) (hc0_0 : l0_0.length ≤ c0_0) (hr0_2 : Kd.C k48 w A0_2 l0_2.length l0_2) (hc0_2 : l0_2.length ≤ c0_2) (h : ca_isChain_1.f l0_0 a0_1 l0_2 a0_3 a0_4 = some r) :
 Calls Tryz.prog 117 #[.agg #[.slice A0_0 l0_0.length c0_0,.int .i64 a0_1,.slice A0_2 l0_2.length c0_2,.int .i64 a0_3,.int .i64 a0_4]] w fun e w' => e = .returned (.bool r) ∧ Below w.heap.size w w' := by
 have hu27 := Tryz.underlying27
 have HR0_0 := am hr0_0
 have HC0_0 := am hc0_0
 clear hr0_0 hc0_0
 have HR0_2 := am hr0_2
 have HC0_2 := am hc0_2
 clear hr0_2 hc0_2
 have HB := am (Below.refl w.heap.size w)
 have H : ((ca_isBasin.f l0_0 a0_1 l0_2 a0_3 a0_4).bind fun t1061 => (some (!t1061))) = some r := h
 clear h
 replace H := obm H
 obtain ⟨t1061,A20,H⟩ := H
 replace H : (some (!t1061)) = some r := H
 have A2 := am A20
 clear A20
 obtain rfl := Option.some.inj H
 go_enter Tryz.func117,Tryz.ntmps117
 go_wp2_with (first | ((refine gate_dst (N := 1) rfl ?_);refine box_event rfl (N := 1) rfl (cs := #[.slice A0_0 l0_0.length c0_0,.int .i64 a0_1,.slice A0_2 l0_2.length c0_2,.int .i64 a0_3,.int .i64 a0_4]) (t := 27) ?hr ?_;(case hr => go_simp;try rfl);intro gb1060 hg w3 hbox hb;have BK1060 := am (hbox);have GW1060 := am (ge_new (HB.out) hg);have GE1060 := am (ge_new (HB.out) hg);replace HB := am (below_step (HB.out) hb);clear hb hbox hg;obtain ⟨hcz4_0,hcz4_1,hcz4_2,hcz4_3,hcz4_4⟩ := cO5 BK1060.out) | ((with_reducible refine gate_callee (f := 64) rfl ?_);refine goesL_ (some 4) rfl rfl Tryz.func64 (by kernel_rfl) rfl #[.agg #[.slice A0_0 l0_0.length c0_0,.int .i64 a0_1,.slice A0_2 l0_2.length c0_2,.int .i64 a0_3,.int .i64 a0_4]] rfl (by (try simp only [List.map_toArray,List.map_cons,List.map_nil]);first | done | rfl | (simp only [List.length_drop,List.length_take];rfl)) ?_;(with_reducible refine (ca_isBasin.calls _ _ l0_0 a0_1 _ _ l0_2 a0_3 a0_4 t1061 _ ?side1 ?side2 ?side3 ?side4 A2.out).mono ?_);(case side1 => exact kC HR0_0.out HB.out);(case side2 => exact HC0_0.out);(case side3 => exact kC HR0_2.out HB.out);(case side4 => exact HC0_2.out);rintro e w5 ⟨rfl,hb⟩;refine ⟨_,rfl,?_⟩;replace BK1060 := (kmv hb BK1060);replace HB := am (below_step (HB.out) hb);(try clear hb);(try clear hb2);(try clear hk);(try clear hi)))
 go_ret
 exact ⟨by first | rfl | (simp [*] <;> rfl),HB.out⟩
end
def Pred_isChain (q : S27 → Option Bool) (w : World) (xs : List S27) : Prop := ∀ (x : S27) (b : Bool) (W : World) (A0 : Option Addr) (c0 : Nat) (A2 : Option Addr) (c2 : Nat) , x ∈ xs → q x = some b → Below w.heap.size w W → k126.C W A0 x.f0.f0.length x.f0.f0 → x.f0.f0.length ≤ c0 → k48.C W A2 x.f1.length x.f1 → x.f1.length ≤ c2 → 
 Calls Tryz.prog 117 #[.agg #[.slice A0 x.f0.f0.length c0,.int .i64 x.f0.f1,.slice A2 x.f1.length c2,.int .i64 x.f2,.int .i64 x.f3]] W fun e W' => e = .returned (.bool b) ∧ Below W.heap.size W W'
theorem idx_isChain (q : S27 → Option Bool) (A : Option Addr) (c : Nat) (xs : List S27) (r : Int) (w : World) (hr : Kd.C k27 w A xs.length xs) (hp : Pred_isChain q w xs) (h : idxM q xs 0 = some r) :
 Calls Tryz.prog 132 #[.slice A xs.length c,.func (.func 117) #[] #[]] w fun e w' => e = .returned (.int .i64 r) ∧ Below w.heap.size w w' := by
 have huE := Tryz.underlying27
 have HR := am hr
 have HP := am hp
 have HQ := am (show idxM q (xs.drop (0 : Int).toNat) 0 = some r from h)
 have hm : xs.length ≤ 9223372036854775807 := Kd.C_max hr
 clear hr hp h
 go_enter Tryz.func132,Tryz.ntmps132
 go_wp2
 go_loopw [5,8] (fun v5 v8 w' => ∃ i : Int,0 ≤ i ∧ i ≤ xs.length ∧ v8 = .int .i64 i ∧ Aside0 (idxM q (xs.drop i.toNat) i = some r) ∧ Aside0 (Below w.heap.size w w')) (fun _ v8 _ => xs.length - (intOf v8).toNat)
 case atStart => exact ⟨0,by omega,by omega,rfl,HQ,⟨Below.refl _ _⟩⟩
 case round =>
  clear HQ
  obtain ⟨i,p1,hi,rfl,HQ,HB⟩ := hrel
  by_cases hlt : i < (xs.length : Int)
  case neg =>
   go_wp2
   go_ret
   exact ⟨ret_int_eq (idxM_end (by omega) HQ.out),HB.out⟩
  obtain ⟨ad,A0,c0,A2,c2,e1,hx0,hx1,hx2,hx3,hx4,hl0,hC0,hl2,hC2⟩ := at_T27 HR.out i p1 hlt
  cases e1
  replace hx0 := (HB.out.cell (wbl hx0)).trans hx0
  replace hx1 := (HB.out.cell (wbl hx1)).trans hx1
  replace hx2 := (HB.out.cell (wbl hx2)).trans hx2
  replace hx3 := (HB.out.cell (wbl hx3)).trans hx3
  replace hx4 := (HB.out.cell (wbl hx4)).trans hx4
  rcases idxM_step z27 p1 hlt HQ.out with ⟨hq,he⟩ | ⟨hq,hn⟩
  · have H1 := am hq
    have X1 := am (getD_mem z27 p1 hlt)
    have H2 := am he
    clear hq he
    go_wp2_with (go_at_call 117;refine (HP.out (xs.getD i.toNat z27) _ _ _ _ _ _ X1.out H1.out HB.out (kC hC0 HB.out) hl0 (kC hC2 HB.out) hl2).mono ?_;rintro e W' ⟨rfl,hb⟩)
    go_ret
    exact ⟨ret_int_eq H2.out,below_then HB.out HB.out.size hb⟩
  · have H1 := am hq
    have X1 := am (getD_mem z27 p1 hlt)
    have H2 := am hn
    clear hq hn
    go_wp2_with (go_at_call 117;refine (HP.out (xs.getD i.toNat z27) _ _ _ _ _ _ X1.out H1.out HB.out (kC hC0 HB.out) hl0 (kC hC2 HB.out) hl2).mono ?_;rintro e W' ⟨rfl,hb⟩)
    go_roundw
    case rel => exact ⟨i + 1,by omega,by omega,by go_num,H2,⟨below_then HB.out HB.out.size hb⟩⟩
    case measure => simp [intOf];omega
theorem any_isChain (q : S27 → Option Bool) (A : Option Addr) (c : Nat) (xs : List S27) (r : Bool) (w : World) (hr : Kd.C k27 w A xs.length xs) (hp : Pred_isChain q w xs) (h : anyM q xs = some r) :
 Calls Tryz.prog 116 #[.slice A xs.length c,.func (.func 117) #[] #[]] w fun e w' => e = .returned (.bool r) ∧ Below w.heap.size w w' := by
 obtain ⟨j,hj,hd⟩ := idxM_of_anyM q xs 0 r (by omega) h
 have H1 := am hj
 have H2 := am hd
 have HR := am hr
 have HP := am hp
 clear hr hp h hj hd
 go_enter Tryz.func116,Tryz.ntmps116
 go_wp2_with (go_at_call 132;refine (idx_isChain q _ _ xs j _ HR.out HP.out H1.out).mono ?_;rintro e W' ⟨rfl,hb⟩)
 go_ret
 exact ⟨ret_bool_eq H2.out,hb⟩
def cf_isChain.f (l0 : List S27) : Option Bool := anyM (fun x => ca_isChain_1.f x.f0.f0 x.f0.f1 x.f1 x.f2 x.f3) l0
theorem cf_isChain.calls (A0 : Option Addr) (c0 : Nat) (l0 : List S27) (r : Bool) (w : World) (hr0 : Kd.C k27 w A0 l0.length l0) (hc0 : l0.length ≤ c0) (h : cf_isChain.f l0 = some r) :
 Calls Tryz.prog 116 #[.slice A0 l0.length c0,.func (.func 117) #[] #[]] w fun e w' => e = .returned (.bool r) ∧ Below w.heap.size w w' :=
 any_isChain (fun x => ca_isChain_1.f x.f0.f0 x.f0.f1 x.f1 x.f2 x.f3) A0 c0 l0 r w hr0 (fun x b W A0 c0 A2 c2 hx hq hb h0 h1 h2 h3 => (ca_isChain_1.calls _ _ _ _ _ _ _ _ _ b W h0 h1 h2 h3 hq).mono fun e W' ⟨he,hd⟩ => ⟨he,hd⟩) h
end Go.Proofs.YtnnmnhpeblhiiaaGreatDoor.C

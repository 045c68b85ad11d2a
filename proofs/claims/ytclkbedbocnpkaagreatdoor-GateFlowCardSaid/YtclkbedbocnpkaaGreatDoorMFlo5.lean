/- A part of the proof: a run of the program on abstract values, shown to be a run of the machine. -/
import Derived.Test.YtclkbedbocnpkaaGreatDoorMFlo4
set_option linter.unusedVariables false
set_option linter.unusedSimpArgs false
namespace Go.Abs
variable {P : Program}
theorem opA_mono {c1 c2 : CallF} (hc : CLe c1 c2) {ops : Array Oper} {o : Oper} {fr : Fr} {s : St} {r : Option AV × Fr × St} (h : opA P c1 ops o fr s = some r) : opA P c2 ops o fr s = some r:=by
 unfold opA at h ⊢
 by_cases hw : wantedA ops o fr.tm = true
 ·rw [if_pos hw] at h ⊢
  simp only [Option.map_eq_some_iff] at h ⊢
  obtain ⟨x,h1,h2⟩:=h
  exact ⟨x,opX_le hc (fun _ _ h=>h) h1,h2⟩
 ·rw [if_neg hw] at h ⊢;exact h
theorem evOps_mono {c1 c2 : CallF} (hc : CLe c1 c2) {ops : Array Oper} : ∀ {l : List Oper} {fr : Fr} {s : St} {r : Option AV × Fr × St},evOps P c1 ops l fr s = some r→evOps P c2 ops l fr s = some r
 | [],_,_,_,h=>h
 | o :: l,fr,s,r,h=>by
  simp only [evOps,Option.bind_eq_some_iff] at h ⊢
  obtain ⟨⟨x,fr1,s1⟩,h1,h2⟩:=h
  refine ⟨_,opA_mono hc h1,?_⟩
  cases x with
  | some v=>exact h2
  | none =>
   simp only [Option.bind_eq_some_iff] at h2 ⊢
   obtain ⟨y,h3,h4⟩:=h2
   exact ⟨y,evOps_mono hc h3,h4⟩
theorem evCode_mono {c1 c2 : CallF} (hc : CLe c1 c2) : ∀ {n : Nat} {c : Code} {fr : Fr} {s : St} {r : Ex × Fr × St},evCode P c1 n c fr s = some r→evCode P c2 n c fr s = some r
 | 0,_,_,_,_,h=>by cases h
 | n + 1,c,fr,s,r,h=>by
  have ih:=@evCode_mono c1 c2 hc n
  have two : ∀ {a b : Code},((evCode P c1 n a fr s).bind fun r=>match r with
   | (.norm,fr1,s1)=>(evCode P c1 n b fr1 s1).bind fun y=>if s1.next≤y.2.2.next then some y else none
   | r=>some r) = some r→((evCode P c2 n a fr s).bind fun r=>match r with
   | (.norm,fr1,s1)=>(evCode P c2 n b fr1 s1).bind fun y=>if s1.next≤y.2.2.next then some y else none
   | r=>some r) = some r:=by
   intro a b h
   simp only [Option.bind_eq_some_iff] at h ⊢
   obtain ⟨⟨x,fr1,s1⟩,h1,h2⟩:=h
   refine ⟨_,ih h1,?_⟩
   cases x with
   | norm =>
    simp only [Option.bind_eq_some_iff] at h2 ⊢
    obtain ⟨y,h3,h4⟩:=h2
    exact ⟨y,ih h3,h4⟩
   | _=>exact h2
  cases c with
  | region id ops d =>
   cases d with
   | false =>
    simp only [evCode,Option.map_eq_some_iff] at h ⊢
    obtain ⟨x,h1,h2⟩:=h
    exact ⟨x,evOps_mono hc h1,h2⟩
   | true =>
    simp only [evCode] at h ⊢
    by_cases hp : P.follows .mixedOrders = true
    ·rw [if_pos hp] at h ⊢
     simp only [Option.map_eq_some_iff] at h ⊢
     obtain ⟨x,h1,h2⟩:=h
     exact ⟨x,evDraw_mono hc h1,h2⟩
    ·rw [if_neg hp] at h;cases h
  | seq a b=>simp only [evCode] at h ⊢;exact two h
  | cond c a b =>
   simp only [evCode,Option.bind_eq_some_iff] at h ⊢
   obtain ⟨v,h1,h2⟩:=h
   refine ⟨v,h1,?_⟩
   cases v with
   | bool b=>exact ih h2
   | _=>exact h2
  | block id a =>
   simp only [evCode,Option.map_eq_some_iff] at h ⊢
   obtain ⟨x,h1,h2⟩:=h
   exact ⟨x,ih h1,h2⟩
  | scope a=>simp only [evCode] at h ⊢;exact ih h
  | loop a=>simp only [evCode] at h ⊢;exact two h
  | rangeFunc g ps aas bd =>
   simp only [evCode,Option.bind_eq_some_iff] at h ⊢
   obtain ⟨v,h1,h2⟩:=h
   refine ⟨v,h1,?_⟩
   cases v with
   | func f first cap =>
    by_cases hp : enterable P f = true
    ·simp only [hp,if_true,Option.bind_eq_some_iff] at h2 ⊢
     obtain ⟨x,h3,y,h4,h5⟩:=h2
     exact ⟨x,h3,y,hc _ _ _ _ h4,h5⟩
    ·simp only [hp] at h2;exact absurd h2 nofun
   | _=>exact h2
  | _=>exact h
theorem leaveA_mono {c1 c2 : CallF} (hc : CLe c1 c2) {K : Nat} {fn : Func} {tm : List AV} : ∀ {ds : List Dfr} {p : Option AV} {I : St} {r : Rt × St},leaveA P c1 K fn tm ds p I = some r→leaveA P c2 K fn tm ds p I = some r
 | [],none,_,_,h=>h
 | [],some _,_,_,h=>h
 | .coll d :: ds,p,I,r,h=>by
  simp only [leaveA] at h ⊢
  split at h
  ·rename_i hd;exact leaveA_mono hc h
  ·cases h
 | .fn f aas cs :: ds,p,I,r,h=>by
  simp only [leaveA] at h ⊢
  by_cases hp : enterable P f = true
  ·simp only [hp,if_true,Option.bind_eq_some_iff] at h ⊢
   obtain ⟨g,h1,body,h2,⟨x,fr,I1⟩,h3,h4⟩:=h
   refine ⟨g,h1,body,h2,_,evCode_mono hc h3,?_⟩
   split at h4
   ·simp only [Option.bind_eq_some_iff] at h4 ⊢
    obtain ⟨q,h5,y,h6,h7⟩:=h4
    exact ⟨q,h5,y,leaveA_mono hc h6,h7⟩
   ·simp only [Option.bind_eq_some_iff] at h4 ⊢
    obtain ⟨q,h5,y,h6,h7⟩:=h4
    exact ⟨q,h5,y,leaveA_mono hc h6,h7⟩
   ·cases h4
  ·simp only [hp] at h;exact absurd h nofun
noncomputable def oneOr (vs : List AV) : AV:=List.rec (motive:=fun _=>AV) (.tup []) (fun v tl _=>List.rec (motive:=fun _=>AV) v (fun _ _ _=>.tup vs) tl) vs
theorem resultsA_eq {fn : Func} {tm : List AV} {I : St} : resultsA P fn tm I = (resL P tm I fn.results.toList).map oneOr:=by
 unfold resultsA
 congr 1
 funext vs
 cases vs with
 | nil=>rfl
 | cons v vs=>cases vs<;>rfl
inductive RV where
 | t (p : Pt)
 | c (p : Pt) (t : TypeId)
noncomputable def cRes (gs : List Tmp) : List ResultVar→Option (List RV)
 | []=>some []
 | .tmp t :: r=>(idxT gs t).bind fun j=>(cRes gs r).map (.t (pathOf j) :: ·)
 | .cell a t :: r=>(idxT gs a).bind fun j=>(cRes gs r).map (.c (pathOf j) t :: ·)
noncomputable def resK (P : Program) (l : List RV) : FT→St→(List AV→R)→R:=
 List.rec (motive:=fun _=>FT→St→(List AV→R)→R) (fun _ _ k=>k [])
  (fun v _ ih t I k=>RV.rec (motive:=fun _=>R) (fun p=>(getF p t).force fun v=>ih t I fun vs=>k (v :: vs)) (fun p ty=>ob (loadA P ty (getF p t) I) fun v=>v.force fun v=>ih t I fun vs=>k (v :: vs)) v) l
theorem resK_some {nt : Nat} {gs : List Tmp} {tm : List AV} {t : FT} (hre : RelF nt gs tm t) {I : St} : ∀ {l : List ResultVar} {rs : List RV} {k : List AV→R} {r : Rt × St},cRes gs l = some rs→resK P rs t I k = some r→∃ vs,resL P tm I l = some vs∧k vs = some r
 | [],rs,k,r,h,hr=>by cases h;exact ⟨[],rfl,hr⟩
 | .tmp i :: l,rs,k,r,h,hr=>by
  simp only [cRes,Option.bind_eq_some_iff,Option.map_eq_some_iff] at h
  obtain ⟨j,h1,rs1,h3,rfl⟩:=h
  have hr : (getF (pathOf j) t).force (fun v=>resK P rs1 t I fun vs=>k (v :: vs)) = some r:=hr
  rw [force_eq,getF_eq] at hr
  obtain ⟨vs,h4,h5⟩:=resK_some hre h3 hr
  exact ⟨_,by simp only [resL,h4,Option.map_some,getR_eq,List.getD_eq_getElem?_getD,hre.gl i j h1,Option.getD_some],h5⟩
 | .cell a ty :: l,rs,k,r,h,hr=>by
  simp only [cRes,Option.bind_eq_some_iff,Option.map_eq_some_iff] at h
  obtain ⟨j,h1,rs1,h3,rfl⟩:=h
  obtain ⟨v,h6,hr⟩:=ob_some (show ob (loadA P ty (T4.get (.tup []) (pathOf j) t) I) (fun v=>v.force fun v=>resK P rs1 t I fun vs=>k (v :: vs)) = some r by rw [← getF_eq];exact hr)
  rw [force_eq] at hr
  obtain ⟨vs,h4,h5⟩:=resK_some hre h3 hr
  exact ⟨_,by simp only [resL,getR_eq,List.getD_eq_getElem?_getD,hre.gl a j h1,Option.getD_some,h6,Option.bind_some,h4,Option.map_some],h5⟩
def tmpO : Operand→List Tmp
 | .tmp t=>[t]
 | _=>[]
def addT (l : List Tmp) (acc : List Tmp) : List Tmp:=l.foldl (fun acc t=>if acc.contains t then acc else t :: acc) acc
def exOps : List Oper→List Tmp→List Tmp→List Tmp
 | [],_,acc=>acc
 | o :: l,defd,acc=>exOps l (match o.dst with | some d=>d :: defd | none=>defd) (addT ((o.op.operands.toList.flatMap tmpO).filter fun t=>!defd.contains t) acc)
def exCode : Code→List Tmp→List Tmp
 | .region _ ops _,acc=>exOps ops.toList [] acc
 | .seq a b,acc=>exCode b (exCode a acc)
 | .cond c a b,acc=>exCode b (exCode a (addT (tmpO c) acc))
 | .block _ a,acc | .scope a,acc | .loop a,acc=>exCode a acc
 | _,acc=>acc
def isDefer : Op→Bool
 | .defer _=>true
 | _=>false
def whole : Code→Bool
 | .region _ ops _=>ops.toList.any fun o=>isDefer o.op
 | .seq a b | .cond _ a b=>whole a || whole b
 | .block _ a | .scope a | .loop a=>whole a
 | .rangeFunc ..=>true
 | _=>false
def resT : ResultVar→Tmp
 | .tmp t=>t
 | .cell a _=>a
def gsOf (fn : Func) (np : Nat) (body : Code) : List Tmp:=
 if whole body then List.range fn.ntmps else List.range np ++ (exCode body (addT (fn.results.toList.map resT) [])).filter fun t=>Nat.ble np t
def initOk (np nt : Nat) (gs : List Tmp) : Bool:=decide (gs.take np = List.range np) && (gs.drop np).all (fun t=>decide (np≤t) && decide (t < nt)) && decide (np≤nt)
theorem idxT_get : ∀ {l : List Tmp} {i j : Nat},idxT l i = some j→l[j]? = some i
 | [],_,_,h=>by cases h
 | k :: r,i,j,h=>by
  simp only [idxT] at h
  split at h
  ·rename_i e;cases h;simp [Nat.eq_of_beq_eq_true e]
  ·simp only [Option.map_eq_some_iff] at h
   obtain ⟨a,h1,rfl⟩:=h
   simpa using idxT_get h1
theorem ofL_get (l : List AV) (j : Nat) : T4.get (.tup []) (pathOf j) (ofL l) = l.getD j (.tup []):=by
 rw [ofL,ofGo_get]
 by_cases h : j < l.length
 ·rw [if_pos (by omega)];simp
 ·rw [if_neg (by omega),T4.get_leaf];simp [h]
theorem init_rel {np nt : Nat} {gs : List Tmp} (h : initOk np nt gs = true) {args : List AV} (ha : args.length = np) : RelF nt gs (args ++ List.replicate (nt - args.length) (.tup [])) (ofL args):=by
 simp only [initOk,Bool.and_eq_true,decide_eq_true_eq,List.all_eq_true] at h
 obtain ⟨⟨h1,h2⟩,h3⟩:=h
 refine ⟨by simp;omega,fun i j hj=>?_,fun _ _ h=>by cases h⟩
 have hg:=idxT_get hj
 rw [ofL_get]
 by_cases hlt : j < np
 ·have : (gs.take np)[j]? = some i:=by rw [List.getElem?_take,if_pos hlt];exact hg
  rw [h1] at this
  have hij : i = j:=by
   rw [List.getElem?_range hlt] at this;exact (Option.some.inj this).symm
  subst hij
  rw [List.getElem?_append_left (by omega)]
  simp [ha,hlt]
 ·have hmem : i ∈ gs.drop np:=by
   refine List.mem_of_getElem? (i:=j - np) ?_
   rw [List.getElem?_drop,show np + (j - np) = j by omega];exact hg
  have t1 : np≤i:=(h2 i hmem).1
  have t2 : i < nt:=(h2 i hmem).2
  have q1 : args.length≤i:=by omega
  have q2 : i - args.length < nt - args.length:=Nat.sub_lt_sub_right q1 t2
  rw [List.getElem?_append_right q1,List.getElem?_replicate,if_pos q2]
  rw [List.getD_eq_getElem?_getD,List.getElem?_eq_none (by omega)];rfl
theorem range_rel (tm : List AV) : RelF tm.length (List.range tm.length) tm (ofL tm):=by
 refine ⟨rfl,fun i j hj=>?_,fun _ _ h=>by cases h⟩
 have hg:=idxT_get hj
 have hlt : j < tm.length:=by
  have:=(List.getElem?_eq_some_iff.1 hg).1
  simpa using this
 rw [List.getElem?_range hlt] at hg
 cases hg
 rw [ofL_get]
 simp [hlt]
structure FnC where
 fn : Func
 np : Nat
 nt : Nat
 gs : List Tmp
 kc : KC
 res : List RV
noncomputable def getFn (P : Program) (f : FuncId) : Option FnC:=
 (P.funcs[f]?).bind fun fn=>fn.body.bind fun body=>lit fn.ntmps fun nt=>lit (Nat.add fn.params.size fn.nfree) fun np =>
  if initOk np nt (gsOf fn np body) then (cRes (gsOf fn np body) fn.results.toList).map fun rs=>⟨fn,np,nt,gsOf fn np body,comp P nt (gsOf fn np body) body,rs⟩ else none
theorem getFn_some {f : FuncId} {c : FnC} (h : getFn P f = some c) : P.funcs[f]? = some c.fn∧∃ body,c.fn.body = some body∧c.nt = c.fn.ntmps∧c.kc = comp P c.nt c.gs body∧cRes c.gs c.fn.results.toList = some c.res∧initOk c.np c.nt c.gs = true:=by
 simp only [getFn,Option.bind_eq_some_iff,lit_eq] at h
 obtain ⟨fn,h1,body,h2,h⟩:=h
 split at h
 ·rename_i hi
  simp only [Option.map_eq_some_iff] at h
  obtain ⟨rs,h3,rfl⟩:=h
  exact ⟨h1,body,h2,rfl,rfl,h3,hi⟩
 ·cases h
noncomputable def lvK (P : Program) (call : CallF) (K : Nat) (c : FnC) (s : St) (p : Option AV) (t : FT) (σ : Sg) : R:=
 match σ.g.df,p with
 | [],none=>resK P c.res t σ.s fun vs=>(oneOr vs).force fun v=>some (.ret v,collect s σ.s (.ret v))
 | [],some v=>some (.pan v,collect s σ.s (.pan v))
 | df,p=>bo (fullG c.nt c.gs) (ob (leaveA P call K c.fn (toLG c.nt c.gs t) df p σ.s) fun y=>bo (Nat.ble σ.s.next y.2.next) (some (y.1,collect s y.2 y.1)) none) none
noncomputable def fnK (P : Program) (hk : Hook) (call : CallF) (K : Nat) (f : FuncId) (args : List AV) (s : St) : R:=
 match hk f with
 | some g=>g args s
 | none=>ob (getFn P f) fun c=>bo (Nat.beq (lenF args) c.np) (ofK args 0 .leaf fun t=>runKX K c.kc ⟨P,call,fun x t σ=>match x with | .norm | .ret=>lvK P call K c s none t σ | .pan v=>lvK P call K c s (some v) t σ | .exit _=>none⟩ t ⟨⟨[],.no,none⟩,⟨s.heap,s.next,[]⟩⟩ (fun t σ=>lvK P call K c s none t σ)) none
noncomputable def rdK (P : Program) (call : CallF) (K : Nat) (l : Nat) (args : List AV) (s : St) : R:=
 ob (loopA ⟨s.heap,s.next,[]⟩ l) fun L=>bo (Nat.beq args.length L.2.2.2.1.size) (lit (foldA (L.2.2.2.1.toList.zip args) L.2.2.1).length fun nt =>
  runKX K (comp P nt (List.range nt) L.2.2.2.2.1) ⟨P,call,fun _ _ _=>none⟩ (ofL (foldA (L.2.2.2.1.toList.zip args) L.2.2.1)) ⟨⟨[],.no,some l⟩,⟨s.heap,s.next,[]⟩⟩
   (fun t σ=>ob (loopA σ.s l) fun L1=>if L1.1 = .ready then
    runKX K (comp P nt (List.range nt) L.2.2.2.2.2.1) ⟨P,call,fun x _ σ=>ob (jumpOf x) fun jump=>ob (loopA σ.s l) fun L3=>some (.ret (.bool jump.isNone),collect s (endRd σ.s l jump L3) (.ret (.bool jump.isNone)))⟩ t ⟨σ.g,begRd σ.s l L1⟩
     (fun _ σ=>ob (loopA σ.s l) fun L3=>some (.ret (.bool true),collect s (endRd σ.s l none L3) (.ret (.bool true)))) else none)) none
noncomputable def fCall (P : Program) (hk : Hook) (K : Nat) (n : Nat) : CallF:=
 Nat.rec (motive:=fun _=>CallF) (fun _ _ _=>none) (fun _ ih tg=>Tg.rec (motive:=fun _=>List AV→St→Option (Rt × St)) (fun f args s=>fnK P hk ih K f args s) (fun l args s=>rdK P ih K l args s) tg) n
theorem lvK_some {callF call : CallF} (hc : CLe callF call) {K : Nat} {f : FuncId} {c : FnC} (hf : getFn P f = some c) {s : St} {p : Option AV} {t : FT} {tm : List AV} (hre : RelF c.nt c.gs tm t) {g : Aux} {I : St} {r : Rt × St} (h : lvK P callF K c s p t ⟨g,I⟩ = some r) :
 ∃ y,leaveA P call K c.fn tm g.df p I = some y∧I.next≤y.2.next∧r = (y.1,collect s y.2 y.1):=by
 obtain ⟨_,body,_,_,_,hres,_⟩:=getFn_some hf
 unfold lvK at h
 split at h
 ·rename_i hdf
  obtain ⟨vs,h1,h2⟩:=resK_some hre hres h
  rw [force_eq] at h2
  cases h2
  refine ⟨(_,I),?_,Nat.le_refl _,rfl⟩
  rw [hdf]
  simp only [leaveA,resultsA_eq,h1,Option.map_some]
 ·rename_i v hdf
  cases h
  exact ⟨(.pan v,I),by rw [hdf];rfl,Nat.le_refl _,rfl⟩
 ·obtain ⟨h0,h⟩:=bo_some h
  obtain ⟨y,h1,h2⟩:=ob_some h
  obtain ⟨h3,h4⟩:=bo_some h2
  cases h4
  rw [← toLG_eq hre h0] at h1
  exact ⟨y,leaveA_mono hc h1,Nat.le_of_ble_eq_true h3,rfl⟩
theorem fCall_ok {hk : Hook} {K : Nat} : ∀ n,CLe (fCall P hk K n) (evCall P hk K n)
 | 0=>fun _ _ _ _ h=>by cases h
 | n + 1=>by
  have ih:=@fCall_ok hk K n
  intro tg args s r h
  cases tg with
  | fn f =>
   have h : fnK P hk (fCall P hk K n) K f args s = some r:=h
   unfold fnK at h
   simp only [evCall]
   split at h
   ·rename_i hg;rw [hg];exact h
   ·rename_i hg
    rw [hg]
    obtain ⟨c,hc,h⟩:=ob_some h
    obtain ⟨h1,body,h2,h3,h4,h5,hi⟩:=getFn_some hc
    obtain ⟨h6,h⟩:=bo_some h
    rw [lenF_eq] at h6
    have h6 : args.length = c.np:=Nat.eq_of_beq_eq_true h6
    rw [ofK_eq,h4] at h
    obtain ⟨x,tm1,t1,g1,I,h7,hre,h8,h9⟩:=runK_ok ih K body (init_rel hi h6) h
    have hfr : frameA args c.fn.ntmps .no = frOf (args ++ List.replicate (c.nt - args.length) (.tup [])) ⟨[],.no,none⟩:=by rw [← h3];rfl
    simp only [h1,h2,Option.bind_some,hfr,h7]
    have fin : ∀ {p : Option AV},lvK P (fCall P hk K n) K c s p t1 ⟨g1,I⟩ = some r→((leaveA P (evCall P hk K n) K c.fn (frOf tm1 g1).tm (frOf tm1 g1).df p I).bind fun y=>if I.next≤y.2.next then some (y.1,collect s y.2 y.1) else none) = some r:=by
     intro p hp
     obtain ⟨y,q1,q2,rfl⟩:=lvK_some ih hc hre hp
     simp only [frOf,q1,Option.bind_some,if_pos q2]
    cases x with
    | norm=>exact fin h9
    | ret=>exact fin h9
    | pan v=>exact fin h9
    | exit id=>cases h9
  | yld l =>
   have h : rdK P (fCall P hk K n) K l args s = some r:=h
   simp only [evCall]
   obtain ⟨L,h1,h⟩:=ob_some (show ob _ _ = _ from h)
   obtain ⟨h2,h⟩:=bo_some h
   have h2 : args.length = L.2.2.2.1.size:=Nat.eq_of_beq_eq_true h2
   rw [lit_eq] at h
   obtain ⟨x,tm1,t1,g1,I1,h3,hre,h4,h5⟩:=runK_ok ih K _ (range_rel _) h
   cases x with
   | norm =>
    obtain ⟨L1,h6,h7⟩:=ob_some (show ob (loopA I1 l) _ = some r from h5)
    split at h7
    case isFalse=>cases h7
    rename_i hr
    obtain ⟨x,tm2,t2,g2,I3,h8,hre2,h9,h10⟩:=runK_ok ih K _ hre h7
    have hfr : (⟨foldA (L.2.2.2.1.toList.zip args) L.2.2.1,[],.no,some l⟩ : Fr) = frOf (foldA (L.2.2.2.1.toList.zip args) L.2.2.1) ⟨[],.no,some l⟩:=rfl
    have hle : I1.next≤I3.next:=h9
    unfold roundA
    simp only [h1,Option.bind_some,h2,if_true,hfr,h3,h6,hr,h8,if_pos hle]
    have fin : ∀ {jump : Option Code},jumpOf x = some jump→(ob (loopA I3 l) fun L3=>some (Rt.ret (.bool jump.isNone),collect s (endRd I3 l jump L3) (.ret (.bool jump.isNone)))) = some r→
     (((jumpOf x).bind fun jump=>(loopA I3 l).map fun L3=>(Rt.ret (.bool jump.isNone),endRd I3 l jump L3)).map fun q=>(q.1,collect s q.2 q.1)) = some r:=by
     intro jump hj hx
     obtain ⟨L3,q1,q2⟩:=ob_some hx
     cases q2
     simp only [hj,Option.bind_some,q1,Option.map_some]
    cases x with
    | norm=>exact fin (jump:=none) rfl h10
    | ret=>exact fin (jump:=some .ret) rfl h10
    | exit id=>exact fin (jump:=some (.exit id)) rfl h10
    | pan v=>cases h10
   | exit id=>cases h5
   | ret=>cases h5
   | pan v=>cases h5
noncomputable def runF (P : Program) (hk : Hook) (K n : Nat) (f : FuncId) (args : List AV) : R:=
 ob (getFn P f) fun c=>bo (Nat.beq (lenF args) c.np) (runKX K c.kc ⟨P,fCall P hk K n,fun x t σ=>match x,σ.g.df with | .ret,[]=>resK P c.res t σ.s fun vs=>some (.ret (oneOr vs),σ.s) | _,_=>none⟩ (ofL args) ⟨⟨[],.no,none⟩,⟨.leaf,0,[]⟩⟩
  (fun t σ=>match σ.g.df with | []=>resK P c.res t σ.s fun vs=>some (.ret (oneOr vs),σ.s) | _=>none)) none
theorem runF_ok {hk : Hook} {K n : Nat} {f : FuncId} {args : List AV} {v : AV} {I0 : St} (h : runF P hk K n f args = some (.ret v,I0)) : runFn P hk K n f args = some v:=by
 obtain ⟨c,hc,h⟩:=ob_some (show ob _ _ = _ from h)
 obtain ⟨h1,body,h2,h3,h4,h5,hi⟩:=getFn_some hc
 obtain ⟨h6,h⟩:=bo_some h
 rw [lenF_eq] at h6
 have h6 : args.length = c.np:=Nat.eq_of_beq_eq_true h6
 rw [h4] at h
 obtain ⟨x,tm1,t1,g1,I,h7,hre,h8,h9⟩:=runK_ok (fCall_ok n) K body (init_rel hi h6) h
 have hfr : frameA args c.fn.ntmps .no = frOf (args ++ List.replicate (c.nt - args.length) (.tup [])) ⟨[],.no,none⟩:=by rw [← h3];rfl
 unfold runFn
 simp only [h1,h2,Option.bind_some,hfr,h7]
 have fin : ∀ {vv : AV} {I0 : St},(resK P c.res t1 I fun vs=>some (.ret (oneOr vs),I)) = some (.ret vv,I0)→resultsA P c.fn (frOf tm1 g1).tm I = some vv:=by
  intro vv I0 hx
  obtain ⟨vs,q1,q2⟩:=resK_some hre h5 hx
  cases q2
  simp only [resultsA_eq,frOf,q1,Option.map_some]
 cases x with
 | norm =>
  have h9 : (match g1.df with | []=>resK P c.res t1 I fun vs=>some (.ret (oneOr vs),I) | _=>none) = some (Rt.ret v,I0):=h9
  split at h9
  ·rename_i hd;simp only [frOf,hd];exact fin h9
  ·cases h9
 | ret =>
  have h9 : (match Ex.ret,g1.df with | .ret,[]=>resK P c.res t1 I fun vs=>some (.ret (oneOr vs),I) | _,_=>none) = some (Rt.ret v,I0):=h9
  split at h9
  ·rename_i hd;simp only [frOf,hd];exact fin h9
  ·cases h9
 | exit id=>cases h9
 | pan v=>cases h9
end Go.Abs
namespace Go.Abs
noncomputable def KC.hd (c : KC) : KC:=KC.rec (motive:=fun _=>KC) .bad (fun _=>.bad) .bad (fun _=>.bad) (fun _=>.bad) (fun a _ _ _=>a) (fun _ _ _ _ _=>.bad) (fun _ _ _=>.bad) (fun _ _=>.bad) (fun _ _=>.bad) (fun _ _ _ _ _ _=>.bad) .bad c
noncomputable def KC.tl (c : KC) : KC:=KC.rec (motive:=fun _=>KC) .bad (fun _=>.bad) .bad (fun _=>.bad) (fun _=>.bad) (fun _ b _ _=>b) (fun _ _ _ _ _=>.bad) (fun _ _ _=>.bad) (fun _ _=>.bad) (fun _ _=>.bad) (fun _ _ _ _ _ _=>.bad) .bad c
noncomputable def KC.isSeq (c : KC) : Bool:=KC.rec (motive:=fun _=>Bool) false (fun _=>false) false (fun _=>false) (fun _=>false) (fun _ _ _ _=>true) (fun _ _ _ _ _=>false) (fun _ _ _=>false) (fun _ _=>false) (fun _ _=>false) (fun _ _ _ _ _ _=>false) false c
theorem KC.seq_of {c : KC} (h : c.isSeq = true) : c = .seq c.hd c.tl:=by
 cases c<;>first | rfl | cases h
noncomputable def kcOf (P : Program) (f : FuncId) : KC:=match getFn P f with | some c=>c.kc | none=>.bad
noncomputable def KC.take (m : Nat) : KC→KC:=Nat.rec (motive:=fun _=>KC→KC) (fun _=>.skip) (fun _ ih c=>.seq c.hd (ih c.tl)) m
noncomputable def KC.drop (m : Nat) : KC→KC:=Nat.rec (motive:=fun _=>KC→KC) (fun c=>c) (fun _ ih c=>ih c.tl) m
noncomputable def KC.seqs (m : Nat) : KC→Bool:=Nat.rec (motive:=fun _=>KC→Bool) (fun _=>true) (fun _ ih c=>c.isSeq && ih c.tl) m
theorem take_run {K : Nat} {X : Cx} : ∀ (m : Nat) {c : KC},c.seqs m = true→∀ (t : FT) (σ : Sg) (k : KT),runKX (K + 1 + m) c X t σ k = runKX (K + 1 + m) (c.take m) X t σ fun t σ=>runKX (K + 1) (c.drop m) X t σ k
 | 0,c,_,t,σ,k=>rfl
 | m + 1,c,h,t,σ,k=>by
  have h : (c.isSeq && c.tl.seqs m) = true:=h
  rw [Bool.and_eq_true] at h
  have ih:=@take_run K X m c.tl h.2
  have e1 : runKX (K + 1 + (m + 1)) c X t σ k = runKX (K + 1 + m) c.hd X t σ fun t σ=>runKX (K + 1 + m) c.tl X t σ k:=by
   conv=>lhs;rw [KC.seq_of h.1]
   rfl
  rw [e1]
  simp only [ih]
  rfl
theorem stretch {K m : Nat} {c : KC} {X : Cx} {t t' : FT} {σ σ' : Sg} (hs : c.seqs m = true) (h : ∀ k,runKX (K + 1 + m) (c.take m) X t σ k = k t' σ') (k : KT) : runKX (K + 1 + m) c X t σ k = runKX (K + 1) (c.drop m) X t' σ' k:=by
 rw [take_run m hs];exact h _
noncomputable def kxOf (P : Program) (c : FnC) : KX:=fun x t σ=>match x,σ.g.df with | .ret,[]=>resK P c.res t σ.s fun vs=>some (.ret (oneOr vs),σ.s) | _,_=>none
noncomputable def knOf (P : Program) (c : FnC) : KT:=fun t σ=>match σ.g.df with | []=>resK P c.res t σ.s fun vs=>some (.ret (oneOr vs),σ.s) | _=>none
noncomputable def sgOf (s : St) : Sg:=⟨⟨[],.no,none⟩,s⟩
theorem KC.drop_add (o m : Nat) : ∀ c : KC,c.drop (o + m) = (c.drop o).drop m:=by
 induction o with
 | zero=>intro c;rw [Nat.zero_add];rfl
 | succ o ih =>
  intro c
  rw [show o + 1 + m = (o + m) + 1 by omega]
  exact ih c.tl
noncomputable def from_ (P : Program) (call : CallF) (f : FuncId) (o K : Nat) (t : FT) (σ : Sg) : R:=
 ob (getFn P f) fun c=>bo (Nat.beq 0 c.np) (runKX K (c.kc.drop o) ⟨P,call,kxOf P c⟩ t σ (knOf P c)) none
theorem runF_from (P : Program) (hk : Hook) (K n : Nat) (f : FuncId) : runF P hk K n f [] = from_ P (fCall P hk K n) f 0 K (ofL []) (sgOf ⟨.leaf,0,[]⟩):=rfl
theorem from_step {P : Program} {call : CallF} {f : FuncId} {o K m : Nat} {t t' : FT} {σ σ' : Sg} (hs : ((kcOf P f).drop o).seqs m = true)
 (h : ∀ kx k,runKX (K + 1 + m) (((kcOf P f).drop o).take m) ⟨P,call,kx⟩ t σ k = k t' σ') : from_ P call f o (K + 1 + m) t σ = from_ P call f (o + m) (K + 1) t' σ':=by
 unfold from_
 cases hc : getFn P f with
 | none=>rfl
 | some c =>
  have hk : kcOf P f = c.kc:=by unfold kcOf;rw [hc]
  rw [hk] at hs h
  show bo _ (runKX (K + 1 + m) (c.kc.drop o) _ _ _ _) none = bo _ (runKX (K + 1) (c.kc.drop (o + m)) _ _ _ _) none
  rw [stretch hs (h _),KC.drop_add]
noncomputable def warm (m : Nat) (x : R) : R:=
 Nat.rec (motive:=fun _=>Nat→R→R) (fun _ x=>x) (fun _ ih c x =>
  Pt.rec (motive:=fun _=>R→R) (fun x=>lit (Nat.add c 64) fun c=>ih c x) (fun _ _ x=>lit (Nat.add c 64) fun c=>ih c x) (fun _ _ x=>lit (Nat.add c 64) fun c=>ih c x) (fun _ _ x=>lit (Nat.add c 64) fun c=>ih c x) (fun _ _ x=>lit (Nat.add c 64) fun c=>ih c x) (pathOf c) x) m 0 x
theorem warm_eq (m : Nat) (x : R) : warm m x = x:=by
 suffices h : ∀ (m c : Nat),Nat.rec (motive:=fun _=>Nat→R→R) (fun _ x=>x) (fun _ ih c x =>
  Pt.rec (motive:=fun _=>R→R) (fun x=>lit (Nat.add c 64) fun c=>ih c x) (fun _ _ x=>lit (Nat.add c 64) fun c=>ih c x) (fun _ _ x=>lit (Nat.add c 64) fun c=>ih c x) (fun _ _ x=>lit (Nat.add c 64) fun c=>ih c x) (fun _ _ x=>lit (Nat.add c 64) fun c=>ih c x) (pathOf c) x) m c x = x from h m 0
 intro m
 induction m with
 | zero=>intro c;rfl
 | succ m ih =>
  intro c
  cases hp : pathOf c<;>simp only [hp,lit_eq]<;>exact ih _
noncomputable def okTrue (r : R) : Bool:=match r with | some (.ret (.bool true),_)=>true | _=>false
theorem okTrue_some {r : R} (h : okTrue r = true) : ∃ I,r = some (.ret (.bool true),I):=by
 unfold okTrue at h
 split at h
 ·exact ⟨_,rfl⟩
 ·cases h
theorem calls_true {P : Program} {hk : Hook} (hhk : HookOk P hk) {K n : Nat} {f : FuncId} (h : okTrue (runF P hk K n f []) = true) (w : World) :
 Go.Calls P f #[] w fun e w'=>e = .returned (.bool true)∧RowKit.Below w.heap.size w w':=by
 obtain ⟨I,hr⟩:=okTrue_some h
 have:=calls_of_run hhk (runF_ok hr) (xs:=[]) rfl w
 refine this.mono ?_
 rintro e w' ⟨⟨E,x,hx,rfl⟩,hb⟩
 cases hx
 exact ⟨rfl,hb⟩
end Go.Abs

/- A part of the proof: a run of the program on abstract values, shown to be a run of the machine. -/
import Derived.Test.YtclkbedbocnpkaaGreatDoorMSho3
import Derived.Below
set_option linter.unusedVariables false
set_option linter.unusedSimpArgs false
namespace Go.Abs
open Go.RowKit
variable {P : Program}
noncomputable def runFn (P : Program) (hk : Hook) (K n : Nat) (f : FuncId) (args : List AV) : Option AV:=
 (P.funcs[f]?).bind fun fn=>fn.body.bind fun body =>
 (evCode P (evCall P hk K n) K body (frameA args fn.ntmps .no) ⟨.leaf,0,[]⟩).bind fun (x,fr,I) =>
 match x,fr.df with
 | .norm,[] | .ret,[]=>resultsA P fn fr.tm I
 | _,_=>none
theorem no_leaf {α : Type} {n : Nat} {x : α} {p : Prop} (h : (Tr.leaf : Tr α).get n = some x) : p:=by rw [Tr.get_leaf] at h;cases h
theorem calls_of_run {hk : Hook} (hhk : HookOk P hk) {K n : Nat} {f : FuncId} {args : List AV} {v : AV} (h : runFn P hk K n f args = some v) {xs : List Value} (hxs : concL (fun _=>none) args = some xs) (w : World) :
 Calls P f xs.toArray w fun e w'=>(∃ E x,conc E v = some x∧e = .returned x)∧Below w.heap.size w w':=by
 simp only [runFn,Option.bind_eq_some_iff] at h
 obtain ⟨fn,hfn,body,hbody,⟨x,fr,I⟩,h1,h⟩:=h
 have hx : (x = .norm∨x = .ret)∧fr.df = []∧resultsA P fn fr.tm I = some v:=by
  split at h
  ·rename_i hx hd;exact ⟨.inl hx,hd,h⟩
  ·rename_i hx hd;exact ⟨.inr hx,hd,h⟩
  ·cases h
 obtain ⟨hx,hdf,hres⟩:=hx
 intro cs
 let b : Frame:={ (default : Frame) with fn:=f,kind:=.normal,roundOf:=none }
 let a0 : Act:={ tmps:=xs.toArray ++ Array.replicate (fn.ntmps - xs.toArray.size) undef,defers:=[] }
 have henter : Frame.enter P f xs.toArray .normal = b.atR a0 [.code body]:=by simp [Frame.enter,Frame.atR,hfn,hbody,b,a0]
 have hfr0 : FR (fun _=>none) (frameA args fn.ntmps .no) b cs a0 cs:=⟨⟨_,frameA_conc hxs fn.ntmps _,by simp [a0]⟩,rfl,rfl,rfl⟩
 have hs0 : Sim (fun _=>none) ⟨.leaf,0,[]⟩ w:=⟨(fun n x hx=>no_leaf hx),(fun n m _ _ _ _ _ hn=>no_leaf hn),(fun n _ _ hn=>by cases hn)⟩
 obtain ⟨e1,w1,a1,cs1,g1,g2,g3,g4⟩:=(evCode_run (evCall_ok hhk (K:=K) n) K).1 body _ ⟨.leaf,0,[]⟩ x fr I h1 (fun _=>none) w b cs cs a0 hs0 hfr0 (fun _ _ _=>rfl) []
 have hcs1 : cs1 = cs:=by
  have hrc:=g3.rc
  cases hr1 : fr.rc with
  | no=>simpa [hr1,CsOk] using hrc
  | quiet=>simp only [hr1,CsOk] at hrc;exact absurd hrc.1 (by simp [b])
  | pend v=>simp only [hr1,CsOk] at hrc;exact absurd hrc.1 (by simp [b])
  | done v=>simp only [hr1,CsOk] at hrc;exact absurd hrc.1 (by simp [b])
 subst hcs1
 obtain ⟨ts1,hts1,hta1⟩:=g3.tm
 have hd1 : a1.defers = []:=by
  have:=g3.df;rw [hdf] at this;simp only [concDL,Option.some.injEq] at this;exact this.symm
 obtain ⟨y,hy,hrun⟩:=resultsA_run (P:=P) g1 hts1 hres
 rw [← hta1] at hrun
 have hno : ∀ b,¬ Own (fun _=>none) ⟨.leaf,0,[]⟩ b:=fun b ⟨n,x,q,hx,_⟩=>no_leaf hx
 have hbelow : Below w.heap.size w w1:=⟨g2.os,g2.tape,g2.output,g2.size,fun k hk=>g2.frame k hk (hno k)⟩
 rcases hx with rfl | rfl
 ·exact ⟨.returned y,w1,{ b.atR a1 [] with mode:=.returning },⟨⟨e1,y,hy,rfl⟩,hbelow⟩,by rw [henter];exact Steps.trans g4 (.one (stepR_end rfl)),rfl,rfl,hd1,rfl,fn,hfn,hrun⟩
 ·obtain ⟨Kk,hst⟩:=g4
  exact ⟨.returned y,w1,{ b.atR a1 (.code .ret :: Kk) with mode:=.returning },⟨⟨e1,y,hy,rfl⟩,hbelow⟩,by rw [henter];exact Steps.trans hst (.one (stepR_ret rfl)),rfl,rfl,hd1,rfl,fn,hfn,hrun⟩
end Go.Abs
namespace Go.Abs
abbrev R:=Option (Rt × St)
noncomputable def AV.onInt (v : AV) : (IntKind→Int→R)→R→R:=
 AV.rec (motive_1:=fun _=>(IntKind→Int→R)→R→R) (motive_2:=fun _=>Unit)
  (fun a0 a1 f _=>f a0 a1)
  (fun _ _ d=>d)
  (fun _ _ d=>d)
  (fun _ _ _ d=>d)
  (fun _ d=>d)
  (fun _ _ _ _ _ d=>d)
  (fun _ _ _ d=>d)
  (fun _ d=>d)
  (fun _ _ _ _ _ _ d=>d)
  (fun _ _ d=>d)
  (fun _ d=>d)
  (fun _ _ _ _ d=>d)
  (fun _ d=>d)
  (fun _ _ d=>d)
  (fun _ d=>d)
  (fun _ _ _ d=>d)
  (fun _ _ _ d=>d)
  () (fun _ _ _ _=>()) v
noncomputable def AV.onBool (v : AV) : R→R→R→R:=
 AV.rec (motive_1:=fun _=>R→R→R→R) (motive_2:=fun _=>Unit)
  (fun _ _ _ _ d=>d)
  (fun a0 x y _=>Bool.rec (motive:=fun _=>R) x y a0)
  (fun _ _ _ d=>d)
  (fun _ _ _ _ d=>d)
  (fun _ _ d=>d)
  (fun _ _ _ _ _ _ d=>d)
  (fun _ _ _ _ d=>d)
  (fun _ _ d=>d)
  (fun _ _ _ _ _ _ _ d=>d)
  (fun _ _ _ d=>d)
  (fun _ _ d=>d)
  (fun _ _ _ _ _ d=>d)
  (fun _ _ d=>d)
  (fun _ _ _ d=>d)
  (fun _ _ d=>d)
  (fun _ _ _ _ d=>d)
  (fun _ _ _ _ d=>d)
  () (fun _ _ _ _=>()) v
noncomputable def AV.onPtr (v : AV) : (Nat→Nat→R)→R→R:=
 AV.rec (motive_1:=fun _=>(Nat→Nat→R)→R→R) (motive_2:=fun _=>Unit)
  (fun _ _ _ d=>d)
  (fun _ _ d=>d)
  (fun _ _ d=>d)
  (fun a0 a1 f _=>f a0 a1)
  (fun _ d=>d)
  (fun _ _ _ _ _ d=>d)
  (fun _ _ _ d=>d)
  (fun _ d=>d)
  (fun _ _ _ _ _ _ d=>d)
  (fun _ _ d=>d)
  (fun _ d=>d)
  (fun _ _ _ _ d=>d)
  (fun _ d=>d)
  (fun _ _ d=>d)
  (fun _ d=>d)
  (fun _ _ _ d=>d)
  (fun _ _ _ d=>d)
  () (fun _ _ _ _=>()) v
noncomputable def AV.onTup (v : AV) : (List AV→R)→R→R:=
 AV.rec (motive_1:=fun _=>(List AV→R)→R→R) (motive_2:=fun _=>Unit)
  (fun _ _ _ d=>d)
  (fun _ _ d=>d)
  (fun _ _ d=>d)
  (fun _ _ _ d=>d)
  (fun _ d=>d)
  (fun _ _ _ _ _ d=>d)
  (fun _ _ _ d=>d)
  (fun _ d=>d)
  (fun _ _ _ _ _ _ d=>d)
  (fun _ _ d=>d)
  (fun _ d=>d)
  (fun _ _ _ _ d=>d)
  (fun _ d=>d)
  (fun _ _ d=>d)
  (fun _ d=>d)
  (fun _ _ _ d=>d)
  (fun a0 _ f _=>f a0)
  () (fun _ _ _ _=>()) v
noncomputable def AV.onAgg (v : AV) : (List AV→R)→R→R:=
 AV.rec (motive_1:=fun _=>(List AV→R)→R→R) (motive_2:=fun _=>Unit)
  (fun _ _ _ d=>d)
  (fun _ _ d=>d)
  (fun _ _ d=>d)
  (fun _ _ _ d=>d)
  (fun _ d=>d)
  (fun _ _ _ _ _ d=>d)
  (fun _ _ _ d=>d)
  (fun _ d=>d)
  (fun _ _ _ _ _ _ d=>d)
  (fun _ _ d=>d)
  (fun _ d=>d)
  (fun _ _ _ _ d=>d)
  (fun _ d=>d)
  (fun _ _ d=>d)
  (fun _ d=>d)
  (fun a0 _ f _=>f a0)
  (fun _ _ _ d=>d)
  () (fun _ _ _ _=>()) v
noncomputable def AV.onSl (v : AV) : (Nat→Nat→Nat→R)→R→R→R:=
 AV.rec (motive_1:=fun _=>(Nat→Nat→Nat→R)→R→R→R) (motive_2:=fun _=>Unit)
  (fun _ _ _ _ d=>d)
  (fun _ _ _ d=>d)
  (fun _ _ _ d=>d)
  (fun _ _ _ _ d=>d)
  (fun _ _ d=>d)
  (fun a0 a1 a2 _ f _ _=>f a0 a1 a2)
  (fun a0 a1 f _ _=>f a0 0 a1)
  (fun _ e _=>e)
  (fun _ _ _ _ _ _ _ d=>d)
  (fun _ _ _ d=>d)
  (fun _ _ d=>d)
  (fun _ _ _ _ _ d=>d)
  (fun _ _ d=>d)
  (fun _ _ _ d=>d)
  (fun _ _ d=>d)
  (fun _ _ _ _ d=>d)
  (fun _ _ _ _ d=>d)
  () (fun _ _ _ _=>()) v
noncomputable def AV.cellsF (v : AV) : List AV:=
 AV.rec (motive_1:=fun _=>List AV) (motive_2:=fun _=>Unit)
  (fun a0 a1=>[.int a0 a1])
  (fun a0=>[.bool a0])
  (fun a0=>[.str a0])
  (fun a0 a1=>[.ptr a0 a1])
  ([.nilPtr])
  (fun a0 a1 a2 a3=>[.slice a0 a1 a2 a3])
  (fun a0 a1=>[.opn a0 a1])
  ([.nilSlice])
  (fun a0 a1 a2 _ _=>[.func a0 a1 a2])
  (fun a0=>[.yld a0])
  ([.nilFunc])
  (fun a0 a1 _=>[.iface a0 a1])
  ([.nilIface])
  (fun a0=>[.map a0])
  ([.nilMap])
  (fun a0 _=>a0)
  (fun a0 _=>[.tup a0])
  () (fun _ _ _ _=>()) v
noncomputable def AV.isOpn (v : AV) : R→R→R:=
 AV.rec (motive_1:=fun _=>R→R→R) (motive_2:=fun _=>Unit)
  (fun _ _ _ y=>y)
  (fun _ _ y=>y)
  (fun _ _ y=>y)
  (fun _ _ _ y=>y)
  (fun _ y=>y)
  (fun _ _ _ _ _ y=>y)
  (fun _ _ x _=>x)
  (fun x _=>x)
  (fun _ _ _ _ _ _ y=>y)
  (fun _ _ y=>y)
  (fun _ y=>y)
  (fun _ _ _ _ y=>y)
  (fun _ y=>y)
  (fun _ _ y=>y)
  (fun _ y=>y)
  (fun _ _ _ y=>y)
  (fun _ _ _ y=>y)
  () (fun _ _ _ _=>()) v
noncomputable def AV.isOne (v : AV) : R→R→R:=
 AV.rec (motive_1:=fun _=>R→R→R) (motive_2:=fun _=>Unit)
  (fun _ _ x _=>x)
  (fun _ x _=>x)
  (fun _ x _=>x)
  (fun _ _ x _=>x)
  (fun x _=>x)
  (fun _ _ _ _ x _=>x)
  (fun _ _ x _=>x)
  (fun x _=>x)
  (fun _ _ _ _ _ x _=>x)
  (fun _ x _=>x)
  (fun x _=>x)
  (fun _ _ _ x _=>x)
  (fun x _=>x)
  (fun _ x _=>x)
  (fun x _=>x)
  (fun _ _ _ y=>y)
  (fun _ _ _ y=>y)
  () (fun _ _ _ _=>()) v
noncomputable def AV.force (v : AV) : (AV→R)→R:=
 AV.rec (motive_1:=fun _=>(AV→R)→R) (motive_2:=fun _=>Unit)
  (fun a0 a1 k=>k (.int a0 a1))
  (fun a0 k=>k (.bool a0))
  (fun a0 k=>k (.str a0))
  (fun a0 a1 k=>k (.ptr a0 a1))
  (fun k=>k (.nilPtr))
  (fun a0 a1 a2 a3 k=>k (.slice a0 a1 a2 a3))
  (fun a0 a1 k=>k (.opn a0 a1))
  (fun k=>k (.nilSlice))
  (fun a0 a1 a2 _ _ k=>k (.func a0 a1 a2))
  (fun a0 k=>k (.yld a0))
  (fun k=>k (.nilFunc))
  (fun a0 a1 _ k=>k (.iface a0 a1))
  (fun k=>k (.nilIface))
  (fun a0 k=>k (.map a0))
  (fun k=>k (.nilMap))
  (fun a0 _ k=>k (.agg a0))
  (fun a0 _ k=>k (.tup a0))
  () (fun _ _ _ _=>()) v
section
variable {γ : Type}
theorem onInt_some {v : AV} {f : IntKind→Int→R} {d r : R} (h : v.onInt f d = r) : (∃ k n,v = .int k n∧f k n = r)∨d = r:=by
 cases v<;>first | exact .inr h | exact .inl ⟨_,_,rfl,h⟩
theorem onBool_some {v : AV} {x y d r : R} (h : v.onBool x y d = r) : (v = .bool false∧x = r)∨(v = .bool true∧y = r)∨((∀ b,v ≠ .bool b)∧d = r):=by
 cases v with
 | bool b=>cases b<;>first | exact .inl ⟨rfl,h⟩ | exact .inr (.inl ⟨rfl,h⟩)
 | _=>exact .inr (.inr ⟨nofun,h⟩)
theorem onPtr_some {v : AV} {f : Nat→Nat→R} {d r : R} (h : v.onPtr f d = r) : (∃ k n,v = .ptr k n∧f k n = r)∨d = r:=by
 cases v<;>first | exact .inr h | exact .inl ⟨_,_,rfl,h⟩
theorem onTup_some {v : AV} {f : List AV→R} {d r : R} (h : v.onTup f d = r) : (∃ k,v = .tup k∧f k = r)∨d = r:=by
 cases v<;>first | exact .inr h | exact .inl ⟨_,rfl,h⟩
theorem onAgg_some {v : AV} {f : List AV→R} {d r : R} (h : v.onAgg f d = r) : (∃ k,v = .agg k∧f k = r)∨d = r:=by
 cases v<;>first | exact .inr h | exact .inl ⟨_,rfl,h⟩
theorem onSl_some {v : AV} {f : Nat→Nat→Nat→R} {e d r : R} (h : v.onSl f e d = r) :
 (∃ b o n c,v = .slice b o n c∧f b o n = r)∨(∃ b n,v = .opn b n∧f b 0 n = r)∨(v = .nilSlice∧e = r)∨d = r:=by
 cases v<;>first | exact .inr (.inr (.inr h)) | exact .inl ⟨_,_,_,_,rfl,h⟩ | exact .inr (.inl ⟨_,_,rfl,h⟩) | exact .inr (.inr (.inl ⟨rfl,h⟩))
theorem isOne_eq (v : AV) (x y : R) : v.isOne x y = if oneA v then x else y:=by cases v<;>rfl
theorem isOpn_some {v : AV} {x y : R} {r : Rt × St} (h : v.isOpn x y = some r) : (((∃ b n,v = .opn b n)∨v = .nilSlice)∧x = some r)∨y = some r:=by
 cases v<;>first | exact .inr h | exact .inl ⟨.inl ⟨_,_,rfl⟩,h⟩ | exact .inl ⟨.inr rfl,h⟩
theorem cellsF_eq (v : AV) : v.cellsF = cellsA v:=by cases v<;>rfl
theorem force_eq (v : AV) (k : AV→R) : v.force k = k v:=by cases v<;>rfl
noncomputable def lit (n : Nat) (k : Nat→γ) : γ:=Nat.rec (motive:=fun _=>γ) (k Nat.zero) (fun m _=>k (Nat.succ m)) n
theorem lit_eq (n : Nat) (k : Nat→γ) : lit n k = k n:=by cases n<;>rfl
noncomputable def ob {α : Type} (x : Option α) (f : α→Option γ) : Option γ:=Option.rec (motive:=fun _=>Option γ) none f x
theorem ob_some {α : Type} {x : Option α} {f : α→Option γ} {r : γ} (h : ob x f = some r) : ∃ a,x = some a∧f a = some r:=by
 cases x with
 | none=>cases h
 | some a=>exact ⟨a,rfl,h⟩
noncomputable def bo (b : Bool) (x y : γ) : γ:=Bool.rec (motive:=fun _=>γ) y x b
theorem bo_eq (b : Bool) (x y : γ) : bo b x y = if b then x else y:=by cases b<;>rfl
theorem bo_some {b : Bool} {x : Option γ} {r : γ} (h : bo b x none = some r) : b = true∧x = some r:=by
 cases b with
 | false=>cases h
 | true=>exact ⟨rfl,h⟩
noncomputable def nthK (l : List AV) : Nat→(AV→R)→R:=
 List.rec (motive:=fun _=>Nat→(AV→R)→R) (fun _ _=>none) (fun a _ ih n k=>Nat.rec (motive:=fun _=>R) (k a) (fun m _=>ih m k) n) l
theorem nthK_some : ∀ {l : List AV} {n : Nat} {k : AV→R} {r : Rt × St},nthK l n k = some r→∃ v,l[n]? = some v∧k v = some r
 | [],_,_,_,h=>by cases h
 | a :: l,0,_,_,h=>⟨a,rfl,h⟩
 | a :: l,n + 1,k,r,h=>by
  obtain ⟨v,h1,h2⟩:=nthK_some (l:=l) (n:=n) h
  exact ⟨v,by simpa using h1,h2⟩
noncomputable def putK (v : AV) (l : List AV) : Nat→(List AV→R)→R:=
 List.rec (motive:=fun _=>Nat→(List AV→R)→R) (fun _ _=>none) (fun a tl ih n k=>Nat.rec (motive:=fun _=>R) (k (v :: tl)) (fun m _=>ih m fun l=>k (a :: l)) n) l
theorem putK_some {v : AV} : ∀ {l : List AV} {n : Nat} {k : List AV→R} {r : Rt × St},putK v l n k = some r→n < l.length∧k (l.set n v) = some r
 | [],_,_,_,h=>by cases h
 | a :: l,0,_,_,h=>⟨by simp,h⟩
 | a :: l,n + 1,k,r,h=>by
  obtain ⟨h1,h2⟩:=putK_some (l:=l) (n:=n) (k:=fun l=>k (a :: l)) h
  exact ⟨by simpa using h1,h2⟩
noncomputable def getF (p : Pt) : T4 AV→AV:=
 Pt.rec (motive:=fun _=>T4 AV→AV)
  (fun t=>T4.rec (motive:=fun _=>AV) (.tup []) (fun v _ _ _ _ _ _ _ _=>v) t)
  (fun _ ih t=>T4.rec (motive:=fun _=>(T4 AV→AV)→AV) (fun _=>(.tup [])) (fun _ a _ _ _ _ _ _ _ f=>f a) t ih)
  (fun _ ih t=>T4.rec (motive:=fun _=>(T4 AV→AV)→AV) (fun _=>(.tup [])) (fun _ _ a _ _ _ _ _ _ f=>f a) t ih)
  (fun _ ih t=>T4.rec (motive:=fun _=>(T4 AV→AV)→AV) (fun _=>(.tup [])) (fun _ _ _ a _ _ _ _ _ f=>f a) t ih)
  (fun _ ih t=>T4.rec (motive:=fun _=>(T4 AV→AV)→AV) (fun _=>(.tup [])) (fun _ _ _ _ a _ _ _ _ f=>f a) t ih)
  p
theorem getF_eq : ∀ (p : Pt) (t : T4 AV),getF p t = T4.get (.tup []) p t:=by
 intro p
 induction p with
 | z=>intro t;cases t<;>rfl
 | a p ih | b p ih | c p ih | d p ih=>intro t;cases t<;>first | rfl | exact ih _
noncomputable def setF (x : AV) (p : Pt) (t : T4 AV) (k : T4 AV→R) : R:=
 Pt.rec (motive:=fun _=>AV→T4 AV→(T4 AV→R)→R)
  (fun v t k=>T4.rec (motive:=fun _=>AV→(T4 AV→R)→R) (fun v k=>k (.node v .leaf .leaf .leaf .leaf)) (fun _ a b c d _ _ _ _ v k=>k (.node v a b c d)) t v k)
  (fun _ ih v t k=>T4.rec (motive:=fun _=>(AV→T4 AV→(T4 AV→R)→R)→AV→(T4 AV→R)→R) (fun f v k=>f v .leaf fun y=>k (.node (.tup []) y .leaf .leaf .leaf)) (fun w a b c d _ _ _ _ f v k=>f v a fun y=>k (.node w y b c d)) t ih v k)
  (fun _ ih v t k=>T4.rec (motive:=fun _=>(AV→T4 AV→(T4 AV→R)→R)→AV→(T4 AV→R)→R) (fun f v k=>f v .leaf fun y=>k (.node (.tup []) .leaf y .leaf .leaf)) (fun w a b c d _ _ _ _ f v k=>f v b fun y=>k (.node w a y c d)) t ih v k)
  (fun _ ih v t k=>T4.rec (motive:=fun _=>(AV→T4 AV→(T4 AV→R)→R)→AV→(T4 AV→R)→R) (fun f v k=>f v .leaf fun y=>k (.node (.tup []) .leaf .leaf y .leaf)) (fun w a b c d _ _ _ _ f v k=>f v c fun y=>k (.node w a b y d)) t ih v k)
  (fun _ ih v t k=>T4.rec (motive:=fun _=>(AV→T4 AV→(T4 AV→R)→R)→AV→(T4 AV→R)→R) (fun f v k=>f v .leaf fun y=>k (.node (.tup []) .leaf .leaf .leaf y)) (fun w a b c d _ _ _ _ f v k=>f v d fun y=>k (.node w a b c y)) t ih v k)
  p x t k
theorem setF_eq (x : AV) : ∀ (p : Pt) (t : T4 AV) (k : T4 AV→R),setF x p t k = k (T4.set (.tup []) x p t):=by
 intro p
 induction p with
 | z=>intro t k;cases t<;>rfl
 | a p ih | b p ih | c p ih | d p ih=>intro t k;cases t<;>exact ih _ _
noncomputable def getH (p : Pt) : T4 (Option Blk)→(Option Blk):=
 Pt.rec (motive:=fun _=>T4 (Option Blk)→(Option Blk))
  (fun t=>T4.rec (motive:=fun _=>(Option Blk)) none (fun v _ _ _ _ _ _ _ _=>v) t)
  (fun _ ih t=>T4.rec (motive:=fun _=>(T4 (Option Blk)→(Option Blk))→(Option Blk)) (fun _=>none) (fun _ a _ _ _ _ _ _ _ f=>f a) t ih)
  (fun _ ih t=>T4.rec (motive:=fun _=>(T4 (Option Blk)→(Option Blk))→(Option Blk)) (fun _=>none) (fun _ _ a _ _ _ _ _ _ f=>f a) t ih)
  (fun _ ih t=>T4.rec (motive:=fun _=>(T4 (Option Blk)→(Option Blk))→(Option Blk)) (fun _=>none) (fun _ _ _ a _ _ _ _ _ f=>f a) t ih)
  (fun _ ih t=>T4.rec (motive:=fun _=>(T4 (Option Blk)→(Option Blk))→(Option Blk)) (fun _=>none) (fun _ _ _ _ a _ _ _ _ f=>f a) t ih)
  p
theorem getH_eq : ∀ (p : Pt) (t : T4 (Option Blk)),getH p t = T4.get none p t:=by
 intro p
 induction p with
 | z=>intro t;cases t<;>rfl
 | a p ih | b p ih | c p ih | d p ih=>intro t;cases t<;>first | rfl | exact ih _
noncomputable def setH (x : (Option Blk)) (p : Pt) (t : T4 (Option Blk)) (k : T4 (Option Blk)→R) : R:=
 Pt.rec (motive:=fun _=>(Option Blk)→T4 (Option Blk)→(T4 (Option Blk)→R)→R)
  (fun v t k=>T4.rec (motive:=fun _=>(Option Blk)→(T4 (Option Blk)→R)→R) (fun v k=>k (.node v .leaf .leaf .leaf .leaf)) (fun _ a b c d _ _ _ _ v k=>k (.node v a b c d)) t v k)
  (fun _ ih v t k=>T4.rec (motive:=fun _=>((Option Blk)→T4 (Option Blk)→(T4 (Option Blk)→R)→R)→(Option Blk)→(T4 (Option Blk)→R)→R) (fun f v k=>f v .leaf fun y=>k (.node none y .leaf .leaf .leaf)) (fun w a b c d _ _ _ _ f v k=>f v a fun y=>k (.node w y b c d)) t ih v k)
  (fun _ ih v t k=>T4.rec (motive:=fun _=>((Option Blk)→T4 (Option Blk)→(T4 (Option Blk)→R)→R)→(Option Blk)→(T4 (Option Blk)→R)→R) (fun f v k=>f v .leaf fun y=>k (.node none .leaf y .leaf .leaf)) (fun w a b c d _ _ _ _ f v k=>f v b fun y=>k (.node w a y c d)) t ih v k)
  (fun _ ih v t k=>T4.rec (motive:=fun _=>((Option Blk)→T4 (Option Blk)→(T4 (Option Blk)→R)→R)→(Option Blk)→(T4 (Option Blk)→R)→R) (fun f v k=>f v .leaf fun y=>k (.node none .leaf .leaf y .leaf)) (fun w a b c d _ _ _ _ f v k=>f v c fun y=>k (.node w a b y d)) t ih v k)
  (fun _ ih v t k=>T4.rec (motive:=fun _=>((Option Blk)→T4 (Option Blk)→(T4 (Option Blk)→R)→R)→(Option Blk)→(T4 (Option Blk)→R)→R) (fun f v k=>f v .leaf fun y=>k (.node none .leaf .leaf .leaf y)) (fun w a b c d _ _ _ _ f v k=>f v d fun y=>k (.node w a b c y)) t ih v k)
  p x t k
theorem setH_eq (x : (Option Blk)) : ∀ (p : Pt) (t : T4 (Option Blk)) (k : T4 (Option Blk)→R),setH x p t k = k (T4.set none x p t):=by
 intro p
 induction p with
 | z=>intro t k;cases t<;>rfl
 | a p ih | b p ih | c p ih | d p ih=>intro t k;cases t<;>exact ih _ _
end
abbrev FT:=T4 AV
noncomputable def ofGo (l : List AV) : Nat→FT→FT:=
 List.rec (motive:=fun _=>Nat→FT→FT) (fun _ t=>t) (fun a _ ih i t=>ih (Nat.succ i) (T4.set (.tup []) a (pathOf i) t)) l
theorem ofGo_get : ∀ (l : List AV) (i j : Nat) (t : FT),T4.get (.tup []) (pathOf j) (ofGo l i t) = if i≤j∧j < i + l.length then l.getD (j - i) (.tup []) else T4.get (.tup []) (pathOf j) t
 | [],i,j,t=>by
  rw [if_neg (by intro h;simp only [List.length_nil] at h;omega)];rfl
 | a :: l,i,j,t=>by
  rw [show ofGo (a :: l) i t = ofGo l (i + 1) (T4.set (.tup []) a (pathOf i) t) from rfl,ofGo_get l (i + 1) j]
  by_cases e : j = i
  ·subst e
   rw [if_neg (by omega),if_pos (by simp),T4.get_set_self];simp
  ·rw [T4.get_set_ne _ _ _ _ _ (fun e0=>e (pathOf_inj.1 e0))]
   by_cases h : i + 1≤j∧j < i + 1 + l.length
   ·rw [if_pos h,if_pos (by simp;omega)]
    obtain ⟨k,rfl⟩ : ∃ k,j = i + 1 + k:=⟨j - (i + 1),by omega⟩
    rw [show i + 1 + k - (i + 1) = k by omega,show i + 1 + k - i = k + 1 by omega];simp
   ·rw [if_neg h,if_neg (by simp;omega)]
noncomputable def ofL (l : List AV) : FT:=ofGo l 0 .leaf
noncomputable def ofK (l : List AV) : Nat→FT→(FT→R)→R:=
 List.rec (motive:=fun _=>Nat→FT→(FT→R)→R) (fun _ t k=>k t) (fun a _ ih i t k=>setF a (pathOf i) t fun t=>lit (Nat.succ i) fun i=>ih i t k) l
theorem ofK_go : ∀ (l : List AV) (i : Nat) (t : FT) (k : FT→R),ofK l i t k = k (ofGo l i t)
 | [],_,_,_=>rfl
 | a :: l,i,t,k=>by
  rw [show ofK (a :: l) i t k = setF a (pathOf i) t (fun t=>lit (Nat.succ i) fun i=>ofK l i t k) from rfl,setF_eq,lit_eq,ofK_go l];rfl
theorem ofK_eq (l : List AV) (k : FT→R) : ofK l 0 .leaf k = k (ofL l):=ofK_go l 0 .leaf k
end Go.Abs
namespace Go.Abs
variable {P : Program}
def ALe (α β : Operand→Option AV) : Prop:=∀ x v,α x = some v→β x = some v
section
variable {α β : Operand→Option AV} (hab : ALe α β)
include hab
theorem argL_le : ∀ {l : List Operand} {vs : List AV},argL α l = some vs→argL β l = some vs
 | [],_,h=>h
 | x :: l,vs,h=>by
  simp only [argL,Option.bind_eq_some_iff,Option.map_eq_some_iff] at h ⊢
  obtain ⟨v,h1,ws,h2,h3⟩:=h
  exact ⟨v,hab _ _ h1,ws,argL_le h2,h3⟩
theorem argP_le : ∀ {l : List (Nat × Operand)} {vs : List (Nat × AV)},argP α l = some vs→argP β l = some vs
 | [],_,h=>h
 | (i,x) :: l,vs,h=>by
  simp only [argP,Option.bind_eq_some_iff,Option.map_eq_some_iff] at h ⊢
  obtain ⟨v,h1,ws,h2,h3⟩:=h
  exact ⟨v,hab _ _ h1,ws,argP_le h2,h3⟩
theorem optArg_le {x : Option Operand} {v : Option AV} (h : optArg α x = some v) : optArg β x = some v:=by
 cases x with
 | none=>exact h
 | some x =>
  simp only [optArg,Option.map_eq_some_iff] at h ⊢
  obtain ⟨v,h1,h2⟩:=h
  exact ⟨v,hab _ _ h1,h2⟩
theorem pureOp_le {o : Oper} {v : AV} (h : pureOp P o α = some v) : pureOp P o β = some v:=by
 unfold pureOp at h ⊢
 cases hop : o.op with
 | move x=>simp only [hop] at h ⊢;exact hab _ _ h
 | assign x=>simp only [hop] at h ⊢;exact hab _ _ h
 | pick c a b =>
  simp only [hop,Option.bind_eq_some_iff] at h ⊢
  obtain ⟨t,h1,h2⟩:=h
  refine ⟨t,hab _ _ h1,?_⟩
  split at h2
  ·exact hab _ _ h2
  ·exact hab _ _ h2
  ·cases h2
 | nilCheck x=>simp only [hop,Option.bind_eq_some_iff] at h ⊢;obtain ⟨t,h1,h2⟩:=h;exact ⟨t,hab _ _ h1,h2⟩
 | binOp op t x y yt=>simp only [hop,Option.bind_eq_some_iff] at h ⊢;obtain ⟨a,h1,b,h2,h3⟩:=h;exact ⟨a,hab _ _ h1,b,hab _ _ h2,h3⟩
 | unOp op t x=>simp only [hop,Option.bind_eq_some_iff] at h ⊢;obtain ⟨t,h1,h2⟩:=h;exact ⟨t,hab _ _ h1,h2⟩
 | convert s d x=>simp only [hop,Option.bind_eq_some_iff] at h ⊢;obtain ⟨t,h1,h2⟩:=h;exact ⟨t,hab _ _ h1,h2⟩
 | makeInterface t x =>
  simp only [hop] at h ⊢
  split at h
  ·rename_i hc
   simp only [Option.map_eq_some_iff] at h
   obtain ⟨v,h1,h2⟩:=h
   simp only [hc,if_true,Option.map_eq_some_iff]
   exact ⟨v,hab _ _ h1,h2⟩
  ·cases h
 | makeFunc fn aas cs =>
  cases fn with
  | func f =>
   simp only [hop,Option.bind_eq_some_iff,Option.map_eq_some_iff] at h ⊢
   obtain ⟨a,h1,c,h2,h3⟩:=h
   exact ⟨a,argL_le hab h1,c,argL_le hab h2,h3⟩
  | _=>simp only [hop] at h;cases h
 | extract x i=>simp only [hop,Option.bind_eq_some_iff] at h ⊢;obtain ⟨t,h1,h2⟩:=h;exact ⟨t,hab _ _ h1,h2⟩
 | fieldAddr t x i =>
  simp only [hop,Option.bind_eq_some_iff] at h ⊢
  obtain ⟨fs,h1,f,h2,k,h3,h4⟩:=h
  refine ⟨fs,h1,f,h2,k,h3,?_⟩
  split at h4
  ·cases h4
  ·rename_i hk
   simp only [hk,if_false,Option.bind_eq_some_iff] at h4 ⊢
   obtain ⟨t,h1,h2⟩:=h4;exact ⟨t,hab _ _ h1,h2⟩
 | field t x i =>
  simp only [hop,Option.bind_eq_some_iff] at h ⊢
  obtain ⟨fs,h1,f,h2,v,h3,h4⟩:=h
  exact ⟨fs,h1,f,h2,v,hab _ _ h3,h4⟩
 | indexAddr t x i=>simp only [hop,Option.bind_eq_some_iff] at h ⊢;obtain ⟨a,h1,b,h2,h3⟩:=h;exact ⟨a,hab _ _ h1,b,hab _ _ h2,h3⟩
 | index t x i=>simp only [hop,Option.bind_eq_some_iff] at h ⊢;obtain ⟨a,h1,b,h2,h3⟩:=h;exact ⟨a,hab _ _ h1,b,hab _ _ h2,h3⟩
 | slice t x lo hi mx =>
  simp only [hop,Option.bind_eq_some_iff] at h ⊢
  obtain ⟨a,h1,l,h2,hh,h3,m,h4,h5⟩:=h
  exact ⟨a,hab _ _ h1,l,optArg_le hab h2,hh,optArg_le hab h3,m,optArg_le hab h4,h5⟩
 | build t ps=>simp only [hop,Option.bind_eq_some_iff] at h ⊢;obtain ⟨q,h1,h2⟩:=h;exact ⟨q,argP_le hab h1,h2⟩
 | typeAssert x xt t ok=>simp only [hop,Option.bind_eq_some_iff] at h ⊢;obtain ⟨a,h1,h2⟩:=h;exact ⟨a,hab _ _ h1,h2⟩
 | call c =>
  obtain ⟨callee,args,ats⟩:=c
  cases callee with
  | builtin b =>
   cases b with
   | len=>simp only [hop,Option.bind_eq_some_iff] at h ⊢;obtain ⟨vs,h1,h2⟩:=h;exact ⟨vs,argL_le hab h1,h2⟩
   | max=>simp only [hop,Option.bind_eq_some_iff] at h ⊢;obtain ⟨vs,h1,h2⟩:=h;exact ⟨vs,argL_le hab h1,h2⟩
   | min=>simp only [hop,Option.bind_eq_some_iff] at h ⊢;obtain ⟨vs,h1,h2⟩:=h;exact ⟨vs,argL_le hab h1,h2⟩
   | _=>simp only [hop] at h;cases h
  | value x=>simp only [hop] at h;cases h
  | invoke x n=>simp only [hop] at h;cases h
 | _=>simp only [hop] at h;cases h
theorem heapOp_le {o : Oper} {s : St} {r : Option AV × St} (h : heapOp P o α s = some r) : heapOp P o β s = some r∧(pureOp P o α = none→pureOp P o β = none):=by
 unfold heapOp at h ⊢
 cases hop : o.op with
 | alloc t=>simp only [hop] at h ⊢;exact ⟨h,fun _=>by simp only [pureOp,hop]⟩
 | box t x=>simp only [hop,Option.bind_eq_some_iff] at h ⊢;obtain ⟨a,h1,h2⟩:=h;exact ⟨⟨a,hab _ _ h1,h2⟩,fun _=>by simp only [pureOp,hop]⟩
 | buildSlice t n ps=>simp only [hop,Option.bind_eq_some_iff] at h ⊢;obtain ⟨a,h1,h2⟩:=h;exact ⟨⟨a,argP_le hab h1,h2⟩,fun _=>by simp only [pureOp,hop]⟩
 | load t x=>simp only [hop,Option.bind_eq_some_iff] at h ⊢;obtain ⟨a,h1,h2⟩:=h;exact ⟨⟨a,hab _ _ h1,h2⟩,fun _=>by simp only [pureOp,hop]⟩
 | store t x y=>simp only [hop,Option.bind_eq_some_iff] at h ⊢;obtain ⟨a,h1,b,h2,h3⟩:=h;exact ⟨⟨a,hab _ _ h1,b,hab _ _ h2,h3⟩,fun _=>by simp only [pureOp,hop]⟩
 | makeSlice t l c=>simp only [hop,Option.bind_eq_some_iff] at h ⊢;obtain ⟨a,h1,b,h2,h3⟩:=h;exact ⟨⟨a,hab _ _ h1,b,hab _ _ h2,h3⟩,fun _=>by simp only [pureOp,hop]⟩
 | slice t x lo hi mx =>
  simp only [hop,Option.bind_eq_some_iff] at h ⊢
  obtain ⟨a,h1,l,h2,hh,h3,m,h4,h5⟩:=h
  refine ⟨⟨a,hab _ _ h1,l,optArg_le hab h2,hh,optArg_le hab h3,m,optArg_le hab h4,h5⟩,fun hp=>?_⟩
  simp only [pureOp,hop,h1,h2,h3,h4,Option.bind_some] at hp
  simp only [pureOp,hop,hab _ _ h1,optArg_le hab h2,optArg_le hab h3,optArg_le hab h4,Option.bind_some,hp]
 | range t x=>simp only [hop,Option.bind_eq_some_iff] at h ⊢;obtain ⟨a,h1,h2⟩:=h;exact ⟨⟨a,hab _ _ h1,h2⟩,fun _=>by simp only [pureOp,hop]⟩
 | next x b =>
  cases b with
  | true=>simp only [hop,Option.bind_eq_some_iff] at h ⊢;obtain ⟨a,h1,h2⟩:=h;exact ⟨⟨a,hab _ _ h1,h2⟩,fun _=>by simp only [pureOp,hop]⟩
  | false=>simp only [hop] at h;cases h
 | makeMap t x =>
  cases x with
  | none=>simp only [hop] at h ⊢;exact ⟨h,fun _=>by simp only [pureOp,hop]⟩
  | some x=>simp only [hop] at h;cases h
 | lookup t x k ok =>
  simp only [hop,Option.bind_eq_some_iff] at h ⊢
  obtain ⟨a,h1,b,h2,h3⟩:=h
  exact ⟨⟨a,hab _ _ h1,b,hab _ _ h2,h3⟩,fun _=>by simp only [pureOp,hop]⟩
 | mapUpdate t m k v =>
  simp only [hop,Option.bind_eq_some_iff] at h ⊢
  obtain ⟨a,h1,b,h2,c,h3,h4⟩:=h
  exact ⟨⟨a,hab _ _ h1,b,hab _ _ h2,c,hab _ _ h3,h4⟩,fun _=>by simp only [pureOp,hop]⟩
 | call c =>
  obtain ⟨callee,args,ats⟩:=c
  cases callee with
  | builtin b =>
   cases b with
   | append=>simp only [hop,Option.bind_eq_some_iff] at h ⊢;obtain ⟨vs,h1,h2⟩:=h;exact ⟨⟨vs,argL_le hab h1,h2⟩,fun _=>by simp only [pureOp,hop]⟩
   | len =>
    simp only [hop,Option.bind_eq_some_iff] at h ⊢
    obtain ⟨vs,h1,h2⟩:=h
    refine ⟨⟨vs,argL_le hab h1,h2⟩,fun hp=>?_⟩
    simp only [pureOp,hop,h1,Option.bind_some] at hp
    simp only [pureOp,hop,argL_le hab h1,Option.bind_some,hp]
   | _=>simp only [hop] at h;cases h
  | value x=>simp only [hop] at h;cases h
  | invoke x n=>simp only [hop] at h;cases h
 | _=>simp only [hop] at h;cases h
theorem calleeA_le {c : Call} {q : Tg × List AV} (h : calleeA P α c = some q) : calleeA P β c = some q:=by
 unfold calleeA at h ⊢
 cases hc : c.callee with
 | value x =>
  simp only [hc,Option.bind_eq_some_iff] at h ⊢
  obtain ⟨v,h1,aas,h2,h3⟩:=h
  exact ⟨v,hab _ _ h1,aas,argL_le hab h2,h3⟩
 | invoke x n =>
  simp only [hc,Option.bind_eq_some_iff] at h ⊢
  obtain ⟨v,h1,aas,h2,h3⟩:=h
  exact ⟨v,hab _ _ h1,aas,argL_le hab h2,h3⟩
 | builtin b=>simp only [hc] at h;cases h
end
def CLe (c1 c2 : CallF) : Prop:=∀ tg aas s r,c1 tg aas s = some r→c2 tg aas s = some r
theorem externC_le {α β : Operand→Option AV} (hab : ALe α β) {c : Call} {v : AV} (hca : calleeA P α c = none) (h : externC P α c = some v) : calleeA P β c = none∧externC P β c = some v:=by
 unfold externC at h
 split at h
 case h_2=>cases h
 rename_i x hcx
 simp only [Option.bind_eq_some_iff] at h
 obtain ⟨u,hv,us,hus,h⟩:=h
 split at h
 case h_2=>cases h
 rename_i f
 unfold calleeA at hca ⊢
 unfold externC
 simp only [hcx,hv,hus,hab _ _ hv,argL_le hab hus,Option.bind_some] at hca ⊢
 exact ⟨hca,h⟩
theorem opX_le {c1 c2 : CallF} (hc : CLe c1 c2) {α β : Operand→Option AV} (hab : ALe α β) {o : Oper} {ro : Option Nat} {rc : RC} {s : St} {r : OR × St} (h : opX P c1 o α ro rc s = some r) : opX P c2 o β ro rc s = some r:=by
 unfold opX at h ⊢
 cases hp : pureOp P o α with
 | some v=>simp only [hp] at h;rw [pureOp_le hab hp];exact h
 | none =>
  cases hh : heapOp P o α s with
  | some q =>
   obtain ⟨h1,h2⟩:=heapOp_le hab hh
   simp only [hp,hh] at h
   rw [h2 hp,h1];exact h
  | none =>
   simp only [hp,hh] at h
   have none2 : ∀ {x : Option (OR × St)},pureOp P o β = none→heapOp P o β s = none→x = some r→(match pureOp P o β with
    | some v=>some (OR.put v,s)
    | none=>match heapOp P o β s with
     | some (r,s')=>some (OR.put (r.getD (.tup [])),s')
     | none=>x) = some r:=by
    intro x e1 e2 e3;rw [e1,e2];exact e3
   cases hop : o.op with
   | call c =>
    obtain ⟨callee,args,ats⟩:=c
    have key : ∀ {c : Call},(match calleeA P α c with | some (tg,aas)=>(c1 tg aas s).map fun y=>((match y.1 with | .ret v=>OR.put v | .pan v=>.pan v),y.2) | none=>(externC P α c).map fun v=>(.put v,s)) = some r→
     (match calleeA P β c with | some (tg,aas)=>(c2 tg aas s).map fun y=>((match y.1 with | .ret v=>OR.put v | .pan v=>.pan v),y.2) | none=>(externC P β c).map fun v=>(.put v,s)) = some r:=by
     intro c h
     cases hca : calleeA P α c with
     | some q =>
      rw [calleeA_le hab hca]
      simp only [hca,Option.map_eq_some_iff] at h ⊢
      obtain ⟨y,h2,h3⟩:=h
      exact ⟨y,hc _ _ _ _ h2,h3⟩
     | none =>
      simp only [hca,Option.map_eq_some_iff] at h
      obtain ⟨v,h1,h2⟩:=h
      obtain ⟨e1,e2⟩:=externC_le hab hca h1
      simp only [e1,e2,Option.map_some,h2]
    simp only [hop] at h ⊢
    cases callee with
    | value x=>exact none2 (by simp only [pureOp,hop]) (by simp only [heapOp,hop]) (key h)
    | invoke x n=>exact none2 (by simp only [pureOp,hop]) (by simp only [heapOp,hop]) (key h)
    | builtin b =>
     cases b with
     | recover=>exact none2 (by simp only [pureOp,hop]) (by simp only [heapOp,hop]) h
     | _=>simp only [calleeA,Option.bind_none] at h;cases h
   | panic x =>
    simp only [hop,Option.bind_eq_some_iff] at h ⊢
    obtain ⟨v,h1,h2⟩:=h
    exact none2 (by simp only [pureOp,hop]) (by simp only [heapOp,hop]) (by rw [hab _ _ h1];exact h2)
   | defer c =>
    simp only [hop] at h ⊢
    split at h
    ·rename_i x hro hcx
     simp only [Option.bind_eq_some_iff] at h
     obtain ⟨v,h1,aas,h2,h3⟩:=h
     refine none2 (by simp only [pureOp,hop]) (by simp only [heapOp,hop]) ?_
     simp only [hcx,hab _ _ h1,argL_le hab h2,Option.bind_some]
     exact h3
    ·cases h
   | _=>simp only [hop] at h;cases h
end Go.Abs
namespace Go.Abs
variable {P : Program}
structure Ev where
 l : List AV
 t : FT
inductive Ar where
 | t (p : Pt)
 | v (a : AV)
 | l (j : Nat)
noncomputable def getL (l : List AV) : Nat→AV:=List.rec (motive:=fun _=>Nat→AV) (fun _=>.tup []) (fun a _ ih n=>Nat.rec (motive:=fun _=>AV) a (fun m _=>ih m) n) l
theorem getL_eq : ∀ (l : List AV) (n : Nat),getL l n = l.getD n (.tup [])
 | [],n=>by simp [getL]
 | a :: l,0=>rfl
 | a :: l,n + 1=>by
  show getL l n = _
  rw [getL_eq l n];simp
noncomputable def Ar.val (x : Ar) : Ev→AV:=Ar.rec (motive:=fun _=>Ev→AV) (fun p e=>getF p e.t) (fun a _=>a) (fun j e=>getL e.l j) x
def idxT : List Tmp→Tmp→Option Nat
 | [],_=>none
 | k :: r,i=>if Nat.beq k i then some 0 else (idxT r i).map Nat.succ
noncomputable def cArg (gs locs : List Tmp) : Operand→Option Ar
 | .tmp i=>match idxT locs i with
  | some j=>some (.l j)
  | none=>(idxT gs i).map fun j=>.t (pathOf j)
 | .const v=>(ofVal v).map .v
 | .func f=>some (.v (.func f [] []))
 | .global _=>none
structure RelE (nt : Nat) (gs locs : List Tmp) (tm : List AV) (e : Ev) : Prop where
 len : tm.length = nt
 gl : ∀ i j,idxT gs i = some j→tm[i]? = some (T4.get (.tup []) (pathOf j) e.t)
 lo : ∀ i j,idxT locs i = some j→idxT gs i = none∧∃ v,e.l[j]? = some v∧tm[i]? = some v
theorem cArg_ok {nt : Nat} {gs locs : List Tmp} {tm : List AV} {e : Ev} (hr : RelE nt gs locs tm e) {x : Operand} {a : Ar} (h : cArg gs locs x = some a) : arg tm x = some (a.val e):=by
 cases x with
 | tmp i =>
  simp only [cArg] at h
  split at h
  ·rename_i j hj
   cases h
   obtain ⟨_,v,h1,h2⟩:=hr.lo i j hj
   simp only [arg,getR_eq,List.getD_eq_getElem?_getD,h2,Option.getD_some]
   show _ = some (getL e.l j)
   rw [getL_eq,List.getD_eq_getElem?_getD,h1];rfl
  ·simp only [Option.map_eq_some_iff] at h
   obtain ⟨j,h1,rfl⟩:=h
   simp only [arg,getR_eq,List.getD_eq_getElem?_getD,hr.gl i j h1,Option.getD_some]
   exact congrArg some (getF_eq ..).symm
 | const v=>simp only [cArg,Option.map_eq_some_iff] at h;obtain ⟨b,h1,rfl⟩:=h;exact h1
 | func f=>cases h;rfl
 | global g=>cases h
noncomputable def cAs (cA : Operand→Option Ar) : List Operand→Option (List Ar)
 | []=>some []
 | x :: l=>(cA x).bind fun a=>(cAs cA l).map (a :: ·)
noncomputable def valsK (l : List Ar) : Ev→(List AV→R)→R:=
 List.rec (motive:=fun _=>Ev→(List AV→R)→R) (fun _ k=>k []) (fun a _ ih e k=>(a.val e).force fun v=>ih e fun vs=>k (v :: vs)) l
theorem valsK_eq (e : Ev) : ∀ (l : List Ar) (k : List AV→R),valsK l e k = k (l.map (·.val e))
 | [],_=>rfl
 | a :: l,k=>by
  rw [show valsK (a :: l) e k = (a.val e).force (fun v=>valsK l e fun vs=>k (v :: vs)) from rfl,force_eq,valsK_eq e l];rfl
theorem cAs_ok {cA : Operand→Option Ar} {e : Ev} {α : Operand→Option AV} (hA : ∀ {x a},cA x = some a→α x = some (a.val e)) : ∀ {l : List Operand} {aas : List Ar},cAs cA l = some aas→argL α l = some (aas.map (·.val e))
 | [],_,h=>by cases h;rfl
 | x :: l,aas,h=>by
  simp only [cAs,Option.bind_eq_some_iff,Option.map_eq_some_iff] at h
  obtain ⟨a,h1,bs,h2,rfl⟩:=h
  simp only [argL,hA h1,cAs_ok hA h2,Option.bind_some,Option.map_some,List.map_cons]
noncomputable def idxK (k : IntKind) : Nat:=IntKind.rec (motive:=fun _=>Nat) 0 1 2 3 4 5 6 7 k
noncomputable def bndK (k : IntKind) : Nat:=IntKind.rec (motive:=fun _=>Nat) 127 32767 2147483647 9223372036854775807 255 65535 4294967295 18446744073709551615 k
theorem idxK_eq {k k' : IntKind} (h : Nat.beq (idxK k) (idxK k') = true) : k = k':=by
 cases k<;>cases k'<;>first | rfl | cases h
theorem wrap_fit {k : IntKind} {m : Nat} (h : m≤bndK k) : k.wrap (Int.ofNat m) = Int.ofNat m:=by
 have e1 : (Int.ofNat m) % ((2 : Int) ^ k.bits) = Int.ofNat m:=by
  apply Int.emod_eq_of_lt (Int.natCast_nonneg m)
  show (m : Int) < _
  cases k<;>simp only [bndK] at h<;>simp only [IntKind.bits]<;>omega
 unfold IntKind.wrap
 simp only [e1]
 rw [if_neg]
 intro hc
 simp only [Bool.and_eq_true,decide_eq_true_eq] at hc
 obtain ⟨h1,h2⟩:=hc
 have : (Int.ofNat m) = (m : Int):=rfl
 rw [this] at h2
 cases k<;>simp only [bndK] at h<;>simp only [IntKind.bits,IntKind.signed,Bool.false_eq_true] at h1 h2<;>omega
noncomputable def fitN (k : IntKind) (m : Nat) (slow : R) (f : Int→R) : R:=bo (Nat.ble m (bndK k)) (lit m fun j=>f (.ofNat j)) slow
theorem fitN_some {k : IntKind} {m : Nat} {slow r : R} {f : Int→R} (h : fitN k m slow f = r) : slow = r∨(k.wrap (Int.ofNat m) = Int.ofNat m∧f (.ofNat m) = r):=by
 unfold fitN at h
 rw [bo_eq,lit_eq] at h
 split at h
 ·rename_i h1;exact .inr ⟨wrap_fit (Nat.le_of_ble_eq_true h1),h⟩
 ·exact .inl h
noncomputable def on2 (slow : R) (a b : AV) (h : IntKind→Nat→Nat→R) : R:=
 a.onInt (fun k x=>b.onInt (fun k' y=>bo (Nat.beq (idxK k) (idxK k')) (Int.rec (motive:=fun _=>R) (fun m=>Int.rec (motive:=fun _=>R) (fun n=>h k m n) (fun _=>slow) y) (fun _=>slow) x) slow) slow) slow
theorem on2_some {slow r : R} {a b : AV} {h : IntKind→Nat→Nat→R} (hr : on2 slow a b h = r) : slow = r∨∃ k m n,a = .int k (.ofNat m)∧b = .int k (.ofNat n)∧h k m n = r:=by
 unfold on2 at hr
 rcases onInt_some hr with ⟨k,x,ha,h1⟩ | h1
 ·rcases onInt_some (v:=b) h1 with ⟨k',y,hb,h2⟩ | h2
  ·rw [bo_eq] at h2
   split at h2
   ·rename_i hk
    have:=idxK_eq hk;subst this
    cases x with
    | ofNat m=>cases y with
     | ofNat n=>exact .inr ⟨k,m,n,ha,hb,h2⟩
     | negSucc n=>exact .inl h2
    | negSucc n=>exact .inl h2
   ·exact .inl h2
  ·exact .inl h2
 ·exact .inl h1
abbrev BinH:=R→AV→AV→(AV→R)→R
noncomputable def addH : BinH:=fun slow a b f=>on2 slow a b fun k m n=>fitN k (Nat.add m n) slow fun z=>f (.int k z)
noncomputable def subH : BinH:=fun slow a b f=>on2 slow a b fun k m n=>bo (Nat.ble n m) (fitN k (Nat.sub m n) slow fun z=>f (.int k z)) slow
noncomputable def mulH : BinH:=fun slow a b f=>on2 slow a b fun k m n=>fitN k (Nat.mul m n) slow fun z=>f (.int k z)
noncomputable def quoH : BinH:=fun slow a b f=>on2 slow a b fun k m n=>bo (Nat.ble 1 n) (fitN k (Nat.div m n) slow fun z=>f (.int k z)) slow
noncomputable def remH : BinH:=fun slow a b f=>on2 slow a b fun k m n=>bo (Nat.ble 1 n) (lit (Nat.mod m n) fun j=>f (.int k (.ofNat j))) slow
noncomputable def eqlH : BinH:=fun slow a b f=>on2 slow a b fun _ m n=>bo (Nat.beq m n) (f (.bool true)) (f (.bool false))
noncomputable def neqH : BinH:=fun slow a b f=>on2 slow a b fun _ m n=>bo (Nat.beq m n) (f (.bool false)) (f (.bool true))
noncomputable def lssH : BinH:=fun slow a b f=>on2 slow a b fun _ m n=>bo (Nat.ble (Nat.succ m) n) (f (.bool true)) (f (.bool false))
noncomputable def leqH : BinH:=fun slow a b f=>on2 slow a b fun _ m n=>bo (Nat.ble m n) (f (.bool true)) (f (.bool false))
noncomputable def gtrH : BinH:=fun slow a b f=>on2 slow a b fun _ m n=>bo (Nat.ble (Nat.succ n) m) (f (.bool true)) (f (.bool false))
noncomputable def geqH : BinH:=fun slow a b f=>on2 slow a b fun _ m n=>bo (Nat.ble n m) (f (.bool true)) (f (.bool false))
noncomputable def slowH : BinH:=fun slow _ _ _=>slow
noncomputable def binT (op : BinOp) : BinH:=BinOp.rec (motive:=fun _=>BinH) addH subH mulH quoH remH slowH slowH slowH slowH slowH slowH eqlH neqH lssH leqH gtrH geqH op
noncomputable def binA (P : Program) (op : BinOp) (t : TypeId) (xo yo : Operand) (a b : AV) : Option AV:=if guardOk P op t xo yo a b then binV P op t a b else none
noncomputable def binC (P : Program) (op : BinOp) (t : TypeId) (xo yo : Operand) (a b : AV) (f : AV→R) : R:=binT op (ob (binA P op t xo yo a b) f) a b f
theorem boo {b : Bool} {p q : R} {r : Rt × St} (h : bo b p q = some r) : (b = true∧p = some r)∨(b = false∧q = some r):=by
 cases b with
 | false=>exact .inr ⟨rfl,h⟩
 | true=>exact .inl ⟨rfl,h⟩
theorem beq_ofNat (m n : Nat) : ((Int.ofNat m == Int.ofNat n) : Bool) = Nat.beq m n:=by
 by_cases h : m = n
 ·subst h;simp
 ·have : Nat.beq m n = false:=by
   cases hb : Nat.beq m n with
   | false=>rfl
   | true=>exact absurd (Nat.eq_of_beq_eq_true hb) h
  rw [this,beq_eq_false_iff_ne];intro e;exact h (Int.ofNat.inj e)
theorem ble_dec (m n : Nat) : decide (Int.ofNat m≤Int.ofNat n) = Nat.ble m n:=by
 by_cases h : m≤n
 ·rw [Nat.ble_eq_true_of_le h];simpa using h
 ·have : Nat.ble m n = false:=by
   cases hb : Nat.ble m n with
   | false=>rfl
   | true=>exact absurd (Nat.le_of_ble_eq_true hb) h
  rw [this];simpa using h
theorem blt_dec (m n : Nat) : decide (Int.ofNat m < Int.ofNat n) = Nat.ble (Nat.succ m) n:=by
 rw [← ble_dec];congr 1
theorem binC_some {op : BinOp} {t : TypeId} {xo yo : Operand} {a b : AV} {f : AV→R} {r : Rt × St} (h : binC P op t xo yo a b f = some r) : ∃ v,binA P op t xo yo a b = some v∧f v = some r:=by
 have hs : ob (binA P op t xo yo a b) f = some r→∃ v,binA P op t xo yo a b = some v∧f v = some r:=ob_some
 have hv : ∀ k m n v,a = .int k m→b = .int k n→f v = some r→binI op k m k n = some v→∃ v,binA P op t xo yo a b = some v∧f v = some r:=by
  rintro k m n v rfl rfl h1 h2
  refine ⟨v,?_,h1⟩
  rw [← h2];cases op<;>rfl
 unfold binC at h
 cases op
 case and | or | xor | shl | shr | andNot=>exact hs h
 all_goals
  rcases on2_some (show on2 _ _ _ _ = _ from h) with h | ⟨k,m,n,ha,hb,h⟩
  ·exact hs h
 ·rcases fitN_some h with h | ⟨hw,h⟩
  ·exact hs h
  ·exact hv k _ _ _ ha hb h (by simp only [binI,if_true];exact congrArg (fun z=>some (AV.int k z)) hw)
 ·rcases boo h with ⟨hc,h⟩ | ⟨_,h⟩
  ·rcases fitN_some h with h | ⟨hw,h⟩
   ·exact hs h
   ·have hc:=Nat.le_of_ble_eq_true hc
    refine hv k _ _ _ ha hb h ?_
    simp only [binI,if_true]
    rw [show (Int.ofNat m - Int.ofNat n) = Int.ofNat (m - n) by simp only [Int.ofNat_eq_natCast];omega]
    exact congrArg (fun z=>some (AV.int k z)) hw
  ·exact hs h
 ·rcases fitN_some h with h | ⟨hw,h⟩
  ·exact hs h
  ·exact hv k _ _ _ ha hb h (by simp only [binI,if_true];exact congrArg (fun z=>some (AV.int k z)) hw)
 ·rcases boo h with ⟨hc,h⟩ | ⟨_,h⟩
  ·rcases fitN_some h with h | ⟨hw,h⟩
   ·exact hs h
   ·have hc:=Nat.le_of_ble_eq_true hc
    refine hv k _ _ _ ha hb h ?_
    simp only [binI,if_true]
    rw [if_neg (by simp only [Int.ofNat_eq_natCast];omega)]
    exact congrArg (fun z=>some (AV.int k z)) hw
  ·exact hs h
 ·rcases boo h with ⟨hc,h⟩ | ⟨_,h⟩
  ·have hc:=Nat.le_of_ble_eq_true hc
   rw [lit_eq] at h
   refine hv k _ _ _ ha hb h ?_
   simp only [binI,if_true]
   rw [if_neg (by simp only [Int.ofNat_eq_natCast];omega)];rfl
  ·exact hs h
 ·rcases boo h with ⟨hc,h⟩ | ⟨hc,h⟩<;>exact hv k _ _ _ ha hb h (by simp only [binI,if_true,beq_ofNat,hc])
 ·rcases boo h with ⟨hc,h⟩ | ⟨hc,h⟩<;>exact hv k _ _ _ ha hb h (by simp only [binI,if_true,bne,beq_ofNat,hc,Bool.not_true,Bool.not_false])
 ·rcases boo h with ⟨hc,h⟩ | ⟨hc,h⟩<;>exact hv k _ _ _ ha hb h (by simp only [binI,if_true,blt_dec,hc])
 ·rcases boo h with ⟨hc,h⟩ | ⟨hc,h⟩<;>exact hv k _ _ _ ha hb h (by simp only [binI,if_true,ble_dec,hc])
 ·rcases boo h with ⟨hc,h⟩ | ⟨hc,h⟩<;>exact hv k _ _ _ ha hb h (by simp only [binI,if_true,blt_dec,hc])
 ·rcases boo h with ⟨hc,h⟩ | ⟨hc,h⟩<;>exact hv k _ _ _ ha hb h (by simp only [binI,if_true,ble_dec,hc])
end Go.Abs
namespace Go.Abs
variable {P : Program}
noncomputable def takeK (l : List AV) : Nat→(List AV→R)→R:=
 List.rec (motive:=fun _=>Nat→(List AV→R)→R) (fun n K=>Nat.rec (motive:=fun _=>R) (K []) (fun _ _=>none) n) (fun a _ ih n K=>Nat.rec (motive:=fun _=>R) (K []) (fun m _=>ih m fun r=>K (a :: r)) n) l
theorem takeK_some : ∀ {l : List AV} {n : Nat} {K : List AV→R} {r : Rt × St},takeK l n K = some r→n≤l.length∧K (l.take n) = some r
 | [],0,K,r,h=>⟨Nat.le_refl _,h⟩
 | [],n + 1,K,r,h=>by cases h
 | a :: l,0,K,r,h=>⟨Nat.zero_le _,h⟩
 | a :: l,n + 1,K,r,h=>by
  obtain ⟨h1,h2⟩:=takeK_some (l:=l) (n:=n) (K:=fun r=>K (a :: r)) h
  exact ⟨by simpa using h1,h2⟩
noncomputable def dropK (l : List AV) : Nat→(List AV→R)→R:=
 List.rec (motive:=fun _=>Nat→(List AV→R)→R) (fun n K=>Nat.rec (motive:=fun _=>R) (K []) (fun _ _=>none) n) (fun a tl ih n K=>Nat.rec (motive:=fun _=>R) (K (a :: tl)) (fun m _=>ih m K) n) l
theorem dropK_some : ∀ {l : List AV} {n : Nat} {K : List AV→R} {r : Rt × St},dropK l n K = some r→n≤l.length∧K (l.drop n) = some r
 | [],0,K,r,h=>⟨Nat.le_refl _,h⟩
 | [],n + 1,K,r,h=>by cases h
 | a :: l,0,K,r,h=>⟨Nat.zero_le _,h⟩
 | a :: l,n + 1,K,r,h=>by
  obtain ⟨h1,h2⟩:=dropK_some (l:=l) (n:=n) (K:=K) h
  exact ⟨by simpa using h1,h2⟩
noncomputable def splK (l : List AV) : Nat→List AV→(List AV→R)→R:=
 List.rec (motive:=fun _=>Nat→List AV→(List AV→R)→R)
  (fun n vs K=>Nat.rec (motive:=fun _=>R) (List.rec (motive:=fun _=>R) (K []) (fun _ _ _=>none) vs) (fun _ _=>none) n)
  (fun a tl ih n vs K=>Nat.rec (motive:=fun _=>R) (List.rec (motive:=fun _=>R) (K (a :: tl)) (fun v vs _=>ih 0 vs fun l=>K (v :: l)) vs) (fun m _=>ih m vs fun l=>K (a :: l)) n) l
theorem splK_some : ∀ {l : List AV} {n : Nat} {vs : List AV} {K : List AV→R} {r : Rt × St},splK l n vs K = some r→n + vs.length≤l.length∧K (spl n vs l) = some r
 | [],0,[],K,r,h=>⟨Nat.le_refl _,h⟩
 | [],0,v :: vs,K,r,h=>by cases h
 | [],n + 1,vs,K,r,h=>by cases h
 | a :: l,0,[],K,r,h=>⟨Nat.zero_le _,h⟩
 | a :: l,0,v :: vs,K,r,h=>by
  obtain ⟨h1,h2⟩:=splK_some (l:=l) (n:=0) (vs:=vs) (K:=fun l=>K (v :: l)) h
  refine ⟨by simp at h1 ⊢;omega,?_⟩
  have : spl 0 (v :: vs) (a :: l) = v :: spl 0 vs l:=by simp [spl]
  rw [this];exact h2
 | a :: l,n + 1,vs,K,r,h=>by
  obtain ⟨h1,h2⟩:=splK_some (l:=l) (n:=n) (vs:=vs) (K:=fun l=>K (a :: l)) h
  refine ⟨by simp at h1 ⊢;omega,?_⟩
  have : spl (n + 1) vs (a :: l) = a :: spl n vs l:=by simp [spl,Nat.add_right_comm]
  rw [this];exact h2
noncomputable def allOne (vs : List AV) : R→R:=List.rec (motive:=fun _=>R→R) (fun x=>x) (fun a _ ih x=>a.isOne (ih x) none) vs
theorem allOne_some : ∀ {vs : List AV} {x : R} {r : Rt × St},allOne vs x = some r→vs.all oneA = true∧x = some r
 | [],_,_,h=>⟨rfl,h⟩
 | a :: vs,x,r,h=>by
  have h : a.isOne (allOne vs x) none = some r:=h
  rw [isOne_eq] at h
  split at h
  ·rename_i h1
   obtain ⟨h2,h3⟩:=allOne_some h
   exact ⟨by simp only [List.all_cons,h1,h2,Bool.and_true],h3⟩
  ·cases h
noncomputable def lenF (l : List AV) : Nat:=List.rec (motive:=fun _=>Nat) 0 (fun _ _ ih=>Nat.succ ih) l
theorem lenF_eq : ∀ l : List AV,lenF l = l.length
 | []=>rfl
 | _ :: l=>congrArg Nat.succ (lenF_eq l)
noncomputable def setLK (vs : List AV) : Nat→List AV→(List AV→R)→R:=
 List.rec (motive:=fun _=>Nat→List AV→(List AV→R)→R) (fun _ cs K=>K cs) (fun v _ ih o cs K=>putK v cs o fun cs=>ih (Nat.succ o) cs K) vs
theorem setLK_some : ∀ {vs : List AV} {o : Nat} {cs : List AV} {K : List AV→R} {r : Rt × St},setLK vs o cs K = some r→(vs ≠ []→o + vs.length≤cs.length)∧K (setL o vs cs) = some r
 | [],_,_,_,_,h=>⟨fun h=>absurd rfl h,h⟩
 | v :: vs,o,cs,K,r,h=>by
  obtain ⟨h1,h2⟩:=putK_some (show putK v cs o (fun cs=>setLK vs (o + 1) cs K) = some r from h)
  obtain ⟨h3,h4⟩:=setLK_some h2
  refine ⟨fun _=>?_,h4⟩
  cases vs with
  | nil=>simp only [List.length_cons,List.length_nil];omega
  | cons w ws=>have:=h3 (by simp);simp only [List.length_set,List.length_cons] at this ⊢;omega
inductive PT where
 | mk (off size : Nat) (a : Ar)
noncomputable def fillK (ps : List PT) : Ev→List AV→(List AV→R)→R:=
 List.rec (motive:=fun _=>Ev→List AV→(List AV→R)→R) (fun _ cs K=>K cs)
  (fun p _ ih t cs K=>PT.rec (motive:=fun _=>R) (fun off size a=>(a.val t).force fun v=>bo (Nat.beq (lenF v.cellsF) size) (setLK v.cellsF off cs fun cs=>ih t cs K) none) p) ps
noncomputable def cParts (cA : Operand→Option Ar) (place : Nat→Option (Nat × Nat)) : List (Nat × Operand)→Option (List PT)
 | []=>some []
 | (i,x) :: r=>(cA x).bind fun a=>(place i).bind fun q=>if q.2 = 0 then none else (cParts cA place r).map (.mk q.1 q.2 a :: ·)
theorem fillK_some {cA : Operand→Option Ar} {α : Operand→Option AV} {t : Ev} (hA : ∀ {x a},cA x = some a→α x = some (a.val t)) {place : Nat→Option (Nat × Nat)} : ∀ {ps : List (Nat × Operand)} {qs : List PT} {cs : List AV} {K : List AV→R} {r : Rt × St},cParts cA place ps = some qs→fillK qs t cs K = some r→
 ∃ vs cs1,argP α ps = some vs∧fillA place cs vs = some cs1∧K cs1 = some r
 | [],qs,cs,K,r,hq,h=>by cases hq;exact ⟨[],cs,rfl,rfl,h⟩
 | (i,x) :: ps,qs,cs,K,r,hq,h=>by
  simp only [cParts,Option.bind_eq_some_iff] at hq
  obtain ⟨a,h1,⟨off,size⟩,h2,hq⟩:=hq
  split at hq
  ·cases hq
  rename_i hz
  simp only [Option.map_eq_some_iff] at hq
  obtain ⟨qs1,h3,rfl⟩:=hq
  have h : (a.val t).force (fun v=>bo (Nat.beq (lenF v.cellsF) size) (setLK v.cellsF off cs fun cs=>fillK qs1 t cs K) none) = some r:=h
  rw [force_eq,cellsF_eq,lenF_eq] at h
  obtain ⟨h4,h5⟩:=bo_some h
  have h4 : (cellsA (a.val t)).length = size:=Nat.eq_of_beq_eq_true h4
  obtain ⟨h6,h7⟩:=setLK_some h5
  obtain ⟨vs,cs1,h8,h9,h10⟩:=fillK_some hA h3 h7
  have hz : size ≠ 0:=hz
  have h6:=h6 (by intro e;rw [e] at h4;exact hz h4.symm)
  refine ⟨(i,a.val t) :: vs,cs1,by simp only [argP,hA h1,Option.bind_some,h8,Option.map_some],?_,h10⟩
  simp only [fillA,h2]
  rw [if_pos ⟨h4,by rw [h4] at h6;exact h6⟩]
  exact h9
noncomputable def ltI {γ : Type} (x y : Int) (p q : γ) : γ:=
 Int.rec (motive:=fun _=>γ) (fun m=>Int.rec (motive:=fun _=>γ) (fun n=>bo (Nat.ble (Nat.succ m) n) p q) (fun _=>q) y) (fun m=>Int.rec (motive:=fun _=>γ) (fun _=>p) (fun n=>bo (Nat.ble (Nat.succ n) m) p q) y) x
theorem ltI_eq {γ : Type} (x y : Int) (p q : γ) : ltI x y p q = if x < y then p else q:=by
 have hb : ∀ m n : Nat,bo (Nat.ble (Nat.succ m) n) p q = if m < n then p else q:=by
  intro m n
  rw [bo_eq]
  by_cases h : m < n
  ·rw [if_pos h,if_pos (Nat.ble_eq_true_of_le h)]
  ·rw [if_neg h,if_neg (fun e=>h (Nat.le_of_ble_eq_true e))]
 cases x with
 | ofNat m=>cases y with
  | ofNat n =>
   rw [show ltI (.ofNat m) (.ofNat n) p q = bo (Nat.ble (Nat.succ m) n) p q from rfl,hb]
   simp only [Int.ofNat_eq_natCast,Int.ofNat_lt]
  | negSucc n=>rw [if_neg (by simp only [Int.ofNat_eq_natCast];omega)];rfl
 | negSucc m=>cases y with
  | ofNat n=>rw [if_pos (by simp only [Int.ofNat_eq_natCast];omega)];rfl
  | negSucc n =>
   rw [show ltI (.negSucc m) (.negSucc n) p q = bo (Nat.ble (Nat.succ n) m) p q from rfl,hb]
   by_cases h : n < m
   ·rw [if_pos h,if_pos (by omega)]
   ·rw [if_neg h,if_neg (by omega)]
end Go.Abs
namespace Go.Abs
variable {P : Program}
structure Aux where
 df : List Dfr
 rc : RC
 ro : Option Nat
inductive OpC where
 | gen (o : Oper) (cA : Operand→Option Ar)
 | mov (x : Ar)
 | pick (c a b : Ar)
 | bin (op : BinOp) (t : TypeId) (xo yo : Operand) (x y : Ar)
 | not (x : Ar)
 | load1 (x : Ar)
 | store1 (x y : Ar)
 | box (t : TypeId) (x : Ar)
 | fa (off : Nat) (x : Ar)
 | ia (k : Nat) (x i : Ar)
 | ext (x : Ar) (i : Nat)
 | len (x : Ar)
 | call (f : FuncId) (aas : List Ar)
 | alloc (t : TypeId) (cs : List AV)
 | loadN (k : Nat) (x : Ar)
 | storeN (k : Nat) (x y : Ar)
 | mn (x y : Ar)
 | mx (x y : Ar)
 | build (cs : List AV) (ps : List PT)
 | buildS (el : TypeId) (len : Nat) (cs : List AV) (ps : List PT)
 | app (o : Oper) (cA : Operand→Option Ar) (el : TypeId) (size bytes : Nat) (a x : Ar)
structure Sg where
 g : Aux
 s : St
structure Cx where
 P : Program
 call : CallF
 kx : Ex→FT→Sg→R
abbrev KN:=AV→Sg→R
abbrev BH:=Cx→Ev→Sg→KN→R
noncomputable def genRun (o : Oper) (cA : Operand→Option Ar) : BH:=fun c t σ kn =>
 ob (opX c.P c.call o (fun x=>(cA x).map (·.val t)) σ.g.ro σ.g.rc σ.s) fun r=>bo (Nat.ble σ.s.next r.2.next)
  (match r.1 with
  | .put v=>v.force fun v=>kn v ⟨σ.g,r.2⟩
  | .pan v=>c.kx (.pan v) t.t ⟨σ.g,r.2⟩
  | .dfr d=>kn (.tup []) ⟨⟨d :: σ.g.df,σ.g.rc,σ.g.ro⟩,r.2⟩
  | .rcv v=>kn v ⟨⟨σ.g.df,σ.g.rc.got v,σ.g.ro⟩,r.2⟩) none
noncomputable def Blk.onCells (b : Blk) : (TypeId→Option Nat→List AV→R)→R:=
 Blk.rec (motive:=fun _=>(TypeId→Option Nat→List AV→R)→R) (fun t k cs f=>f t k cs) (fun _ _ _=>none) (fun _ _ _=>none) (fun _ _ _ _ _ _ _ _=>none) (fun _=>none) (fun _=>none) (fun _ _ _ _=>none) b
noncomputable def Blk.onRead (b : Blk) : (List AV→R)→R:=
 Blk.rec (motive:=fun _=>(List AV→R)→R) (fun _ _ cs f=>f cs) (fun _ _ _=>none) (fun _ _ _=>none) (fun _ _ _ _ _ _ _ _=>none) (fun _=>none) (fun _=>none) (fun _ _ cs f=>f cs) b
theorem onRead_some {b : Blk} {s : St} {n : Nat} {f : List AV→R} {r : Rt × St} (hb : s.heap.get n = some b) (h : b.onRead f = some r) : ∃ cs,s.rd n = some cs∧f cs = some r:=by
 cases b<;>first | exact ⟨_,by unfold St.rd;rw [hb],h⟩ | cases h
theorem onCells_some {b : Blk} {f : TypeId→Option Nat→List AV→R} {r : Rt × St} (h : b.onCells f = some r) : ∃ t k cs,b = .cells t k cs∧f t k cs = some r:=by
 cases b<;>first | exact ⟨_,_,_,rfl,h⟩ | cases h
noncomputable def inS (σ : Sg) (f : Tr Blk→Nat→List Nat→(Tr Blk→Nat→List Nat→Sg)→R) : R:=
 Sg.rec (motive:=fun _=>R) (fun g s=>St.rec (motive:=fun _=>R) (fun h nx l=>f h nx l fun h nx l=>⟨g,⟨h,nx,l⟩⟩) s) σ
noncomputable def movH (x : Ar) : BH:=fun _ t σ kn=>(x.val t).force fun v=>kn v σ
noncomputable def pickH (c a b : Ar) : BH:=fun _ t σ kn=>(c.val t).onBool ((b.val t).force fun v=>kn v σ) ((a.val t).force fun v=>kn v σ) none
noncomputable def binH (op : BinOp) (ty : TypeId) (xo yo : Operand) (x y : Ar) : BH:=fun c t σ kn=>binC c.P op ty xo yo (x.val t) (y.val t) fun v=>kn v σ
noncomputable def notH (x : Ar) : BH:=fun _ t σ kn=>(x.val t).onBool (kn (.bool true) σ) (kn (.bool false) σ) none
noncomputable def loadH (x : Ar) : BH:=fun _ t σ kn=>(x.val t).onPtr (fun n o=>ob (getH (pathOf n) σ.s.heap) fun blk=>blk.onRead fun cs=>nthK cs o fun v=>v.force fun v=>kn v σ) none
noncomputable def storeH (x y : Ar) : BH:=fun _ t σ kn=>(x.val t).onPtr (fun n o=>inS σ fun h nx l up=>ob (getH (pathOf n) h) fun blk=>blk.onCells fun ty k cs=>(y.val t).force fun v=>v.isOne (putK v cs o fun cs=>setH (some (.cells ty k cs)) (pathOf n) h fun h=>kn (.tup []) (up h nx (n :: l))) none) none
noncomputable def boxH (ty : TypeId) (x : Ar) : BH:=fun _ t σ kn=>(x.val t).force fun v=>inS σ fun h nx l up=>lit nx fun n=>setH (some (.cells ty none v.cellsF)) (pathOf n) h fun h=>kn (.ptr n 0) (up h (Nat.succ n) (n :: l))
noncomputable def faH (off : Nat) (x : Ar) : BH:=fun _ t σ kn=>(x.val t).onPtr (fun n o=>lit (Nat.add o off) fun o=>kn (.ptr n o) σ) none
noncomputable def iaH (k : Nat) (x i : Ar) : BH:=fun _ t σ kn=>(x.val t).onSl (fun b o n=>(i.val t).onInt (fun _ j=>Int.rec (motive:=fun _=>R) (fun m=>bo (Nat.ble (Nat.succ m) n) (lit (Nat.add o (Nat.mul m k)) fun o=>kn (.ptr b o) σ) none) (fun _=>none) j) none) none none
noncomputable def extH (x : Ar) (i : Nat) : BH:=fun _ t σ kn=>(x.val t).onTup (fun vs=>nthK vs i fun v=>v.force fun v=>kn v σ) none
noncomputable def lenH (x : Ar) : BH:=fun _ t σ kn=>(x.val t).onSl (fun _ _ n=>kn (.int .i64 (.ofNat n)) σ) (kn (.int .i64 (.ofNat 0)) σ) none
noncomputable def callH (f : FuncId) (aas : List Ar) : BH:=fun c t σ kn=>valsK aas t fun vs=>ob (c.call (.fn f) vs σ.s) fun r=>Prod.rec (motive:=fun _=>R) (fun r s1=>bo (Nat.ble σ.s.next s1.next) (Rt.rec (motive:=fun _=>R) (fun v=>kn v ⟨σ.g,s1⟩) (fun v=>c.kx (.pan v) t.t ⟨σ.g,s1⟩) r) none) r
noncomputable def allocH (ty : TypeId) (cs : List AV) : BH:=fun _ _ σ kn=>inS σ fun h nx l up=>lit nx fun n=>setH (some (.cells ty none cs)) (pathOf n) h fun h=>kn (.ptr n 0) (up h (Nat.succ n) (n :: l))
noncomputable def loadNH (k : Nat) (x : Ar) : BH:=fun _ t σ kn=>(x.val t).onPtr (fun n o=>ob (getH (pathOf n) σ.s.heap) fun blk=>blk.onRead fun cs=>dropK cs o fun cs=>takeK cs k fun cs=>kn (.agg cs) σ) none
noncomputable def storeNH (k : Nat) (x y : Ar) : BH:=fun _ t σ kn=>(x.val t).onPtr (fun n o=>inS σ fun h nx l up=>ob (getH (pathOf n) h) fun blk=>blk.onCells fun ty q cs=>(y.val t).onAgg (fun vs=>bo (Nat.beq (lenF vs) k) (allOne vs (splK cs o vs fun cs=>setH (some (.cells ty q cs)) (pathOf n) h fun h=>kn (.tup []) (up h nx (n :: l)))) none) none) none
noncomputable def mnH (x y : Ar) : BH:=fun _ t σ kn=>(x.val t).onInt (fun k a=>(y.val t).onInt (fun _ b=>ltI b a (kn (.int k b) σ) (kn (.int k a) σ)) none) none
noncomputable def mxH (x y : Ar) : BH:=fun _ t σ kn=>(x.val t).onInt (fun k a=>(y.val t).onInt (fun _ b=>ltI a b (kn (.int k b) σ) (kn (.int k a) σ)) none) none
noncomputable def buildH (cs : List AV) (ps : List PT) : BH:=fun _ t σ kn=>fillK ps t cs fun cs=>kn (.agg cs) σ
noncomputable def buildSH (el : TypeId) (len : Nat) (cs : List AV) (ps : List PT) : BH:=fun _ t σ kn=>fillK ps t cs fun cs=>inS σ fun h nx l up=>lit nx fun n=>setH (some (.cells el none cs)) (pathOf n) h fun h=>kn (.slice n 0 len len) (up h (Nat.succ n) (n :: l))
noncomputable def appGo (el : TypeId) (size bytes n : Nat) (a : AV) (new : List AV) (σ : Sg) (kn : KN) (slow : R) : R:=
 a.onSl (fun b _ m=>inS σ fun h nx l up=>ob (getH (pathOf b) h) fun blk=>blk.onCells fun ty q cs=>Option.rec (motive:=fun _=>R) slow (fun q=>bo (Nat.beq q size) (bo (Nat.beq ty el) (bo (Nat.ble (Nat.mul (Nat.add m n) bytes) 140737488355328) (takeK cs (Nat.mul m size) fun old =>
  lit nx fun z=>setH none (pathOf b) h fun h=>setH (some (.cells el (some size) (old ++ new))) (pathOf z) h fun h=>lit (Nat.add m n) fun mn=>kn (.opn z mn) (up h (Nat.succ z) (z :: b :: l))) slow) slow) slow) q)
  (bo (Nat.ble (Nat.mul n bytes) 140737488355328) (inS σ fun h nx l up=>lit nx fun z=>setH (some (.cells el (some size) new)) (pathOf z) h fun h=>kn (.opn z n) (up h (Nat.succ z) (z :: l))) slow) slow
noncomputable def appH (o : Oper) (cA : Operand→Option Ar) (el : TypeId) (size bytes : Nat) (a x : Ar) : BH:=fun c t σ kn =>
 (x.val t).onSl (fun b off n=>bo (Nat.beq n 0) (genRun o cA c t σ kn) (ob (getH (pathOf b) σ.s.heap) fun blk=>blk.onRead fun cs=>dropK cs off fun cs=>takeK cs (Nat.mul n size) fun new =>
  allOne new ((a.val t).isOpn (appGo el size bytes n (a.val t) new σ kn (genRun o cA c t σ kn)) (genRun o cA c t σ kn)))) (genRun o cA c t σ kn) none
noncomputable def runX (b : OpC) : BH:=OpC.rec (motive:=fun _=>BH) genRun movH pickH binH notH loadH storeH boxH faH iaH extH lenH callH allocH loadNH storeNH mnH mxH buildH buildSH appH b
noncomputable def or1 {α : Type} (x : Option α) (o : Oper) (cA : Operand→Option Ar) (f : α→OpC) : OpC:=match x with | some a=>f a | none=>.gen o cA
noncomputable def isSl (P : Program) (t : TypeId) : Option Nat:=match P.underlying t with | some (.slice el)=>szA P el | _=>none
noncomputable def faOff (P : Program) (t : TypeId) (i : Nat) : Option Nat:=(fieldsA P t).bind fun fs=>(fs[i]?).bind fun f=>(szA P f.type).bind fun k=>if k = 0 then none else some f.offset
noncomputable def structP (P : Program) (t : TypeId) : Option (List AV × List (Nat × Nat)):=(zeroA P t).bind fun z=>match P.underlying t with
 | some (.struct fs)=>(placesA P fs.toList).map fun pl=>(cellsA z,pl)
 | _=>none
noncomputable def sliceP (P : Program) (t : TypeId) (len : Nat) : Option (TypeId × Nat × List AV):=match P.underlying t with
 | some (.slice el)=>(szA P el).bind fun k=>if len * k≤16777216 then
  (if len * k = 0 then some [] else (zeroA P el).map cellsA).bind fun z=>if len * k = 0∨z.length ≠ 0 then some (el,k,repA z (len * k)) else none else none
 | _=>none
noncomputable def appP (P : Program) (st xt : TypeId) : Option (TypeId × Nat × Nat):=match P.underlying st,P.underlying xt with
 | some (.slice el),some (.slice _)=>(P.info? el).bind fun i=>(zeroA P el).bind fun z=>if (cellsA z).length = i.size∧i.bytes ≠ 0∧i.size ≠ 0 then some (el,i.size,i.bytes) else none
 | _,_=>none
noncomputable def cOp (P : Program) (cA : Operand→Option Ar) (o : Oper) : OpC:=
 match o.op with
 | .move x | .assign x=>or1 (cA x) o cA .mov
 | .pick c a b=>or1 (cA c) o cA fun c=>or1 (cA a) o cA fun a=>or1 (cA b) o cA fun b=>.pick c a b
 | .binOp op t x y _=>or1 (cA x) o cA fun a=>or1 (cA y) o cA fun b=>.bin op t x y a b
 | .unOp .not _ x=>or1 (cA x) o cA .not
 | .load t x=>if isAggA P t = some false then or1 (cA x) o cA .load1 else if isAggA P t = some true then or1 (szA P t) o cA fun k=>or1 (cA x) o cA fun a=>.loadN k a else .gen o cA
 | .store t x y=>if isAggA P t = some true then or1 (szA P t) o cA fun k=>or1 (cA x) o cA fun a=>or1 (cA y) o cA fun b=>.storeN k a b else if szA P t = some 1 then or1 (cA x) o cA fun a=>or1 (cA y) o cA fun b=>.store1 a b else .gen o cA
 | .box t x=>or1 (cA x) o cA fun a=>.box t a
 | .fieldAddr t x i=>or1 (faOff P t i) o cA fun off=>or1 (cA x) o cA fun a=>.fa off a
 | .indexAddr t x i=>or1 (isSl P t) o cA fun k=>or1 (cA x) o cA fun a=>or1 (cA i) o cA fun b=>.ia k a b
 | .extract x i=>or1 (cA x) o cA fun a=>.ext a i
 | .call { callee:=.builtin .len,args,argTypes }=>match args.toList,argTypes[0]? with
  | [x],some t=>or1 (isSl P t) o cA fun _=>or1 (cA x) o cA .len
  | _,_=>.gen o cA
 | .call { callee:=.value (.func f),args,argTypes:=_ }=>if enterable P f then or1 (cAs cA args.toList) o cA fun aas=>.call f aas else .gen o cA
 | .alloc t=>or1 (zeroA P t) o cA fun z=>.alloc t (cellsA z)
 | .call { callee:=.builtin .min,args,argTypes:=_ }=>match args.toList with
  | [x,y]=>or1 (cA x) o cA fun a=>or1 (cA y) o cA fun b=>.mn a b
  | _=>.gen o cA
 | .call { callee:=.builtin .max,args,argTypes:=_ }=>match args.toList with
  | [x,y]=>or1 (cA x) o cA fun a=>or1 (cA y) o cA fun b=>.mx a b
  | _=>.gen o cA
 | .build t ps=>or1 (structP P t) o cA fun q=>or1 (cParts cA (fun i=>q.2[i]?) ps.toList) o cA fun r=>.build q.1 r
 | .buildSlice t n ps=>or1 (sliceP P t n) o cA fun q=>or1 (cParts cA (fun i=>some (i * q.2.1,q.2.1)) ps.toList) o cA fun r=>.buildS q.1 n q.2.2 r
 | .call { callee:=.builtin .append,args,argTypes }=>match args.toList,argTypes.toList with
  | [a,x],[st,xt]=>or1 (appP P st xt) o cA fun q=>or1 (cA a) o cA fun a=>or1 (cA x) o cA fun x=>.app o cA q.1 q.2.1 q.2.2 a x
  | _,_=>.gen o cA
 | _=>.gen o cA
def Aft (kx : Ex→FT→Sg→R) (t : FT) (g : Aux) (s1 : St) (kn : KN) (r : Rt × St) : OR→Prop
 | .put v=>kn v ⟨g,s1⟩ = some r
 | .pan v=>kx (.pan v) t ⟨g,s1⟩ = some r
 | .dfr d=>kn (.tup []) ⟨⟨d :: g.df,g.rc,g.ro⟩,s1⟩ = some r
 | .rcv v=>kn v ⟨⟨g.df,g.rc.got v,g.ro⟩,s1⟩ = some r
def BOk (P : Program) (callF call : CallF) (cA : Operand→Option Ar) (o : Oper) (b : OpC) : Prop:=
 ∀ (kx : Ex→FT→Sg→R) (t : Ev) (α : Operand→Option AV) (g : Aux) (s : St) (kn : KN) (r : Rt × St),(∀ {x a},cA x = some a→α x = some (a.val t))→(∀ f,α (.func f) = some (.func f [] []))→runX b ⟨P,callF,kx⟩ t ⟨g,s⟩ kn = some r→
  ∃ x s1,opX P call o α g.ro g.rc s = some (x,s1)∧s.next≤s1.next∧Aft kx t.t g s1 kn r x
section
variable {callF call : CallF} {cA : Operand→Option Ar} {o : Oper}
theorem gen_ok (hc : CLe callF call) : BOk P callF call cA o (.gen o cA):=by
 intro kx t α g s kn r hA hF h
 obtain ⟨⟨x,s1⟩,h1,h2⟩:=ob_some (show ob _ _ = _ from h)
 obtain ⟨h3,h4⟩:=bo_some h2
 refine ⟨x,s1,opX_le hc (fun x v hv=>by simp only [Option.map_eq_some_iff] at hv;obtain ⟨a,h1,rfl⟩:=hv;exact hA h1) h1,Nat.le_of_ble_eq_true h3,?_⟩
 cases x with
 | put v=>exact (force_eq v _).symm.trans h4
 | _=>exact h4
theorem or1_ok {α : Type} {x : Option α} {f : α→OpC} (hc : CLe callF call) (h : ∀ a,x = some a→BOk P callF call cA o (f a)) : BOk P callF call cA o (or1 x o cA f):=by
 cases x with
 | none=>exact gen_ok hc
 | some a=>exact h a rfl
theorem of_pure {α : Operand→Option AV} {ro : Option Nat} {rc : RC} {s : St} {v : AV} (h : pureOp P o α = some v) : opX P call o α ro rc s = some (.put v,s):=by
 unfold opX;rw [h]
theorem of_heap {α : Operand→Option AV} {ro : Option Nat} {rc : RC} {s s1 : St} {v : Option AV} (h0 : pureOp P o α = none) (h : heapOp P o α s = some (v,s1)) : opX P call o α ro rc s = some (.put (v.getD (.tup [])),s1):=by
 unfold opX;rw [h0,h]
theorem appP_some {st xt el : TypeId} {size bytes : Nat} (h : appP P st xt = some (el,size,bytes)) : ∃ el' i z,P.underlying st = some (.slice el)∧P.underlying xt = some (.slice el')∧P.info? el = some i∧zeroA P el = some z∧(cellsA z).length = i.size∧i.bytes ≠ 0∧i.size ≠ 0∧size = i.size∧bytes = i.bytes:=by
 unfold appP at h
 split at h
 ·rename_i e1 e2 h1 h2
  simp only [Option.bind_eq_some_iff] at h
  obtain ⟨i,h3,z,h4,h⟩:=h
  split at h
  ·rename_i h5
   simp only [Option.some.injEq,Prod.mk.injEq] at h
   obtain ⟨rfl,rfl,rfl⟩:=h
   exact ⟨e2,i,z,h1,h2,h3,h4,h5.1,h5.2.1,h5.2.2,rfl,rfl⟩
  ·cases h
 ·cases h
theorem appGo_some {st xt el : TypeId} {size bytes n : Nat} (hp : appP P st xt = some (el,size,bytes)) {a x : AV} (ha : (∃ b m,a = .opn b m)∨a = .nilSlice) {new : List AV} {g : Aux} {s : St} {kn : KN} {slow : R} {r : Rt × St} (hn : n ≠ 0) (hx : lenSl x = some n) (hf : firstA (n * size) x s = some new) (h1 : new.all oneA = true)
 (h : appGo el size bytes n a new ⟨g,s⟩ kn slow = some r) : slow = some r∨∃ v s1,appendA P st xt a x s = some (v,s1)∧s.next≤s1.next∧kn v ⟨g,s1⟩ = some r:=by
 obtain ⟨el',i,z,p1,p2,p3,p4,p5,p6,p7,rfl,rfl⟩:=appP_some hp
 obtain ⟨hh,nx,l⟩:=s
 rcases ha with ⟨b,m,rfl⟩ | rfl
 ·obtain ⟨blk,hb,k0⟩:=ob_some (show ob (getH (pathOf b) hh) _ = some r from h)
  have hb : (⟨hh,nx,l⟩ : St).heap.get b = some blk:=(getH_eq ..).symm.trans hb
  obtain ⟨ty,q,cs,hbk,k1⟩:=onCells_some k0
  subst hbk
  cases q with
  | none=>exact .inl k1
  | some q =>
   rcases boo (show bo _ _ slow = some r from k1) with ⟨h2,k2⟩ | ⟨_,k2⟩
   case inr=>exact .inl k2
   rcases boo k2 with ⟨h3,k3⟩ | ⟨_,k3⟩
   case inr=>exact .inl k3
   rcases boo k3 with ⟨h4,k4⟩ | ⟨_,k4⟩
   case inr=>exact .inl k4
   have h2 : q = i.size:=Nat.eq_of_beq_eq_true h2
   have h3 : ty = el:=Nat.eq_of_beq_eq_true h3
   have h4 : (m + n) * i.bytes≤140737488355328:=Nat.le_of_ble_eq_true h4
   obtain ⟨h5,k5⟩:=takeK_some k4
   have h5 : m * i.size≤cs.length:=h5
   dsimp only at k5
   rw [lit_eq,setH_eq,setH_eq,lit_eq] at k5
   rw [h2,h3] at hb
   refine .inr ⟨.opn nx (m + n),(⟨hh,nx,l⟩ : St).shift b (.cells el (some i.size) (cs.take (m * i.size) ++ new)),?_,Nat.le_succ _,k5⟩
   have hla : lenSl (.opn b m) = some m:=rfl
   have hfa : firstA (m * i.size) (.opn b m) ⟨hh,nx,l⟩ = some (cs.take (m * i.size)):=by simp only [firstA,St.rd,hb,Option.bind_some,if_pos h5]
   simp only [appendA,p1,p2,p3,p4,p5,Option.bind_some,hx,hla,hf,hfa]
   rw [if_pos ⟨trivial,p6,p7⟩]
   simp only [if_neg hn]
   rw [if_pos ⟨h1,h4⟩]
   simp only [St.get,hb,Option.bind_some,and_self,if_true]
 ·rcases boo (show bo _ _ slow = some r from h) with ⟨h4,k0⟩ | ⟨_,k0⟩
  case inr=>exact .inl k0
  have h4 : n * i.bytes≤140737488355328:=Nat.le_of_ble_eq_true h4
  simp only [inS,lit_eq,setH_eq] at k0
  refine .inr ⟨.opn nx n,(⟨hh,nx,l⟩ : St).add (.cells el (some i.size) new),?_,Nat.le_succ _,k0⟩
  have hla : lenSl .nilSlice = some 0:=rfl
  have hfa : firstA (0 * i.size) .nilSlice ⟨hh,nx,l⟩ = some []:=by simp only [firstA,Nat.zero_mul,if_true]
  simp only [appendA,p1,p2,p3,p4,p5,Option.bind_some,hx,hla,hf,hfa]
  rw [if_pos ⟨trivial,p6,p7⟩]
  simp only [if_neg hn,Nat.zero_add]
  rw [if_pos ⟨h1,h4⟩]
  simp only [List.nil_append]
theorem cOp_ok (hc : CLe callF call) {cA : Operand→Option Ar} : BOk P callF call cA o (cOp P cA o):=by
 unfold cOp
 split
 case h_1 x ho=>
  refine or1_ok hc fun a ha kx t α g s kn r hA hF h=>?_
  rw [show runX (.mov a) ⟨P,callF,kx⟩ t ⟨g,s⟩ kn = (a.val t).force (fun v=>kn v ⟨g,s⟩) from rfl,force_eq] at h
  exact ⟨_,_,of_pure (by simp only [pureOp,ho,hA ha]),Nat.le_refl _,h⟩
 case h_2 x ho =>
  refine or1_ok hc fun a ha kx t α g s kn r hA hF h=>?_
  rw [show runX (.mov a) ⟨P,callF,kx⟩ t ⟨g,s⟩ kn = (a.val t).force (fun v=>kn v ⟨g,s⟩) from rfl,force_eq] at h
  exact ⟨_,_,of_pure (by simp only [pureOp,ho,hA ha]),Nat.le_refl _,h⟩
 case h_3 c x y ho =>
  refine or1_ok hc fun c1 hc1=>or1_ok hc fun a ha=>or1_ok hc fun b hb kx t α g s kn r hA hF h=>?_
  rcases onBool_some (show (c1.val t).onBool _ _ none = _ from h) with ⟨hv,h⟩ | ⟨hv,h⟩ | ⟨_,h⟩
  ·rw [force_eq] at h
   exact ⟨_,_,of_pure (by simp only [pureOp,ho,hA hc1,hv,Option.bind_some,hA hb]),Nat.le_refl _,h⟩
  ·rw [force_eq] at h
   exact ⟨_,_,of_pure (by simp only [pureOp,ho,hA hc1,hv,Option.bind_some,hA ha]),Nat.le_refl _,h⟩
  ·cases h
 case h_4 op ty x y yt ho =>
  refine or1_ok hc fun a ha=>or1_ok hc fun b hb kx t α g s kn r hA hF h=>?_
  obtain ⟨v,h1,h2⟩:=binC_some (show binC P op ty x y (a.val t) (b.val t) _ = _ from h)
  exact ⟨_,_,of_pure (by simp only [pureOp,ho,hA ha,hA hb,Option.bind_some];exact h1),Nat.le_refl _,h2⟩
 case h_5 ty x ho =>
  refine or1_ok hc fun a ha kx t α g s kn r hA hF h=>?_
  rcases onBool_some (show (a.val t).onBool _ _ none = _ from h) with ⟨hv,h⟩ | ⟨hv,h⟩ | ⟨_,h⟩
  ·exact ⟨_,_,of_pure (by simp only [pureOp,ho,hA ha,hv,Option.bind_some];rfl),Nat.le_refl _,h⟩
  ·exact ⟨_,_,of_pure (by simp only [pureOp,ho,hA ha,hv,Option.bind_some];rfl),Nat.le_refl _,h⟩
  ·cases h
 case h_6 ty x ho =>
  split
  case isFalse =>
   split
   case isFalse=>exact gen_ok hc
   rename_i hagg
   refine or1_ok hc fun k hk=>or1_ok hc fun a ha kx t α g s kn r hA hF h=>?_
   rcases onPtr_some (show (a.val t).onPtr _ none = _ from h) with ⟨n,off,hv,h⟩ | h
   ·obtain ⟨blk,hb,h⟩:=ob_some h
    have hb : s.heap.get n = some blk:=(getH_eq ..).symm.trans hb
    obtain ⟨cs,hrd,h⟩:=onRead_some hb h
    obtain ⟨h1,h⟩:=dropK_some h
    obtain ⟨h2,h⟩:=takeK_some h
    refine ⟨_,_,of_heap (v:=some (.agg ((cs.drop off).take k))) (by simp only [pureOp,ho]) ?_,Nat.le_refl _,h⟩
    simp only [heapOp,ho,hA ha,Option.bind_some,hv,loadA,hrd,hagg,if_true,hk]
    rw [if_pos (by simp only [List.length_drop] at h2;omega)];rfl
   ·cases h
  rename_i hagg
  refine or1_ok hc fun a ha kx t α g s kn r hA hF h=>?_
  rcases onPtr_some (show (a.val t).onPtr _ none = _ from h) with ⟨n,off,hv,h⟩ | h
  ·obtain ⟨blk,hb,h⟩:=ob_some h
   have hb : s.heap.get n = some blk:=(getH_eq ..).symm.trans hb
   obtain ⟨cs,hrd,h⟩:=onRead_some hb h
   obtain ⟨v,hn,h⟩:=nthK_some h
   rw [force_eq] at h
   refine ⟨_,_,of_heap (v:=some v) (by simp only [pureOp,ho]) ?_,Nat.le_refl _,h⟩
   simp only [heapOp,ho,hA ha,Option.bind_some,hv,loadA,hrd,hagg,Bool.false_eq_true,if_false,hn,Option.map_some]
  ·cases h
 case h_7 ty x y ho =>
  split
  case isTrue =>
   refine or1_ok hc fun k hk=>or1_ok hc fun a ha=>or1_ok hc fun b hb kx t α g s kn r hA hF h=>?_
   rcases onPtr_some (show (a.val t).onPtr _ none = _ from h) with ⟨n,off,hv,h⟩ | h
   ·obtain ⟨blk,hblk,h⟩:=ob_some h
    have hblk : s.heap.get n = some blk:=(getH_eq ..).symm.trans hblk
    obtain ⟨ty1,k1,cs,hbk,h'⟩:=onCells_some h
    subst hbk
    replace h:=h'
    rcases onAgg_some h with ⟨vs,hw,h⟩ | h
    ·obtain ⟨h1,h⟩:=bo_some h
     rw [lenF_eq] at h1
     have h1 : vs.length = k:=Nat.eq_of_beq_eq_true h1
     obtain ⟨h2,h⟩:=allOne_some h
     obtain ⟨h3,h⟩:=splK_some h
     obtain ⟨hp,nx,l⟩:=s
     dsimp only at h
     rw [setH_eq] at h
     refine ⟨.put (.tup []),(⟨hp,nx,l⟩ : St).put n (.cells ty1 k1 (spl off vs cs)),of_heap (v:=none) (by simp only [pureOp,ho]) ?_,Nat.le_refl _,h⟩
     simp only [heapOp,ho,hA ha,hA hb,Option.bind_some,hv,storeA,St.get,hblk,hk,hw,cellsA,h1,h2,and_true,true_and]
     rw [if_pos (by omega)];rfl
    ·cases h
   ·cases h
  split
  case isFalse=>exact gen_ok hc
  rename_i hsz
  refine or1_ok hc fun a ha=>or1_ok hc fun b hb kx t α g s kn r hA hF h=>?_
  rcases onPtr_some (show (a.val t).onPtr _ none = _ from h) with ⟨n,off,hv,h⟩ | h
  ·obtain ⟨blk,hblk,h⟩:=ob_some h
   have hblk : s.heap.get n = some blk:=(getH_eq ..).symm.trans hblk
   obtain ⟨ty1,k1,cs,hbk,h'⟩:=onCells_some h
   subst hbk
   rw [force_eq,isOne_eq] at h'
   replace h:=h'
   split at h
   ·rename_i h1
    obtain ⟨hlt,h⟩:=putK_some h
    obtain ⟨hp,nx,l⟩:=s
    dsimp only at h
    rw [setH_eq] at h
    have hcell : cellsA (b.val t) = [b.val t]:=by cases hw : b.val t<;>first | rfl | (rw [hw] at h1;cases h1)
    refine ⟨.put (.tup []),(⟨hp,nx,l⟩ : St).put n (.cells ty1 k1 (cs.set off (b.val t))),of_heap (v:=none) (by simp only [pureOp,ho]) ?_,Nat.le_refl _,h⟩
    simp only [heapOp,ho,hA ha,hA hb,Option.bind_some,hv,storeA,St.get,hblk,hsz,hcell,List.length_singleton,List.all_cons,List.all_nil,Bool.and_true,h1,and_true,true_and]
    rw [if_pos (by omega)]
    have hspl : spl off [b.val t] cs = cs.set off (b.val t):=by
     simp only [spl,List.length_singleton]
     rw [List.set_eq_take_append_cons_drop,if_pos hlt];simp
    rw [hspl];rfl
   ·cases h
  ·cases h
 case h_8 ty x ho =>
  refine or1_ok hc fun a ha kx t α g s kn r hA hF h=>?_
  obtain ⟨hp,nx,l⟩:=s
  rw [show runX (.box ty a) ⟨P,callF,kx⟩ t ⟨g,⟨hp,nx,l⟩⟩ kn = (a.val t).force (fun v=>lit nx fun n=>setH (some (.cells ty none v.cellsF)) (pathOf n) hp fun h=>kn (.ptr n 0) ⟨g,⟨h,Nat.succ n,n :: l⟩⟩) from rfl,force_eq,lit_eq,setH_eq,cellsF_eq] at h
  refine ⟨_,_,of_heap (v:=some (.ptr nx 0)) (by simp only [pureOp,ho]) ?_,Nat.le_succ _,h⟩
  simp only [heapOp,ho,hA ha,Option.bind_some,newA]
  rfl
 case h_9 ty x i ho =>
  refine or1_ok hc fun off hoff=>or1_ok hc fun a ha kx t α g s kn r hA hF h=>?_
  rcases onPtr_some (show (a.val t).onPtr _ none = _ from h) with ⟨n,o1,hv,h⟩ | h
  ·rw [lit_eq] at h
   simp only [faOff,Option.bind_eq_some_iff] at hoff
   obtain ⟨fs,h1,f,h2,k,h3,h4⟩:=hoff
   split at h4
   ·cases h4
   ·rename_i hk
    cases h4
    exact ⟨_,_,of_pure (by simp only [pureOp,ho,h1,h2,h3,hk,if_false,Option.bind_some,hA ha,hv];rfl),Nat.le_refl _,h⟩
  ·cases h
 case h_10 ty x i ho =>
  refine or1_ok hc fun k hk=>or1_ok hc fun a ha=>or1_ok hc fun b hb kx t α g s kn r hA hF h=>?_
  have hsl : ∃ el,P.underlying ty = some (.slice el)∧szA P el = some k:=by
   unfold isSl at hk
   split at hk
   ·exact ⟨_,by assumption,hk⟩
   ·cases hk
  obtain ⟨el,hu,hsz⟩:=hsl
  have hint : ∀ {o1 n : Nat} {bb : Nat},(b.val t).onInt (fun _ j=>Int.rec (motive:=fun _=>R) (fun m=>bo (Nat.ble (Nat.succ m) n) (lit (Nat.add o1 (Nat.mul m k)) fun o=>kn (.ptr bb o) ⟨g,s⟩) none) (fun _=>none) j) none = some r→
   ∃ kk m,b.val t = .int kk (.ofNat m)∧m < n∧kn (.ptr bb (o1 + m * k)) ⟨g,s⟩ = some r:=by
   intro o1 n bb h
   rcases onInt_some h with ⟨kk,j,hj,h⟩ | h
   ·cases j with
    | ofNat m =>
     obtain ⟨h1,h2⟩:=bo_some h
     rw [lit_eq] at h2
     exact ⟨kk,m,hj,Nat.le_of_ble_eq_true h1,h2⟩
    | negSucc m=>cases h
   ·cases h
  rcases onSl_some (show (a.val t).onSl _ none none = _ from h) with ⟨bb,o1,n,c,hv,h⟩ | ⟨bb,n,hv,h⟩ | ⟨_,h⟩ | h
  ·obtain ⟨kk,m,h1,h2,h3⟩:=hint h
   refine ⟨_,_,of_pure ?_,Nat.le_refl _,h3⟩
   simp only [pureOp,ho,hA ha,hA hb,Option.bind_some,hv,h1,indexAddrA,hu,hsz]
   rw [if_pos (by simp only [Int.ofNat_eq_natCast];omega)];rfl
  ·obtain ⟨kk,m,h1,h2,h3⟩:=hint h
   refine ⟨_,_,of_pure ?_,Nat.le_refl _,h3⟩
   simp only [pureOp,ho,hA ha,hA hb,Option.bind_some,hv,h1,indexAddrA,hu,hsz]
   rw [if_pos (by simp only [Int.ofNat_eq_natCast];omega)];rfl
  ·cases h
  ·cases h
 case h_11 x i ho =>
  refine or1_ok hc fun a ha kx t α g s kn r hA hF h=>?_
  rcases onTup_some (show (a.val t).onTup _ none = _ from h) with ⟨vs,hv,h⟩ | h
  ·obtain ⟨v,h1,h2⟩:=nthK_some h
   rw [force_eq] at h2
   exact ⟨_,_,of_pure (by simp only [pureOp,ho,hA ha,hv,Option.bind_some,h1]),Nat.le_refl _,h2⟩
  ·cases h
 case h_12 args ats ho =>
  split
  case h_2=>exact gen_ok hc
  rename_i x ty hx hty
  refine or1_ok hc fun k hk=>or1_ok hc fun a ha kx t α g s kn r hA hF h=>?_
  have hsl : ∃ el,P.underlying ty = some (.slice el):=by
   unfold isSl at hk
   split at hk
   ·exact ⟨_,by assumption⟩
   ·cases hk
  obtain ⟨el,hu⟩:=hsl
  rcases onSl_some (show (a.val t).onSl _ _ none = _ from h) with ⟨bb,o1,n,c,hv,h⟩ | ⟨bb,n,hv,h⟩ | ⟨hv,h⟩ | h
  ·exact ⟨_,_,of_pure (by simp only [pureOp,ho,hx,hty,argL,hA ha,hv,Option.bind_some,Option.map_some,lenA,hu];rfl),Nat.le_refl _,h⟩
  ·exact ⟨_,_,of_pure (by simp only [pureOp,ho,hx,hty,argL,hA ha,hv,Option.bind_some,Option.map_some,lenA,hu];rfl),Nat.le_refl _,h⟩
  ·exact ⟨_,_,of_pure (by simp only [pureOp,ho,hx,hty,argL,hA ha,hv,Option.bind_some,Option.map_some,lenA,hu];rfl),Nat.le_refl _,h⟩
  ·cases h
 case h_13 f args ats ho =>
  split
  case isFalse=>exact gen_ok hc
  rename_i hen
  refine or1_ok hc fun aas has kx t α g s kn r hA hF h=>?_
  rw [show runX (.call f aas) ⟨P,callF,kx⟩ t ⟨g,s⟩ kn = valsK aas t (fun vs=>ob (callF (.fn f) vs s) fun r=>Prod.rec (motive:=fun _=>R) (fun r s1=>bo (Nat.ble s.next s1.next) (Rt.rec (motive:=fun _=>R) (fun v=>kn v ⟨g,s1⟩) (fun v=>kx (.pan v) t.t ⟨g,s1⟩) r) none) r) from rfl,valsK_eq] at h
  obtain ⟨⟨rt,s1⟩,h1,h2⟩:=ob_some h
  obtain ⟨h3,h4⟩:=bo_some h2
  have h1:=hc _ _ _ _ h1
  refine ⟨(match rt with | .ret v=>.put v | .pan v=>.pan v),s1,?_,Nat.le_of_ble_eq_true h3,?_⟩
  ·have hp : pureOp P o α = none:=by simp only [pureOp,ho]
   have hh : heapOp P o α s = none:=by simp only [heapOp,ho]
   unfold opX
   rw [hp,hh]
   simp only [ho,calleeA,hF,Option.bind_some,cAs_ok hA has,hen,if_true,List.nil_append,List.append_nil,h1,Option.map_some]
   cases rt<;>rfl
  ·cases rt<;>exact h4
 case h_14 ty ho =>
  refine or1_ok hc fun z hz kx t α g s kn r hA hF h=>?_
  obtain ⟨hp,nx,l⟩:=s
  rw [show runX (.alloc ty (cellsA z)) ⟨P,callF,kx⟩ t ⟨g,⟨hp,nx,l⟩⟩ kn = lit nx (fun n=>setH (some (.cells ty none (cellsA z))) (pathOf n) hp fun h=>kn (.ptr n 0) ⟨g,⟨h,Nat.succ n,n :: l⟩⟩) from rfl,lit_eq,setH_eq] at h
  refine ⟨_,_,of_heap (v:=some (.ptr nx 0)) (by simp only [pureOp,ho]) ?_,Nat.le_succ _,h⟩
  simp only [heapOp,ho,hz,Option.bind_some,newA];rfl
 case h_15 args ats ho =>
  split
  case h_2=>exact gen_ok hc
  rename_i x y hl
  refine or1_ok hc fun a ha=>or1_ok hc fun b hb kx t α g s kn r hA hF h=>?_
  rcases onInt_some (show (a.val t).onInt _ none = _ from h) with ⟨k,m,hm,h⟩ | h
  ·rcases onInt_some (show (b.val t).onInt _ none = _ from h) with ⟨k',n,hn,h⟩ | h
   ·rw [ltI_eq] at h
    have hop : pureOp P o α = some (.int k (if n < m then n else m)):=by
     simp only [pureOp,ho,hl,argL,hA ha,hA hb,hm,hn,Option.bind_some,Option.map_some,minA]
    split at h
    ·rename_i hlt;rw [if_pos hlt] at hop;exact ⟨_,_,of_pure hop,Nat.le_refl _,h⟩
    ·rename_i hlt;rw [if_neg hlt] at hop;exact ⟨_,_,of_pure hop,Nat.le_refl _,h⟩
   ·cases h
  ·cases h
 case h_16 args ats ho =>
  split
  case h_2=>exact gen_ok hc
  rename_i x y hl
  refine or1_ok hc fun a ha=>or1_ok hc fun b hb kx t α g s kn r hA hF h=>?_
  rcases onInt_some (show (a.val t).onInt _ none = _ from h) with ⟨k,m,hm,h⟩ | h
  ·rcases onInt_some (show (b.val t).onInt _ none = _ from h) with ⟨k',n,hn,h⟩ | h
   ·rw [ltI_eq] at h
    have hop : pureOp P o α = some (.int k (if m < n then n else m)):=by
     simp only [pureOp,ho,hl,argL,hA ha,hA hb,hm,hn,Option.bind_some,Option.map_some,maxA]
    split at h
    ·rename_i hlt;rw [if_pos hlt] at hop;exact ⟨_,_,of_pure hop,Nat.le_refl _,h⟩
    ·rename_i hlt;rw [if_neg hlt] at hop;exact ⟨_,_,of_pure hop,Nat.le_refl _,h⟩
   ·cases h
  ·cases h
 case h_17 ty ps ho =>
  refine or1_ok hc fun q hq=>or1_ok hc fun rr hrr kx t α g s kn r hA hF h=>?_
  unfold structP at hq
  simp only [Option.bind_eq_some_iff] at hq
  obtain ⟨z,hz,hq⟩:=hq
  split at hq
  case h_2=>cases hq
  rename_i fs hu
  simp only [Option.map_eq_some_iff] at hq
  obtain ⟨pl,hpl,rfl⟩:=hq
  obtain ⟨vs,cs1,h1,h2,h3⟩:=fillK_some hA hrr (show fillK rr t (cellsA z) (fun cs=>kn (.agg cs) ⟨g,s⟩) = some r from h)
  exact ⟨_,_,of_pure (by simp only [pureOp,ho,h1,Option.bind_some,buildA,hz,hu,hpl,h2,Option.map_some]),Nat.le_refl _,h3⟩
 case h_18 ty len ps ho =>
  refine or1_ok hc fun q hq=>or1_ok hc fun rr hrr kx t α g s kn r hA hF h=>?_
  unfold sliceP at hq
  split at hq
  case h_2=>cases hq
  rename_i el hu
  simp only [Option.bind_eq_some_iff] at hq
  obtain ⟨k,hk,hq⟩:=hq
  split at hq
  case isFalse=>cases hq
  rename_i h16
  simp only [Option.bind_eq_some_iff] at hq
  obtain ⟨z,hz,hq⟩:=hq
  split at hq
  case isFalse=>cases hq
  rename_i hz0
  cases hq
  obtain ⟨hp,nx,l⟩:=s
  obtain ⟨vs,cs1,h1,h2,h3⟩:=fillK_some hA hrr (show fillK rr t (repA z (len * k)) (fun cs=>lit nx fun n=>setH (some (.cells el none cs)) (pathOf n) hp fun h=>kn (.slice n 0 len len) ⟨g,⟨h,Nat.succ n,n :: l⟩⟩) = some r from h)
  rw [lit_eq,setH_eq] at h3
  refine ⟨_,_,of_heap (v:=some (.slice nx 0 len len)) (by simp only [pureOp,ho]) ?_,Nat.le_succ _,h3⟩
  simp only [heapOp,ho,h1,Option.bind_some,buildSliceA,hu,hk,if_pos h16,hz,if_pos hz0,h2];rfl
 case h_19 args ats ho =>
  split
  case h_2=>exact gen_ok hc
  rename_i xa xx st xt hl hl2
  refine or1_ok hc fun q hq=>or1_ok hc fun a ha=>or1_ok hc fun x hx kx t α g s kn r hA hF h=>?_
  obtain ⟨el,size,bytes⟩:=q
  have gen:=gen_ok (P:=P) (cA:=cA) (o:=o) hc kx t α g s kn r hA hF
  have main : ∀ {b off n : Nat} {xv : AV},x.val t = xv→lenSl xv = some n→(∀ cs,s.rd b = some cs→off≤cs.length→n * size≤(cs.drop off).length→firstA (n * size) xv s = some ((cs.drop off).take (n * size)))→
   bo (Nat.beq n 0) (genRun o cA ⟨P,callF,kx⟩ t ⟨g,s⟩ kn) (ob (getH (pathOf b) s.heap) fun blk=>blk.onRead fun cs=>dropK cs off fun cs=>takeK cs (Nat.mul n size) fun new =>
    allOne new ((a.val t).isOpn (appGo el size bytes n (a.val t) new ⟨g,s⟩ kn (genRun o cA ⟨P,callF,kx⟩ t ⟨g,s⟩ kn)) (genRun o cA ⟨P,callF,kx⟩ t ⟨g,s⟩ kn))) = some r→
   ∃ x s1,opX P call o α g.ro g.rc s = some (x,s1)∧s.next≤s1.next∧Aft kx t.t g s1 kn r x:=by
   intro b off n xv hxv hlen hfirst h
   rcases boo h with ⟨_,h⟩ | ⟨hn0,h⟩
   ·exact gen h
   have hn0 : n ≠ 0:=Nat.ne_of_beq_eq_false hn0
   obtain ⟨blk,hb,h⟩:=ob_some h
   have hb : s.heap.get b = some blk:=(getH_eq ..).symm.trans hb
   obtain ⟨cs,hrd,h⟩:=onRead_some hb h
   obtain ⟨h1,h⟩:=dropK_some h
   obtain ⟨h2,h⟩:=takeK_some h
   obtain ⟨h3,h⟩:=allOne_some h
   have hf:=hfirst cs hrd h1 h2
   rcases isOpn_some h with ⟨hopn,h⟩ | h
   ·rcases appGo_some hq hopn hn0 hlen hf h3 h with h | ⟨v,s1,h4,h5,h6⟩
    ·exact gen h
    ·refine ⟨_,_,of_heap (v:=some v) (by simp only [pureOp,ho]) ?_,h5,h6⟩
     simp only [heapOp,ho,hl,hl2,argL,hA ha,hA hx,Option.bind_some,Option.map_some,hxv,h4]
   ·exact gen h
  rcases onSl_some (show (x.val t).onSl _ _ none = _ from h) with ⟨b,off,n,c,hv,h⟩ | ⟨b,n,hv,h⟩ | ⟨hv,h⟩ | h
  ·refine main hv rfl (fun cs hrd h1 h2=>?_) h
   simp only [firstA,hrd,Option.bind_some]
   rw [if_pos (by simp only [List.length_drop] at h2;omega)]
  ·refine main hv rfl (fun cs hrd h1 h2=>?_) h
   simp only [firstA,hrd,Option.bind_some,List.drop_zero] at h2 ⊢
   rw [if_pos h2]
  ·exact gen h
  ·cases h
 case h_20=>exact gen_ok hc
end
end Go.Abs
namespace Go.Abs
variable {P : Program}
inductive Gd where
 | no
 | on (x : Ar) (w : Bool)
inductive Ds where
 | no
 | to (p : Pt)
 | loc
inductive CO where
 | mk (g : Gd) (d : Ds) (b : OpC)
 | bad
abbrev KT:=FT→Sg→R
abbrev KX:=Ex→FT→Sg→R
abbrev KE:=Ev→Sg→R
noncomputable def Gd.run (d : Gd) : Ev→R→R→R:=
 Gd.rec (motive:=fun _=>Ev→R→R→R) (fun _ y _=>y)
  (fun x w e y n=>(x.val e).onBool (Bool.rec (motive:=fun _=>R) y n w) (Bool.rec (motive:=fun _=>R) n y w) n) d
noncomputable def Ds.run (d : Ds) : AV→Ev→(Ev→R)→R:=
 Ds.rec (motive:=fun _=>AV→Ev→(Ev→R)→R) (fun _ e k=>k e) (fun p v e k=>Ev.rec (motive:=fun _=>R) (fun l t=>setF v p t fun t=>k ⟨l,t⟩) e) (fun v e k=>Ev.rec (motive:=fun _=>R) (fun l t=>k ⟨v :: l,t⟩) e) d
abbrev EX:=Cx→Ev→Sg→KE→R
abbrev OX:=Cx→FT→Sg→KT→R
noncomputable def runCX (c : CO) : EX:=
 CO.rec (motive:=fun _=>EX)
  (fun gd d b x e σ kn=>gd.run e (runX b x e σ fun v σ=>d.run v e fun e=>kn e σ) (d.run (.tup []) e fun e=>kn e σ))
  (fun _ _ _ _=>none) c
noncomputable def cGd (gs locs : List Tmp) (ops : Array Oper) (o : Oper) : Option Gd:=
 match o.guard with
 | none=>some .no
 | some (j,w)=>((ops[j]?).bind (·.dst)).bind fun d=>(cArg gs locs (.tmp d)).map fun a=>.on a w
noncomputable def cDs (nt : Nat) (gs : List Tmp) (o : Oper) : Option Ds:=
 match o.dst with
 | none=>some .no
 | some d=>match idxT gs d with
  | some j=>some (.to (pathOf j))
  | none=>if d < nt then some .loc else none
def nextL (gs locs : List Tmp) (o : Oper) : List Tmp:=
 match o.dst with
 | none=>locs
 | some d=>match idxT gs d with
  | some _=>locs
  | none=>d :: locs
noncomputable def cOper (P : Program) (nt : Nat) (gs locs : List Tmp) (ops : Array Oper) (o : Oper) : CO:=
 match cGd gs locs ops o,cDs nt gs o with
 | some g,some d=>.mk g d (cOp P (cArg gs locs) o)
 | _,_=>.bad
theorem idxT_inj : ∀ {l : List Tmp} {i i' j : Nat},idxT l i = some j→idxT l i' = some j→i = i'
 | [],_,_,_,h,_=>by cases h
 | k :: r,i,i',j,h,h'=>by
  simp only [idxT] at h h'
  split at h<;>split at h'
  ·rename_i e1 e2;exact (Nat.eq_of_beq_eq_true e1).symm.trans (Nat.eq_of_beq_eq_true e2)
  ·simp only [Option.map_eq_some_iff] at h';cases h;obtain ⟨_,_,h'⟩:=h';cases h'
  ·simp only [Option.map_eq_some_iff] at h;cases h';obtain ⟨_,_,h⟩:=h;cases h
  ·simp only [Option.map_eq_some_iff] at h h'
   obtain ⟨a,h1,h2⟩:=h
   obtain ⟨b,h3,h4⟩:=h'
   have : a = b:=by omega
   subst this
   exact idxT_inj h1 h3
theorem known_arg {nt : Nat} {gs locs : List Tmp} {tm : List AV} {e : Ev} (hr : RelE nt gs locs tm e) {d : Tmp} {a : Ar} (h : cArg gs locs (.tmp d) = some a) : tm[d]? = some (a.val e):=by
 simp only [cArg] at h
 split at h
 ·rename_i j hj
  cases h
  obtain ⟨_,v,h1,h2⟩:=hr.lo d j hj
  rw [h2]
  show _ = some (getL e.l j)
  rw [getL_eq,List.getD_eq_getElem?_getD,h1];rfl
 ·simp only [Option.map_eq_some_iff] at h
  obtain ⟨j,h1,rfl⟩:=h
  rw [hr.gl d j h1]
  exact congrArg some (getF_eq ..).symm
theorem gd_some {nt : Nat} {gs locs : List Tmp} {ops : Array Oper} {o : Oper} {gd : Gd} (h : cGd gs locs ops o = some gd) {tm : List AV} {e : Ev} (hre : RelE nt gs locs tm e) {y n : R} {r : Rt × St} (hr : gd.run e y n = some r) :
 (wantedA ops o tm = true∧y = some r)∨(wantedA ops o tm = false∧n = some r):=by
 unfold cGd at h
 unfold wantedA
 cases hg : o.guard with
 | none=>rw [hg] at h;cases h;exact .inl ⟨rfl,hr⟩
 | some jw =>
  obtain ⟨j,w⟩:=jw
  rw [hg] at h
  simp only [Option.bind_eq_some_iff,Option.map_eq_some_iff] at h
  obtain ⟨d,⟨o1,h1,h2⟩,a,h3,rfl⟩:=h
  simp only [h1,Option.bind_some,h2,known_arg hre h3]
  rcases onBool_some (show (a.val e).onBool (Bool.rec (motive:=fun _=>R) y n w) (Bool.rec (motive:=fun _=>R) n y w) n = some r from hr) with ⟨hv,hr⟩ | ⟨hv,hr⟩ | ⟨hv,hr⟩
  ·rw [hv];cases w
   ·exact .inl ⟨rfl,hr⟩
   ·exact .inr ⟨rfl,hr⟩
  ·rw [hv];cases w
   ·exact .inr ⟨rfl,hr⟩
   ·exact .inl ⟨rfl,hr⟩
  ·refine .inr ⟨?_,hr⟩
   cases hw : a.val e with
   | bool b=>exact absurd hw (hv b)
   | _=>rfl
theorem ds_some {nt : Nat} {gs locs : List Tmp} {o : Oper} {d : Ds} (h : cDs nt gs o = some d) {tm : List AV} {e : Ev} (hre : RelE nt gs locs tm e) {v : AV} {k : Ev→R} {r : Rt × St} (hr : d.run v e k = some r) :
 ∃ e1,RelE nt gs (nextL gs locs o) (putA o.dst v tm) e1∧k e1 = some r:=by
 obtain ⟨l,t⟩:=e
 unfold cDs at h
 unfold nextL
 cases hd : o.dst with
 | none=>rw [hd] at h;cases h;exact ⟨_,hre,hr⟩
 | some i =>
  rw [hd] at h
  simp only at h ⊢
  simp only [putA,setR_eq]
  cases hi : idxT gs i with
  | some j =>
   simp only [hi] at h ⊢
   cases h
   have hr : setF v (pathOf j) t (fun t=>k ⟨l,t⟩) = some r:=hr
   rw [setF_eq] at hr
   have hit : i < tm.length:=(List.getElem?_eq_some_iff.1 (hre.gl i j hi)).1
   refine ⟨_,⟨by rw [List.length_set];exact hre.len,?_,?_⟩,hr⟩
   ·intro i' j' h'
    rw [List.getElem?_set]
    by_cases e0 : i = i'
    ·subst e0
     rw [hi] at h';cases h'
     rw [if_pos rfl,if_pos hit,T4.get_set_self]
    ·rw [if_neg e0,hre.gl i' j' h',T4.get_set_ne]
     intro e1
     have:=pathOf_inj.1 e1
     subst this
     exact e0 (idxT_inj hi h')
   ·intro i' j' h'
    obtain ⟨h1,w,h2,h3⟩:=hre.lo i' j' h'
    refine ⟨h1,w,h2,?_⟩
    rw [List.getElem?_set,if_neg (fun e0=>by subst e0;rw [hi] at h1;cases h1)]
    exact h3
  | none =>
   simp only [hi] at h ⊢
   split at h
   ·rename_i hlt
    cases h
    refine ⟨⟨v :: l,t⟩,⟨by rw [List.length_set];exact hre.len,?_,?_⟩,hr⟩
    ·intro i' j' h'
     rw [List.getElem?_set,if_neg (fun e0=>by subst e0;rw [hi] at h';cases h')]
     exact hre.gl i' j' h'
    ·intro i' j' h'
     simp only [idxT] at h'
     split at h'
     ·rename_i e0
      cases h'
      have e0 : i = i':=Nat.eq_of_beq_eq_true e0
      subst e0
      exact ⟨hi,v,rfl,by rw [List.getElem?_set,if_pos rfl,if_pos (by rw [hre.len];exact hlt)]⟩
     ·rename_i e0
      simp only [Option.map_eq_some_iff] at h'
      obtain ⟨j,h1,rfl⟩:=h'
      obtain ⟨h2,w,h3,h4⟩:=hre.lo i' j h1
      refine ⟨h2,w,h3,?_⟩
      rw [List.getElem?_set,if_neg (fun e1=>e0 (by subst e1;exact Nat.beq_refl i))]
      exact h4
   ·cases h
def frOf (tm : List AV) (g : Aux) : Fr:=⟨tm,g.df,g.rc,g.ro⟩
theorem runCO_ok {callF call : CallF} (hc : CLe callF call) {nt : Nat} {gs locs : List Tmp} {ops : Array Oper} {o : Oper} {kx : KX} {tm : List AV} {e : Ev} (hre : RelE nt gs locs tm e) {g : Aux} {s : St} {kn : KE} {r : Rt × St} (h : runCX (cOper P nt gs locs ops o) ⟨P,callF,kx⟩ e ⟨g,s⟩ kn = some r) :
 ∃ x tm1 g1 s1,opA P call ops o (frOf tm g) s = some (x,frOf tm1 g1,s1)∧s.next≤s1.next∧
  (match x with | none=>∃ e1,RelE nt gs (nextL gs locs o) tm1 e1∧kn e1 ⟨g1,s1⟩ = some r | some v=>tm1 = tm∧kx (.pan v) e.t ⟨g1,s1⟩ = some r):=by
 unfold cOper at h
 split at h
 case h_2=>cases h
 rename_i gd d hgd hd
 rcases gd_some hgd hre (show gd.run e _ _ = some r from h) with ⟨hw,h⟩ | ⟨hw,h⟩
 ·obtain ⟨x,s1,h1,h2,h3⟩:=cOp_ok (o:=o) (cA:=cArg gs locs) hc kx e (arg tm) g s _ r (fun h=>cArg_ok hre h) (fun _=>rfl) h
  have ho : ∀ y,opX P call o (arg tm) g.ro g.rc s = some y→opA P call ops o (frOf tm g) s = some (match y.1 with
   | .put v=>(none,(frOf tm g).put o.dst v,y.2)
   | .pan v=>(some v,frOf tm g,y.2)
   | .dfr d=>(none,{ frOf tm g with tm:=putA o.dst (.tup []) tm,df:=d :: g.df },y.2)
   | .rcv v=>(none,{ frOf tm g with tm:=putA o.dst v tm,rc:=g.rc.got v },y.2)):=by
   intro y hy
   unfold opA
   rw [if_pos (show wantedA ops o (frOf tm g).tm = true from hw)]
   rw [show opX P call o (arg (frOf tm g).tm) (frOf tm g).ro (frOf tm g).rc s = some y from hy];rfl
  have ho:=ho _ h1
  cases x with
  | put v =>
   obtain ⟨e1,h4,h5⟩:=ds_some hd hre (show d.run v e _ = some r from h3)
   exact ⟨none,putA o.dst v tm,g,s1,ho,h2,e1,h4,h5⟩
  | pan v=>exact ⟨some v,tm,g,s1,ho,h2,rfl,h3⟩
  | dfr dd =>
   obtain ⟨e1,h4,h5⟩:=ds_some hd hre (show d.run (.tup []) e _ = some r from h3)
   exact ⟨none,putA o.dst (.tup []) tm,⟨dd :: g.df,g.rc,g.ro⟩,s1,ho,h2,e1,h4,h5⟩
  | rcv v =>
   obtain ⟨e1,h4,h5⟩:=ds_some hd hre (show d.run v e _ = some r from h3)
   exact ⟨none,putA o.dst v tm,⟨g.df,g.rc.got v,g.ro⟩,s1,ho,h2,e1,h4,h5⟩
 ·obtain ⟨e1,h4,h5⟩:=ds_some hd hre h
  refine ⟨none,putA o.dst (.tup []) tm,g,s,?_,Nat.le_refl _,e1,h4,h5⟩
  unfold opA
  rw [if_neg (by rw [show wantedA ops o (frOf tm g).tm = false from hw];simp)]
  rfl
noncomputable def cOps (P : Program) (nt : Nat) (gs : List Tmp) (ops : Array Oper) : List Oper→List Tmp→List CO
 | [],_=>[]
 | o :: l,locs=>cOper P nt gs locs ops o :: cOps P nt gs ops l (nextL gs locs o)
noncomputable def runOX (l : List CO) : EX:=
 List.rec (motive:=fun _=>EX) (fun _ e σ kn=>kn e σ) (fun c _ ih x e σ kn=>runCX c x e σ fun e σ=>ih x e σ kn) l
theorem runOps_ok {callF call : CallF} (hc : CLe callF call) {nt : Nat} {gs : List Tmp} {kx : KX} {ops : Array Oper} : ∀ {l : List Oper} {locs : List Tmp} {tm : List AV} {e : Ev} {g : Aux} {s : St} {kn : KE} {r : Rt × St},RelE nt gs locs tm e→runOX (cOps P nt gs ops l locs) ⟨P,callF,kx⟩ e ⟨g,s⟩ kn = some r→
 ∃ x tm1 locs1 e1 g1 s1,evOps P call ops l (frOf tm g) s = some (x,frOf tm1 g1,s1)∧s.next≤s1.next∧RelE nt gs locs1 tm1 e1∧(match x with | none=>kn e1 ⟨g1,s1⟩ = some r | some v=>kx (.pan v) e1.t ⟨g1,s1⟩ = some r)
 | [],locs,tm,e,g,s,kn,r,hre,h=>⟨none,tm,locs,e,g,s,rfl,Nat.le_refl _,hre,h⟩
 | o :: l,locs,tm,e,g,s,kn,r,hre,h=>by
  obtain ⟨x,tm1,g1,s1,h1,h2,h3⟩:=runCO_ok hc hre (show runCX (cOper P nt gs locs ops o) ⟨P,callF,kx⟩ e ⟨g,s⟩ (fun e σ=>runOX (cOps P nt gs ops l (nextL gs locs o)) ⟨P,callF,kx⟩ e σ kn) = some r from h)
  cases x with
  | some v =>
   obtain ⟨rfl,h3⟩:=h3
   exact ⟨some v,tm1,locs,e,g1,s1,by simp only [evOps,h1,Option.bind_some],h2,hre,h3⟩
  | none =>
   obtain ⟨e1,h4,h5⟩:=h3
   obtain ⟨y,tm2,locs2,e2,g2,s2,h6,h7,h8,h9⟩:=runOps_ok hc (l:=l) h4 h5
   exact ⟨y,tm2,locs2,e2,g2,s2,by simp only [evOps,h1,Option.bind_some,h6,if_pos h7],Nat.le_trans h2 h7,h8,h9⟩
theorem stepDE_mono {c1 c2 : CallF} (hc : CLe c1 c2) {ops : Array Oper} {h : Tr Blk} {o : Oper} {m : Nat} {L : List Tmp} {t : List AV} {E : List DE} {c : Nat} {x : DE} (hx : stepDE P c1 ops h o m L t E c = some x) : stepDE P c2 ops h o m L t E c = some x:=by
 unfold stepDE at hx ⊢
 by_cases hw : wantedA ops o t = true
 ·rw [if_pos hw] at hx ⊢
  cases hr : opX P c1 o (argM L t) (some 0) .no ⟨ihOf o m h E,c,[]⟩ with
  | none=>simp only [hr] at hx;cases hx
  | some q=>simp only [hr] at hx;rw [opX_le hc (fun _ _ h=>h) hr];exact hx
 ·rw [if_neg hw] at hx ⊢;exact hx
theorem evDrawL_mono {c1 c2 : CallF} (hc : CLe c1 c2) {ops : Array Oper} {h : Tr Blk} : ∀ {l : List (Oper × Nat × List Tmp)} {t : List AV} {E : List DE} {c : Nat} {r : List DE × List AV × Nat},evDrawL P c1 ops h l t E c = some r→evDrawL P c2 ops h l t E c = some r
 | [],_,_,_,_,hx=>hx
 | (o,m,L) :: l,t,E,c,r,hx=>by
  simp only [evDrawL,Option.bind_eq_some_iff] at hx ⊢
  obtain ⟨x,h1,h2⟩:=hx
  exact ⟨x,stepDE_mono hc h1,evDrawL_mono hc h2⟩
theorem evDraw_mono {c1 c2 : CallF} (hc : CLe c1 c2) {ops : Array Oper} {fr : Fr} {s : St} {r : Fr × St} (h : evDraw P c1 ops fr s = some r) : evDraw P c2 ops fr s = some r:=by
 simp only [evDraw,Option.bind_eq_some_iff,Option.map_eq_some_iff] at h ⊢
 obtain ⟨i,h1,x,h2,h3⟩:=h
 exact ⟨i,h1,x,evDrawL_mono hc h2,h3⟩
end Go.Abs
namespace Go.Abs
variable {P : Program}
structure WE where
 pos : Nat
 hp : Tr Blk
 lg : List Nat
 ih : Tr Blk
noncomputable def setAllK (g : Tr Blk) (L : List Nat) : Tr Blk→(Tr Blk→R)→R:=
 List.rec (motive:=fun _=>Tr Blk→(Tr Blk→R)→R) (fun h k=>k h)
  (fun n _ ih h k=>Option.rec (motive:=fun _=>R) (setH none (pathOf n) h fun h=>ih h k) (fun b=>setH (some b) (pathOf n) h fun h=>ih h k) (getH (pathOf n) g)) L
theorem setAllK_eq (g : Tr Blk) : ∀ (L : List Nat) (h : Tr Blk) (k : Tr Blk→R),setAllK g L h k = k (setAll h g L)
 | [],_,_=>rfl
 | n :: L,h,k=>by
  have h1 : setAllK g (n :: L) h k = setAllK g L (h.set n (g.get n)) k:=by
   show Option.rec (motive:=fun _=>R) (setH none (pathOf n) h fun h=>setAllK g L h k) (fun b=>setH (some b) (pathOf n) h fun h=>setAllK g L h k) (getH (pathOf n) g) = _
   rw [getH_eq]
   show Option.rec (motive:=fun _=>R) (setH none (pathOf n) h fun h=>setAllK g L h k) (fun b=>setH (some b) (pathOf n) h fun h=>setAllK g L h k) (g.get n) = _
   cases hg : g.get n with
   | none=>exact setH_eq ..
   | some b=>exact setH_eq ..
  rw [h1,setAllK_eq g L];rfl
noncomputable def foldW (m : Nat) (h : Tr Blk) (W : List WE) : Tr Blk:=
 List.rec (motive:=fun _=>Tr Blk) h (fun x _ ih=>bo (m.testBit x.pos) (setAll ih x.hp x.lg) ih) W
noncomputable def heapW (W : List WE) (h : Tr Blk) : (Tr Blk→R)→R:=
 List.rec (motive:=fun _=>(Tr Blk→R)→R) (fun k=>k h) (fun x _ ih k=>ih fun h=>setAllK x.hp x.lg h k) W
noncomputable def logW (W : List WE) (l : List Nat) : List Nat:=List.rec (motive:=fun _=>List Nat) l (fun x _ ih=>x.lg ++ ih) W
inductive RelW (h : Tr Blk) : List DE→List WE→Prop
 | nil : RelW h [] []
 | quiet {E W} (x : DE) : RelW h E W→x.lg = []→x.m < 2 ^ E.length→x.ih = ihOf x.o x.m h E→RelW h (x :: E) W
 | loud {E W} (x : DE) : RelW h E W→x.m < 2 ^ E.length→x.ih = ihOf x.o x.m h E→qt x.o = false→RelW h (x :: E) (⟨E.length,x.hp,x.lg,x.ih⟩ :: W)
theorem relW_fold {h : Tr Blk} {E : List DE} {W : List WE} (hr : RelW h E W) (m : Nat) : foldH m.testBit h E = foldW m h W:=by
 induction hr with
 | nil=>rfl
 | quiet x _ hl _ _ ih =>
  simp only [foldH,hl]
  split
  ·exact ih
  ·exact ih
 | @loud E W x _ _ _ _ ih =>
  show (if m.testBit E.length then _ else _) = bo (m.testBit E.length) (setAll (foldW m h W) x.hp x.lg) (foldW m h W)
  rw [bo_eq,ih]
theorem relW_heap {h : Tr Blk} {E : List DE} {W : List WE} (hr : RelW h E W) : ∀ (k : Tr Blk→R),heapW W h k = k (foldH (fun _=>true) h E):=by
 induction hr with
 | nil=>intro k;rfl
 | quiet x _ hl _ _ ih=>intro k;simp only [foldH,hl,if_true];exact ih k
 | @loud E W x _ _ _ _ ih =>
  intro k
  show heapW W h (fun h=>setAllK x.hp x.lg h k) = _
  rw [ih];simp only [foldH,if_true,setAllK_eq]
theorem relW_log {h : Tr Blk} {E : List DE} {W : List WE} (hr : RelW h E W) (l : List Nat) : logW W l = logsOf E l:=by
 induction hr with
 | nil=>rfl
 | quiet x _ hl _ _ ih=>simp only [logsOf,hl,List.nil_append];exact ih
 | @loud E W x _ _ _ _ ih =>
  show x.lg ++ logW W l = _
  rw [ih];rfl
theorem foldH_low {S : Nat→Bool} {h : Tr Blk} {x : DE} {E : List DE} (hs : S E.length = false) : foldH S h (x :: E) = foldH S h E:=by simp [foldH,hs]
theorem testBit_hi {m k : Nat} (h : m < 2 ^ k) : m.testBit k = false:=Nat.testBit_lt_two_pow h
theorem ihOf_low {o : Oper} {m : Nat} {h : Tr Blk} {x : DE} {E : List DE} (hs : m.testBit E.length = false) : ihOf o m h (x :: E) = ihOf o m h E:=by unfold ihOf;rw [foldH_low hs]
theorem relW_ih {h : Tr Blk} {E : List DE} {W : List WE} (hr : RelW h E W) : ∀ {i : Nat} {y : DE},atE E i = some y→y.ih = ihOf y.o y.m h E∧y.m < 2 ^ E.length:=by
 induction hr with
 | nil=>intro i y hy;cases hy
 | @quiet E W x hE hl hm hi ih =>
  intro i y hy
  simp only [atE] at hy
  split at hy
  ·cases hy
   exact ⟨by rw [ihOf_low (testBit_hi hm)];exact hi,by rw [List.length_cons,Nat.pow_succ];omega⟩
  ·obtain ⟨h1,h2⟩:=ih hy
   exact ⟨by rw [ihOf_low (testBit_hi h2)];exact h1,by rw [List.length_cons,Nat.pow_succ];omega⟩
 | @loud E W x hE hm hi _ ih =>
  intro i y hy
  simp only [atE] at hy
  split at hy
  ·cases hy
   exact ⟨by rw [ihOf_low (testBit_hi hm)];exact hi,by rw [List.length_cons,Nat.pow_succ];omega⟩
  ·obtain ⟨h1,h2⟩:=ih hy
   exact ⟨by rw [ihOf_low (testBit_hi h2)];exact h1,by rw [List.length_cons,Nat.pow_succ];omega⟩
theorem relW_loud {h : Tr Blk} {E : List DE} {W : List WE} (hr : RelW h E W) : ∀ {i : Nat} {y : DE},atE E i = some y→y.lg = []∨(⟨i,y.hp,y.lg,y.ih⟩ : WE) ∈ W:=by
 induction hr with
 | nil=>intro i y hy;cases hy
 | @quiet E W x hE hl hm hi ih =>
  intro i y hy
  simp only [atE] at hy
  split at hy
  ·cases hy;exact .inl hl
  ·exact ih hy
 | @loud E W x hE hm hi _ ih =>
  intro i y hy
  simp only [atE] at hy
  split at hy
  ·rename_i e;cases hy;subst e;exact .inr (List.mem_cons_self ..)
  ·rcases ih hy with h1 | h1
   ·exact .inl h1
   ·exact .inr (List.mem_cons_of_mem _ h1)
noncomputable def noneIn (t : Tr Blk) (L : List Nat) : Bool:=List.rec (motive:=fun _=>Bool) true (fun n _ ih=>Option.rec (motive:=fun _=>Bool) ih (fun _=>false) (getH (pathOf n) t)) L
theorem noneIn_ok {t : Tr Blk} : ∀ {L : List Nat},noneIn t L = true→L.all (fun n=>(t.get n).isNone) = true
 | [],_=>rfl
 | n :: L,h=>by
  have h : (Option.rec (motive:=fun _=>Bool) (noneIn t L) (fun _=>false) (t.get n) : Bool) = true:=by
   have h : (Option.rec (motive:=fun _=>Bool) (noneIn t L) (fun _=>false) (getH (pathOf n) t) : Bool) = true:=h
   rw [getH_eq] at h;exact h
  cases hg : t.get n with
  | some b=>rw [hg] at h;cases h
  | none=>rw [hg] at h;simp only [List.all_cons,hg,Option.isNone_none,Bool.true_and];exact noneIn_ok h
noncomputable def chkQ (m : Nat) (ih : Tr Blk) (W : List WE) : Bool:=
 List.rec (motive:=fun _=>Bool) true (fun y _ r=>bo (m.testBit y.pos) r (bo (noneIn ih y.lg) r false)) W
theorem chkQ_ok {m : Nat} {ih : Tr Blk} : ∀ {W : List WE},chkQ m ih W = true→∀ y ∈ W,m.testBit y.pos = false→y.lg.all (fun n=>(ih.get n).isNone) = true
 | [],_,y,hy,_=>by cases hy
 | z :: W,h,y,hy,hb=>by
  have h : bo (m.testBit z.pos) (chkQ m ih W) (bo (noneIn ih z.lg) (chkQ m ih W) false) = true:=h
  rw [bo_eq,bo_eq] at h
  rcases List.mem_cons.1 hy with rfl | hy
  ·rw [if_neg (by rw [hb];simp)] at h
   split at h
   ·rename_i h1;exact noneIn_ok h1
   ·cases h
  ·refine chkQ_ok (W:=W) ?_ y hy hb
   split at h
   ·exact h
   ·split at h
    ·exact h
    ·cases h
noncomputable def chkL (m : Nat) (lg : List Nat) (W : List WE) : Bool:=
 List.rec (motive:=fun _=>Bool) true (fun y _ r=>bo (m.testBit y.pos) r (bo (y.lg.all fun n=>!lg.contains n) r false)) W
theorem chkL_ok {m : Nat} {lg : List Nat} : ∀ {W : List WE},chkL m lg W = true→∀ y ∈ W,m.testBit y.pos = false→(y.lg.all fun n=>!lg.contains n) = true
 | [],_,y,hy,_=>by cases hy
 | z :: W,h,y,hy,hb=>by
  have h : bo (m.testBit z.pos) (chkL m lg W) (bo (z.lg.all fun n=>!lg.contains n) (chkL m lg W) false) = true:=h
  rw [bo_eq,bo_eq] at h
  rcases List.mem_cons.1 hy with rfl | hy
  ·rw [if_neg (by rw [hb];simp)] at h
   split at h
   ·rename_i h1;exact h1
   ·cases h
  ·refine chkL_ok (W:=W) ?_ y hy hb
   split at h
   ·exact h
   ·split at h
    ·exact h
    ·cases h
noncomputable def chkU (h : Tr Blk) (W : List WE) (lg : List Nat) (un : List Nat) : Bool:=
 List.rec (motive:=fun _=>Bool) true (fun m _ r=>bo (noneIn (foldW m h W) lg) r false) un
theorem chkU_ok {h : Tr Blk} {W : List WE} {lg : List Nat} : ∀ {un : List Nat},chkU h W lg un = true→∀ m ∈ un,lg.all (fun n=>((foldW m h W).get n).isNone) = true
 | [],_,m,hm=>by cases hm
 | z :: un,hc,m,hm=>by
  have hc : bo (noneIn (foldW z h W) lg) (chkU h W lg un) false = true:=hc
  rw [bo_eq] at hc
  split at hc
  ·rename_i h1
   rcases List.mem_cons.1 hm with rfl | hm
   ·exact noneIn_ok h1
   ·exact chkU_ok hc m hm
  ·cases hc
def unOf (m : Nat) : List (Oper × Nat)→List Nat
 | []=>[]
 | y :: r=>if m.testBit r.length || qt y.1 then unOf m r else if (unOf m r).contains y.2 then unOf m r else y.2 :: unOf m r
theorem unOf_mem {m : Nat} : ∀ {R : List (Oper × Nat)} {i : Nat} {y : Oper × Nat},atR R i = some y→m.testBit i = false→qt y.1 = false→y.2 ∈ unOf m R
 | [],_,_,h,_,_=>by cases h
 | z :: R,i,y,h,hb,hqy=>by
  simp only [atR] at h
  simp only [unOf]
  split at h
  ·rename_i e;cases h;subst e
   rw [if_neg (by rw [hb,hqy];simp)]
   split
   ·rename_i hc;simpa using hc
   ·exact List.mem_cons_self ..
  ·have:=unOf_mem (m:=m) h hb hqy
   split
   ·exact this
   ·split
    ·exact this
    ·exact List.mem_cons_of_mem _ this
theorem dyns_of {x : DE} : ∀ {E : List DE},(∀ i y,atE E i = some y→x.m.testBit i = false→dynB x y = true)→dynsB x E = true
 | [],_=>rfl
 | z :: E,h=>by
  simp only [dynsB,Bool.and_eq_true,Bool.or_eq_true]
  refine ⟨?_,dyns_of fun i y hy hb=>h i y ?_ hb⟩
  ·cases hb : x.m.testBit E.length with
   | true=>exact .inl rfl
   | false=>exact .inr (h _ z (by simp [atE]) hb)
  ·simp only [atE];rw [if_neg (by have:=atE_lt hy;omega)];exact hy
theorem dynB_of {x y : DE} (h1 : x.lg.all (fun n=>(y.ih.get n).isNone) = true) (h2 : y.lg.all (fun n=>(x.ih.get n).isNone) = true) (h3 : y.lg.all (fun n=>!x.lg.contains n) = true) : dynB x y = true:=by
 unfold dynB
 split
 ·rfl
 ·rw [h1,h2,h3];rfl
structure DOp where
 gd : Gd
 d : Ds
 b : OpC
 m : Nat
 pos : Nat
 un : List Nat
noncomputable def cArgM (gs locs L : List Tmp) : Operand→Option Ar
 | .tmp i=>if L.contains i then cArg gs locs (.tmp i) else none
 | x=>cArg gs locs x
theorem cArgM_ok {nt : Nat} {gs locs L : List Tmp} {tm : List AV} {e : Ev} (hr : RelE nt gs locs tm e) {x : Operand} {a : Ar} (h : cArgM gs locs L x = some a) : argM L tm x = some (a.val e):=by
 cases x with
 | tmp i =>
  simp only [cArgM] at h
  simp only [argM]
  split at h
  ·rename_i hc;rw [if_pos hc];exact cArg_ok hr h
  ·cases h
 | _=>exact cArg_ok hr (by simpa only [cArgM] using h)
noncomputable def cDrawGo (P : Program) (nt : Nat) (gs : List Tmp) (ops : Array Oper) : List (Oper × Nat × List Tmp)→List (Oper × Nat)→List Tmp→Option (List DOp)
 | [],_,_=>some []
 | (o,m,L) :: l,Q,locs=>(cGd gs locs ops o).bind fun gd=>(cDs nt gs o).bind fun d=>if m < 2 ^ Q.length then
  (cDrawGo P nt gs ops l ((o,m) :: Q) (nextL gs locs o)).map (⟨gd,d,cOp P (cArgM gs locs L) o,m,Q.length,unOf m Q⟩ :: ·) else none
def g0 : Aux:=⟨[],.no,some 0⟩
abbrev KD:=Ev→List WE→Nat→R
abbrev DX:=Cx→Tr Blk→Ev→List WE→Nat→KD→R
noncomputable def drawStep (x : DOp) : DX:=
 DOp.rec (motive:=fun _=>DX) (fun gd d b m pos un c h t W n next =>
  gd.run t
   (runX b ⟨c.P,c.call,fun _ _ _=>none⟩ t ⟨g0,⟨foldW m h W,n,[]⟩⟩
    (fun v σ=>St.rec (motive:=fun _=>R) (fun hp nx lg =>
     List.rec (motive:=fun _=>R) (bo (chkQ m (foldW m h W) W) (d.run v t fun t=>next t W nx) none)
      (fun _ _ _=>bo (chkQ m (foldW m h W) W) (bo (chkL m lg W) (bo (chkU h W lg un) (d.run v t fun t=>next t (⟨pos,hp,lg,foldW m h W⟩ :: W) nx) none) none) none) lg) σ.s))
   (bo (chkQ m (foldW m h W) W) (d.run (.tup []) t fun t=>next t W n) none)) x
noncomputable def drawGo (l : List DOp) : DX:=
 List.rec (motive:=fun _=>DX) (fun _ _ t W n k=>k t W n)
  (fun x _ ih c h t W n k=>drawStep x c h t W n fun t W n=>ih c h t W n k) l
theorem opX_dfr {call : CallF} {o : Oper} {α : Operand→Option AV} {rc : RC} {s s1 : St} {l : Nat} {x : OR} (h : opX P call o α (some l) rc s = some (x,s1)) : (∃ v,x = .put v)∨(∃ v,x = .pan v):=by
 unfold opX at h
 split at h
 ·cases h;exact .inl ⟨_,rfl⟩
 ·split at h
  ·cases h;exact .inl ⟨_,rfl⟩
  ·split at h
   ·cases h
   ·split at h
    ·simp only [Option.map_eq_some_iff,Prod.mk.injEq] at h
     obtain ⟨⟨r,_⟩,_,h,_⟩:=h
     subst h
     cases r
     ·exact .inl ⟨_,rfl⟩
     ·exact .inr ⟨_,rfl⟩
    ·simp only [Option.map_eq_some_iff,Prod.mk.injEq] at h
     obtain ⟨v,_,h,_⟩:=h
     exact .inl ⟨v,h.symm⟩
   ·simp only [Option.bind_eq_some_iff] at h
    obtain ⟨v,_,h⟩:=h
    split at h
    ·cases h;exact .inr ⟨_,rfl⟩
    ·cases h
   ·cases h
   ·cases h
theorem opX_qt {call : CallF} {o : Oper} {α : Operand→Option AV} {rc : RC} {s s1 : St} {l : Nat} {v : AV} (hq : qt o = true) (h : opX P call o α (some l) rc s = some (.put v,s1)) : s1 = s∧∀ s',opX P call o α (some l) rc s' = some (.put v,s'):=by
 unfold qt at hq
 split at hq
 case h_2=>cases hq
 rename_i x ho
 unfold opX at h ⊢
 cases hx : pureOp P o α with
 | some u=>simp only [hx,Option.some.injEq,Prod.mk.injEq,OR.put.injEq] at h ⊢;obtain ⟨rfl,rfl⟩:=h;exact ⟨rfl,by simp⟩
 | none =>
  have hh : heapOp P o α s = none:=by unfold heapOp;simp only [ho]
  simp only [hx,hh,ho] at h
  cases h
theorem drawStep_ok {callF call : CallF} (hc : CLe callF call) {nt : Nat} {gs locs : List Tmp} {ops : Array Oper} {h : Tr Blk} {o : Oper} {m : Nat} {L : List Tmp} {gd : Gd} {d : Ds} {E : List DE} {W : List WE} (hgd : cGd gs locs ops o = some gd) (hd : cDs nt gs o = some d)
 {tm : List AV} {t : Ev} (hre : RelE nt gs locs tm t) (hr : RelW h E W) (hm : m < 2 ^ E.length) {kx : KX} {next : KD} {c : Nat} {r : Rt × St}
 (hx : drawStep ⟨gd,d,cOp P (cArgM gs locs L) o,m,E.length,unOf m (E.map pr)⟩ ⟨P,callF,kx⟩ h t W c next = some r) :
 ∃ x t1 W1,stepDE P call ops h o m L tm E c = some x∧RelE nt gs (nextL gs locs o) (putA x.o.dst x.v tm) t1∧RelW h (x :: E) W1∧pr x = (o,m)∧c≤x.c'∧next t1 W1 x.c' = some r:=by
 have hx : gd.run t
  (runX (cOp P (cArgM gs locs L) o) ⟨P,callF,fun _ _ _=>none⟩ t ⟨g0,⟨foldW m h W,c,[]⟩⟩
   (fun v σ=>St.rec (motive:=fun _=>R) (fun hp nx lg =>
    List.rec (motive:=fun _=>R) (bo (chkQ m (foldW m h W) W) (d.run v t fun t=>next t W nx) none)
     (fun _ _ _=>bo (chkQ m (foldW m h W) W) (bo (chkL m lg W) (bo (chkU h W lg (unOf m (E.map pr))) (d.run v t fun t=>next t (⟨E.length,hp,lg,foldW m h W⟩ :: W) nx) none) none) none) lg) σ.s))
  (bo (chkQ m (foldW m h W) W) (d.run (.tup []) t fun t=>next t W c) none) = some r:=hx
 have hfold:=relW_fold hr m
 have quiet : ∀ x : DE,x.m = m→x.lg = []→x.ih = ihOf x.o m h E→chkQ m (foldW m h W) W = true→dynsB x E = true:=by
  intro x e1 e2 e3 hq
  refine dyns_of fun i y hy hb=>?_
  rw [e1] at hb
  rcases relW_loud hr hy with hl | hl
  ·unfold dynB;rw [e2,hl]
  ·refine dynB_of (by rw [e2];rfl) ?_ ?_
   ·rw [e3]
    unfold ihOf
    split
    ·simp [Tr.get,T4.get_leaf]
    ·rw [hfold];exact chkQ_ok hq _ hl hb
   ·rw [e2];simp
 rcases gd_some hgd hre hx with ⟨hw,hx⟩ | ⟨hw,hx⟩
 ·obtain ⟨x,s1,h1,h2,h3⟩:=cOp_ok (o:=o) (cA:=cArgM gs locs L) hc (fun _ _ _=>none) t (argM L tm) g0 ⟨foldW m h W,c,[]⟩ _ r (fun h=>cArgM_ok hre h) (fun _=>rfl) hx
  rcases opX_dfr h1 with ⟨v,rfl⟩ | ⟨v,rfl⟩
  case inr=>cases h3
  obtain ⟨hp,nx,lg⟩:=s1
  have h2 : c≤nx:=h2
  cases hq : qt o with
  | true =>
   obtain ⟨e1,e2⟩:=opX_qt hq (show opX P call o (argM L tm) (some 0) .no ⟨foldW m h W,c,[]⟩ = some (.put v,⟨hp,nx,lg⟩) from h1)
   cases e1
   obtain ⟨q1,q2⟩:=bo_some (show bo (chkQ m (foldW m h W) W) (d.run v t fun t=>next t W c) none = some r from h3)
   obtain ⟨t1,q3,q4⟩:=ds_some hd hre q2
   refine ⟨⟨o,m,v,ihOf o m h E,[],c,c,ihOf o m h E⟩,t1,W,?_,q3,.quiet _ hr rfl hm rfl,rfl,Nat.le_refl _,q4⟩
   unfold stepDE
   rw [if_pos hw,e2]
   simp only [Nat.le_refl,true_and,implies_true,if_true,Option.bind_some]
   rw [if_pos (quiet _ rfl rfl rfl q1)]
  | false =>
  have hio : ihOf o m h E = foldH m.testBit h E:=by unfold ihOf;rw [hq];rfl
  have hs : ∀ {b : Bool},dynsB ⟨o,m,v,hp,lg,c,nx,foldH m.testBit h E⟩ E = true→stepDE P call ops h o m L tm E c = some ⟨o,m,v,hp,lg,c,nx,foldH m.testBit h E⟩:=by
   intro _ hd
   unfold stepDE
   rw [if_pos hw,hio,hfold]
   have h1 : opX P call o (argM L tm) (some 0) .no ⟨foldW m h W,c,[]⟩ = some (.put v,⟨hp,nx,lg⟩):=h1
   rw [h1]
   simp only [h2,hq,Bool.false_eq_true,false_implies,and_self,if_true,Option.bind_some]
   rw [hfold] at hd
   rw [if_pos hd]
  cases lg with
  | nil =>
   obtain ⟨q1,q2⟩:=bo_some (show bo (chkQ m (foldW m h W) W) (d.run v t fun t=>next t W nx) none = some r from h3)
   obtain ⟨t1,q3,q4⟩:=ds_some hd hre q2
   exact ⟨_,t1,W,hs (b:=true) (quiet _ rfl rfl hio.symm q1),q3,.quiet _ hr rfl hm hio.symm,rfl,h2,q4⟩
  | cons n lg =>
   obtain ⟨q1,q2⟩:=bo_some (show bo (chkQ m (foldW m h W) W) (bo (chkL m (n :: lg) W) (bo (chkU h W (n :: lg) (unOf m (E.map pr))) (d.run v t fun t=>next t (⟨E.length,hp,n :: lg,foldW m h W⟩ :: W) nx) none) none) none = some r from h3)
   obtain ⟨q3,q4⟩:=bo_some q2
   obtain ⟨q5,q6⟩:=bo_some q4
   obtain ⟨t1,q7,q8⟩:=ds_some hd hre q6
   refine ⟨_,t1,⟨E.length,hp,n :: lg,foldH m.testBit h E⟩ :: W,hs (b:=true) (dyns_of fun i y hy hb=>?_),q7,.loud ⟨o,m,v,hp,n :: lg,c,nx,foldH m.testBit h E⟩ hr hm hio.symm hq,rfl,h2,by rw [hfold];exact q8⟩
   have hb : m.testBit i = false:=hb
   have hyi:=relW_ih hr hy
   have a1 : (n :: lg).all (fun n=>(y.ih.get n).isNone) = true:=by
    cases hqy : qt y.o with
    | true=>rw [hyi.1,ihOf,if_pos hqy];simp [Tr.get,T4.get_leaf]
    | false =>
     have hmem : y.m ∈ unOf m (E.map pr):=unOf_mem (y:=pr y) (by rw [atR_map,hy];rfl) hb hqy
     rw [hyi.1,ihOf,hqy]
     simp only [Bool.false_eq_true,if_false]
     rw [relW_fold hr];exact chkU_ok q5 _ hmem
   rcases relW_loud hr hy with hl | hl
   ·exact dynB_of a1 (by rw [hl];rfl) (by rw [hl];rfl)
   ·exact dynB_of a1 (by show y.lg.all (fun n=>((foldH m.testBit h E).get n).isNone) = true;rw [hfold];exact chkQ_ok q1 _ hl hb) (chkL_ok q3 _ hl hb)
 ·obtain ⟨q1,q2⟩:=bo_some hx
  obtain ⟨t1,q3,q4⟩:=ds_some hd hre q2
  refine ⟨⟨o,m,.tup [],ihOf o m h E,[],c,c,ihOf o m h E⟩,t1,W,?_,q3,.quiet _ hr rfl hm rfl,rfl,Nat.le_refl _,q4⟩
  unfold stepDE
  rw [if_neg (by rw [hw];simp)]
  simp only [Option.bind_some]
  rw [if_pos (quiet _ rfl rfl rfl q1)]
theorem drawGo_ok {callF call : CallF} (hc : CLe callF call) {nt : Nat} {gs : List Tmp} {kx : KX} {ops : Array Oper} {h : Tr Blk} : ∀ {l : List (Oper × Nat × List Tmp)} {dl : List DOp} {locs : List Tmp} {E : List DE} {W : List WE} {tm : List AV} {t : Ev} {c : Nat} {k : KD} {r : Rt × St},
 cDrawGo P nt gs ops l (E.map pr) locs = some dl→RelE nt gs locs tm t→RelW h E W→drawGo dl ⟨P,callF,kx⟩ h t W c k = some r→
 ∃ E1 tm1 locs1 t1 W1 c1,evDrawL P call ops h l tm E c = some (E1,tm1,c1)∧RelE nt gs locs1 tm1 t1∧RelW h E1 W1∧c≤c1∧k t1 W1 c1 = some r
 | [],dl,locs,E,W,tm,t,c,k,r,hd,hre,hr,hx=>by
  cases hd;exact ⟨E,tm,locs,t,W,c,rfl,hre,hr,Nat.le_refl _,hx⟩
 | (o,m,L) :: l,dl,locs,E,W,tm,t,c,k,r,hd,hre,hr,hx=>by
  simp only [cDrawGo,Option.bind_eq_some_iff] at hd
  obtain ⟨gd,h1,d,h2,hd⟩:=hd
  split at hd
  case isFalse=>cases hd
  rename_i hm
  simp only [Option.map_eq_some_iff,List.length_map] at hd hm
  obtain ⟨dl1,h3,rfl⟩:=hd
  obtain ⟨x,t1,W1,q1,q2,q3,q4,q5,q6⟩:=drawStep_ok hc h1 h2 hre hr hm (show drawStep ⟨gd,d,cOp P (cArgM gs locs L) o,m,E.length,unOf m (E.map pr)⟩ ⟨P,callF,kx⟩ h t W c (fun t W c=>drawGo dl1 ⟨P,callF,kx⟩ h t W c k) = some r from hx)
  obtain ⟨E2,tm2,locs2,t2,W2,c2,z1,z0,z2,z3,z4⟩:=drawGo_ok hc (l:=l) (dl:=dl1) (E:=x :: E) (by rw [List.map_cons,q4];exact h3) q2 q3 q6
  exact ⟨E2,tm2,locs2,t2,W2,c2,by simp only [evDrawL,q1,Option.bind_some];exact z1,z0,z2,Nat.le_trans q5 z3,z4⟩
noncomputable def cDraw (P : Program) (nt : Nat) (gs : List Tmp) (ops : Array Oper) : Option (List DOp):=
 if P.follows .mixedOrders then (infoGo ops ops.toList []).bind fun inf=>cDrawGo P nt gs ops inf [] [] else none
noncomputable def drawRun (l : List DOp) : EX:=fun c e σ kn =>
 inS σ fun h nx lg up=>drawGo l c h e [] nx fun e W n=>heapW W h fun h=>kn e (up h n (logW W lg))
theorem drawRun_ok {callF call : CallF} (hc : CLe callF call) {nt : Nat} {gs : List Tmp} {kx : KX} {ops : Array Oper} {l : List DOp} (hl : cDraw P nt gs ops = some l) {tm : List AV} {t : Ev} (hre : RelE nt gs [] tm t) {g : Aux} {s : St} {kn : KE} {r : Rt × St} (h : drawRun l ⟨P,callF,kx⟩ t ⟨g,s⟩ kn = some r) :
 ∃ tm1 locs1 t1 s1,P.follows .mixedOrders = true∧evDraw P call ops (frOf tm g) s = some (frOf tm1 g,s1)∧RelE nt gs locs1 tm1 t1∧s.next≤s1.next∧kn t1 ⟨g,s1⟩ = some r:=by
 unfold cDraw at hl
 split at hl
 case isFalse=>cases hl
 rename_i hf
 simp only [Option.bind_eq_some_iff] at hl
 obtain ⟨inf,h1,h2⟩:=hl
 obtain ⟨hp,nx,lg⟩:=s
 obtain ⟨E1,tm1,locs1,t1,W1,c1,q1,q0,q2,q3,q4⟩:=drawGo_ok hc (E:=[]) h2 hre .nil (show drawGo l ⟨P,callF,kx⟩ hp t [] nx (fun t W c=>heapW W hp fun h=>kn t ⟨g,⟨h,c,logW W lg⟩⟩) = some r from h)
 rw [relW_heap q2,relW_log q2] at q4
 refine ⟨tm1,locs1,t1,_,hf,?_,q0,q3,q4⟩
 simp only [evDraw,h1,Option.bind_some]
 rw [show (frOf tm g).tm = tm from rfl,q1]
 rfl
end Go.Abs
namespace Go.Abs
variable {P : Program}
inductive KC where
 | skip
 | exit (id : Nat)
 | ret
 | ops (l : List CO)
 | draw (l : List DOp)
 | seq (a b : KC)
 | cond (x : Ar) (a b : KC)
 | block (id : Nat) (a : KC)
 | scope (a : KC)
 | loop (a : KC)
 | rangeF (x : Ar) (nt : Nat) (gs : List Tmp) (ps : Array Tmp) (aas bd : Code)
 | bad
def fullG (nt : Nat) (gs : List Tmp) : Bool:=(List.range nt).all fun i=>(idxT gs i).isSome
noncomputable def comp (P : Program) (nt : Nat) (gs : List Tmp) : Code→KC
 | .skip | .label _=>.skip
 | .exit id=>.exit id
 | .ret=>.ret
 | .region _ ops false=>.ops (cOps P nt gs ops ops.toList [])
 | .region _ ops true=>match cDraw P nt gs ops with | some l=>.draw l | none=>.bad
 | .seq a b=>.seq (comp P nt gs a) (comp P nt gs b)
 | .cond c a b=>match cArg gs [] c with | some x=>.cond x (comp P nt gs a) (comp P nt gs b) | none=>.bad
 | .block id a=>.block id (comp P nt gs a)
 | .scope a=>.scope (comp P nt gs a)
 | .loop a=>.loop (comp P nt gs a)
 | .rangeFunc g ps aas bd=>if fullG nt gs then match cArg gs [] g with | some x=>.rangeF x nt gs ps aas bd | none=>.bad else .bad
 | _=>.bad
noncomputable def toLG (nt : Nat) (gs : List Tmp) (t : FT) : List AV:=(List.range nt).map fun i=>match idxT gs i with | some j=>T4.get (.tup []) (pathOf j) t | none=>.tup []
abbrev RelF (nt : Nat) (gs : List Tmp) (tm : List AV) (t : FT) : Prop:=RelE nt gs [] tm ⟨[],t⟩
theorem RelE.forget {nt : Nat} {gs locs : List Tmp} {tm : List AV} {e : Ev} (h : RelE nt gs locs tm e) : RelF nt gs tm e.t:=⟨h.len,h.gl,fun _ _ h=>by cases h⟩
theorem toLG_eq {nt : Nat} {gs : List Tmp} {tm : List AV} {t : FT} (h : RelF nt gs tm t) (hf : fullG nt gs = true) : tm = toLG nt gs t:=by
 apply List.ext_getElem?
 intro i
 by_cases hi : i < nt
 ·simp only [fullG,List.all_eq_true,List.mem_range] at hf
  obtain ⟨j,hj⟩:=Option.isSome_iff_exists.1 (hf i hi)
  rw [h.gl i j hj]
  simp [toLG,hi,hj]
 ·rw [List.getElem?_eq_none (by rw [h.len];omega),List.getElem?_eq_none (by simp [toLG];omega)]
noncomputable def exK (x : Ex) (kn : KT) (kx : KX) : KT:=Ex.rec (motive:=fun _=>KT) kn (fun id=>kx (.exit id)) (kx .ret) (fun v=>kx (.pan v)) x
noncomputable def rangeRun (x : Ar) (nt : Nat) (gs : List Tmp) (ps : Array Tmp) (aas bd : Code) : OX:=fun c t σ kn =>
 match x.val ⟨[],t⟩ with
 | .func f first cap=>bo (enterable c.P f) (ob (enterA (frOf (toLG nt gs t) σ.g) ps aas bd σ.s) fun q=>ob (c.call (.fn f) (first ++ [.yld q.1] ++ cap) q.2.2) fun r =>
  bo (Nat.ble q.2.2.next r.2.next) (bo (Nat.ble σ.s.next r.2.next)
   (match r.1 with
   | .pan v=>c.kx (.pan v) t ⟨⟨q.2.1.df,q.2.1.rc,q.2.1.ro⟩,r.2⟩
   | .ret _=>ob (leaveLoopA q.1 r.2) fun y=>bo (Nat.ble σ.s.next y.2.next) (exK y.1 kn c.kx t ⟨⟨q.2.1.df,q.2.1.rc,q.2.1.ro⟩,y.2⟩) none) none) none) none
 | _=>none
noncomputable def blockX (id : Nat) (c : Cx) (kn : KT) : Cx:=
 Cx.rec (motive:=fun _=>Cx) (fun P call kx=>⟨P,call,fun x t σ=>Ex.rec (motive:=fun _=>R) none (fun j=>bo (Nat.beq j id) (kn t σ) (kx (.exit j) t σ)) (kx .ret t σ) (fun v=>kx (.pan v) t σ) x⟩) c
noncomputable def runKX (n : Nat) : KC→OX:=
 Nat.rec (motive:=fun _=>KC→OX) (fun _ _ _ _ _=>none) (fun _ ih c =>
  KC.rec (motive:=fun _=>(KC→OX)→OX)
   (fun _ _ t σ kn=>kn t σ)
   (fun id _ c t σ _=>c.kx (.exit id) t σ)
   (fun _ c t σ _=>c.kx .ret t σ)
   (fun l _ c t σ kn=>runOX l c ⟨[],t⟩ σ fun e σ=>Ev.rec (motive:=fun _=>R) (fun _ t=>kn t σ) e)
   (fun l _ c t σ kn=>drawRun l c ⟨[],t⟩ σ fun e σ=>Ev.rec (motive:=fun _=>R) (fun _ t=>kn t σ) e)
   (fun a b _ _ ih c t σ kn=>ih a c t σ fun t σ=>ih b c t σ kn)
   (fun x a b _ _ ih c t σ kn=>(x.val ⟨[],t⟩).onBool (ih b c t σ kn) (ih a c t σ kn) none)
   (fun id a _ ih c t σ kn=>ih a (blockX id c kn) t σ kn)
   (fun a _ ih=>ih a)
   (fun a _ ih c t σ kn=>ih a c t σ fun t σ=>ih (.loop a) c t σ kn)
   (fun x nt gs ps aas bd _=>rangeRun x nt gs ps aas bd)
   (fun _ _ _ _ _=>none) c ih) n
theorem runK_ok {callF call : CallF} (hc : CLe callF call) {nt : Nat} {gs : List Tmp} : ∀ (n : Nat) (c : Code) {t : FT} {tm : List AV} {g : Aux} {s : St} {kn : KT} {kx : KX} {r : Rt × St},RelF nt gs tm t→runKX n (comp P nt gs c) ⟨P,callF,kx⟩ t ⟨g,s⟩ kn = some r→
 ∃ x tm1 t1 g1 s1,evCode P call n c (frOf tm g) s = some (x,frOf tm1 g1,s1)∧RelF nt gs tm1 t1∧s.next≤s1.next∧exK x kn kx t1 ⟨g1,s1⟩ = some r
 | 0,c,t,tm,g,s,kn,kx,r,hre,h=>by cases h
 | n + 1,c,t,tm,g,s,kn,kx,r,hre,h=>by
  have ih:=@runK_ok callF call hc nt gs n
  cases c with
  | skip=>exact ⟨.norm,tm,t,g,s,rfl,hre,Nat.le_refl _,h⟩
  | label l=>exact ⟨.norm,tm,t,g,s,rfl,hre,Nat.le_refl _,h⟩
  | exit id=>exact ⟨.exit id,tm,t,g,s,rfl,hre,Nat.le_refl _,h⟩
  | ret=>exact ⟨.ret,tm,t,g,s,rfl,hre,Nat.le_refl _,h⟩
  | region id ops d =>
   cases d with
   | false =>
    obtain ⟨x,tm1,locs1,e1,g1,s1,h1,h2,h3,h4⟩:=runOps_ok hc hre (show runOX (cOps P nt gs ops ops.toList []) ⟨P,callF,kx⟩ ⟨[],t⟩ ⟨g,s⟩ (fun e σ=>Ev.rec (motive:=fun _=>R) (fun _ t=>kn t σ) e) = some r from h)
    cases x with
    | none=>exact ⟨.norm,tm1,e1.t,g1,s1,by simp only [evCode,h1,Option.map_some],h3.forget,h2,h4⟩
    | some v=>exact ⟨.pan v,tm1,e1.t,g1,s1,by simp only [evCode,h1,Option.map_some],h3.forget,h2,h4⟩
   | true =>
    simp only [comp] at h
    split at h
    case h_2=>cases h
    rename_i l hl
    obtain ⟨tm1,locs1,e1,s1,h0,h1,h2,h3,h4⟩:=drawRun_ok hc hl hre (show drawRun l ⟨P,callF,kx⟩ ⟨[],t⟩ ⟨g,s⟩ (fun e σ=>Ev.rec (motive:=fun _=>R) (fun _ t=>kn t σ) e) = some r from h)
    exact ⟨.norm,tm1,e1.t,g,s1,by simp only [evCode,h0,if_true,h1,Option.map_some],h2.forget,h3,h4⟩
  | seq a b =>
   obtain ⟨x,tm1,t1,g1,s1,h1,hr1,h2,h3⟩:=ih a hre (show runKX n (comp P nt gs a) ⟨P,callF,kx⟩ t ⟨g,s⟩ (fun t σ=>runKX n (comp P nt gs b) ⟨P,callF,kx⟩ t σ kn) = some r from h)
   cases x with
   | norm =>
    obtain ⟨y,tm2,t2,g2,s2,h4,hr2,h5,h6⟩:=ih b hr1 h3
    exact ⟨y,tm2,t2,g2,s2,by simp only [evCode,h1,Option.bind_some,h4,if_pos h5],hr2,Nat.le_trans h2 h5,h6⟩
   | exit id=>exact ⟨.exit id,tm1,t1,g1,s1,by simp only [evCode,h1,Option.bind_some],hr1,h2,h3⟩
   | ret=>exact ⟨.ret,tm1,t1,g1,s1,by simp only [evCode,h1,Option.bind_some],hr1,h2,h3⟩
   | pan v=>exact ⟨.pan v,tm1,t1,g1,s1,by simp only [evCode,h1,Option.bind_some],hr1,h2,h3⟩
  | cond c a b =>
   simp only [comp] at h
   split at h
   case h_2=>cases h
   rename_i x hx
   have harg : arg (frOf tm g).tm c = some (x.val ⟨[],t⟩):=cArg_ok hre hx
   rcases onBool_some (show (x.val ⟨[],t⟩).onBool (runKX n (comp P nt gs b) ⟨P,callF,kx⟩ t ⟨g,s⟩ kn) (runKX n (comp P nt gs a) ⟨P,callF,kx⟩ t ⟨g,s⟩ kn) none = some r from h) with ⟨hv,h⟩ | ⟨hv,h⟩ | ⟨_,h⟩
   ·obtain ⟨y,tm2,t2,g2,s2,h4,hr2,h5,h6⟩:=ih b hre h
    exact ⟨y,tm2,t2,g2,s2,by simp only [evCode,harg,hv,Option.bind_some,Bool.false_eq_true,if_false];exact h4,hr2,h5,h6⟩
   ·obtain ⟨y,tm2,t2,g2,s2,h4,hr2,h5,h6⟩:=ih a hre h
    exact ⟨y,tm2,t2,g2,s2,by simp only [evCode,harg,hv,Option.bind_some,if_true];exact h4,hr2,h5,h6⟩
   ·cases h
  | block id a =>
   obtain ⟨x,tm1,t1,g1,s1,h1,hr1,h2,h3⟩:=ih a hre (show runKX n (comp P nt gs a) ⟨P,callF,fun x t σ=>Ex.rec (motive:=fun _=>R) none (fun j=>bo (Nat.beq j id) (kn t σ) (kx (.exit j) t σ)) (kx .ret t σ) (fun v=>kx (.pan v) t σ) x⟩ t ⟨g,s⟩ kn = some r from h)
   cases x with
   | norm=>exact ⟨.norm,tm1,t1,g1,s1,by simp only [evCode,h1,Option.map_some],hr1,h2,h3⟩
   | exit j =>
    have h3 : bo (Nat.beq j id) (kn t1 ⟨g1,s1⟩) (kx (.exit j) t1 ⟨g1,s1⟩) = some r:=h3
    rcases boo h3 with ⟨hj,h3⟩ | ⟨hj,h3⟩
    ·have hj : j = id:=Nat.eq_of_beq_eq_true hj
     exact ⟨.norm,tm1,t1,g1,s1,by simp only [evCode,h1,Option.map_some,hj,if_true],hr1,h2,h3⟩
    ·have hj : j ≠ id:=Nat.ne_of_beq_eq_false hj
     exact ⟨.exit j,tm1,t1,g1,s1,by simp only [evCode,h1,Option.map_some,if_neg hj],hr1,h2,h3⟩
   | ret=>exact ⟨.ret,tm1,t1,g1,s1,by simp only [evCode,h1,Option.map_some],hr1,h2,h3⟩
   | pan v=>exact ⟨.pan v,tm1,t1,g1,s1,by simp only [evCode,h1,Option.map_some],hr1,h2,h3⟩
  | scope a =>
   obtain ⟨x,tm1,t1,g1,s1,h1,hr1,h2,h3⟩:=ih a hre (show runKX n (comp P nt gs a) ⟨P,callF,kx⟩ t ⟨g,s⟩ kn = some r from h)
   exact ⟨x,tm1,t1,g1,s1,by simp only [evCode];exact h1,hr1,h2,h3⟩
  | loop a =>
   obtain ⟨x,tm1,t1,g1,s1,h1,hr1,h2,h3⟩:=ih a hre (show runKX n (comp P nt gs a) ⟨P,callF,kx⟩ t ⟨g,s⟩ (fun t σ=>runKX n (comp P nt gs (.loop a)) ⟨P,callF,kx⟩ t σ kn) = some r from h)
   cases x with
   | norm =>
    obtain ⟨y,tm2,t2,g2,s2,h4,hr2,h5,h6⟩:=ih (.loop a) hr1 h3
    exact ⟨y,tm2,t2,g2,s2,by simp only [evCode,h1,Option.bind_some,h4,if_pos h5],hr2,Nat.le_trans h2 h5,h6⟩
   | exit id=>exact ⟨.exit id,tm1,t1,g1,s1,by simp only [evCode,h1,Option.bind_some],hr1,h2,h3⟩
   | ret=>exact ⟨.ret,tm1,t1,g1,s1,by simp only [evCode,h1,Option.bind_some],hr1,h2,h3⟩
   | pan v=>exact ⟨.pan v,tm1,t1,g1,s1,by simp only [evCode,h1,Option.bind_some],hr1,h2,h3⟩
  | rangeFunc f ps aas bd =>
   simp only [comp] at h
   split at h
   case isFalse=>cases h
   rename_i hfull
   split at h
   case h_2=>cases h
   rename_i x hx
   have h : rangeRun x nt gs ps aas bd ⟨P,callF,kx⟩ t ⟨g,s⟩ kn = some r:=h
   have harg : arg (frOf tm g).tm f = some (x.val ⟨[],t⟩):=cArg_ok hre hx
   unfold rangeRun at h
   rw [← toLG_eq hre hfull] at h
   split at h
   case h_2=>cases h
   rename_i fid first cap hv
   obtain ⟨h1,h⟩:=bo_some h
   obtain ⟨⟨l,fr1,s1⟩,h2,h⟩:=ob_some h
   obtain ⟨⟨rt,s2⟩,h3,h⟩:=ob_some h
   obtain ⟨h4,h⟩:=bo_some h
   obtain ⟨h5,h⟩:=bo_some h
   replace h3:=hc _ _ _ _ h3
   replace h4 : s1.next≤s2.next:=Nat.le_of_ble_eq_true h4
   replace h5 : s.next≤s2.next:=Nat.le_of_ble_eq_true h5
   have hfr : fr1 = frOf tm ⟨fr1.df,fr1.rc,fr1.ro⟩:=by
    unfold enterA at h2
    split at h2
    ·simp only [Option.some.injEq,Prod.mk.injEq] at h2
     obtain ⟨_,rfl,_⟩:=h2;rfl
    ·simp only [Option.map_eq_some_iff,Prod.mk.injEq] at h2
     obtain ⟨_,_,_,rfl,_⟩:=h2;rfl
   have hev : ∀ q,(match rt with | .pan v=>some (Ex.pan v,fr1,s2) | .ret _=>(leaveLoopA l s2).map fun y=>(y.1,fr1,y.2)) = some q→evCode P call (n + 1) (.rangeFunc f ps aas bd) (frOf tm g) s = some q:=by
    intro q hq
    rw [← hq]
    simp only [evCode]
    rw [harg,hv]
    simp only [Option.bind_some,h1,if_true,h2,h3,if_pos h4]
    cases rt<;>rfl
   cases rt with
   | pan v=>exact ⟨.pan v,tm,t,⟨fr1.df,fr1.rc,fr1.ro⟩,s2,by rw [hev _ rfl,← hfr],hre,h5,h⟩
   | ret v =>
    obtain ⟨⟨y,s3⟩,h6,h7⟩:=ob_some (show ob (leaveLoopA l s2) _ = some r from h)
    obtain ⟨h8,h9⟩:=bo_some h7
    refine ⟨y,tm,t,⟨fr1.df,fr1.rc,fr1.ro⟩,s3,?_,hre,Nat.le_of_ble_eq_true h8,h9⟩
    rw [hev (y,fr1,s3) (by simp only [h6,Option.map_some]),← hfr]
  | goto l=>cases h
  | refuse w=>cases h
end Go.Abs

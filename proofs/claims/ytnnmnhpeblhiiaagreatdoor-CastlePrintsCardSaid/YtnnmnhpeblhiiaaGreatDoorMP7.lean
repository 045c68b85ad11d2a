/- A part of the proof: a run of the program on abstract values, shown to be a run of the machine. -/
import Derived.Test.YtnnmnhpeblhiiaaGreatDoorMP6
set_option linter.unusedVariables false
set_option linter.unusedSimpArgs false
namespace Go.Abs
abbrev R:=Option (Rt × St)
noncomputable def AV.onInt (v : AV) : (IntKind→Int→R)→R→R:=
 AV.rec (motive_1:=fun _=>(IntKind→Int→R)→R→R) (motive_2:=fun _=>Unit)
  (fun a0 a1 f _=>f a0 a1)
  (fun _ _ d=>d)
  (fun _ _ d=>d)
  (fun _ _ _ d=>d)
  (fun _ d=>d)
  (fun _ _ _ _ _ d=>d)
  (fun _ _ _ d=>d)
  (fun _ d=>d)
  (fun _ _ _ _ _ _ d=>d)
  (fun _ _ d=>d)
  (fun _ d=>d)
  (fun _ _ _ _ d=>d)
  (fun _ d=>d)
  (fun _ _ d=>d)
  (fun _ d=>d)
  (fun _ _ _ d=>d)
  (fun _ _ _ d=>d)
  () (fun _ _ _ _=>()) v
noncomputable def AV.onBool (v : AV) : R→R→R→R:=
 AV.rec (motive_1:=fun _=>R→R→R→R) (motive_2:=fun _=>Unit)
  (fun _ _ _ _ d=>d)
  (fun a0 x y _=>Bool.rec (motive:=fun _=>R) x y a0)
  (fun _ _ _ d=>d)
  (fun _ _ _ _ d=>d)
  (fun _ _ d=>d)
  (fun _ _ _ _ _ _ d=>d)
  (fun _ _ _ _ d=>d)
  (fun _ _ d=>d)
  (fun _ _ _ _ _ _ _ d=>d)
  (fun _ _ _ d=>d)
  (fun _ _ d=>d)
  (fun _ _ _ _ _ d=>d)
  (fun _ _ d=>d)
  (fun _ _ _ d=>d)
  (fun _ _ d=>d)
  (fun _ _ _ _ d=>d)
  (fun _ _ _ _ d=>d)
  () (fun _ _ _ _=>()) v
noncomputable def AV.onPtr (v : AV) : (Nat→Nat→R)→R→R:=
 AV.rec (motive_1:=fun _=>(Nat→Nat→R)→R→R) (motive_2:=fun _=>Unit)
  (fun _ _ _ d=>d)
  (fun _ _ d=>d)
  (fun _ _ d=>d)
  (fun a0 a1 f _=>f a0 a1)
  (fun _ d=>d)
  (fun _ _ _ _ _ d=>d)
  (fun _ _ _ d=>d)
  (fun _ d=>d)
  (fun _ _ _ _ _ _ d=>d)
  (fun _ _ d=>d)
  (fun _ d=>d)
  (fun _ _ _ _ d=>d)
  (fun _ d=>d)
  (fun _ _ d=>d)
  (fun _ d=>d)
  (fun _ _ _ d=>d)
  (fun _ _ _ d=>d)
  () (fun _ _ _ _=>()) v
noncomputable def AV.onTup (v : AV) : (List AV→R)→R→R:=
 AV.rec (motive_1:=fun _=>(List AV→R)→R→R) (motive_2:=fun _=>Unit)
  (fun _ _ _ d=>d)
  (fun _ _ d=>d)
  (fun _ _ d=>d)
  (fun _ _ _ d=>d)
  (fun _ d=>d)
  (fun _ _ _ _ _ d=>d)
  (fun _ _ _ d=>d)
  (fun _ d=>d)
  (fun _ _ _ _ _ _ d=>d)
  (fun _ _ d=>d)
  (fun _ d=>d)
  (fun _ _ _ _ d=>d)
  (fun _ d=>d)
  (fun _ _ d=>d)
  (fun _ d=>d)
  (fun _ _ _ d=>d)
  (fun a0 _ f _=>f a0)
  () (fun _ _ _ _=>()) v
noncomputable def AV.onAgg (v : AV) : (List AV→R)→R→R:=
 AV.rec (motive_1:=fun _=>(List AV→R)→R→R) (motive_2:=fun _=>Unit)
  (fun _ _ _ d=>d)
  (fun _ _ d=>d)
  (fun _ _ d=>d)
  (fun _ _ _ d=>d)
  (fun _ d=>d)
  (fun _ _ _ _ _ d=>d)
  (fun _ _ _ d=>d)
  (fun _ d=>d)
  (fun _ _ _ _ _ _ d=>d)
  (fun _ _ d=>d)
  (fun _ d=>d)
  (fun _ _ _ _ d=>d)
  (fun _ d=>d)
  (fun _ _ d=>d)
  (fun _ d=>d)
  (fun a0 _ f _=>f a0)
  (fun _ _ _ d=>d)
  () (fun _ _ _ _=>()) v
noncomputable def AV.onSl (v : AV) : (Nat→Nat→Nat→R)→R→R→R:=
 AV.rec (motive_1:=fun _=>(Nat→Nat→Nat→R)→R→R→R) (motive_2:=fun _=>Unit)
  (fun _ _ _ _ d=>d)
  (fun _ _ _ d=>d)
  (fun _ _ _ d=>d)
  (fun _ _ _ _ d=>d)
  (fun _ _ d=>d)
  (fun a0 a1 a2 _ f _ _=>f a0 a1 a2)
  (fun a0 a1 f _ _=>f a0 0 a1)
  (fun _ e _=>e)
  (fun _ _ _ _ _ _ _ d=>d)
  (fun _ _ _ d=>d)
  (fun _ _ d=>d)
  (fun _ _ _ _ _ d=>d)
  (fun _ _ d=>d)
  (fun _ _ _ d=>d)
  (fun _ _ d=>d)
  (fun _ _ _ _ d=>d)
  (fun _ _ _ _ d=>d)
  () (fun _ _ _ _=>()) v
noncomputable def AV.cellsF (v : AV) : List AV:=
 AV.rec (motive_1:=fun _=>List AV) (motive_2:=fun _=>Unit)
  (fun a0 a1=>[.int a0 a1])
  (fun a0=>[.bool a0])
  (fun a0=>[.str a0])
  (fun a0 a1=>[.ptr a0 a1])
  ([.nilPtr])
  (fun a0 a1 a2 a3=>[.slice a0 a1 a2 a3])
  (fun a0 a1=>[.opn a0 a1])
  ([.nilSlice])
  (fun a0 a1 a2 _ _=>[.func a0 a1 a2])
  (fun a0=>[.yld a0])
  ([.nilFunc])
  (fun a0 a1 _=>[.iface a0 a1])
  ([.nilIface])
  (fun a0=>[.map a0])
  ([.nilMap])
  (fun a0 _=>a0)
  (fun a0 _=>[.tup a0])
  () (fun _ _ _ _=>()) v
noncomputable def AV.isOpn (v : AV) : R→R→R:=
 AV.rec (motive_1:=fun _=>R→R→R) (motive_2:=fun _=>Unit)
  (fun _ _ _ y=>y)
  (fun _ _ y=>y)
  (fun _ _ y=>y)
  (fun _ _ _ y=>y)
  (fun _ y=>y)
  (fun _ _ _ _ _ y=>y)
  (fun _ _ x _=>x)
  (fun x _=>x)
  (fun _ _ _ _ _ _ y=>y)
  (fun _ _ y=>y)
  (fun _ y=>y)
  (fun _ _ _ _ y=>y)
  (fun _ y=>y)
  (fun _ _ y=>y)
  (fun _ y=>y)
  (fun _ _ _ y=>y)
  (fun _ _ _ y=>y)
  () (fun _ _ _ _=>()) v
noncomputable def AV.isOne (v : AV) : R→R→R:=
 AV.rec (motive_1:=fun _=>R→R→R) (motive_2:=fun _=>Unit)
  (fun _ _ x _=>x)
  (fun _ x _=>x)
  (fun _ x _=>x)
  (fun _ _ x _=>x)
  (fun x _=>x)
  (fun _ _ _ _ x _=>x)
  (fun _ _ x _=>x)
  (fun x _=>x)
  (fun _ _ _ _ _ x _=>x)
  (fun _ x _=>x)
  (fun x _=>x)
  (fun _ _ _ x _=>x)
  (fun x _=>x)
  (fun _ x _=>x)
  (fun x _=>x)
  (fun _ _ _ y=>y)
  (fun _ _ _ y=>y)
  () (fun _ _ _ _=>()) v
noncomputable def AV.force (v : AV) : (AV→R)→R:=
 AV.rec (motive_1:=fun _=>(AV→R)→R) (motive_2:=fun _=>Unit)
  (fun a0 a1 k=>k (.int a0 a1))
  (fun a0 k=>k (.bool a0))
  (fun a0 k=>k (.str a0))
  (fun a0 a1 k=>k (.ptr a0 a1))
  (fun k=>k (.nilPtr))
  (fun a0 a1 a2 a3 k=>k (.slice a0 a1 a2 a3))
  (fun a0 a1 k=>k (.opn a0 a1))
  (fun k=>k (.nilSlice))
  (fun a0 a1 a2 _ _ k=>k (.func a0 a1 a2))
  (fun a0 k=>k (.yld a0))
  (fun k=>k (.nilFunc))
  (fun a0 a1 _ k=>k (.iface a0 a1))
  (fun k=>k (.nilIface))
  (fun a0 k=>k (.map a0))
  (fun k=>k (.nilMap))
  (fun a0 _ k=>k (.agg a0))
  (fun a0 _ k=>k (.tup a0))
  () (fun _ _ _ _=>()) v
section
variable {γ : Type}
theorem onInt_some {v : AV} {f : IntKind→Int→R} {d r : R} (h : v.onInt f d = r) : (∃ k n,v = .int k n∧f k n = r)∨d = r:=by
 cases v<;>first | exact .inr h | exact .inl ⟨_,_,rfl,h⟩
theorem onBool_some {v : AV} {x y d r : R} (h : v.onBool x y d = r) : (v = .bool false∧x = r)∨(v = .bool true∧y = r)∨((∀ b,v ≠ .bool b)∧d = r):=by
 cases v with
 | bool b=>cases b<;>first | exact .inl ⟨rfl,h⟩ | exact .inr (.inl ⟨rfl,h⟩)
 | _=>exact .inr (.inr ⟨nofun,h⟩)
theorem onPtr_some {v : AV} {f : Nat→Nat→R} {d r : R} (h : v.onPtr f d = r) : (∃ k n,v = .ptr k n∧f k n = r)∨d = r:=by
 cases v<;>first | exact .inr h | exact .inl ⟨_,_,rfl,h⟩
theorem onTup_some {v : AV} {f : List AV→R} {d r : R} (h : v.onTup f d = r) : (∃ k,v = .tup k∧f k = r)∨d = r:=by
 cases v<;>first | exact .inr h | exact .inl ⟨_,rfl,h⟩
theorem onAgg_some {v : AV} {f : List AV→R} {d r : R} (h : v.onAgg f d = r) : (∃ k,v = .agg k∧f k = r)∨d = r:=by
 cases v<;>first | exact .inr h | exact .inl ⟨_,rfl,h⟩
theorem onSl_some {v : AV} {f : Nat→Nat→Nat→R} {e d r : R} (h : v.onSl f e d = r) :
  (∃ b o n c,v = .slice b o n c∧f b o n = r)∨(∃ b n,v = .opn b n∧f b 0 n = r)∨(v = .nilSlice∧e = r)∨d = r:=by
 cases v<;>first | exact .inr (.inr (.inr h)) | exact .inl ⟨_,_,_,_,rfl,h⟩ | exact .inr (.inl ⟨_,_,rfl,h⟩) | exact .inr (.inr (.inl ⟨rfl,h⟩))
theorem isOne_eq (v : AV) (x y : R) : v.isOne x y = if oneA v then x else y:=by cases v<;>rfl
theorem isOpn_some {v : AV} {x y : R} {r : Rt × St} (h : v.isOpn x y = some r) : (((∃ b n,v = .opn b n)∨v = .nilSlice)∧x = some r)∨y = some r:=by
 cases v<;>first | exact .inr h | exact .inl ⟨.inl ⟨_,_,rfl⟩,h⟩ | exact .inl ⟨.inr rfl,h⟩
theorem cellsF_eq (v : AV) : v.cellsF = cellsA v:=by cases v<;>rfl
theorem force_eq (v : AV) (k : AV→R) : v.force k = k v:=by cases v<;>rfl
noncomputable def lit (n : Nat) (k : Nat→γ) : γ:=Nat.rec (motive:=fun _=>γ) (k Nat.zero) (fun m _=>k (Nat.succ m)) n
theorem lit_eq (n : Nat) (k : Nat→γ) : lit n k = k n:=by cases n<;>rfl
noncomputable def ob {α : Type} (x : Option α) (f : α→Option γ) : Option γ:=Option.rec (motive:=fun _=>Option γ) none f x
theorem ob_some {α : Type} {x : Option α} {f : α→Option γ} {r : γ} (h : ob x f = some r) : ∃ a,x = some a∧f a = some r:=by
 cases x with
 | none=>cases h
 | some a=>exact ⟨a,rfl,h⟩
noncomputable def bo (b : Bool) (x y : γ) : γ:=Bool.rec (motive:=fun _=>γ) y x b
theorem bo_eq (b : Bool) (x y : γ) : bo b x y = if b then x else y:=by cases b<;>rfl
theorem bo_some {b : Bool} {x : Option γ} {r : γ} (h : bo b x none = some r) : b = true∧x = some r:=by
 cases b with
 | false=>cases h
 | true=>exact ⟨rfl,h⟩
noncomputable def nthK (l : List AV) : Nat→(AV→R)→R:=
 List.rec (motive:=fun _=>Nat→(AV→R)→R) (fun _ _=>none) (fun a _ ih n k=>Nat.rec (motive:=fun _=>R) (k a) (fun m _=>ih m k) n) l
theorem nthK_some : ∀ {l : List AV} {n : Nat} {k : AV→R} {r : Rt × St},nthK l n k = some r→∃ v,l[n]? = some v∧k v = some r
 | [],_,_,_,h=>by cases h
 | a :: l,0,_,_,h=>⟨a,rfl,h⟩
 | a :: l,n + 1,k,r,h=>by
  obtain ⟨v,h1,h2⟩:=nthK_some (l:=l) (n:=n) h
  exact ⟨v,by simpa using h1,h2⟩
noncomputable def putK (v : AV) (l : List AV) : Nat→(List AV→R)→R:=
 List.rec (motive:=fun _=>Nat→(List AV→R)→R) (fun _ _=>none) (fun a tl ih n k=>Nat.rec (motive:=fun _=>R) (k (v :: tl)) (fun m _=>ih m fun l=>k (a :: l)) n) l
theorem putK_some {v : AV} : ∀ {l : List AV} {n : Nat} {k : List AV→R} {r : Rt × St},putK v l n k = some r→n < l.length∧k (l.set n v) = some r
 | [],_,_,_,h=>by cases h
 | a :: l,0,_,_,h=>⟨by simp,h⟩
 | a :: l,n + 1,k,r,h=>by
  obtain ⟨h1,h2⟩:=putK_some (l:=l) (n:=n) (k:=fun l=>k (a :: l)) h
  exact ⟨by simpa using h1,h2⟩
noncomputable def getF (p : Pt) : T4 AV→AV:=
 Pt.rec (motive:=fun _=>T4 AV→AV)
  (fun t=>T4.rec (motive:=fun _=>AV) (.tup []) (fun v _ _ _ _ _ _ _ _=>v) t)
  (fun _ ih t=>T4.rec (motive:=fun _=>(T4 AV→AV)→AV) (fun _=>(.tup [])) (fun _ a _ _ _ _ _ _ _ f=>f a) t ih)
  (fun _ ih t=>T4.rec (motive:=fun _=>(T4 AV→AV)→AV) (fun _=>(.tup [])) (fun _ _ a _ _ _ _ _ _ f=>f a) t ih)
  (fun _ ih t=>T4.rec (motive:=fun _=>(T4 AV→AV)→AV) (fun _=>(.tup [])) (fun _ _ _ a _ _ _ _ _ f=>f a) t ih)
  (fun _ ih t=>T4.rec (motive:=fun _=>(T4 AV→AV)→AV) (fun _=>(.tup [])) (fun _ _ _ _ a _ _ _ _ f=>f a) t ih)
  p
theorem getF_eq : ∀ (p : Pt) (t : T4 AV),getF p t = T4.get (.tup []) p t:=by
 intro p
 induction p with
 | z=>intro t;cases t<;>rfl
 | a p ih | b p ih | c p ih | d p ih=>intro t;cases t<;>first | rfl | exact ih _
noncomputable def setF (x : AV) (p : Pt) (t : T4 AV) (k : T4 AV→R) : R:=
 Pt.rec (motive:=fun _=>AV→T4 AV→(T4 AV→R)→R)
  (fun v t k=>T4.rec (motive:=fun _=>AV→(T4 AV→R)→R) (fun v k=>k (.node v .leaf .leaf .leaf .leaf)) (fun _ a b c d _ _ _ _ v k=>k (.node v a b c d)) t v k)
  (fun _ ih v t k=>T4.rec (motive:=fun _=>(AV→T4 AV→(T4 AV→R)→R)→AV→(T4 AV→R)→R) (fun f v k=>f v .leaf fun y=>k (.node (.tup []) y .leaf .leaf .leaf)) (fun w a b c d _ _ _ _ f v k=>f v a fun y=>k (.node w y b c d)) t ih v k)
  (fun _ ih v t k=>T4.rec (motive:=fun _=>(AV→T4 AV→(T4 AV→R)→R)→AV→(T4 AV→R)→R) (fun f v k=>f v .leaf fun y=>k (.node (.tup []) .leaf y .leaf .leaf)) (fun w a b c d _ _ _ _ f v k=>f v b fun y=>k (.node w a y c d)) t ih v k)
  (fun _ ih v t k=>T4.rec (motive:=fun _=>(AV→T4 AV→(T4 AV→R)→R)→AV→(T4 AV→R)→R) (fun f v k=>f v .leaf fun y=>k (.node (.tup []) .leaf .leaf y .leaf)) (fun w a b c d _ _ _ _ f v k=>f v c fun y=>k (.node w a b y d)) t ih v k)
  (fun _ ih v t k=>T4.rec (motive:=fun _=>(AV→T4 AV→(T4 AV→R)→R)→AV→(T4 AV→R)→R) (fun f v k=>f v .leaf fun y=>k (.node (.tup []) .leaf .leaf .leaf y)) (fun w a b c d _ _ _ _ f v k=>f v d fun y=>k (.node w a b c y)) t ih v k)
  p x t k
theorem setF_eq (x : AV) : ∀ (p : Pt) (t : T4 AV) (k : T4 AV→R),setF x p t k = k (T4.set (.tup []) x p t):=by
 intro p
 induction p with
 | z=>intro t k;cases t<;>rfl
 | a p ih | b p ih | c p ih | d p ih=>intro t k;cases t<;>exact ih _ _
noncomputable def getH (p : Pt) : T4 (Option Blk)→(Option Blk):=
 Pt.rec (motive:=fun _=>T4 (Option Blk)→(Option Blk))
  (fun t=>T4.rec (motive:=fun _=>(Option Blk)) none (fun v _ _ _ _ _ _ _ _=>v) t)
  (fun _ ih t=>T4.rec (motive:=fun _=>(T4 (Option Blk)→(Option Blk))→(Option Blk)) (fun _=>none) (fun _ a _ _ _ _ _ _ _ f=>f a) t ih)
  (fun _ ih t=>T4.rec (motive:=fun _=>(T4 (Option Blk)→(Option Blk))→(Option Blk)) (fun _=>none) (fun _ _ a _ _ _ _ _ _ f=>f a) t ih)
  (fun _ ih t=>T4.rec (motive:=fun _=>(T4 (Option Blk)→(Option Blk))→(Option Blk)) (fun _=>none) (fun _ _ _ a _ _ _ _ _ f=>f a) t ih)
  (fun _ ih t=>T4.rec (motive:=fun _=>(T4 (Option Blk)→(Option Blk))→(Option Blk)) (fun _=>none) (fun _ _ _ _ a _ _ _ _ f=>f a) t ih)
  p
theorem getH_eq : ∀ (p : Pt) (t : T4 (Option Blk)),getH p t = T4.get none p t:=by
 intro p
 induction p with
 | z=>intro t;cases t<;>rfl
 | a p ih | b p ih | c p ih | d p ih=>intro t;cases t<;>first | rfl | exact ih _
noncomputable def setH (x : (Option Blk)) (p : Pt) (t : T4 (Option Blk)) (k : T4 (Option Blk)→R) : R:=
 Pt.rec (motive:=fun _=>(Option Blk)→T4 (Option Blk)→(T4 (Option Blk)→R)→R)
  (fun v t k=>T4.rec (motive:=fun _=>(Option Blk)→(T4 (Option Blk)→R)→R) (fun v k=>k (.node v .leaf .leaf .leaf .leaf)) (fun _ a b c d _ _ _ _ v k=>k (.node v a b c d)) t v k)
  (fun _ ih v t k=>T4.rec (motive:=fun _=>((Option Blk)→T4 (Option Blk)→(T4 (Option Blk)→R)→R)→(Option Blk)→(T4 (Option Blk)→R)→R) (fun f v k=>f v .leaf fun y=>k (.node none y .leaf .leaf .leaf)) (fun w a b c d _ _ _ _ f v k=>f v a fun y=>k (.node w y b c d)) t ih v k)
  (fun _ ih v t k=>T4.rec (motive:=fun _=>((Option Blk)→T4 (Option Blk)→(T4 (Option Blk)→R)→R)→(Option Blk)→(T4 (Option Blk)→R)→R) (fun f v k=>f v .leaf fun y=>k (.node none .leaf y .leaf .leaf)) (fun w a b c d _ _ _ _ f v k=>f v b fun y=>k (.node w a y c d)) t ih v k)
  (fun _ ih v t k=>T4.rec (motive:=fun _=>((Option Blk)→T4 (Option Blk)→(T4 (Option Blk)→R)→R)→(Option Blk)→(T4 (Option Blk)→R)→R) (fun f v k=>f v .leaf fun y=>k (.node none .leaf .leaf y .leaf)) (fun w a b c d _ _ _ _ f v k=>f v c fun y=>k (.node w a b y d)) t ih v k)
  (fun _ ih v t k=>T4.rec (motive:=fun _=>((Option Blk)→T4 (Option Blk)→(T4 (Option Blk)→R)→R)→(Option Blk)→(T4 (Option Blk)→R)→R) (fun f v k=>f v .leaf fun y=>k (.node none .leaf .leaf .leaf y)) (fun w a b c d _ _ _ _ f v k=>f v d fun y=>k (.node w a b c y)) t ih v k)
  p x t k
theorem setH_eq (x : (Option Blk)) : ∀ (p : Pt) (t : T4 (Option Blk)) (k : T4 (Option Blk)→R),setH x p t k = k (T4.set none x p t):=by
 intro p
 induction p with
 | z=>intro t k;cases t<;>rfl
 | a p ih | b p ih | c p ih | d p ih=>intro t k;cases t<;>exact ih _ _
end
abbrev FT:=T4 AV
noncomputable def ofGo (l : List AV) : Nat→FT→FT:=
 List.rec (motive:=fun _=>Nat→FT→FT) (fun _ t=>t) (fun a _ ih i t=>ih (Nat.succ i) (T4.set (.tup []) a (pathOf i) t)) l
theorem ofGo_get : ∀ (l : List AV) (i j : Nat) (t : FT),T4.get (.tup []) (pathOf j) (ofGo l i t) = if i≤j∧j < i + l.length then l.getD (j - i) (.tup []) else T4.get (.tup []) (pathOf j) t
 | [],i,j,t=>by
  rw [if_neg (by intro h;simp only [List.length_nil] at h;omega)];rfl
 | a :: l,i,j,t=>by
  rw [show ofGo (a :: l) i t = ofGo l (i + 1) (T4.set (.tup []) a (pathOf i) t) from rfl,ofGo_get l (i + 1) j]
  by_cases e : j = i
  ·subst e
   rw [if_neg (by omega),if_pos (by simp),T4.get_set_self];simp
  ·rw [T4.get_set_ne _ _ _ _ _ (fun e0=>e (pathOf_inj.1 e0))]
   by_cases h : i + 1≤j∧j < i + 1 + l.length
   ·rw [if_pos h,if_pos (by simp;omega)]
    obtain ⟨k,rfl⟩ : ∃ k,j = i + 1 + k:=⟨j - (i + 1),by omega⟩
    rw [show i + 1 + k - (i + 1) = k by omega,show i + 1 + k - i = k + 1 by omega];simp
   ·rw [if_neg h,if_neg (by simp;omega)]
noncomputable def ofL (l : List AV) : FT:=ofGo l 0 .leaf
noncomputable def ofK (l : List AV) : Nat→FT→(FT→R)→R:=
 List.rec (motive:=fun _=>Nat→FT→(FT→R)→R) (fun _ t k=>k t) (fun a _ ih i t k=>setF a (pathOf i) t fun t=>lit (Nat.succ i) fun i=>ih i t k) l
theorem ofK_go : ∀ (l : List AV) (i : Nat) (t : FT) (k : FT→R),ofK l i t k = k (ofGo l i t)
 | [],_,_,_=>rfl
 | a :: l,i,t,k=>by
  rw [show ofK (a :: l) i t k = setF a (pathOf i) t (fun t=>lit (Nat.succ i) fun i=>ofK l i t k) from rfl,setF_eq,lit_eq,ofK_go l];rfl
theorem ofK_eq (l : List AV) (k : FT→R) : ofK l 0 .leaf k = k (ofL l):=ofK_go l 0 .leaf k
end Go.Abs
namespace Go.Abs
variable {P : Program}
def ALe (α β : Operand→Option AV) : Prop:=∀ x v,α x = some v→β x = some v
section
variable {α β : Operand→Option AV} (hab : ALe α β)
include hab
theorem argL_le : ∀ {l : List Operand} {vs : List AV},argL α l = some vs→argL β l = some vs
 | [],_,h=>h
 | x :: l,vs,h=>by
  simp only [argL,Option.bind_eq_some_iff,Option.map_eq_some_iff] at h ⊢
  obtain ⟨v,h1,ws,h2,h3⟩:=h
  exact ⟨v,hab _ _ h1,ws,argL_le h2,h3⟩
theorem argP_le : ∀ {l : List (Nat × Operand)} {vs : List (Nat × AV)},argP α l = some vs→argP β l = some vs
 | [],_,h=>h
 | (i,x) :: l,vs,h=>by
  simp only [argP,Option.bind_eq_some_iff,Option.map_eq_some_iff] at h ⊢
  obtain ⟨v,h1,ws,h2,h3⟩:=h
  exact ⟨v,hab _ _ h1,ws,argP_le h2,h3⟩
theorem optArg_le {x : Option Operand} {v : Option AV} (h : optArg α x = some v) : optArg β x = some v:=by
 cases x with
 | none=>exact h
 | some x =>
  simp only [optArg,Option.map_eq_some_iff] at h ⊢
  obtain ⟨v,h1,h2⟩:=h
  exact ⟨v,hab _ _ h1,h2⟩
theorem pureOp_le {o : Oper} {v : AV} (h : pureOp P o α = some v) : pureOp P o β = some v:=by
 unfold pureOp at h ⊢
 cases hop : o.op with
 | move x=>simp only [hop] at h ⊢;exact hab _ _ h
 | assign x=>simp only [hop] at h ⊢;exact hab _ _ h
 | pick c a b =>
  simp only [hop,Option.bind_eq_some_iff] at h ⊢
  obtain ⟨t,h1,h2⟩:=h
  refine ⟨t,hab _ _ h1,?_⟩
  split at h2
  ·exact hab _ _ h2
  ·exact hab _ _ h2
  ·cases h2
 | nilCheck x=>simp only [hop,Option.bind_eq_some_iff] at h ⊢;obtain ⟨t,h1,h2⟩:=h;exact ⟨t,hab _ _ h1,h2⟩
 | binOp op t x y yt=>simp only [hop,Option.bind_eq_some_iff] at h ⊢;obtain ⟨a,h1,b,h2,h3⟩:=h;exact ⟨a,hab _ _ h1,b,hab _ _ h2,h3⟩
 | unOp op t x=>simp only [hop,Option.bind_eq_some_iff] at h ⊢;obtain ⟨t,h1,h2⟩:=h;exact ⟨t,hab _ _ h1,h2⟩
 | convert s d x=>simp only [hop,Option.bind_eq_some_iff] at h ⊢;obtain ⟨t,h1,h2⟩:=h;exact ⟨t,hab _ _ h1,h2⟩
 | makeInterface t x =>
  simp only [hop] at h ⊢
  split at h
  ·rename_i hc
   simp only [Option.map_eq_some_iff] at h
   obtain ⟨v,h1,h2⟩:=h
   simp only [hc,if_true,Option.map_eq_some_iff]
   exact ⟨v,hab _ _ h1,h2⟩
  ·cases h
 | makeFunc fn aas cs =>
  cases fn with
  | func f =>
   simp only [hop,Option.bind_eq_some_iff,Option.map_eq_some_iff] at h ⊢
   obtain ⟨a,h1,c,h2,h3⟩:=h
   exact ⟨a,argL_le hab h1,c,argL_le hab h2,h3⟩
  | _=>simp only [hop] at h;cases h
 | extract x i=>simp only [hop,Option.bind_eq_some_iff] at h ⊢;obtain ⟨t,h1,h2⟩:=h;exact ⟨t,hab _ _ h1,h2⟩
 | fieldAddr t x i =>
  simp only [hop,Option.bind_eq_some_iff] at h ⊢
  obtain ⟨fs,h1,f,h2,k,h3,h4⟩:=h
  refine ⟨fs,h1,f,h2,k,h3,?_⟩
  split at h4
  ·cases h4
  ·rename_i hk
   simp only [hk,if_false,Option.bind_eq_some_iff] at h4 ⊢
   obtain ⟨t,h1,h2⟩:=h4;exact ⟨t,hab _ _ h1,h2⟩
 | field t x i =>
  simp only [hop,Option.bind_eq_some_iff] at h ⊢
  obtain ⟨fs,h1,f,h2,v,h3,h4⟩:=h
  exact ⟨fs,h1,f,h2,v,hab _ _ h3,h4⟩
 | indexAddr t x i=>simp only [hop,Option.bind_eq_some_iff] at h ⊢;obtain ⟨a,h1,b,h2,h3⟩:=h;exact ⟨a,hab _ _ h1,b,hab _ _ h2,h3⟩
 | index t x i=>simp only [hop,Option.bind_eq_some_iff] at h ⊢;obtain ⟨a,h1,b,h2,h3⟩:=h;exact ⟨a,hab _ _ h1,b,hab _ _ h2,h3⟩
 | slice t x lo hi mx =>
  simp only [hop,Option.bind_eq_some_iff] at h ⊢
  obtain ⟨a,h1,l,h2,hh,h3,m,h4,h5⟩:=h
  exact ⟨a,hab _ _ h1,l,optArg_le hab h2,hh,optArg_le hab h3,m,optArg_le hab h4,h5⟩
 | build t ps=>simp only [hop,Option.bind_eq_some_iff] at h ⊢;obtain ⟨q,h1,h2⟩:=h;exact ⟨q,argP_le hab h1,h2⟩
 | typeAssert x xt t ok=>simp only [hop,Option.bind_eq_some_iff] at h ⊢;obtain ⟨a,h1,h2⟩:=h;exact ⟨a,hab _ _ h1,h2⟩
 | call c =>
  obtain ⟨callee,args,ats⟩:=c
  cases callee with
  | builtin b =>
   cases b with
   | len=>simp only [hop,Option.bind_eq_some_iff] at h ⊢;obtain ⟨vs,h1,h2⟩:=h;exact ⟨vs,argL_le hab h1,h2⟩
   | max=>simp only [hop,Option.bind_eq_some_iff] at h ⊢;obtain ⟨vs,h1,h2⟩:=h;exact ⟨vs,argL_le hab h1,h2⟩
   | min=>simp only [hop,Option.bind_eq_some_iff] at h ⊢;obtain ⟨vs,h1,h2⟩:=h;exact ⟨vs,argL_le hab h1,h2⟩
   | _=>simp only [hop] at h;cases h
  | value x=>simp only [hop] at h;cases h
  | invoke x n=>simp only [hop] at h;cases h
 | _=>simp only [hop] at h;cases h
theorem heapOp_le {o : Oper} {s : St} {r : Option AV × St} (h : heapOp P o α s = some r) : heapOp P o β s = some r∧(pureOp P o α = none→pureOp P o β = none):=by
 unfold heapOp at h ⊢
 cases hop : o.op with
 | alloc t=>simp only [hop] at h ⊢;exact ⟨h,fun _=>by simp only [pureOp,hop]⟩
 | box t x=>simp only [hop,Option.bind_eq_some_iff] at h ⊢;obtain ⟨a,h1,h2⟩:=h;exact ⟨⟨a,hab _ _ h1,h2⟩,fun _=>by simp only [pureOp,hop]⟩
 | buildSlice t n ps=>simp only [hop,Option.bind_eq_some_iff] at h ⊢;obtain ⟨a,h1,h2⟩:=h;exact ⟨⟨a,argP_le hab h1,h2⟩,fun _=>by simp only [pureOp,hop]⟩
 | load t x=>simp only [hop,Option.bind_eq_some_iff] at h ⊢;obtain ⟨a,h1,h2⟩:=h;exact ⟨⟨a,hab _ _ h1,h2⟩,fun _=>by simp only [pureOp,hop]⟩
 | store t x y=>simp only [hop,Option.bind_eq_some_iff] at h ⊢;obtain ⟨a,h1,b,h2,h3⟩:=h;exact ⟨⟨a,hab _ _ h1,b,hab _ _ h2,h3⟩,fun _=>by simp only [pureOp,hop]⟩
 | makeSlice t l c=>simp only [hop,Option.bind_eq_some_iff] at h ⊢;obtain ⟨a,h1,b,h2,h3⟩:=h;exact ⟨⟨a,hab _ _ h1,b,hab _ _ h2,h3⟩,fun _=>by simp only [pureOp,hop]⟩
 | slice t x lo hi mx =>
  simp only [hop,Option.bind_eq_some_iff] at h ⊢
  obtain ⟨a,h1,l,h2,hh,h3,m,h4,h5⟩:=h
  refine ⟨⟨a,hab _ _ h1,l,optArg_le hab h2,hh,optArg_le hab h3,m,optArg_le hab h4,h5⟩,fun hp=>?_⟩
  simp only [pureOp,hop,h1,h2,h3,h4,Option.bind_some] at hp
  simp only [pureOp,hop,hab _ _ h1,optArg_le hab h2,optArg_le hab h3,optArg_le hab h4,Option.bind_some,hp]
 | range t x=>simp only [hop,Option.bind_eq_some_iff] at h ⊢;obtain ⟨a,h1,h2⟩:=h;exact ⟨⟨a,hab _ _ h1,h2⟩,fun _=>by simp only [pureOp,hop]⟩
 | next x b =>
  cases b with
  | true=>simp only [hop,Option.bind_eq_some_iff] at h ⊢;obtain ⟨a,h1,h2⟩:=h;exact ⟨⟨a,hab _ _ h1,h2⟩,fun _=>by simp only [pureOp,hop]⟩
  | false=>simp only [hop] at h;cases h
 | makeMap t x =>
  cases x with
  | none=>simp only [hop] at h ⊢;exact ⟨h,fun _=>by simp only [pureOp,hop]⟩
  | some x=>simp only [hop] at h;cases h
 | lookup t x k ok =>
  simp only [hop,Option.bind_eq_some_iff] at h ⊢
  obtain ⟨a,h1,b,h2,h3⟩:=h
  exact ⟨⟨a,hab _ _ h1,b,hab _ _ h2,h3⟩,fun _=>by simp only [pureOp,hop]⟩
 | mapUpdate t m k v =>
  simp only [hop,Option.bind_eq_some_iff] at h ⊢
  obtain ⟨a,h1,b,h2,c,h3,h4⟩:=h
  exact ⟨⟨a,hab _ _ h1,b,hab _ _ h2,c,hab _ _ h3,h4⟩,fun _=>by simp only [pureOp,hop]⟩
 | call c =>
  obtain ⟨callee,args,ats⟩:=c
  cases callee with
  | builtin b =>
   cases b with
   | append=>simp only [hop,Option.bind_eq_some_iff] at h ⊢;obtain ⟨vs,h1,h2⟩:=h;exact ⟨⟨vs,argL_le hab h1,h2⟩,fun _=>by simp only [pureOp,hop]⟩
   | len =>
    simp only [hop,Option.bind_eq_some_iff] at h ⊢
    obtain ⟨vs,h1,h2⟩:=h
    refine ⟨⟨vs,argL_le hab h1,h2⟩,fun hp=>?_⟩
    simp only [pureOp,hop,h1,Option.bind_some] at hp
    simp only [pureOp,hop,argL_le hab h1,Option.bind_some,hp]
   | _=>simp only [hop] at h;cases h
  | value x=>simp only [hop] at h;cases h
  | invoke x n=>simp only [hop] at h;cases h
 | _=>simp only [hop] at h;cases h
theorem calleeA_le {c : Call} {q : Tg × List AV} (h : calleeA P α c = some q) : calleeA P β c = some q:=by
 unfold calleeA at h ⊢
 cases hc : c.callee with
 | value x =>
  simp only [hc,Option.bind_eq_some_iff] at h ⊢
  obtain ⟨v,h1,aas,h2,h3⟩:=h
  exact ⟨v,hab _ _ h1,aas,argL_le hab h2,h3⟩
 | invoke x n =>
  simp only [hc,Option.bind_eq_some_iff] at h ⊢
  obtain ⟨v,h1,aas,h2,h3⟩:=h
  exact ⟨v,hab _ _ h1,aas,argL_le hab h2,h3⟩
 | builtin b=>simp only [hc] at h;cases h
end
def CLe (c1 c2 : CallF) : Prop:=∀ tg aas s r,c1 tg aas s = some r→c2 tg aas s = some r
theorem externC_le {α β : Operand→Option AV} (hab : ALe α β) {c : Call} {v : AV} (hca : calleeA P α c = none) (h : externC P α c = some v) : calleeA P β c = none∧externC P β c = some v:=by
 unfold externC at h
 split at h
 case h_2=>cases h
 rename_i x hcx
 simp only [Option.bind_eq_some_iff] at h
 obtain ⟨u,hv,us,hus,h⟩:=h
 split at h
 case h_2=>cases h
 rename_i f
 unfold calleeA at hca ⊢
 unfold externC
 simp only [hcx,hv,hus,hab _ _ hv,argL_le hab hus,Option.bind_some] at hca ⊢
 exact ⟨hca,h⟩
theorem opX_le {c1 c2 : CallF} (hc : CLe c1 c2) {α β : Operand→Option AV} (hab : ALe α β) {o : Oper} {ro : Option Nat} {rc : RC} {s : St} {r : OR × St} (h : opX P c1 o α ro rc s = some r) : opX P c2 o β ro rc s = some r:=by
 unfold opX at h ⊢
 cases hp : pureOp P o α with
 | some v=>simp only [hp] at h;rw [pureOp_le hab hp];exact h
 | none =>
  cases hh : heapOp P o α s with
  | some q =>
   obtain ⟨h1,h2⟩:=heapOp_le hab hh
   simp only [hp,hh] at h
   rw [h2 hp,h1];exact h
  | none =>
   simp only [hp,hh] at h
   have none2 : ∀ {x : Option (OR × St)},pureOp P o β = none→heapOp P o β s = none→x = some r→(match pureOp P o β with
    | some v=>some (OR.put v,s)
    | none=>match heapOp P o β s with
     | some (r,s')=>some (OR.put (r.getD (.tup [])),s')
     | none=>x) = some r:=by
    intro x e1 e2 e3;rw [e1,e2];exact e3
   cases hop : o.op with
   | call c =>
    obtain ⟨callee,args,ats⟩:=c
    have key : ∀ {c : Call},(match calleeA P α c with | some (tg,aas)=>(c1 tg aas s).map fun y=>((match y.1 with | .ret v=>OR.put v | .pan v=>.pan v),y.2) | none=>(externC P α c).map fun v=>(.put v,s)) = some r→
      (match calleeA P β c with | some (tg,aas)=>(c2 tg aas s).map fun y=>((match y.1 with | .ret v=>OR.put v | .pan v=>.pan v),y.2) | none=>(externC P β c).map fun v=>(.put v,s)) = some r:=by
     intro c h
     cases hca : calleeA P α c with
     | some q =>
      rw [calleeA_le hab hca]
      simp only [hca,Option.map_eq_some_iff] at h ⊢
      obtain ⟨y,h2,h3⟩:=h
      exact ⟨y,hc _ _ _ _ h2,h3⟩
     | none =>
      simp only [hca,Option.map_eq_some_iff] at h
      obtain ⟨v,h1,h2⟩:=h
      obtain ⟨e1,e2⟩:=externC_le hab hca h1
      simp only [e1,e2,Option.map_some,h2]
    simp only [hop] at h ⊢
    cases callee with
    | value x=>exact none2 (by simp only [pureOp,hop]) (by simp only [heapOp,hop]) (key h)
    | invoke x n=>exact none2 (by simp only [pureOp,hop]) (by simp only [heapOp,hop]) (key h)
    | builtin b =>
     cases b with
     | recover=>exact none2 (by simp only [pureOp,hop]) (by simp only [heapOp,hop]) h
     | _=>simp only [calleeA,Option.bind_none] at h;cases h
   | panic x =>
    simp only [hop,Option.bind_eq_some_iff] at h ⊢
    obtain ⟨v,h1,h2⟩:=h
    exact none2 (by simp only [pureOp,hop]) (by simp only [heapOp,hop]) (by rw [hab _ _ h1];exact h2)
   | defer c =>
    simp only [hop] at h ⊢
    split at h
    ·rename_i x hro hcx
     simp only [Option.bind_eq_some_iff] at h
     obtain ⟨v,h1,aas,h2,h3⟩:=h
     refine none2 (by simp only [pureOp,hop]) (by simp only [heapOp,hop]) ?_
     simp only [hcx,hab _ _ h1,argL_le hab h2,Option.bind_some]
     exact h3
    ·cases h
   | _=>simp only [hop] at h;cases h
end Go.Abs
namespace Go.Abs
variable {P : Program}
structure Ev where
 l : List AV
 t : FT
inductive Ar where
 | t (p : Pt)
 | v (a : AV)
 | l (j : Nat)
noncomputable def getL (l : List AV) : Nat→AV:=List.rec (motive:=fun _=>Nat→AV) (fun _=>.tup []) (fun a _ ih n=>Nat.rec (motive:=fun _=>AV) a (fun m _=>ih m) n) l
theorem getL_eq : ∀ (l : List AV) (n : Nat),getL l n = l.getD n (.tup [])
 | [],n=>by simp [getL]
 | a :: l,0=>rfl
 | a :: l,n + 1=>by
  show getL l n = _
  rw [getL_eq l n];simp
noncomputable def Ar.val (x : Ar) : Ev→AV:=Ar.rec (motive:=fun _=>Ev→AV) (fun p e=>getF p e.t) (fun a _=>a) (fun j e=>getL e.l j) x
def idxT : List Tmp→Tmp→Option Nat
 | [],_=>none
 | k :: r,i=>if Nat.beq k i then some 0 else (idxT r i).map Nat.succ
noncomputable def cArg (gs locs : List Tmp) : Operand→Option Ar
 | .tmp i=>match idxT locs i with
  | some j=>some (.l j)
  | none=>(idxT gs i).map fun j=>.t (pathOf j)
 | .const v=>(ofVal v).map .v
 | .func f=>some (.v (.func f [] []))
 | .global _=>none
structure RelE (nt : Nat) (gs locs : List Tmp) (tm : List AV) (e : Ev) : Prop where
 len : tm.length = nt
 gl : ∀ i j,idxT gs i = some j→tm[i]? = some (T4.get (.tup []) (pathOf j) e.t)
 lo : ∀ i j,idxT locs i = some j→idxT gs i = none∧∃ v,e.l[j]? = some v∧tm[i]? = some v
theorem cArg_ok {nt : Nat} {gs locs : List Tmp} {tm : List AV} {e : Ev} (hr : RelE nt gs locs tm e) {x : Operand} {a : Ar} (h : cArg gs locs x = some a) : arg tm x = some (a.val e):=by
 cases x with
 | tmp i =>
  simp only [cArg] at h
  split at h
  ·rename_i j hj
   cases h
   obtain ⟨_,v,h1,h2⟩:=hr.lo i j hj
   simp only [arg,getR_eq,List.getD_eq_getElem?_getD,h2,Option.getD_some]
   show _ = some (getL e.l j)
   rw [getL_eq,List.getD_eq_getElem?_getD,h1];rfl
  ·simp only [Option.map_eq_some_iff] at h
   obtain ⟨j,h1,rfl⟩:=h
   simp only [arg,getR_eq,List.getD_eq_getElem?_getD,hr.gl i j h1,Option.getD_some]
   exact congrArg some (getF_eq ..).symm
 | const v=>simp only [cArg,Option.map_eq_some_iff] at h;obtain ⟨b,h1,rfl⟩:=h;exact h1
 | func f=>cases h;rfl
 | global g=>cases h
noncomputable def cAs (cA : Operand→Option Ar) : List Operand→Option (List Ar)
 | []=>some []
 | x :: l=>(cA x).bind fun a=>(cAs cA l).map (a :: ·)
noncomputable def valsK (l : List Ar) : Ev→(List AV→R)→R:=
 List.rec (motive:=fun _=>Ev→(List AV→R)→R) (fun _ k=>k []) (fun a _ ih e k=>(a.val e).force fun v=>ih e fun vs=>k (v :: vs)) l
theorem valsK_eq (e : Ev) : ∀ (l : List Ar) (k : List AV→R),valsK l e k = k (l.map (·.val e))
 | [],_=>rfl
 | a :: l,k=>by
  rw [show valsK (a :: l) e k = (a.val e).force (fun v=>valsK l e fun vs=>k (v :: vs)) from rfl,force_eq,valsK_eq e l];rfl
theorem cAs_ok {cA : Operand→Option Ar} {e : Ev} {α : Operand→Option AV} (hA : ∀ {x a},cA x = some a→α x = some (a.val e)) : ∀ {l : List Operand} {aas : List Ar},cAs cA l = some aas→argL α l = some (aas.map (·.val e))
 | [],_,h=>by cases h;rfl
 | x :: l,aas,h=>by
  simp only [cAs,Option.bind_eq_some_iff,Option.map_eq_some_iff] at h
  obtain ⟨a,h1,bs,h2,rfl⟩:=h
  simp only [argL,hA h1,cAs_ok hA h2,Option.bind_some,Option.map_some,List.map_cons]
noncomputable def idxK (k : IntKind) : Nat:=IntKind.rec (motive:=fun _=>Nat) 0 1 2 3 4 5 6 7 k
noncomputable def bndK (k : IntKind) : Nat:=IntKind.rec (motive:=fun _=>Nat) 127 32767 2147483647 9223372036854775807 255 65535 4294967295 18446744073709551615 k
theorem idxK_eq {k k' : IntKind} (h : Nat.beq (idxK k) (idxK k') = true) : k = k':=by
 cases k<;>cases k'<;>first | rfl | cases h
theorem wrap_fit {k : IntKind} {m : Nat} (h : m≤bndK k) : k.wrap (Int.ofNat m) = Int.ofNat m:=by
 have e1 : (Int.ofNat m) % ((2 : Int) ^ k.bits) = Int.ofNat m:=by
  apply Int.emod_eq_of_lt (Int.natCast_nonneg m)
  show (m : Int) < _
  cases k<;>simp only [bndK] at h<;>simp only [IntKind.bits]<;>omega
 unfold IntKind.wrap
 simp only [e1]
 rw [if_neg]
 intro hc
 simp only [Bool.and_eq_true,decide_eq_true_eq] at hc
 obtain ⟨h1,h2⟩:=hc
 have : (Int.ofNat m) = (m : Int):=rfl
 rw [this] at h2
 cases k<;>simp only [bndK] at h<;>simp only [IntKind.bits,IntKind.signed,Bool.false_eq_true] at h1 h2<;>omega
noncomputable def fitN (k : IntKind) (m : Nat) (slow : R) (f : Int→R) : R:=bo (Nat.ble m (bndK k)) (lit m fun j=>f (.ofNat j)) slow
theorem fitN_some {k : IntKind} {m : Nat} {slow r : R} {f : Int→R} (h : fitN k m slow f = r) : slow = r∨(k.wrap (Int.ofNat m) = Int.ofNat m∧f (.ofNat m) = r):=by
 unfold fitN at h
 rw [bo_eq,lit_eq] at h
 split at h
 ·rename_i h1;exact .inr ⟨wrap_fit (Nat.le_of_ble_eq_true h1),h⟩
 ·exact .inl h
noncomputable def on2 (slow : R) (a b : AV) (h : IntKind→Nat→Nat→R) : R:=
 a.onInt (fun k x=>b.onInt (fun k' y=>bo (Nat.beq (idxK k) (idxK k')) (Int.rec (motive:=fun _=>R) (fun m=>Int.rec (motive:=fun _=>R) (fun n=>h k m n) (fun _=>slow) y) (fun _=>slow) x) slow) slow) slow
theorem on2_some {slow r : R} {a b : AV} {h : IntKind→Nat→Nat→R} (hr : on2 slow a b h = r) : slow = r∨∃ k m n,a = .int k (.ofNat m)∧b = .int k (.ofNat n)∧h k m n = r:=by
 unfold on2 at hr
 rcases onInt_some hr with ⟨k,x,ha,h1⟩ | h1
 ·rcases onInt_some (v:=b) h1 with ⟨k',y,hb,h2⟩ | h2
  ·rw [bo_eq] at h2
   split at h2
   ·rename_i hk
    have:=idxK_eq hk;subst this
    cases x with
    | ofNat m=>cases y with
     | ofNat n=>exact .inr ⟨k,m,n,ha,hb,h2⟩
     | negSucc n=>exact .inl h2
    | negSucc n=>exact .inl h2
   ·exact .inl h2
  ·exact .inl h2
 ·exact .inl h1
abbrev BinH:=R→AV→AV→(AV→R)→R
noncomputable def addH : BinH:=fun slow a b f=>on2 slow a b fun k m n=>fitN k (Nat.add m n) slow fun z=>f (.int k z)
noncomputable def subH : BinH:=fun slow a b f=>on2 slow a b fun k m n=>bo (Nat.ble n m) (fitN k (Nat.sub m n) slow fun z=>f (.int k z)) slow
noncomputable def mulH : BinH:=fun slow a b f=>on2 slow a b fun k m n=>fitN k (Nat.mul m n) slow fun z=>f (.int k z)
noncomputable def quoH : BinH:=fun slow a b f=>on2 slow a b fun k m n=>bo (Nat.ble 1 n) (fitN k (Nat.div m n) slow fun z=>f (.int k z)) slow
noncomputable def remH : BinH:=fun slow a b f=>on2 slow a b fun k m n=>bo (Nat.ble 1 n) (lit (Nat.mod m n) fun j=>f (.int k (.ofNat j))) slow
noncomputable def eqlH : BinH:=fun slow a b f=>on2 slow a b fun _ m n=>bo (Nat.beq m n) (f (.bool true)) (f (.bool false))
noncomputable def neqH : BinH:=fun slow a b f=>on2 slow a b fun _ m n=>bo (Nat.beq m n) (f (.bool false)) (f (.bool true))
noncomputable def lssH : BinH:=fun slow a b f=>on2 slow a b fun _ m n=>bo (Nat.ble (Nat.succ m) n) (f (.bool true)) (f (.bool false))
noncomputable def leqH : BinH:=fun slow a b f=>on2 slow a b fun _ m n=>bo (Nat.ble m n) (f (.bool true)) (f (.bool false))
noncomputable def gtrH : BinH:=fun slow a b f=>on2 slow a b fun _ m n=>bo (Nat.ble (Nat.succ n) m) (f (.bool true)) (f (.bool false))
noncomputable def geqH : BinH:=fun slow a b f=>on2 slow a b fun _ m n=>bo (Nat.ble n m) (f (.bool true)) (f (.bool false))
noncomputable def slowH : BinH:=fun slow _ _ _=>slow
noncomputable def binT (op : BinOp) : BinH:=BinOp.rec (motive:=fun _=>BinH) addH subH mulH quoH remH slowH slowH slowH slowH slowH slowH eqlH neqH lssH leqH gtrH geqH op
noncomputable def binA (P : Program) (op : BinOp) (t : TypeId) (xo yo : Operand) (a b : AV) : Option AV:=if guardOk P op t xo yo a b then binV P op t a b else none
noncomputable def binC (P : Program) (op : BinOp) (t : TypeId) (xo yo : Operand) (a b : AV) (f : AV→R) : R:=binT op (ob (binA P op t xo yo a b) f) a b f
theorem boo {b : Bool} {p q : R} {r : Rt × St} (h : bo b p q = some r) : (b = true∧p = some r)∨(b = false∧q = some r):=by
 cases b with
 | false=>exact .inr ⟨rfl,h⟩
 | true=>exact .inl ⟨rfl,h⟩
theorem beq_ofNat (m n : Nat) : ((Int.ofNat m == Int.ofNat n) : Bool) = Nat.beq m n:=by
 by_cases h : m = n
 ·subst h;simp
 ·have : Nat.beq m n = false:=by
   cases hb : Nat.beq m n with
   | false=>rfl
   | true=>exact absurd (Nat.eq_of_beq_eq_true hb) h
  rw [this,beq_eq_false_iff_ne];intro e;exact h (Int.ofNat.inj e)
theorem ble_dec (m n : Nat) : decide (Int.ofNat m≤Int.ofNat n) = Nat.ble m n:=by
 by_cases h : m≤n
 ·rw [Nat.ble_eq_true_of_le h];simpa using h
 ·have : Nat.ble m n = false:=by
   cases hb : Nat.ble m n with
   | false=>rfl
   | true=>exact absurd (Nat.le_of_ble_eq_true hb) h
  rw [this];simpa using h
theorem blt_dec (m n : Nat) : decide (Int.ofNat m < Int.ofNat n) = Nat.ble (Nat.succ m) n:=by
 rw [← ble_dec];congr 1
theorem binC_some {op : BinOp} {t : TypeId} {xo yo : Operand} {a b : AV} {f : AV→R} {r : Rt × St} (h : binC P op t xo yo a b f = some r) : ∃ v,binA P op t xo yo a b = some v∧f v = some r:=by
 have hs : ob (binA P op t xo yo a b) f = some r→∃ v,binA P op t xo yo a b = some v∧f v = some r:=ob_some
 have hv : ∀ k m n v,a = .int k m→b = .int k n→f v = some r→binI op k m k n = some v→∃ v,binA P op t xo yo a b = some v∧f v = some r:=by
  rintro k m n v rfl rfl h1 h2
  refine ⟨v,?_,h1⟩
  rw [← h2];cases op<;>rfl
 unfold binC at h
 cases op
 case and | or | xor | shl | shr | andNot=>exact hs h
 all_goals
  rcases on2_some (show on2 _ _ _ _ = _ from h) with h | ⟨k,m,n,ha,hb,h⟩
  ·exact hs h
 ·rcases fitN_some h with h | ⟨hw,h⟩
  ·exact hs h
  ·exact hv k _ _ _ ha hb h (by simp only [binI,if_true];exact congrArg (fun z=>some (AV.int k z)) hw)
 ·rcases boo h with ⟨hc,h⟩ | ⟨_,h⟩
  ·rcases fitN_some h with h | ⟨hw,h⟩
   ·exact hs h
   ·have hc:=Nat.le_of_ble_eq_true hc
    refine hv k _ _ _ ha hb h ?_
    simp only [binI,if_true]
    rw [show (Int.ofNat m - Int.ofNat n) = Int.ofNat (m - n) by simp only [Int.ofNat_eq_natCast];omega]
    exact congrArg (fun z=>some (AV.int k z)) hw
  ·exact hs h
 ·rcases fitN_some h with h | ⟨hw,h⟩
  ·exact hs h
  ·exact hv k _ _ _ ha hb h (by simp only [binI,if_true];exact congrArg (fun z=>some (AV.int k z)) hw)
 ·rcases boo h with ⟨hc,h⟩ | ⟨_,h⟩
  ·rcases fitN_some h with h | ⟨hw,h⟩
   ·exact hs h
   ·have hc:=Nat.le_of_ble_eq_true hc
    refine hv k _ _ _ ha hb h ?_
    simp only [binI,if_true]
    rw [if_neg (by simp only [Int.ofNat_eq_natCast];omega)]
    exact congrArg (fun z=>some (AV.int k z)) hw
  ·exact hs h
 ·rcases boo h with ⟨hc,h⟩ | ⟨_,h⟩
  ·have hc:=Nat.le_of_ble_eq_true hc
   rw [lit_eq] at h
   refine hv k _ _ _ ha hb h ?_
   simp only [binI,if_true]
   rw [if_neg (by simp only [Int.ofNat_eq_natCast];omega)];rfl
  ·exact hs h
 ·rcases boo h with ⟨hc,h⟩ | ⟨hc,h⟩<;>exact hv k _ _ _ ha hb h (by simp only [binI,if_true,beq_ofNat,hc])
 ·rcases boo h with ⟨hc,h⟩ | ⟨hc,h⟩<;>exact hv k _ _ _ ha hb h (by simp only [binI,if_true,bne,beq_ofNat,hc,Bool.not_true,Bool.not_false])
 ·rcases boo h with ⟨hc,h⟩ | ⟨hc,h⟩<;>exact hv k _ _ _ ha hb h (by simp only [binI,if_true,blt_dec,hc])
 ·rcases boo h with ⟨hc,h⟩ | ⟨hc,h⟩<;>exact hv k _ _ _ ha hb h (by simp only [binI,if_true,ble_dec,hc])
 ·rcases boo h with ⟨hc,h⟩ | ⟨hc,h⟩<;>exact hv k _ _ _ ha hb h (by simp only [binI,if_true,blt_dec,hc])
 ·rcases boo h with ⟨hc,h⟩ | ⟨hc,h⟩<;>exact hv k _ _ _ ha hb h (by simp only [binI,if_true,ble_dec,hc])
end Go.Abs
namespace Go.Abs
variable {P : Program}
noncomputable def takeK (l : List AV) : Nat→(List AV→R)→R:=
 List.rec (motive:=fun _=>Nat→(List AV→R)→R) (fun n K=>Nat.rec (motive:=fun _=>R) (K []) (fun _ _=>none) n) (fun a _ ih n K=>Nat.rec (motive:=fun _=>R) (K []) (fun m _=>ih m fun r=>K (a :: r)) n) l
theorem takeK_some : ∀ {l : List AV} {n : Nat} {K : List AV→R} {r : Rt × St},takeK l n K = some r→n≤l.length∧K (l.take n) = some r
 | [],0,K,r,h=>⟨Nat.le_refl _,h⟩
 | [],n + 1,K,r,h=>by cases h
 | a :: l,0,K,r,h=>⟨Nat.zero_le _,h⟩
 | a :: l,n + 1,K,r,h=>by
  obtain ⟨h1,h2⟩:=takeK_some (l:=l) (n:=n) (K:=fun r=>K (a :: r)) h
  exact ⟨by simpa using h1,h2⟩
noncomputable def dropK (l : List AV) : Nat→(List AV→R)→R:=
 List.rec (motive:=fun _=>Nat→(List AV→R)→R) (fun n K=>Nat.rec (motive:=fun _=>R) (K []) (fun _ _=>none) n) (fun a tl ih n K=>Nat.rec (motive:=fun _=>R) (K (a :: tl)) (fun m _=>ih m K) n) l
theorem dropK_some : ∀ {l : List AV} {n : Nat} {K : List AV→R} {r : Rt × St},dropK l n K = some r→n≤l.length∧K (l.drop n) = some r
 | [],0,K,r,h=>⟨Nat.le_refl _,h⟩
 | [],n + 1,K,r,h=>by cases h
 | a :: l,0,K,r,h=>⟨Nat.zero_le _,h⟩
 | a :: l,n + 1,K,r,h=>by
  obtain ⟨h1,h2⟩:=dropK_some (l:=l) (n:=n) (K:=K) h
  exact ⟨by simpa using h1,h2⟩
noncomputable def splK (l : List AV) : Nat→List AV→(List AV→R)→R:=
 List.rec (motive:=fun _=>Nat→List AV→(List AV→R)→R)
  (fun n vs K=>Nat.rec (motive:=fun _=>R) (List.rec (motive:=fun _=>R) (K []) (fun _ _ _=>none) vs) (fun _ _=>none) n)
  (fun a tl ih n vs K=>Nat.rec (motive:=fun _=>R) (List.rec (motive:=fun _=>R) (K (a :: tl)) (fun v vs _=>ih 0 vs fun l=>K (v :: l)) vs) (fun m _=>ih m vs fun l=>K (a :: l)) n) l
theorem splK_some : ∀ {l : List AV} {n : Nat} {vs : List AV} {K : List AV→R} {r : Rt × St},splK l n vs K = some r→n + vs.length≤l.length∧K (spl n vs l) = some r
 | [],0,[],K,r,h=>⟨Nat.le_refl _,h⟩
 | [],0,v :: vs,K,r,h=>by cases h
 | [],n + 1,vs,K,r,h=>by cases h
 | a :: l,0,[],K,r,h=>⟨Nat.zero_le _,h⟩
 | a :: l,0,v :: vs,K,r,h=>by
  obtain ⟨h1,h2⟩:=splK_some (l:=l) (n:=0) (vs:=vs) (K:=fun l=>K (v :: l)) h
  refine ⟨by simp at h1 ⊢;omega,?_⟩
  have : spl 0 (v :: vs) (a :: l) = v :: spl 0 vs l:=by simp [spl]
  rw [this];exact h2
 | a :: l,n + 1,vs,K,r,h=>by
  obtain ⟨h1,h2⟩:=splK_some (l:=l) (n:=n) (vs:=vs) (K:=fun l=>K (a :: l)) h
  refine ⟨by simp at h1 ⊢;omega,?_⟩
  have : spl (n + 1) vs (a :: l) = a :: spl n vs l:=by simp [spl,Nat.add_right_comm]
  rw [this];exact h2
noncomputable def allOne (vs : List AV) : R→R:=List.rec (motive:=fun _=>R→R) (fun x=>x) (fun a _ ih x=>a.isOne (ih x) none) vs
theorem allOne_some : ∀ {vs : List AV} {x : R} {r : Rt × St},allOne vs x = some r→vs.all oneA = true∧x = some r
 | [],_,_,h=>⟨rfl,h⟩
 | a :: vs,x,r,h=>by
  have h : a.isOne (allOne vs x) none = some r:=h
  rw [isOne_eq] at h
  split at h
  ·rename_i h1
   obtain ⟨h2,h3⟩:=allOne_some h
   exact ⟨by simp only [List.all_cons,h1,h2,Bool.and_true],h3⟩
  ·cases h
noncomputable def lenF (l : List AV) : Nat:=List.rec (motive:=fun _=>Nat) 0 (fun _ _ ih=>Nat.succ ih) l
theorem lenF_eq : ∀ l : List AV,lenF l = l.length
 | []=>rfl
 | _ :: l=>congrArg Nat.succ (lenF_eq l)
noncomputable def setLK (vs : List AV) : Nat→List AV→(List AV→R)→R:=
 List.rec (motive:=fun _=>Nat→List AV→(List AV→R)→R) (fun _ cs K=>K cs) (fun v _ ih o cs K=>putK v cs o fun cs=>ih (Nat.succ o) cs K) vs
theorem setLK_some : ∀ {vs : List AV} {o : Nat} {cs : List AV} {K : List AV→R} {r : Rt × St},setLK vs o cs K = some r→(vs ≠ []→o + vs.length≤cs.length)∧K (setL o vs cs) = some r
 | [],_,_,_,_,h=>⟨fun h=>absurd rfl h,h⟩
 | v :: vs,o,cs,K,r,h=>by
  obtain ⟨h1,h2⟩:=putK_some (show putK v cs o (fun cs=>setLK vs (o + 1) cs K) = some r from h)
  obtain ⟨h3,h4⟩:=setLK_some h2
  refine ⟨fun _=>?_,h4⟩
  cases vs with
  | nil=>simp only [List.length_cons,List.length_nil];omega
  | cons w ws=>have:=h3 (by simp);simp only [List.length_set,List.length_cons] at this ⊢;omega
inductive PT where
 | mk (off size : Nat) (a : Ar)
noncomputable def fillK (ps : List PT) : Ev→List AV→(List AV→R)→R:=
 List.rec (motive:=fun _=>Ev→List AV→(List AV→R)→R) (fun _ cs K=>K cs)
  (fun p _ ih t cs K=>PT.rec (motive:=fun _=>R) (fun off size a=>(a.val t).force fun v=>bo (Nat.beq (lenF v.cellsF) size) (setLK v.cellsF off cs fun cs=>ih t cs K) none) p) ps
noncomputable def cParts (cA : Operand→Option Ar) (place : Nat→Option (Nat × Nat)) : List (Nat × Operand)→Option (List PT)
 | []=>some []
 | (i,x) :: r=>(cA x).bind fun a=>(place i).bind fun q=>if q.2 = 0 then none else (cParts cA place r).map (.mk q.1 q.2 a :: ·)
theorem fillK_some {cA : Operand→Option Ar} {α : Operand→Option AV} {t : Ev} (hA : ∀ {x a},cA x = some a→α x = some (a.val t)) {place : Nat→Option (Nat × Nat)} : ∀ {ps : List (Nat × Operand)} {qs : List PT} {cs : List AV} {K : List AV→R} {r : Rt × St},cParts cA place ps = some qs→fillK qs t cs K = some r→
  ∃ vs cs1,argP α ps = some vs∧fillA place cs vs = some cs1∧K cs1 = some r
 | [],qs,cs,K,r,hq,h=>by cases hq;exact ⟨[],cs,rfl,rfl,h⟩
 | (i,x) :: ps,qs,cs,K,r,hq,h=>by
  simp only [cParts,Option.bind_eq_some_iff] at hq
  obtain ⟨a,h1,⟨off,size⟩,h2,hq⟩:=hq
  split at hq
  ·cases hq
  rename_i hz
  simp only [Option.map_eq_some_iff] at hq
  obtain ⟨qs1,h3,rfl⟩:=hq
  have h : (a.val t).force (fun v=>bo (Nat.beq (lenF v.cellsF) size) (setLK v.cellsF off cs fun cs=>fillK qs1 t cs K) none) = some r:=h
  rw [force_eq,cellsF_eq,lenF_eq] at h
  obtain ⟨h4,h5⟩:=bo_some h
  have h4 : (cellsA (a.val t)).length = size:=Nat.eq_of_beq_eq_true h4
  obtain ⟨h6,h7⟩:=setLK_some h5
  obtain ⟨vs,cs1,h8,h9,h10⟩:=fillK_some hA h3 h7
  have hz : size ≠ 0:=hz
  have h6:=h6 (by intro e;rw [e] at h4;exact hz h4.symm)
  refine ⟨(i,a.val t) :: vs,cs1,by simp only [argP,hA h1,Option.bind_some,h8,Option.map_some],?_,h10⟩
  simp only [fillA,h2]
  rw [if_pos ⟨h4,by rw [h4] at h6;exact h6⟩]
  exact h9
noncomputable def ltI {γ : Type} (x y : Int) (p q : γ) : γ:=
 Int.rec (motive:=fun _=>γ) (fun m=>Int.rec (motive:=fun _=>γ) (fun n=>bo (Nat.ble (Nat.succ m) n) p q) (fun _=>q) y) (fun m=>Int.rec (motive:=fun _=>γ) (fun _=>p) (fun n=>bo (Nat.ble (Nat.succ n) m) p q) y) x
theorem ltI_eq {γ : Type} (x y : Int) (p q : γ) : ltI x y p q = if x < y then p else q:=by
 have hb : ∀ m n : Nat,bo (Nat.ble (Nat.succ m) n) p q = if m < n then p else q:=by
  intro m n
  rw [bo_eq]
  by_cases h : m < n
  ·rw [if_pos h,if_pos (Nat.ble_eq_true_of_le h)]
  ·rw [if_neg h,if_neg (fun e=>h (Nat.le_of_ble_eq_true e))]
 cases x with
 | ofNat m=>cases y with
  | ofNat n =>
   rw [show ltI (.ofNat m) (.ofNat n) p q = bo (Nat.ble (Nat.succ m) n) p q from rfl,hb]
   simp only [Int.ofNat_eq_natCast,Int.ofNat_lt]
  | negSucc n=>rw [if_neg (by simp only [Int.ofNat_eq_natCast];omega)];rfl
 | negSucc m=>cases y with
  | ofNat n=>rw [if_pos (by simp only [Int.ofNat_eq_natCast];omega)];rfl
  | negSucc n =>
   rw [show ltI (.negSucc m) (.negSucc n) p q = bo (Nat.ble (Nat.succ n) m) p q from rfl,hb]
   by_cases h : n < m
   ·rw [if_pos h,if_pos (by omega)]
   ·rw [if_neg h,if_neg (by omega)]
end Go.Abs

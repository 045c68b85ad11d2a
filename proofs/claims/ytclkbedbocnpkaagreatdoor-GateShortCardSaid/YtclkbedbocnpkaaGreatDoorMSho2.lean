/- A part of the proof: a run of the program on abstract values, shown to be a run of the machine. -/
import Derived.ControlIn
import Derived.Laws.StructEq
import Derived.ChangeKeysEq
import Derived.Laws.Build
import Derived.Laws.CopyRow
import Derived.Laws.Append
import Derived.MapFrom
set_option linter.unusedVariables false
set_option linter.unusedSimpArgs false
namespace Go.Abs
inductive AV where
 | int (k : IntKind) (n : Int)
 | bool (b : Bool)
 | str (s : ByteArray)
 | ptr (n o : Nat)
 | nilPtr
 | slice (n o len cap : Nat)
 | opn (n len : Nat)
 | nilSlice
 | func (f : FuncId) (first cap : List AV)
 | yld (l : Nat)
 | nilFunc
 | iface (t : TypeId) (v : AV)
 | nilIface
 | map (n : Nat)
 | nilMap
 | agg (cs : List AV)
 | tup (vs : List AV)
abbrev Env:=Nat→Option (Nat × Nat)
mutual
def conc (e : Env) : AV→Option Value
 | .int k n=>some (.int k n)
 | .bool b=>some (.bool b)
 | .str s=>some (.string s)
 | .ptr n o=>(e n).map fun p=>.pointer (some ⟨p.1,o,none⟩)
 | .nilPtr=>some (.pointer none)
 | .slice n o len cap=>(e n).map fun p=>.slice (some ⟨p.1,o,none⟩) len cap
 | .opn n len=>(e n).map fun p=>.slice (some ⟨p.1,0,none⟩) len p.2
 | .nilSlice=>some (.slice none 0 0)
 | .func f aas cs=>(concL e aas).bind fun x=>(concL e cs).map fun y=>.func (.func f) x.toArray y.toArray
 | .yld l=>(e l).map fun p=>.func (.yield p.1) #[] #[]
 | .nilFunc=>some .nilFunc
 | .iface t v=>(conc e v).map (.iface t)
 | .nilIface=>some .nilIface
 | .map n=>(e n).map fun p=>.map (some p.1)
 | .nilMap=>some (.map none)
 | .agg cs=>(concL e cs).map fun x=>.agg x.toArray
 | .tup cs=>(concL e cs).map fun x=>.tuple x.toArray
def concL (e : Env) : List AV→Option (List Value)
 | []=>some []
 | v :: vs=>(conc e v).bind fun x=>(concL e vs).map (x :: ·)
end
def Env.le (e e' : Env) : Prop:=∀ n p,e n = some p→e' n = some p
theorem Env.le.refl (e : Env) : e.le e:=fun _ _ h=>h
theorem Env.le.trans {a b c : Env} (h : a.le b) (k : b.le c) : a.le c:=fun n p x=>k n p (h n p x)
mutual
theorem conc_le {e e' : Env} (h : e.le e') : ∀ (v : AV) (x : Value),conc e v = some x→conc e' v = some x
 | .int ..,_,hx | .bool _,_,hx | .str _,_,hx | .nilPtr,_,hx | .nilSlice,_,hx | .nilFunc,_,hx | .nilIface,_,hx | .nilMap,_,hx=>by simpa [conc] using hx
 | .ptr n o,x,hx | .slice n o len cap,x,hx | .opn n len,x,hx | .yld n,x,hx | .map n,x,hx=>by
  simp only [conc,Option.map_eq_some_iff] at hx ⊢
  obtain ⟨p,hp,rfl⟩:=hx
  exact ⟨p,h _ _ hp,rfl⟩
 | .func f aas cs,x,hx=>by
  simp only [conc,Option.bind_eq_some_iff,Option.map_eq_some_iff] at hx ⊢
  obtain ⟨a,ha,c,hc,rfl⟩:=hx
  exact ⟨a,concL_le h aas a ha,c,concL_le h cs c hc,rfl⟩
 | .iface t v,x,hx=>by
  simp only [conc,Option.map_eq_some_iff] at hx ⊢
  obtain ⟨y,hy,rfl⟩:=hx
  exact ⟨y,conc_le h v y hy,rfl⟩
 | .agg cs,x,hx | .tup cs,x,hx=>by
  simp only [conc,Option.map_eq_some_iff] at hx ⊢
  obtain ⟨y,hy,rfl⟩:=hx
  exact ⟨y,concL_le h cs y hy,rfl⟩
theorem concL_le {e e' : Env} (h : e.le e') : ∀ (vs : List AV) (x : List Value),concL e vs = some x→concL e' vs = some x
 | [],_,hx=>by simpa [concL] using hx
 | v :: vs,x,hx=>by
  simp only [concL,Option.bind_eq_some_iff,Option.map_eq_some_iff] at hx ⊢
  obtain ⟨y,hy,ys,hys,rfl⟩:=hx
  exact ⟨y,conc_le h v y hy,ys,concL_le h vs ys hys,rfl⟩
end
theorem concL_length {e : Env} : ∀ {vs : List AV} {xs : List Value},concL e vs = some xs→xs.length = vs.length
 | [],_,h=>by simp [concL] at h;subst h;rfl
 | v :: vs,x,h=>by
  simp only [concL,Option.bind_eq_some_iff,Option.map_eq_some_iff] at h
  obtain ⟨y,_,ys,hys,rfl⟩:=h
  simp [concL_length hys]
theorem concL_get {e : Env} : ∀ {vs : List AV} {xs : List Value},concL e vs = some xs→∀ (i : Nat) (v : AV),vs[i]? = some v→∃ x,xs[i]? = some x∧conc e v = some x
 | [],_,_,i,v,hv=>by simp at hv
 | u :: vs,x,h,i,v,hv=>by
  simp only [concL,Option.bind_eq_some_iff,Option.map_eq_some_iff] at h
  obtain ⟨y,hy,ys,hys,rfl⟩:=h
  cases i with
  | zero=>simp at hv;subst hv;exact ⟨y,rfl,hy⟩
  | succ i=>simp at hv ⊢;exact concL_get hys i v hv
theorem concL_append {e : Env} : ∀ {aas bs : List AV} {xs ys : List Value},concL e aas = some xs→concL e bs = some ys→concL e (aas ++ bs) = some (xs ++ ys)
 | [],_,_,_,h,k=>by simp [concL] at h;subst h;simpa using k
 | a :: aas,bs,x,ys,h,k=>by
  simp only [concL,Option.bind_eq_some_iff,Option.map_eq_some_iff] at h
  obtain ⟨y,hy,zs,hzs,rfl⟩:=h
  simp only [List.cons_append,concL,Option.bind_eq_some_iff,Option.map_eq_some_iff]
  exact ⟨y,hy,_,concL_append hzs k,rfl⟩
theorem concL_set {e : Env} : ∀ {vs : List AV} {xs : List Value},concL e vs = some xs→∀ i {v : AV} {x : Value},conc e v = some x→concL e (vs.set i v) = some (xs.set i x)
 | [],_,h,i,v,x,hx=>by simp [concL] at h;subst h;simp [concL]
 | u :: vs,xs,h,i,v,x,hx=>by
  simp only [concL,Option.bind_eq_some_iff,Option.map_eq_some_iff] at h
  obtain ⟨y,hy,ys,hys,rfl⟩:=h
  cases i with
  | zero=>simp [concL,hx,hys]
  | succ i=>simp [concL,hy,concL_set hys i hx]
theorem concL_take {e : Env} : ∀ {vs : List AV} {xs : List Value},concL e vs = some xs→∀ n,concL e (vs.take n) = some (xs.take n)
 | [],_,h,n=>by simp [concL] at h;subst h;simp [concL]
 | u :: vs,xs,h,n=>by
  simp only [concL,Option.bind_eq_some_iff,Option.map_eq_some_iff] at h
  obtain ⟨y,hy,ys,hys,rfl⟩:=h
  cases n with
  | zero=>simp [concL]
  | succ n=>simp [concL,hy,concL_take hys n]
theorem concL_drop {e : Env} : ∀ {vs : List AV} {xs : List Value},concL e vs = some xs→∀ n,concL e (vs.drop n) = some (xs.drop n)
 | [],_,h,n=>by simp [concL] at h;subst h;simp [concL]
 | u :: vs,xs,h,n=>by
  cases n with
  | zero=>simpa using h
  | succ n =>
   simp only [concL,Option.bind_eq_some_iff,Option.map_eq_some_iff] at h
   obtain ⟨y,hy,ys,hys,rfl⟩:=h
   simpa using concL_drop hys n
theorem concL_replicate {e : Env} {v : AV} {x : Value} (h : conc e v = some x) : ∀ n,concL e (List.replicate n v) = some (List.replicate n x)
 | 0=>by simp [concL]
 | n + 1=>by simp [List.replicate_succ,concL,h,concL_replicate h n]
inductive Pt where
 | z
 | a (p : Pt)
 | b (p : Pt)
 | c (p : Pt)
 | d (p : Pt)
def Pt.num : Pt→Nat
 | .z=>0
 | .a p=>4 * p.num + 1
 | .b p=>4 * p.num + 2
 | .c p=>4 * p.num + 3
 | .d p=>4 * p.num + 4
noncomputable def Pt.succ (p : Pt) : Pt:=Pt.rec (motive:=fun _=>Pt) (.a .z) (fun p _=>.b p) (fun p _=>.c p) (fun p _=>.d p) (fun _ ih=>.a ih) p
theorem Pt.succ_num : ∀ p : Pt,p.succ.num = p.num + 1
 | .z=>rfl
 | .a p=>rfl
 | .b p=>rfl
 | .c p=>rfl
 | .d p=>by
  show 4 * (Pt.succ p).num + 1 = 4 * p.num + 4 + 1
  rw [Pt.succ_num p];omega
noncomputable def pathOf (n : Nat) : Pt:=Nat.rec (motive:=fun _=>Pt) .z (fun _ p=>Pt.succ p) n
theorem pathOf_num : ∀ n : Nat,(pathOf n).num = n
 | 0=>rfl
 | n + 1=>by
  show (Pt.succ (pathOf n)).num = n + 1
  rw [Pt.succ_num,pathOf_num n]
theorem pathOf_inj {n m : Nat} : pathOf n = pathOf m↔n = m:=⟨fun h=>by rw [← pathOf_num n,h,pathOf_num],fun h=>by rw [h]⟩
inductive T4 (α : Type) where
 | leaf
 | node (v : α) (a b c d : T4 α)
noncomputable def T4.get {α : Type} (u : α) (p : Pt) : T4 α→α:=
 Pt.rec (motive:=fun _=>T4 α→α)
  (fun t=>T4.rec (motive:=fun _=>α) u (fun v _ _ _ _ _ _ _ _=>v) t)
  (fun _ ih t=>T4.rec (motive:=fun _=>α) u (fun _ a _ _ _ _ _ _ _=>ih a) t)
  (fun _ ih t=>T4.rec (motive:=fun _=>α) u (fun _ _ b _ _ _ _ _ _=>ih b) t)
  (fun _ ih t=>T4.rec (motive:=fun _=>α) u (fun _ _ _ c _ _ _ _ _=>ih c) t)
  (fun _ ih t=>T4.rec (motive:=fun _=>α) u (fun _ _ _ _ d _ _ _ _=>ih d) t) p
noncomputable def T4.set {α : Type} (u x : α) (p : Pt) : T4 α→T4 α:=
 Pt.rec (motive:=fun _=>T4 α→T4 α)
  (fun t=>T4.rec (motive:=fun _=>T4 α) (.node x .leaf .leaf .leaf .leaf) (fun _ a b c d _ _ _ _=>.node x a b c d) t)
  (fun _ ih t=>T4.rec (motive:=fun _=>T4 α) (.node u (ih .leaf) .leaf .leaf .leaf) (fun v a b c d _ _ _ _=>.node v (ih a) b c d) t)
  (fun _ ih t=>T4.rec (motive:=fun _=>T4 α) (.node u .leaf (ih .leaf) .leaf .leaf) (fun v a b c d _ _ _ _=>.node v a (ih b) c d) t)
  (fun _ ih t=>T4.rec (motive:=fun _=>T4 α) (.node u .leaf .leaf (ih .leaf) .leaf) (fun v a b c d _ _ _ _=>.node v a b (ih c) d) t)
  (fun _ ih t=>T4.rec (motive:=fun _=>T4 α) (.node u .leaf .leaf .leaf (ih .leaf)) (fun v a b c d _ _ _ _=>.node v a b c (ih d)) t) p
theorem T4.get_leaf {α : Type} (u : α) (p : Pt) : T4.get u p .leaf = u:=by cases p<;>rfl
theorem T4.get_set_self {α : Type} (u x : α) : ∀ (p : Pt) (t : T4 α),T4.get u p (T4.set u x p t) = x:=by
 intro p
 induction p with
 | z=>intro t;cases t<;>rfl
 | a p ih | b p ih | c p ih | d p ih=>intro t;cases t<;>exact ih _
theorem T4.get_set_ne {α : Type} (u x : α) : ∀ (p q : Pt) (t : T4 α),q ≠ p→T4.get u q (T4.set u x p t) = T4.get u q t:=by
 intro p
 induction p with
 | z=>intro q t h;cases q<;>cases t<;>first | exact absurd rfl h | rfl | exact T4.get_leaf ..
 | a p ih =>
  intro q t h
  cases q with
  | a q=>cases t with
   | leaf=>exact (ih q .leaf fun e=>h (e ▸ rfl)).trans (T4.get_leaf ..)
   | node v a b c d=>exact ih q a fun e=>h (e ▸ rfl)
  | z | b q | c q | d q=>cases t<;>first | rfl | exact T4.get_leaf ..
 | b p ih =>
  intro q t h
  cases q with
  | b q=>cases t with
   | leaf=>exact (ih q .leaf fun e=>h (e ▸ rfl)).trans (T4.get_leaf ..)
   | node v a b c d=>exact ih q b fun e=>h (e ▸ rfl)
  | z | a q | c q | d q=>cases t<;>first | rfl | exact T4.get_leaf ..
 | c p ih =>
  intro q t h
  cases q with
  | c q=>cases t with
   | leaf=>exact (ih q .leaf fun e=>h (e ▸ rfl)).trans (T4.get_leaf ..)
   | node v a b c d=>exact ih q c fun e=>h (e ▸ rfl)
  | z | a q | b q | d q=>cases t<;>first | rfl | exact T4.get_leaf ..
 | d p ih =>
  intro q t h
  cases q with
  | d q=>cases t with
   | leaf=>exact (ih q .leaf fun e=>h (e ▸ rfl)).trans (T4.get_leaf ..)
   | node v a b c d=>exact ih q d fun e=>h (e ▸ rfl)
  | z | a q | b q | c q=>cases t<;>first | rfl | exact T4.get_leaf ..
abbrev Tr (α : Type):=T4 (Option α)
abbrev Tr.leaf {α : Type} : Tr α:=T4.leaf
noncomputable def Tr.get {α : Type} (t : Tr α) (n : Nat) : Option α:=T4.get none (pathOf n) t
noncomputable def Tr.set {α : Type} (t : Tr α) (n : Nat) (x : Option α) : Tr α:=T4.set none x (pathOf n) t
theorem Tr.get_leaf {α : Type} (n : Nat) : (Tr.leaf : Tr α).get n = none:=T4.get_leaf ..
theorem Tr.get_set {α : Type} (x : Option α) (t : Tr α) (n m : Nat) : (t.set n x).get m = if m = n then x else t.get m:=by
 show T4.get none (pathOf m) (T4.set none x (pathOf n) t) = _
 by_cases h : m = n
 ·subst h;rw [if_pos rfl];exact T4.get_set_self ..
 ·rw [if_neg h];exact T4.get_set_ne _ _ _ _ _ fun e=>h (pathOf_inj.1 e)
noncomputable def getR (u : AV) (l : List AV) : Nat→AV:=
 List.rec (motive:=fun _=>Nat→AV) (fun _=>u) (fun a _ ih n=>Nat.rec (motive:=fun _=>AV) a (fun m _=>ih m) n) l
noncomputable def setR (v : AV) (l : List AV) : Nat→List AV:=
 List.rec (motive:=fun _=>Nat→List AV) (fun _=>[]) (fun a t ih n=>Nat.rec (motive:=fun _=>List AV) (v :: t) (fun m _=>a :: ih m) n) l
theorem getR_eq (u : AV) : ∀ (l : List AV) (n : Nat),getR u l n = l.getD n u
 | [],n=>by simp [getR]
 | a :: l,0=>rfl
 | a :: l,n + 1=>by
  show getR u l n = _
  rw [getR_eq u l n];simp
theorem setR_eq (v : AV) : ∀ (l : List AV) (n : Nat),setR v l n = l.set n v
 | [],n=>rfl
 | a :: l,0=>rfl
 | a :: l,n + 1=>by
  show a :: setR v l n = _
  rw [setR_eq v l n];rfl
end Go.Abs
namespace Go.Abs
inductive Blk where
 | cells (t : TypeId) (k : Option Nat) (cs : List AV)
 | iter (s : ByteArray) (pos : Nat)
 | map (es : List (AV × AV × Nat)) (clock : Nat)
 | loop (state : LoopState) (pending : Option Code) (tmps : List AV) (params : Array Tmp) (assign body : Code) (defers : Nat)
 | defr
 | gone
 | ro (t : TypeId) (k : Option Nat) (cs : List AV)
def Blk.rw : Blk→Prop
 | .ro _ _ _=>False
 | _=>True
structure St where
 heap : Tr Blk
 next : Nat
 log : List Nat
def concM (e : Env) : List (AV × AV × Nat)→Option (List MapEntry)
 | []=>some []
 | (k,v,b) :: es=>(conc e k).bind fun x=>(conc e v).bind fun y=>(concM e es).map (⟨x,y,b⟩ :: ·)
theorem concM_le {e e' : Env} (h : e.le e') : ∀ (es : List (AV × AV × Nat)) (x : List MapEntry),concM e es = some x→concM e' es = some x
 | [],_,hx=>by simpa [concM] using hx
 | (k,v,b) :: es,x,hx=>by
  simp only [concM,Option.bind_eq_some_iff,Option.map_eq_some_iff] at hx ⊢
  obtain ⟨a,ha,c,hc,ys,hys,rfl⟩:=hx
  exact ⟨a,conc_le h _ _ ha,c,conc_le h _ _ hc,ys,concM_le h es ys hys,rfl⟩
def BlkRel (e : Env) (q : Nat) : Blk→Obj→Prop
 | .cells t none cs,ob=>∃ vs,concL e cs = some vs∧ob = .cells vs.toArray t (0,0)
 | .cells t (some k) cs,ob=>∃ vs rest,concL e cs = some vs∧ob = .cells (vs ++ rest).toArray t (0,0)∧(vs ++ rest).length = q * k
 | .iter s pos,ob=>ob = .stringIter s pos
 | .map es c,ob=>∃ ms,concM e es = some ms∧ob = .map ms.toArray c
 | .loop st pend tmps ps aas bd d,ob=>∃ fn ts p,concL e tmps = some ts∧e d = some p∧ob = .loop { state:=st,pending:=pend,fn,tmps:=ts.toArray,params:=ps,assign:=aas,body:=bd,defers:=p.1 }
 | .defr,ob=>ob = .deferred (some [])
 | .gone,ob=>ob = .deferred none
 | .ro t k cs,ob=>∃ vs rest,concL e cs = some vs∧ob = .cells (vs ++ rest).toArray t (0,0)∧∀ m,k = some m→(vs ++ rest).length = q * m
theorem BlkRel.le {e e' : Env} (h : e.le e') {q : Nat} {blk : Blk} {ob : Obj} (r : BlkRel e q blk ob) : BlkRel e' q blk ob:=by
 cases blk with
 | cells t k cs =>
  cases k with
  | none=>obtain ⟨vs,h1,h2⟩:=r;exact ⟨vs,concL_le h _ _ h1,h2⟩
  | some k=>obtain ⟨vs,rest,h1,h2⟩:=r;exact ⟨vs,rest,concL_le h _ _ h1,h2⟩
 | iter s pos=>exact r
 | map es c=>obtain ⟨ms,h1,h2⟩:=r;exact ⟨ms,concM_le h _ _ h1,h2⟩
 | loop st pend tmps ps aas bd d=>obtain ⟨fn,ts,p,h1,h2,h3⟩:=r;exact ⟨fn,ts,p,concL_le h _ _ h1,h _ _ h2,h3⟩
 | defr=>exact r
 | gone=>exact r
 | ro t k cs=>obtain ⟨vs,rest,h1,h2⟩:=r;exact ⟨vs,rest,concL_le h _ _ h1,h2⟩
def Own (e : Env) (s : St) (b : Nat) : Prop:=∃ n blk q,s.heap.get n = some blk∧blk.rw∧e n = some (b,q)
def Met (e : Env) (s : St) (b : Nat) : Prop:=∃ n blk q,s.heap.get n = some blk∧e n = some (b,q)
structure Sim (e : Env) (s : St) (w : World) : Prop where
 at_ : ∀ n blk,s.heap.get n = some blk→∃ b q ob,e n = some (b,q)∧w.heap[b]? = some ob∧BlkRel e q blk ob
 inj : ∀ n m b q q' x y,s.heap.get n = some x→x.rw→s.heap.get m = some y→e n = some (b,q)→e m = some (b,q')→n = m
 bound : ∀ n b q,e n = some (b,q)→b < w.heap.size
structure Goes (e : Env) (s : St) (w : World) (e' : Env) (s' : St) (w' : World) : Prop where
 le : e.le e'
 rng : ∀ n,e' n ≠ none→e n ≠ none∨(s.next≤n∧n < s'.next)
 own : ∀ b,b < w.heap.size→Own e' s' b→Own e s b
 met : ∀ b,b < w.heap.size→Met e' s' b→Met e s b
 frame : ∀ b,b < w.heap.size→¬ Own e s b→w'.heap[b]? = w.heap[b]?
 size : w.heap.size≤w'.heap.size
 os : w'.os = w.os
 tape : w'.tape = w.tape
 output : w'.output = w.output
 log : ∀ n,n ∉ s'.log→s'.heap.get n = s.heap.get n
 logs : ∀ n,n ∈ s.log→n ∈ s'.log
 next : s.next≤s'.next
def Free (e : Env) (a b : Nat) : Prop:=∀ n,a≤n→n < b→e n = none
theorem Goes.refl (e : Env) (s : St) (w : World) : Goes e s w e s w:=
 ⟨Env.le.refl e,fun _ h=>.inl h,fun _ _ h=>h,fun _ _ h=>h,fun _ _ _=>rfl,Nat.le_refl _,rfl,rfl,rfl,fun _ _=>rfl,fun _ h=>h,Nat.le_refl _⟩
theorem Goes.trans {e₀ e₁ e₂ : Env} {s₀ s₁ s₂ : St} {w₀ w₁ w₂ : World} (h : Goes e₀ s₀ w₀ e₁ s₁ w₁) (k : Goes e₁ s₁ w₁ e₂ s₂ w₂) : Goes e₀ s₀ w₀ e₂ s₂ w₂ where
 le:=h.le.trans k.le
 rng:=fun n hn=>by
  rcases k.rng n hn with x | ⟨a,b⟩
  ·rcases h.rng n x with y | ⟨c,d⟩
   ·exact .inl y
   ·exact .inr ⟨c,Nat.lt_of_lt_of_le d k.next⟩
  ·exact .inr ⟨Nat.le_trans h.next a,b⟩
 own:=fun b hb o=>h.own b hb (k.own b (Nat.lt_of_lt_of_le hb h.size) o)
 met:=fun b hb o=>h.met b hb (k.met b (Nat.lt_of_lt_of_le hb h.size) o)
 frame:=fun b hb no=>(k.frame b (Nat.lt_of_lt_of_le hb h.size) fun o=>no (h.own b hb o)).trans (h.frame b hb no)
 size:=Nat.le_trans h.size k.size
 os:=k.os.trans h.os
 tape:=k.tape.trans h.tape
 output:=k.output.trans h.output
 log:=fun n hn=>(k.log n hn).trans (h.log n fun x=>hn (k.logs n x))
 logs:=fun n hn=>k.logs n (h.logs n hn)
 next:=Nat.le_trans h.next k.next
theorem Goes.free {e e' : Env} {s s' : St} {w w' : World} (h : Goes e s w e' s' w') {a b : Nat} (hf : Free e a b) (ha : s'.next≤a) : Free e' a b:=by
 intro n h1 h2
 cases hn : e' n with
 | none=>rfl
 | some p =>
  rcases h.rng n (by simp [hn]) with x | ⟨_,y⟩
  ·exact absurd (hf n h1 h2) x
  ·omega
theorem Goes.drawn {e : Env} {s : St} {w : World} (n : Nat) : Goes e s w e s { w with drawn:=n }:=
 ⟨Env.le.refl e,fun _ h=>.inl h,fun _ _ h=>h,fun _ _ h=>h,fun _ _ _=>rfl,Nat.le_refl _,rfl,rfl,rfl,fun _ _=>rfl,fun _ h=>h,Nat.le_refl _⟩
theorem Sim.drawn {e : Env} {s : St} {w : World} (h : Sim e s w) (n : Nat) : Sim e s { w with drawn:=n }:=⟨h.at_,h.inj,h.bound⟩
noncomputable def St.put (s : St) (n : Nat) (x : Blk) : St:={ heap:=s.heap.set n (some x),next:=s.next,log:=n :: s.log }
noncomputable def St.add (s : St) (x : Blk) : St:={ heap:=s.heap.set s.next (some x),next:=s.next + 1,log:=s.next :: s.log }
noncomputable def St.shift (s : St) (n : Nat) (x : Blk) : St:={ heap:=(s.heap.set n none).set s.next (some x),next:=s.next + 1,log:=s.next :: n :: s.log }
theorem Sim.put {e : Env} {s : St} {w w' : World} (h : Sim e s w) {n b q : Nat} {blk blk' : Blk} {ob : Obj} (hn : s.heap.get n = some blk) (hrw : blk.rw) (he : e n = some (b,q))
 (hs : w'.heap.size = w.heap.size) (hb : w'.heap[b]? = some ob) (ho : ∀ k,k ≠ b→w'.heap[k]? = w.heap[k]?) (hr : BlkRel e q blk' ob)
 (h1 : w'.os = w.os) (h2 : w'.tape = w.tape) (h3 : w'.output = w.output) : Sim e (s.put n blk') w'∧Goes e s w e (s.put n blk') w':=by
 refine ⟨⟨?_,?_,fun m b' q' hm=>by rw [hs];exact h.bound m b' q' hm⟩,⟨Env.le.refl e,fun _ h=>.inl h,?_,?_,?_,by omega,h1,h2,h3,?_,?_,Nat.le_refl _⟩⟩
 ·intro m x hx
  simp only [St.put,Tr.get_set] at hx
  split at hx
  ·subst m;cases hx;exact ⟨b,q,ob,he,hb,hr⟩
  ·rename_i hne
   obtain ⟨b',q',ob',he',hb',hr'⟩:=h.at_ m x hx
   refine ⟨b',q',ob',he',?_,hr'⟩
   rw [ho b' ?_];· exact hb'
   intro e0;subst e0
   exact hne (h.inj n m b' q q' _ _ hn hrw hx he he').symm
 ·intro m k b' q1 q2 x y hm hmr hk em ek
  have hk' : ∃ y',s.heap.get k = some y':=by
   simp only [St.put,Tr.get_set] at hk;split at hk
   ·subst k;exact ⟨_,hn⟩
   ·exact ⟨_,hk⟩
  obtain ⟨y',hk'⟩:=hk'
  simp only [St.put,Tr.get_set] at hm;split at hm
  ·subst m;exact h.inj n k b' q1 q2 _ _ hn hrw hk' em ek
  ·exact h.inj m k b' q1 q2 _ _ hm hmr hk' em ek
 ·rintro b' _ ⟨m,x,q',hx,hxr,hm⟩
  simp only [St.put,Tr.get_set] at hx
  split at hx
  ·subst m;exact ⟨n,blk,q',hn,hrw,hm⟩
  ·exact ⟨m,x,q',hx,hxr,hm⟩
 ·rintro b' _ ⟨m,x,q',hx,hm⟩
  simp only [St.put,Tr.get_set] at hx
  split at hx
  ·subst m;exact ⟨n,blk,q',hn,hm⟩
  ·exact ⟨m,x,q',hx,hm⟩
 ·intro b' _ no
  exact ho b' fun e0=>no (e0 ▸ ⟨n,blk,q,hn,hrw,he⟩)
 ·intro m hm
  simp only [St.put,List.mem_cons,not_or] at hm ⊢
  rw [Tr.get_set,if_neg hm.1]
 ·intro m hm;exact List.mem_cons_of_mem _ hm
def Env.upd (e : Env) (n : Nat) (p : Nat × Nat) : Env:=fun m=>if m = n then some p else e m
theorem Env.upd_self (e : Env) (n : Nat) (p : Nat × Nat) : e.upd n p n = some p:=by simp [Env.upd]
theorem Env.upd_ne (e : Env) {n m : Nat} (p : Nat × Nat) (h : m ≠ n) : e.upd n p m = e m:=by simp [Env.upd,h]
theorem Env.le_upd {e : Env} {n : Nat} (p : Nat × Nat) (h : e n = none) : e.le (e.upd n p):=by
 intro m x hx
 by_cases hm : m = n
 ·subst hm;rw [h] at hx;cases hx
 ·rw [Env.upd_ne _ _ hm];exact hx
theorem Sim.none_of_free {e : Env} {s : St} {w : World} (h : Sim e s w) {n : Nat} (hn : e n = none) : s.heap.get n = none:=by
 cases hx : s.heap.get n with
 | none=>rfl
 | some x=>obtain ⟨b,q,ob,he,_⟩:=h.at_ n x hx;rw [hn] at he;cases he
theorem Sim.add {e : Env} {s : St} {w w' : World} (h : Sim e s w) (q : Nat) {blk : Blk} {ob : Obj} (hfree : e s.next = none)
 (hs : w'.heap.size = w.heap.size + 1) (hb : w'.heap[w.heap.size]? = some ob) (ho : ∀ k,k < w.heap.size→w'.heap[k]? = w.heap[k]?)
 (hr : BlkRel (e.upd s.next (w.heap.size,q)) q blk ob) (h1 : w'.os = w.os) (h2 : w'.tape = w.tape) (h3 : w'.output = w.output) :
 Sim (e.upd s.next (w.heap.size,q)) (s.add blk) w'∧Goes e s w (e.upd s.next (w.heap.size,q)) (s.add blk) w':=by
 have hle:=Env.le_upd (w.heap.size,q) hfree
 refine ⟨⟨?_,?_,?_⟩,⟨hle,?_,?_,?_,fun b hb' _=>ho b hb',by omega,h1,h2,h3,?_,?_,Nat.le_succ _⟩⟩
 ·intro m x hx
  simp only [St.add,Tr.get_set] at hx
  split at hx
  ·subst m;cases hx;exact ⟨w.heap.size,q,ob,Env.upd_self ..,hb,hr⟩
  ·obtain ⟨b',q',ob',he',hb',hr'⟩:=h.at_ m x hx
   exact ⟨b',q',ob',hle _ _ he',(ho b' (h.bound m b' q' he')).trans hb',hr'.le hle⟩
 ·intro m k b' q1 q2 x y hm hmr hk em ek
  simp only [St.add,Tr.get_set] at hm hk
  by_cases e1 : m = s.next<;>by_cases e2 : k = s.next
  ·rw [e1,e2]
  ·subst e1;rw [Env.upd_self] at em;cases em;rw [Env.upd_ne _ _ e2] at ek;exact absurd (h.bound k _ _ ek) (Nat.lt_irrefl _)
  ·subst e2;rw [Env.upd_self] at ek;cases ek;rw [Env.upd_ne _ _ e1] at em;exact absurd (h.bound m _ _ em) (Nat.lt_irrefl _)
  ·rw [if_neg e1] at hm;rw [if_neg e2] at hk;rw [Env.upd_ne _ _ e1] at em;rw [Env.upd_ne _ _ e2] at ek
   exact h.inj m k b' q1 q2 _ _ hm hmr hk em ek
 ·intro m b' q' hm
  by_cases e1 : m = s.next
  ·subst e1;rw [Env.upd_self] at hm;cases hm;omega
  ·rw [Env.upd_ne _ _ e1] at hm;have:=h.bound m b' q' hm;omega
 ·intro m hm
  by_cases e1 : m = s.next
  ·exact .inr ⟨by omega,by simp only [St.add];omega⟩
  ·rw [Env.upd_ne _ _ e1] at hm;exact .inl hm
 ·rintro b' hb' ⟨m,x,q',hx,hxr,hm⟩
  simp only [St.add,Tr.get_set] at hx
  by_cases e1 : m = s.next
  ·subst e1;rw [Env.upd_self] at hm;cases hm;exact absurd hb' (Nat.lt_irrefl _)
  ·rw [if_neg e1] at hx;rw [Env.upd_ne _ _ e1] at hm;exact ⟨m,x,q',hx,hxr,hm⟩
 ·rintro b' hb' ⟨m,x,q',hx,hm⟩
  simp only [St.add,Tr.get_set] at hx
  by_cases e1 : m = s.next
  ·subst e1;rw [Env.upd_self] at hm;cases hm;exact absurd hb' (Nat.lt_irrefl _)
  ·rw [if_neg e1] at hx;rw [Env.upd_ne _ _ e1] at hm;exact ⟨m,x,q',hx,hm⟩
 ·intro m hm
  simp only [St.add,List.mem_cons,not_or] at hm ⊢
  rw [Tr.get_set,if_neg hm.1]
 ·intro m hm;exact List.mem_cons_of_mem _ hm
theorem Sim.shift {e : Env} {s : St} {w w' : World} (h : Sim e s w) {n b q : Nat} {blk blk' : Blk} {ob : Obj} (hn : s.heap.get n = some blk) (hrw : blk.rw) (he : e n = some (b,q)) (hfree : e s.next = none)
 (hs : w'.heap.size = w.heap.size) (hb : w'.heap[b]? = some ob) (ho : ∀ k,k ≠ b→w'.heap[k]? = w.heap[k]?) (hr : BlkRel e q blk' ob)
 (h1 : w'.os = w.os) (h2 : w'.tape = w.tape) (h3 : w'.output = w.output) :
 Sim (e.upd s.next (b,q)) (s.shift n blk') w'∧Goes e s w (e.upd s.next (b,q)) (s.shift n blk') w':=by
 have hle:=Env.le_upd (b,q) hfree
 have hnn : n ≠ s.next:=fun e0=>by rw [e0,hfree] at he;cases he
 refine ⟨⟨?_,?_,?_⟩,⟨hle,?_,?_,?_,?_,by omega,h1,h2,h3,?_,?_,Nat.le_succ _⟩⟩
 ·intro m x hx
  simp only [St.shift,Tr.get_set] at hx
  split at hx
  ·subst m;cases hx;exact ⟨b,q,ob,Env.upd_self ..,hb,hr.le hle⟩
  ·split at hx
   ·cases hx
   ·rename_i hne
    obtain ⟨b',q',ob',he',hb',hr'⟩:=h.at_ m x hx
    refine ⟨b',q',ob',hle _ _ he',?_,hr'.le hle⟩
    rw [ho b' ?_];· exact hb'
    intro e0;subst e0
    exact hne (h.inj n m b' q q' _ _ hn hrw hx he he').symm
 ·intro m k b' q1 q2 x y hm hmr hk em ek
  simp only [St.shift,Tr.get_set] at hm hk
  by_cases e1 : m = s.next<;>by_cases e2 : k = s.next
  ·rw [e1,e2]
  ·subst e1;rw [Env.upd_self] at em;cases em;rw [Env.upd_ne _ _ e2] at ek;rw [if_neg e2] at hk
   split at hk
   ·cases hk
   ·rename_i hne;exact absurd (h.inj n k b q q2 _ _ hn hrw hk he ek).symm hne
  ·subst e2;rw [Env.upd_self] at ek;cases ek;rw [Env.upd_ne _ _ e1] at em;rw [if_neg e1] at hm
   split at hm
   ·cases hm
   ·rename_i hne;exact absurd (h.inj n m b q q1 _ _ hn hrw hm he em).symm hne
  ·rw [if_neg e1] at hm;rw [if_neg e2] at hk;rw [Env.upd_ne _ _ e1] at em;rw [Env.upd_ne _ _ e2] at ek
   split at hm
   ·cases hm
   ·split at hk
    ·cases hk
    ·exact h.inj m k b' q1 q2 _ _ hm hmr hk em ek
 ·intro m b' q' hm
  by_cases e1 : m = s.next
  ·subst e1;rw [Env.upd_self] at hm;cases hm;rw [hs];exact h.bound n _ _ he
  ·rw [Env.upd_ne _ _ e1] at hm;rw [hs];exact h.bound m b' q' hm
 ·intro m hm
  by_cases e1 : m = s.next
  ·exact .inr ⟨by omega,by simp only [St.shift];omega⟩
  ·rw [Env.upd_ne _ _ e1] at hm;exact .inl hm
 ·rintro b' hb' ⟨m,x,q',hx,hxr,hm⟩
  simp only [St.shift,Tr.get_set] at hx
  by_cases e1 : m = s.next
  ·subst e1;rw [Env.upd_self] at hm;cases hm;exact ⟨n,blk,q,hn,hrw,he⟩
  ·rw [if_neg e1] at hx;rw [Env.upd_ne _ _ e1] at hm
   split at hx
   ·cases hx
   ·exact ⟨m,x,q',hx,hxr,hm⟩
 ·rintro b' hb' ⟨m,x,q',hx,hm⟩
  simp only [St.shift,Tr.get_set] at hx
  by_cases e1 : m = s.next
  ·subst e1;rw [Env.upd_self] at hm;cases hm;exact ⟨n,blk,q,hn,he⟩
  ·rw [if_neg e1] at hx;rw [Env.upd_ne _ _ e1] at hm
   split at hx
   ·cases hx
   ·exact ⟨m,x,q',hx,hm⟩
 ·intro b' _ no
  exact ho b' fun e0=>no (e0 ▸ ⟨n,blk,q,hn,hrw,he⟩)
 ·intro m hm
  simp only [St.shift,List.mem_cons,not_or] at hm ⊢
  rw [Tr.get_set,if_neg hm.1,Tr.get_set,if_neg hm.2.1]
 ·intro m hm;exact List.mem_cons_of_mem _ (List.mem_cons_of_mem _ hm)
theorem Sim.sub {e : Env} {s s' : St} {w : World} (h : Sim e s w) (hsub : ∀ n x,s'.heap.get n = some x→s.heap.get n = some x) : Sim e s' w:=
 ⟨fun n x hx=>h.at_ n x (hsub n x hx),
 fun n m b q q' x y hn hr hm=>h.inj n m b q q' x y (hsub n x hn) hr (hsub m y hm),
 h.bound⟩
end Go.Abs
namespace Go.Abs
def ofVal1 : Value→Option AV
 | .int k n=>some (.int k n)
 | .bool b=>some (.bool b)
 | .string s=>some (.str s)
 | .pointer none=>some .nilPtr
 | .slice none 0 0=>some .nilSlice
 | .nilFunc=>some .nilFunc
 | .nilIface=>some .nilIface
 | .map none=>some .nilMap
 | _=>none
def ofValL : List Value→Option (List AV)
 | []=>some []
 | v :: vs=>(ofVal1 v).bind fun x=>(ofValL vs).map (x :: ·)
def ofVal : Value→Option AV
 | .agg cs=>(ofValL cs.toList).map .agg
 | .tuple cs=>(ofValL cs.toList).map .tup
 | v=>ofVal1 v
theorem conc_ofVal1 (e : Env) {v : Value} {a : AV} (h : ofVal1 v = some a) : conc e a = some v:=by
 cases v with
 | pointer p=>cases p<;>simp [ofVal1] at h;subst h;rfl
 | slice p l c =>
  cases p with
  | some _=>simp [ofVal1] at h
  | none =>
   cases l with
   | succ _=>simp [ofVal1] at h
   | zero =>
    cases c with
    | succ _=>simp [ofVal1] at h
    | zero=>simp [ofVal1] at h;subst h;rfl
 | map p=>cases p<;>simp [ofVal1] at h;subst h;rfl
 | _=>simp [ofVal1] at h<;>subst h<;>rfl
theorem concL_ofValL (e : Env) : ∀ {vs : List Value} {aas : List AV},ofValL vs = some aas→concL e aas = some vs
 | [],_,h=>by simp [ofValL] at h;subst h;rfl
 | v :: vs,aas,h=>by
  simp only [ofValL,Option.bind_eq_some_iff,Option.map_eq_some_iff] at h
  obtain ⟨x,hx,ys,hys,rfl⟩:=h
  simp [concL,conc_ofVal1 e hx,concL_ofValL e hys]
theorem conc_ofVal (e : Env) {v : Value} {a : AV} (h : ofVal v = some a) : conc e a = some v:=by
 unfold ofVal at h
 split at h
 ·simp only [Option.map_eq_some_iff] at h
  obtain ⟨ys,hys,rfl⟩:=h
  simp [conc,concL_ofValL e hys]
 ·simp only [Option.map_eq_some_iff] at h
  obtain ⟨ys,hys,rfl⟩:=h
  simp [conc,concL_ofValL e hys]
 ·exact conc_ofVal1 e h
noncomputable def arg (tm : List AV) : Operand→Option AV
 | .tmp t=>some (getR (.tup []) tm t)
 | .const v=>ofVal v
 | .global _=>none
 | .func f=>some (.func f [] [])
def Reads (e : Env) (α : Operand→Option AV) (ρ : Operand→Value) : Prop:=∀ x u,α x = some u→conc e u = some (ρ x)
theorem reads_arg {e : Env} {tm : List AV} {ts : List Value} (h : concL e tm = some ts) (a : Act) (ha : a.tmps = ts.toArray) : Reads e (arg tm) a.eval:=by
 intro x u hu
 cases x with
 | tmp t =>
  simp only [arg,Option.some.injEq,getR_eq] at hu
  subst hu
  simp only [Act.eval,ha]
  by_cases ht : t < tm.length
  ·obtain ⟨x,hx,hc⟩:=concL_get h t tm[t] (by simp [ht])
   have hl:=concL_length h
   simp only [List.getD_eq_getElem?_getD,List.getElem?_eq_getElem ht,Option.getD_some,hc,Array.getD_eq_getD_getElem?,List.getElem?_toArray,hx]
  ·have hl:=concL_length h
   simp only [List.getD_eq_getElem?_getD,List.getElem?_eq_none (Nat.le_of_not_lt ht),Option.getD_none,Array.getD_eq_getD_getElem?,List.getElem?_toArray,List.getElem?_eq_none (show ts.length≤t by rw [hl];exact Nat.le_of_not_lt ht)]
   simp [conc,concL,undef]
 | const v=>exact conc_ofVal e hu
 | global g=>simp [arg] at hu
 | func f=>simp only [arg,Option.some.injEq] at hu;subst hu;rfl
def argL (α : Operand→Option AV) : List Operand→Option (List AV)
 | []=>some []
 | x :: xs=>(α x).bind fun v=>(argL α xs).map (v :: ·)
theorem reads_argL {e : Env} {α : Operand→Option AV} {ρ : Operand→Value} (h : Reads e α ρ) : ∀ (xs : List Operand) (us : List AV),argL α xs = some us→concL e us = some (xs.map ρ)
 | [],_,hu=>by simp [argL] at hu;subst hu;rfl
 | x :: xs,us,hu=>by
  simp only [argL,Option.bind_eq_some_iff,Option.map_eq_some_iff] at hu
  obtain ⟨v,hv,vs,hvs,rfl⟩:=hu
  simp [concL,h x v hv,reads_argL h xs vs hvs]
def binI (op : BinOp) (k : IntKind) (a : Int) (k' : IntKind) (b : Int) : Option AV:=
 match op with
 | .shl=>if b < 0 then none else some (.int k (k.wrap (a * 2 ^ (min b.toNat k.bits))))
 | .shr=>if b < 0 then none else some (.int k (a.fdiv (2 ^ (min b.toNat k.bits))))
 | _=>if k = k' then
  match op with
  | .add=>some (.int k (k.wrap (a + b)))
  | .sub=>some (.int k (k.wrap (a - b)))
  | .mul=>some (.int k (k.wrap (a * b)))
  | .quo=>if b = 0 then none else some (.int k (k.wrap (a.tdiv b)))
  | .rem=>if b = 0 then none else some (.int k (a.tmod b))
  | .and=>some (.int k (k.wrap (BitVec.ofInt k.bits a &&& BitVec.ofInt k.bits b).toNat))
  | .or=>some (.int k (k.wrap (BitVec.ofInt k.bits a ||| BitVec.ofInt k.bits b).toNat))
  | .xor=>some (.int k (k.wrap (BitVec.ofInt k.bits a ^^^ BitVec.ofInt k.bits b).toNat))
  | .eql=>some (.bool (a == b))
  | .neq=>some (.bool (a != b))
  | .lss=>some (.bool (decide (a < b)))
  | .leq=>some (.bool (decide (a≤b)))
  | .gtr=>some (.bool (decide (b < a)))
  | .geq=>some (.bool (decide (b≤a)))
  | _=>none
  else none
theorem binI_run (P : Program) (w : World) (e : Env) {op : BinOp} {k k' : IntKind} {a b : Int} {t : TypeId} {v : AV} (h : binI op k a k' b = some v) :
 ∃ x,conc e v = some x∧(binOp op t (.int k a) (.int k' b)).run P w = .ok x w:=by
 cases op<;>simp only [binI] at h
 case shl=>split at h<;>simp only [reduceCtorEq,Option.some.injEq] at h;rename_i hb;subst h;refine ⟨_,rfl,?_⟩;simp [binOp,Op.shift,hb]
 case shr=>split at h<;>simp only [reduceCtorEq,Option.some.injEq] at h;rename_i hb;subst h;refine ⟨_,rfl,?_⟩;simp [binOp,Op.shift,hb]
 all_goals (split at h<;>try (simp at h;done))
 all_goals (rename_i hk;subst hk)
 case quo=>split at h<;>simp only [reduceCtorEq,Option.some.injEq] at h;rename_i hb;subst h;refine ⟨_,rfl,?_⟩;simp [binOp,Op.intDiv,hb]
 case rem=>split at h<;>simp only [reduceCtorEq,Option.some.injEq] at h;rename_i hb;subst h;refine ⟨_,rfl,?_⟩;simp [binOp,Op.intDiv,hb]
 all_goals (simp only [reduceCtorEq,Option.some.injEq] at h)
 all_goals (subst h;refine ⟨_,rfl,?_⟩;simp [binOp,Op.intArith,Op.intBits,Op.intCmp])
def binS (op : BinOp) (a b : ByteArray) : Option AV:=
 match op with
 | .add=>if a.size + b.size < 4611686018427387904 then some (.str (a ++ b)) else none
 | .eql=>some (.bool (a.toList == b.toList))
 | .neq=>some (.bool !(a.toList == b.toList))
 | _=>none
theorem binS_run (P : Program) (w : World) (e : Env) {op : BinOp} {a b : ByteArray} {t : TypeId} {v : AV} (h : binS op a b = some v) :
 ∃ x,conc e v = some x∧(binOp op t (.string a) (.string b)).run P w = .ok x w:=by
 cases op<;>simp only [binS,reduceCtorEq,Option.some.injEq] at h
 case add =>
  split at h<;>simp only [reduceCtorEq,Option.some.injEq] at h
  rename_i hs
  subst h;refine ⟨_,rfl,?_⟩
  have : ¬ (((a.size + b.size : Nat) : Int) > IntKind.i64.max):=by
   have : IntKind.i64.max = 9223372036854775807:=by decide
   omega
  simp only [binOp,Op.stringOp,this,if_false,Sem.run_pure]
 all_goals (subst h;refine ⟨_,rfl,?_⟩;simp [binOp,Op.stringOp])
end Go.Abs
namespace Go.Abs
section
variable (P : Program)
def szA (t : TypeId) : Option Nat:=(P.info? t).map (·.size)
def isAggA (t : TypeId) : Option Bool:=
 match P.underlying t with
 | some (.struct _) | some (.array _ _)=>some true
 | some _=>some false
 | none=>none
theorem szA_run {t : TypeId} {n : Nat} (h : szA P t = some n) (w : World) : (sizeOf t).run P w = .ok n w:=by
 simp only [szA,Option.map_eq_some_iff] at h
 obtain ⟨i,hi,rfl⟩:=h
 rw [run_sizeOf w hi];simp [Program.cellsOf,hi]
theorem isAggA_run {t : TypeId} {b : Bool} (h : isAggA P t = some b) (w : World) : (isAgg t).run P w = .ok b w:=by
 unfold isAggA at h
 split at h<;>simp only [reduceCtorEq,Option.some.injEq] at h<;>subst h
 all_goals (rename_i hu;simp only [isAgg,Sem.run_bind,run_underlying hu,Result.andThen_ok])
 ·rfl
 ·rfl
 ·rename_i d h1 h2
  cases d<;>first | rfl | (exact absurd rfl (h1 _)) | (exact absurd rfl (h2 _ _))
def partA (t : TypeId) (cs : List AV) (off : Nat) : Option AV:=
 match isAggA P t with
 | some true=>(szA P t).map fun n=>.agg ((cs.drop off).take n)
 | some false=>cs[off]?
 | none=>none
theorem partA_run {e : Env} {t : TypeId} {cs : List AV} {xs : List Value} {off : Nat} {v : AV} (h : partA P t cs off = some v) (hc : concL e cs = some xs) (w : World) :
 ∃ x,conc e v = some x∧(part t xs.toArray off).run P w = .ok x w:=by
 unfold partA at h
 split at h
 ·rename_i hg
  simp only [Option.map_eq_some_iff] at h
  obtain ⟨n,hn,rfl⟩:=h
  refine ⟨.agg ((xs.drop off).take n).toArray,by simp [conc,concL_take (concL_drop hc off) n],?_⟩
  simp [part,isAggA_run P hg w,szA_run P hn w]
 ·rename_i hg
  obtain ⟨x,hx,hv⟩:=concL_get hc _ _ h
  refine ⟨x,hv,?_⟩
  simp [part,isAggA_run P hg w,hx]
 ·cases h
def eqF (f : TypeId→AV→AV→Option Bool) (xs ys : List AV) : List Field→Option Bool
 | []=>some true
 | g :: gs => if g.name ≠ "_" then
  (partA P g.type xs g.offset).bind fun a=>(partA P g.type ys g.offset).bind fun b=>(f g.type a b).bind fun r=>if r then eqF f xs ys gs else some false
  else eqF f xs ys gs
def eqV : Nat→TypeId→AV→AV→Option Bool
 | 0,_,_,_=>none
 | d + 1,t,x,y =>
  match P.underlying t,x,y with
  | some .bool,.bool a,.bool b=>some (a == b)
  | some (.int _),.int k a,.int k' b=>if k = k' then some (a == b) else none
  | some .string,.str a,.str b=>some (a.toList == b.toList)
  | some (.struct fs),.agg xs,.agg ys=>if P.stoodInHeld t then none else eqF P (eqV d) xs ys fs.toList
  | some (.interface _),.nilIface,.nilIface=>some true
  | some (.interface _),.nilIface,.iface _ _=>some false
  | some (.interface _),.iface _ _,.nilIface=>some false
  | some (.slice _),.nilSlice,.nilSlice=>some true
  | some (.slice _),.slice _ _ _ _,.nilSlice=>some false
  | some (.slice _),.opn _ _,.nilSlice=>some false
  | some (.func _ _ _),.nilFunc,.nilFunc=>some true
  | some (.func _ _ _),.func _ _ _,.nilFunc=>some false
  | _,_,_=>none
theorem eqF_run {e : Env} {f : TypeId→AV→AV→Option Bool} {d : Nat} {w : World} {xs ys : List AV} {us vs : List Value}
 (hf : ∀ t a b r x y,f t a b = some r→conc e a = some x→conc e b = some y→(Op.equalIn d t x y).run P w = .ok r w)
 (hx : concL e xs = some us) (hy : concL e ys = some vs) : ∀ (fs : List Field) (r : Bool),eqF P f xs ys fs = some r→(Op.eqFields d us.toArray vs.toArray fs).run P w = .ok r w
 | [],r,h=>by simp [eqF] at h;subst h;simp [Op.eqFields]
 | g :: gs,r,h=>by
  unfold eqF at h
  unfold Op.eqFields
  split at h
  ·rename_i hn
   simp only [Option.bind_eq_some_iff] at h
   obtain ⟨a,ha,b,hb,q,hq,hr⟩:=h
   obtain ⟨x,hx',hxr⟩:=partA_run P ha hx w
   obtain ⟨y,hy',hyr⟩:=partA_run P hb hy w
   have hqr:=hf _ _ _ _ _ _ hq hx' hy'
   rw [if_pos hn]
   simp only [Sem.run_bind,hxr,hyr,hqr,Result.andThen_ok]
   cases q with
   | true=>simp only [if_true] at hr;simp only [Bool.not_true,Bool.false_eq_true,if_false];exact eqF_run hf hx hy gs r hr
   | false=>simp at hr;subst hr;simp
  ·rename_i hn
   rw [if_neg hn];exact eqF_run hf hx hy gs r h
theorem eqV_run (e : Env) (w : World) : ∀ (d : Nat) (t : TypeId) (a b : AV) (r : Bool) (x y : Value),eqV P d t a b = some r→conc e a = some x→conc e b = some y→(Op.equalIn d t x y).run P w = .ok r w
 | 0,_,_,_,_,_,_,h,_,_=>by simp [eqV] at h
 | d + 1,t,a,b,r,x,y,h,ha,hb=>by
  unfold eqV at h
  split at h
  case h_4 fs xs ys hu =>
   split at h
   ·cases h
   ·rename_i hst
    simp only [conc,Option.map_eq_some_iff] at ha hb
    obtain ⟨us,hus,rfl⟩:=ha
    obtain ⟨vs,hvs,rfl⟩:=hb
    have hfs : P.fieldsOf t = fs:=by simp [Program.fieldsOf,hu]
    rw [run_equalIn_struct w d t _ _ (by rw [hfs];exact hu) (by simpa using hst),hfs]
    exact eqF_run P (fun t a b r x y h1 h2 h3=>eqV_run e w d t a b r x y h1 h2 h3) hus hvs _ _ h
  all_goals (try (cases h;done))
  all_goals (rename_i hu)
  all_goals (simp only [conc,Option.some.injEq,Option.map_eq_some_iff,Option.bind_eq_some_iff] at ha hb)
  all_goals (first
   | (split at h<;>simp only [reduceCtorEq,Option.some.injEq] at h;rename_i hk;subst hk ha hb h;simp [Op.equalIn,run_underlying hu];done)
   | (simp only [Option.some.injEq] at h;subst h;(try subst ha);(try subst hb);(try obtain ⟨_,_,rfl⟩:=ha);(try obtain ⟨_,_,rfl⟩:=hb);(try obtain ⟨_,_,_,_,rfl⟩:=ha);simp [Op.equalIn,run_underlying hu,beq_toListBytes];done))
end
end Go.Abs
namespace Go.Abs
section
variable (P : Program)
def guardOk (op : BinOp) (t : TypeId) (x y : Operand) (a b : AV) : Bool:=
 match op with
 | .eql | .neq =>
  match a,b with
  | .nilIface,.nilIface=>(match x with | .const _=>true | _=>false) || (match y with | .const _=>true | _=>false)
  | .agg _,.agg _=>!P.eqGuardType P.depth t
  | _,_=>true
 | _=>true
def binV (op : BinOp) (t : TypeId) (a b : AV) : Option AV:=
 match a,b with
 | .int k x,.int k' y=>binI op k x k' y
 | .str x,.str y=>binS op x y
 | a,b =>
  match op with
  | .eql=>(eqV P 10000 t a b).map .bool
  | .neq=>(eqV P 10000 t a b).map fun r=>.bool !r
  | _=>none
theorem eqGuard_run {e : Env} {op : BinOp} {t : TypeId} {x y : Operand} {a b : AV} {u v : Value} (h : guardOk P op t x y a b = true) (ha : conc e a = some u) (hb : conc e b = some v) (w : World) :
 (eqGuard op t x y u v).run P w = .ok () w:=by
 by_cases hop : op = .eql∨op = .neq
 ·rcases hop with rfl | rfl
  all_goals (
   cases a<;>simp only [conc,Option.some.injEq,Option.map_eq_some_iff,Option.bind_eq_some_iff] at ha
   case nilIface =>
    subst ha
    cases b<;>simp only [conc,Option.some.injEq,Option.map_eq_some_iff,Option.bind_eq_some_iff] at hb
    case nilIface =>
     subst hb
     cases x<;>cases y<;>first | rfl | (simp [guardOk] at h)
    all_goals (first | (subst hb;rfl) | (obtain ⟨_,_,rfl⟩:=hb;rfl) | (obtain ⟨_,_,_,_,rfl⟩:=hb;rfl))
   case agg cs =>
    obtain ⟨us,_,rfl⟩:=ha
    cases b<;>simp only [conc,Option.some.injEq,Option.map_eq_some_iff,Option.bind_eq_some_iff] at hb
    case agg ds =>
     obtain ⟨vs,_,rfl⟩:=hb
     have : P.eqGuardType P.depth t = false:=by simpa [guardOk] using h
     simp [eqGuard,this]
    all_goals (first | (subst hb;rfl) | (obtain ⟨_,_,rfl⟩:=hb;rfl) | (obtain ⟨_,_,_,_,rfl⟩:=hb;rfl))
   all_goals (first | (subst ha;rfl) | (obtain ⟨_,_,rfl⟩:=ha;rfl) | (obtain ⟨_,_,_,_,rfl⟩:=ha;rfl)))
 ·cases op<;>first | rfl | (simp at hop)
theorem binV_eq {e : Env} {op : BinOp} {t : TypeId} {a b : AV} {v : AV} {x y : Value} (hi : ∀ k n k' m,a = .int k n→b = .int k' m→False) (hs : ∀ c d,a = .str c→b = .str d→False)
 {r : Bool} (hr : eqV P 10000 t a b = some r) (ha : conc e a = some x) (hb : conc e b = some y) (w : World)
 (hv : (op = .eql∧v = .bool r)∨(op = .neq∧v = .bool !r)) :
 ∃ u,conc e v = some u∧(binOp op t x y).run P w = .ok u w:=by
 have hq:=eqV_run P e w 10000 t a b r x y hr ha hb
 have key : (binOp .eql t x y = do pure (.bool (← Op.equal t x y)))∧(binOp .neq t x y = do pure (.bool (!(← Op.equal t x y)))):=by
  unfold eqV at hr
  split at hr
  all_goals (try (cases hr;done))
  all_goals (simp only [conc,Option.some.injEq,Option.map_eq_some_iff,Option.bind_eq_some_iff] at ha hb)
  all_goals (try subst ha)
  all_goals (try subst hb)
  all_goals (try obtain ⟨_,_,rfl⟩:=ha)
  all_goals (try obtain ⟨_,_,rfl⟩:=hb)
  all_goals (try obtain ⟨_,_,_,_,rfl⟩:=ha)
  all_goals (first | (exact (hi _ _ _ _ rfl rfl).elim) | (exact (hs _ _ rfl rfl).elim) | (exact ⟨rfl,rfl⟩))
 rcases hv with ⟨rfl,rfl⟩ | ⟨rfl,rfl⟩
 ·refine ⟨.bool r,rfl,?_⟩
  rw [key.1];simp only [Op.equal,Op.maxDepth,Sem.run_bind,hq,Result.andThen_ok,Sem.run_pure]
 ·refine ⟨.bool !r,rfl,?_⟩
  rw [key.2];simp only [Op.equal,Op.maxDepth,Sem.run_bind,hq,Result.andThen_ok,Sem.run_pure]
theorem binV_run {e : Env} {op : BinOp} {t : TypeId} {a b : AV} {v : AV} {x y : Value} (h : binV P op t a b = some v) (ha : conc e a = some x) (hb : conc e b = some y) (w : World) :
 ∃ u,conc e v = some u∧(binOp op t x y).run P w = .ok u w:=by
 unfold binV at h
 split at h
 ·simp only [conc,Option.some.injEq] at ha hb;subst ha hb;exact binI_run P w e h
 ·simp only [conc,Option.some.injEq] at ha hb;subst ha hb;exact binS_run P w e h
 ·rename_i h1 h2
  split at h
  ·simp only [Option.map_eq_some_iff] at h
   obtain ⟨r,hr,rfl⟩:=h
   exact binV_eq P (fun k n k' m e1 e2=>h1 _ _ _ _ e1 e2) (fun c d e1 e2=>h2 _ _ e1 e2) hr ha hb w (.inl ⟨rfl,rfl⟩)
  ·simp only [Option.map_eq_some_iff] at h
   obtain ⟨r,hr,rfl⟩:=h
   exact binV_eq P (fun k n k' m e1 e2=>h1 _ _ _ _ e1 e2) (fun c d e1 e2=>h2 _ _ e1 e2) hr ha hb w (.inr ⟨rfl,rfl⟩)
  ·cases h
end
end Go.Abs
namespace Go.Abs
def cellsA : AV→List AV
 | .agg cs=>cs
 | v=>[v]
theorem cellsA_conc {e : Env} {v : AV} {x : Value} (h : conc e v = some x) : ∃ xs,concL e (cellsA v) = some xs∧x.cells = xs.toArray:=by
 cases v with
 | agg cs =>
  simp only [conc,Option.map_eq_some_iff] at h
  obtain ⟨us,hus,rfl⟩:=h
  exact ⟨us,hus,rfl⟩
 | _ =>
  refine ⟨[x],by simp [cellsA,concL,h],?_⟩
  simp only [conc,Option.some.injEq,Option.map_eq_some_iff,Option.bind_eq_some_iff] at h
  first | (subst h;rfl) | (obtain ⟨_,_,rfl⟩:=h;rfl) | (obtain ⟨_,_,_,_,rfl⟩:=h;rfl)
def setL : Nat→List AV→List AV→List AV
 | _,[],cs=>cs
 | o,v :: vs,cs=>setL (o + 1) vs (cs.set o v)
def setV : Nat→List Value→List Value→List Value
 | _,[],cs=>cs
 | o,v :: vs,cs=>setV (o + 1) vs (cs.set o v)
theorem setL_conc {e : Env} : ∀ {vs : List AV} {xs : List Value} {cs : List AV} {ys : List Value} (o : Nat),concL e vs = some xs→concL e cs = some ys→concL e (setL o vs cs) = some (setV o xs ys)
 | [],_,_,_,o,h,k=>by simp [concL] at h;subst h;exact k
 | v :: vs,xs,cs,ys,o,h,k=>by
  simp only [concL,Option.bind_eq_some_iff,Option.map_eq_some_iff] at h
  obtain ⟨x,hx,zs,hzs,rfl⟩:=h
  exact setL_conc (o + 1) hzs (concL_set k o hx)
theorem setV_fold (off : Nat) : ∀ (vs : List Value) (k : Nat) (arr : Array Value),(vs.zipIdx k).foldl (fun cs (c,j)=>cs.setIfInBounds (off + j) c) arr = (setV (off + k) vs arr.toList).toArray
 | [],k,arr=>by simp [setV]
 | v :: vs,k,arr=>by
  simp only [List.zipIdx_cons,List.foldl_cons,setV]
  rw [setV_fold off vs (k + 1)]
  simp [Nat.add_assoc]
def fillA (place : Nat→Option (Nat × Nat)) : List AV→List (Nat × AV)→Option (List AV)
 | cs,[]=>some cs
 | cs,(i,v) :: rest =>
  match place i with
  | none=>none
  | some (off,size)=>if (cellsA v).length = size∧off + size≤cs.length then fillA place (setL off (cellsA v) cs) rest else none
def concP (e : Env) : List (Nat × AV)→Option (List (Nat × Value))
 | []=>some []
 | (i,v) :: r=>(conc e v).bind fun x=>(concP e r).map ((i,x) :: ·)
theorem fillA_run {e : Env} {place : Nat→Option (Nat × Nat)} : ∀ {ps : List (Nat × AV)} {qs : List (Nat × Value)} {cs : List AV} {ys : List Value} {r : List AV},concP e ps = some qs→concL e cs = some ys→fillA place cs ps = some r→
 ∃ zs,concL e r = some zs∧Instr.fill place ys.toArray qs = some zs.toArray
 | [],qs,cs,ys,r,h,k,hr=>by simp [concP] at h;subst h;simp [fillA] at hr;subst hr;exact ⟨ys,k,rfl⟩
 | (i,v) :: ps,qs,cs,ys,r,h,k,hr=>by
  simp only [concP,Option.bind_eq_some_iff,Option.map_eq_some_iff] at h
  obtain ⟨x,hx,rs,hrs,rfl⟩:=h
  unfold fillA at hr
  split at hr
  ·cases hr
  ·rename_i off size hp
   split at hr
   ·rename_i hc
    obtain ⟨xs,hxs,hxc⟩:=cellsA_conc hx
    have hl1:=concL_length hxs
    have hl2:=concL_length k
    obtain ⟨zs,hz1,hz2⟩:=fillA_run hrs (setL_conc off hxs k) hr
    refine ⟨zs,hz1,?_⟩
    unfold Instr.fill
    simp only [hp,hxc,List.size_toArray,hl1,hl2,hc.1]
    rw [if_neg (by simp;omega)]
    have:=setV_fold off xs 0 ys.toArray
    simp only [Nat.add_zero] at this
    rw [← hz2,← this]
    congr 1
    simp [← Array.foldl_toList]
   ·cases hr
def argP (α : Operand→Option AV) : List (Nat × Operand)→Option (List (Nat × AV))
 | []=>some []
 | (i,x) :: r=>(α x).bind fun v=>(argP α r).map ((i,v) :: ·)
theorem argP_conc {e : Env} {α : Operand→Option AV} {ρ : Operand→Value} (h : Reads e α ρ) : ∀ (ps : List (Nat × Operand)) (us : List (Nat × AV)),argP α ps = some us→concP e us = some (ps.map fun (i,x)=>(i,ρ x))
 | [],us,hu=>by simp [argP] at hu;subst hu;rfl
 | (i,x) :: r,us,hu=>by
  simp only [argP,Option.bind_eq_some_iff,Option.map_eq_some_iff] at hu
  obtain ⟨v,hv,vs,hvs,rfl⟩:=hu
  simp [concP,h x v hv,argP_conc h r vs hvs]
theorem addr_add (b o n : Nat) : (Addr.add ⟨b,o,none⟩ n) = ⟨b,o + n,none⟩:=by
 unfold Addr.add;split
 ·subst n;rfl
 ·rfl
section
variable (P : Program)
def zeroA (t : TypeId) : Option AV:=(P.info? t).bind fun i=>i.zero.bind ofVal
theorem zeroA_run {t : TypeId} {v : AV} (h : zeroA P t = some v) (e : Env) (w : World) : ∃ x,conc e v = some x∧(zeroValue t).run P w = .ok x w:=by
 simp only [zeroA,Option.bind_eq_some_iff] at h
 obtain ⟨i,hi,z,hz,hv⟩:=h
 refine ⟨z,conc_ofVal e hv,?_⟩
 simp [zeroValue,run_typeInfo w hi,hz]
def boundA (x : AV) (y : Nat) : Option Nat:=
 match x with
 | .int _ i=>if 0≤i∧i≤y then some i.toNat else none
 | _=>none
def boundsA (cap len : Nat) (lo hi mx : Option AV) : Option (Nat × Nat × Nat):=
 (match mx with | some v=>boundA v cap | none=>some cap).bind fun m =>
 (match hi with | some v=>boundA v m | none=>if mx.isSome then none else some len).bind fun h =>
 (match lo with | some v=>boundA v h | none=>some 0).bind fun l=>some (l,h,m)
end
end Go.Abs
namespace Go.Abs
section
variable (P : Program)
theorem boundA_run {e : Env} {v : AV} {x : Value} {y n : Nat} (h : boundA v y = some n) (hx : conc e v = some x) (c : BoundsCode) (w : World) : (Instr.sliceBound x y c).run P w = .ok n w:=by
 unfold boundA at h
 split at h
 ·split at h
  ·rename_i hi
   simp only [Option.some.injEq] at h;subst h
   simp only [conc,Option.some.injEq] at hx;subst hx
   simp [Instr.sliceBound,asIntOf,hi]
  ·cases h
 ·cases h
def OptConc (e : Env) : Option AV→Option Value→Prop
 | none,none=>True
 | some a,some x=>conc e a = some x
 | _,_=>False
theorem boundsA_run {e : Env} {lo hi mx : Option AV} {lo' hi' mx' : Option Value} {cap len l h m : Nat} (hb : boundsA cap len lo hi mx = some (l,h,m))
 (h1 : OptConc e lo lo') (h2 : OptConc e hi hi') (h3 : OptConc e mx mx') (b : Bool) (w : World) : (Instr.sliceBounds b len cap lo' hi' mx').run P w = .ok (l,h,m) w:=by
 simp only [boundsA,Option.bind_eq_some_iff] at hb
 obtain ⟨m',hm,h',hh,l',hl,he⟩:=hb
 simp only [Option.some.injEq,Prod.mk.injEq] at he
 obtain ⟨rfl,rfl,rfl⟩:=he
 unfold Instr.sliceBounds
 have B:=fun (v : AV) (x : Value) (y n : Nat) (h : boundA v y = some n) (hx : conc e v = some x) (c : BoundsCode)=>boundA_run P h hx c w
 cases mx<;>cases mx'<;>simp only [OptConc] at h3<;>cases hi<;>cases hi'<;>simp only [OptConc] at h2<;>cases lo<;>cases lo'<;>simp only [OptConc] at h1
 all_goals (simp only [Option.some.injEq,Option.isSome_none,Option.isSome_some,Bool.false_eq_true,if_false,if_true,reduceCtorEq] at hm hh hl)
 all_goals (try subst hm)
 all_goals (try subst hh)
 all_goals (try subst hl)
 all_goals (simp only [Sem.run_bind,Sem.run_pure,Result.andThen_ok])
 all_goals (try rw [B _ _ _ _ hm h3])
 all_goals (try simp only [Result.andThen_ok])
 all_goals (try rw [B _ _ _ _ hh h2])
 all_goals (try simp only [Result.andThen_ok])
 all_goals (try rw [B _ _ _ _ hl h1])
 all_goals (try simp only [Result.andThen_ok])
def optArg (α : Operand→Option AV) : Option Operand→Option (Option AV)
 | none=>some none
 | some x=>(α x).map some
theorem optArg_conc {e : Env} {α : Operand→Option AV} {ρ : Operand→Value} (h : Reads e α ρ) {x : Option Operand} {r : Option AV} (hr : optArg α x = some r) : OptConc e r (x.map ρ):=by
 cases x with
 | none=>simp [optArg] at hr;subst hr;trivial
 | some x =>
  simp only [optArg,Option.map_eq_some_iff] at hr
  obtain ⟨v,hv,rfl⟩:=hr
  exact h x v hv
def maxA : AV→List AV→Option AV
 | v,[]=>some v
 | .int k x,.int _ y :: r=>maxA (.int k (if y > x then y else x)) r
 | _,_=>none
def minA : AV→List AV→Option AV
 | v,[]=>some v
 | .int k x,.int _ y :: r=>minA (.int k (if y < x then y else x)) r
 | _,_=>none
theorem maxA_run {e : Env} (w : World) : ∀ (r : List AV) (v u : AV) (x : Value) (xs : List Value),maxA v r = some u→conc e v = some x→concL e r = some xs→∃ y,conc e u = some y∧(xs.foldlM Builtin.max2 x).run P w = .ok y w
 | [],v,u,x,xs,h,hv,hr=>by simp [concL] at hr;subst hr;simp [maxA] at h;subst h;exact ⟨x,hv,rfl⟩
 | a :: r,v,u,x,xs,h,hv,hr=>by
  unfold maxA at h
  split at h
  ·simp at *
  ·rename_i k n k' m r' he
   simp only [List.cons.injEq] at he;obtain ⟨rfl,rfl⟩:=he
   simp only [concL,conc,Option.bind_eq_some_iff,Option.map_eq_some_iff,Option.some.injEq] at hr hv
   obtain ⟨_,rfl,ys,hys,rfl⟩:=hr
   subst hv
   simp only [List.foldlM_cons,Builtin.max2,Sem.run_bind,Sem.run_pure,Result.andThen_ok]
   exact maxA_run w r _ u _ ys h rfl hys
  ·cases h
theorem minA_run {e : Env} (w : World) : ∀ (r : List AV) (v u : AV) (x : Value) (xs : List Value),minA v r = some u→conc e v = some x→concL e r = some xs→∃ y,conc e u = some y∧(xs.foldlM Builtin.min2 x).run P w = .ok y w
 | [],v,u,x,xs,h,hv,hr=>by simp [concL] at hr;subst hr;simp [minA] at h;subst h;exact ⟨x,hv,rfl⟩
 | a :: r,v,u,x,xs,h,hv,hr=>by
  unfold minA at h
  split at h
  ·simp at *
  ·rename_i k n k' m r' he
   simp only [List.cons.injEq] at he;obtain ⟨rfl,rfl⟩:=he
   simp only [concL,conc,Option.bind_eq_some_iff,Option.map_eq_some_iff,Option.some.injEq] at hr hv
   obtain ⟨_,rfl,ys,hys,rfl⟩:=hr
   subst hv
   simp only [List.foldlM_cons,Builtin.min2,Sem.run_bind,Sem.run_pure,Result.andThen_ok]
   exact minA_run w r _ u _ ys h rfl hys
  ·cases h
def lenA (t : TypeId) (v : AV) : Option Int:=
 match P.underlying t,v with
 | some .string,.str s=>some s.size
 | some (.array n _),_=>some n
 | some (.slice _),.slice _ _ n _=>some n
 | some (.slice _),.opn _ n=>some n
 | some (.slice _),.nilSlice=>some 0
 | some (.map _ _),.nilMap=>some 0
 | _,_=>none
theorem lenA_run {e : Env} {t ty : TypeId} {ts : Array TypeId} {v : AV} {x : Value} {n : Int} (ht : ts[0]? = some t) (h : lenA P t v = some n) (hx : conc e v = some x) (w : World) :
 (Builtin.len_ ts ty #[x]).run P w = .ok (.int .i64 n) w:=by
 unfold lenA at h
 split at h<;>(try (cases h;done))<;>simp only [Option.some.injEq] at h<;>subst h
 all_goals (rename_i hu;(try simp only [conc,Option.some.injEq,Option.map_eq_some_iff] at hx);(try subst hx);(try obtain ⟨_,_,rfl⟩:=hx);simp [Builtin.len_,ht,run_underlying hu,goInt])
def fieldsA (t : TypeId) : Option (List Field):=
 match P.underlying t with
 | some (.struct fs)=>some fs.toList
 | _=>none
theorem fieldsA_eq {t : TypeId} {fs : List Field} (h : fieldsA P t = some fs) : P.underlying t = some (.struct fs.toArray):=by
 unfold fieldsA at h
 split at h<;>simp at h
 rename_i hu;subst h;simpa using hu
def placesA : List Field→Option (List (Nat × Nat))
 | []=>some []
 | f :: fs=>(szA P f.type).bind fun n=>(placesA fs).map ((f.offset,n) :: ·)
theorem placesA_run (w : World) : ∀ (fs : List Field) (ps : List (Nat × Nat)),placesA P fs = some ps→(fs.toArray.mapM fun f=>do pure (f.offset,← sizeOf f.type) : Sem (Array (Nat × Nat))).run P w = .ok ps.toArray w:=by
 intro fs
 suffices h : ∀ (fs : List Field) (ps : List (Nat × Nat)),placesA P fs = some ps→(fs.mapM fun f=>do pure (f.offset,← sizeOf f.type) : Sem (List (Nat × Nat))).run P w = .ok ps w by
  intro ps hp
  rw [List.mapM_toArray,Sem.run_map,h fs ps hp];rfl
 intro fs
 induction fs with
 | nil=>intro ps hp;simp [placesA] at hp;subst hp;rfl
 | cons f fs ih =>
  intro ps hp
  simp only [placesA,Option.bind_eq_some_iff,Option.map_eq_some_iff] at hp
  obtain ⟨n,hn,qs,hqs,rfl⟩:=hp
  simp only [List.mapM_cons,Sem.run_bind,szA_run P hn w,Result.andThen_ok,Sem.run_pure,ih qs hqs]
def buildA (t : TypeId) (ps : List (Nat × AV)) : Option AV:=
 (zeroA P t).bind fun z =>
 match P.underlying t with
 | some (.struct fs)=>(placesA P fs.toList).bind fun pl=>(fillA (fun i=>pl[i]?) (cellsA z) ps).map .agg
 | some (.array _ el)=>(szA P el).bind fun n=>(fillA (fun i=>some (i * n,n)) (cellsA z) ps).map .agg
 | _=>none
theorem buildA_run {e : Env} {t : TypeId} {ps : List (Nat × AV)} {qs : List (Nat × Value)} {v : AV} (h : buildA P t ps = some v) (hp : concP e ps = some qs) (w : World) :
 ∃ x,conc e v = some x∧(Instr.build t qs.toArray).run P w = .ok x w:=by
 simp only [buildA,Option.bind_eq_some_iff] at h
 obtain ⟨z,hz,h⟩:=h
 obtain ⟨zx,hzx,hzr⟩:=zeroA_run P hz e w
 obtain ⟨zs,hzs,hzc⟩:=cellsA_conc hzx
 split at h
 ·rename_i fs hu
  simp only [Option.bind_eq_some_iff,Option.map_eq_some_iff] at h
  obtain ⟨pl,hpl,cs,hcs,rfl⟩:=h
  obtain ⟨ys,hys,hfill⟩:=fillA_run hp hzs hcs
  refine ⟨.agg ys.toArray,by simp [conc,hys],?_⟩
  have hm:=placesA_run P w fs.toList pl hpl
  simp only [Array.toArray_toList] at hm
  simp only [Instr.build,Sem.run_bind,hzr,Result.andThen_ok,run_underlying hu,hm,hzc]
  have hpp : (fun i : Nat=>pl.toArray[i]?) = fun i=>pl[i]?:=by funext i;simp
  simp only [hpp,hfill,Sem.run_pure]
 ·rename_i n el hu
  simp only [Option.bind_eq_some_iff,Option.map_eq_some_iff] at h
  obtain ⟨k,hk,cs,hcs,rfl⟩:=h
  obtain ⟨ys,hys,hfill⟩:=fillA_run hp hzs hcs
  refine ⟨.agg ys.toArray,by simp [conc,hys],?_⟩
  simp only [Instr.build,Sem.run_bind,hzr,Result.andThen_ok,run_underlying hu,szA_run P hk w,hzc,hfill,Sem.run_pure]
 ·cases h
end
end Go.Abs
namespace Go.Abs
section
variable (P : Program)
def indexAddrA (t : TypeId) (x i : AV) : Option AV:=
 match P.underlying t,x,i with
 | some (.array n el),.ptr b o,.int _ j=>(szA P el).bind fun k=>if 0≤j∧j < n then some (.ptr b (o + j.toNat * k)) else none
 | some (.slice el),.slice b o n _,.int _ j=>(szA P el).bind fun k=>if 0≤j∧j < n then some (.ptr b (o + j.toNat * k)) else none
 | some (.slice el),.opn b n,.int _ j=>(szA P el).bind fun k=>if 0≤j∧j < n then some (.ptr b (0 + j.toNat * k)) else none
 | _,_,_=>none
def indexA (t : TypeId) (x i : AV) : Option AV:=
 match P.underlying t,x,i with
 | some (.array n el),.agg cs,.int _ j=>(szA P el).bind fun k=>if 0≤j∧j < n then partA P el cs (j.toNat * k) else none
 | some .string,.str s,.int _ j=>if 0≤j then (s[j.toNat]?).map fun b=>.int .u8 b.toNat else none
 | _,_,_=>none
def sliceA (t : TypeId) (x : AV) (lo hi mx : Option AV) : Option AV:=
 match P.underlying t,x with
 | some .string,.str s=>if mx.isSome then none else (boundsA s.size s.size lo hi none).map fun r=>.str (s.extract r.1 r.2.1)
 | some (.slice el),.slice b o len cap=>(szA P el).bind fun k=>(boundsA cap len lo hi mx).map fun r=>.slice b (if r.2.2 = r.1 then o else o + r.1 * k) (r.2.1 - r.1) (r.2.2 - r.1)
 | some (.slice el),.nilSlice=>(szA P el).bind fun _=>(boundsA 0 0 lo hi mx).bind fun r=>if r.2.1 - r.1 = 0∧r.2.2 - r.1 = 0 then some .nilSlice else none
 | _,_=>none
def assertA (_xt t : TypeId) (x : AV) (ok : Bool) : Option AV:=
 match P.underlying t,x with
 | some (.interface _),_=>none
 | some _,.iface t' v=>if t' = t then some (if ok then .tup [v,.bool true] else v) else if ok then (zeroA P t).map fun z=>.tup [z,.bool false] else none
 | some _,.nilIface=>if ok then (zeroA P t).map fun z=>.tup [z,.bool false] else none
 | _,_=>none
def pureOp (o : Oper) (α : Operand→Option AV) : Option AV:=
 match o.op with
 | .move x | .assign x=>α x
 | .pick c a b=>(α c).bind fun t=>match t with | .bool true=>α a | .bool false=>α b | _=>none
 | .nilCheck x=>(α x).bind fun v=>match v with | .ptr n o=>some (.ptr n o) | .func f a c=>some (.func f a c) | .yld l=>some (.yld l) | _=>none
 | .binOp op t x y _=>(α x).bind fun a=>(α y).bind fun b=>if guardOk P op t x y a b then binV P op t a b else none
 | .unOp op _ x=>(α x).bind fun a=>match op,a with | .not,.bool b=>some (.bool !b) | .neg,.int k n=>some (.int k (k.wrap (0 - n))) | _,_=>none
 | .convert s d x=>(α x).bind fun a=>match P.underlying s,P.underlying d,a with | some _,some (.int k),.int _ n=>some (.int k (k.wrap n)) | some .string,some .string,.str b=>some (.str b) | _,_,_=>none
 | .makeInterface t x=>if P.concrete t then (α x).map (.iface t) else none
 | .makeFunc (.func f) aas cs=>(argL α aas.toList).bind fun a=>(argL α cs.toList).map fun c=>.func f a c
 | .extract x i=>(α x).bind fun v=>match v with | .tup vs=>vs[i]? | _=>none
 | .fieldAddr t x i=>(fieldsA P t).bind fun fs=>(fs[i]?).bind fun f=>(szA P f.type).bind fun k=>if k = 0 then none else (α x).bind fun v=>match v with | .ptr n o=>some (.ptr n (o + f.offset)) | _=>none
 | .field t x i=>(fieldsA P t).bind fun fs=>(fs[i]?).bind fun f=>(α x).bind fun v=>match v with | .agg cs=>partA P f.type cs f.offset | _=>none
 | .indexAddr t x i=>(α x).bind fun a=>(α i).bind fun b=>indexAddrA P t a b
 | .index t x i=>(α x).bind fun a=>(α i).bind fun b=>indexA P t a b
 | .slice t x lo hi mx=>(α x).bind fun a=>(optArg α lo).bind fun l=>(optArg α hi).bind fun h=>(optArg α mx).bind fun m=>sliceA P t a l h m
 | .build t ps=>(argP α ps.toList).bind fun qs=>buildA P t qs
 | .typeAssert x xt t ok=>(α x).bind fun a=>assertA P xt t a ok
 | .call { callee:=.builtin .len,args,argTypes }=>(argL α args.toList).bind fun vs=>match vs,argTypes[0]? with | [v],some t=>(lenA P t v).map (.int .i64) | _,_=>none
 | .call { callee:=.builtin .max,args,argTypes:=_ }=>(argL α args.toList).bind fun vs=>match vs with | v :: r=>maxA v r | _=>none
 | .call { callee:=.builtin .min,args,argTypes:=_ }=>(argL α args.toList).bind fun vs=>match vs with | v :: r=>minA v r | _=>none
 | _=>none
variable {P}
theorem indexAddrA_run {e : Env} {t : TypeId} {a b v : AV} {x y : Value} (h : indexAddrA P t a b = some v) (hx : conc e a = some x) (hy : conc e b = some y) (w : World) :
 ∃ u,conc e v = some u∧(Instr.indexAt t x y).run P w = .ok u w:=by
 unfold indexAddrA at h
 split at h
 all_goals (try (cases h;done))
 all_goals (
  rename_i hu
  simp only [Option.bind_eq_some_iff] at h
  obtain ⟨k,hk,h⟩:=h
  split at h
  ·rename_i hj
   simp only [Option.some.injEq] at h;subst h
   simp only [conc,Option.map_eq_some_iff,Option.some.injEq] at hx hy
   obtain ⟨p,hp,rfl⟩:=hx
   subst hy
   refine ⟨_,by simp only [conc,hp,Option.map_some];rfl,?_⟩
   simp [Instr.indexAt,asIntOf,run_underlying hu,Instr.sureAddr,hj,szA_run P hk w,addr_add]
  ·cases h)
theorem indexA_run {e : Env} {t : TypeId} {a b v : AV} {x y : Value} (h : indexA P t a b = some v) (hx : conc e a = some x) (hy : conc e b = some y) (w : World) :
 ∃ u,conc e v = some u∧(Instr.index t x y).run P w = .ok u w:=by
 unfold indexA at h
 split at h
 ·rename_i hu
  simp only [Option.bind_eq_some_iff] at h
  obtain ⟨k,hk,h⟩:=h
  split at h
  ·rename_i hj
   simp only [conc,Option.map_eq_some_iff,Option.some.injEq] at hx hy
   obtain ⟨us,hus,rfl⟩:=hx
   subst hy
   obtain ⟨u,hu1,hu2⟩:=partA_run P h hus w
   refine ⟨u,hu1,?_⟩
   simp [Instr.index,asIntOf,run_underlying hu,hj,szA_run P hk w,hu2]
  ·cases h
 ·rename_i hu
  split at h
  ·rename_i hj
   simp only [Option.map_eq_some_iff] at h
   obtain ⟨c,hc,rfl⟩:=h
   simp only [conc,Option.some.injEq] at hx hy
   subst hx hy
   refine ⟨_,rfl,?_⟩
   simp [Instr.index,asIntOf,run_underlying hu,hj,hc]
  ·cases h
 ·cases h
theorem sliceA_run {e : Env} {t : TypeId} {a v : AV} {x : Value} {lo hi mx : Option AV} {lo' hi' mx' : Option Value} (h : sliceA P t a lo hi mx = some v) (hx : conc e a = some x)
 (h1 : OptConc e lo lo') (h2 : OptConc e hi hi') (h3 : OptConc e mx mx') (w : World) : ∃ u,conc e v = some u∧(Instr.sliceAt t x lo' hi' mx').run P w = .ok u w:=by
 unfold sliceA at h
 split at h
 ·rename_i s hu
  split at h
  ·cases h
  ·rename_i hm
   have hmn : mx = none:=by cases mx<;>simp at hm ⊢
   subst hmn
   cases mx'<;>simp only [OptConc] at h3
   simp only [Option.map_eq_some_iff] at h
   obtain ⟨⟨l,hh,m⟩,hr,rfl⟩:=h
   simp only [conc,Option.some.injEq] at hx;subst hx
   refine ⟨_,rfl,?_⟩
   have:=boundsA_run P hr h1 h2 (mx':=none) trivial false w
   simp [Instr.sliceAt,Instr.slice,run_underlying hu,this]
 ·rename_i el b o len cap hu
  simp only [Option.bind_eq_some_iff,Option.map_eq_some_iff] at h
  obtain ⟨k,hk,⟨l,hh,m⟩,hr,rfl⟩:=h
  simp only [conc,Option.map_eq_some_iff] at hx
  obtain ⟨p,hp,rfl⟩:=hx
  refine ⟨_,by simp only [conc,hp,Option.map_some];rfl,?_⟩
  have:=boundsA_run P hr h1 h2 h3 true w
  simp only [Instr.sliceAt,Instr.slice,Sem.run_bind,run_underlying hu,Result.andThen_ok,this,szA_run P hk w,Sem.run_pure]
  by_cases hml : m = l
  ·simp [hml]
  ·simp [hml,addr_add]
 ·rename_i el hu
  simp only [Option.bind_eq_some_iff] at h
  obtain ⟨k,hk,⟨l,hh,m⟩,hr,h⟩:=h
  split at h
  ·rename_i hz
   simp only [Option.some.injEq] at h;subst h
   simp only [conc,Option.some.injEq] at hx;subst hx
   refine ⟨_,rfl,?_⟩
   have:=boundsA_run P hr h1 h2 h3 true w
   simp only at hz
   simp [Instr.sliceAt,Instr.slice,run_underlying hu,this,szA_run P hk w,hz.1,hz.2]
  ·cases h
 ·cases h
theorem assertA_run {e : Env} {xt t : TypeId} {a v : AV} {x : Value} {ok : Bool} (h : assertA P xt t a ok = some v) (hx : conc e a = some x) (w : World) :
 ∃ u,conc e v = some u∧(Instr.typeAssert x xt t ok).run P w = .ok u w:=by
 unfold assertA at h
 split at h
 ·cases h
 ·rename_i d t' v' hne hu
  simp only [conc,Option.map_eq_some_iff] at hx
  obtain ⟨y,hy,rfl⟩:=hx
  split at h
  ·rename_i ht
   simp only [Option.some.injEq] at h;subst h
   cases ok
   ·refine ⟨y,hy,?_⟩
    cases d<;>first | (exact absurd rfl (hne _)) | simp [Instr.typeAssert,run_underlying hu,ht]
   ·refine ⟨.tuple #[y,.bool true],by simp [conc,concL,hy],?_⟩
    cases d<;>first | (exact absurd rfl (hne _)) | simp [Instr.typeAssert,run_underlying hu,ht]
  ·rename_i ht
   split at h
   ·rename_i hok
    subst hok
    simp only [Option.map_eq_some_iff] at h
    obtain ⟨z,hz,rfl⟩:=h
    obtain ⟨zx,hz1,hz2⟩:=zeroA_run P hz e w
    refine ⟨.tuple #[zx,.bool false],by simp [conc,concL,hz1],?_⟩
    cases d<;>first | (exact absurd rfl (hne _)) | simp [Instr.typeAssert,run_underlying hu,ht,hz2]
   ·cases h
 ·rename_i d hne hu
  simp only [conc,Option.some.injEq] at hx;subst hx
  split at h
  ·rename_i hok
   subst hok
   simp only [Option.map_eq_some_iff] at h
   obtain ⟨z,hz,rfl⟩:=h
   obtain ⟨zx,hz1,hz2⟩:=zeroA_run P hz e w
   refine ⟨.tuple #[zx,.bool false],by simp [conc,concL,hz1],?_⟩
   cases d<;>first | (exact absurd rfl (hne _)) | simp [Instr.typeAssert,run_underlying hu,hz2]
  ·cases h
 ·cases h
end
end Go.Abs
namespace Go.Abs
variable {P : Program}
theorem argL_map {e : Env} {α : Operand→Option AV} {ρ : Operand→Value} (h : Reads e α ρ) {xs : Array Operand} {us : List AV} (hu : argL α xs.toList = some us) : concL e us = some (xs.map ρ).toList:=by
 rw [Array.toList_map];exact reads_argL h _ _ hu
theorem concL_one {e : Env} {v : AV} {xs : List Value} (h : concL e [v] = some xs) : ∃ x,conc e v = some x∧xs = [x]:=by
 simp only [concL,Option.bind_eq_some_iff,Option.map_eq_some_iff,Option.some.injEq] at h
 obtain ⟨x,hx,_,rfl,rfl⟩:=h
 exact ⟨x,hx,rfl⟩
theorem concL_cons {e : Env} {v : AV} {vs : List AV} {xs : List Value} (h : concL e (v :: vs) = some xs) : ∃ x ys,conc e v = some x∧concL e vs = some ys∧xs = x :: ys:=by
 simp only [concL,Option.bind_eq_some_iff,Option.map_eq_some_iff] at h
 obtain ⟨x,hx,ys,hys,rfl⟩:=h
 exact ⟨x,ys,hx,hys,rfl⟩
theorem arr_eq {xs : Array Value} {l : List Value} (h : xs.toList = l) : xs = l.toArray:=by subst h;simp
set_option maxHeartbeats 1000000 in
theorem pureOp_run {e : Env} {α : Operand→Option AV} {ρ : Operand→Value} (hr : Reads e α ρ) {o : Oper} {v : AV} (h : pureOp P o α = some v) (w : World) :
 ∃ x,conc e v = some x∧(execOp ρ o).run P w = .ok (.value x) w:=by
 unfold pureOp at h
 split at h
 case h_1 x ho=>exact ⟨_,hr x v h,by simp [execOp,ho]⟩
 case h_2 x ho=>exact ⟨_,hr x v h,by simp [execOp,ho]⟩
 case h_3 c a b ho =>
  simp only [Option.bind_eq_some_iff] at h
  obtain ⟨t,ht,h⟩:=h
  have hc:=hr c t ht
  split at h
  ·simp only [conc,Option.some.injEq] at hc
   exact ⟨_,hr a v h,by simp [execOp,ho,← hc,asBool]⟩
  ·simp only [conc,Option.some.injEq] at hc
   exact ⟨_,hr b v h,by simp [execOp,ho,← hc,asBool]⟩
  ·cases h
 case h_4 x ho =>
  simp only [Option.bind_eq_some_iff] at h
  obtain ⟨a,ha,h⟩:=h
  have hx:=hr x a ha
  split at h<;>simp only [reduceCtorEq,Option.some.injEq] at h<;>subst h<;>refine ⟨_,hx,?_⟩ <;>
   simp only [conc,Option.map_eq_some_iff,Option.bind_eq_some_iff] at hx<;>(first | obtain ⟨_,_,hx⟩:=hx | skip)<;>(first | obtain ⟨_,_,hx⟩:=hx | skip)<;>simp [execOp,ho,← hx]
 case h_5 op t x y yt ho =>
  simp only [Option.bind_eq_some_iff] at h
  obtain ⟨a,ha,b,hb,h⟩:=h
  split at h
  ·rename_i hg
   obtain ⟨u,hu,hrun⟩:=binV_run P h (hr x a ha) (hr y b hb) w
   exact ⟨u,hu,by simp [execOp,ho,eqGuard_run P hg (hr x a ha) (hr y b hb) w,hrun]⟩
  ·cases h
 case h_6 op t x ho =>
  simp only [Option.bind_eq_some_iff] at h
  obtain ⟨a,ha,h⟩:=h
  have hx:=hr x a ha
  split at h<;>simp only [reduceCtorEq,Option.some.injEq] at h<;>subst h<;>simp only [conc,Option.some.injEq] at hx
  ·exact ⟨_,rfl,by simp [execOp,ho,← hx,Op.unary]⟩
  ·exact ⟨_,rfl,by simp [execOp,ho,← hx,Op.unary,Op.intArith]⟩
 case h_7 s d x ho =>
  simp only [Option.bind_eq_some_iff] at h
  obtain ⟨a,ha,h⟩:=h
  have hx:=hr x a ha
  split at h
  ·rename_i h1 h2
   simp only [Option.some.injEq] at h;subst h
   simp only [conc,Option.some.injEq] at hx
   refine ⟨_,rfl,?_⟩
   simp [execOp,ho,← hx,convert,run_underlying h1,run_underlying h2,Conv.intToInt]
  ·rename_i h1 h2
   simp only [Option.some.injEq] at h;subst h
   simp only [conc,Option.some.injEq] at hx
   refine ⟨_,rfl,?_⟩
   simp [execOp,ho,← hx,convert,run_underlying h1,run_underlying h2]
  ·cases h
 case h_8 t x ho =>
  split at h
  ·rename_i hc
   simp only [Option.map_eq_some_iff] at h
   obtain ⟨a,ha,rfl⟩:=h
   exact ⟨_,by simp only [conc,hr x a ha,Option.map_some];rfl,by simp [execOp,ho,run_makeInterface w t _ hc]⟩
  ·cases h
 case h_9 f aas cs ho =>
  simp only [Option.bind_eq_some_iff,Option.map_eq_some_iff] at h
  obtain ⟨a,ha,c,hc,rfl⟩:=h
  refine ⟨_,by simp only [conc,argL_map hr ha,argL_map hr hc,Option.bind_some,Option.map_some];rfl,?_⟩
  simp [execOp,ho,Instr.makeFunc,← List.map_toArray]
 case h_10 x i ho =>
  simp only [Option.bind_eq_some_iff] at h
  obtain ⟨a,ha,h⟩:=h
  have hx:=hr x a ha
  split at h
  ·simp only [conc,Option.map_eq_some_iff] at hx
   obtain ⟨us,hus,hx⟩:=hx
   obtain ⟨u,hu,hv⟩:=concL_get hus _ _ h
   exact ⟨u,hv,by simp [execOp,ho,← hx,Instr.extract,hu]⟩
  ·cases h
 case h_11 t x i ho =>
  simp only [Option.bind_eq_some_iff] at h
  obtain ⟨fs,hfs,f,hf,k,hk,h⟩:=h
  split at h
  ·cases h
  ·rename_i hk0
   simp only [Option.bind_eq_some_iff] at h
   obtain ⟨a,ha,h⟩:=h
   have hx:=hr x a ha
   split at h
   ·simp only [Option.some.injEq] at h;subst h
    simp only [conc,Option.map_eq_some_iff] at hx
    obtain ⟨p,hp,hx⟩:=hx
    refine ⟨_,by simp only [conc,hp,Option.map_some];rfl,?_⟩
    simp [execOp,ho,← hx,Instr.fieldAt,run_underlying (fieldsA_eq P hfs),hf,Instr.sureAddr,fieldPlace,szA_run P hk w,hk0,addr_add]
   ·cases h
 case h_12 t x i ho =>
  simp only [Option.bind_eq_some_iff] at h
  obtain ⟨fs,hfs,f,hf,a,ha,h⟩:=h
  have hx:=hr x a ha
  split at h
  ·simp only [conc,Option.map_eq_some_iff] at hx
   obtain ⟨us,hus,hx⟩:=hx
   obtain ⟨u,hu1,hu2⟩:=partA_run P h hus w
   exact ⟨u,hu1,by simp [execOp,ho,← hx,Instr.field,run_underlying (fieldsA_eq P hfs),hf,asAgg,hu2]⟩
  ·cases h
 case h_13 t x i ho =>
  simp only [Option.bind_eq_some_iff] at h
  obtain ⟨a,ha,b,hb,h⟩:=h
  obtain ⟨u,hu,hrun⟩:=indexAddrA_run h (hr x a ha) (hr i b hb) w
  exact ⟨u,hu,by simp [execOp,ho,hrun]⟩
 case h_14 t x i ho =>
  simp only [Option.bind_eq_some_iff] at h
  obtain ⟨a,ha,b,hb,h⟩:=h
  obtain ⟨u,hu,hrun⟩:=indexA_run h (hr x a ha) (hr i b hb) w
  exact ⟨u,hu,by simp [execOp,ho,hrun]⟩
 case h_15 t x lo hi mx ho =>
  simp only [Option.bind_eq_some_iff] at h
  obtain ⟨a,ha,l,hl,hh,hhh,m,hm,h⟩:=h
  obtain ⟨u,hu,hrun⟩:=sliceA_run h (hr x a ha) (optArg_conc hr hl) (optArg_conc hr hhh) (optArg_conc hr hm) w
  exact ⟨u,hu,by simp [execOp,ho,hrun]⟩
 case h_16 t ps ho =>
  simp only [Option.bind_eq_some_iff] at h
  obtain ⟨qs,hqs,h⟩:=h
  obtain ⟨u,hu,hrun⟩:=buildA_run P h (argP_conc hr _ _ hqs) w
  refine ⟨u,hu,?_⟩
  have : (ps.map fun (i,x)=>(i,ρ x)) = (ps.toList.map fun (i,x)=>(i,ρ x)).toArray:=by rw [← List.map_toArray]
  simp only [execOp,ho,this]
  simp [hrun]
 case h_17 x xt t ok ho =>
  simp only [Option.bind_eq_some_iff] at h
  obtain ⟨a,ha,h⟩:=h
  obtain ⟨u,hu,hrun⟩:=assertA_run h (hr x a ha) w
  exact ⟨u,hu,by simp [execOp,ho,hrun]⟩
 case h_18 args ats ho =>
  simp only [Option.bind_eq_some_iff] at h
  obtain ⟨vs,hvs,h⟩:=h
  split at h
  ·rename_i v0 t ht
   simp only [Option.map_eq_some_iff] at h
   obtain ⟨n,hn,rfl⟩:=h
   obtain ⟨x,hx,hl⟩:=concL_one (argL_map hr hvs)
   refine ⟨_,rfl,?_⟩
   simp [execOp,ho,resolve,invoke,builtin,arr_eq hl,lenA_run P ht hn hx w]
  ·cases h
 case h_19 args ats ho =>
  simp only [Option.bind_eq_some_iff] at h
  obtain ⟨vs,hvs,h⟩:=h
  split at h
  ·obtain ⟨x,ys,hx,hys,hl⟩:=concL_cons (argL_map hr hvs)
   obtain ⟨y,hy,hrun⟩:=maxA_run P w _ _ _ _ _ h hx hys
   refine ⟨y,hy,?_⟩
   simp [execOp,ho,resolve,invoke,builtin,arr_eq hl,Builtin.max_,hrun]
  ·cases h
 case h_20 args ats ho =>
  simp only [Option.bind_eq_some_iff] at h
  obtain ⟨vs,hvs,h⟩:=h
  split at h
  ·obtain ⟨x,ys,hx,hys,hl⟩:=concL_cons (argL_map hr hvs)
   obtain ⟨y,hy,hrun⟩:=minA_run P w _ _ _ _ _ h hx hys
   refine ⟨y,hy,?_⟩
   simp [execOp,ho,resolve,invoke,builtin,arr_eq hl,Builtin.min_,hrun]
  ·cases h
 case h_21=>cases h
end Go.Abs
namespace Go.Abs
theorem cells_at {e : Env} {q : Nat} {t : TypeId} {k : Option Nat} {cs : List AV} {ob : Obj} (h : BlkRel e q (.cells t k cs) ob) :
 ∃ vs rest,concL e cs = some vs∧ob = .cells (vs ++ rest).toArray t (0,0)∧(k = none→rest = [])∧(∀ m,k = some m→(vs ++ rest).length = q * m):=by
 cases k with
 | none=>obtain ⟨vs,h1,h2⟩:=h;exact ⟨vs,[],h1,by simpa using h2,fun _=>rfl,by simp⟩
 | some k=>obtain ⟨vs,rest,h1,h2,h3⟩:=h;exact ⟨vs,rest,h1,h2,by simp,fun m hm=>by cases hm;exact h3⟩
theorem cells_mk {e : Env} {q : Nat} {t : TypeId} {k : Option Nat} {cs : List AV} {vs rest : List Value} (h : concL e cs = some vs) (h1 : k = none→rest = []) (h2 : ∀ m,k = some m→(vs ++ rest).length = q * m) :
 BlkRel e q (.cells t k cs) (.cells (vs ++ rest).toArray t (0,0)):=by
 cases k with
 | none=>exact ⟨vs,h,by simp [h1 rfl]⟩
 | some k=>exact ⟨vs,rest,h,rfl,h2 k rfl⟩
variable {P : Program}
theorem load_run {w : World} {b o n : Nat} {vs rest : List Value} {t : TypeId} {fz : Nat × Nat} (hb : w.heap[b]? = some (.cells (vs ++ rest).toArray t fz)) (h : o + n≤vs.length) :
 (loadCells ⟨b,o,none⟩ n).run P w = .ok ((vs.drop o).take n).toArray w:=by
 have hl : ((vs.drop o).take n).length = n:=by simp;omega
 have:=run_loadCells_list (P:=P) w ⟨b,o,none⟩ ((vs.drop o).take n) (by
  intro j v hj
  rw [addr_add]
  simp only [World.cell?,hb]
  simp only [List.getElem?_take] at hj
  split at hj
  ·rename_i hjn
   simp only [List.getElem?_drop] at hj
   simp only [Option.isSome_none,Bool.false_eq_true,if_false,List.getElem?_toArray]
   rw [List.getElem?_append_left (by omega)]
   exact hj
  ·cases hj)
 rw [hl] at this
 exact this
theorem load1_run {w : World} {b o : Nat} {vs rest : List Value} {t : TypeId} {fz : Nat × Nat} {v : Value} (hb : w.heap[b]? = some (.cells (vs ++ rest).toArray t fz)) (h : vs[o]? = some v) :
 (load ⟨b,o,none⟩).run P w = .ok v w:=by
 have ho : o < vs.length:=(List.getElem?_eq_some_iff.1 h).1
 simp [World.cell?,hb,List.getElem?_append_left ho,h]
def oneA : AV→Bool
 | .agg _ | .tup _=>false
 | _=>true
theorem oneA_conc {e : Env} {v : AV} {x : Value} (h : oneA v = true) (hx : conc e v = some x) : x.oneCell' = true:=by
 cases v<;>simp only [conc,Option.some.injEq,Option.map_eq_some_iff,Option.bind_eq_some_iff] at hx <;>
  first | (simp [oneA] at h;done) | (subst hx;rfl) | (obtain ⟨_,_,rfl⟩:=hx;rfl) | (obtain ⟨_,_,_,_,rfl⟩:=hx;rfl)
theorem oneA_list {e : Env} : ∀ {vs : List AV} {xs : List Value},vs.all oneA = true→concL e vs = some xs→∀ x ∈ xs,x.oneCell' = true
 | [],_,_,h=>by simp [concL] at h;subst h;simp
 | v :: vs,xs,ha,h=>by
  obtain ⟨x,ys,hx,hys,rfl⟩:=concL_cons h
  simp only [List.all_cons,Bool.and_eq_true] at ha
  intro z hz
  rcases List.mem_cons.1 hz with rfl | hz
  ·exact oneA_conc ha.1 hx
  ·exact oneA_list ha.2 hys z hz
def spl {α : Type} (o : Nat) (vs cs : List α) : List α:=cs.take o ++ vs ++ cs.drop (o + vs.length)
theorem spl_conc {e : Env} {vs cs : List AV} {xs ys : List Value} (o : Nat) (h : concL e vs = some xs) (k : concL e cs = some ys) : concL e (spl o vs cs) = some (spl o xs ys):=by
 unfold spl
 rw [← concL_length h]
 exact concL_append (concL_append (concL_take k o) h) (concL_drop k _)
theorem spl_app {α : Type} {o : Nat} {vs cs rest : List α} (h : o + vs.length≤cs.length) : spl o vs (cs ++ rest) = spl o vs cs ++ rest:=by
 unfold spl
 rw [List.take_append_of_le_length (by omega),List.drop_append_of_le_length h]
 simp
theorem spl_length {α : Type} {o : Nat} {vs cs : List α} (h : o + vs.length≤cs.length) : (spl o vs cs).length = cs.length:=by
 simp [spl];omega
theorem store_run {w : World} {b o : Nat} {vs rest xs : List Value} {t : TypeId} (hb : w.heap[b]? = some (.cells (vs ++ rest).toArray t (0,0))) (h : o + xs.length≤(vs ++ rest).length) (h1 : ∀ x ∈ xs,x.oneCell' = true) :
 (storeCells ⟨b,o,none⟩ xs).run P w = .ok () (w.setRow b (spl o xs (vs ++ rest)).toArray):=by
 have:=run_storeCells_at P b o t xs 0 (vs ++ rest).toArray w hb (by simpa using h) h1
 simpa [spl] using this
theorem alloc_sim {e : Env} {s : St} {w : World} (hs : Sim e s w) (hf : e s.next = none) (q : Nat) {t : TypeId} {k : Option Nat} {cs : List AV} {vs rest : List Value} (h : concL e cs = some vs) (h1 : k = none→rest = []) (h2 : ∀ m,k = some m→(vs ++ rest).length = q * m) (W : World)
 (hW : W.heap = w.heap∧W.os = w.os∧W.tape = w.tape∧W.output = w.output) :
 Sim (e.upd s.next (w.heap.size,q)) (s.add (.cells t k cs)) { W with heap:=W.heap.push (.cells (vs ++ rest).toArray t) }∧
 Goes e s w (e.upd s.next (w.heap.size,q)) (s.add (.cells t k cs)) { W with heap:=W.heap.push (.cells (vs ++ rest).toArray t) }:=by
 obtain ⟨w1,w2,w3,w4⟩:=hW
 refine hs.add q hf (by simp [w1]) (ob:=.cells (vs ++ rest).toArray t (0,0)) (by simp [w1]) (fun i hi=>by simp only [w1];rw [Array.getElem?_push,if_neg (by omega)]) ?_ w2 w3 w4
 exact (cells_mk h h1 h2).le (Env.le_upd _ hf)
noncomputable def St.get (s : St) (n : Nat) : Option (TypeId × Option Nat × List AV):=
 match s.heap.get n with
 | some (.cells t k cs)=>some (t,k,cs)
 | _=>none
theorem St.get_eq {s : St} {n : Nat} {t : TypeId} {k : Option Nat} {cs : List AV} (h : s.get n = some (t,k,cs)) : s.heap.get n = some (.cells t k cs):=by
 unfold St.get at h
 split at h<;>simp only [Option.some.injEq,Prod.mk.injEq,reduceCtorEq] at h
 rename_i hx;obtain ⟨rfl,rfl,rfl⟩:=h;exact hx
noncomputable def St.rd (s : St) (n : Nat) : Option (List AV):=
 match s.heap.get n with
 | some (.cells _ _ cs)=>some cs
 | some (.ro _ _ cs)=>some cs
 | _=>none
theorem rd_at {e : Env} {s : St} {w : World} (hs : Sim e s w) {n : Nat} {cs : List AV} (h : s.rd n = some cs) : ∃ b q t vs rest,e n = some (b,q)∧w.heap[b]? = some (.cells (vs ++ rest).toArray t (0,0))∧concL e cs = some vs:=by
 unfold St.rd at h
 split at h<;>simp only [Option.some.injEq,reduceCtorEq] at h
 ·rename_i hx;subst h
  obtain ⟨b,q,ob,he,hb,hr⟩:=hs.at_ _ _ hx
  obtain ⟨vs,rest,hvs,rfl,_,_⟩:=cells_at hr
  exact ⟨b,q,_,vs,rest,he,hb,hvs⟩
 ·rename_i hx;subst h
  obtain ⟨b,q,ob,he,hb,vs,rest,hvs,rfl,_⟩:=hs.at_ _ _ hx
  exact ⟨b,q,_,vs,rest,he,hb,hvs⟩
theorem rd_of_get {s : St} {n : Nat} {t : TypeId} {k : Option Nat} {cs : List AV} (h : s.get n = some (t,k,cs)) : s.rd n = some cs:=by
 unfold St.rd;rw [St.get_eq h]
noncomputable def loadA (P : Program) (t : TypeId) (v : AV) (s : St) : Option AV:=
 match v with
 | .ptr n o=>(s.rd n).bind fun cs=>(isAggA P t).bind fun g=>if g then (szA P t).bind fun k=>if o + k≤cs.length then some (.agg ((cs.drop o).take k)) else none else cs[o]?
 | _=>none
theorem loadA_run {e : Env} {s : St} {w : World} (hs : Sim e s w) {t : TypeId} {a v : AV} {x : Value} (h : loadA P t a s = some v) (hx : conc e a = some x) :
 ∃ y,conc e v = some y∧(Instr.loadAt t x).run P w = .ok y w:=by
 unfold loadA at h
 split at h
 ·rename_i n o
  simp only [Option.bind_eq_some_iff] at h
  obtain ⟨cs,hg,g,hgg,h⟩:=h
  obtain ⟨b,q,t',vs,rest,he,hb,hvs⟩:=rd_at hs hg
  simp only [conc,he,Option.map_some,Option.some.injEq] at hx
  subst hx
  have hl:=concL_length hvs
  cases g with
  | true =>
   simp only [if_true,Option.bind_eq_some_iff] at h
   obtain ⟨k,hk,h⟩:=h
   split at h
   ·rename_i hle
    simp only [Option.some.injEq] at h;subst h
    refine ⟨.agg ((vs.drop o).take k).toArray,by simp [conc,concL_take (concL_drop hvs o) k],?_⟩
    simp [Instr.loadAt,Instr.sureAddr,loadVar,isAggA_run P hgg w,szA_run P hk w,load_run hb (by omega : o + k≤vs.length)]
   ·cases h
  | false =>
   simp only [Bool.false_eq_true,if_false] at h
   obtain ⟨y,hy,hc⟩:=concL_get hvs _ _ h
   refine ⟨y,hc,?_⟩
   have:=load1_run (P:=P) hb hy
   simp only [Instr.loadAt,Instr.sureAddr,loadVar,Sem.run_bind,Sem.run_pure,Result.andThen_ok,isAggA_run P hgg w,Bool.false_eq_true,if_false,this]
 ·cases h
noncomputable def storeA (P : Program) (t : TypeId) (a v : AV) (s : St) : Option St:=
 match a with
 | .ptr n o=>(s.get n).bind fun (t',k',cs)=>(szA P t).bind fun k=>if (cellsA v).length = k∧o + k≤cs.length∧(cellsA v).all oneA then some (s.put n (.cells t' k' (spl o (cellsA v) cs))) else none
 | _=>none
theorem storeA_run {e : Env} {s s' : St} {w : World} (hs : Sim e s w) {t : TypeId} {a v : AV} {x y : Value} (h : storeA P t a v s = some s') (hx : conc e a = some x) (hy : conc e v = some y) :
 ∃ w',Sim e s' w'∧Goes e s w e s' w'∧(Instr.storeAt t x y).run P w = .ok () w':=by
 unfold storeA at h
 split at h
 ·rename_i n o
  simp only [Option.bind_eq_some_iff] at h
  obtain ⟨⟨t',k',cs⟩,hg,k,hk,h⟩:=h
  split at h
  ·rename_i hc
   simp only at hc
   simp only [Option.some.injEq] at h;subst h
   obtain ⟨b,q,ob,he,hb,hr⟩:=hs.at_ _ _ (St.get_eq hg)
   obtain ⟨vs,rest,hvs,rfl,hr1,hr2⟩:=cells_at hr
   simp only [conc,he,Option.map_some,Option.some.injEq] at hx
   subst hx
   have hl:=concL_length hvs
   obtain ⟨ys,hys,hyc⟩:=cellsA_conc hy
   have hly:=concL_length hys
   have hle : o + ys.length≤vs.length:=by omega
   have hrun:=store_run (P:=P) hb (o:=o) (xs:=ys) (by simp;omega) (oneA_list hc.2.2 hys)
   rw [spl_app hle] at hrun
   have hput:=hs.put (blk':=.cells t' k' (spl o (cellsA v) cs)) (w':=w.setRow b (spl o ys vs ++ rest).toArray) (St.get_eq hg) trivial he (by simp) (setRow_heap _ _ _ _ _ _ hb) (fun i hi=>setRow_other _ _ _ _ hi)
    (cells_mk (spl_conc o hys hvs) hr1 (fun m hm=>by rw [← hr2 m hm];simp [spl_length hle])) rfl rfl rfl
   refine ⟨_,hput.1,hput.2,?_⟩
   simp [Instr.storeAt,Instr.sureAddr,storeVar,szA_run P hk w,hyc,hly,hc.1,hrun]
  ·cases h
 ·cases h
end Go.Abs
namespace Go.Abs
variable {P : Program}
structure AppArgs (P : Program) (w : World) (st xt el : TypeId) (k bytes : Nat) (base : Option Addr) (sLen : Nat) (x : Value) (n : Nat) (old new : List Value) : Prop where
 st : P.underlying st = some (.slice el)
 xt : ∃ el',P.underlying xt = some (.slice el')
 info : ∃ i z,P.info? el = some i∧i.size = k∧i.bytes = bytes∧i.zero = some z∧z.cells.size = k
 len : Builtin.lenOf x = pure n
 newr : ∀ W : World,W.heap = w.heap→(Builtin.firstCells k n x).run P W = .ok new.toArray W
 oldr : ∀ W : World,W.heap = w.heap→(Builtin.firstCells k sLen (.slice base sLen 0)).run P W = .ok old.toArray W
 newl : new.length = n * k
 oldl : old.length = sLen * k
theorem AppArgs.old' {w : World} {st xt el : TypeId} {k bytes : Nat} {base : Option Addr} {sLen : Nat} {x : Value} {n : Nat} {old new : List Value} (h : AppArgs P w st xt el k bytes base sLen x n old new) (c : Nat) (W : World) (hW : W.heap = w.heap) :
 (Builtin.firstCells k sLen (.slice base sLen c)).run P W = .ok old.toArray W:=by
 have:=h.oldr W hW
 cases base<;>exact this
theorem append_grow {w : World} {st xt el ty : TypeId} {k bytes : Nat} {base : Option Addr} {sLen sCap : Nat} {x : Value} {n : Nat} {old new : List Value}
 (h : AppArgs P w st xt el k bytes base sLen x n old new) (hc : sCap < sLen + n) (hb : bytes ≠ 0) (hm : (sLen + n) * bytes≤140737488355328) :
 ∃ newCap rest,(old ++ new ++ rest).length = newCap * k∧
  (Builtin.append_ #[st,xt] ty #[.slice base sLen sCap,x]).run P w = .ok (.slice (some ⟨w.heap.size,0,none⟩) (sLen + n) newCap) { w with drawn:=w.drawn + 1,heap:=w.heap.push (.cells (old ++ new ++ rest).toArray el) }:=by
 obtain ⟨i,z,hi,hk,hby,hz,hzs⟩:=h.info
 obtain ⟨el',hxt⟩:=h.xt
 obtain ⟨newCap,hnc,hch⟩ : ∃ c,sLen + n≤c∧(choose (.appendCap (sLen + n) sCap el)).run P w = .ok c { w with drawn:=w.drawn + 1 }:=
  ⟨(Question.appendCap (sLen + n) sCap el).cut (w.tape w.drawn (Question.appendCap (sLen + n) sCap el)),Nat.le_add_right _ _,by rw [run_choose];rfl⟩
 refine ⟨newCap,(Builtin.zeroCells z.cells (newCap - (sLen + n))).toList,?_,?_⟩
 ·have : (Builtin.zeroCells z.cells (newCap - (sLen + n))).toList.length = (newCap - (sLen + n)) * k:=by simp [Builtin.zeroCells,hzs]
  rw [List.length_append,List.length_append,h.oldl,h.newl,this,← Nat.add_mul,← Nat.add_mul]
  congr 1;omega
 ·have hfit:=growslice_fits hc hm
  have g1 : ¬ (sLen + n≤sCap):=by omega
  have g2 : ¬ (Builtin.nextslicecap (sLen + n) sCap * bytes > 2 ^ 48):=by omega
  have hnew:=h.newr { w with drawn:=w.drawn + 1 } rfl
  have hold:=h.old' sCap { w with drawn:=w.drawn + 1 } rfl
  have hti : ∀ W : World,(typeInfo el).run P W = .ok i W:=fun W=>run_typeInfo W hi
  have hsz : ∀ W : World,(sizeOf el).run P W = .ok k W:=fun W=>by simp [sizeOf,hti W,hk]
  have hzv : ∀ W : World,(zeroValue el).run P W = .ok z W:=fun W=>by simp [zeroValue,hti W,hz]
  simp only [Builtin.append_,List.getElem?_toArray,List.getElem?_cons_zero,List.getElem?_cons_succ,Sem.run_bind,run_underlying h.st,run_underlying hxt,Result.andThen_ok,hsz,Sem.run_pure,h.len,
   Bool.false_eq_true,if_false,g1,hti,hby,g2,or_self,and_false,hb,false_or,hch,run_askRoom,hold,hnew,hzv,Bool.not_false,if_true,newRow,run_newObj,List.append_toArray]
  simp
  congr 2
  apply Array.toList_inj.1
  simp
theorem append_room {w : World} {st xt el ty : TypeId} {k bytes : Nat} {b o : Nat} {sLen sCap : Nat} {x : Value} {n : Nat} {old new : List Value} {arr : List Value} {t : TypeId}
 (h : AppArgs P w st xt el k bytes (some ⟨b,o,none⟩) sLen x n old new) (hc : sLen + n≤sCap) (hb : w.heap[b]? = some (.cells arr.toArray t (0,0))) (hl : o + sLen * k + n * k≤arr.length) (h1 : ∀ x ∈ new,x.oneCell' = true) :
 (Builtin.append_ #[st,xt] ty #[.slice (some ⟨b,o,none⟩) sLen sCap,x]).run P w = .ok (.slice (some ⟨b,o,none⟩) (sLen + n) sCap) (w.setRow b (spl (o + sLen * k) new arr).toArray):=by
 obtain ⟨i,z,hi,hk,hby,hz,hzs⟩:=h.info
 obtain ⟨el',hxt⟩:=h.xt
 have hti : ∀ W : World,(typeInfo el).run P W = .ok i W:=fun W=>run_typeInfo W hi
 have hsz : ∀ W : World,(sizeOf el).run P W = .ok k W:=fun W=>by simp [sizeOf,hti W,hk]
 have hnew:=h.newr w rfl
 have hst:=store_run (P:=P) (w:=w) (b:=b) (o:=o + sLen * k) (vs:=arr) (rest:=[]) (xs:=new) (t:=t) (by simpa using hb) (by simp [h.newl];omega) h1
 simp only [List.append_nil] at hst
 simp only [Builtin.append_,List.getElem?_toArray,List.getElem?_cons_zero,List.getElem?_cons_succ,Sem.run_bind,run_underlying h.st,run_underlying hxt,Result.andThen_ok,hsz,Sem.run_pure,h.len,
  Bool.false_eq_true,if_false,hc,if_true,hnew,Bool.not_false,addr_add,List.toList_toArray,hst]
theorem append_none {w : World} {st xt el ty : TypeId} {k bytes : Nat} {base : Option Addr} {sLen sCap : Nat} {x : Value} {old : List Value}
 (h : AppArgs P w st xt el k bytes base sLen x 0 old []) (hc : sLen≤sCap) : (Builtin.append_ #[st,xt] ty #[.slice base sLen sCap,x]).run P w = .ok (.slice base sLen sCap) w:=by
 obtain ⟨i,z,hi,hk,hby,hz,hzs⟩:=h.info
 obtain ⟨el',hxt⟩:=h.xt
 have hti : ∀ W : World,(typeInfo el).run P W = .ok i W:=fun W=>run_typeInfo W hi
 have hsz : ∀ W : World,(sizeOf el).run P W = .ok k W:=fun W=>by simp [sizeOf,hti W,hk]
 have hnew:=h.newr w rfl
 cases base with
 | none =>
  simp only [Builtin.append_,List.getElem?_toArray,List.getElem?_cons_zero,List.getElem?_cons_succ,Sem.run_bind,run_underlying h.st,run_underlying hxt,Result.andThen_ok,hsz,Sem.run_pure,h.len,
   Bool.false_eq_true,if_false,Nat.add_zero,hc,if_true,hnew,Bool.not_false]
 | some a =>
  simp only [Builtin.append_,List.getElem?_toArray,List.getElem?_cons_zero,List.getElem?_cons_succ,Sem.run_bind,run_underlying h.st,run_underlying hxt,Result.andThen_ok,hsz,Sem.run_pure,h.len,
   Bool.false_eq_true,if_false,Nat.add_zero,hc,if_true,hnew,Bool.not_false,storeCells]
def lenSl : AV→Option Nat
 | .nilSlice=>some 0
 | .slice _ _ n _=>some n
 | .opn _ n=>some n
 | _=>none
noncomputable def firstA (m : Nat) (v : AV) (s : St) : Option (List AV):=
 match v with
 | .nilSlice=>if m = 0 then some [] else none
 | .slice b o _ _=>(s.rd b).bind fun cs=>if o + m≤cs.length then some ((cs.drop o).take m) else none
 | .opn b _=>(s.rd b).bind fun cs=>if m≤cs.length then some (cs.take m) else none
 | _=>none
theorem lenSl_run {e : Env} {v : AV} {x : Value} {n : Nat} (h : lenSl v = some n) (hx : conc e v = some x) : Builtin.lenOf x = pure n∧∃ a c,x = .slice a n c:=by
 unfold lenSl at h
 split at h<;>simp only [reduceCtorEq,Option.some.injEq] at h<;>subst h<;>simp only [conc,Option.some.injEq,Option.map_eq_some_iff] at hx
 ·subst hx;exact ⟨rfl,_,_,rfl⟩
 ·obtain ⟨p,_,rfl⟩:=hx;exact ⟨rfl,_,_,rfl⟩
 ·obtain ⟨p,_,rfl⟩:=hx;exact ⟨rfl,_,_,rfl⟩
theorem firstA_run {e : Env} {s : St} {w : World} (hs : Sim e s w) {v : AV} {x : Value} {n k : Nat} {cs : List AV} (h : firstA (n * k) v s = some cs) (hx : conc e v = some x) :
 ∃ xs,concL e cs = some xs∧cs.length = n * k∧∀ W : World,W.heap = w.heap→(Builtin.firstCells k n x).run P W = .ok xs.toArray W:=by
 unfold firstA at h
 split at h
 ·split at h
  ·rename_i hm
   simp only [Option.some.injEq] at h;subst h
   simp only [conc,Option.some.injEq] at hx;subst hx
   exact ⟨[],rfl,by simp [hm],fun W _=>rfl⟩
  ·cases h
 ·simp only [Option.bind_eq_some_iff] at h
  obtain ⟨ds,hg,h⟩:=h
  split at h
  ·rename_i hle
   simp only [Option.some.injEq] at h;subst h
   obtain ⟨b,q,t,vs,rest,he,hb,hvs⟩:=rd_at hs hg
   simp only [conc,he,Option.map_some,Option.some.injEq] at hx
   subst hx
   have hl:=concL_length hvs
   refine ⟨_,concL_take (concL_drop hvs _) _,by simp;omega,fun W hW=>?_⟩
   have hb' : W.heap[b]? = some (.cells (vs ++ rest).toArray t (0,0)):=by rw [hW];exact hb
   simp only [Builtin.firstCells]
   exact load_run hb' (by omega)
  ·cases h
 ·simp only [Option.bind_eq_some_iff] at h
  obtain ⟨ds,hg,h⟩:=h
  split at h
  ·rename_i hle
   simp only [Option.some.injEq] at h;subst h
   obtain ⟨b,q,t,vs,rest,he,hb,hvs⟩:=rd_at hs hg
   simp only [conc,he,Option.map_some,Option.some.injEq] at hx
   subst hx
   have hl:=concL_length hvs
   refine ⟨_,concL_take hvs _,by simp;omega,fun W hW=>?_⟩
   have hb' : W.heap[b]? = some (.cells (vs ++ rest).toArray t (0,0)):=by rw [hW];exact hb
   simp only [Builtin.firstCells]
   have:=load_run (P:=P) (o:=0) (n:=n * k) hb' (by omega)
   simpa using this
  ·cases h
 ·cases h
end Go.Abs
namespace Go.Abs
variable {P : Program}
theorem Goes.kill {e e' : Env} {s : St} {w w' : World} {blk : Blk} (n : Nat) (hn : n ≠ s.next) (h : Goes e s w e' (s.add blk) w') : Goes e s w e' (s.shift n blk) w' where
 le:=h.le
 rng:=h.rng
 own:=fun b hb o=>h.own b hb (by
  obtain ⟨m,x,q,hx,hr,hm⟩:=o
  simp only [St.shift,Tr.get_set] at hx
  refine ⟨m,x,q,?_,hr,hm⟩
  simp only [St.add,Tr.get_set]
  split at hx
  ·rename_i e0;rw [if_pos e0];exact hx
  ·rename_i e0;rw [if_neg e0];split at hx
   ·cases hx
   ·exact hx)
 met:=fun b hb o=>h.met b hb (by
  obtain ⟨m,x,q,hx,hm⟩:=o
  simp only [St.shift,Tr.get_set] at hx
  refine ⟨m,x,q,?_,hm⟩
  simp only [St.add,Tr.get_set]
  split at hx
  ·rename_i e0;rw [if_pos e0];exact hx
  ·rename_i e0;rw [if_neg e0];split at hx
   ·cases hx
   ·exact hx)
 frame:=h.frame
 size:=h.size
 os:=h.os
 tape:=h.tape
 output:=h.output
 log:=fun m hm=>by
  simp only [St.shift,List.mem_cons,not_or] at hm ⊢
  rw [Tr.get_set,if_neg hm.1,Tr.get_set,if_neg hm.2.1]
 logs:=fun m hm=>List.mem_cons_of_mem _ (List.mem_cons_of_mem _ hm)
 next:=h.next
theorem Sim.kill {e : Env} {s : St} {w : World} {blk : Blk} (n : Nat) (h : Sim e (s.add blk) w) : Sim e (s.shift n blk) w:=
 h.sub fun m x hx=>by
  simp only [St.shift,St.add,Tr.get_set] at hx ⊢
  split at hx
  ·rename_i e0;rw [if_pos e0];exact hx
  ·rename_i e0;rw [if_neg e0];split at hx
   ·cases hx
   ·exact hx
noncomputable def appendA (P : Program) (st xt : TypeId) (a x : AV) (s : St) : Option (AV × St):=
 match P.underlying st,P.underlying xt with
 | some (.slice el),some (.slice _) =>
  (P.info? el).bind fun i=>(zeroA P el).bind fun z =>
  if (cellsA z).length = i.size∧i.bytes ≠ 0∧i.size ≠ 0 then
  (lenSl x).bind fun n=>(lenSl a).bind fun m=>(firstA (n * i.size) x s).bind fun new=>(firstA (m * i.size) a s).bind fun old =>
  if n = 0 then
   match a with
   | .nilSlice=>some (.nilSlice,s)
   | .slice b o l c=>if l≤c then some (.slice b o l c,s) else none
   | .opn b l=>(s.get b).bind fun r=>if r.2.1 = some i.size then some (.opn b l,s) else none
   | _=>none
  else if new.all oneA∧(m + n) * i.bytes≤140737488355328 then
   match a with
   | .nilSlice=>some (.opn s.next (m + n),s.add (.cells el (some i.size) (old ++ new)))
   | .slice b o l c =>
    if l + n≤c then (s.get b).bind fun r=>if o + l * i.size + n * i.size≤r.2.2.length then some (.slice b o (l + n) c,s.put b (.cells r.1 r.2.1 (spl (o + l * i.size) new r.2.2))) else none
    else some (.opn s.next (m + n),s.add (.cells el (some i.size) (old ++ new)))
   | .opn b l=>(s.get b).bind fun r=>if r.2.1 = some i.size∧r.1 = el then some (.opn s.next (l + n),s.shift b (.cells el (some i.size) (old ++ new))) else none
   | _=>none
  else none
  else none
 | _,_=>none
theorem appendA_run {e : Env} {s s' : St} {w : World} (hs : Sim e s w) {st xt ty : TypeId} {a x v : AV} {A X : Value} (h : appendA P st xt a x s = some (v,s')) (hA : conc e a = some A) (hX : conc e x = some X)
 (hf : Free e s.next s'.next) : ∃ e' w',Sim e' s' w'∧Goes e s w e' s' w'∧∃ V,conc e' v = some V∧(Builtin.append_ #[st,xt] ty #[A,X]).run P w = .ok V w':=by
 unfold appendA at h
 split at h
 case h_2=>cases h
 rename_i el el' hst hxt
 simp only [Option.bind_eq_some_iff] at h
 obtain ⟨i,hi,z,hz,h⟩:=h
 split at h
 case isFalse=>cases h
 rename_i hc
 obtain ⟨hzl,hby,hsz⟩:=hc
 simp only [Option.bind_eq_some_iff] at h
 obtain ⟨n,hn,m,hm,new,hnew,old,hold,h⟩:=h
 obtain ⟨hlen,_,_,_⟩:=lenSl_run hn hX
 obtain ⟨_,base,cap,rfl⟩:=lenSl_run hm hA
 obtain ⟨news,hnews,hnewl,hnewr⟩:=firstA_run (P:=P) hs hnew hX
 obtain ⟨olds,holds,holdl,holdr⟩:=firstA_run (P:=P) hs hold hA
 have l1:=concL_length hnews
 have l2:=concL_length holds
 have harg : AppArgs P w st xt el i.size i.bytes base m X n olds news:=by
  refine ⟨hst,⟨el',hxt⟩,?_,hlen,hnewr,?_,by omega,by omega⟩
  ·simp only [zeroA,hi,Option.bind_some,Option.bind_eq_some_iff] at hz
   obtain ⟨zv,hzv,hzo⟩:=hz
   obtain ⟨zs,hzs1,hzs2⟩:=cellsA_conc (conc_ofVal e hzo)
   have:=concL_length hzs1
   exact ⟨i,zv,hi,rfl,rfl,hzv,by rw [hzs2];simp;omega⟩
  ·intro W hW
   have:=holdr W hW
   cases base<;>exact this
 split at h
 ·rename_i hn0
  subst hn0
  have hnil : news = []:=by
   have : news.length = 0:=by omega
   exact List.eq_nil_of_length_eq_zero this
  subst hnil
  have key : m≤cap→∃ e' w',Sim e' s w'∧Goes e s w e' s w'∧∃ V,conc e' a = some V∧(Builtin.append_ #[st,xt] ty #[.slice base m cap,X]).run P w = .ok V w':=fun hcap =>
   ⟨e,w,hs,Goes.refl ..,_,hA,append_none harg hcap⟩
  split at h
  ·simp only [Option.some.injEq,Prod.mk.injEq] at h;obtain ⟨rfl,rfl⟩:=h
   simp only [conc,Option.some.injEq,Value.slice.injEq] at hA;obtain ⟨_,h1,h2⟩:=hA
   exact key (by omega)
  ·split at h<;>simp only [reduceCtorEq,Option.some.injEq,Prod.mk.injEq] at h
   obtain ⟨rfl,rfl⟩:=h
   rename_i hlc
   simp only [conc,Option.map_eq_some_iff,Value.slice.injEq] at hA;obtain ⟨_,_,_,h1,h2⟩:=hA
   exact key (by omega)
  ·rename_i b l
   simp only [Option.bind_eq_some_iff] at h
   obtain ⟨⟨t',k',cs⟩,hg,h⟩:=h
   split at h<;>simp only [reduceCtorEq,Option.some.injEq,Prod.mk.injEq] at h
   obtain ⟨rfl,rfl⟩:=h
   rename_i hk
   simp only at hk
   obtain ⟨b',q,ob,he,hb,hr⟩:=hs.at_ _ _ (St.get_eq hg)
   obtain ⟨vs,rest,hvs,rfl,_,hr2⟩:=cells_at hr
   have hql:=hr2 _ hk
   simp only [firstA,rd_of_get hg,Option.bind_some] at hold
   split at hold
   ·rename_i hle
    try simp only at hle
    have l3:=concL_length hvs
    simp only [conc,he,Option.map_some,Option.some.injEq,Value.slice.injEq] at hA
    obtain ⟨_,h1,h2⟩:=hA
    have hmq : m * i.size≤q * i.size:=by
     rw [List.length_append] at hql;omega
    exact key (by rw [← h2];exact Nat.le_of_mul_le_mul_right hmq (by omega))
   ·cases hold
  ·cases h
 ·rename_i hn0
  split at h
  case isFalse=>cases h
  rename_i hone
  obtain ⟨hone,hmax⟩:=hone
  have grow : cap < m + n→e s.next = none→∃ e' w',Sim e' (s.add (.cells el (some i.size) (old ++ new))) w'∧Goes e s w e' (s.add (.cells el (some i.size) (old ++ new))) w'∧
   ∃ V,conc e' (.opn s.next (m + n)) = some V∧(Builtin.append_ #[st,xt] ty #[.slice base m cap,X]).run P w = .ok V w':=by
   intro hcap hfree
   obtain ⟨newCap,rest,hl,hrun⟩:=append_grow (ty:=ty) harg hcap hby hmax
   have:=alloc_sim hs hfree newCap (t:=el) (k:=some i.size) (rest:=rest) (concL_append holds hnews) (by simp) (fun m' hm'=>by cases hm';exact hl) { w with drawn:=w.drawn + 1 } ⟨rfl,rfl,rfl,rfl⟩
   exact ⟨_,_,this.1,this.2,_,by simp only [conc,Env.upd_self,Option.map_some],hrun⟩
  split at h
  ·simp only [Option.some.injEq,Prod.mk.injEq] at h;obtain ⟨rfl,rfl⟩:=h
   simp only [conc,Option.some.injEq,Value.slice.injEq] at hA;obtain ⟨_,h1,h2⟩:=hA
   exact grow (by omega) (hf _ (Nat.le_refl _) (Nat.lt_succ_self _))
  ·rename_i b o l c
   split at h
   ·rename_i hroom
    simp only [Option.bind_eq_some_iff] at h
    obtain ⟨⟨t',k',cs⟩,hg,h⟩:=h
    split at h<;>simp only [reduceCtorEq,Option.some.injEq,Prod.mk.injEq] at h
    obtain ⟨rfl,rfl⟩:=h
    rename_i hle
    simp only at hle
    obtain ⟨b',q,ob,he,hb,hr⟩:=hs.at_ _ _ (St.get_eq hg)
    obtain ⟨vs,rest,hvs,rfl,hr1,hr2⟩:=cells_at hr
    have l3:=concL_length hvs
    simp only [conc,he,Option.map_some,Option.some.injEq,Value.slice.injEq] at hA
    obtain ⟨h0,h1,h2⟩:=hA
    subst h0 h1 h2
    have hrun:=append_room (ty:=ty) harg hroom hb (by simp;omega) (oneA_list hone hnews)
    have hsp : spl (o + l * i.size) news (vs ++ rest) = spl (o + l * i.size) news vs ++ rest:=spl_app (by omega)
    rw [hsp] at hrun
    have hput:=hs.put (blk':=.cells t' k' (spl (o + l * i.size) new cs)) (w':=w.setRow b' (spl (o + l * i.size) news vs ++ rest).toArray) (St.get_eq hg) trivial he (by simp) (setRow_heap _ _ _ _ _ _ hb) (fun j hj=>setRow_other _ _ _ _ hj)
     (cells_mk (spl_conc _ hnews hvs) hr1 (fun m' hm'=>by rw [← hr2 m' hm'];simp [spl_length (show o + l * i.size + news.length≤vs.length by omega)])) rfl rfl rfl
    exact ⟨_,_,hput.1,hput.2,_,by simp only [conc,he,Option.map_some],hrun⟩
   ·rename_i hroom
    simp only [Option.some.injEq,Prod.mk.injEq] at h;obtain ⟨rfl,rfl⟩:=h
    simp only [conc,Option.map_eq_some_iff,Value.slice.injEq] at hA;obtain ⟨_,_,_,h1,h2⟩:=hA
    exact grow (by omega) (hf _ (Nat.le_refl _) (Nat.lt_succ_self _))
  ·rename_i b l
   simp only [Option.bind_eq_some_iff] at h
   obtain ⟨⟨t',k',cs⟩,hg,h⟩:=h
   split at h<;>simp only [reduceCtorEq,Option.some.injEq,Prod.mk.injEq] at h
   obtain ⟨rfl,rfl⟩:=h
   rename_i hk
   simp only at hk
   obtain ⟨hk,rfl⟩:=hk
   have hfree : e s.next = none:=hf _ (Nat.le_refl _) (Nat.lt_succ_self _)
   obtain ⟨b',q,ob,he,hb,hr⟩:=hs.at_ _ _ (St.get_eq hg)
   have hbn : b ≠ s.next:=fun e0=>by rw [e0,hfree] at he;cases he
   obtain ⟨vs,rest,hvs,rfl,hr1,hr2⟩:=cells_at hr
   have hql:=hr2 _ hk
   have l3:=concL_length hvs
   simp only [firstA,rd_of_get hg,Option.bind_some] at hold
   split at hold
   case isFalse=>cases hold
   rename_i hle
   try simp only at hle
   simp only [Option.some.injEq] at hold
   have hlm : m = l:=by simp only [lenSl,Option.some.injEq] at hm;exact hm.symm
   subst hlm
   simp only [conc,he,Option.map_some,Option.some.injEq,Value.slice.injEq] at hA
   obtain ⟨h0,_,h2⟩:=hA
   subst h0 h2
   by_cases hroom : m + n≤q
   ·have hfull : 0 + m * i.size + n * i.size≤(vs ++ rest).length:=by
     rw [hql,Nat.zero_add,← Nat.add_mul];exact Nat.mul_le_mul_right _ hroom
    have hrun:=append_room (ty:=ty) harg hroom hb hfull (oneA_list hone hnews)
    have hov : olds = vs.take (m * i.size):=by
     have:=concL_take hvs (m * i.size)
     rw [hold] at this;exact Option.some.inj (holds.symm.trans this)
    have hsp : spl (0 + m * i.size) news (vs ++ rest) = (olds ++ news) ++ (vs ++ rest).drop (m * i.size + news.length):=by
     unfold spl
     rw [Nat.zero_add,List.take_append_of_le_length (by omega),← hov]
    rw [hsp] at hrun
    have hsh:=hs.shift (blk':=.cells t' (some i.size) (old ++ new)) (w':=w.setRow b' ((olds ++ news) ++ (vs ++ rest).drop (m * i.size + news.length)).toArray) (St.get_eq hg) trivial he hfree (by simp) (setRow_heap _ _ _ _ _ _ hb) (fun j hj=>setRow_other _ _ _ _ hj)
     (cells_mk (concL_append holds hnews) (by simp) (fun m' hm'=>by cases hm';rw [← hql];simp only [List.length_append,List.length_drop] at hfull ⊢;omega)) rfl rfl rfl
    exact ⟨_,_,hsh.1,hsh.2,_,by simp only [conc,Env.upd_self,Option.map_some],hrun⟩
   ·obtain ⟨e',w',g1,g2,V,g3,g4⟩:=grow (by omega) hfree
    exact ⟨e',w',g1.kill b,g2.kill b hbn,V,g3,g4⟩
  ·cases h
end Go.Abs
namespace Go.Abs
variable (P : Program)
def checkF (f : TypeId→AV→Option Unit) (cs : List AV) : List Field→Option Unit
 | []=>some ()
 | g :: gs => if g.name ≠ "_" then (partA P g.type cs g.offset).bind fun a => (f g.type a).bind fun _ => checkF f cs gs else checkF f cs gs
def checkV : Nat→TypeId→AV→Option Unit
 | 0,_,_=>none
 | d + 1,t,v =>
  match P.underlying t,v with
  | some (.struct fs),.agg cs=>checkF P (checkV d) cs fs.toList
  | some .bool,.bool _ | some (.int _),.int _ _ | some .string,.str _=>some ()
  | _,_=>none
def findA (t : TypeId) (k : AV) : List (AV × AV × Nat)→Option (Option AV)
 | []=>some none
 | (k',v,_) :: es=>(eqV P 10000 t k k').bind fun r=>if r then some (some v) else findA t k es
variable {P}
theorem checkF_run {e : Env} {f : TypeId→AV→Option Unit} {em : Bool} {d : Nat} {w : World} {cs : List AV} {us : List Value}
 (hf : ∀ t a x,f t a = some ()→conc e a = some x→(Instr.checkKey em d t x).run P w = .ok () w) (hx : concL e cs = some us) : ∀ (fs : List Field),checkF P f cs fs = some ()→
 (forIn fs PUnit.unit fun (g : Field) (_ : PUnit) => (if g.name ≠ "_" then (do let x ← part g.type us.toArray g.offset; Instr.checkKey em d g.type x; pure (ForInStep.yield PUnit.unit)) else pure (ForInStep.yield PUnit.unit) : Sem (ForInStep PUnit))).run P w = .ok PUnit.unit w
 | [],_=>by simp
 | g :: gs,h=>by
  unfold checkF at h
  rw [List.forIn_cons]
  split at h
  ·rename_i hn
   simp only [Option.bind_eq_some_iff] at h
   obtain ⟨a,ha,u,hu,hr⟩:=h
   obtain ⟨x,hx',hxr⟩:=partA_run P ha hx w
   have:=hf _ _ _ hu hx'
   simp only [Sem.run_bind,if_pos hn,hxr,this,Result.andThen_ok,Sem.run_pure]
   exact checkF_run hf hx gs hr
  ·rename_i hn
   simp only [Sem.run_bind,if_neg hn,Result.andThen_ok,Sem.run_pure]
   exact checkF_run hf hx gs h
theorem checkV_run {e : Env} (em : Bool) (w : World) : ∀ (d : Nat) (t : TypeId) (a : AV) (x : Value),checkV P d t a = some ()→conc e a = some x→(Instr.checkKey em d t x).run P w = .ok () w
 | 0,_,_,_,h,_=>by cases h
 | d + 1,t,a,x,h,ha=>by
  unfold checkV at h
  split at h
  case h_1 fs cs hu =>
   simp only [conc,Option.map_eq_some_iff] at ha
   obtain ⟨us,hus,rfl⟩:=ha
   have:=checkF_run (P:=P) (em:=em) (d:=d) (w:=w) (fun t a x h1 h2=>checkV_run em w d t a x h1 h2) hus _ h
   rw [Instr.checkKey]
   simp only [Sem.run_bind,run_underlying hu,Result.andThen_ok]
   rw [← Array.forIn_toList]
   rw [this];simp
  all_goals (try (cases h;done))
  all_goals (rename_i hu)
  all_goals (simp only [conc,Option.some.injEq] at ha;subst ha;rw [Instr.checkKey];simp [run_underlying hu])
theorem sameNow_eq {t : TypeId} {d : TypeDesc} (hu : P.underlying t = some d) {x y : Value} {b : Bool} (h : Instr.sameNow d x y = some b) (w : World) : (Op.equal t x y).run P w = .ok b w:=by
 suffices hk : ∀ n,(Op.equalIn (n + 1) t x y).run P w = .ok b w from hk 9999
 intro n
 unfold Instr.sameNow at h
 split at h
 ·split at h
  ·rename_i hk;subst hk;cases h;simp [Op.equalIn,run_underlying hu]
  ·cases h
 ·cases h;simp [Op.equalIn,run_underlying hu]
 ·cases h;simp [Op.equalIn,run_underlying hu]
 ·cases h
theorem findNow_eq {t : TypeId} {d : TypeDesc} (hu : P.underlying t = some d) {x : Value} (w : World) : ∀ {ms : List MapEntry} {i : Nat} {r : Option (Nat × Value)},Instr.findNow d x ms i = some r→(Instr.findAsking t x ms i).run P w = .ok r w
 | [],i,r,h=>by simp [Instr.findNow] at h;subst h;simp [Instr.findAsking]
 | m :: ms,i,r,h=>by
  simp only [Instr.findNow] at h
  split at h
  ·rename_i hs;cases h;simp only [Instr.findAsking,Sem.run_bind,sameNow_eq hu hs w,Result.andThen_ok,if_true,Sem.run_pure]
  ·rename_i hs;simp only [Instr.findAsking,Sem.run_bind,sameNow_eq hu hs w,Result.andThen_ok,Bool.false_eq_true,if_false,findNow_eq hu w h]
  ·cases h
theorem findKey_eq {t : TypeId} {d : TypeDesc} (hu : P.underlying t = some d) (x : Value) (ms : List MapEntry) (w : World) : (Instr.findKey t x ms).run P w = (Instr.findAsking t x ms).run P w:=by
 unfold Instr.findKey
 simp only [Sem.run_bind,run_underlying hu,Result.andThen_ok]
 cases hn : Instr.findNow d x ms 0 with
 | none=>rfl
 | some r=>simp only [Sem.run_pure,findNow_eq hu w hn]
def FoundIs (e : Env) : Option AV→Option (Nat × Value)→Prop
 | none,none=>True
 | some v,some q=>conc e v = some q.2
 | _,_=>False
theorem findA_run {e : Env} {t : TypeId} {k : AV} {x : Value} (hk : conc e k = some x) (w : World) : ∀ {es : List (AV × AV × Nat)} {ms : List MapEntry} {r : Option AV} (i : Nat),findA P t k es = some r→concM e es = some ms→∃ q,(Instr.findAsking t x ms i).run P w = .ok q w∧FoundIs e r q
 | [],ms,r,i,h,hm=>by
  simp [concM] at hm;subst hm;simp [findA] at h;subst h
  exact ⟨none,by simp [Instr.findAsking],trivial⟩
 | (k',v,b) :: es,ms,r,i,h,hm=>by
  simp only [concM,Option.bind_eq_some_iff,Option.map_eq_some_iff] at hm
  obtain ⟨y,hy,z,hz,ms1,hms,rfl⟩:=hm
  simp only [findA,Option.bind_eq_some_iff] at h
  obtain ⟨q,hq,h⟩:=h
  have he : (Op.equal t x y).run P w = .ok q w:=eqV_run P e w 10000 t k k' q x y hq hk hy
  cases q with
  | true =>
   simp only [if_true,Option.some.injEq] at h;subst h
   exact ⟨some (i,z),by simp only [Instr.findAsking,Sem.run_bind,he,Result.andThen_ok,if_true,Sem.run_pure],hz⟩
  | false =>
   simp only [Bool.false_eq_true,if_false] at h
   obtain ⟨q,h1,h2⟩:=findA_run hk w (i + 1) h hms
   exact ⟨q,by simp only [Instr.findAsking,Sem.run_bind,he,Result.andThen_ok,Bool.false_eq_true,if_false,h1],h2⟩
noncomputable def entsA (x : AV) (s : St) : Option (List (AV × AV × Nat)):=
 match x with
 | .nilMap=>some []
 | .map n=>match s.heap.get n with | some (.map es _)=>some es | _=>none
 | _=>none
noncomputable def lookupA (P : Program) (xt : TypeId) (x k : AV) (ok : Bool) (s : St) : Option AV:=
 match P.underlying xt with
 | some (.map kt el)=>(entsA x s).bind fun es=>(checkV P 10000 kt k).bind fun _=>(findA P kt k es).bind fun r=>match r with
  | some v=>some (if ok then .tup [v,.bool true] else v)
  | none=>(zeroA P el).map fun z=>if ok then .tup [z,.bool false] else z
 | _=>none
theorem lookupA_run {e : Env} {s : St} {w : World} (hs : Sim e s w) {xt : TypeId} {x k v : AV} {ok : Bool} (h : lookupA P xt x k ok s = some v) {a b : Value} (ha : conc e x = some a) (hb : conc e k = some b) :
 ∃ y,conc e v = some y∧(Instr.lookup xt a b ok).run P w = .ok y w:=by
 unfold lookupA at h
 split at h
 case h_2=>cases h
 rename_i kt el hu
 simp only [Option.bind_eq_some_iff] at h
 obtain ⟨es,hes,u,hc,r,hf,h⟩:=h
 have hck:=fun em=>checkV_run (P:=P) em w 10000 kt k b hc hb
 have hkt : ∃ d,P.underlying kt = some d:=by
  unfold checkV at hc;split at hc<;>first | exact ⟨_,by assumption⟩ | cases hc
 obtain ⟨d,hd⟩:=hkt
 have hents : ∃ ms,concM e es = some ms∧((a = .map none∧ms = [])∨∃ p c,a = .map (some p)∧(getObj p).run P w = .ok (.map ms.toArray c) w):=by
  unfold entsA at hes
  split at hes
  ·cases hes;simp only [conc,Option.some.injEq] at ha;exact ⟨[],rfl,.inl ⟨ha.symm,rfl⟩⟩
  ·rename_i n
   split at hes
   ·rename_i es' c hg
    cases hes
    obtain ⟨p,q,ob,he,hp,ms,hm,rfl⟩:=hs.at_ _ _ hg
    simp only [conc,he,Option.map_some,Option.some.injEq] at ha
    exact ⟨ms,hm,.inr ⟨p,c,ha.symm,by simp [getObj,Sem.run,hp]⟩⟩
   ·cases hes
  ·cases hes
 obtain ⟨ms,hms,hcase⟩:=hents
 obtain ⟨q,hq,hfound⟩:=findA_run hb w 0 hf hms
 have hkey : (Instr.findKey kt b ms).run P w = .ok q w:=(findKey_eq hd b ms w).trans hq
 have fin : ∃ y,conc e v = some y∧∀ m : Sem Value,(m.run P w = ((pure (q,0) : Sem (Option (Nat × Value) × Nat)).run P w).andThen fun p w'=>((match p.1 with | some (_,v)=>(pure (v,true) : Sem (Value × Bool)) | none=>do pure (← zeroValue el,false)).run P w').andThen (fun p w'=>(pure (if ok then Value.tuple #[p.1,.bool p.2] else p.1) : Sem Value).run P w'))→m.run P w = .ok y w:=by
  cases r with
  | some v' =>
   cases q with
   | none=>cases hfound
   | some q =>
    obtain ⟨i,z⟩:=q
    have hz : conc e v' = some z:=hfound
    cases h
    cases ok
    ·exact ⟨z,hz,fun m hm=>by rw [hm];simp⟩
    ·exact ⟨.tuple #[z,.bool true],by simp [conc,concL,hz],fun m hm=>by rw [hm];simp⟩
  | none =>
   cases q with
   | some q=>cases hfound
   | none =>
    simp only [Option.map_eq_some_iff] at h
    obtain ⟨z,hz,rfl⟩:=h
    obtain ⟨zx,hz1,hz2⟩:=zeroA_run P hz e w
    cases ok
    ·exact ⟨zx,hz1,fun m hm=>by rw [hm];simp [hz2]⟩
    ·exact ⟨.tuple #[zx,.bool false],by simp [conc,concL,hz1],fun m hm=>by rw [hm];simp [hz2]⟩
 obtain ⟨y,hy,hrun⟩:=fin
 refine ⟨y,hy,hrun _ ?_⟩
 unfold Instr.lookup
 rcases hcase with ⟨rfl,rfl⟩ | ⟨p,c,rfl,hg⟩
 ·simp only [Sem.run_bind,run_underlying hu,Result.andThen_ok,Sem.run_pure,hck]
  rw [hkey];cases q<;>simp [Result.andThen]<;>(try (split<;>rfl))
 ·simp only [Sem.run_bind,run_underlying hu,Result.andThen_ok,Sem.run_pure,hck,hg]
  rw [hkey];cases q<;>simp [Result.andThen]<;>(try (split<;>rfl))
noncomputable def mapUpdateA (P : Program) (mt : TypeId) (m k v : AV) (s : St) : Option St:=
 match P.underlying mt,m with
 | some (.map kt _),.map n=>match s.heap.get n with
  | some (.map es c)=>(checkV P 10000 kt k).bind fun _=>(findA P kt k es).bind fun r=>match r with
   | none=>some (s.put n (.map (es ++ [(k,v,c)]) (c + 1)))
   | some _=>none
  | _=>none
 | _,_=>none
theorem concM_snoc {e : Env} {k v : AV} {x y : Value} {b : Nat} (hk : conc e k = some x) (hv : conc e v = some y) : ∀ {es : List (AV × AV × Nat)} {ms : List MapEntry},concM e es = some ms→concM e (es ++ [(k,v,b)]) = some (ms ++ [⟨x,y,b⟩])
 | [],ms,h=>by simp [concM] at h;subst h;simp [concM,hk,hv]
 | (k',v',b') :: es,ms,h=>by
  simp only [concM,Option.bind_eq_some_iff,Option.map_eq_some_iff] at h
  obtain ⟨p,hp,q,hq,ms1,hms,rfl⟩:=h
  simp only [List.cons_append,concM,hp,hq,Option.bind_some,concM_snoc hk hv hms,Option.map_some]
theorem mapUpdateA_run {e : Env} {s s' : St} {w : World} (hs : Sim e s w) {mt : TypeId} {m k v : AV} (h : mapUpdateA P mt m k v s = some s') {a b c : Value} (ha : conc e m = some a) (hb : conc e k = some b) (hcv : conc e v = some c) :
 ∃ w',Sim e s' w'∧Goes e s w e s' w'∧(Instr.mapUpdate mt a b c).run P w = .ok () w':=by
 unfold mapUpdateA at h
 split at h
 case h_2=>cases h
 rename_i kt el n hu
 split at h
 case h_2=>cases h
 rename_i es cl hg
 simp only [Option.bind_eq_some_iff] at h
 obtain ⟨u,hc,r,hf,h⟩:=h
 split at h
 case h_2=>cases h
 cases h
 have hck:=checkV_run (P:=P) false w 10000 kt k b hc hb
 have hkt : ∃ d,P.underlying kt = some d:=by
  unfold checkV at hc;split at hc<;>first | exact ⟨_,by assumption⟩ | cases hc
 obtain ⟨d,hd⟩:=hkt
 obtain ⟨p,q,ob,he,hp,ms,hm,rfl⟩:=hs.at_ _ _ hg
 simp only [conc,he,Option.map_some,Option.some.injEq] at ha
 obtain ⟨q1,hq,hfound⟩:=findA_run hb w 0 hf hm
 have hq1 : q1 = none:=by cases q1 with | none=>rfl | some _=>cases hfound
 subst hq1
 have hkey : (Instr.findKey kt b ms).run P w = .ok none w:=(findKey_eq hd b ms w).trans hq
 have hlt : p < w.heap.size:=(Array.getElem?_eq_some_iff.1 hp).1
 obtain ⟨ob',hob⟩ : ∃ o : Obj,o = .map (ms ++ [(⟨b,c,cl⟩ : MapEntry)]).toArray (cl + 1):=⟨_,rfl⟩
 let w' : World:={ w with heap:=w.heap.setIfInBounds p ob' }
 have hput:=hs.put (blk':=.map (es ++ [(k,v,cl)]) (cl + 1)) (ob:=ob') (w':=w') hg trivial he (by simp [w']) (by simp [w',hlt]) (fun k hk=>by simp [w',Array.getElem?_setIfInBounds_ne (Ne.symm hk)]) ⟨_,concM_snoc hb hcv hm,hob⟩ rfl rfl rfl
 refine ⟨w',hput.1,hput.2,?_⟩
 have hgo : (getObj p).run P w = .ok (.map ms.toArray cl) w:=by simp [getObj,Sem.run,hp]
 have hset : (setObj p ob').run P w = .ok () w':=by simp [setObj,Sem.run,hp,w']
 subst ha
 unfold Instr.mapUpdate
 simp only [Sem.run_bind,run_underlying hu,Result.andThen_ok,hgo,hck]
 rw [hkey]
 simp only [Result.andThen_ok]
 rw [show (ms.toArray.push { key:=b,val:=c,born:=cl } : Array MapEntry) = (ms ++ [(⟨b,c,cl⟩ : MapEntry)]).toArray by simp,← hob]
 exact hset
end Go.Abs
namespace Go.Abs
variable {P : Program}
def repA (z : List AV) (n : Nat) : List AV:=(List.range n).map fun i=>z.getD (i % z.length) (.tup [])
theorem repA_conc {e : Env} {z : List AV} {zs : List Value} (h : concL e z = some zs) {n : Nat} (hn : n = 0∨z.length ≠ 0) :
 ∃ xs,concL e (repA z n) = some xs∧(Array.range n).map (fun i=>zs.toArray[i % zs.toArray.size]!) = xs.toArray∧xs.length = n:=by
 have hl:=concL_length h
 have key : ∀ l : List Nat,(l = []∨z.length ≠ 0)→concL e (l.map fun i=>z.getD (i % z.length) (.tup [])) = some (l.map fun i=>zs.toArray[i % zs.toArray.size]!):=by
  intro l hz
  induction l with
  | nil=>rfl
  | cons a l ih =>
   have hz' : z.length ≠ 0:=by
    rcases hz with h0 | h0;· cases h0
    ·exact h0
   have hlt : a % z.length < z.length:=Nat.mod_lt _ (by omega)
   obtain ⟨x,hx,hc⟩:=concL_get h (a % z.length) z[a % z.length] (by simp [hlt])
   simp only [List.map_cons,concL]
   rw [ih (.inr hz')]
   have h1 : z.getD (a % z.length) (.tup []) = z[a % z.length]:=by simp [List.getD_eq_getElem?_getD,hlt]
   have h2 : zs.toArray[a % zs.toArray.size]! = x:=by
    simp only [List.size_toArray,hl]
    rw [List.getElem!_toArray,getElem!_def,hx]
   rw [h1,hc,h2];rfl
 refine ⟨_,key (List.range n) ?_,?_,by simp⟩
 ·rcases hn with rfl | h0
  ·exact .inl rfl
  ·exact .inr h0
 ·apply Array.toList_inj.1;simp
noncomputable def newA (t : TypeId) (cs : List AV) (s : St) : Option (Option AV × St):=some (some (.ptr s.next 0),s.add (.cells t none cs))
noncomputable def buildSliceA (P : Program) (t : TypeId) (len : Nat) (ps : List (Nat × AV)) (s : St) : Option (Option AV × St):=
 match P.underlying t with
 | some (.slice el)=>(szA P el).bind fun k=>if len * k≤16777216 then
  (if len * k = 0 then some [] else (zeroA P el).map cellsA).bind fun z=>if len * k = 0∨z.length ≠ 0 then
  (fillA (fun i=>some (i * k,k)) (repA z (len * k)) ps).bind fun cs=>some (some (.slice s.next 0 len len),s.add (.cells el none cs)) else none else none
 | _=>none
noncomputable def makeSliceA (P : Program) (t : TypeId) (l c : AV) (s : St) : Option (Option AV × St):=
 match P.underlying t,l,c with
 | some (.slice el),.int _ l,.int _ c=>(P.info? el).bind fun i=>if 0≤l∧l≤c∧c < 1048576∧i.bytes≤1048576 then
  (if c.toNat * i.size = 0 then some [] else (zeroA P el).map cellsA).bind fun z=>if c.toNat * i.size = 0∨z.length ≠ 0 then
  some (some (.slice s.next 0 l.toNat c.toNat),s.add (.cells el none (repA z (c.toNat * i.size)))) else none else none
 | _,_,_=>none
noncomputable def sliceOpnA (P : Program) (t : TypeId) (x : AV) (lo hi mx : Option AV) (s : St) : Option AV:=
 match P.underlying t,x with
 | some (.slice el),.opn b len=>(szA P el).bind fun k=>(s.get b).bind fun r=>if k ≠ 0∧r.2.1 = some k then
  (match lo with | some (.int _ 0)=>some () | none=>some () | _=>none).bind fun _ =>
  (match hi,mx with
  | none,none=>some (.opn b len)
  | some (.int _ h),none=>if 0≤h∧h.toNat * k≤r.2.2.length then some (.opn b h.toNat) else none
  | some (.int _ h),some (.int _ m)=>if 0≤h∧h≤m∧m.toNat * k≤r.2.2.length then some (.slice b 0 h.toNat m.toNat) else none
  | _,_=>none) else none
 | _,_=>none
noncomputable def heapOp (P : Program) (o : Oper) (α : Operand→Option AV) (s : St) : Option (Option AV × St):=
 match o.op with
 | .alloc t=>(zeroA P t).bind fun z=>newA t (cellsA z) s
 | .box t x=>(α x).bind fun v=>newA t (cellsA v) s
 | .buildSlice t n ps=>(argP α ps.toList).bind fun qs=>buildSliceA P t n qs s
 | .load t x=>(α x).bind fun a=>(loadA P t a s).map fun v=>(some v,s)
 | .store t x y=>(α x).bind fun a=>(α y).bind fun v=>(storeA P t a v s).map fun s'=>(none,s')
 | .makeSlice t l c=>(α l).bind fun a=>(α c).bind fun b=>makeSliceA P t a b s
 | .slice t x lo hi mx=>(α x).bind fun a=>(optArg α lo).bind fun l=>(optArg α hi).bind fun h=>(optArg α mx).bind fun m=>(sliceOpnA P t a l h m s).map fun v=>(some v,s)
 | .call { callee:=.builtin .append,args,argTypes }=>(argL α args.toList).bind fun vs=>match vs,argTypes.toList with
  | [a,x],[st,xt]=>(appendA P st xt a x s).map fun r=>(some r.1,r.2)
  | _,_=>none
 | .range t x=>(α x).bind fun a=>match P.underlying t,a with | some .string,.str b=>some (some (.ptr s.next 0),s.add (.iter b 0)) | _,_=>none
 | .next x true=>(α x).bind fun a=>match a with
  | .ptr n 0=>match s.heap.get n with
   | some (.iter b pos)=>if pos < b.size then some (some (.tup [.bool true,.int .i64 pos,.int .i32 (Utf8.decode b pos).1]),s.put n (.iter b (pos + (Utf8.decode b pos).2))) else some (some (.tup [.bool false]),s)
   | _=>none
  | _=>none
 | .makeMap _ none=>some (some (.map s.next),s.add (.map [] 0))
 | .lookup t x k ok=>(α x).bind fun a=>(α k).bind fun b=>(lookupA P t a b ok s).map fun v=>(some v,s)
 | .mapUpdate t m k v=>(α m).bind fun a=>(α k).bind fun b=>(α v).bind fun c=>(mapUpdateA P t a b c s).map fun s'=>(none,s')
 | .call { callee:=.builtin .len,args,argTypes }=>(argL α args.toList).bind fun vs=>match vs,argTypes[0]? with
  | [.map n],some t=>match P.underlying t,s.heap.get n with
   | some (.map _ _),some (.map es _)=>some (some (.int .i64 es.length),s)
   | _,_=>none
  | _,_=>none
 | _=>none
end Go.Abs
namespace Go.Abs
variable {P : Program}
def HR (e : Env) (s : St) (w : World) (r : Option AV × St) (res : Result Next) : Prop:=
 ∃ e' w',Sim e' r.2 w'∧Goes e s w e' r.2 w'∧match r.1 with
  | some v=>∃ x,conc e' v = some x∧res = .ok (.value x) w'
  | none=>res = .ok .skip w'
theorem HR.same {e : Env} {s : St} {w : World} (hs : Sim e s w) {v : AV} {x : Value} (h : conc e v = some x) {res : Result Next} (hr : res = .ok (.value x) w) : HR e s w (some v,s) res:=
 ⟨e,w,hs,Goes.refl ..,x,h,hr⟩
theorem newA_HR {e : Env} {s : St} {w : World} (hs : Sim e s w) (hf : e s.next = none) {t : TypeId} {cs : List AV} {xs : List Value} (h : concL e cs = some xs) (v : AV) (x : Nat→Value)
 (hv : ∀ e' : Env,e' s.next = some (w.heap.size,0)→conc e' v = some (x w.heap.size)) {res : Result Next} (hr : res = .ok (.value (x w.heap.size)) { w with heap:=w.heap.push (.cells xs.toArray t) }) :
 HR e s w (some v,s.add (.cells t none cs)) res:=by
 have:=alloc_sim hs hf 0 (t:=t) (k:=none) (rest:=[]) h (fun _=>rfl) (by simp) w ⟨rfl,rfl,rfl,rfl⟩
 simp only [List.append_nil] at this
 exact ⟨_,_,this.1,this.2,_,hv _ (Env.upd_self ..),hr⟩
theorem bound_int {k : IntKind} {i : Int} {y : Nat} (h0 : 0≤i) (h1 : i≤y) (c : BoundsCode) (w : World) : (Instr.sliceBound (.int k i) y c).run P w = .ok i.toNat w:=by
 simp [Instr.sliceBound,asIntOf,h0,h1]
theorem sliceOpnA_run {e : Env} {s : St} {w : World} (hs : Sim e s w) {t : TypeId} {a v : AV} {x : Value} {lo hi mx : Option AV} {lo' hi' mx' : Option Value} (h : sliceOpnA P t a lo hi mx s = some v) (hx : conc e a = some x)
 (h1 : OptConc e lo lo') (h2 : OptConc e hi hi') (h3 : OptConc e mx mx') : ∃ u,conc e v = some u∧(Instr.sliceAt t x lo' hi' mx').run P w = .ok u w:=by
 unfold sliceOpnA at h
 split at h
 case h_2=>cases h
 rename_i el b len hu
 simp only [Option.bind_eq_some_iff] at h
 obtain ⟨k,hk,⟨t',k',cs⟩,hg,h⟩:=h
 split at h
 case isFalse=>cases h
 rename_i hc
 simp only at hc
 obtain ⟨hk0,rfl⟩:=hc
 simp only [Option.bind_eq_some_iff] at h
 obtain ⟨_,hlo,h⟩:=h
 obtain ⟨b',q,ob,he,hb,hr⟩:=hs.at_ _ _ (St.get_eq hg)
 obtain ⟨vs,rest,hvs,rfl,_,hr2⟩:=cells_at hr
 have hql:=hr2 _ rfl
 have l3:=concL_length hvs
 simp only [conc,he,Option.map_some,Option.some.injEq] at hx
 subst hx
 have hcap : ∀ m : Nat,m * k≤cs.length→m≤q:=fun m hm=>by
  rw [List.length_append] at hql
  exact Nat.le_of_mul_le_mul_right (by omega : m * k≤q * k) (by omega)
 have hl0 : ∀ (h : Nat) (r : Sem (Nat × Nat × Nat)) ,True:=fun _ _=>trivial
 have low : ∀ (y : Nat),(∀ c,lo' = some c→(Instr.sliceBound c y .sliceB).run P w = .ok 0 w)∧(∀ c,lo' = some c→(Instr.sliceBound c y .slice3C).run P w = .ok 0 w):=by
  intro y
  constructor<;>intro c hcl<;>subst hcl<;>cases lo<;>simp only [OptConc] at h1<;>split at hlo<;>simp only [reduceCtorEq,Option.some.injEq] at hlo<;>rename_i h0<;>simp only [Option.some.injEq,reduceCtorEq] at h0
  all_goals (subst h0;simp only [conc,Option.some.injEq] at h1;subst h1;simp [Instr.sliceBound,asIntOf])
 split at h
 ·simp only [Option.some.injEq] at h;subst h
  cases hi'<;>simp only [OptConc] at h2
  cases mx'<;>simp only [OptConc] at h3
  refine ⟨_,by simp only [conc,he,Option.map_some];rfl,?_⟩
  cases lo' with
  | none=>simp [Instr.sliceAt,Instr.slice,Instr.sliceBounds,run_underlying hu,szA_run P hk w,addr_add]
  | some c=>simp [Instr.sliceAt,Instr.slice,Instr.sliceBounds,run_underlying hu,szA_run P hk w,addr_add,(low len).1 c rfl]
 ·rename_i kh hh
  cases hi'<;>simp only [OptConc] at h2
  cases mx'<;>simp only [OptConc] at h3
  split at h<;>simp only [reduceCtorEq,Option.some.injEq] at h
  rename_i hle
  subst h
  simp only [conc,Option.some.injEq] at h2;subst h2
  have hq:=hcap _ hle.2
  refine ⟨_,by simp only [conc,he,Option.map_some];rfl,?_⟩
  have hb0 : ∀ c,(Instr.sliceBound (.int kh hh) q c).run P w = .ok hh.toNat w:=fun c=>bound_int hle.1 (by omega) c w
  cases lo' with
  | none=>simp [Instr.sliceAt,Instr.slice,Instr.sliceBounds,run_underlying hu,szA_run P hk w,addr_add,hb0]
  | some c=>simp [Instr.sliceAt,Instr.slice,Instr.sliceBounds,run_underlying hu,szA_run P hk w,addr_add,hb0,(low hh.toNat).1 c rfl]
 ·rename_i kh hh km m
  cases hi'<;>simp only [OptConc] at h2
  cases mx'<;>simp only [OptConc] at h3
  split at h<;>simp only [reduceCtorEq,Option.some.injEq] at h
  rename_i hle
  subst h
  simp only [conc,Option.some.injEq] at h2 h3;subst h2 h3
  have hq:=hcap _ hle.2.2
  refine ⟨_,by simp only [conc,he,Option.map_some];rfl,?_⟩
  have hb0 : ∀ c,(Instr.sliceBound (.int km m) q c).run P w = .ok m.toNat w:=fun c=>bound_int (by omega) (by omega) c w
  have hb1 : ∀ c,(Instr.sliceBound (.int kh hh) m.toNat c).run P w = .ok hh.toNat w:=fun c=>bound_int hle.1 (by omega) c w
  cases lo' with
  | none=>simp [Instr.sliceAt,Instr.slice,Instr.sliceBounds,run_underlying hu,szA_run P hk w,addr_add,hb0,hb1]
  | some c=>simp [Instr.sliceAt,Instr.slice,Instr.sliceBounds,run_underlying hu,szA_run P hk w,addr_add,hb0,hb1,(low hh.toNat).2 c rfl]
 ·cases h
theorem concM_length {e : Env} : ∀ {es : List (AV × AV × Nat)} {ms : List MapEntry},concM e es = some ms→ms.length = es.length
 | [],ms,h=>by simp [concM] at h;subst h;rfl
 | (k,v,b) :: es,ms,h=>by
  simp only [concM,Option.bind_eq_some_iff,Option.map_eq_some_iff] at h
  obtain ⟨p,hp,q,hq,ms1,hms,rfl⟩:=h
  simp [concM_length hms]
set_option maxHeartbeats 1000000 in
theorem heapOp_run {e : Env} {s : St} {w : World} (hs : Sim e s w) {α : Operand→Option AV} {ρ : Operand→Value} (hr : Reads e α ρ) {o : Oper} {r : Option AV × St} (h : heapOp P o α s = some r)
 (hf : Free e s.next r.2.next) : HR e s w r ((execOp ρ o).run P w):=by
 have hfree : s.next < r.2.next→e s.next = none:=fun hlt=>hf _ (Nat.le_refl _) hlt
 unfold heapOp at h
 split at h
 case h_1 t ho =>
  simp only [Option.bind_eq_some_iff,newA,Option.some.injEq] at h
  obtain ⟨z,hz,rfl⟩:=h
  obtain ⟨zx,hz1,hz2⟩:=zeroA_run P hz e w
  obtain ⟨zs,hzs,hzc⟩:=cellsA_conc hz1
  refine newA_HR hs (hfree (Nat.lt_succ_self _)) hzs (.ptr s.next 0) (fun b=>.pointer (some ⟨b,0,none⟩)) (fun e' he=>by simp [conc,he]) ?_
  simp only [execOp,ho,Instr.alloc,Sem.run_bind,hz2,Result.andThen_ok,newVar,newRow,hzc,run_newObj,Sem.run_pure]
 case h_2 t x ho =>
  simp only [Option.bind_eq_some_iff,newA,Option.some.injEq] at h
  obtain ⟨v,hv,rfl⟩:=h
  obtain ⟨zs,hzs,hzc⟩:=cellsA_conc (hr x v hv)
  refine newA_HR hs (hfree (Nat.lt_succ_self _)) hzs (.ptr s.next 0) (fun b=>.pointer (some ⟨b,0,none⟩)) (fun e' he=>by simp [conc,he]) ?_
  simp only [execOp,ho,Instr.box,Sem.run_bind,Result.andThen_ok,newVar,newRow,hzc,run_newObj,Sem.run_pure]
 case h_3 t n ps ho =>
  simp only [Option.bind_eq_some_iff] at h
  obtain ⟨qs,hqs,h⟩:=h
  have hps:=argP_conc hr _ _ hqs
  unfold buildSliceA at h
  split at h
  case h_2=>cases h
  rename_i el hu
  simp only [Option.bind_eq_some_iff] at h
  obtain ⟨k,hk,h⟩:=h
  split at h
  case isFalse=>cases h
  rename_i hmax
  simp only [Option.bind_eq_some_iff] at h
  obtain ⟨z,hz,h⟩:=h
  split at h
  case isFalse=>cases h
  rename_i hne
  simp only [Option.bind_eq_some_iff,Option.some.injEq] at h
  obtain ⟨cs,hcs,rfl⟩:=h
  have hzrun : ∃ zs,concL e z = some zs∧((n * k = 0∧zs = [])∨(n * k ≠ 0∧∃ zx,(zeroValue el).run P w = .ok zx w∧zx.cells = zs.toArray)):=by
   split at hz
   ·rename_i h0;simp only [Option.some.injEq] at hz;subst hz;exact ⟨[],rfl,.inl ⟨h0,rfl⟩⟩
   ·rename_i h0
    simp only [Option.map_eq_some_iff] at hz
    obtain ⟨zv,hzv,rfl⟩:=hz
    obtain ⟨zx,hz1,hz2⟩:=zeroA_run P hzv e w
    obtain ⟨zs,hzs,hzc⟩:=cellsA_conc hz1
    exact ⟨zs,hzs,.inr ⟨h0,zx,hz2,hzc⟩⟩
  obtain ⟨zs,hzs,hzr⟩:=hzrun
  obtain ⟨xs,hx1,hx2,_⟩:=repA_conc hzs hne
  obtain ⟨ys,hys,hfill⟩:=fillA_run hps hx1 hcs
  refine newA_HR hs (hfree (Nat.lt_succ_self _)) hys (.slice s.next 0 n n) (fun b=>.slice (some ⟨b,0,none⟩) n n) (fun e' he=>by simp [conc,he]) ?_
  have hmap : (ps.map fun (i,x)=>(i,ρ x)).toList = ps.toList.map fun (i,x)=>(i,ρ x):=by simp
  have g0 : ¬ (n * k > 2 ^ 24):=by omega
  rcases hzr with ⟨h0,rfl⟩ | ⟨h0,zx,hzx,hzc⟩
  ·have hx2' : (Array.map (fun i=>(#[] : Array Value)[i % (#[] : Array Value).size]!) (Array.range (n * k))) = xs.toArray:=hx2
   simp only [execOp,ho,Instr.buildSlice,Sem.run_bind,run_underlying hu,Result.andThen_ok,szA_run P hk w,g0,if_false,h0,(by decide : ¬ (0 > 2 ^ 24)),if_true,Sem.run_pure,h0 ▸ hx2',hmap,hfill,newRow,run_newObj]
  ·simp only [execOp,ho,Instr.buildSlice,Sem.run_bind,run_underlying hu,Result.andThen_ok,szA_run P hk w,g0,if_false,h0,hzx,hzc,hx2,hmap,hfill,newRow,run_newObj,Sem.run_pure]
 case h_4 t x ho =>
  simp only [Option.bind_eq_some_iff,Option.map_eq_some_iff] at h
  obtain ⟨a,ha,v,hv,rfl⟩:=h
  obtain ⟨y,hy,hrun⟩:=loadA_run (P:=P) hs hv (hr x a ha)
  exact HR.same hs hy (by simp [execOp,ho,hrun])
 case h_5 t x y ho =>
  simp only [Option.bind_eq_some_iff,Option.map_eq_some_iff] at h
  obtain ⟨a,ha,v,hv,s',hst,rfl⟩:=h
  obtain ⟨w',g1,g2,hrun⟩:=storeA_run (P:=P) hs hst (hr x a ha) (hr y v hv)
  exact ⟨e,w',g1,g2,by simp [execOp,ho,hrun]⟩
 case h_6 t l c ho =>
  simp only [Option.bind_eq_some_iff] at h
  obtain ⟨a,ha,b,hb,h⟩:=h
  have hl:=hr l a ha
  have hc:=hr c b hb
  unfold makeSliceA at h
  split at h
  case h_2=>cases h
  rename_i el kl l' kc c' hu
  simp only [Option.bind_eq_some_iff] at h
  obtain ⟨i,hi,h⟩:=h
  split at h
  case isFalse=>cases h
  rename_i hle
  simp only [Option.bind_eq_some_iff] at h
  obtain ⟨z,hz,h⟩:=h
  split at h
  case isFalse=>cases h
  rename_i hne
  simp only [Option.some.injEq] at h;subst h
  simp only [conc,Option.some.injEq] at hl hc
  have hzrun : ∃ zs,concL e z = some zs∧((c'.toNat * i.size = 0∧zs = [])∨(c'.toNat * i.size ≠ 0∧∃ zx,(zeroValue el).run P w = .ok zx w∧zx.cells = zs.toArray)):=by
   split at hz
   ·rename_i h0;simp only [Option.some.injEq] at hz;subst hz;exact ⟨[],rfl,.inl ⟨h0,rfl⟩⟩
   ·rename_i h0
    simp only [Option.map_eq_some_iff] at hz
    obtain ⟨zv,hzv,rfl⟩:=hz
    obtain ⟨zx,hz1,hz2⟩:=zeroA_run P hzv e w
    obtain ⟨zs,hzs,hzc⟩:=cellsA_conc hz1
    exact ⟨zs,hzs,.inr ⟨h0,zx,hz2,hzc⟩⟩
  obtain ⟨zs,hzs,hzr⟩:=hzrun
  obtain ⟨xs,hx1,hx2,_⟩:=repA_conc hzs hne
  refine newA_HR hs (hfree (Nat.lt_succ_self _)) hx1 (.slice s.next 0 l'.toNat c'.toNat) (fun b=>.slice (some ⟨b,0,none⟩) l'.toNat c'.toNat) (fun e' he=>by simp [conc,he]) ?_
  have wr : ∀ n : Int,0≤n→n < 1048576→IntKind.i64.wrap n = n:=fun n h0 h1=>by
   have hm : n % (2 ^ 64 : Int) = n:=Int.emod_eq_of_lt h0 (by omega)
   have : ¬ (n ≥ (2 ^ 63 : Int)):=by omega
   simp only [IntKind.wrap,IntKind.bits,IntKind.signed,hm,Bool.true_and,decide_eq_true_eq]
   rw [if_neg (by omega)]
  have w1:=wr l' hle.1 (by omega)
  have w2:=wr c' (by omega) hle.2.2.1
  have bnd : ∀ n : Int,0≤n→n < 1048576→(decide (n < 0) || decide ((i.bytes : Int) * n > 2 ^ 48)) = false:=fun n h0 h1=>by
   have hb : (i.bytes : Int) * n≤1048576 * 1048576:=Int.mul_le_mul (by omega) (by omega) h0 (by omega)
   simp only [Bool.or_eq_false_iff,decide_eq_false_iff_not]
   omega
  have b2:=bnd c' (by omega) hle.2.2.1
  have n1 : ¬ (l' < 0):=by omega
  have n2 : ¬ (l' > c'):=by omega
  have hsz : (sizeOf el).run P w = .ok i.size w:=szA_run P (show szA P el = some i.size by simp [szA,hi]) w
  rcases hzr with ⟨h0,rfl⟩ | ⟨h0,zx,hzx,hzc⟩
  ·have hx2' : (Array.map (fun i=>(#[] : Array Value)[i % (#[] : Array Value).size]!) (Array.range (c'.toNat * i.size))) = xs.toArray:=hx2
   simp only [execOp,ho,← hl,← hc,Instr.makeSlice,Sem.run_bind,run_underlying hu,Result.andThen_ok,asInt,asIntOf,Sem.run_pure,run_typeInfo w hi,w1,w2,b2,n1,n2,decide_false,Bool.false_or,Bool.or_false,Bool.false_eq_true,if_false,or_self,
    run_askRoom,hsz,h0,if_true,h0 ▸ hx2',newRow,run_newObj]
  ·simp only [execOp,ho,← hl,← hc,Instr.makeSlice,Sem.run_bind,run_underlying hu,Result.andThen_ok,asInt,asIntOf,Sem.run_pure,run_typeInfo w hi,w1,w2,b2,n1,n2,decide_false,Bool.false_or,Bool.or_false,Bool.false_eq_true,if_false,or_self,
    run_askRoom,hsz,h0,hzx,hzc,hx2,newRow,run_newObj]
 case h_7 t x lo hi mx ho =>
  simp only [Option.bind_eq_some_iff,Option.map_eq_some_iff] at h
  obtain ⟨a,ha,l,hl,hh,hhh,m,hm,v,hv,rfl⟩:=h
  obtain ⟨u,hu,hrun⟩:=sliceOpnA_run (P:=P) hs hv (hr x a ha) (optArg_conc hr hl) (optArg_conc hr hhh) (optArg_conc hr hm)
  exact HR.same hs hu (by simp [execOp,ho,hrun])
 case h_8 args ats ho =>
  simp only [Option.bind_eq_some_iff] at h
  obtain ⟨vs,hvs,h⟩:=h
  split at h
  case h_2=>cases h
  rename_i a x st xt hat
  simp only [Option.map_eq_some_iff] at h
  obtain ⟨⟨v,s'⟩,happ,rfl⟩:=h
  obtain ⟨A,ys,hA,hys,hl⟩:=concL_cons (argL_map hr hvs)
  obtain ⟨X,hX,rfl⟩:=concL_one hys
  obtain ⟨e',w',g1,g2,V,hV,hrun⟩:=appendA_run (P:=P) (ty:=o.type) hs happ hA hX hf
  refine ⟨e',w',g1,g2,V,hV,?_⟩
  have hats : ats = #[st,xt]:=by rw [← Array.toArray_toList (xs:=ats),hat]
  simp [execOp,ho,resolve,invoke,builtin,arr_eq hl,hats,hrun]
 case h_9 t x ho =>
  simp only [Option.bind_eq_some_iff] at h
  obtain ⟨a,ha,h⟩:=h
  have hx:=hr x a ha
  split at h
  case h_2=>cases h
  rename_i b hu
  simp only [Option.some.injEq] at h;subst h
  simp only [conc,Option.some.injEq] at hx
  have:=hs.add (blk:=.iter b 0) (ob:=.stringIter b 0) (w':={ w with heap:=w.heap.push (.stringIter b 0) }) 0 (hfree (Nat.lt_succ_self _)) (by simp) (by simp) (fun k hk=>by rw [Array.getElem?_push,if_neg (by omega)]) rfl rfl rfl rfl
  refine ⟨_,_,this.1,this.2,.pointer (some ⟨w.heap.size,0,none⟩),by simp [conc,Env.upd_self],?_⟩
  simp only [execOp,ho,← hx,Instr.range,Sem.run_bind,run_underlying hu,Result.andThen_ok,run_newObj,Sem.run_pure]
 case h_10 x ho =>
  simp only [Option.bind_eq_some_iff] at h
  obtain ⟨a,ha,h⟩:=h
  have hx:=hr x a ha
  split at h
  case h_2=>cases h
  rename_i n
  split at h
  case h_2=>cases h
  rename_i b pos hg
  obtain ⟨b',q,ob,he,hb,hrel⟩:=hs.at_ _ _ hg
  have hob : ob = .stringIter b pos:=hrel
  subst hob
  simp only [conc,he,Option.map_some,Option.some.injEq] at hx
  have hgo : (getObj b').run P w = .ok (.stringIter b pos) w:=by simp [getObj,Sem.run,hb]
  split at h
  ·rename_i hlt
   simp only [Option.some.injEq] at h;subst h
   have hlt' : b' < w.heap.size:=(Array.getElem?_eq_some_iff.1 hb).1
   let w' : World:={ w with heap:=w.heap.setIfInBounds b' (.stringIter b (pos + (Utf8.decode b pos).2)) }
   have hput:=hs.put (blk':=.iter b (pos + (Utf8.decode b pos).2)) (ob:=.stringIter b (pos + (Utf8.decode b pos).2)) (w':=w') hg trivial he (by simp [w']) (by simp [w',hlt']) (fun k hk=>by simp [w',Array.getElem?_setIfInBounds_ne (Ne.symm hk)]) rfl rfl rfl rfl
   have hset : (setObj b' (.stringIter b (pos + (Utf8.decode b pos).2))).run P w = .ok () w':=by simp [setObj,Sem.run,hb,w']
   refine ⟨e,w',hput.1,hput.2,.tuple #[.bool true,goInt pos,.int .i32 (Utf8.decode b pos).1],by simp [conc,concL,goInt],?_⟩
   simp [execOp,ho,← hx,Instr.next,hgo,hlt,hset]
  ·rename_i hlt
   simp only [Option.some.injEq] at h;subst h
   exact HR.same hs (x:=.tuple #[.bool false]) (by simp [conc,concL]) (by simp [execOp,ho,← hx,Instr.next,hgo,hlt])
 case h_11 t ho =>
  simp only [Option.some.injEq] at h;subst h
  have:=hs.add (blk:=.map [] 0) (ob:=.map #[] 0) (w':={ w with heap:=w.heap.push (.map #[] 0) }) 0 (hfree (Nat.lt_succ_self _)) (by simp) (by simp) (fun k hk=>by rw [Array.getElem?_push,if_neg (by omega)]) ⟨[],rfl,rfl⟩ rfl rfl rfl
  refine ⟨_,_,this.1,this.2,.map (some w.heap.size),by simp [conc,Env.upd_self],?_⟩
  simp only [execOp,ho,Option.map_none,Instr.makeMap,Sem.run_bind,run_newObj,Result.andThen_ok,Sem.run_pure]
 case h_12 t x k ok ho =>
  simp only [Option.bind_eq_some_iff,Option.map_eq_some_iff] at h
  obtain ⟨a,ha,b,hb,v,hv,rfl⟩:=h
  obtain ⟨y,hy,hrun⟩:=lookupA_run (P:=P) hs hv (hr x a ha) (hr k b hb)
  exact HR.same hs hy (by simp [execOp,ho,hrun])
 case h_13 t m k v ho =>
  simp only [Option.bind_eq_some_iff,Option.map_eq_some_iff] at h
  obtain ⟨a,ha,b,hb,c,hc,s',hst,rfl⟩:=h
  obtain ⟨w',g1,g2,hrun⟩:=mapUpdateA_run (P:=P) hs hst (hr m a ha) (hr k b hb) (hr v c hc)
  exact ⟨e,w',g1,g2,by simp [execOp,ho,hrun]⟩
 case h_14 args ats ho =>
  simp only [Option.bind_eq_some_iff] at h
  obtain ⟨vs,hvs,h⟩:=h
  split at h
  case h_2=>cases h
  rename_i n t hat
  split at h
  case h_2=>cases h
  rename_i kt el es c hu hg
  cases h
  obtain ⟨X,hX,hl⟩:=concL_one (argL_map hr hvs)
  obtain ⟨b',q,ob,he,hb,ms,hm,rfl⟩:=hs.at_ _ _ hg
  simp only [conc,he,Option.map_some,Option.some.injEq] at hX
  subst hX
  have hgo : (getObj b').run P w = .ok (.map ms.toArray c) w:=by simp [getObj,Sem.run,hb]
  have hlen : ms.length = es.length:=concM_length hm
  refine HR.same hs (x:=.int .i64 es.length) (by simp [conc]) ?_
  simp [execOp,ho,resolve,invoke,builtin,arr_eq hl,Builtin.len_,hat,run_underlying hu,hgo,hlen,goInt]
 case h_15=>cases h
end Go.Abs

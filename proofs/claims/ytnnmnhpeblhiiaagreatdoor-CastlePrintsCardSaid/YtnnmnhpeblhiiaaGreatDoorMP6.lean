/- A part of the proof: a run of the program on abstract values, shown to be a run of the machine. -/
import Derived.Test.YtnnmnhpeblhiiaaGreatDoorMP5
import Derived.RangeFuncIn
import Derived.Defers
import Derived.Below
set_option linter.unusedVariables false
set_option linter.unusedSimpArgs false
namespace Go.Abs
variable {P : Program} {call : CallF} {ops : Array Oper}
theorem mem_ready' {l : Array Bool} {i : Nat} (h : i ∈ Region.ready .any ops l) : i < ops.size∧l.getD i true = false∧∀ o,ops[i]? = some o→∀ e ∈ o.after.toList,Region.binds .any e = true→l.getD e.on false = true:=by
 simp only [Region.ready,List.mem_filter,List.mem_range,Bool.and_eq_true,Bool.not_eq_true'] at h
 refine ⟨h.1,h.2.1,fun o ho e he hb=>?_⟩
 have h2:=h.2.2
 simp only [ho,Option.map_some,Option.getD_some] at h2
 have:=(Array.all_eq_true_iff_forall_mem.1 h2) e (by simpa using he)
 simpa [hb] using this
theorem ready_mem {l : Array Bool} {i : Nat} (h1 : i < ops.size) (h2 : l.getD i true = false) (h3 : ∀ o,ops[i]? = some o→∀ e ∈ o.after.toList,Region.binds .any e = true→l.getD e.on false = true) : i ∈ Region.ready .any ops l:=by
 simp only [Region.ready,List.mem_filter,List.mem_range,Bool.and_eq_true,Bool.not_eq_true']
 refine ⟨h1,h2,?_⟩
 have ho : ops[i]? = some ops[i]:=by simp [h1]
 simp only [ho,Option.map_some,Option.getD_some]
 rw [Array.all_eq_true_iff_forall_mem]
 intro e he
 cases hb : Region.binds .any e with
 | false=>rfl
 | true=>simp [h3 _ ho e (by simpa using he) hb]
theorem getD_tf {l : Array Bool} {i : Nat} (h : i < l.size) : l.getD i true = l.getD i false:=by simp [Array.getD_eq_getD_getElem?,h]
theorem draw_loop (hcall : CallOk P call) {e0 : Env} {s : St} {w0 : World} {tm : List AV} {ds : List Deferred} {E : List DE} {c : Nat} (hg : Good P call ops s.heap tm s.next E c) (hE : E.length = ops.size) (hf : Free e0 s.next c)
  (b : Frame) (cs : List Frame) (k : List Item) : ∀ (fuel t : Nat) (l : Array Bool) (e : Env) (a : Act) (w : World),l.size = ops.size→unlisted ops.size l = fuel→Inv e0 s w0 tm ds E (fun i=>l.getD i false) e a w→
  ∃ e' a' w',Inv e0 s w0 tm ds E (fun i=>decide (i < ops.size)) e' a' w'∧
   Steps P (lone (b.atR a (.inRegion ops (Region.linearise.go .any ops fuel t l []) :: k)) cs w) (lone (b.atR a' (.inRegion ops [] :: k)) cs w')
 | 0,t,l,e,a,w,hl,hu,hI=>by
  have hS : (fun i=>l.getD i false) = fun i=>decide (i < ops.size):=by
   funext i
   by_cases hi : i < ops.size
   ·have:=unlisted_zero _ hu i hi
    rw [getD_tf (by omega)] at this
    simp [this,hi]
   ·simp [Array.getD_eq_getD_getElem?,Array.getElem?_eq_none (show l.size≤i by omega),hi]
  rw [hS] at hI
  exact ⟨e,a,w,hI,by simpa [Region.linearise.go] using Steps.refl P _⟩
 | fuel + 1,t,l,e,a,w,hl,hu,hI=>by
  have hne : Region.ready .any ops l ≠ []:=by
   obtain ⟨i,h1,h2,h3⟩:=first_unlisted (l:=l) ops.size (by omega)
   obtain ⟨x,hx⟩:=atE_some (E:=E) (j:=i) (by omega)
   obtain ⟨A,r,rfl,hlr,ho,hr⟩:=good_at hg hx
   have:=ready_mem (l:=l) h1 h2 (fun o ho' ed hed hb=>by
    rw [ho] at ho';cases ho'
    have:=anc_edges hr.anc ed hed hb
    rw [← getD_tf (by omega)];exact h3 _ (by omega))
   intro e0;rw [e0] at this;cases this
  have hlen : 0 < (Region.ready .any ops l).length:=List.length_pos_iff.2 hne
  have hidx : t % (Region.ready .any ops l).length < (Region.ready .any ops l).length:=Nat.mod_lt _ hlen
  obtain ⟨i,hi⟩ : ∃ i,(Region.ready .any ops l)[t % (Region.ready .any ops l).length]? = some i:=⟨_,List.getElem?_eq_getElem hidx⟩
  have hmem:=List.mem_of_getElem? hi
  obtain ⟨h1,h2,h3⟩:=mem_ready' hmem
  obtain ⟨x,hx⟩:=atE_some (E:=E) (j:=i) (by omega)
  obtain ⟨A,r,hEq,hlr,ho,hr⟩:=good_at hg hx
  have hj : l.getD i false = false:=by rw [← getD_tf (by omega)];exact h2
  have hm : ∀ bt,x.m.testBit bt = true→l.getD bt false = true:=by
   intro bt hbt
   obtain ⟨ed,hed,hbind,y,hy,hor⟩:=anc_bits hr.anc bt hbt
   have hS:=h3 _ ho ed hed hbind
   have hyE : atE E ed.on = some y:=by
    have hlt:=atE_lt hy
    have e1:=atE_append (A:=A ++ [x]) (r:=r) hlt
    rw [hEq,show A ++ x :: r = (A ++ [x]) ++ r by simp,e1];exact hy
   rcases hor with rfl | hb2
   ·exact hS
   ·exact hI.closed _ y hyE hS bt hb2
  obtain ⟨e1,a1,w1,hI1,hst⟩:=inv_step hcall hg hf hI hx hj hm b cs (Region.linearise.go .any ops fuel (t / (Region.ready .any ops l).length) (l.setIfInBounds i true) []) k
  have hS1 : plus (fun i=>l.getD i false) i = fun k=>(l.setIfInBounds i true).getD k false:=by
   funext kk
   by_cases e0 : kk = i
   ·subst e0;simp [plus,Array.getD_eq_getD_getElem?,show kk < l.size by omega]
   ·rw [plus_ne e0];simp only [Array.getD_eq_getD_getElem?];rw [Array.getElem?_setIfInBounds_ne (Ne.symm e0)]
  rw [hS1] at hI1
  have hu1 : unlisted ops.size (l.setIfInBounds i true) = fuel:=by
   have:=unlisted_set (l:=l) h2 ops.size h1;omega
  obtain ⟨e2,a2,w2,hI2,hst2⟩:=draw_loop hcall hg hE hf b cs k fuel (t / (Region.ready .any ops l).length) (l.setIfInBounds i true) e1 a1 w1 (by simp [hl]) hu1 hI1
  refine ⟨e2,a2,w2,hI2,?_⟩
  have hgo : Region.linearise.go .any ops (fuel + 1) t l [] = i :: Region.linearise.go .any ops fuel (t / (Region.ready .any ops l).length) (l.setIfInBounds i true) []:=by
   simp only [Region.linearise.go]
   change (match (Region.ready .any ops l)[t % (Region.ready .any ops l).length]? with
    | some i=>Region.linearise.go .any ops fuel (t / (Region.ready .any ops l).length) (l.setIfInBounds i true) [i]
    | none=>[].reverse) = _
   rw [hi]
   simp only []
   rw [linearise_go_acc];simp
  rw [hgo]
  exact hst.trans hst2
theorem logsOf_mem {l : List Nat} {n : Nat} : ∀ {E : List DE},n ∈ logsOf E l↔n ∈ l∨∃ i x,atE E i = some x∧n ∈ x.lg
 | []=>by simp [logsOf,atE]
 | x :: r=>by
  simp only [logsOf,List.mem_append,logsOf_mem (E:=r)]
  constructor
  ·rintro (h | h | ⟨i,y,hy,hn⟩)
   ·exact .inr ⟨r.length,x,by simp [atE],h⟩
   ·exact .inl h
   ·exact .inr ⟨i,y,by simp only [atE];rw [if_neg (by have:=atE_lt hy;omega)];exact hy,hn⟩
  ·rintro (h | ⟨i,y,hy,hn⟩)
   ·exact .inr (.inl h)
   ·simp only [atE] at hy
    split at hy
    ·simp only [Option.some.injEq] at hy;subst hy;exact .inl hn
    ·exact .inr (.inr ⟨i,y,hy,hn⟩)
theorem foldH_out {S : Nat→Bool} {h : Tr Blk} {n : Nat} : ∀ {E : List DE},(∀ i x,atE E i = some x→n ∉ x.lg)→(foldH S h E).get n = h.get n
 | [],_=>rfl
 | x :: r,hn=>by
  have ih:=foldH_out (S:=S) (h:=h) (E:=r) (fun i y hy=>hn i y (by simp only [atE];rw [if_neg (by have:=atE_lt hy;omega)];exact hy))
  simp only [foldH]
  split
  ·rw [setAll_get,if_neg (hn r.length x (by simp [atE]))];exact ih
  ·exact ih
theorem evDraw_run (hcall : CallOk P call) {e : Env} {s s' : St} {w : World} {fr fr' : Fr} {b : Frame} {cs0 cs : List Frame} {a : Act} (h : evDraw P call ops fr s = some (fr',s')) (hs : Sim e s w) (hfr : FR e fr b cs0 a cs)
  (hf : Free e s.next s'.next) (t : Nat) (k : List Item) :
  ∃ e' w' a',Sim e' s' w'∧Goes e s w e' s' w'∧FR e' fr' b cs0 a' cs∧Steps P (lone (b.atR a (.inRegion ops (Region.linearise .any ops t) :: k)) cs w) (lone (b.atR a' (.inRegion ops [] :: k)) cs w'):=by
 simp only [evDraw,Option.bind_eq_some_iff,Option.map_eq_some_iff] at h
 obtain ⟨inf,hinf,⟨E,t',c⟩,hev,h⟩:=h
 simp only [Prod.mk.injEq] at h
 obtain ⟨rfl,rfl⟩:=h
 obtain ⟨hg,hE,htE⟩:=evDrawL_good (tm:=fr.tm) (c0:=s.next) (E:=[]) hinf rfl hev rfl (fun j=>by simp)
 subst htE
 have hE' : E.length = ops.size:=by simpa using hE
 obtain ⟨ts,hts,hta⟩:=hfr.tm
 have hS0 : ∀ i,(Array.replicate ops.size false).getD i false = false:=fun i=>by
  by_cases hi : i < ops.size
  ·simp [Array.getD_eq_getD_getElem?,hi]
  ·simp [Array.getD_eq_getD_getElem?,hi]
 have hS0' : (fun i=>(Array.replicate ops.size false).getD i false) = fun _=>false:=funext hS0
 have hH0 : ∀ E : List DE,foldH (fun _=>false) s.heap E = s.heap:=by
  intro E;induction E with
  | nil=>rfl
  | cons x r ih=>simp [foldH,ih]
 have hT0 : ∀ E : List DE,foldT (fun _=>false) fr.tm E = fr.tm:=by
  intro E;induction E with
  | nil=>rfl
  | cons x r ih=>simp [foldT,ih]
 have hI0 : Inv e s w fr.tm a.defers E (fun i=>(Array.replicate ops.size false).getD i false) e a w:=by
  rw [hS0']
  refine ⟨Env.le.refl e,fun n hn=>.inl hn,?_,?_,?_,fun _ _ _=>rfl,Nat.le_refl _,rfl,rfl,rfl,⟨ts,by rw [hT0];exact hts,hta⟩,rfl,?_⟩
  ·rw [hH0];exact ⟨hs.at_,hs.inj,hs.bound⟩
  ·rw [hH0];exact fun bb _ o=>o
  ·rw [hH0];exact fun bb _ o=>o
  ·intro i x _ hi;simp at hi
 have hu0 : unlisted ops.size (Array.replicate ops.size false) = ops.size:=by
  suffices h : ∀ m n,n≤m→unlisted n (Array.replicate m false) = n from h _ _ (Nat.le_refl _)
  intro m n
  induction n with
  | zero=>intro _;rfl
  | succ n ih =>
   intro hn
   simp only [unlisted,ih (by omega)]
   simp [Array.getD_eq_getD_getElem?,show n < m by omega]
 obtain ⟨e',a',w',hI,hst⟩:=draw_loop hcall hg hE' hf b cs k ops.size t _ e a w (by simp) hu0 hI0
 have hSt : ∀ i,i < E.length→(fun i=>decide (i < ops.size)) i = (fun _=>true) i:=fun i hi=>by simp;omega
 rw [show Region.linearise .any ops t = Region.linearise.go .any ops ops.size t (Array.replicate ops.size false) [] from rfl]
 have hsim:=hI.sim
 rw [foldH_congr hSt] at hsim
 refine ⟨e',w',a',⟨hsim.at_,hsim.inj,hsim.bound⟩,⟨hI.le,?_,?_,?_,hI.frame,hI.size,hI.os,hI.tape,hI.output,?_,?_,(ranges hg).1⟩,⟨?_,?_,?_,?_⟩,hst⟩
 ·intro n hn
  rcases hI.rng n hn with h1 | ⟨i,x,hx,_,h2,h3⟩
  ·exact .inl h1
  ·obtain ⟨r1,r2,r3,_⟩:=(ranges hg).2 i x hx
   exact .inr ⟨by omega,by show n < c;omega⟩
 ·intro bb hbb o
  refine hI.own bb hbb ?_
  rw [foldH_congr hSt];exact own_congr (fun n=>rfl) o
 ·intro bb hbb o
  refine hI.met bb hbb ?_
  rw [foldH_congr hSt];exact met_congr (fun n=>rfl) o
 ·intro n hn
  have hn' : n ∉ logsOf E s.log:=hn
  rw [logsOf_mem,not_or] at hn'
  exact foldH_out fun i x hx hnx=>hn'.2 ⟨i,x,hx,hnx⟩
 ·intro n hn
  show n ∈ logsOf E s.log
  rw [logsOf_mem];exact .inl hn
 ·obtain ⟨us,h1,h2⟩:=hI.tm
  rw [foldT_congr hSt] at h1
  exact ⟨us,h1,h2⟩
 ·rw [hI.df];exact concDL_le hI.le hfr.df
 ·exact (hfr.le hI.le).ro
 ·exact (hfr.le hI.le).rc
end Go.Abs
namespace Go.Abs
variable {P : Program}
noncomputable def loopA (s : St) (l : Nat) : Option (LoopState × Option Code × List AV × Array Tmp × Code × Code × Nat):=
 match s.heap.get l with
 | some (.loop st pend tm ps aas bd d)=>some (st,pend,tm,ps,aas,bd,d)
 | _=>none
noncomputable def enterA (fr : Fr) (ps : Array Tmp) (aas bd : Code) (s : St) : Option (Nat × Fr × St):=
 match fr.ro with
 | none=>some (s.next + 1,{ fr with df:=.coll s.next :: fr.df },(s.add .defr).add (.loop .ready none fr.tm ps aas bd s.next))
 | some l=>(loopA s l).map fun r=>(s.next,fr,s.add (.loop .ready none fr.tm ps aas bd r.2.2.2.2.2.2))
noncomputable def leaveLoopA (l : Nat) (s : St) : Option (Ex × St):=
 (loopA s l).bind fun r=>match r with
 | (st,pend,tm,ps,aas,bd,d)=>if st = .busy then none else
  (match pend with | none=>some Ex.norm | some .ret=>some .ret | some (.exit id)=>some (.exit id) | _=>none).map fun x=>(x,s.put l (.loop .exhausted pend tm ps aas bd d))
noncomputable def evCode (P : Program) (call : CallF) : Nat→Code→Fr→St→Option (Ex × Fr × St)
 | 0,_,_,_=>none
 | n + 1,c,fr,s =>
  match c with
  | .skip | .label _=>some (.norm,fr,s)
  | .exit id=>some (.exit id,fr,s)
  | .ret=>some (.ret,fr,s)
  | .region _ ops false=>(evOps P call ops ops.toList fr s).map fun r=>(match r.1 with | none=>.norm | some v=>.pan v,r.2)
  | .region _ ops true=>if P.follows .mixedOrders then (evDraw P call ops fr s).map fun r=>(.norm,r) else none
  | .seq a b=>(evCode P call n a fr s).bind fun r=>match r with
   | (.norm,fr1,s1)=>(evCode P call n b fr1 s1).bind fun y=>if s1.next≤y.2.2.next then some y else none
   | r=>some r
  | .cond c t e=>(arg fr.tm c).bind fun v=>match v with
   | .bool b=>evCode P call n (if b then t else e) fr s
   | _=>none
  | .block id body=>(evCode P call n body fr s).map fun r=>match r with
   | (.exit id',fr1,s1)=>if id' = id then (.norm,fr1,s1) else (.exit id',fr1,s1)
   | r=>r
  | .scope body=>evCode P call n body fr s
  | .loop body=>(evCode P call n body fr s).bind fun r=>match r with
   | (.norm,fr1,s1)=>(evCode P call n (.loop body) fr1 s1).bind fun y=>if s1.next≤y.2.2.next then some y else none
   | r=>some r
  | .rangeFunc g ps aas bd=>(arg fr.tm g).bind fun v=>match v with
   | .func f first cap=>if enterable P f then
    (enterA fr ps aas bd s).bind fun (l,fr1,s1)=>(call (.fn f) (first ++ [.yld l] ++ cap) s1).bind fun (r,s2)=>if s1.next≤s2.next then
     match r with
     | .pan v=>some (.pan v,fr1,s2)
     | .ret _=>(leaveLoopA l s2).map fun (x,s3)=>(x,fr1,s3)
    else none
    else none
   | _=>none
  | _=>none
def Lands (P : Program) (m : Machine) (b : Frame) (k : List Item) (e : Env) : Ex→Act→List Frame→World→Prop
 | .norm,a,cs,w=>Steps P m (lone (b.atR a k) cs w)
 | .exit id,a,cs,w=>∃ K,exitTo id K = exitTo id k∧Steps P m (lone (b.atR a (.code (.exit id) :: K)) cs w)
 | .ret,a,cs,w=>∃ K,Steps P m (lone (b.atR a (.code .ret :: K)) cs w)
 | .pan v,a,cs,w=>Panics P m b a cs w e v
theorem Lands.of_steps {m m₁ : Machine} {b : Frame} {k : List Item} {e : Env} {x : Ex} {a : Act} {cs : List Frame} {w : World} (h : Steps P m m₁) (h' : Lands P m₁ b k e x a cs w) : Lands P m b k e x a cs w:=by
 cases x with
 | norm=>exact h.trans h'
 | exit id=>obtain ⟨K,h1,h2⟩:=h';exact ⟨K,h1,h.trans h2⟩
 | ret=>obtain ⟨K,h2⟩:=h';exact ⟨K,h.trans h2⟩
 | pan v=>obtain ⟨x,hx,todo,h2⟩:=h';exact ⟨x,hx,todo,h.trans h2⟩
theorem Lands.pass {m : Machine} {b : Frame} {i : Item} {k : List Item} {e : Env} {x : Ex} {a : Act} {cs : List Frame} {w : World} (hi : ∀ id,exitTo id (i :: k) = exitTo id k) (hx : x ≠ .norm) (h : Lands P m b (i :: k) e x a cs w) : Lands P m b k e x a cs w:=by
 cases x with
 | norm=>exact absurd rfl hx
 | exit id=>obtain ⟨K,h1,h2⟩:=h;exact ⟨K,h1.trans (hi id),h2⟩
 | ret=>exact h
 | pan v=>exact h
section
variable {b : Frame} {a : Act} {k : List Item} {cs : List Frame} {w : World}
theorem stepR_scope {c : Code} : step P (lone (b.atR a (.code (.scope c) :: k)) cs w) = .next (lone (b.atR a (.code c :: .inScope c :: k)) cs w):=
 step_lone_go (by simp [stepG,stepG.exec,Frame.atR])
theorem stepR_inScope {c : Code} : step P (lone (b.atR a (.inScope c :: k)) cs w) = .next (lone (b.atR a k) cs w):=
 step_lone_go (by simp [stepG,stepG.exec,Frame.atR])
end
theorem loopA_eq {s : St} {l : Nat} {r : LoopState × Option Code × List AV × Array Tmp × Code × Code × Nat} (h : loopA s l = some r) : s.heap.get l = some (.loop r.1 r.2.1 r.2.2.1 r.2.2.2.1 r.2.2.2.2.1 r.2.2.2.2.2.1 r.2.2.2.2.2.2):=by
 unfold loopA at h
 split at h<;>simp only [reduceCtorEq,Option.some.injEq] at h
 rename_i hx;subst h;exact hx
theorem enterA_run {e : Env} {s s' : St} {w : World} {fr fr' : Fr} {b : Frame} {cs0 cs : List Frame} {a : Act} {ps : Array Tmp} {aas bd : Code} {l : Nat} (h : enterA fr ps aas bd s = some (l,fr',s')) (hs : Sim e s w) (hfr : FR e fr b cs0 a cs) (hf : Free e s.next s'.next) :
  ∃ e' w' mark p,Sim e' s' w'∧Goes e s w e' s' w'∧e' l = some p∧(Instr.enterLoop b.fn a.tmps ps aas bd b.roundOf).run P w = .ok (p.1,mark) w'∧FR e' fr' b cs0 { a with defers:=mark ++ a.defers } cs:=by
 obtain ⟨⟨ts,hts,hta⟩,hdf,hro,hrc⟩:=hfr
 unfold enterA at h
 split at h
 ·rename_i hr
  simp only [Option.some.injEq,Prod.mk.injEq] at h
  obtain ⟨rfl,rfl,rfl⟩:=h
  simp only [hr] at hro
  have f1 : e s.next = none:=hf _ (Nat.le_refl _) (by simp only [St.add];omega)
  obtain ⟨g1,g2⟩:=hs.add (blk:=.defr) (ob:=.deferred (some [])) (w':={ w with heap:=w.heap.push (.deferred (some [])) }) 0 f1 (by simp) (by simp) (fun k hk=>by rw [Array.getElem?_push,if_neg (by omega)]) rfl rfl rfl rfl
  have f2 : (e.upd s.next (w.heap.size,0)) (s.add .defr).next = none:=by
   rw [Env.upd_ne _ _ (by simp [St.add])];exact hf _ (by simp [St.add]) (by simp [St.add])
  let W1 : World:={ w with heap:=w.heap.push (.deferred (some [])) }
  let ob : Obj:=.loop { state:=.ready,pending:=none,fn:=b.fn,tmps:=ts.toArray,params:=ps,assign:=aas,body:=bd,defers:=w.heap.size }
  have hle1:=Env.le_upd (w.heap.size,0) f1
  obtain ⟨q1,q2⟩:=g1.add (blk:=.loop .ready none fr.tm ps aas bd s.next) (ob:=ob) (w':={ W1 with heap:=W1.heap.push ob }) 0 f2 (by simp [W1]) Array.getElem?_push_size (fun k hk=>by simp only [W1];rw [Array.getElem?_push,if_neg (by simpa using Nat.ne_of_lt hk)])
   ⟨b.fn,ts,(w.heap.size,0),concL_le (Env.le_upd _ f2) _ _ (concL_le hle1 _ _ hts),Env.le_upd _ f2 _ _ (Env.upd_self ..),rfl⟩ rfl rfl rfl
  refine ⟨_,_,[{ target:=.collected w.heap.size,args:=#[] }],_,q1,g2.trans q2,Env.upd_self ..,?_,?_⟩
  ·simp only [hro,hta,Instr.enterLoop,Sem.run_bind,run_newObj,Result.andThen_ok,Sem.run_pure];rfl
  ·refine FR.le (g2.trans q2).le ⟨⟨ts,hts,hta⟩,?_,by simp only [hr];exact hro,hrc⟩ |> fun r=>⟨r.tm,?_,r.ro,r.rc⟩
   ·exact hdf
   ·simp only [concDL,concD,List.singleton_append]
    have hc : (Env.upd (e.upd s.next (w.heap.size,0)) (s.add .defr).next (W1.heap.size,0)) s.next = some (w.heap.size,0):=Env.le_upd _ f2 _ _ (Env.upd_self ..)
    rw [show (Env.upd (e.upd s.next (w.heap.size,0)) (s.add .defr).next (({ w with heap:=w.heap.push (.deferred (some [])) } : World).heap.size,0)) s.next = some (w.heap.size,0) from hc]
    simp only [Option.map_some,Option.bind_some,concDL_le (g2.trans q2).le hdf]
 ·rename_i l0 hr
  simp only [Option.map_eq_some_iff,Prod.mk.injEq] at h
  obtain ⟨r,hl,rfl,rfl,rfl⟩:=h
  simp only [hr] at hro
  obtain ⟨p0,hp0,hbr⟩:=hro
  obtain ⟨b0,q0,ob0,he0,hb0,fn0,ts0,pd,h1,h2,rfl⟩:=hs.at_ _ _ (loopA_eq hl)
  rw [hp0] at he0;cases he0
  have f1 : e s.next = none:=hf _ (Nat.le_refl _) (by simp [St.add])
  let ob : Obj:=.loop { state:=.ready,pending:=none,fn:=b.fn,tmps:=ts.toArray,params:=ps,assign:=aas,body:=bd,defers:=pd.1 }
  have hle1:=Env.le_upd (w.heap.size,0) f1
  obtain ⟨q1,q2⟩:=hs.add (blk:=.loop .ready none fr.tm ps aas bd r.2.2.2.2.2.2) (ob:=ob) (w':={ w with heap:=w.heap.push ob }) 0 f1 (by simp) (by simp) (fun k hk=>by rw [Array.getElem?_push,if_neg (by omega)])
   ⟨b.fn,ts,pd,concL_le hle1 _ _ hts,hle1 _ _ h2,rfl⟩ rfl rfl rfl
  have hgo : (getObj b0).run P w = .ok (.loop { state:=r.1,pending:=r.2.1,fn:=fn0,tmps:=ts0.toArray,params:=r.2.2.2.1,assign:=r.2.2.2.2.1,body:=r.2.2.2.2.2.1,defers:=pd.1 }) w:=by simp [getObj,Sem.run,hb0]
  refine ⟨_,_,[],_,q1,q2,Env.upd_self ..,?_,?_⟩
  ·simp only [hbr,hta,Instr.enterLoop,Instr.getLoop,Sem.run_bind,hgo,run_newObj,Result.andThen_ok,Sem.run_pure];rfl
  ·exact (FR.le q2.le ⟨⟨ts,hts,hta⟩,hdf,by simp only [hr];exact ⟨_,hp0,hbr⟩,hrc⟩)
theorem leaveLoopA_run {e : Env} {s s' : St} {w : World} {l : Nat} {x : Ex} (h : leaveLoopA l s = some (x,s')) (hs : Sim e s w) {p : Nat × Nat} (hp : e l = some p) :
  ∃ w' jump,Sim e s' w'∧Goes e s w e s' w'∧(Instr.endLoop p.1).run P w = .ok jump w'∧match x with
   | .norm=>jump = none
   | .ret=>jump = some .ret
   | .exit id=>jump = some (.exit id)
   | .pan _=>False:=by
 simp only [leaveLoopA,Option.bind_eq_some_iff] at h
 obtain ⟨⟨st,pend,tm,ps,aas,bd,d⟩,hl,h⟩:=h
 simp only at h
 split at h
 ·cases h
 rename_i hst
 simp only [Option.map_eq_some_iff,Prod.mk.injEq] at h
 obtain ⟨y,hy,rfl,rfl⟩:=h
 have hget:=loopA_eq hl
 obtain ⟨b0,q0,ob0,he0,hb0,fn0,ts0,pd,h1,h2,rfl⟩:=hs.at_ _ _ hget
 rw [hp] at he0;cases he0
 have hlt : b0 < w.heap.size:=(Array.getElem?_eq_some_iff.1 hb0).1
 let L : Loop:={ state:=st,pending:=pend,fn:=fn0,tmps:=ts0.toArray,params:=ps,assign:=aas,body:=bd,defers:=pd.1 }
 have hgo : (getObj b0).run P w = .ok (.loop L) w:=by simp [getObj,Sem.run,hb0,L]
 let w' : World:={ w with heap:=w.heap.setIfInBounds b0 (.loop { L with state:=.exhausted }) }
 have hset : (setObj b0 (.loop { L with state:=.exhausted })).run P w = .ok () w':=by simp [setObj,Sem.run,hb0,w']
 obtain ⟨g1,g2⟩:=hs.put (blk':=.loop .exhausted pend tm ps aas bd d) (ob:=.loop { L with state:=.exhausted }) (w':=w') hget trivial hp (by simp [w']) (by simp [w',hlt]) (fun k hk=>by simp [w',Array.getElem?_setIfInBounds_ne (Ne.symm hk)]) ⟨fn0,ts0,pd,h1,h2,rfl⟩ rfl rfl rfl
 refine ⟨w',pend,g1,g2,?_,?_⟩
 ·have hst' : (L.state == LoopState.busy) = false:=by simpa [L] using hst
  simp only [Instr.endLoop,Instr.getLoop,Sem.run_bind,hgo,Result.andThen_ok,Sem.run_pure,hst',Bool.false_eq_true,if_false,hset]
  rfl
 ·revert hy;split<;>intro hy<;>simp only [Option.some.injEq,reduceCtorEq] at hy<;>subst hy<;>rfl
end Go.Abs
namespace Go.Abs
variable {P : Program}
def CodeOk (P : Program) (m : Frame→List Item→Act→List Frame→World→Machine) (ev : Fr→St→Option (Ex × Fr × St)) : Prop:=
 ∀ (fr : Fr) (s : St) (x : Ex) (fr' : Fr) (s' : St),ev fr s = some (x,fr',s')→∀ (e : Env) (w : World) (b : Frame) (cs0 cs : List Frame) (a : Act),Sim e s w→FR e fr b cs0 a cs→Free e s.next s'.next→∀ (k : List Item),
  ∃ e' w' a' cs',Sim e' s' w'∧Goes e s w e' s' w'∧FR e' fr' b cs0 a' cs'∧Lands P (m b k a cs w) b k e' x a' cs' w'
theorem free_mono {e : Env} {a b c : Nat} (h : Free e a b) (hc : c≤b) : Free e a c:=fun n h1 h2=>h n h1 (Nat.lt_of_lt_of_le h2 hc)
theorem evCode_run {call : CallF} (hcall : CallOk P call) : ∀ (n : Nat),
  (∀ c,CodeOk P (fun b k a cs w=>lone (b.atR a (.code c :: k)) cs w) (evCode P call n c))∧
  (∀ c,CodeOk P (fun b k a cs w=>lone (b.atR a (.code c :: .inLoop c :: k)) cs w) (evCode P call n (.loop c)))
 | 0=>⟨fun c fr s x fr' s' h=>by simp [evCode] at h,fun c fr s x fr' s' h=>by simp [evCode] at h⟩
 | n + 1=>by
  obtain ⟨ihC,ihL⟩:=evCode_run hcall n
  have L : ∀ c,CodeOk P (fun b k a cs w=>lone (b.atR a (.code c :: .inLoop c :: k)) cs w) (evCode P call (n + 1) (.loop c)):=by
   intro c fr s x fr' s' h e w b cs0 cs a hs hfr hf k
   simp only [evCode,Option.bind_eq_some_iff] at h
   obtain ⟨⟨x1,fr1,s1⟩,h1,h⟩:=h
   cases x1 with
   | norm =>
    simp only [Option.bind_eq_some_iff] at h
    obtain ⟨⟨x2,fr2,s2⟩,h2,h⟩:=h
    split at h<;>simp only [reduceCtorEq,Option.some.injEq,Prod.mk.injEq] at h
    rename_i hle
    obtain ⟨rfl,rfl,rfl⟩:=h
    simp only at hle
    obtain ⟨e1,w1,a1,cs1,g1,g2,g3,g4⟩:=ihC c fr s _ _ _ h1 e w b cs0 cs a hs hfr (free_mono hf hle) (.inLoop c :: k)
    obtain ⟨e2,w2,a2,cs2,q1,q2,q3,q4⟩:=ihL c fr1 s1 _ _ _ h2 e1 w1 b cs0 cs1 a1 g1 g3 (g2.free (fun m hm1 hm2=>hf m (Nat.le_trans g2.next hm1) hm2) (Nat.le_refl _)) k
    exact ⟨e2,w2,a2,cs2,q1,g2.trans q2,q3,Lands.of_steps (Steps.trans g4 (.one stepR_inLoop)) q4⟩
   | exit id =>
    simp only [Option.some.injEq,Prod.mk.injEq] at h
    obtain ⟨rfl,rfl,rfl⟩:=h
    obtain ⟨e1,w1,a1,cs1,g1,g2,g3,g4⟩:=ihC c fr s _ _ _ h1 e w b cs0 cs a hs hfr hf (.inLoop c :: k)
    exact ⟨e1,w1,a1,cs1,g1,g2,g3,Lands.pass (fun _=>rfl) (by simp) g4⟩
   | ret =>
    simp only [Option.some.injEq,Prod.mk.injEq] at h
    obtain ⟨rfl,rfl,rfl⟩:=h
    obtain ⟨e1,w1,a1,cs1,g1,g2,g3,g4⟩:=ihC c fr s _ _ _ h1 e w b cs0 cs a hs hfr hf (.inLoop c :: k)
    exact ⟨e1,w1,a1,cs1,g1,g2,g3,Lands.pass (fun _=>rfl) (by simp) g4⟩
   | pan v =>
    simp only [Option.some.injEq,Prod.mk.injEq] at h
    obtain ⟨rfl,rfl,rfl⟩:=h
    obtain ⟨e1,w1,a1,cs1,g1,g2,g3,g4⟩:=ihC c fr s _ _ _ h1 e w b cs0 cs a hs hfr hf (.inLoop c :: k)
    exact ⟨e1,w1,a1,cs1,g1,g2,g3,Lands.pass (fun _=>rfl) (by simp) g4⟩
  refine ⟨fun c=>?_,L⟩
  intro fr s x fr' s' h e w b cs0 cs a hs hfr hf k
  cases c with
  | skip =>
   simp only [evCode,Option.some.injEq,Prod.mk.injEq] at h
   obtain ⟨rfl,rfl,rfl⟩:=h
   exact ⟨e,w,a,cs,hs,Goes.refl ..,hfr,.one stepR_skip⟩
  | label l =>
   simp only [evCode,Option.some.injEq,Prod.mk.injEq] at h
   obtain ⟨rfl,rfl,rfl⟩:=h
   exact ⟨e,w,a,cs,hs,Goes.refl ..,hfr,.one stepR_label⟩
  | exit id =>
   simp only [evCode,Option.some.injEq,Prod.mk.injEq] at h
   obtain ⟨rfl,rfl,rfl⟩:=h
   exact ⟨e,w,a,cs,hs,Goes.refl ..,hfr,k,rfl,Steps.refl P _⟩
  | ret =>
   simp only [evCode,Option.some.injEq,Prod.mk.injEq] at h
   obtain ⟨rfl,rfl,rfl⟩:=h
   exact ⟨e,w,a,cs,hs,Goes.refl ..,hfr,k,Steps.refl P _⟩
  | goto l=>simp [evCode] at h
  | refuse why=>simp [evCode] at h
  | region id ops draw =>
   cases draw with
   | false =>
    simp only [evCode,Option.map_eq_some_iff,Prod.mk.injEq] at h
    obtain ⟨⟨p,fr1,s1⟩,h1,hx,rfl,rfl⟩:=h
    obtain ⟨e1,w1,a1,cs1,g1,g2,g3,g4⟩:=evOps_run hcall ops.toList 0 (fun j=>by simp) h1 hs hfr hf k
    rw [Array.length_toList,← List.range_eq_range'] at g4
    refine ⟨e1,w1,a1,cs1,g1,g2,g3,?_⟩
    cases p with
    | none=>simp only at hx;subst hx;exact (Steps.one stepR_region).trans (Steps.trans g4 (.one stepR_region_end))
    | some v=>simp only at hx;subst hx;exact Lands.of_steps (.one stepR_region) g4
   | true =>
    simp only [evCode] at h
    split at h
    case isFalse=>cases h
    rename_i hmix
    simp only [Option.map_eq_some_iff,Prod.mk.injEq] at h
    obtain ⟨⟨fr1,s1⟩,h1,rfl,rfl,rfl⟩:=h
    obtain ⟨e1,w1,a1,g1,g2,g3,g4⟩:=evDraw_run (b:=b) (cs0:=cs0) (cs:=cs) (a:=a) hcall h1 (hs.drawn (w.drawn + 1)) hfr hf (w.tape w.drawn (.order b.fn id)) k
    refine ⟨e1,w1,a1,cs,g1,(Goes.drawn _).trans g2,g3,?_⟩
    have hst:=stepR_region_draw (P:=P) (b:=b) (a:=a) (k:=k) (cs:=cs) (w:=w) (ops:=ops) (id:=id)
    have hsch : Region.schedule (P.follows .mixedOrders) ops (w.tape w.drawn (.order b.fn id)) = Region.linearise .any ops (w.tape w.drawn (.order b.fn id)):=by simp [Region.schedule,hmix]
    rw [hsch] at hst
    exact (Steps.one hst).trans (g4.trans (.one stepR_region_end))
  | seq c1 c2 =>
   simp only [evCode,Option.bind_eq_some_iff] at h
   obtain ⟨⟨x1,fr1,s1⟩,h1,h⟩:=h
   have pass : x1 ≠ .norm→(x1,fr1,s1) = (x,fr',s')→∃ e' w' a' cs',Sim e' s' w'∧Goes e s w e' s' w'∧FR e' fr' b cs0 a' cs'∧Lands P (lone (b.atR a (.code (.seq c1 c2) :: k)) cs w) b k e' x a' cs' w':=by
    intro hne heq
    simp only [Prod.mk.injEq] at heq
    obtain ⟨rfl,rfl,rfl⟩:=heq
    obtain ⟨e1,w1,a1,cs1,g1,g2,g3,g4⟩:=ihC c1 fr s _ _ _ h1 e w b cs0 cs a hs hfr hf (.code c2 :: k)
    exact ⟨e1,w1,a1,cs1,g1,g2,g3,Lands.of_steps (.one stepR_seq) (Lands.pass (fun _=>rfl) hne g4)⟩
   cases x1 with
   | norm =>
    simp only [Option.bind_eq_some_iff] at h
    obtain ⟨⟨x2,fr2,s2⟩,h2,h⟩:=h
    split at h<;>simp only [reduceCtorEq,Option.some.injEq,Prod.mk.injEq] at h
    rename_i hle
    obtain ⟨rfl,rfl,rfl⟩:=h
    simp only at hle
    obtain ⟨e1,w1,a1,cs1,g1,g2,g3,g4⟩:=ihC c1 fr s _ _ _ h1 e w b cs0 cs a hs hfr (free_mono hf hle) (.code c2 :: k)
    obtain ⟨e2,w2,a2,cs2,q1,q2,q3,q4⟩:=ihC c2 fr1 s1 _ _ _ h2 e1 w1 b cs0 cs1 a1 g1 g3 (g2.free (fun m hm1 hm2=>hf m (Nat.le_trans g2.next hm1) hm2) (Nat.le_refl _)) k
    exact ⟨e2,w2,a2,cs2,q1,g2.trans q2,q3,Lands.of_steps ((Steps.one stepR_seq).trans g4) q4⟩
   | exit id=>exact pass (by simp) (by simpa using h)
   | ret=>exact pass (by simp) (by simpa using h)
   | pan v=>exact pass (by simp) (by simpa using h)
  | cond c t f =>
   simp only [evCode,Option.bind_eq_some_iff] at h
   obtain ⟨v,hv,h⟩:=h
   have hx:=hfr.reads c v hv
   split at h
   case h_2=>cases h
   rename_i bb
   simp only [conc,Option.some.injEq] at hx
   obtain ⟨e1,w1,a1,cs1,g1,g2,g3,g4⟩:=ihC _ fr s _ _ _ h e w b cs0 cs a hs hfr hf k
   exact ⟨e1,w1,a1,cs1,g1,g2,g3,Lands.of_steps (.one (stepR_cond hx.symm)) g4⟩
  | scope c =>
   simp only [evCode] at h
   obtain ⟨e1,w1,a1,cs1,g1,g2,g3,g4⟩:=ihC c fr s _ _ _ h e w b cs0 cs a hs hfr hf (.inScope c :: k)
   refine ⟨e1,w1,a1,cs1,g1,g2,g3,Lands.of_steps (.one stepR_scope) ?_⟩
   cases x with
   | norm=>exact Steps.trans g4 (.one stepR_inScope)
   | exit id=>exact Lands.pass (i:=.inScope c) (fun _=>rfl) (by simp) g4
   | ret=>exact Lands.pass (i:=.inScope c) (fun _=>rfl) (by simp) g4
   | pan v=>exact Lands.pass (i:=.inScope c) (fun _=>rfl) (by simp) g4
  | block id c =>
   simp only [evCode,Option.map_eq_some_iff] at h
   obtain ⟨⟨x1,fr1,s1⟩,h1,h⟩:=h
   have hs1 : s1 = s'∧fr1 = fr':=by
    cases x1<;>simp only [Prod.mk.injEq] at h
    case exit id'=>split at h<;>simp only [Prod.mk.injEq] at h<;>exact ⟨h.2.2,h.2.1⟩
    all_goals exact ⟨h.2.2,h.2.1⟩
   obtain ⟨rfl,rfl⟩:=hs1
   obtain ⟨e1,w1,a1,cs1,g1,g2,g3,g4⟩:=ihC c fr s _ _ _ h1 e w b cs0 cs a hs hfr hf (.inBlock id :: k)
   refine ⟨e1,w1,a1,cs1,g1,g2,g3,Lands.of_steps (.one stepR_block) ?_⟩
   cases x1 with
   | norm=>simp only [Prod.mk.injEq] at h;obtain ⟨rfl,_⟩:=h;exact Steps.trans g4 (.one stepR_inBlock)
   | exit id' =>
    obtain ⟨K,hK,hst⟩:=g4
    by_cases hid : id' = id
    ·simp only [hid,if_true,Prod.mk.injEq] at h
     obtain ⟨rfl,_⟩:=h
     subst hid
     have : exitTo id' K = some k:=by rw [hK];simp [exitTo]
     exact Steps.trans hst (.one (stepR_exit this))
    ·simp only [hid,if_false,Prod.mk.injEq] at h
     obtain ⟨rfl,_⟩:=h
     have hne : (id == id') = false:=by simp;exact fun h=>hid h.symm
     exact ⟨K,by rw [hK];simp [exitTo,hne],hst⟩
   | ret=>simp only [Prod.mk.injEq] at h;obtain ⟨rfl,_⟩:=h;exact g4
   | pan v=>simp only [Prod.mk.injEq] at h;obtain ⟨rfl,_⟩:=h;exact g4
  | loop c =>
   obtain ⟨e1,w1,a1,cs1,g1,g2,g3,g4⟩:=L c fr s _ _ _ h e w b cs0 cs a hs hfr hf k
   exact ⟨e1,w1,a1,cs1,g1,g2,g3,Lands.of_steps (.one stepR_loop) g4⟩
  | rangeFunc g ps aas bd =>
   simp only [evCode,Option.bind_eq_some_iff] at h
   obtain ⟨v,hv,h⟩:=h
   have hx:=hfr.reads g v hv
   split at h
   case h_2=>cases h
   rename_i f first cap
   split at h
   case isFalse=>cases h
   rename_i hen
   simp only [Option.bind_eq_some_iff] at h
   obtain ⟨⟨l,fr1,s1⟩,h1,⟨r,s2⟩,h2,h⟩:=h
   split at h
   case isFalse=>cases h
   rename_i hle
   simp only at hle
   have hs2 : s2.next = s'.next:=by
    cases r with
    | pan v=>simp only [Option.some.injEq,Prod.mk.injEq] at h;rw [h.2.2]
    | ret v =>
     simp only [Option.map_eq_some_iff,Prod.mk.injEq] at h
     obtain ⟨⟨x3,s3⟩,h3,_,_,rfl⟩:=h
     simp only [leaveLoopA,Option.bind_eq_some_iff] at h3
     obtain ⟨⟨st,pend,tm,pps,pas,pbd,pd⟩,_,h3⟩:=h3
     simp only at h3
     split at h3
     ·cases h3
     ·simp only [Option.map_eq_some_iff,Prod.mk.injEq] at h3
      obtain ⟨_,_,_,rfl⟩:=h3;rfl
   obtain ⟨e1,w1,mark,p,g1,g2,hp,hent,hfr1⟩:=enterA_run (P:=P) h1 hs hfr (free_mono hf (by omega))
   simp only [conc,Option.bind_eq_some_iff,Option.map_eq_some_iff] at hx
   obtain ⟨fs,hfs,cps,hcps,hx⟩:=hx
   have hxs : concL e1 (first ++ [.yld l] ++ cap) = some (fs ++ [.func (.yield p.1) #[] #[]] ++ cps):=
    concL_append (concL_append (concL_le g2.le _ _ hfs) (by simp [concL,conc,hp])) (concL_le g2.le _ _ hcps)
   have hf1 : Free e1 s1.next s2.next:=g2.free (fun m hm1 hm2=>hf m (Nat.le_trans g2.next hm1) (by omega)) (Nat.le_refl _)
   obtain ⟨e2,w2,q1,q2,q3⟩:=hcall _ _ _ _ _ h2 e1 w1 g1 hf1 _ hxs (b.atR { a with defers:=mark ++ a.defers } (.inRangeFunc p.1 :: k)) cs
   have hstep:=stepR_rangeFunc (P:=P) (b:=b) (a:=a) (k:=k) (cs:=cs) (g:=g) (d:={ target:=.fn (.func f) cps.toArray,args:=fs.toArray ++ #[.func (.yield p.1) #[] #[]] }) (w₁':=w1) (w₂:=w1) (f:=f)
    (args:=(fs ++ [Value.func (.yield p.1) #[] #[]] ++ cps).toArray) hent
    (by
     have hm : (#[Operand.const (.func (.yield p.1) #[] #[])] : Array Operand).map a.eval = #[Value.func (.yield p.1) #[] #[]]:=by simp [Act.eval]
     simp only [resolve,rangeCall,hm,← hx,Deferred.ofValue];rfl)
    (by
     simp only [invoke]
     rw [callFunc_run hen]
     congr 2
     apply Array.toList_inj.1;simp)
   cases r with
   | pan u =>
    simp only [Option.some.injEq,Prod.mk.injEq] at h
    obtain ⟨rfl,rfl,rfl⟩:=h
    obtain ⟨y,hy,hst⟩:=q3
    rw [Frame.raise_atR] at hst
    exact ⟨e2,w2,_,cs,q1,g2.trans q2,hfr1.le q2.le,y,hy,_,(Steps.one hstep).trans hst⟩
   | ret u =>
    simp only [Option.map_eq_some_iff,Prod.mk.injEq] at h
    obtain ⟨⟨x3,s3⟩,h3,rfl,rfl,rfl⟩:=h
    obtain ⟨y,hy,hst⟩:=q3
    rw [finish_atR_inRangeFunc] at hst
    obtain ⟨w3,jump,r1,r2,r3,r4⟩:=leaveLoopA_run (P:=P) h3 q1 (q2.le _ _ hp)
    have hend:=stepR_endRangeFunc (P:=P) (b:=b) (a:={ a with defers:=mark ++ a.defers }) (k:=k) (cs:=cs) r3
    refine ⟨e2,w3,_,cs,r1,(g2.trans q2).trans r2,hfr1.le q2.le,Lands.of_steps ((Steps.one hstep).trans (hst.trans (.one hend))) ?_⟩
    cases x3 with
    | norm=>simp only at r4;subst r4;exact Steps.refl P _
    | ret=>simp only at r4;subst r4;exact ⟨k,Steps.refl P _⟩
    | exit id=>simp only at r4;subst r4;exact ⟨k,rfl,Steps.refl P _⟩
    | pan _=>exact r4.elim
end Go.Abs
namespace Go.Abs
abbrev Hook:=FuncId→Option (List AV→St→Option (Rt × St))
noncomputable def resL (P : Program) (tm : List AV) (I : St) : List ResultVar→Option (List AV)
 | []=>some []
 | .tmp t :: r=>(resL P tm I r).map (getR (.tup []) tm t :: ·)
 | .cell a t :: r=>(loadA P t (getR (.tup []) tm a) I).bind fun v=>(resL P tm I r).map (v :: ·)
noncomputable def resultsA (P : Program) (fn : Func) (tm : List AV) (I : St) : Option AV:=
 (resL P tm I fn.results.toList).map fun vs=>match vs with | [v]=>v | vs=>.tup vs
def frameA (args : List AV) (n : Nat) (rc : RC) : Fr:=⟨args ++ List.replicate (n - args.length) (.tup []),[],rc,none⟩
def rcOf : Option AV→RC
 | none=>.quiet
 | some v=>.pend v
def nextP (p : Option AV) : RC→Option AV
 | .no=>p
 | .quiet=>p
 | .pend v=>some v
 | .done _=>none
noncomputable def leaveA (P : Program) (call : CallF) (K : Nat) (fn : Func) (tm : List AV) : List Dfr→Option AV→St→Option (Rt × St)
 | [],none,I=>(resultsA P fn tm I).map fun v=>(.ret v,I)
 | [],some v,I=>some (.pan v,I)
 | .coll d :: ds,p,I=>match I.heap.get d with
  | some .defr=>leaveA P call K fn tm ds p (I.put d .gone)
  | _=>none
 | .fn f aas cs :: ds,p,I=>if enterable P f then (P.funcs[f]?).bind fun g=>g.body.bind fun body =>
  (evCode P call K body (frameA (aas ++ cs) g.ntmps (rcOf p)) I).bind fun (x,fr,I1) =>
  match x,fr.df with
  | .norm,[] | .ret,[]=>(resultsA P g fr.tm I1).bind fun _ =>
   (leaveA P call K fn tm ds (nextP p fr.rc) I1).bind fun y=>if I1.next≤y.2.next then some y else none
  | _,_=>none
  else none
def foldA : List (Tmp × AV)→List AV→List AV
 | [],tm=>tm
 | (t,v) :: r,tm=>foldA r (tm.set t v)
abbrev LP:=LoopState × Option Code × List AV × Array Tmp × Code × Code × Nat
noncomputable def endRd (I : St) (l : Nat) (jump : Option Code) (L : LP) : St:=I.put l (.loop (if jump.isNone then .ready else .done) jump L.2.2.1 L.2.2.2.1 L.2.2.2.2.1 L.2.2.2.2.2.1 L.2.2.2.2.2.2)
noncomputable def begRd (I : St) (l : Nat) (L : LP) : St:=I.put l (.loop .busy L.2.1 L.2.2.1 L.2.2.2.1 L.2.2.2.2.1 L.2.2.2.2.2.1 L.2.2.2.2.2.2)
def jumpOf : Ex→Option (Option Code)
 | .norm=>some none
 | .ret=>some (some .ret)
 | .exit id=>some (some (.exit id))
 | .pan _=>none
noncomputable def roundA (P : Program) (call : CallF) (K : Nat) (l : Nat) (args : List AV) (s : St) : Option (Rt × St):=
 (loopA s l).bind fun L=>if args.length = L.2.2.2.1.size then
 (evCode P call K L.2.2.2.2.1 ⟨foldA (L.2.2.2.1.toList.zip args) L.2.2.1,[],.no,some l⟩ s).bind fun (x,fr1,I1)=>match x with
 | .norm=>(loopA I1 l).bind fun L1=>if L1.1 = .ready then
  (evCode P call K L.2.2.2.2.2.1 fr1 (begRd I1 l L1)).bind fun (x,_,I3) =>
  if I1.next≤I3.next then
  (jumpOf x).bind fun jump=>(loopA I3 l).map fun L3 =>
   (.ret (.bool jump.isNone),endRd I3 l jump L3)
  else none
  else none
 | _=>none
 else none
noncomputable def evCall (P : Program) (hk : Hook) (K : Nat) : Nat→CallF
 | 0,_,_,_=>none
 | n + 1,tg,args,s =>
  match tg with
  | .fn f =>
   match hk f with
   | some g=>g args s
   | none=>(P.funcs[f]?).bind fun fn=>fn.body.bind fun body =>
    (evCode P (evCall P hk K n) K body (frameA args fn.ntmps .no) ⟨s.heap,s.next,[]⟩).bind fun (x,fr,I) =>
    (match x with
     | .norm | .ret=>leaveA P (evCall P hk K n) K fn fr.tm fr.df none I
     | .pan v=>leaveA P (evCall P hk K n) K fn fr.tm fr.df (some v) I
     | .exit _=>none).bind fun (r,I')=>if I.next≤I'.next then some (r,collect s I' r) else none
  | .yld l=>(roundA P (evCall P hk K n) K l args ⟨s.heap,s.next,[]⟩).map fun (r,I')=>(r,collect s I' r)
variable {P : Program}
theorem loadVar_of {t : TypeId} {x : Value} {y : Value} {w : World} (h : (Instr.loadAt t x).run P w = .ok y w) : (do loadVar t (← asAddr x) : Sem Value).run P w = .ok y w:=by
 unfold Instr.loadAt Instr.sureAddr at h
 cases x with
 | pointer p =>
  cases p with
  | some a=>simpa [asAddr] using h
  | none=>simp at h
 | _=>simp at h
def rvSem (tmps : Array Value) : ResultVar→Sem Value
 | .tmp t=>pure (tmps.getD t undef)
 | .cell a t=>do loadVar t (← asAddr (tmps.getD a undef))
theorem results_eq (fn : Func) (tmps : Array Value) : results fn tmps = (do let vs ← fn.results.mapM (rvSem tmps);pure (if h : vs.size = 1 then vs[0] else .tuple vs)):=by
 have : (fun r : ResultVar=>(match r with | .tmp t=>pure (tmps.getD t undef) | .cell a t=>do loadVar t (← asAddr (tmps.getD a undef)) : Sem Value)) = rvSem tmps:=by
  funext r;cases r<;>rfl
 unfold results
 rw [← this]
 rfl
theorem resL_run {e : Env} {I : St} {w : World} (hs : Sim e I w) {tm : List AV} {ts : List Value} (ht : concL e tm = some ts) : ∀ (rs : List ResultVar) (vs : List AV),resL P tm I rs = some vs→
  ∃ xs,concL e vs = some xs∧(rs.mapM (rvSem ts.toArray)).run P w = .ok xs w
 | [],vs,h=>by simp [resL] at h;subst h;exact ⟨[],rfl,rfl⟩
 | .tmp t :: r,vs,h=>by
  simp only [resL,Option.map_eq_some_iff] at h
  obtain ⟨us,hus,rfl⟩:=h
  obtain ⟨xs,hx1,hx2⟩:=resL_run hs ht r us hus
  have hv:=reads_arg ht (⟨ts.toArray,[]⟩ : Act) rfl (.tmp t) _ rfl
  refine ⟨ts.toArray.getD t undef :: xs,by simp only [concL,hv,Act.eval,hx1,Option.bind_some,Option.map_some],?_⟩
  simp only [List.mapM_cons,rvSem,Sem.run_bind,Sem.run_pure,Result.andThen_ok,hx2]
 | .cell a t :: r,vs,h=>by
  simp only [resL,Option.bind_eq_some_iff,Option.map_eq_some_iff] at h
  obtain ⟨v,hv,us,hus,rfl⟩:=h
  obtain ⟨xs,hx1,hx2⟩:=resL_run hs ht r us hus
  have ha:=reads_arg ht (⟨ts.toArray,[]⟩ : Act) rfl (.tmp a) _ rfl
  obtain ⟨y,hy,hrun⟩:=loadA_run (P:=P) hs hv ha
  refine ⟨y :: xs,by simp only [concL,hy,hx1,Option.bind_some,Option.map_some],?_⟩
  have hlv : (rvSem ts.toArray (.cell a t)).run P w = .ok y w:=loadVar_of hrun
  simp only [List.mapM_cons,Sem.run_bind,hlv,Result.andThen_ok,hx2,Sem.run_pure]
theorem resultsA_run {e : Env} {I : St} {w : World} (hs : Sim e I w) {tm : List AV} {ts : List Value} (ht : concL e tm = some ts) {fn : Func} {v : AV} (h : resultsA P fn tm I = some v) :
  ∃ x,conc e v = some x∧(results fn ts.toArray).run P w = .ok x w:=by
 simp only [resultsA,Option.map_eq_some_iff] at h
 obtain ⟨vs,hvs,rfl⟩:=h
 obtain ⟨xs,hx1,hx2⟩:=resL_run hs ht _ _ hvs
 have hl:=concL_length hx1
 have hm : (fn.results.mapM (rvSem ts.toArray)).run P w = .ok xs.toArray w:=by
  have : fn.results = fn.results.toList.toArray:=by simp
  rw [this,List.mapM_toArray,Sem.run_map,hx2];rfl
 rw [results_eq]
 simp only [Sem.run_bind,hm,Result.andThen_ok,Sem.run_pure]
 cases vs with
 | nil =>
  simp only [List.length_nil,List.length_eq_zero_iff] at hl
  subst hl
  exact ⟨.tuple #[],by simp [conc,concL],by simp⟩
 | cons a r =>
  cases r with
  | nil =>
   obtain ⟨x,hx,rfl⟩:=concL_one hx1
   exact ⟨x,hx,by simp⟩
  | cons c r =>
   refine ⟨.tuple xs.toArray,by simp [conc,hx1],?_⟩
   rw [dif_neg (by simp [hl])]
theorem step_coll {fr : Frame} {cs : List Frame} {w w' : World} {b : Nat} {A : Array Value} {ds : List Deferred} (hm : fr.mode ≠ .run) (hd : fr.defers = { target:=.collected b,args:=A } :: ds) (hr : (Instr.takeDeferred b).run P w = .ok [] w') :
  step P (lone fr cs w) = .next (lone { fr with defers:=ds } cs w'):=by
 refine step_lone_go ?_
 cases hmode : fr.mode with
 | run=>exact absurd hmode hm
 | returning=>simp [stepG,unwind,hmode,hd,Sem.runT_eq,hr]
 | panicking chain=>simp [stepG,unwind,hmode,hd,Sem.runT_eq,hr]
def ModeOk (e : Env) (p : Option AV) (m : FrameMode) : Prop:=
 match p with
 | none=>m = .returning
 | some v=>∃ x,conc e v = some x∧m = .panicking [{ v:=x,recovered:=false }]
theorem frameA_conc {e : Env} {args : List AV} {xs : List Value} (h : concL e args = some xs) (n : Nat) (rc : RC) : concL e (frameA args n rc).tm = some (xs.toArray ++ Array.replicate (n - xs.toArray.size) undef).toList:=by
 have hl:=concL_length h
 have : (xs.toArray ++ Array.replicate (n - xs.toArray.size) undef).toList = xs ++ List.replicate (n - args.length) undef:=by simp [hl]
 rw [this]
 exact concL_append h (concL_replicate (conc_undef e) _)
theorem leaveA_run {call : CallF} (hcall : CallOk P call) {K : Nat} {fn : Func} {tm : List AV} : ∀ (ds : List Dfr) (p : Option AV) (I : St) (r : Rt) (I' : St),leaveA P call K fn tm ds p I = some (r,I')→∀ (e : Env) (w : World) (ts : List Value) (Ds : List Deferred),Sim e I w→concL e tm = some ts→concDL e ds = some Ds→
  Free e I.next I'.next→∀ (fr : Frame) (c : Frame) (cs : List Frame),ModeOk e p fr.mode→fr.defers = Ds→fr.tmps = ts.toArray→P.funcs[fr.fn]? = some fn→fr.kind = .normal→
  ∃ e' w',Sim e' I' w'∧Goes e I w e' I' w'∧EndsAt P (lone fr (c :: cs) w) c cs e' r w'
 | [],none,I,r,I',h,e,w,ts,Ds,hs,ht,hD,hf,fr,c,cs,hm,hd,htm,hfn,hk=>by
  simp only [leaveA,Option.map_eq_some_iff,Prod.mk.injEq] at h
  obtain ⟨v,hv,rfl,rfl⟩:=h
  obtain ⟨x,hx,hrun⟩:=resultsA_run hs ht hv
  simp only [concDL,Option.some.injEq] at hD
  refine ⟨e,w,hs,Goes.refl ..,x,hx,.one (step_leave_returned ⟨hm,by rw [hd,← hD],hk,fn,hfn,by rw [htm];exact hrun⟩)⟩
 | [],some v,I,r,I',h,e,w,ts,Ds,hs,ht,hD,hf,fr,c,cs,hm,hd,htm,hfn,hk=>by
  simp only [leaveA,Option.some.injEq,Prod.mk.injEq] at h
  obtain ⟨rfl,rfl⟩:=h
  obtain ⟨x,hx,hm⟩:=hm
  simp only [concDL,Option.some.injEq] at hD
  exact ⟨e,w,hs,Goes.refl ..,x,hx,.one (step_leave_panicked ⟨hm,by rw [hd,← hD],fn,hfn⟩)⟩
 | .coll d :: ds,p,I,r,I',h,e,w,ts,Ds,hs,ht,hD,hf,fr,c,cs,hm,hd,htm,hfn,hk=>by
  simp only [leaveA] at h
  split at h
  case h_2=>cases h
  rename_i hg
  simp only [concDL,concD,Option.bind_eq_some_iff,Option.map_eq_some_iff] at hD
  obtain ⟨D,⟨pd,hpd,rfl⟩,Dr,hDr,rfl⟩:=hD
  obtain ⟨b0,q0,ob,he0,hb0,hrel⟩:=hs.at_ _ _ hg
  rw [hpd] at he0;cases he0
  have hob : ob = .deferred (some []):=hrel
  subst hob
  have hlt : b0 < w.heap.size:=(Array.getElem?_eq_some_iff.1 hb0).1
  let w1 : World:={ w with heap:=w.heap.setIfInBounds b0 (.deferred none) }
  obtain ⟨g1,g2⟩:=hs.put (blk':=.gone) (ob:=.deferred none) (w':=w1) hg trivial hpd (by simp [w1]) (by simp [w1,hlt]) (fun k hk=>by simp [w1,Array.getElem?_setIfInBounds_ne (Ne.symm hk)]) rfl rfl rfl rfl
  have htake : (Instr.takeDeferred b0).run P w = .ok [] w1:=by simp [Instr.takeDeferred,getObj,setObj,Sem.run,hb0,w1]
  have hmr : fr.mode ≠ .run:=by
   cases p with
   | none=>rw [show fr.mode = .returning from hm];simp
   | some v=>obtain ⟨x,_,hm⟩:=hm;rw [hm];simp
  have hst:=step_coll (P:=P) (cs:=c :: cs) hmr hd htake
  obtain ⟨e',w',q1,q2,q3⟩:=leaveA_run hcall ds p (I.put d .gone) r I' h e w1 ts Dr g1 ht hDr hf { fr with defers:=Dr } c cs hm rfl htm hfn hk
  refine ⟨e',w',q1,g2.trans q2,?_⟩
  cases r with
  | ret v=>obtain ⟨x,hx,hs'⟩:=q3;exact ⟨x,hx,.head hst hs'⟩
  | pan v=>obtain ⟨x,hx,hs'⟩:=q3;exact ⟨x,hx,.head hst hs'⟩
 | .fn f aas csA :: ds,p,I,r,I',h,e,w,ts,Ds,hs,ht,hD,hf,fr,c,cs,hm,hd,htm,hfn,hk=>by
  simp only [leaveA] at h
  split at h
  case isFalse=>cases h
  rename_i hen
  simp only [Option.bind_eq_some_iff] at h
  obtain ⟨g,hgf,body,hbody,⟨x,fr1,I1⟩,h1,h⟩:=h
  simp only [concDL,concD,Option.bind_eq_some_iff,Option.map_eq_some_iff] at hD
  obtain ⟨D,⟨xs,hxs,ys,hys,rfl⟩,Dr,hDr,rfl⟩:=hD
  have hmr : fr.mode ≠ .run:=by
   cases p with
   | none=>rw [show fr.mode = .returning from hm];simp
   | some v=>obtain ⟨x,_,hm⟩:=hm;rw [hm];simp
  have hinv : (invoke (.fn (.func f) ys.toArray) xs.toArray).run P w = .ok (.enter f (xs.toArray ++ ys.toArray)) w:=by simp only [invoke];exact callFunc_run hen _ w
  have hst:=step_defer (P:=P) (cs:=c :: cs) hmr hd rfl hinv
  let b : Frame:={ (default : Frame) with fn:=f,kind:=.deferred,roundOf:=none }
  let a0 : Act:={ tmps:=(xs ++ ys).toArray ++ Array.replicate (g.ntmps - (xs ++ ys).toArray.size) undef,defers:=[] }
  have henter : Frame.enter P f (xs.toArray ++ ys.toArray) .deferred = b.atR a0 [.code body]:=by
   simp [Frame.enter,Frame.atR,hgf,hbody,b,a0]
  have hfin : ∃ I2,(x = .norm∨x = .ret)∧fr1.df = []∧(∃ u,resultsA P g fr1.tm I1 = some u)∧leaveA P call K fn tm ds (nextP p fr1.rc) I1 = some (r,I2)∧I1.next≤I2.next∧I2 = I':=by
   split at h
   ·rename_i hxx hdf
    simp only [Option.bind_eq_some_iff] at h
    obtain ⟨u,hu,⟨r2,I2⟩,h2,h⟩:=h
    split at h<;>simp only [reduceCtorEq,Option.some.injEq,Prod.mk.injEq] at h
    obtain ⟨rfl,rfl⟩:=h
    exact ⟨_,.inl hxx,hdf,⟨u,hu⟩,h2,by assumption,rfl⟩
   ·rename_i hxx hdf
    simp only [Option.bind_eq_some_iff] at h
    obtain ⟨u,hu,⟨r2,I2⟩,h2,h⟩:=h
    split at h<;>simp only [reduceCtorEq,Option.some.injEq,Prod.mk.injEq] at h
    obtain ⟨rfl,rfl⟩:=h
    exact ⟨_,.inr hxx,hdf,⟨u,hu⟩,h2,by assumption,rfl⟩
   ·cases h
  obtain ⟨I2,hxn,hdf1,⟨u,hu⟩,h2,hle,rfl⟩:=hfin
  let cfr : Frame:={ fr with defers:=Dr }
  have hfr0 : FR e (frameA (aas ++ csA) g.ntmps (rcOf p)) b (cfr :: c :: cs) a0 (cfr :: c :: cs):=by
   refine ⟨⟨_,frameA_conc (concL_append hxs hys) g.ntmps _,by simp [a0]⟩,rfl,rfl,?_⟩
   cases p with
   | none=>exact ⟨rfl,cfr,c :: cs,rfl,hm,rfl⟩
   | some v =>
    obtain ⟨x,hx,hm⟩:=hm
    refine ⟨rfl,cfr,c :: cs,x,rfl,hx,?_⟩
    have : ({ cfr with mode:=.panicking [{ v:=x,recovered:=false }] } : Frame) = cfr:=by
     have hcm : cfr.mode = .panicking [{ v:=x,recovered:=false }]:=hm
     rw [← hcm]
    rw [this]
  obtain ⟨e1,w1,a1,cs1,g1,g2,g3,g4⟩:=(evCode_run hcall K).1 body _ I x fr1 I1 h1 e w b (cfr :: c :: cs) (cfr :: c :: cs) a0 hs hfr0 (free_mono hf hle) []
  obtain ⟨ts1,hts1,hta1⟩:=g3.tm
  have hdf1' : a1.defers = []:=by
   have:=g3.df;rw [hdf1] at this;simp only [concDL,Option.some.injEq] at this;exact this.symm
  obtain ⟨xr,hxr,hres⟩:=resultsA_run (P:=P) g1 hts1 hu
  have hout : ∃ fd : Frame,Steps P (lone (b.atR a0 [.code body]) (cfr :: c :: cs) w) (lone fd cs1 w1)∧fd.kind = .deferred∧fd.going P w1 (.returned xr):=by
   rcases hxn with rfl | rfl
   ·exact ⟨_,Steps.trans g4 (.one (stepR_end rfl)),rfl,rfl,hdf1',g,hgf,by rw [show ({ b.atR a1 [] with mode:=.returning } : Frame).tmps = ts1.toArray from hta1];exact hres⟩
   ·obtain ⟨Kk,hst⟩:=g4
    exact ⟨_,Steps.trans hst (.one (stepR_ret rfl)),rfl,rfl,hdf1',g,hgf,by rw [show ({ b.atR a1 (.code .ret :: Kk) with mode:=.returning } : Frame).tmps = ts1.toArray from hta1];exact hres⟩
  obtain ⟨fd,hsteps,hfk,hgo⟩:=hout
  have hf1 : Free e1 I1.next I2.next:=g2.free (fun m hm1 hm2=>hf m (Nat.le_trans g2.next hm1) hm2) (Nat.le_refl _)
  have hcs1 : ∃ m',cs1 = { cfr with mode:=m' } :: c :: cs∧ModeOk e1 (nextP p fr1.rc) (settle m'):=by
   have hrc:=g3.rc
   cases hr1 : fr1.rc with
   | no =>
    simp only [hr1,CsOk] at hrc
    refine ⟨cfr.mode,hrc,?_⟩
    show ModeOk e1 p (settle cfr.mode)
    cases p with
    | none =>
     have : cfr.mode = .returning:=hm
     rw [this];rfl
    | some v =>
     obtain ⟨x,hx,hm⟩:=hm
     have : cfr.mode = .panicking [{ v:=x,recovered:=false }]:=hm
     rw [this]
     exact ⟨x,conc_le g2.le _ _ hx,rfl⟩
   | quiet =>
    simp only [hr1,CsOk] at hrc
    obtain ⟨_,c1,rest,e1',hm1,e3⟩:=hrc
    simp only [List.cons.injEq] at e1'
    obtain ⟨rfl,rfl⟩:=e1'
    refine ⟨cfr.mode,e3,?_⟩
    show ModeOk e1 p (settle cfr.mode)
    cases p with
    | none=>rw [hm1];rfl
    | some v =>
     obtain ⟨x,hx,hm⟩:=hm
     have : cfr.mode = .panicking [{ v:=x,recovered:=false }]:=hm
     rw [this] at hm1;cases hm1
   | pend v =>
    simp only [hr1,CsOk] at hrc
    obtain ⟨_,c1,rest,x,e1',hx,e3⟩:=hrc
    simp only [List.cons.injEq] at e1'
    obtain ⟨rfl,rfl⟩:=e1'
    exact ⟨_,e3,x,hx,rfl⟩
   | done v =>
    simp only [hr1,CsOk] at hrc
    obtain ⟨_,c1,rest,x,e1',hx,e3⟩:=hrc
    simp only [List.cons.injEq] at e1'
    obtain ⟨rfl,rfl⟩:=e1'
    exact ⟨_,e3,rfl⟩
  obtain ⟨m',hcs1,hmode⟩:=hcs1
  subst hcs1
  have hst2:=step_going_returned (P:=P) (c:={ cfr with mode:=m' }) (cs:=c :: cs) hfk hgo
  obtain ⟨e2,w2,q1,q2,q3⟩:=leaveA_run hcall ds _ I1 r I2 h2 e1 w1 ts Dr g1 (concL_le g2.le _ _ ht) (concDL_le g2.le hDr) hf1 { { cfr with mode:=m' } with mode:=settle m' } c cs hmode rfl htm hfn hk
  have hall : Steps P (lone fr (c :: cs) w) (lone { { cfr with mode:=m' } with mode:=settle m' } (c :: cs) w1):=
   .head hst (henter ▸ hsteps.trans (.one hst2))
  refine ⟨e2,w2,q1,g2.trans q2,?_⟩
  cases r with
  | ret v=>obtain ⟨x,hx,hs'⟩:=q3;exact ⟨x,hx,hall.trans hs'⟩
  | pan v=>obtain ⟨x,hx,hs'⟩:=q3;exact ⟨x,hx,hall.trans hs'⟩
end Go.Abs
namespace Go.Abs
variable {P : Program}
theorem foldA_conc {e : Env} : ∀ (ps : List Tmp) (args : List AV) (xs : List Value) (tm : List AV) (ts : List Value),concL e args = some xs→concL e tm = some ts→
  ∃ us,concL e (foldA (ps.zip args) tm) = some us∧(ps.zip xs).foldl (fun (tmps : Array Value) (t,a)=>tmps.setIfInBounds t a) ts.toArray = us.toArray
 | [],args,xs,tm,ts,h,k=>⟨ts,k,rfl⟩
 | p :: ps,[],xs,tm,ts,h,k=>by simp [concL] at h;subst h;exact ⟨ts,k,rfl⟩
 | p :: ps,v :: args,xs,tm,ts,h,k=>by
  obtain ⟨x,ys,hx,hys,rfl⟩:=concL_cons h
  obtain ⟨us,h1,h2⟩:=foldA_conc ps args ys (tm.set p v) (ts.set p x) hys (concL_set k p hx)
  exact ⟨us,h1,by simpa using h2⟩
theorem loop_of {e : Env} {s : St} {w : World} (hs : Sim e s w) {l : Nat} {L : LP} (h : loopA s l = some L) {q : Nat × Nat} (hq : e l = some q) :
  ∃ fn ts p,concL e L.2.2.1 = some ts∧e L.2.2.2.2.2.2 = some p∧w.heap[q.1]? = some (.loop { state:=L.1,pending:=L.2.1,fn:=fn,tmps:=ts.toArray,params:=L.2.2.2.1,assign:=L.2.2.2.2.1,body:=L.2.2.2.2.2.1,defers:=p.1 }):=by
 obtain ⟨b0,q0,ob0,he0,hb0,fn0,ts0,pd,h1,h2,rfl⟩:=hs.at_ _ _ (loopA_eq h)
 rw [hq] at he0;cases he0
 exact ⟨fn0,ts0,pd,h1,h2,hb0⟩
theorem setLoop {e : Env} {s : St} {w : World} (hs : Sim e s w) {l : Nat} {L : LP} (h : loopA s l = some L) {q : Nat × Nat} (hq : e l = some q) (st : LoopState) (pend : Option Code) :
  ∃ w' R,Sim e (s.put l (.loop st pend L.2.2.1 L.2.2.2.1 L.2.2.2.2.1 L.2.2.2.2.2.1 L.2.2.2.2.2.2)) w'∧Goes e s w e (s.put l (.loop st pend L.2.2.1 L.2.2.2.1 L.2.2.2.2.1 L.2.2.2.2.2.1 L.2.2.2.2.2.2)) w'∧
   (getObj q.1).run P w = .ok (.loop R) w∧R.state = L.1∧(setObj q.1 (.loop { R with state:=st,pending:=pend })).run P w = .ok () w'∧R.pending = L.2.1:=by
 obtain ⟨fn0,ts0,pd,h1,h2,hb0⟩:=loop_of hs h hq
 have hlt : q.1 < w.heap.size:=(Array.getElem?_eq_some_iff.1 hb0).1
 let R : Loop:={ state:=L.1,pending:=L.2.1,fn:=fn0,tmps:=ts0.toArray,params:=L.2.2.2.1,assign:=L.2.2.2.2.1,body:=L.2.2.2.2.2.1,defers:=pd.1 }
 let w' : World:={ w with heap:=w.heap.setIfInBounds q.1 (.loop { R with state:=st,pending:=pend }) }
 obtain ⟨g1,g2⟩:=hs.put (blk':=.loop st pend L.2.2.1 L.2.2.2.1 L.2.2.2.2.1 L.2.2.2.2.2.1 L.2.2.2.2.2.2) (ob:=.loop { R with state:=st,pending:=pend }) (w':=w') (b:=q.1) (q:=q.2) (loopA_eq h) trivial hq (by simp [w']) (by simp [w',hlt])
  (fun k hk=>by simp [w',Array.getElem?_setIfInBounds_ne (Ne.symm hk)]) ⟨fn0,ts0,pd,h1,h2,rfl⟩ rfl rfl rfl
 exact ⟨w',R,g1,g2,by simp [getObj,Sem.run,hb0,R],rfl,by simp [setObj,Sem.run,hb0,w'],rfl⟩
theorem roundA_run {call : CallF} (hcall : CallOk P call) {K : Nat} {l : Nat} {args : List AV} {s I' : St} {r : Rt} (h : roundA P call K l args s = some (r,I')) {e : Env} {w : World} (hs : Sim e s w) (hf : Free e s.next I'.next) {xs : List Value} (hxs : concL e args = some xs) (c : Frame) (cs : List Frame) :
  ∃ e' w',Sim e' I' w'∧Goes e s w e' I' w'∧Starts P e w (.yld l) xs (fun m=>EndsAt P m c cs e' r w') c cs:=by
 simp only [roundA,Option.bind_eq_some_iff] at h
 obtain ⟨L,hL,h⟩:=h
 split at h
 case isFalse=>cases h
 rename_i hlen
 simp only [Option.bind_eq_some_iff] at h
 obtain ⟨⟨x0,fr1,I1⟩,h1,h⟩:=h
 cases x0<;>simp only [reduceCtorEq] at h
 simp only [Option.bind_eq_some_iff] at h
 obtain ⟨L1,hL1,h⟩:=h
 split at h
 case isFalse=>cases h
 rename_i hready
 simp only [Option.bind_eq_some_iff] at h
 obtain ⟨⟨x,fr2,I3⟩,h3,h⟩:=h
 split at h
 case isFalse=>cases h
 rename_i hle
 simp only [Option.bind_eq_some_iff,Option.map_eq_some_iff,Prod.mk.injEq] at h
 obtain ⟨jump,hjump,L3,hL3,hr,hI'⟩:=h
 subst hI'
 simp only at hle
 obtain ⟨b0,q0,ob0,he0,hb0,_⟩:=hs.at_ _ _ (loopA_eq hL)
 have hq : e l = some (b0,q0):=he0
 obtain ⟨fn0,ts0,pd,k1,k2,k3⟩:=loop_of hs hL hq
 obtain ⟨us,hus,hfold⟩:=foldA_conc L.2.2.2.1.toList args xs L.2.2.1 ts0 hxs k1
 let b : Frame:={ (default : Frame) with fn:=fn0,kind:=.normal,roundOf:=some b0 }
 let a0 : Act:={ tmps:=us.toArray,defers:=[] }
 have hfr0 : FR e ⟨foldA (L.2.2.2.1.toList.zip args) L.2.2.1,[],.no,some l⟩ b (c :: cs) a0 (c :: cs):=⟨⟨us,hus,rfl⟩,rfl,⟨_,hq,rfl⟩,rfl⟩
 have hI3 : I3.next = (endRd I3 l jump L3).next:=rfl
 have hI1 : I1.next≤I3.next:=hle
 obtain ⟨e1,w1,a1,cs1,g1,g2,g3,g4⟩:=(evCode_run hcall K).1 _ _ _ _ _ _ h1 e w b (c :: cs) (c :: cs) a0 hs hfr0 (free_mono hf (by rw [← hI3];exact hI1)) [.beginRound,.code L.2.2.2.2.2.1]
 have nor : ∀ {e' : Env} {fr' : Fr} {a' : Act} {cs' : List Frame},FR e' fr' b (c :: cs) a' cs'→cs' = c :: cs:=by
  intro e' fr' a' cs' g
  have hrc:=g.rc
  cases hr1 : fr'.rc with
  | no=>simpa [hr1,CsOk] using hrc
  | quiet=>simp only [hr1,CsOk] at hrc;exact absurd hrc.1 (by simp [b])
  | pend v=>simp only [hr1,CsOk] at hrc;exact absurd hrc.1 (by simp [b])
  | done v=>simp only [hr1,CsOk] at hrc;exact absurd hrc.1 (by simp [b])
 have hc1:=nor g3
 subst hc1
 have hq1 : e1 l = some (b0,q0):=g2.le _ _ hq
 obtain ⟨w2,R1,p1,p2,p3,p4,p5,p6⟩:=setLoop (P:=P) g1 hL1 hq1 .busy L1.2.1
 have hbeg : (Instr.beginRound b0).run P w1 = .ok () w2:=by
  have hR : R1.state = .ready:=by rw [p4,hready]
  have h5 : ({ R1 with state:=.busy,pending:=L1.2.1 } : Loop) = { R1 with state:=.busy }:=by rw [← p6]
  rw [h5] at p5
  simp only [Instr.beginRound,Instr.getLoop,Sem.run_bind,p3,Result.andThen_ok,Sem.run_pure,p5,hR]
 have hst1 : Steps P (lone (b.atR a0 [.code L.2.2.2.2.1,.beginRound,.code L.2.2.2.2.2.1]) (c :: cs) w) (lone (b.atR a1 [.code L.2.2.2.2.2.1]) (c :: cs) w2):=Steps.trans g4 (.one (stepR_beginRound rfl hbeg))
 have hf1 : Free e1 (begRd I1 l L1).next I3.next:=g2.free (fun m hm1 hm2=>hf m (Nat.le_trans g2.next hm1) hm2) (Nat.le_refl _)
 obtain ⟨e3,w3,a3,cs3,q1,q2,q3,q4⟩:=(evCode_run hcall K).1 _ _ _ _ _ _ h3 e1 w2 b (c :: cs) (c :: cs) a1 p1 g3 hf1 []
 have hc3:=nor q3
 subst hc3
 have hq3 : e3 l = some (b0,q0):=q2.le _ _ hq1
 obtain ⟨w4,R3,r1,r2,r3,r4,r5,r6⟩:=setLoop (P:=P) q1 hL3 hq3 (if jump.isNone then .ready else .done) jump
 have hend : (Instr.endRound b0 jump).run P w3 = .ok (.bool jump.isNone) w4:=by
  simp only [Instr.endRound,Instr.getLoop,Sem.run_bind,r3,Result.andThen_ok,Sem.run_pure,r5]
 have hst2 : Steps P (lone (b.atR a1 [.code L.2.2.2.2.2.1]) (c :: cs) w2) (lone (c.finish (.bool jump.isNone)) cs w4):=by
  cases x with
  | norm =>
   simp only [jumpOf,Option.some.injEq] at hjump;subst hjump
   exact Steps.trans q4 (.one (stepR_round_end rfl rfl hend))
  | ret =>
   simp only [jumpOf,Option.some.injEq] at hjump;subst hjump
   obtain ⟨Kk,hs'⟩:=q4
   exact Steps.trans hs' (.one (stepR_round_ret rfl rfl hend))
  | exit id =>
   simp only [jumpOf,Option.some.injEq] at hjump;subst hjump
   obtain ⟨Kk,hK,hs'⟩:=q4
   exact Steps.trans hs' (.one (stepR_round_exit rfl rfl hK hend))
  | pan v=>simp [jumpOf] at hjump
 refine ⟨e3,w4,r1,((g2.trans p2).trans q2).trans r2,?_⟩
 intro q hq'
 rw [hq] at hq';cases hq'
 refine ⟨_,k3,by rw [concL_length hxs,hlen],?_⟩
 subst hr
 refine ⟨.bool jump.isNone,rfl,?_⟩
 have hround : Frame.round b0 fn0 ((L.2.2.2.1.zip xs.toArray).foldl (fun tmps (t,a)=>tmps.setIfInBounds t a) ts0.toArray) L.2.2.2.2.1 L.2.2.2.2.2.1 .normal = b.atR a0 [.code L.2.2.2.2.1,.beginRound,.code L.2.2.2.2.2.1]:=by
  have : (L.2.2.2.1.zip xs.toArray).foldl (fun (tmps : Array Value) (t,a)=>tmps.setIfInBounds t a) ts0.toArray = us.toArray:=by
   rw [← hfold]
   have hz : L.2.2.2.1.zip xs.toArray = (L.2.2.2.1.toList.zip xs).toArray:=by
    apply Array.toList_inj.1;simp
   rw [hz,List.foldl_toArray]
  rw [this]
  simp [Frame.round,Frame.atR,b,a0]
 show Steps P (lone (Frame.round b0 fn0 _ _ _ .normal) (c :: cs) w) _
 rw [hround]
 exact hst1.trans hst2
def HookOk (P : Program) (hk : Hook) : Prop:=
 ∀ f g,hk f = some g→∀ args s r s',g args s = some (r,s')→∀ e w,Sim e s w→Free e s.next s'.next→∀ xs,concL e args = some xs→∀ (c : Frame) (cs : List Frame),
  ∃ e' w',Sim e' s' w'∧Goes e s w e' s' w'∧EndsAt P (lone (Frame.enter P f xs.toArray .normal) (c :: cs) w) c cs e' r w'
theorem EndsAt.of_steps {m m₁ : Machine} {c : Frame} {cs : List Frame} {e : Env} {r : Rt} {w : World} (h : Steps P m m₁) (h' : EndsAt P m₁ c cs e r w) : EndsAt P m c cs e r w:=by
 cases r with
 | ret v=>obtain ⟨x,hx,hs⟩:=h';exact ⟨x,hx,h.trans hs⟩
 | pan v=>obtain ⟨x,hx,hs⟩:=h';exact ⟨x,hx,h.trans hs⟩
theorem evCall_ok {hk : Hook} (hhk : HookOk P hk) {K : Nat} : ∀ n,CallOk P (evCall P hk K n)
 | 0=>fun tg args s r s' h=>by simp [evCall] at h
 | n + 1=>by
  have ih:=evCall_ok hhk (K:=K) n
  intro tg args s r s' h e w hs hf xs hxs c cs
  cases tg with
  | yld l =>
   simp only [evCall,Option.map_eq_some_iff,Prod.mk.injEq] at h
   obtain ⟨⟨r1,I'⟩,h1,h2,h3⟩:=h
   simp only at h2 h3
   subst h2 h3
   have hf' : Free e s.next I'.next:=hf
   obtain ⟨e',w',g1,g2,g3⟩:=roundA_run ih h1 (s:=⟨s.heap,s.next,[]⟩) (e:=e) (w:=w) ⟨hs.at_,hs.inj,hs.bound⟩ hf' hxs c cs
   obtain ⟨q1,q2⟩:=collect_run (r:=r1) hs hf' g2 g1
   exact ⟨e',w',q1,q2,g3⟩
  | fn f =>
   simp only [evCall] at h
   split at h
   ·rename_i g hg
    obtain ⟨e',w',g1,g2,g3⟩:=hhk f g hg args s r s' h e w hs hf xs hxs c cs
    exact ⟨e',w',g1,g2,g3⟩
   ·simp only [Option.bind_eq_some_iff] at h
    obtain ⟨fn,hfn,body,hbody,⟨x,fr,I⟩,h1,⟨r1,I'⟩,h2,h⟩:=h
    split at h<;>simp only [reduceCtorEq,Option.some.injEq,Prod.mk.injEq] at h
    rename_i hle
    obtain ⟨rfl,rfl⟩:=h
    simp only at hle h2
    let b : Frame:={ (default : Frame) with fn:=f,kind:=.normal,roundOf:=none }
    let a0 : Act:={ tmps:=xs.toArray ++ Array.replicate (fn.ntmps - xs.toArray.size) undef,defers:=[] }
    have henter : Frame.enter P f xs.toArray .normal = b.atR a0 [.code body]:=by simp [Frame.enter,Frame.atR,hfn,hbody,b,a0]
    have hfr0 : FR e (frameA args fn.ntmps .no) b (c :: cs) a0 (c :: cs):=⟨⟨_,frameA_conc hxs fn.ntmps _,by simp [a0]⟩,rfl,rfl,rfl⟩
    have hf' : Free e s.next I'.next:=hf
    obtain ⟨e1,w1,a1,cs1,g1,g2,g3,g4⟩:=(evCode_run ih K).1 body _ ⟨s.heap,s.next,[]⟩ x fr I h1 e w b (c :: cs) (c :: cs) a0 ⟨hs.at_,hs.inj,hs.bound⟩ hfr0 (free_mono hf' hle) []
    have hcs1 : cs1 = c :: cs:=by
     have hrc:=g3.rc
     cases hr1 : fr.rc with
     | no=>simpa [hr1,CsOk] using hrc
     | quiet=>simp only [hr1,CsOk] at hrc;exact absurd hrc.1 (by simp [b])
     | pend v=>simp only [hr1,CsOk] at hrc;exact absurd hrc.1 (by simp [b])
     | done v=>simp only [hr1,CsOk] at hrc;exact absurd hrc.1 (by simp [b])
    subst hcs1
    obtain ⟨ts1,hts1,hta1⟩:=g3.tm
    have hf1 : Free e1 I.next I'.next:=g2.free (fun m hm1 hm2=>hf' m (Nat.le_trans g2.next hm1) hm2) (Nat.le_refl _)
    have fin : ∀ (p : Option AV) (fo : Frame),leaveA P (evCall P hk K n) K fn fr.tm fr.df p I = some (r1,I')→Steps P (lone (b.atR a0 [.code body]) (c :: cs) w) (lone fo (c :: cs) w1)→ModeOk e1 p fo.mode→fo.defers = a1.defers→fo.tmps = a1.tmps→fo.fn = f→fo.kind = .normal→
      ∃ e' w',Sim e' (collect s I' r1) w'∧Goes e s w e' (collect s I' r1) w'∧EndsAt P (lone (Frame.enter P f xs.toArray .normal) (c :: cs) w) c cs e' r1 w':=by
     intro p fo hlv hst hmode hd ht hfo hkd
     obtain ⟨e2,w2,q1,q2,q3⟩:=leaveA_run ih fr.df p I r1 I' hlv e1 w1 ts1 a1.defers g1 hts1 g3.df hf1 fo c cs hmode hd (ht.trans hta1) (by rw [hfo];exact hfn) hkd
     obtain ⟨z1,z2⟩:=collect_run (r:=r1) hs hf' (g2.trans q2) q1
     exact ⟨e2,w2,z1,z2,EndsAt.of_steps (henter ▸ hst) q3⟩
    cases x with
    | norm=>exact fin none { b.atR a1 [] with mode:=.returning } h2 (Steps.trans g4 (.one (stepR_end rfl))) rfl rfl rfl rfl rfl
    | ret =>
     obtain ⟨Kk,hst⟩:=g4
     exact fin none { b.atR a1 (.code .ret :: Kk) with mode:=.returning } h2 (Steps.trans hst (.one (stepR_ret rfl))) rfl rfl rfl rfl rfl
    | pan v =>
     obtain ⟨y,hy,todo,hst⟩:=g4
     exact fin (some v) { b.atR a1 todo with mode:=.panicking [{ v:=y,recovered:=false }] } h2 hst ⟨y,hy,rfl⟩ rfl rfl rfl rfl
    | exit id=>cases h2
end Go.Abs
namespace Go.Abs
open Go.RowKit
variable {P : Program}
noncomputable def runFn (P : Program) (hk : Hook) (K n : Nat) (f : FuncId) (args : List AV) : Option AV:=
 (P.funcs[f]?).bind fun fn=>fn.body.bind fun body =>
 (evCode P (evCall P hk K n) K body (frameA args fn.ntmps .no) ⟨.leaf,0,[]⟩).bind fun (x,fr,I) =>
 match x,fr.df with
 | .norm,[] | .ret,[]=>resultsA P fn fr.tm I
 | _,_=>none
theorem no_leaf {α : Type} {n : Nat} {x : α} {p : Prop} (h : (Tr.leaf : Tr α).get n = some x) : p:=by rw [Tr.get_leaf] at h;cases h
theorem calls_of_run {hk : Hook} (hhk : HookOk P hk) {K n : Nat} {f : FuncId} {args : List AV} {v : AV} (h : runFn P hk K n f args = some v) {xs : List Value} (hxs : concL (fun _=>none) args = some xs) (w : World) :
  Calls P f xs.toArray w fun e w'=>(∃ E x,conc E v = some x∧e = .returned x)∧Below w.heap.size w w':=by
 simp only [runFn,Option.bind_eq_some_iff] at h
 obtain ⟨fn,hfn,body,hbody,⟨x,fr,I⟩,h1,h⟩:=h
 have hx : (x = .norm∨x = .ret)∧fr.df = []∧resultsA P fn fr.tm I = some v:=by
  split at h
  ·rename_i hx hd;exact ⟨.inl hx,hd,h⟩
  ·rename_i hx hd;exact ⟨.inr hx,hd,h⟩
  ·cases h
 obtain ⟨hx,hdf,hres⟩:=hx
 intro cs
 let b : Frame:={ (default : Frame) with fn:=f,kind:=.normal,roundOf:=none }
 let a0 : Act:={ tmps:=xs.toArray ++ Array.replicate (fn.ntmps - xs.toArray.size) undef,defers:=[] }
 have henter : Frame.enter P f xs.toArray .normal = b.atR a0 [.code body]:=by simp [Frame.enter,Frame.atR,hfn,hbody,b,a0]
 have hfr0 : FR (fun _=>none) (frameA args fn.ntmps .no) b cs a0 cs:=⟨⟨_,frameA_conc hxs fn.ntmps _,by simp [a0]⟩,rfl,rfl,rfl⟩
 have hs0 : Sim (fun _=>none) ⟨.leaf,0,[]⟩ w:=⟨(fun n x hx=>no_leaf hx),(fun n m _ _ _ _ _ hn=>no_leaf hn),(fun n _ _ hn=>by cases hn)⟩
 obtain ⟨e1,w1,a1,cs1,g1,g2,g3,g4⟩:=(evCode_run (evCall_ok hhk (K:=K) n) K).1 body _ ⟨.leaf,0,[]⟩ x fr I h1 (fun _=>none) w b cs cs a0 hs0 hfr0 (fun _ _ _=>rfl) []
 have hcs1 : cs1 = cs:=by
  have hrc:=g3.rc
  cases hr1 : fr.rc with
  | no=>simpa [hr1,CsOk] using hrc
  | quiet=>simp only [hr1,CsOk] at hrc;exact absurd hrc.1 (by simp [b])
  | pend v=>simp only [hr1,CsOk] at hrc;exact absurd hrc.1 (by simp [b])
  | done v=>simp only [hr1,CsOk] at hrc;exact absurd hrc.1 (by simp [b])
 subst hcs1
 obtain ⟨ts1,hts1,hta1⟩:=g3.tm
 have hd1 : a1.defers = []:=by
  have:=g3.df;rw [hdf] at this;simp only [concDL,Option.some.injEq] at this;exact this.symm
 obtain ⟨y,hy,hrun⟩:=resultsA_run (P:=P) g1 hts1 hres
 rw [← hta1] at hrun
 have hno : ∀ b,¬ Own (fun _=>none) ⟨.leaf,0,[]⟩ b:=fun b ⟨n,x,q,hx,_⟩=>no_leaf hx
 have hbelow : Below w.heap.size w w1:=⟨g2.os,g2.tape,g2.output,g2.size,fun k hk=>g2.frame k hk (hno k)⟩
 rcases hx with rfl | rfl
 ·exact ⟨.returned y,w1,{ b.atR a1 [] with mode:=.returning },⟨⟨e1,y,hy,rfl⟩,hbelow⟩,by rw [henter];exact Steps.trans g4 (.one (stepR_end rfl)),rfl,rfl,hd1,rfl,fn,hfn,hrun⟩
 ·obtain ⟨Kk,hst⟩:=g4
  exact ⟨.returned y,w1,{ b.atR a1 (.code .ret :: Kk) with mode:=.returning },⟨⟨e1,y,hy,rfl⟩,hbelow⟩,by rw [henter];exact Steps.trans hst (.one (stepR_ret rfl)),rfl,rfl,hd1,rfl,fn,hfn,hrun⟩
end Go.Abs

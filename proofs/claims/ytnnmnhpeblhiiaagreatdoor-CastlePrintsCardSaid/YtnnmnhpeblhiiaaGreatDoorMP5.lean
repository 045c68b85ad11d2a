/- A part of the proof: a run of the program on abstract values, shown to be a run of the machine. -/
import Derived.Test.YtnnmnhpeblhiiaaGreatDoorMP4
import Derived.Orders
set_option linter.unusedVariables false
set_option linter.unusedSimpArgs false
namespace Go.Abs
variable {P : Program} {b : Frame} {a : Act} {k : List Item} {cs : List Frame} {w w' : World} {ops : Array Oper} {i : Nat} {rest : List Nat} {o : Oper}
theorem stepA_value {v : Value} (ho : ops[i]? = some o) (hw : Region.wanted o (yielded ops a.tmps) = true) (hr : (o.semAt b.roundOf a.eval).run P w = .ok (.value v) w') :
  step P (lone (b.atR a (.inRegion ops (i :: rest) :: k)) cs w) = .next (lone (b.atR (a.put o.dst v) (.inRegion ops rest :: k)) cs w'):=by
 have hg:=stepGR_op (P:=P) (b:=b) (k:=k) (cs:=cs) (w:=w) (rest:=rest) ho hw
 have hfin : (b.atR a (.inRegion ops (i :: rest) :: k)).finish v = b.atR (a.put o.dst v) (.inRegion ops rest :: k):=by rw [Frame.finish_atR,ho];rfl
 refine step_lone_go ?_
 rw [hg,← hfin];simp [stepG.apply,hr]
theorem stepA_skip (ho : ops[i]? = some o) (hw : Region.wanted o (yielded ops a.tmps) = true) (hr : (o.semAt b.roundOf a.eval).run P w = .ok .skip w') :
  step P (lone (b.atR a (.inRegion ops (i :: rest) :: k)) cs w) = .next (lone (b.atR (a.put o.dst undef) (.inRegion ops rest :: k)) cs w'):=by
 have hg:=stepGR_op (P:=P) (b:=b) (k:=k) (cs:=cs) (w:=w) (rest:=rest) ho hw
 have hfin : (b.atR a (.inRegion ops (i :: rest) :: k)).finish undef = b.atR (a.put o.dst undef) (.inRegion ops rest :: k):=by rw [Frame.finish_atR,ho];rfl
 refine step_lone_go ?_
 rw [hg,← hfin];simp [stepG.apply,hr]
theorem stepA_defer {d : Deferred} (ho : ops[i]? = some o) (hw : Region.wanted o (yielded ops a.tmps) = true) (hr : (o.semAt b.roundOf a.eval).run P w = .ok (.defer d) w') :
  step P (lone (b.atR a (.inRegion ops (i :: rest) :: k)) cs w) = .next (lone (b.atR ({ a with defers:=d :: a.defers }.put o.dst undef) (.inRegion ops rest :: k)) cs w'):=by
 have hg:=stepGR_op (P:=P) (b:=b) (k:=k) (cs:=cs) (w:=w) (rest:=rest) ho hw
 refine step_lone_go ?_
 have : ({ b.atR a (.inRegion ops (i :: rest) :: k) with defers:=d :: a.defers } : Frame).finish undef =
   b.atR ({ a with defers:=d :: a.defers }.put o.dst undef) (.inRegion ops rest :: k):=by
  have:=Frame.finish_atR b { a with defers:=d :: a.defers } ops i rest k undef
  rw [ho] at this;exact this
 rw [hg];simp only [stepG.apply,Sem.runT_eq,hr,GStep.bare_after]
 exact congrArg (fun fr=>GStep.go { frame:=fr,callers:=cs,status:=.running,dying:=none } w') this
theorem stepA_enter {f : FuncId} {args : Array Value} (ho : ops[i]? = some o) (hw : Region.wanted o (yielded ops a.tmps) = true) (hr : (o.semAt b.roundOf a.eval).run P w = .ok (.enter f args) w') :
  step P (lone (b.atR a (.inRegion ops (i :: rest) :: k)) cs w) = .next (lone (Frame.enter P f args .normal) (b.atR a (.inRegion ops (i :: rest) :: k) :: cs) w'):=by
 have hg:=stepGR_op (P:=P) (b:=b) (k:=k) (cs:=cs) (w:=w) (rest:=rest) ho hw
 exact step_lone_go (by rw [hg];simp [stepG.apply,hr,Frame.atR])
theorem stepA_round {l : Nat} {f : FuncId} {tmps : Array Value} {aas bd : Code} (ho : ops[i]? = some o) (hw : Region.wanted o (yielded ops a.tmps) = true) (hr : (o.semAt b.roundOf a.eval).run P w = .ok (.round l f tmps aas bd) w') :
  step P (lone (b.atR a (.inRegion ops (i :: rest) :: k)) cs w) = .next (lone (Frame.round l f tmps aas bd .normal) (b.atR a (.inRegion ops (i :: rest) :: k) :: cs) w'):=by
 have hg:=stepGR_op (P:=P) (b:=b) (k:=k) (cs:=cs) (w:=w) (rest:=rest) ho hw
 exact step_lone_go (by rw [hg];simp [stepG.apply,hr,Frame.atR])
theorem stepA_panic {v : Value} (ho : ops[i]? = some o) (hw : Region.wanted o (yielded ops a.tmps) = true) (hr : (o.semAt b.roundOf a.eval).run P w = .halt (.panic v) w') :
  step P (lone (b.atR a (.inRegion ops (i :: rest) :: k)) cs w) = .next (lone { b.atR a (.inRegion ops (i :: rest) :: k) with mode:=.panicking [{ v,recovered:=false }] } cs w'):=by
 have hg:=stepGR_op (P:=P) (b:=b) (k:=k) (cs:=cs) (w:=w) (rest:=rest) ho hw
 exact step_lone_go (by rw [hg,← Frame.raise_atR];simp [stepG.apply,hr])
theorem stepA_recover {v : Value} {cs' : List Frame} (ho : ops[i]? = some o) (hw : Region.wanted o (yielded ops a.tmps) = true) (hr : (execOp a.eval o).run P w = .ok .recover w') (hb : b.roundOf = none) (ht : tryRecover (b.atR a (.inRegion ops (i :: rest) :: k)) cs = some (v,cs')) :
  step P (lone (b.atR a (.inRegion ops (i :: rest) :: k)) cs w) = .next (lone (b.atR (a.put o.dst v) (.inRegion ops rest :: k)) cs' w'):=by
 have hg:=stepGR_op (P:=P) (b:=b) (k:=k) (cs:=cs) (w:=w) (rest:=rest) ho hw
 rw [hb,Oper.semAt_none] at hg
 have hfin : (b.atR a (.inRegion ops (i :: rest) :: k)).finish v = b.atR (a.put o.dst v) (.inRegion ops rest :: k):=by rw [Frame.finish_atR,ho];rfl
 refine step_lone_go ?_
 rw [hg,← hfin]
 simp only [Frame.atR,hb] at ht ⊢
 simp [stepG.apply,hr,ht]
theorem stepA_recover0 (ho : ops[i]? = some o) (hw : Region.wanted o (yielded ops a.tmps) = true) (hr : (execOp a.eval o).run P w = .ok .recover w') (hb : b.roundOf = none) (ht : tryRecover (b.atR a (.inRegion ops (i :: rest) :: k)) cs = none) :
  step P (lone (b.atR a (.inRegion ops (i :: rest) :: k)) cs w) = .next (lone (b.atR (a.put o.dst .nilIface) (.inRegion ops rest :: k)) cs w'):=by
 have hg:=stepGR_op (P:=P) (b:=b) (k:=k) (cs:=cs) (w:=w) (rest:=rest) ho hw
 rw [hb,Oper.semAt_none] at hg
 have hfin : (b.atR a (.inRegion ops (i :: rest) :: k)).finish .nilIface = b.atR (a.put o.dst .nilIface) (.inRegion ops rest :: k):=by rw [Frame.finish_atR,ho];rfl
 refine step_lone_go ?_
 rw [hg,← hfin]
 simp only [Frame.atR,hb] at ht ⊢
 simp [stepG.apply,hr,ht]
def EndsAt (P : Program) (m : Machine) (c : Frame) (cs : List Frame) (e : Env) (r : Rt) (w : World) : Prop:=
 match r with
 | .ret v=>∃ x,conc e v = some x∧Steps P m (lone (c.finish x) cs w)
 | .pan v=>∃ x,conc e v = some x∧Steps P m (lone (c.raise [{ v:=x,recovered:=false }]) cs w)
def Starts (P : Program) (e : Env) (w : World) (tg : Tg) (xs : List Value) (m : Machine→Prop) (c : Frame) (cs : List Frame) : Prop:=
 match tg with
 | .fn f=>m (lone (Frame.enter P f xs.toArray .normal) (c :: cs) w)
 | .yld l=>∀ q,e l = some q→∃ r,w.heap[q.1]? = some (.loop r)∧xs.length = r.params.size∧m (lone (Frame.round q.1 r.fn ((r.params.zip xs.toArray).foldl (fun tmps (t,a)=>tmps.setIfInBounds t a) r.tmps) r.assign r.body .normal) (c :: cs) w)
def CallOk (P : Program) (call : CallF) : Prop:=
 ∀ tg args s r s',call tg args s = some (r,s')→∀ e w,Sim e s w→Free e s.next s'.next→∀ xs,concL e args = some xs→∀ (c : Frame) (cs : List Frame),
  ∃ e' w',Sim e' s' w'∧Goes e s w e' s' w'∧Starts P e w tg xs (fun m=>EndsAt P m c cs e' r w') c cs
theorem callFunc_run {f : FuncId} (h : enterable P f = true) (args : Array Value) (w : World) : (callFunc f args).run P w = .ok (.enter f args) w:=by
 unfold enterable at h
 split at h
 ·rename_i fn hf
  simp only [Bool.and_eq_true,bne_iff_ne,ne_eq] at h
  obtain ⟨h1,h2⟩:=h
  have h1' : ¬ ((fn.name == "runtime.NumGoroutine") = true) := by simpa using h1
  have h2' : ¬ (fn.body.isNone = true):=by cases hb : fn.body<;>simp [hb] at h2 ⊢
  simp only [callFunc,Sem.run_bind,run_program,Result.andThen_ok,hf,h1',if_false,h2',Bool.false_eq_true,Sem.run_pure]
 ·cases h
def Leads (P : Program) (e : Env) (w : World) (tg : Tg) (xs : List Value) (m : Sem Next) : Prop:=
 match tg with
 | .fn f=>m.run P w = .ok (.enter f xs.toArray) w
 | .yld l=>∃ q,e l = some q∧∀ r,w.heap[q.1]? = some (.loop r)→xs.length = r.params.size→m.run P w = .ok (.round q.1 r.fn ((r.params.zip xs.toArray).foldl (fun tmps (t,a)=>tmps.setIfInBounds t a) r.tmps) r.assign r.body) w
theorem find_count {fn : Func} (h : fn.name = "internal/bytealg.CountString") : Extern.find fn = some Extern.BytealgCount.count := by
 obtain ⟨⟩:=fn;subst h;kernel_rfl
theorem find_index {fn : Func} (h : fn.name = "internal/bytealg.IndexByteString") : Extern.find fn = some Extern.BytealgIndexByte.indexByte := by
 obtain ⟨⟩:=fn;subst h;kernel_rfl
theorem next_count {fn : Func} (h : fn.name = "internal/bytealg.CountString") (ho : fn.origin = "") : Extern.findNext fn = none := by
 obtain ⟨⟩:=fn;subst h;subst ho;kernel_rfl
theorem next_index {fn : Func} (h : fn.name = "internal/bytealg.IndexByteString") (ho : fn.origin = "") : Extern.findNext fn = none := by
 obtain ⟨⟩:=fn;subst h;subst ho;kernel_rfl
theorem externA_run {e : Env} {f : FuncId} {aas : List AV} {v : AV} {xs : List Value} (h : externA P f aas = some v) (hx : concL e aas = some xs) (w : World) : ∃ x,conc e v = some x∧(callFunc f xs.toArray).run P w = .ok (.value x) w:=by
 simp only [externA,Option.bind_eq_some_iff] at h
 obtain ⟨fn,hf,h⟩:=h
 split at h
 case isFalse=>cases h
 rename_i hb
 simp only [Bool.and_eq_true,beq_iff_eq] at hb
 obtain ⟨hb,ho⟩:=hb
 split at h
 ·rename_i hn
  simp only [beq_iff_eq] at hn
  split at h<;>simp only [reduceCtorEq,Option.some.injEq] at h
  subst h
  simp only [concL,conc,Option.bind_some,Option.map_some,Option.some.injEq] at hx
  subst hx
  refine ⟨_,rfl,?_⟩
  rw [run_callFunc_extern hf (by rw [hn];decide) hb (next_count hn ho) (find_count hn),Lib.run_countString];rfl
 ·split at h
  ·rename_i hn
   simp only [beq_iff_eq] at hn
   split at h<;>simp only [reduceCtorEq,Option.some.injEq] at h
   subst h
   simp only [concL,conc,Option.bind_some,Option.map_some,Option.some.injEq] at hx
   subst hx
   refine ⟨_,rfl,?_⟩
   rw [run_callFunc_extern hf (by rw [hn];decide) hb (next_index hn ho) (find_index hn),Lib.run_indexByteString];rfl
  ·cases h
theorem externC_run {e : Env} {w : World} {α : Operand→Option AV} {ρ : Operand→Value} (hr : Reads e α ρ) {c : Call} {v : AV} (h : externC P α c = some v) (ty : TypeId) :
  ∃ x,conc e v = some x∧(do let d ← resolve ρ c ty;invoke d.target d.args : Sem Next).run P w = .ok (.value x) w:=by
 unfold externC at h
 split at h
 case h_2=>cases h
 rename_i x hcx
 simp only [Option.bind_eq_some_iff] at h
 obtain ⟨u,hv,us,hus,h⟩:=h
 have hx:=hr x u hv
 have hargs:=argL_map hr hus
 split at h
 case h_2=>cases h
 rename_i f
 simp only [conc,concL,Option.bind_some,Option.map_some,Option.some.injEq] at hx
 obtain ⟨y,hy,hrun⟩:=externA_run (P:=P) h hargs w
 refine ⟨y,hy,?_⟩
 simp only [resolve,hcx,← hx,Deferred.ofValue,Sem.run_bind,Sem.run_pure,Result.andThen_ok,invoke]
 rw [show (c.args.map ρ).toList.toArray = (#[] ++ c.args.map ρ ++ #[] : Array Value) by apply Array.toList_inj.1;simp] at hrun
 exact hrun
theorem calleeA_run {e : Env} {w : World} {α : Operand→Option AV} {ρ : Operand→Value} (hr : Reads e α ρ) {c : Call} {tg : Tg} {aas : List AV} (h : calleeA P α c = some (tg,aas)) (ty : TypeId) :
  ∃ xs,concL e aas = some xs∧Leads P e w tg xs (do let d ← resolve ρ c ty;invoke d.target d.args : Sem Next):=by
 unfold calleeA at h
 split at h
 ·rename_i x hcx
  simp only [Option.bind_eq_some_iff] at h
  obtain ⟨v,hv,us,hus,h⟩:=h
  have hx:=hr x v hv
  have hargs:=argL_map hr hus
  split at h
  ·rename_i f first cap
   split at h<;>simp only [reduceCtorEq,Option.some.injEq,Prod.mk.injEq] at h
   rename_i hen
   obtain ⟨rfl,rfl⟩:=h
   simp only [conc,Option.bind_eq_some_iff,Option.map_eq_some_iff] at hx
   obtain ⟨fs,hfs,cs,hcs,hx⟩:=hx
   refine ⟨_,concL_append (concL_append hfs hargs) hcs,?_⟩
   unfold Leads
   simp only [resolve,hcx,← hx,Deferred.ofValue,Sem.run_bind,Sem.run_pure,Result.andThen_ok,invoke]
   rw [callFunc_run hen]
   congr 2
   apply Array.toList_inj.1;simp
  ·rename_i l
   simp only [Option.some.injEq,Prod.mk.injEq] at h
   obtain ⟨rfl,rfl⟩:=h
   simp only [conc,Option.map_eq_some_iff] at hx
   obtain ⟨p,hp,hx⟩:=hx
   refine ⟨_,hargs,p,hp,fun r hb hl=>?_⟩
   have hgo : (getObj p.1).run P w = .ok (.loop r) w:=by simp [getObj,Sem.run,hb]
   have he : (#[] ++ c.args.map ρ : Array Value) = (c.args.map ρ).toList.toArray:=by apply Array.toList_inj.1;simp
   have hsz : ¬ (((c.args.map ρ).toList.toArray : Array Value).size ≠ r.params.size):=by simp at hl ⊢;exact hl
   simp only [resolve,hcx,← hx,Deferred.ofValue,Sem.run_bind,Sem.run_pure,Result.andThen_ok,invoke,he,Instr.yield,Instr.getLoop,hgo,hsz,if_false]
  ·cases h
 ·rename_i x name hcx
  simp only [Option.bind_eq_some_iff] at h
  obtain ⟨v,hv,us,hus,h⟩:=h
  have hx:=hr x v hv
  have hargs:=argL_map hr hus
  split at h
  ·rename_i t u
   simp only [Option.bind_eq_some_iff] at h
   obtain ⟨inf,hinf,m,hm,h⟩:=h
   split at h
   ·rename_i f d hpath hfun hu
    split at h<;>simp only [reduceCtorEq,Option.some.injEq,Prod.mk.injEq] at h
    rename_i hc
    obtain ⟨rfl,rfl⟩:=h
    simp only [Bool.and_eq_true] at hc
    simp only [conc,Option.map_eq_some_iff] at hx
    obtain ⟨y,hy,hx⟩:=hx
    refine ⟨y :: (c.args.map ρ).toList,by simp [concL,hy,hargs],?_⟩
    unfold Leads
    have hmeth : ∀ n,(method (n + 1) t y name).run P w = .ok (f,y) w:=fun n=>by
     have hm' : inf.methods.find? (fun x=>x.name == name) = some m:=hm
     simp only [method,Sem.run_bind,run_typeInfo w hinf,Result.andThen_ok,hm',hpath,follow,Sem.run_pure,hfun]
     cases d<;>first | (exact absurd hc.1 Bool.false_ne_true) | simp [receiverAt,run_underlying hu,Place.get]
    obtain ⟨n,hn⟩ : ∃ n,P.types.size + Made.depth = n + 1:=⟨P.types.size + Made.depth - 1,by
     have : Made.depth > 0:=by decide
     omega⟩
    simp only [resolve,hcx,← hx,Sem.run_bind,Sem.run_pure,Result.andThen_ok,invoke]
    have hg0 : (#[Value.iface t y] ++ c.args.map ρ)[0]? = some (Value.iface t y):=by rw [Array.getElem?_append_left (by simp)];rfl
    simp only [hg0,callMethod,Sem.run_bind,run_program,Result.andThen_ok,hn,hmeth]
    rw [callFunc_run hc.2]
    congr 2
    apply Array.toList_inj.1
    simp [List.take_of_length_le]
   ·cases h
  ·cases h
 ·cases h
end Go.Abs
namespace Go.Abs
variable {P : Program}
def Panics (P : Program) (m : Machine) (b : Frame) (a : Act) (cs : List Frame) (w : World) (e : Env) (v : AV) : Prop:=
 ∃ x,conc e v = some x∧∃ todo,Steps P m (lone { b.atR a todo with mode:=.panicking [{ v:=x,recovered:=false }] } cs w)
def OpEnds (P : Program) (m : Machine) (b : Frame) (ops : Array Oper) (rest : List Nat) (k : List Item) (a : Act) (cs : List Frame) (w : World) (e : Env) : Option AV→Prop
 | none=>Steps P m (lone (b.atR a (.inRegion ops rest :: k)) cs w)
 | some v=>Panics P m b a cs w e v
theorem OpEnds.of_steps {m m₁ : Machine} {b : Frame} {ops : Array Oper} {rest : List Nat} {k : List Item} {a : Act} {cs : List Frame} {w : World} {e : Env} {p : Option AV} (h : Steps P m m₁) (h' : OpEnds P m₁ b ops rest k a cs w e p) : OpEnds P m b ops rest k a cs w e p:=by
 cases p with
 | none=>exact h.trans h'
 | some v=>obtain ⟨x,hx,todo,hs⟩:=h';exact ⟨x,hx,todo,h.trans hs⟩
theorem conc_undef (e : Env) : conc e (.tup []) = some undef:=by simp [conc,concL,undef]
def XEnds (P : Program) (b : Frame) (cs : List Frame) (a : Act) (ops : Array Oper) (o : Oper) (i : Nat) (rest : List Nat) (k : List Item) (ro : Option Nat) (rc : RC) (e : Env) (s s' : St) (w : World) (r : OR) : Prop:=
  match r with
  | .put v=>∃ e' w',Sim e' s' w'∧Goes e s w e' s' w'∧∃ x,conc e' v = some x∧Steps P (lone (b.atR a (.inRegion ops (i :: rest) :: k)) cs w) (lone (b.atR (a.put o.dst x) (.inRegion ops rest :: k)) cs w')
  | .pan v=>∃ e' w',Sim e' s' w'∧Goes e s w e' s' w'∧Panics P (lone (b.atR a (.inRegion ops (i :: rest) :: k)) cs w) b a cs w' e' v
  | .dfr d=>s' = s∧ro = none∧∃ D,concD e d = some D∧(b.roundOf = none→Steps P (lone (b.atR a (.inRegion ops (i :: rest) :: k)) cs w) (lone (b.atR ({ a with defers:=D :: a.defers }.put o.dst undef) (.inRegion ops rest :: k)) cs w))
  | .rcv v=>s' = s∧ro = none∧(rc = .pend v∨rc = .quiet∧v = .nilIface)∧(execOp a.eval o).run P w = .ok .recover w
theorem opX_run {call : CallF} (hcall : CallOk P call) {e : Env} {s s' : St} {w : World} {b : Frame} {cs : List Frame} {a : Act} {ops : Array Oper} {o : Oper} {i : Nat} {α : Operand→Option AV} {ro : Option Nat} {rc : RC} {r : OR}
  (h : opX P call o α ro rc s = some (r,s')) (hs : Sim e s w) (hrd : Reads e α a.eval) (hf : Free e s.next s'.next) (ho : ops[i]? = some o) (hw' : Region.wanted o (yielded ops a.tmps) = true) (rest : List Nat) (k : List Item) :
  XEnds P b cs a ops o i rest k ro rc e s s' w r:=by
 unfold opX at h
 split at h
 ·rename_i v hv
  simp only [Option.some.injEq,Prod.mk.injEq] at h
  obtain ⟨rfl,rfl⟩:=h
  obtain ⟨x,hx,hrun⟩:=pureOp_run (P:=P) hrd hv w
  have hnd : ∀ c,o.op ≠ .defer c:=fun c hc=>by simp [pureOp,hc] at hv
  exact ⟨e,w,hs,Goes.refl ..,x,hx,.one (stepA_value ho hw' (by rw [Oper.semAt_eq _ _ _ hnd];exact hrun))⟩
 split at h
 ·rename_i r s1 hv
  simp only [Option.some.injEq,Prod.mk.injEq] at h
  obtain ⟨rfl,rfl⟩:=h
  have hnd : ∀ c,o.op ≠ .defer c:=fun c hc=>by simp [heapOp,hc] at hv
  obtain ⟨e',w',g1,g2,g3⟩:=heapOp_run (P:=P) hs hrd hv hf
  cases r with
  | none =>
   simp only at g3
   exact ⟨e',w',g1,g2,undef,conc_undef e',.one (stepA_skip ho hw' (by rw [Oper.semAt_eq _ _ _ hnd];exact g3))⟩
  | some v =>
   simp only at g3
   obtain ⟨x,hx,hrun⟩:=g3
   exact ⟨e',w',g1,g2,x,hx,.one (stepA_value ho hw' (by rw [Oper.semAt_eq _ _ _ hnd];exact hrun))⟩
 split at h
 ·rename_i args ats hop
  split at h
  case h_3=>cases h
  ·rename_i v
   simp only [Option.some.injEq,Prod.mk.injEq] at h
   obtain ⟨rfl,rfl⟩:=h
   exact ⟨rfl,rfl,.inl rfl,by simp [execOp,hop,resolve,invoke,builtin]⟩
  ·simp only [Option.some.injEq,Prod.mk.injEq] at h
   obtain ⟨rfl,rfl⟩:=h
   exact ⟨rfl,rfl,.inr ⟨rfl,rfl⟩,by simp [execOp,hop,resolve,invoke,builtin]⟩
 ·rename_i c _ hop
  have hnd0 : ∀ c,o.op ≠ .defer c:=fun c hc=>by rw [hop] at hc;cases hc
  split at h
  case h_2 =>
   simp only [Option.map_eq_some_iff,Prod.mk.injEq] at h
   obtain ⟨v,hv,rfl,rfl⟩:=h
   obtain ⟨x,hx,hrun⟩:=externC_run (P:=P) (w:=w) hrd hv o.type
   exact ⟨e,w,hs,Goes.refl ..,x,hx,.one (stepA_value ho hw' (by rw [Oper.semAt_eq _ _ _ hnd0];simp only [execOp,hop];exact hrun))⟩
  rename_i tg aas hc
  simp only [Option.map_eq_some_iff] at h
  obtain ⟨⟨r1,s1⟩,hr,h⟩:=h
  obtain ⟨xs,hxs,hlead⟩:=calleeA_run (P:=P) (w:=w) hrd hc o.type
  have hnd : ∀ c,o.op ≠ .defer c:=fun c hc=>by rw [hop] at hc;cases hc
  simp only [Prod.mk.injEq] at h
  obtain ⟨hr0,rfl⟩:=h
  obtain ⟨e',w',g1,g2,g3⟩:=hcall _ _ _ _ _ hr e w hs hf xs hxs (b.atR a (.inRegion ops (i :: rest) :: k)) cs
  have key : ∃ m,Steps P (lone (b.atR a (.inRegion ops (i :: rest) :: k)) cs w) m∧EndsAt P m (b.atR a (.inRegion ops (i :: rest) :: k)) cs e' r1 w':=by
   cases tg with
   | fn f =>
    refine ⟨_,.one (stepA_enter ho hw' ?_),g3⟩
    rw [Oper.semAt_eq _ _ _ hnd];simp only [execOp,hop];exact hlead
   | yld l =>
    obtain ⟨q,hq,hl⟩:=hlead
    obtain ⟨rl,h1,h2,h3⟩:=g3 q hq
    refine ⟨_,.one (stepA_round ho hw' ?_),h3⟩
    rw [Oper.semAt_eq _ _ _ hnd];simp only [execOp,hop];exact hl rl h1 h2
  obtain ⟨m,hm,hend⟩:=key
  cases r1 with
  | ret v =>
   subst hr0
   obtain ⟨x,hx,hst⟩:=hend
   have hfin : (b.atR a (.inRegion ops (i :: rest) :: k)).finish x = b.atR (a.put o.dst x) (.inRegion ops rest :: k):=by rw [Frame.finish_atR,ho];rfl
   rw [hfin] at hst
   exact ⟨e',w',g1,g2,x,hx,hm.trans hst⟩
  | pan v =>
   subst hr0
   obtain ⟨x,hx,hst⟩:=hend
   rw [Frame.raise_atR] at hst
   exact ⟨e',w',g1,g2,x,hx,_,hm.trans hst⟩
 ·rename_i x hop
  simp only [Option.bind_eq_some_iff] at h
  obtain ⟨v,hv,h⟩:=h
  have hx:=hrd x v hv
  have hnd : ∀ c,o.op ≠ .defer c:=fun c hc=>by rw [hop] at hc;cases hc
  split at h
  case h_2=>cases h
  rename_i t u
  simp only [Option.some.injEq,Prod.mk.injEq] at h
  obtain ⟨rfl,rfl⟩:=h
  refine ⟨e,w,hs,Goes.refl ..,_,hx,_,.one (stepA_panic ho hw' ?_)⟩
  simp only [conc,Option.map_eq_some_iff] at hx
  obtain ⟨y,hy,hx⟩:=hx
  rw [Oper.semAt_eq _ _ _ hnd]
  simp [execOp,hop,← hx,Instr.panic]
 ·rename_i c hop
  split at h
  case h_2=>cases h
  rename_i x hcal
  simp only [Option.bind_eq_some_iff] at h
  obtain ⟨v,hv,aas,has,h⟩:=h
  have hx:=hrd x v hv
  have hargs:=argL_map hrd has
  split at h
  case h_2=>cases h
  rename_i f first cap
  split at h<;>simp only [reduceCtorEq,Option.some.injEq,Prod.mk.injEq] at h
  obtain ⟨rfl,rfl⟩:=h
  simp only [conc,Option.bind_eq_some_iff,Option.map_eq_some_iff] at hx
  obtain ⟨fs,hfs,cps,hcps,hx⟩:=hx
  refine ⟨rfl,rfl,{ target:=.fn (.func f) cps.toArray,args:=fs.toArray ++ c.args.map a.eval },?_,fun hb=>.one (stepA_defer ho hw' ?_)⟩
  ·simp only [concD,concL_append hfs hargs,hcps,Option.bind_some,Option.map_some,Option.some.injEq,Deferred.mk.injEq,true_and]
   apply Array.toList_inj.1;simp
  ·rw [hb,Oper.semAt_none]
   simp [execOp,hop,resolve,hcal,← hx,Deferred.ofValue]
 ·cases h
theorem opA_run {call : CallF} (hcall : CallOk P call) {e : Env} {s s' : St} {w : World} {fr fr' : Fr} {b : Frame} {cs0 cs : List Frame} {a : Act} {ops : Array Oper} {o : Oper} {i : Nat} {p : Option AV}
  (h : opA P call ops o fr s = some (p,fr',s')) (hs : Sim e s w) (hfr : FR e fr b cs0 a cs) (hf : Free e s.next s'.next) (ho : ops[i]? = some o) (rest : List Nat) (k : List Item) :
  ∃ e' w' a' cs',Sim e' s' w'∧Goes e s w e' s' w'∧FR e' fr' b cs0 a' cs'∧OpEnds P (lone (b.atR a (.inRegion ops (i :: rest) :: k)) cs w) b ops rest k a' cs' w' e' p:=by
 have hrd:=hfr.reads
 obtain ⟨ts,hts,hta⟩:=hfr.tm
 have hwe : wantedA ops o fr.tm = Region.wanted o (yielded ops a.tmps):=by rw [hta];exact wantedA_eq hts
 unfold opA at h
 split at h
 case isFalse hw =>
  simp only [Option.some.injEq,Prod.mk.injEq] at h
  obtain ⟨rfl,rfl,rfl⟩:=h
  refine ⟨e,w,a.put o.dst undef,cs,hs,Goes.refl ..,hfr.put o.dst (conc_undef e),?_⟩
  have:=stepR_op_skip (P:=P) (b:=b) (a:=a) (k:=k) (cs:=cs) (w:=w) (ops:=ops) (i:=i) (rest:=rest) (by simp only [ho,Option.map_some,Option.getD_some,← hwe];simpa using hw)
  simp only [ho,Option.bind_some] at this
  exact .one this
 rename_i hw
 have hw' : Region.wanted o (yielded ops a.tmps) = true:=hwe ▸ hw
 simp only [Option.map_eq_some_iff] at h
 obtain ⟨⟨r,s1⟩,hr,h⟩:=h
 have hs1 : s1 = s':=by cases r<;>simp only [Prod.mk.injEq] at h<;>exact h.2.2
 subst hs1
 have hx:=opX_run (b:=b) (cs:=cs) hcall hr hs hrd hf ho hw' rest k
 cases r with
 | put v =>
  simp only [Prod.mk.injEq] at h
  obtain ⟨rfl,rfl,_⟩:=h
  obtain ⟨e',w',g1,g2,x,hx,hst⟩:=hx
  exact ⟨e',w',a.put o.dst x,cs,g1,g2,(hfr.le g2.le).put o.dst hx,hst⟩
 | pan v =>
  simp only [Prod.mk.injEq] at h
  obtain ⟨rfl,rfl,_⟩:=h
  obtain ⟨e',w',g1,g2,hp⟩:=hx
  exact ⟨e',w',a,cs,g1,g2,hfr.le g2.le,hp⟩
 | dfr d =>
  simp only [Prod.mk.injEq] at h
  obtain ⟨rfl,rfl,_⟩:=h
  obtain ⟨rfl,hro,D,hD,hst⟩:=hx
  obtain ⟨_,hdf,hr4,hr5⟩:=hfr
  simp only [hro] at hr4
  exact ⟨e,w,_,cs,hs,Goes.refl ..,⟨put_tm (a:={ a with defers:=_ :: a.defers }) hts hta o.dst (conc_undef e),by rw [put_defers];simp [concDL,hD,hdf],by simp only [hro];exact hr4,hr5⟩,hst hr4⟩
 | rcv v =>
  simp only [Prod.mk.injEq] at h
  obtain ⟨rfl,rfl,_⟩:=h
  obtain ⟨rfl,hro,hrc,hrun⟩:=hx
  obtain ⟨_,hdf,hr4,hr5⟩:=hfr
  simp only [hro] at hr4
  rcases hrc with hrc | ⟨hrc,rfl⟩
  case inr =>
   simp only [hrc,CsOk] at hr5
   obtain ⟨hkind,c,cr,hc0,hm,hcs⟩:=hr5
   refine ⟨e,w,a.put o.dst .nilIface,cs,hs,Goes.refl ..,⟨put_tm hts hta o.dst (v:=.nilIface) rfl,by rw [put_defers];exact hdf,by simp only [hro];exact hr4,?_⟩,?_⟩
   ·simp only [hrc,RC.got,CsOk];exact ⟨hkind,c,cr,hc0,hm,hcs⟩
   ·refine .one (stepA_recover0 ho hw' hrun hr4 ?_)
    rw [hcs,hc0]
    simp [tryRecover,Frame.atR,hkind,hm]
  simp only [hrc,CsOk] at hr5
  obtain ⟨hkind,c,cr,x,hc0,hx,hcs⟩:=hr5
  subst hcs
  simp only [hrc,RC.got]
  refine ⟨e,w,a.put o.dst x,{ c with mode:=.panicking [{ v:=x,recovered:=true }] } :: cr,hs,Goes.refl ..,⟨put_tm hts hta o.dst hx,by rw [put_defers];exact hdf,by simp only [hro];exact hr4,?_⟩,?_⟩
  ·exact ⟨hkind,c,cr,x,hc0,hx,rfl⟩
  ·refine .one (stepA_recover ho hw' hrun hr4 ?_)
   simp [tryRecover,Frame.atR,hkind]
noncomputable def evOps (P : Program) (call : CallF) (ops : Array Oper) : List Oper→Fr→St→Option (Option AV × Fr × St)
 | [],fr,s=>some (none,fr,s)
 | o :: r,fr,s=>(opA P call ops o fr s).bind fun x=>match x with
  | (some v,fr1,s1)=>some (some v,fr1,s1)
  | (none,fr1,s1)=>(evOps P call ops r fr1 s1).bind fun y=>if s1.next≤y.2.2.next then some y else none
theorem evOps_run {call : CallF} (hcall : CallOk P call) {ops : Array Oper} : ∀ (l : List Oper) (n : Nat),(∀ j,l[j]? = ops[n + j]?)→∀ {e : Env} {s s' : St} {w : World} {fr fr' : Fr} {b : Frame} {cs0 cs : List Frame} {a : Act} {p : Option AV},
  evOps P call ops l fr s = some (p,fr',s')→Sim e s w→FR e fr b cs0 a cs→Free e s.next s'.next→∀ (k : List Item),
  ∃ e' w' a' cs',Sim e' s' w'∧Goes e s w e' s' w'∧FR e' fr' b cs0 a' cs'∧OpEnds P (lone (b.atR a (.inRegion ops (List.range' n l.length) :: k)) cs w) b ops [] k a' cs' w' e' p
 | [],n,hl,e,s,s',w,fr,fr',b,cs0,cs,a,p,h,hs,hfr,hf,k=>by
  simp only [evOps,Option.some.injEq,Prod.mk.injEq] at h
  obtain ⟨rfl,rfl,rfl⟩:=h
  exact ⟨e,w,a,cs,hs,Goes.refl ..,hfr,Steps.refl P _⟩
 | o :: l,n,hl,e,s,s',w,fr,fr',b,cs0,cs,a,p,h,hs,hfr,hf,k=>by
  have ho : ops[n]? = some o:=by simpa using (hl 0).symm
  simp only [evOps,Option.bind_eq_some_iff] at h
  obtain ⟨⟨p1,fr1,s1⟩,h1,h⟩:=h
  simp only [List.length_cons,List.range'_succ]
  cases p1 with
  | some v =>
   simp only [Option.some.injEq,Prod.mk.injEq] at h
   obtain ⟨rfl,rfl,rfl⟩:=h
   exact opA_run hcall h1 hs hfr hf ho _ k
  | none =>
   simp only [Option.bind_eq_some_iff] at h
   obtain ⟨⟨p2,fr2,s2⟩,h2,h⟩:=h
   split at h<;>simp only [reduceCtorEq,Option.some.injEq,Prod.mk.injEq] at h
   rename_i hle
   obtain ⟨rfl,rfl,rfl⟩:=h
   simp only at hle
   obtain ⟨e1,w1,a1,cs1,g1,g2,g3,g4⟩:=opA_run hcall h1 hs hfr (fun m hm1 hm2=>hf m hm1 (Nat.lt_of_lt_of_le hm2 hle)) ho (List.range' (n + 1) l.length) k
   have hf1 : Free e1 s1.next s2.next:=g2.free (fun m hm1 hm2=>hf m (Nat.le_trans g2.next hm1) hm2) (Nat.le_refl _)
   obtain ⟨e2,w2,a2,cs2,q1,q2,q3,q4⟩:=evOps_run hcall l (n + 1) (fun j=>by have:=hl (j + 1);simpa [Nat.add_assoc,Nat.add_comm 1 j] using this) h2 g1 g3 hf1 k
   exact ⟨e2,w2,a2,cs2,q1,g2.trans q2,q3,OpEnds.of_steps g4 q4⟩
end Go.Abs
namespace Go.Abs
noncomputable def setAll (h : Tr Blk) (g : Tr Blk) (L : List Nat) : Tr Blk:=L.foldl (fun h n=>h.set n (g.get n)) h
theorem setAll_get (g : Tr Blk) : ∀ (L : List Nat) (h : Tr Blk) (n : Nat),(setAll h g L).get n = if n ∈ L then g.get n else h.get n
 | [],h,n=>by simp [setAll]
 | m :: L,h,n=>by
  have:=setAll_get g L (h.set m (g.get m)) n
  simp only [setAll,List.foldl_cons] at this ⊢
  rw [this,Tr.get_set]
  by_cases h1 : n ∈ L
  ·simp [h1]
  ·by_cases h2 : n = m
   ·subst h2;simp [h1]
   ·simp [h1,h2]
noncomputable def St.over (T I : St) : St:={ heap:=setAll T.heap I.heap I.log,next:=I.next,log:=I.log ++ T.log }
def SubH (I T : St) : Prop:=∀ n x,I.heap.get n = some x→T.heap.get n = some x
theorem over_sim {e e' : Env} {T I I' : St} {w w' : World} (hT : Sim e T w) (hsub : SubH I T) (hg : Goes e I w e' I' w') (hS : Sim e' I' w') (hd : ∀ n,n ∈ I'.log→T.heap.get n = I.heap.get n) :
  Sim e' (T.over I') w'∧(∀ b,b < w.heap.size→Own e' (T.over I') b→Own e T b)∧(∀ b,b < w.heap.size→Met e' (T.over I') b→Met e T b)∧(∀ b,b < w.heap.size→¬ Own e T b→w'.heap[b]? = w.heap[b]?):=by
 have ownsub : ∀ b,Own e I b→Own e T b:=fun b ⟨n,x,q,h1,h2⟩=>⟨n,x,q,hsub n x h1,h2⟩
 have metsub : ∀ b,Met e I b→Met e T b:=fun b ⟨n,x,q,h1,h2⟩=>⟨n,x,q,hsub n x h1,h2⟩
 have part : ∀ n x,(T.over I').heap.get n = some x→I'.heap.get n = some x∨(I.heap.get n = none∧T.heap.get n = some x):=by
  intro n x hx
  simp only [St.over,setAll_get] at hx
  split at hx
  ·exact .inl hx
  ·rename_i hn
   cases hi : I.heap.get n with
   | none=>exact .inr ⟨rfl,hx⟩
   | some y =>
    have:=hsub n y hi
    rw [hx] at this;cases this
    exact .inl ((hg.log n hn).trans hi)
 have aside : ∀ n x b q,I.heap.get n = none→T.heap.get n = some x→e n = some (b,q)→¬ Own e I b:=by
  rintro n x b q hi hx he ⟨m,y,q',hm,hr,hem⟩
  have:=hT.inj m n b q' q _ _ (hsub m y hm) hr hx hem he
  subst this;rw [hi] at hm;cases hm
 have key : ∀ n x m y b q q',I.heap.get n = none→T.heap.get n = some x→I'.heap.get m = some y→(x.rw∨y.rw)→e' n = some (b,q)→e' m = some (b,q')→False:=by
  intro n x m y b q q' hi hx hy hr en em
  obtain ⟨b1,q1,ob,he,_,_⟩:=hT.at_ n x hx
  have:=hg.le n _ he
  rw [en] at this;cases this
  have hb:=hT.bound n _ _ he
  rcases hr with hr | hr
  ·obtain ⟨m0,y0,q0,h1,h2⟩:=hg.met _ hb ⟨m,y,q',hy,em⟩
   have:=hT.inj n m0 _ _ _ _ _ hx hr (hsub m0 y0 h1) he h2
   subst this;rw [hi] at h1;cases h1
  ·exact aside n x _ _ hi hx he (hg.own _ hb ⟨m,y,q',hy,hr,em⟩)
 refine ⟨⟨?_,?_,hS.bound⟩,?_,?_,fun b hb no=>hg.frame b hb fun o=>no (ownsub b o)⟩
 ·intro n x hx
  rcases part n x hx with h | ⟨hi,h⟩
  ·exact hS.at_ n x h
  ·obtain ⟨b,q,ob,he,hb,hr⟩:=hT.at_ n x h
   refine ⟨b,q,ob,hg.le _ _ he,?_,hr.le hg.le⟩
   rw [hg.frame b (hT.bound n b q he) (aside n x b q hi h he)];exact hb
 ·intro n m b q q' x y hx hxr hy en em
  rcases part n x hx with h1 | ⟨i1,h1⟩<;>rcases part m y hy with h2 | ⟨i2,h2⟩
  ·exact hS.inj n m b q q' _ _ h1 hxr h2 en em
  ·exact (key m y n x b q' q i2 h2 h1 (.inr hxr) em en).elim
  ·exact (key n x m y b q q' i1 h1 h2 (.inl hxr) en em).elim
  ·obtain ⟨b1,q1,_,he1,_,_⟩:=hT.at_ n x h1
   obtain ⟨b2,q2,_,he2,_,_⟩:=hT.at_ m y h2
   have a1:=hg.le n _ he1
   have a2:=hg.le m _ he2
   rw [en] at a1;rw [em] at a2;cases a1;cases a2
   exact hT.inj n m b q q' _ _ h1 hxr h2 he1 he2
 ·rintro b hb ⟨n,x,q,hx,hr,hn⟩
  rcases part n x hx with h | ⟨hi,h⟩
  ·exact ownsub b (hg.own b hb ⟨n,x,q,h,hr,hn⟩)
  ·obtain ⟨b1,q1,_,he,_,_⟩:=hT.at_ n x h
   have:=hg.le n _ he
   rw [hn] at this;cases this
   exact ⟨n,x,q,h,hr,he⟩
 ·rintro b hb ⟨n,x,q,hx,hn⟩
  rcases part n x hx with h | ⟨hi,h⟩
  ·exact metsub b (hg.met b hb ⟨n,x,q,h,hn⟩)
  ·obtain ⟨b1,q1,_,he,_,_⟩:=hT.at_ n x h
   have:=hg.le n _ he
   rw [hn] at this;cases this
   exact ⟨n,x,q,h,he⟩
mutual
def namesA : AV→List Nat→List Nat
 | .ptr n _,acc | .slice n _ _ _,acc | .opn n _,acc | .yld n,acc | .map n,acc=>n :: acc
 | .func _ aas cs,acc=>namesL aas (namesL cs acc)
 | .iface _ v,acc=>namesA v acc
 | .agg cs,acc | .tup cs,acc=>namesL cs acc
 | _,acc=>acc
def namesL : List AV→List Nat→List Nat
 | [],acc=>acc
 | v :: vs,acc=>namesA v (namesL vs acc)
end
def namesM : List (AV × AV × Nat)→List Nat→List Nat
 | [],acc=>acc
 | (k,v,_) :: es,acc=>namesA k (namesA v (namesM es acc))
def namesB : Option Blk→List Nat→List Nat
 | some (.cells _ _ cs),acc=>namesL cs acc
 | some (.map es _),acc=>namesM es acc
 | some (.ro _ _ cs),acc=>namesL cs acc
 | some (.loop _ _ tm _ _ _ d),acc=>d :: namesL tm acc
 | _,acc=>acc
noncomputable def reach (h : Tr Blk) (c : Nat) : Nat→List Nat→Tr Unit→List Nat→List Nat
 | 0,_,_,acc=>acc
 | _ + 1,[],_,acc=>acc
 | k + 1,n :: work,seen,acc=>if n < c then reach h c k work seen acc else
  match seen.get n with
  | some _=>reach h c k work seen acc
  | none=>reach h c k (namesB (h.get n) work) (seen.set n (some ())) (n :: acc)
def namesR : Rt→List Nat
 | .ret v=>namesA v []
 | .pan v=>namesA v []
noncomputable def collect (s I : St) (r : Rt) : St:=
 let old:=I.log.filter fun n=>decide (n < s.next) || decide (I.next≤n)
 let L:=old ++ reach I.heap s.next 100000 (old.foldr (fun n acc=>namesB (I.heap.get n) acc) (namesR r)) .leaf []
 { heap:=setAll s.heap I.heap L,next:=I.next,log:=L ++ s.log }
theorem collect_run {e e' : Env} {s I : St} {w w' : World} {r : Rt} (hs : Sim e s w) (hf : Free e s.next I.next) (hg : Goes e { s with log:=[] } w e' I w') (hS : Sim e' I w') :
  Sim e' (collect s I r) w'∧Goes e s w e' (collect s I r) w':=by
 have hsub : SubH { s with log:=[] } s:=fun _ _ h=>h
 obtain ⟨g1,g2,g2m,g3⟩:=over_sim (T:=s) (I:={ s with log:=[] }) hs hsub hg hS (fun _ _=>rfl)
 have sub : SubH (collect s I r) (s.over I):=by
  intro n x hx
  simp only [collect,St.over,setAll_get,List.mem_append,List.mem_filter] at hx ⊢
  by_cases hn : n ∈ I.log
  ·rw [if_pos hn]
   split at hx
   ·exact hx
   ·rename_i hno
    simp only [not_or,not_and,Bool.or_eq_true,decide_eq_true_eq] at hno
    have h1:=hno.1 hn
    have : e n = none:=hf n (by omega) (by omega)
    rw [hs.none_of_free this] at hx;cases hx
  ·rw [if_neg hn]
   split at hx
   ·have:=hg.log n hn
    simp only at this
    rw [this] at hx;exact hx
   ·exact hx
 refine ⟨g1.sub sub,⟨hg.le,hg.rng,?_,?_,g3,hg.size,hg.os,hg.tape,hg.output,?_,?_,hg.next⟩⟩
 ·rintro b hb ⟨n,x,q,hx,hr,hn⟩
  exact g2 b hb ⟨n,x,q,sub n x hx,hr,hn⟩
 ·rintro b hb ⟨n,x,q,hx,hn⟩
  exact g2m b hb ⟨n,x,q,sub n x hx,hn⟩
 ·intro n hn
  simp only [collect,List.mem_append,not_or] at hn ⊢
  rw [setAll_get,if_neg]
  simp only [List.mem_append,not_or]
  exact hn.1
 ·intro n hn
  simp only [collect,List.mem_append]
  exact .inr hn
end Go.Abs
namespace Go.Abs
structure DE where
 o : Oper
 m : Nat
 v : AV
 hp : Tr Blk
 lg : List Nat
 c : Nat
 c' : Nat
 ih : Tr Blk
noncomputable def foldH (S : Nat→Bool) (h : Tr Blk) : List DE→Tr Blk
 | []=>h
 | x :: r=>if S r.length then setAll (foldH S h r) x.hp x.lg else foldH S h r
noncomputable def foldT (S : Nat→Bool) (tm : List AV) : List DE→List AV
 | []=>tm
 | x :: r=>if S r.length then putA x.o.dst x.v (foldT S tm r) else foldT S tm r
def atE : List DE→Nat→Option DE
 | [],_=>none
 | x :: r,i=>if i = r.length then some x else atE r i
def ancOf (E : List DE) : List Edge→Option Nat
 | []=>some 0
 | e :: es=>(ancOf E es).bind fun m=>if Region.binds .any e then (atE E e.on).map fun y=>(m ||| 2 ^ e.on) ||| y.m else some m
noncomputable def argM (L : List Tmp) (tm : List AV) : Operand→Option AV
 | .tmp t=>if L.contains t then some (getR (.tup []) tm t) else none
 | x=>arg tm x
def atR : List (Oper × Nat)→Nat→Option (Oper × Nat)
 | [],_=>none
 | x :: r,i=>if i = r.length then some x else atR r i
def ancR (R : List (Oper × Nat)) : List Edge→Option Nat
 | []=>some 0
 | e :: es=>(ancR R es).bind fun m=>if Region.binds .any e then (atR R e.on).map fun y=>(m ||| 2 ^ e.on) ||| y.2 else some m
def apartR (ops : Array Oper) (o : Oper) (m : Nat) : List (Oper × Nat)→Bool
 | []=>true
 | y :: r=>(m.testBit r.length || Oper.apart ops o y.1) && apartR ops o m r
def infoGo (ops : Array Oper) : List Oper→List (Oper × Nat)→Option (List (Oper × Nat × List Tmp))
 | [],_=>some []
 | o :: l,R=>(ancR R o.after.toList).bind fun m=>if apartR ops o m R then (infoGo ops l ((o,m) :: R)).map ((o,m,o.looksAt ops) :: ·) else none
noncomputable def dynB (x y : DE) : Bool:=
 match x.lg,y.lg with
 | [],[]=>true
 | _,_=>x.lg.all (fun n=>(y.ih.get n).isNone) && y.lg.all (fun n=>(x.ih.get n).isNone) && y.lg.all (fun n=>!x.lg.contains n)
noncomputable def dynsB (x : DE) : List DE→Bool
 | []=>true
 | y :: r=>(x.m.testBit r.length || dynB x y) && dynsB x r
noncomputable def pairB (ops : Array Oper) (x y : DE) : Bool:=
 x.lg.all (fun n=>(y.ih.get n).isNone) && y.lg.all (fun n=>(x.ih.get n).isNone) && y.lg.all (fun n=>!x.lg.contains n) && Oper.apart ops x.o y.o
noncomputable def stepDE (P : Program) (call : CallF) (ops : Array Oper) (h : Tr Blk) (o : Oper) (m : Nat) (L : List Tmp) (t : List AV) (E : List DE) (c : Nat) : Option DE:=
 (if wantedA ops o t then
  match opX P call o (argM L t) (some 0) .no ⟨foldH m.testBit h E,c,[]⟩ with
  | some (.put v,I)=>if c≤I.next then some ⟨o,m,v,I.heap,I.log,c,I.next,foldH m.testBit h E⟩ else none
  | _=>none
 else some ⟨o,m,.tup [],foldH m.testBit h E,[],c,c,foldH m.testBit h E⟩).bind fun x=>if dynsB x E then some x else none
noncomputable def evDrawL (P : Program) (call : CallF) (ops : Array Oper) (h : Tr Blk) : List (Oper × Nat × List Tmp)→List AV→List DE→Nat→Option (List DE × List AV × Nat)
 | [],t,E,c=>some (E,t,c)
 | (o,m,L) :: l,t,E,c=>(stepDE P call ops h o m L t E c).bind fun x=>evDrawL P call ops h l (putA x.o.dst x.v t) (x :: E) x.c'
def logsOf : List DE→List Nat→List Nat
 | [],l=>l
 | x :: r,l=>x.lg ++ logsOf r l
noncomputable def evDraw (P : Program) (call : CallF) (ops : Array Oper) (fr : Fr) (s : St) : Option (Fr × St):=
 (infoGo ops ops.toList []).bind fun inf=>(evDrawL P call ops s.heap inf fr.tm [] s.next).map fun (E,t,c) =>
  ({ fr with tm:=t },{ heap:=foldH (fun _=>true) s.heap E,next:=c,log:=logsOf E s.log })
structure Runs (P : Program) (call : CallF) (ops : Array Oper) (h : Tr Blk) (tm : List AV) (x : DE) (r : List DE) : Prop where
 anc : ancOf r x.o.after.toList = some x.m
 ih : x.ih = foldH x.m.testBit h r
 run : (wantedA ops x.o (foldT x.m.testBit tm r) = true∧opX P call x.o (argM (x.o.looksAt ops) (foldT x.m.testBit tm r)) (some 0) .no ⟨x.ih,x.c,[]⟩ = some (.put x.v,⟨x.hp,x.c',x.lg⟩)∧x.c≤x.c')∨
  (wantedA ops x.o (foldT x.m.testBit tm r) = false∧x.v = .tup []∧x.lg = []∧x.c' = x.c)
 pairs : ∀ i y,atE r i = some y→x.m.testBit i = false→pairB ops x y = true
def Good (P : Program) (call : CallF) (ops : Array Oper) (h : Tr Blk) (tm : List AV) (c0 : Nat) : List DE→Nat→Prop
 | [],c=>c = c0
 | x :: r,c=>Good P call ops h tm c0 r x.c∧c = x.c'∧ops[r.length]? = some x.o∧Runs P call ops h tm x r
theorem atE_lt : ∀ {E : List DE} {i : Nat} {x : DE},atE E i = some x→i < E.length
 | [],_,_,h=>by simp [atE] at h
 | x :: r,i,y,h=>by
  simp only [atE] at h
  split at h
  ·subst i;simp
  ·have:=atE_lt h;simp;omega
theorem dynB_eq {x y : DE} (h : dynB x y = true) : (x.lg.all (fun n=>(y.ih.get n).isNone) && y.lg.all (fun n=>(x.ih.get n).isNone) && y.lg.all (fun n=>!x.lg.contains n)) = true:=by
 unfold dynB at h
 split at h
 ·rename_i h1 h2;simp [h1,h2]
 ·exact h
def pr (x : DE) : Oper × Nat:=(x.o,x.m)
theorem atR_map : ∀ (E : List DE) (i : Nat),atR (E.map pr) i = (atE E i).map pr
 | [],_=>rfl
 | x :: r,i=>by
  simp only [List.map_cons,atR,atE,List.length_map]
  split
  ·rfl
  ·exact atR_map r i
theorem ancR_map (E : List DE) : ∀ es : List Edge,ancR (E.map pr) es = ancOf E es
 | []=>rfl
 | e :: es=>by
  simp only [ancR,ancOf,ancR_map E es,atR_map,Option.map_map]
  rfl
theorem pairs_spec {ops : Array Oper} {x : DE} : ∀ {r : List DE},apartR ops x.o x.m (r.map pr) = true→dynsB x r = true→∀ i y,atE r i = some y→x.m.testBit i = false→pairB ops x y = true
 | [],_,_,i,y,h,_=>by simp [atE] at h
 | z :: r,hp,hd,i,y,h,hb=>by
  simp only [List.map_cons,apartR,List.length_map,Bool.and_eq_true,Bool.or_eq_true] at hp
  simp only [dynsB,Bool.and_eq_true,Bool.or_eq_true] at hd
  simp only [atE] at h
  split at h
  ·subst i;simp only [Option.some.injEq] at h;subst h
   rcases hp.1 with h1 | h1
   ·rw [hb] at h1;cases h1
   ·rcases hd.1 with h2 | h2
    ·rw [hb] at h2;cases h2
    ·unfold pairB;rw [dynB_eq h2,Bool.true_and];exact h1
  ·exact pairs_spec hp.2 hd.2 i y h hb
theorem putA_len (d : Option Tmp) (v : AV) (tm : List AV) : (putA d v tm).length = tm.length:=by cases d<;>simp [putA,setR_eq]
theorem putA_at {d : Option Tmp} {v : AV} {tm tm' : List AV} {t : Nat} (hl : tm.length = tm'.length) (ht : tm[t]? = tm'[t]?) : (putA d v tm)[t]? = (putA d v tm')[t]?:=by
 cases d with
 | none=>exact ht
 | some d =>
  simp only [putA,setR_eq,List.getElem?_set]
  split
  ·rw [hl]
  ·exact ht
theorem foldT_len (S : Nat→Bool) (tm : List AV) : ∀ (E : List DE),(foldT S tm E).length = tm.length
 | []=>rfl
 | x :: r=>by
  simp only [foldT]
  split
  ·rw [putA_len,foldT_len S tm r]
  ·exact foldT_len S tm r
theorem foldT_looks {m : Nat} {tm : List AV} {t : Nat} : ∀ {E : List DE},(∀ i y,atE E i = some y→m.testBit i = false→y.o.dst ≠ some t)→(foldT (fun _=>true) tm E)[t]? = (foldT m.testBit tm E)[t]?
 | [],_=>rfl
 | x :: r,h1=>by
  have ih:=foldT_looks (m:=m) (tm:=tm) (E:=r) (fun i y hy=>h1 i y (by simp only [atE];rw [if_neg (by have:=atE_lt hy;omega)];exact hy))
  have hx : atE (x :: r) r.length = some x:=by simp [atE]
  simp only [foldT,if_true]
  cases hM : m.testBit r.length
  ·simp only [Bool.false_eq_true,if_false]
   have hd:=h1 _ _ hx hM
   rw [← ih]
   cases hdst : x.o.dst with
   | none=>rfl
   | some d =>
    simp only [putA,setR_eq]
    rw [List.getElem?_set_ne]
    intro e0;exact hd (by rw [hdst,e0])
  ·simp only [if_true];exact putA_at (by rw [foldT_len,foldT_len]) ih
variable {P : Program} {call : CallF} {ops : Array Oper} {h : Tr Blk} {tm : List AV} {c0 : Nat}
theorem stepDE_runs {o : Oper} {m : Nat} {E : List DE} {c : Nat} {x : DE} (hx : stepDE P call ops h o m (o.looksAt ops) (foldT (fun _=>true) tm E) E c = some x) (hanc : ancR (E.map pr) o.after.toList = some m) (hap : apartR ops o m (E.map pr) = true) :
  x.o = o∧x.m = m∧x.c = c∧Runs P call ops h tm x E:=by
 have hap' : ∀ i y,atE E i = some y→m.testBit i = false→∀ d,y.o.dst = some d→d ∉ o.looksAt ops:=by
  intro i y hy hb d hd
  have : ∀ {r : List DE},apartR ops o m (r.map pr) = true→∀ i y,atE r i = some y→m.testBit i = false→Oper.apart ops o y.o = true:=by
   intro r
   induction r with
   | nil=>intro _ i y hy;simp [atE] at hy
   | cons z r ih =>
    intro hp i y hy hb
    simp only [List.map_cons,apartR,List.length_map,Bool.and_eq_true,Bool.or_eq_true] at hp
    simp only [atE] at hy
    split at hy
    ·subst i;simp only [Option.some.injEq] at hy;subst hy
     rcases hp.1 with h1 | h1
     ·rw [hb] at h1;cases h1
     ·exact h1
    ·exact ih hp.2 i y hy hb
  exact (Oper.apart_spec (this hap i y hy hb)).2.2 d hd
 have hslot : ∀ t,t ∈ o.looksAt ops→(foldT (fun _=>true) tm E)[t]? = (foldT m.testBit tm E)[t]?:=fun t ht =>
  foldT_looks fun i y hy hb hd=>hap' i y hy hb t hd ht
 have hα : argM (o.looksAt ops) (foldT (fun _=>true) tm E) = argM (o.looksAt ops) (foldT m.testBit tm E):=by
  funext y
  cases y with
  | tmp t =>
   simp only [argM]
   split
   ·rename_i ht
    rw [List.contains_eq_mem,decide_eq_true_eq] at ht
    simp only [getR_eq,List.getD_eq_getElem?_getD,hslot t ht]
   ·rfl
  | _=>rfl
 have hw : wantedA ops o (foldT (fun _=>true) tm E) = wantedA ops o (foldT m.testBit tm E):=by
  unfold wantedA
  cases hgd : o.guard with
  | none=>rfl
  | some gd =>
   obtain ⟨gi,want⟩:=gd
   simp only
   cases hd : (ops[gi]?).bind (·.dst) with
   | none=>rfl
   | some d =>
    have hlk : d ∈ o.looksAt ops:=by simp [Oper.looksAt,hgd,hd]
    simp only [Option.bind_some,hslot d hlk]
 rw [ancR_map] at hanc
 unfold stepDE at hx
 rw [hα,hw] at hx
 simp only [Option.bind_eq_some_iff] at hx
 obtain ⟨y,hy,hx⟩:=hx
 split at hx<;>simp only [reduceCtorEq,Option.some.injEq] at hx
 rename_i hp
 subst hx
 split at hy
 ·rename_i hw
  split at hy
  ·rename_i v I hX
   split at hy<;>simp only [reduceCtorEq,Option.some.injEq] at hy
   rename_i hc
   subst hy
   exact ⟨rfl,rfl,rfl,hanc,rfl,.inl ⟨hw,hX,hc⟩,pairs_spec hap hp⟩
  ·cases hy
 ·rename_i hw
  simp only [Option.some.injEq] at hy
  subst hy
  exact ⟨rfl,rfl,rfl,hanc,rfl,.inr ⟨by simpa using hw,rfl,rfl,rfl⟩,pairs_spec hap hp⟩
theorem evDrawL_good : ∀ {l : List Oper} {inf : List (Oper × Nat × List Tmp)} {E E' : List DE} {t t' : List AV} {c c' : Nat},infoGo ops l (E.map pr) = some inf→t = foldT (fun _=>true) tm E→evDrawL P call ops h inf t E c = some (E',t',c')→Good P call ops h tm c0 E c→(∀ j,l[j]? = ops[E.length + j]?)→
  Good P call ops h tm c0 E' c'∧E'.length = E.length + l.length∧t' = foldT (fun _=>true) tm E'
 | [],inf,E,E',t,t',c,c',hi,ht,hev,hg,_=>by
  simp only [infoGo,Option.some.injEq] at hi
  subst hi
  simp only [evDrawL,Option.some.injEq,Prod.mk.injEq] at hev
  obtain ⟨rfl,rfl,rfl⟩:=hev
  exact ⟨hg,by simp,ht⟩
 | o :: l,inf,E,E',t,t',c,c',hi,ht,hev,hg,hl=>by
  simp only [infoGo,Option.bind_eq_some_iff] at hi
  obtain ⟨m,hm,hi⟩:=hi
  split at hi
  case isFalse=>cases hi
  rename_i hap
  simp only [Option.map_eq_some_iff] at hi
  obtain ⟨inf',hi',rfl⟩:=hi
  simp only [evDrawL,Option.bind_eq_some_iff] at hev
  obtain ⟨x,hx,hev⟩:=hev
  subst ht
  obtain ⟨h1,h1',h2,h3⟩:=stepDE_runs hx hm hap
  have:=evDrawL_good (E:=x :: E) (by simp only [List.map_cons,pr,h1,h1'];exact hi') (by simp [foldT]) hev ⟨h2 ▸ hg,rfl,by rw [h1];simpa using (hl 0).symm,h3⟩ (fun j=>by have:=hl (j + 1);simpa [Nat.add_assoc,Nat.add_comm 1 j] using this)
  exact ⟨this.1,by rw [this.2.1];simp;omega,this.2.2⟩
theorem atE_split : ∀ {E : List DE} {j : Nat} {x : DE},atE E j = some x→∃ A r,E = A ++ x :: r∧r.length = j
 | [],_,_,hx=>by simp [atE] at hx
 | y :: r,j,x,hx=>by
  simp only [atE] at hx
  split at hx
  ·simp only [Option.some.injEq] at hx;subst hx;exact ⟨[],r,rfl,by omega⟩
  ·obtain ⟨A,r',rfl,hl⟩:=atE_split hx;exact ⟨y :: A,r',rfl,hl⟩
theorem atE_some : ∀ {E : List DE} {j : Nat},j < E.length→∃ x,atE E j = some x
 | [],_,hj=>by simp at hj
 | y :: r,j,hj=>by
  simp only [atE]
  split
  ·exact ⟨y,rfl⟩
  ·exact atE_some (by simp at hj;omega)
theorem good_suffix : ∀ {A : List DE} {r : List DE} {c : Nat},Good P call ops h tm c0 (A ++ r) c→∃ c1,Good P call ops h tm c0 r c1
 | [],r,c,hg=>⟨c,hg⟩
 | y :: A,r,c,hg=>good_suffix hg.1
theorem good_at {E : List DE} {c : Nat} {j : Nat} {x : DE} (hg : Good P call ops h tm c0 E c) (hx : atE E j = some x) : ∃ A r,E = A ++ x :: r∧r.length = j∧ops[j]? = some x.o∧Runs P call ops h tm x r:=by
 obtain ⟨A,r,rfl,hl⟩:=atE_split hx
 obtain ⟨c1,hg1⟩:=good_suffix (A:=A) hg
 exact ⟨A,r,rfl,hl,hl ▸ hg1.2.2.1,hg1.2.2.2⟩
theorem atE_append {A r : List DE} {i : Nat} (hi : i < r.length) : atE (A ++ r) i = atE r i:=by
 induction A with
 | nil=>rfl
 | cons y A ih=>simp only [List.cons_append,atE];rw [if_neg (by simp;omega)];exact ih
theorem anc_bits {E : List DE} : ∀ {es : List Edge} {m : Nat},ancOf E es = some m→∀ b,m.testBit b = true→∃ e ∈ es,Region.binds .any e = true∧∃ y,atE E e.on = some y∧(b = e.on∨y.m.testBit b = true)
 | [],m,hm,b,hb=>by simp [ancOf] at hm;subst hm;simp at hb
 | e :: es,m,hm,b,hb=>by
  simp only [ancOf,Option.bind_eq_some_iff] at hm
  obtain ⟨m1,hm1,hm⟩:=hm
  split at hm
  ·rename_i hbind
   simp only [Option.map_eq_some_iff] at hm
   obtain ⟨y,hy,rfl⟩:=hm
   simp only [Nat.testBit_or,Bool.or_eq_true,Nat.testBit_two_pow,decide_eq_true_eq] at hb
   rcases hb with (hb | hb) | hb
   ·obtain ⟨e',he',h1,h2⟩:=anc_bits hm1 b hb
    exact ⟨e',List.mem_cons_of_mem _ he',h1,h2⟩
   ·exact ⟨e,List.mem_cons_self,hbind,y,hy,.inl hb.symm⟩
   ·exact ⟨e,List.mem_cons_self,hbind,y,hy,.inr hb⟩
  ·simp only [Option.some.injEq] at hm;subst hm
   obtain ⟨e',he',h1,h2⟩:=anc_bits hm1 b hb
   exact ⟨e',List.mem_cons_of_mem _ he',h1,h2⟩
theorem anc_edges {E : List DE} : ∀ {es : List Edge} {m : Nat},ancOf E es = some m→∀ e ∈ es,Region.binds .any e = true→e.on < E.length
 | e :: es,m,hm,e',he,hb=>by
  simp only [ancOf,Option.bind_eq_some_iff] at hm
  obtain ⟨m1,hm1,hm⟩:=hm
  rcases List.mem_cons.1 he with rfl | he
  ·rw [if_pos hb] at hm
   simp only [Option.map_eq_some_iff] at hm
   obtain ⟨y,hy,_⟩:=hm
   exact atE_lt hy
  ·exact anc_edges hm1 e' he hb
 | [],_,_,_,he,_=>by simp at he
theorem bits_lt : ∀ {E : List DE} {c : Nat},Good P call ops h tm c0 E c→∀ j x,atE E j = some x→∀ b,x.m.testBit b = true→b < j:=by
 intro E c hg j x hx
 obtain ⟨A,r,rfl,hl,ho,hr⟩:=good_at hg hx
 intro b hb
 obtain ⟨e,he,hbind,y,hy,hor⟩:=anc_bits hr.anc b hb
 have h1:=atE_lt hy
 rcases hor with rfl | hb2
 ·omega
 ·obtain ⟨c1,hg1⟩:=good_suffix (A:=A) hg
  have:=bits_lt hg1.1 e.on y hy b hb2
  omega
termination_by E=>E.length
decreasing_by simp_all;omega
end Go.Abs
namespace Go.Abs
variable {P : Program} {call : CallF} {ops : Array Oper} {h : Tr Blk} {tm : List AV} {c0 : Nat}
theorem foldH_eq {S M : Nat→Bool} {n : Nat} : ∀ {E : List DE},(∀ i y,atE E i = some y→S i = true→M i = false→n ∉ y.lg)→(∀ i,i < E.length→M i = true→S i = true)→(foldH S h E).get n = (foldH M h E).get n
 | [],_,_=>rfl
 | x :: r,h1,h2=>by
  have ih:=foldH_eq (E:=r) (fun i y hy=>h1 i y (by simp only [atE];rw [if_neg (by have:=atE_lt hy;omega)];exact hy)) (fun i hi=>h2 i (by simp;omega))
  have hx : atE (x :: r) r.length = some x:=by simp [atE]
  simp only [foldH]
  cases hS : S r.length<;>cases hM : M r.length
  ·simpa using ih
  ·have:=h2 r.length (by simp) hM;rw [hS] at this;cases this
  ·simp only [if_true,Bool.false_eq_true,if_false,setAll_get,if_neg (h1 _ _ hx hS hM)];exact ih
  ·simp only [if_true,setAll_get,ih]
theorem foldH_below {M : Nat→Bool} : ∀ {A r : List DE},(∀ i,r.length≤i→M i = false)→foldH M h (A ++ r) = foldH M h r
 | [],_,_=>rfl
 | y :: A,r,hM=>by
  simp only [List.cons_append,foldH]
  rw [hM _ (by simp)]
  simpa using foldH_below hM
theorem foldH_congr {S S' : Nat→Bool} : ∀ {E : List DE},(∀ i,i < E.length→S i = S' i)→foldH S h E = foldH S' h E
 | [],_=>rfl
 | x :: r,hS=>by
  simp only [foldH]
  rw [hS r.length (by simp),foldH_congr fun i hi=>hS i (by simp;omega)]
theorem foldT_congr {S S' : Nat→Bool} : ∀ {E : List DE},(∀ i,i < E.length→S i = S' i)→foldT S tm E = foldT S' tm E
 | [],_=>rfl
 | x :: r,hS=>by
  simp only [foldT]
  rw [hS r.length (by simp),foldT_congr fun i hi=>hS i (by simp;omega)]
theorem foldT_below {M : Nat→Bool} : ∀ {A r : List DE},(∀ i,r.length≤i→M i = false)→foldT M tm (A ++ r) = foldT M tm r
 | [],_,_=>rfl
 | y :: A,r,hM=>by
  simp only [List.cons_append,foldT]
  rw [hM _ (by simp)]
  simpa using foldT_below hM
theorem putA_length (d : Option Tmp) (v : AV) (tm : List AV) : (putA d v tm).length = tm.length:=by cases d<;>simp [putA,setR_eq]
theorem foldT_length (S : Nat→Bool) : ∀ (E : List DE),(foldT S tm E).length = tm.length
 | []=>rfl
 | x :: r=>by
  simp only [foldT]
  split
  ·rw [putA_length,foldT_length S r]
  ·exact foldT_length S r
theorem putA_get {d : Option Tmp} {v : AV} {tm : List AV} {t : Nat} (hd : d ≠ some t) : (putA d v tm)[t]? = tm[t]?:=by
 cases d with
 | none=>rfl
 | some d=>simp only [putA,setR_eq];rw [List.getElem?_set_ne];intro e0;exact hd (e0 ▸ rfl)
theorem putA_get_congr {d : Option Tmp} {v : AV} {tm tm' : List AV} {t : Nat} (hl : tm.length = tm'.length) (ht : tm[t]? = tm'[t]?) : (putA d v tm)[t]? = (putA d v tm')[t]?:=by
 cases d with
 | none=>exact ht
 | some d =>
  simp only [putA,setR_eq,List.getElem?_set]
  split
  ·rw [hl]
  ·exact ht
theorem foldT_eq {S M : Nat→Bool} {t : Nat} : ∀ {E : List DE},(∀ i y,atE E i = some y→S i = true→M i = false→y.o.dst ≠ some t)→(∀ i,i < E.length→M i = true→S i = true)→(foldT S tm E)[t]? = (foldT M tm E)[t]?
 | [],_,_=>rfl
 | x :: r,h1,h2=>by
  have ih:=foldT_eq (E:=r) (fun i y hy=>h1 i y (by simp only [atE];rw [if_neg (by have:=atE_lt hy;omega)];exact hy)) (fun i hi=>h2 i (by simp;omega))
  have hx : atE (x :: r) r.length = some x:=by simp [atE]
  simp only [foldT]
  cases hS : S r.length<;>cases hM : M r.length
  ·simpa using ih
  ·have:=h2 r.length (by simp) hM;rw [hS] at this;cases this
  ·simp only [if_true,Bool.false_eq_true,if_false];rw [putA_get (h1 _ _ hx hS hM)];exact ih
  ·simp only [if_true];exact putA_get_congr (by rw [foldT_length,foldT_length]) ih
theorem putA_comm {d d' : Option Tmp} {v v' : AV} {tm : List AV} (hd : ∀ t,d = some t→d' ≠ some t) : putA d v (putA d' v' tm) = putA d' v' (putA d v tm):=by
 cases d with
 | none=>rfl
 | some t =>
  cases d' with
  | none=>rfl
  | some t'=>simp only [putA,setR_eq];exact List.set_comm _ _ (fun e0=>hd t rfl (e0 ▸ rfl))
def plus (S : Nat→Bool) (j : Nat) : Nat→Bool:=fun i=>S i || i == j
theorem plus_ne {S : Nat→Bool} {i j : Nat} (h : i ≠ j) : plus S j i = S i:=by simp [plus,h]
theorem foldH_plus {S : Nat→Bool} {x : DE} {r : List DE} (hS : S r.length = false) {n : Nat} : ∀ {A : List DE},(∀ i y,atE (A ++ x :: r) i = some y→i ≠ r.length→S i = true→x.m.testBit i = false→n ∈ x.lg→n ∉ y.lg)→(∀ b,x.m.testBit b = true→b < r.length)→
  (foldH (plus S r.length) h (A ++ x :: r)).get n = if n ∈ x.lg then x.hp.get n else (foldH S h (A ++ x :: r)).get n
 | [],_,_=>by
  simp only [List.nil_append,foldH,hS,Bool.false_eq_true,if_false]
  rw [if_pos (by simp [plus]),setAll_get,foldH_congr (S:=plus S r.length) (S':=S) fun i hi=>plus_ne (by omega)]
 | y :: A,hd,hb=>by
  have ih:=foldH_plus hS (A:=A) (fun i z hz=>hd i z (by simp only [List.cons_append,atE];rw [if_neg (by have:=atE_lt hz;omega)];exact hz)) hb
  have hy : atE (y :: A ++ x :: r) (A ++ x :: r).length = some y:=by simp [atE]
  have hne : (A ++ x :: r).length ≠ r.length:=by simp;omega
  simp only [List.cons_append,foldH]
  rw [plus_ne hne]
  split
  ·rename_i hSy
   simp only [setAll_get,ih]
   by_cases h1 : n ∈ y.lg
   ·have : n ∉ x.lg:=fun h2=>hd _ _ hy hne hSy (by
     cases hbt : x.m.testBit (A ++ x :: r).length with
     | false=>rfl
     | true=>have:=hb _ hbt;simp at this;omega) h2 h1
    simp [h1,this]
   ·simp [h1]
  ·exact ih
theorem foldT_plus {S : Nat→Bool} {x : DE} {r : List DE} (hS : S r.length = false) : ∀ {A : List DE},(∀ i y,atE (A ++ x :: r) i = some y→i ≠ r.length→S i = true→x.m.testBit i = false→∀ t,x.o.dst = some t→y.o.dst ≠ some t)→(∀ b,x.m.testBit b = true→b < r.length)→
  foldT (plus S r.length) tm (A ++ x :: r) = putA x.o.dst x.v (foldT S tm (A ++ x :: r))
 | [],_,_=>by
  simp only [List.nil_append,foldT,hS,Bool.false_eq_true,if_false]
  rw [if_pos (by simp [plus]),foldT_congr (S:=plus S r.length) (S':=S) fun i hi=>plus_ne (by omega)]
 | y :: A,hd,hb=>by
  have ih:=foldT_plus hS (A:=A) (fun i z hz=>hd i z (by simp only [List.cons_append,atE];rw [if_neg (by have:=atE_lt hz;omega)];exact hz)) hb
  have hy : atE (y :: A ++ x :: r) (A ++ x :: r).length = some y:=by simp [atE]
  have hne : (A ++ x :: r).length ≠ r.length:=by simp;omega
  simp only [List.cons_append,foldT]
  rw [plus_ne hne]
  split
  ·rename_i hSy
   rw [ih]
   refine (putA_comm fun t ht=>?_).symm
   exact hd _ _ hy hne hSy (by
     cases hbt : x.m.testBit (A ++ x :: r).length with
     | false=>rfl
     | true=>have:=hb _ hbt;simp at this;omega) t ht
  ·exact ih
structure Un (ops : Array Oper) (x y : DE) : Prop where
 ih : ∀ n,n ∈ y.lg→x.ih.get n = none
 lg : ∀ n,n ∈ y.lg→n ∉ x.lg
 looks : ∀ d,y.o.dst = some d→d ∉ x.o.looksAt ops
 dst : ∀ d,x.o.dst = some d→y.o.dst ≠ some d
theorem pairB_un {x y : DE} (hp : pairB ops x y = true) : Un ops x y∧Un ops y x:=by
 simp only [pairB,Bool.and_eq_true,List.all_eq_true,Option.isNone_iff_eq_none,Bool.not_eq_true',List.contains_eq_mem,decide_eq_false_iff_not] at hp
 obtain ⟨⟨⟨h1,h2⟩,h3⟩,h4⟩:=hp
 obtain ⟨a1,a2,a3⟩:=Oper.apart_spec h4
 exact ⟨⟨h2,h3,a3,a2⟩,⟨h1,fun n hx hy=>h3 n hy hx,a1,fun d hd e0=>a2 d e0 hd⟩⟩
def Closed (E : List DE) (S : Nat→Bool) : Prop:=∀ i x,atE E i = some x→S i = true→∀ b,x.m.testBit b = true→S b = true
theorem un_of {E : List DE} {c : Nat} (hg : Good P call ops h tm c0 E c) {S : Nat→Bool} (hS : Closed E S) {j : Nat} {x : DE} (hx : atE E j = some x) (hj : S j = false) {i : Nat} {y : DE} (hy : atE E i = some y) (hi : S i = true) (hb : x.m.testBit i = false) : Un ops x y:=by
 have hij : i ≠ j:=fun e0=>by subst e0;rw [hi] at hj;cases hj
 rcases Nat.lt_or_gt_of_ne hij with hlt | hgt
 ·obtain ⟨A,r,rfl,hl,_,hr⟩:=good_at hg hx
  have hyr : atE r i = some y:=by
   have e1:=atE_append (A:=A) (r:=x :: r) (i:=i) (by simp;omega)
   rw [e1] at hy
   simp only [atE] at hy
   rwa [if_neg (by omega)] at hy
  exact (pairB_un (hr.pairs i y hyr hb)).1
 ·obtain ⟨A,r,rfl,hl,_,hr⟩:=good_at hg hy
  have hxr : atE r j = some x:=by
   have e1:=atE_append (A:=A) (r:=y :: r) (i:=j) (by simp;omega)
   rw [e1] at hx
   simp only [atE] at hx
   rwa [if_neg (by omega)] at hx
  have hbj : y.m.testBit j = false:=by
   cases hb2 : y.m.testBit j with
   | false=>rfl
   | true=>have:=hS i y hy hi j hb2;rw [hj] at this;cases this
  exact (pairB_un (hr.pairs j x hxr hbj)).2
theorem ranges : ∀ {E : List DE} {c : Nat},Good P call ops h tm c0 E c→c0≤c∧∀ i x,atE E i = some x→c0≤x.c∧x.c≤x.c'∧x.c'≤c∧∀ k y,atE E k = some y→k < i→y.c'≤x.c
 | [],c,hg=>⟨by (have : c = c0:=hg;omega),fun i x hx=>by simp [atE] at hx⟩
 | z :: r,c,hg=>by
  obtain ⟨hg1,rfl,_,hr⟩:=hg
  obtain ⟨h1,h2⟩:=ranges hg1
  have hz : z.c≤z.c':=by rcases hr.run with ⟨_,_,hc⟩ | ⟨_,_,_,hc⟩<;>omega
  refine ⟨by omega,fun i x hx=>?_⟩
  simp only [atE] at hx
  split at hx
  ·simp only [Option.some.injEq] at hx;subst hx
   refine ⟨h1,hz,Nat.le_refl _,fun k y hy hk=>?_⟩
   simp only [atE] at hy
   rw [if_neg (by omega)] at hy
   exact (h2 k y hy).2.2.1
  ·obtain ⟨a1,a2,a3,a4⟩:=h2 i x hx
   refine ⟨a1,a2,by omega,fun k y hy hk=>?_⟩
   have:=atE_lt hx
   simp only [atE] at hy
   rw [if_neg (by omega)] at hy
   exact a4 k y hy hk
end Go.Abs
namespace Go.Abs
variable {P : Program} {call : CallF} {ops : Array Oper}
structure Inv (e0 : Env) (s : St) (w0 : World) (tm : List AV) (ds : List Deferred) (E : List DE) (S : Nat→Bool) (e : Env) (a : Act) (w : World) : Prop where
 le : e0.le e
 rng : ∀ n,e n ≠ none→e0 n ≠ none∨∃ i x,atE E i = some x∧S i = true∧x.c≤n∧n < x.c'
 sim : Sim e ⟨foldH S s.heap E,0,[]⟩ w
 own : ∀ b,b < w0.heap.size→Own e ⟨foldH S s.heap E,0,[]⟩ b→Own e0 s b
 met : ∀ b,b < w0.heap.size→Met e ⟨foldH S s.heap E,0,[]⟩ b→Met e0 s b
 frame : ∀ b,b < w0.heap.size→¬ Own e0 s b→w.heap[b]? = w0.heap[b]?
 size : w0.heap.size≤w.heap.size
 os : w.os = w0.os
 tape : w.tape = w0.tape
 output : w.output = w0.output
 tm : ∃ ts,concL e (foldT S tm E) = some ts∧a.tmps = ts.toArray
 df : a.defers = ds
 closed : Closed E S
theorem reads_mask {e : Env} {α : Operand→Option AV} {ρ : Operand→Value} {L : List Tmp} {tm : List AV} (h : Reads e (arg tm) ρ) (hα : α = argM L tm) : Reads e α ρ:=by
 subst hα
 intro x u hu
 cases x with
 | tmp t =>
  simp only [argM] at hu
  split at hu
  ·exact h (.tmp t) u hu
  ·cases hu
 | const v=>exact h (.const v) u hu
 | global g=>exact h (.global g) u hu
 | func f=>exact h (.func f) u hu
theorem own_congr {e : Env} {s s' : St} (h : ∀ n,s.heap.get n = s'.heap.get n) {b : Nat} (o : Own e s b) : Own e s' b:=by
 obtain ⟨n,x,q,h1,h2⟩:=o;exact ⟨n,x,q,h n ▸ h1,h2⟩
theorem met_congr {e : Env} {s s' : St} (h : ∀ n,s.heap.get n = s'.heap.get n) {b : Nat} (o : Met e s b) : Met e s' b:=by
 obtain ⟨n,x,q,h1,h2⟩:=o;exact ⟨n,x,q,h n ▸ h1,h2⟩
theorem inv_step (hcall : CallOk P call) {e0 : Env} {s : St} {w0 : World} {tm : List AV} {ds : List Deferred} {E : List DE} {c : Nat} (hg : Good P call ops s.heap tm s.next E c) (hf : Free e0 s.next c)
  {S : Nat→Bool} {e : Env} {a : Act} {w : World} (hI : Inv e0 s w0 tm ds E S e a w) {j : Nat} {x : DE} (hx : atE E j = some x) (hj : S j = false) (hm : ∀ b,x.m.testBit b = true→S b = true)
  (b : Frame) (cs : List Frame) (rest : List Nat) (k : List Item) :
  ∃ e' a' w',Inv e0 s w0 tm ds E (plus S j) e' a' w'∧Steps P (lone (b.atR a (.inRegion ops (j :: rest) :: k)) cs w) (lone (b.atR a' (.inRegion ops rest :: k)) cs w'):=by
 obtain ⟨A,r,rfl,hl,ho,hr⟩:=good_at hg hx
 subst hl
 have hbits : ∀ b,x.m.testBit b = true→b < r.length:=bits_lt hg _ _ hx
 have hun : ∀ i y,atE (A ++ x :: r) i = some y→S i = true→x.m.testBit i = false→Un ops x y:=fun i y hy hi hb=>un_of hg hI.closed hx hj hy hi hb
 have hhigh : ∀ i,r.length≤i→x.m.testBit i = false:=fun i hi=>by
  cases hb : x.m.testBit i with
  | false=>rfl
  | true=>have:=hbits i hb;omega
 have hfoldM : foldH x.m.testBit s.heap (A ++ x :: r) = x.ih:=by
  have h1 : foldH x.m.testBit s.heap (A ++ x :: r) = foldH x.m.testBit s.heap (x :: r):=by
   have e1 : A ++ x :: r = (A ++ [x]) ++ r:=by simp
   rw [e1,foldH_below hhigh]
   simp only [foldH,hhigh _ (Nat.le_refl _),Bool.false_eq_true,if_false]
  rw [h1,hr.ih]
  simp only [foldH,hhigh _ (Nat.le_refl _),Bool.false_eq_true,if_false]
 have hfoldTM : foldT x.m.testBit tm (A ++ x :: r) = foldT x.m.testBit tm r:=by
  have e1 : A ++ x :: r = (A ++ [x]) ++ r:=by simp
  rw [e1,foldT_below hhigh]
 have hheap : ∀ n,((x.ih.get n).isSome∨n ∈ x.lg)→(foldH S s.heap (A ++ x :: r)).get n = x.ih.get n:=fun n hn=>by
  rw [← hfoldM]
  refine foldH_eq (fun i y hy hi hb=>?_) (fun i _ hi=>hm i hi)
  intro hny
  rcases hn with h1 | h1
  ·rw [(hun i y hy hi hb).ih n hny] at h1;cases h1
  ·exact (hun i y hy hi hb).lg n hny h1
 have hslot : ∀ t,t ∈ x.o.looksAt ops→(foldT S tm (A ++ x :: r))[t]? = (foldT x.m.testBit tm r)[t]?:=fun t ht=>by
  rw [← hfoldTM]
  exact foldT_eq (fun i y hy hi hb hd=>(hun i y hy hi hb).looks t hd ht) (fun i _ hi=>hm i hi)
 have hclosed : Closed (A ++ x :: r) (plus S r.length):=by
  intro i y hy hi b' hb'
  simp only [plus,Bool.or_eq_true,beq_iff_eq] at hi ⊢
  rcases hi with hi | rfl
  ·exact .inl (hI.closed i y hy hi b' hb')
  ·rw [hx] at hy;cases hy;exact .inl (hm b' hb')
 have hH : ∀ n,(foldH (plus S r.length) s.heap (A ++ x :: r)).get n = if n ∈ x.lg then x.hp.get n else (foldH S s.heap (A ++ x :: r)).get n:=fun n =>
  foldH_plus hj (fun i y hy _ hi hb hn hny=>(hun i y hy hi hb).lg n hny hn) hbits
 have hT : foldT (plus S r.length) tm (A ++ x :: r) = putA x.o.dst x.v (foldT S tm (A ++ x :: r)):=
  foldT_plus hj (fun i y hy _ hi hb t ht=>(hun i y hy hi hb).dst t ht) hbits
 obtain ⟨ts,hts,hta⟩:=hI.tm
 have hwant : wantedA ops x.o (foldT x.m.testBit tm r) = Region.wanted x.o (yielded ops a.tmps):=by
  rw [hta,← wantedA_eq (ops:=ops) (o:=x.o) hts]
  unfold wantedA
  cases hgd : x.o.guard with
  | none=>rfl
  | some gd =>
   obtain ⟨gi,want⟩:=gd
   simp only
   cases hd : (ops[gi]?).bind (·.dst) with
   | none=>rfl
   | some d =>
    have hlk : d ∈ x.o.looksAt ops:=by simp [Oper.looksAt,hgd,hd]
    simp only [Option.bind_some,hslot d hlk]
 rcases hr.run with ⟨hw,hX,hc⟩ | ⟨hw,hv,hlg,hc⟩
 ·have hw' : Region.wanted x.o (yielded ops a.tmps) = true:=hwant ▸ hw
  have hα : argM (x.o.looksAt ops) (foldT x.m.testBit tm r) = argM (x.o.looksAt ops) (foldT S tm (A ++ x :: r)):=by
   funext y
   cases y with
   | tmp t =>
    simp only [argM]
    split
    ·rename_i ht
     rw [List.contains_eq_mem,decide_eq_true_eq] at ht
     simp only [getR_eq,List.getD_eq_getElem?_getD,hslot t ht]
    ·rfl
   | _=>rfl
  have hrd : Reads e (argM (x.o.looksAt ops) (foldT x.m.testBit tm r)) a.eval:=reads_mask (reads_arg hts a hta) hα
  have hsub : SubH ⟨x.ih,x.c,[]⟩ ⟨foldH S s.heap (A ++ x :: r),x.c,[]⟩:=fun n z hz=>by
   show (foldH S s.heap (A ++ x :: r)).get n = some z
   rw [hheap n (.inl (by rw [show x.ih.get n = some z from hz];rfl))];exact hz
  have hsimT : Sim e ⟨foldH S s.heap (A ++ x :: r),x.c,[]⟩ w:=⟨hI.sim.at_,hI.sim.inj,hI.sim.bound⟩
  have hsimI : Sim e ⟨x.ih,x.c,[]⟩ w:=hsimT.sub hsub
  obtain ⟨r1,r2,r3,r4⟩:=(ranges hg).2 _ _ hx
  have hfree : Free e x.c x.c':=by
   intro n h1 h2
   cases hn : e n with
   | none=>rfl
   | some p =>
    rcases hI.rng n (by simp [hn]) with h3 | ⟨i,y,hy,hi,h4,h5⟩
    ·exact absurd (hf n (by omega) (by omega)) h3
    ·exfalso
     have hij : i ≠ r.length:=fun e0=>by subst e0;rw [hj] at hi;cases hi
     rcases Nat.lt_or_gt_of_ne hij with hlt | hgt
     ·have:=r4 i y hy hlt;omega
     ·have:=((ranges hg).2 i y hy).2.2.2 _ _ hx hgt;omega
  obtain ⟨e',w',g1,g2,xv,hxv,hst⟩:=opX_run (b:=b) (cs:=cs) hcall hX hsimI hrd hfree ho hw' rest k
  obtain ⟨q1,q2,q2m,q3⟩:=over_sim hsimT hsub g2 g1 (fun n hn=>hheap n (.inr hn))
  have hget : ∀ n,(St.over ⟨foldH S s.heap (A ++ x :: r),x.c,[]⟩ ⟨x.hp,x.c',x.lg⟩).heap.get n = (foldH (plus S r.length) s.heap (A ++ x :: r)).get n:=fun n=>by
   rw [hH];simp only [St.over,setAll_get]
  refine ⟨e',a.put x.o.dst xv,w',⟨hI.le.trans g2.le,?_,?_,?_,?_,?_,Nat.le_trans hI.size g2.size,g2.os.trans hI.os,g2.tape.trans hI.tape,g2.output.trans hI.output,?_,by rw [put_defers];exact hI.df,hclosed⟩,hst⟩
  ·intro n hn
   rcases g2.rng n hn with h1 | ⟨h1,h2⟩
   ·rcases hI.rng n h1 with h3 | ⟨i,y,hy,hi,h4,h5⟩
    ·exact .inl h3
    ·exact .inr ⟨i,y,hy,by simp [plus,hi],h4,h5⟩
   ·exact .inr ⟨r.length,x,hx,by simp [plus],h1,h2⟩
  ·exact q1.sub fun n z hz=>by rw [hget n];exact hz
  ·intro bb hbb o'
   have o1:=q2 bb (Nat.lt_of_lt_of_le hbb hI.size) (own_congr (s':=St.over _ _) (fun n=>(hget n).symm) o')
   exact hI.own bb hbb o1
  ·intro bb hbb o'
   have o1:=q2m bb (Nat.lt_of_lt_of_le hbb hI.size) (met_congr (s':=St.over _ _) (fun n=>(hget n).symm) o')
   exact hI.met bb hbb o1
  ·intro bb hbb no
   have hno : ¬ Own e ⟨foldH S s.heap (A ++ x :: r),x.c,[]⟩ bb:=fun o'=>no (hI.own bb hbb o')
   exact (q3 bb (Nat.lt_of_lt_of_le hbb hI.size) hno).trans (hI.frame bb hbb no)
  ·obtain ⟨us,h1,h2⟩:=put_tm (concL_le g2.le _ _ hts) hta x.o.dst hxv
   exact ⟨us,by rw [hT];exact h1,h2⟩
 ·have hw' : Region.wanted x.o (yielded ops a.tmps) = false:=hwant ▸ hw
  have hget : ∀ n,(foldH (plus S r.length) s.heap (A ++ x :: r)).get n = (foldH S s.heap (A ++ x :: r)).get n:=fun n=>by rw [hH,hlg];simp
  have hstep:=stepR_op_skip (P:=P) (b:=b) (a:=a) (k:=k) (cs:=cs) (w:=w) (ops:=ops) (i:=r.length) (rest:=rest) (by simp only [ho,Option.map_some,Option.getD_some,hw'])
  simp only [ho,Option.bind_some] at hstep
  refine ⟨e,a.put x.o.dst undef,w,⟨hI.le,?_,?_,?_,?_,hI.frame,hI.size,hI.os,hI.tape,hI.output,?_,by rw [put_defers];exact hI.df,hclosed⟩,.one hstep⟩
  ·intro n hn
   rcases hI.rng n hn with h3 | ⟨i,y,hy,hi,h4,h5⟩
   ·exact .inl h3
   ·exact .inr ⟨i,y,hy,by simp [plus,hi],h4,h5⟩
  ·exact hI.sim.sub fun n z hz=>by rw [← hget n];exact hz
  ·intro bb hbb o'
   exact hI.own bb hbb (own_congr (s':=⟨foldH S s.heap (A ++ x :: r),0,[]⟩) (fun n=>hget n) o')
  ·intro bb hbb o'
   exact hI.met bb hbb (met_congr (s':=⟨foldH S s.heap (A ++ x :: r),0,[]⟩) (fun n=>hget n) o')
  ·obtain ⟨us,h1,h2⟩:=put_tm hts hta x.o.dst (conc_undef e)
   exact ⟨us,by rw [hT,hv];exact h1,h2⟩
def unlisted : Nat→Array Bool→Nat
 | 0,_=>0
 | n + 1,l=>unlisted n l + (if l.getD n true then 0 else 1)
theorem unlisted_set {l : Array Bool} {i : Nat} (hi : l.getD i true = false) : ∀ n,i < n→unlisted n l = unlisted n (l.setIfInBounds i true) + 1
 | 0,h=>by omega
 | n + 1,h=>by
  have hlt : i < l.size:=by
   by_cases hl : i < l.size
   ·exact hl
   ·rw [Array.getD_eq_getD_getElem?,Array.getElem?_eq_none (by omega)] at hi;cases hi
  have same : ∀ m,m≤i→unlisted m (l.setIfInBounds i true) = unlisted m l:=by
   intro m
   induction m with
   | zero=>intro _;rfl
   | succ m ih =>
    intro hm
    simp only [unlisted,ih (by omega)]
    have : (l.setIfInBounds i true).getD m true = l.getD m true:=by
     simp only [Array.getD_eq_getD_getElem?];rw [Array.getElem?_setIfInBounds_ne (by omega)]
    rw [this]
  by_cases e0 : i = n
  ·subst e0
   simp only [unlisted,same i (Nat.le_refl _),hi]
   have : (l.setIfInBounds i true).getD i true = true:=by simp [Array.getD_eq_getD_getElem?,hlt]
   rw [this];simp
  ·simp only [unlisted,unlisted_set hi n (by omega)]
   have : (l.setIfInBounds i true).getD n true = l.getD n true:=by
    simp only [Array.getD_eq_getD_getElem?];rw [Array.getElem?_setIfInBounds_ne e0]
   rw [this];omega
theorem unlisted_zero {l : Array Bool} : ∀ n,unlisted n l = 0→∀ i,i < n→l.getD i true = true
 | 0,_,i,hi=>by omega
 | n + 1,h,i,hi=>by
  simp only [unlisted] at h
  by_cases e0 : i = n
  ·subst e0
   cases hl : l.getD i true with
   | true=>rfl
   | false=>rw [hl] at h;simp at h
  ·exact unlisted_zero n (by omega) i (by omega)
theorem first_unlisted {l : Array Bool} : ∀ n,unlisted n l ≠ 0→∃ i,i < n∧l.getD i true = false∧∀ k,k < i→l.getD k true = true
 | 0,h=>absurd rfl h
 | n + 1,h=>by
  by_cases h0 : unlisted n l = 0
  ·refine ⟨n,by omega,?_,fun k hk=>unlisted_zero n h0 k hk⟩
   simp only [unlisted,h0] at h
   cases hl : l.getD n true with
   | false=>rfl
   | true=>rw [hl] at h;simp at h
  ·obtain ⟨i,h1,h2,h3⟩:=first_unlisted n h0
   exact ⟨i,by omega,h2,h3⟩
end Go.Abs

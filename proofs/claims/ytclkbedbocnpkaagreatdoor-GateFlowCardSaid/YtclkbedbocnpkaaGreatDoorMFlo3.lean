/- A part of the proof: a run of the program on abstract values, shown to be a run of the machine. -/
import Derived.Test.YtclkbedbocnpkaaGreatDoorMFlo2
import Derived.Lib.Bytealg
import Derived.Laws.Externs
import Derived.Orders
import Derived.RangeFuncIn
import Derived.Defers
set_option linter.unusedVariables false
set_option linter.unusedSimpArgs false
namespace Go.Abs
inductive Tg where
 | fn (f : FuncId)
 | yld (l : Nat)
inductive Rt where
 | ret (v : AV)
 | pan (v : AV)
inductive RC where
 | no
 | quiet
 | pend (v : AV)
 | done (v : AV)
def RC.got (v : AV) : RC→RC
 | .quiet=>.quiet
 | _=>.done v
inductive Dfr where
 | fn (f : FuncId) (aas cs : List AV)
 | coll (n : Nat)
structure Fr where
 tm : List AV
 df : List Dfr
 rc : RC
 ro : Option Nat
inductive Ex where
 | norm
 | exit (id : Nat)
 | ret
 | pan (v : AV)
abbrev CallF:=Tg→List AV→St→Option (Rt × St)
noncomputable def putA (d : Option Tmp) (v : AV) (tm : List AV) : List AV:=match d with | some d=>setR v tm d | none=>tm
noncomputable def Fr.put (fr : Fr) (d : Option Tmp) (v : AV) : Fr:={ fr with tm:=putA d v fr.tm }
def wantedA (ops : Array Oper) (o : Oper) (tm : List AV) : Bool:=
 match o.guard with
 | none=>true
 | some (j,want)=>match ((ops[j]?).bind (·.dst)).bind (tm[·]?) with
  | some (.bool b)=>b == want
  | _=>false
def enterable (P : Program) (f : FuncId) : Bool:=
 match P.funcs[f]? with
 | some fn => fn.name != "runtime.NumGoroutine" && fn.body.isSome
 | none=>false
def notPtr : TypeDesc→Bool
 | .pointer _=>false
 | _=>true
def calleeA (P : Program) (α : Operand→Option AV) (c : Call) : Option (Tg × List AV):=
 match c.callee with
 | .value x=>(α x).bind fun v=>(argL α c.args.toList).bind fun aas=>match v with
  | .func f first cap=>if enterable P f then some (.fn f,first ++ aas ++ cap) else none
  | .yld l=>some (.yld l,aas)
  | _=>none
 | .invoke x name=>(α x).bind fun v=>(argL α c.args.toList).bind fun aas=>match v with
  | .iface t u=>(P.info? t).bind fun i=>(i.methods.find? (·.name == name)).bind fun m=>match m.path.toList,m.func,P.underlying t with
   | [],some (f,false),some d=>if notPtr d && enterable P f then some (.fn f,u :: aas) else none
   | _,_,_=>none
  | _=>none
 | .builtin _=>none
def externA (P : Program) (f : FuncId) (aas : List AV) : Option AV := (P.funcs[f]?).bind fun fn => if fn.body.isNone && fn.origin == "" then
 if fn.name == "internal/bytealg.CountString" then (match aas with | [.str s, .int .u8 c] => some (.int .i64 (Lib.countByte s.data.toList c.toNat.toUInt8)) | _ => none)
 else if fn.name == "internal/bytealg.IndexByteString" then (match aas with | [.str s, .int .u8 c] => some (.int .i64 (Lib.indexByte s.data.toList c.toNat.toUInt8)) | _ => none)
 else none else none
def externC (P : Program) (α : Operand→Option AV) (c : Call) : Option AV:=
 match c.callee with
 | .value x=>(α x).bind fun v=>(argL α c.args.toList).bind fun aas=>match v with
  | .func f [] []=>externA P f aas
  | _=>none
 | _=>none
inductive OR where
 | put (v : AV)
 | pan (v : AV)
 | dfr (d : Dfr)
 | rcv (v : AV)
noncomputable def opX (P : Program) (call : CallF) (o : Oper) (α : Operand→Option AV) (ro : Option Nat) (rc : RC) (s : St) : Option (OR × St):=
 match pureOp P o α with
 | some v=>some (.put v,s)
 | none =>
  match heapOp P o α s with
  | some (r,s')=>some (.put (r.getD (.tup [])),s')
  | none =>
   match o.op with
   | .call { callee:=.builtin .recover,args:=_,argTypes:=_ } =>
    match ro,rc with
    | none,.pend v=>some (.rcv v,s)
    | none,.quiet=>some (.rcv .nilIface,s)
    | _,_=>none
   | .call c=>match calleeA P α c with
    | some (tg,aas)=>(call tg aas s).map fun (r,s')=>(match r with | .ret v=>.put v | .pan v=>.pan v,s')
    | none=>(externC P α c).map fun v=>(.put v,s)
   | .panic x=>(α x).bind fun v=>match v with
    | .iface t u=>some (.pan (.iface t u),s)
    | _=>none
   | .defer c =>
    match ro,c.callee with
    | none,.value x=>(α x).bind fun v=>(argL α c.args.toList).bind fun aas=>match v with
     | .func f first cap=>if enterable P f then some (.dfr (.fn f (first ++ aas) cap),s) else none
     | _=>none
    | _,_=>none
   | _=>none
noncomputable def opA (P : Program) (call : CallF) (ops : Array Oper) (o : Oper) (fr : Fr) (s : St) : Option (Option AV × Fr × St):=
 if wantedA ops o fr.tm then
  (opX P call o (arg fr.tm) fr.ro fr.rc s).map fun (r,s')=>match r with
  | .put v=>(none,fr.put o.dst v,s')
  | .pan v=>(some v,fr,s')
  | .dfr d=>(none,{ fr with tm:=putA o.dst (.tup []) fr.tm,df:=d :: fr.df },s')
  | .rcv v=>(none,{ fr with tm:=putA o.dst v fr.tm,rc:=fr.rc.got v },s')
 else some (none,fr.put o.dst (.tup []),s)
def concD (e : Env) : Dfr→Option Deferred
 | .fn f aas cs=>(concL e aas).bind fun x=>(concL e cs).map fun y=>{ target:=.fn (.func f) y.toArray,args:=x.toArray }
 | .coll n=>(e n).map fun p=>{ target:=.collected p.1,args:=#[] }
def concDL (e : Env) : List Dfr→Option (List Deferred)
 | []=>some []
 | d :: ds=>(concD e d).bind fun x=>(concDL e ds).map (x :: ·)
theorem concD_le {e e' : Env} (h : e.le e') {d : Dfr} {x : Deferred} (hx : concD e d = some x) : concD e' d = some x:=by
 cases d with
 | fn f aas cs =>
  simp only [concD,Option.bind_eq_some_iff,Option.map_eq_some_iff] at hx ⊢
  obtain ⟨a,ha,c,hc,rfl⟩:=hx
  exact ⟨a,concL_le h _ _ ha,c,concL_le h _ _ hc,rfl⟩
 | coll n =>
  simp only [concD,Option.map_eq_some_iff] at hx ⊢
  obtain ⟨p,hp,rfl⟩:=hx
  exact ⟨p,h _ _ hp,rfl⟩
theorem concDL_le {e e' : Env} (h : e.le e') : ∀ {ds : List Dfr} {xs : List Deferred},concDL e ds = some xs→concDL e' ds = some xs
 | [],_,hx=>hx
 | d :: ds,xs,hx=>by
  simp only [concDL,Option.bind_eq_some_iff,Option.map_eq_some_iff] at hx ⊢
  obtain ⟨a,ha,c,hc,rfl⟩:=hx
  exact ⟨a,concD_le h ha,c,concDL_le h hc,rfl⟩
def CsOk (e : Env) (rc : RC) (b : Frame) (cs0 cs : List Frame) : Prop:=
 match rc with
 | .no=>cs = cs0
 | .quiet=>b.kind = .deferred∧∃ c rest,cs0 = c :: rest∧c.mode = .returning∧cs = cs0
 | .pend v=>b.kind = .deferred∧∃ c rest x,cs0 = c :: rest∧conc e v = some x∧cs = { c with mode:=.panicking [{ v:=x,recovered:=false }] } :: rest
 | .done v=>b.kind = .deferred∧∃ c rest x,cs0 = c :: rest∧conc e v = some x∧cs = { c with mode:=.panicking [{ v:=x,recovered:=true }] } :: rest
structure FR (e : Env) (fr : Fr) (b : Frame) (cs0 : List Frame) (a : Act) (cs : List Frame) : Prop where
 tm : ∃ ts,concL e fr.tm = some ts∧a.tmps = ts.toArray
 df : concDL e fr.df = some a.defers
 ro : match fr.ro with | none=>b.roundOf = none | some l=>∃ p,e l = some p∧b.roundOf = some p.1
 rc : CsOk e fr.rc b cs0 cs
theorem FR.le {e e' : Env} (h : e.le e') {fr : Fr} {b : Frame} {cs0 cs : List Frame} {a : Act} (r : FR e fr b cs0 a cs) : FR e' fr b cs0 a cs:=by
 obtain ⟨⟨ts,h1,h2⟩,h3,h4,h5⟩:=r
 refine ⟨⟨ts,concL_le h _ _ h1,h2⟩,concDL_le h h3,?_,?_⟩
 ·cases hr : fr.ro with
  | none=>simpa [hr] using h4
  | some l=>simp only [hr] at h4 ⊢;obtain ⟨p,hp,hb⟩:=h4;exact ⟨p,h _ _ hp,hb⟩
 ·cases hr : fr.rc<;>simp only [hr,CsOk] at h5 ⊢
  ·exact h5
  ·exact h5
  ·obtain ⟨hk,c,rest,x,e1,e2,e3⟩:=h5;exact ⟨hk,c,rest,x,e1,conc_le h _ _ e2,e3⟩
  ·obtain ⟨hk,c,rest,x,e1,e2,e3⟩:=h5;exact ⟨hk,c,rest,x,e1,conc_le h _ _ e2,e3⟩
theorem FR.reads {e : Env} {fr : Fr} {b : Frame} {cs0 cs : List Frame} {a : Act} (r : FR e fr b cs0 a cs) : Reads e (arg fr.tm) a.eval:=by
 obtain ⟨ts,h1,h2⟩:=r.tm;exact reads_arg h1 a h2
theorem put_tm {e : Env} {tm : List AV} {ts : List Value} {a : Act} (h : concL e tm = some ts) (ha : a.tmps = ts.toArray) (d : Option Tmp) {v : AV} {x : Value} (hv : conc e v = some x) :
 ∃ us,concL e (putA d v tm) = some us∧(a.put d x).tmps = us.toArray:=by
 cases d with
 | none=>exact ⟨ts,h,ha⟩
 | some d=>exact ⟨ts.set d x,by simp only [putA,setR_eq];exact concL_set h d hv,by simp [Act.put,ha]⟩
theorem put_defers (a : Act) (d : Option Tmp) (x : Value) : (a.put d x).defers = a.defers:=by cases d<;>rfl
theorem FR.put {e : Env} {fr : Fr} {b : Frame} {cs0 cs : List Frame} {a : Act} (r : FR e fr b cs0 a cs) (d : Option Tmp) {v : AV} {x : Value} (hv : conc e v = some x) : FR e (fr.put d v) b cs0 (a.put d x) cs:=by
 obtain ⟨⟨ts,h1,h2⟩,h3,h4,h5⟩:=r
 exact ⟨put_tm h1 h2 d hv,by rw [put_defers];exact h3,h4,h5⟩
theorem wantedA_eq {e : Env} {ops : Array Oper} {o : Oper} {tm : List AV} {ts : List Value} (h : concL e tm = some ts) : wantedA ops o tm = Region.wanted o (yielded ops ts.toArray):=by
 unfold wantedA Region.wanted
 cases hg : o.guard with
 | none=>rfl
 | some g =>
  obtain ⟨j,want⟩:=g
  simp only [yielded]
  cases hd : (ops[j]?).bind (·.dst) with
  | none=>simp
  | some d =>
   simp only [Option.bind_some,List.getElem?_toArray]
   cases hv : tm[d]? with
   | none =>
    have hl:=concL_length h
    have : ts[d]? = none:=by rw [List.getElem?_eq_none_iff] at hv ⊢;omega
    simp [this]
   | some v =>
    obtain ⟨x,hx,hc⟩:=concL_get h d v hv
    simp only [hx]
    cases v<;>simp only [conc,Option.some.injEq,Option.map_eq_some_iff,Option.bind_eq_some_iff] at hc <;>
     first | (subst hc;first | rfl | (cases want<;>simp)) | (obtain ⟨_,_,rfl⟩:=hc;simp) | (obtain ⟨_,_,_,_,rfl⟩:=hc;simp)
end Go.Abs
namespace Go.Abs
variable {P : Program} {b : Frame} {a : Act} {k : List Item} {cs : List Frame} {w w' : World} {ops : Array Oper} {i : Nat} {rest : List Nat} {o : Oper}
theorem stepA_value {v : Value} (ho : ops[i]? = some o) (hw : Region.wanted o (yielded ops a.tmps) = true) (hr : (o.semAt b.roundOf a.eval).run P w = .ok (.value v) w') :
 step P (lone (b.atR a (.inRegion ops (i :: rest) :: k)) cs w) = .next (lone (b.atR (a.put o.dst v) (.inRegion ops rest :: k)) cs w'):=by
 have hg:=stepGR_op (P:=P) (b:=b) (k:=k) (cs:=cs) (w:=w) (rest:=rest) ho hw
 have hfin : (b.atR a (.inRegion ops (i :: rest) :: k)).finish v = b.atR (a.put o.dst v) (.inRegion ops rest :: k):=by rw [Frame.finish_atR,ho];rfl
 refine step_lone_go ?_
 rw [hg,← hfin];simp [stepG.apply,hr]
theorem stepA_skip (ho : ops[i]? = some o) (hw : Region.wanted o (yielded ops a.tmps) = true) (hr : (o.semAt b.roundOf a.eval).run P w = .ok .skip w') :
 step P (lone (b.atR a (.inRegion ops (i :: rest) :: k)) cs w) = .next (lone (b.atR (a.put o.dst undef) (.inRegion ops rest :: k)) cs w'):=by
 have hg:=stepGR_op (P:=P) (b:=b) (k:=k) (cs:=cs) (w:=w) (rest:=rest) ho hw
 have hfin : (b.atR a (.inRegion ops (i :: rest) :: k)).finish undef = b.atR (a.put o.dst undef) (.inRegion ops rest :: k):=by rw [Frame.finish_atR,ho];rfl
 refine step_lone_go ?_
 rw [hg,← hfin];simp [stepG.apply,hr]
theorem stepA_defer {d : Deferred} (ho : ops[i]? = some o) (hw : Region.wanted o (yielded ops a.tmps) = true) (hr : (o.semAt b.roundOf a.eval).run P w = .ok (.defer d) w') :
 step P (lone (b.atR a (.inRegion ops (i :: rest) :: k)) cs w) = .next (lone (b.atR ({ a with defers:=d :: a.defers }.put o.dst undef) (.inRegion ops rest :: k)) cs w'):=by
 have hg:=stepGR_op (P:=P) (b:=b) (k:=k) (cs:=cs) (w:=w) (rest:=rest) ho hw
 refine step_lone_go ?_
 have : ({ b.atR a (.inRegion ops (i :: rest) :: k) with defers:=d :: a.defers } : Frame).finish undef =
  b.atR ({ a with defers:=d :: a.defers }.put o.dst undef) (.inRegion ops rest :: k):=by
  have:=Frame.finish_atR b { a with defers:=d :: a.defers } ops i rest k undef
  rw [ho] at this;exact this
 rw [hg];simp only [stepG.apply,Sem.runT_eq,hr,GStep.bare_after]
 exact congrArg (fun fr=>GStep.go { frame:=fr,callers:=cs,status:=.running,dying:=none } w') this
theorem stepA_enter {f : FuncId} {args : Array Value} (ho : ops[i]? = some o) (hw : Region.wanted o (yielded ops a.tmps) = true) (hr : (o.semAt b.roundOf a.eval).run P w = .ok (.enter f args) w') :
 step P (lone (b.atR a (.inRegion ops (i :: rest) :: k)) cs w) = .next (lone (Frame.enter P f args .normal) (b.atR a (.inRegion ops (i :: rest) :: k) :: cs) w'):=by
 have hg:=stepGR_op (P:=P) (b:=b) (k:=k) (cs:=cs) (w:=w) (rest:=rest) ho hw
 exact step_lone_go (by rw [hg];simp [stepG.apply,hr,Frame.atR])
theorem stepA_round {l : Nat} {f : FuncId} {tmps : Array Value} {aas bd : Code} (ho : ops[i]? = some o) (hw : Region.wanted o (yielded ops a.tmps) = true) (hr : (o.semAt b.roundOf a.eval).run P w = .ok (.round l f tmps aas bd) w') :
 step P (lone (b.atR a (.inRegion ops (i :: rest) :: k)) cs w) = .next (lone (Frame.round l f tmps aas bd .normal) (b.atR a (.inRegion ops (i :: rest) :: k) :: cs) w'):=by
 have hg:=stepGR_op (P:=P) (b:=b) (k:=k) (cs:=cs) (w:=w) (rest:=rest) ho hw
 exact step_lone_go (by rw [hg];simp [stepG.apply,hr,Frame.atR])
theorem stepA_panic {v : Value} (ho : ops[i]? = some o) (hw : Region.wanted o (yielded ops a.tmps) = true) (hr : (o.semAt b.roundOf a.eval).run P w = .halt (.panic v) w') :
 step P (lone (b.atR a (.inRegion ops (i :: rest) :: k)) cs w) = .next (lone { b.atR a (.inRegion ops (i :: rest) :: k) with mode:=.panicking [{ v,recovered:=false }] } cs w'):=by
 have hg:=stepGR_op (P:=P) (b:=b) (k:=k) (cs:=cs) (w:=w) (rest:=rest) ho hw
 exact step_lone_go (by rw [hg,← Frame.raise_atR];simp [stepG.apply,hr])
theorem stepA_recover {v : Value} {cs' : List Frame} (ho : ops[i]? = some o) (hw : Region.wanted o (yielded ops a.tmps) = true) (hr : (execOp a.eval o).run P w = .ok .recover w') (hb : b.roundOf = none) (ht : tryRecover (b.atR a (.inRegion ops (i :: rest) :: k)) cs = some (v,cs')) :
 step P (lone (b.atR a (.inRegion ops (i :: rest) :: k)) cs w) = .next (lone (b.atR (a.put o.dst v) (.inRegion ops rest :: k)) cs' w'):=by
 have hg:=stepGR_op (P:=P) (b:=b) (k:=k) (cs:=cs) (w:=w) (rest:=rest) ho hw
 rw [hb,Oper.semAt_none] at hg
 have hfin : (b.atR a (.inRegion ops (i :: rest) :: k)).finish v = b.atR (a.put o.dst v) (.inRegion ops rest :: k):=by rw [Frame.finish_atR,ho];rfl
 refine step_lone_go ?_
 rw [hg,← hfin]
 simp only [Frame.atR,hb] at ht ⊢
 simp [stepG.apply,hr,ht]
theorem stepA_recover0 (ho : ops[i]? = some o) (hw : Region.wanted o (yielded ops a.tmps) = true) (hr : (execOp a.eval o).run P w = .ok .recover w') (hb : b.roundOf = none) (ht : tryRecover (b.atR a (.inRegion ops (i :: rest) :: k)) cs = none) :
 step P (lone (b.atR a (.inRegion ops (i :: rest) :: k)) cs w) = .next (lone (b.atR (a.put o.dst .nilIface) (.inRegion ops rest :: k)) cs w'):=by
 have hg:=stepGR_op (P:=P) (b:=b) (k:=k) (cs:=cs) (w:=w) (rest:=rest) ho hw
 rw [hb,Oper.semAt_none] at hg
 have hfin : (b.atR a (.inRegion ops (i :: rest) :: k)).finish .nilIface = b.atR (a.put o.dst .nilIface) (.inRegion ops rest :: k):=by rw [Frame.finish_atR,ho];rfl
 refine step_lone_go ?_
 rw [hg,← hfin]
 simp only [Frame.atR,hb] at ht ⊢
 simp [stepG.apply,hr,ht]
def EndsAt (P : Program) (m : Machine) (c : Frame) (cs : List Frame) (e : Env) (r : Rt) (w : World) : Prop:=
 match r with
 | .ret v=>∃ x,conc e v = some x∧Steps P m (lone (c.finish x) cs w)
 | .pan v=>∃ x,conc e v = some x∧Steps P m (lone (c.raise [{ v:=x,recovered:=false }]) cs w)
def Starts (P : Program) (e : Env) (w : World) (tg : Tg) (xs : List Value) (m : Machine→Prop) (c : Frame) (cs : List Frame) : Prop:=
 match tg with
 | .fn f=>m (lone (Frame.enter P f xs.toArray .normal) (c :: cs) w)
 | .yld l=>∀ q,e l = some q→∃ r,w.heap[q.1]? = some (.loop r)∧xs.length = r.params.size∧m (lone (Frame.round q.1 r.fn ((r.params.zip xs.toArray).foldl (fun tmps (t,a)=>tmps.setIfInBounds t a) r.tmps) r.assign r.body .normal) (c :: cs) w)
def CallOk (P : Program) (call : CallF) : Prop:=
 ∀ tg args s r s',call tg args s = some (r,s')→∀ e w,Sim e s w→Free e s.next s'.next→∀ xs,concL e args = some xs→∀ (c : Frame) (cs : List Frame),
  ∃ e' w',Sim e' s' w'∧Goes e s w e' s' w'∧Starts P e w tg xs (fun m=>EndsAt P m c cs e' r w') c cs
theorem callFunc_run {f : FuncId} (h : enterable P f = true) (args : Array Value) (w : World) : (callFunc f args).run P w = .ok (.enter f args) w:=by
 unfold enterable at h
 split at h
 ·rename_i fn hf
  simp only [Bool.and_eq_true,bne_iff_ne,ne_eq] at h
  obtain ⟨h1,h2⟩:=h
  have h1' : ¬ ((fn.name == "runtime.NumGoroutine") = true) := by simpa using h1
  have h2' : ¬ (fn.body.isNone = true):=by cases hb : fn.body<;>simp [hb] at h2 ⊢
  simp only [callFunc,Sem.run_bind,run_program,Result.andThen_ok,hf,h1',if_false,h2',Bool.false_eq_true,Sem.run_pure]
 ·cases h
def Leads (P : Program) (e : Env) (w : World) (tg : Tg) (xs : List Value) (m : Sem Next) : Prop:=
 match tg with
 | .fn f=>m.run P w = .ok (.enter f xs.toArray) w
 | .yld l=>∃ q,e l = some q∧∀ r,w.heap[q.1]? = some (.loop r)→xs.length = r.params.size→m.run P w = .ok (.round q.1 r.fn ((r.params.zip xs.toArray).foldl (fun tmps (t,a)=>tmps.setIfInBounds t a) r.tmps) r.assign r.body) w
theorem find_count {fn : Func} (h : fn.name = "internal/bytealg.CountString") : Extern.find fn = some Extern.BytealgCount.count := by
 obtain ⟨⟩:=fn;subst h;kernel_rfl
theorem find_index {fn : Func} (h : fn.name = "internal/bytealg.IndexByteString") : Extern.find fn = some Extern.BytealgIndexByte.indexByte := by
 obtain ⟨⟩:=fn;subst h;kernel_rfl
theorem next_count {fn : Func} (h : fn.name = "internal/bytealg.CountString") (ho : fn.origin = "") : Extern.findNext fn = none := by
 obtain ⟨⟩:=fn;subst h;subst ho;kernel_rfl
theorem next_index {fn : Func} (h : fn.name = "internal/bytealg.IndexByteString") (ho : fn.origin = "") : Extern.findNext fn = none := by
 obtain ⟨⟩:=fn;subst h;subst ho;kernel_rfl
theorem externA_run {e : Env} {f : FuncId} {aas : List AV} {v : AV} {xs : List Value} (h : externA P f aas = some v) (hx : concL e aas = some xs) (w : World) : ∃ x,conc e v = some x∧(callFunc f xs.toArray).run P w = .ok (.value x) w:=by
 simp only [externA,Option.bind_eq_some_iff] at h
 obtain ⟨fn,hf,h⟩:=h
 split at h
 case isFalse=>cases h
 rename_i hb
 simp only [Bool.and_eq_true,beq_iff_eq] at hb
 obtain ⟨hb,ho⟩:=hb
 split at h
 ·rename_i hn
  simp only [beq_iff_eq] at hn
  split at h<;>simp only [reduceCtorEq,Option.some.injEq] at h
  subst h
  simp only [concL,conc,Option.bind_some,Option.map_some,Option.some.injEq] at hx
  subst hx
  refine ⟨_,rfl,?_⟩
  rw [run_callFunc_extern hf (by rw [hn];decide) hb (next_count hn ho) (find_count hn),Lib.run_countString];rfl
 ·split at h
  ·rename_i hn
   simp only [beq_iff_eq] at hn
   split at h<;>simp only [reduceCtorEq,Option.some.injEq] at h
   subst h
   simp only [concL,conc,Option.bind_some,Option.map_some,Option.some.injEq] at hx
   subst hx
   refine ⟨_,rfl,?_⟩
   rw [run_callFunc_extern hf (by rw [hn];decide) hb (next_index hn ho) (find_index hn),Lib.run_indexByteString];rfl
  ·cases h
theorem externC_run {e : Env} {w : World} {α : Operand→Option AV} {ρ : Operand→Value} (hr : Reads e α ρ) {c : Call} {v : AV} (h : externC P α c = some v) (ty : TypeId) :
 ∃ x,conc e v = some x∧(do let d ← resolve ρ c ty;invoke d.target d.args : Sem Next).run P w = .ok (.value x) w:=by
 unfold externC at h
 split at h
 case h_2=>cases h
 rename_i x hcx
 simp only [Option.bind_eq_some_iff] at h
 obtain ⟨u,hv,us,hus,h⟩:=h
 have hx:=hr x u hv
 have hargs:=argL_map hr hus
 split at h
 case h_2=>cases h
 rename_i f
 simp only [conc,concL,Option.bind_some,Option.map_some,Option.some.injEq] at hx
 obtain ⟨y,hy,hrun⟩:=externA_run (P:=P) h hargs w
 refine ⟨y,hy,?_⟩
 simp only [resolve,hcx,← hx,Deferred.ofValue,Sem.run_bind,Sem.run_pure,Result.andThen_ok,invoke]
 rw [show (c.args.map ρ).toList.toArray = (#[] ++ c.args.map ρ ++ #[] : Array Value) by apply Array.toList_inj.1;simp] at hrun
 exact hrun
theorem calleeA_run {e : Env} {w : World} {α : Operand→Option AV} {ρ : Operand→Value} (hr : Reads e α ρ) {c : Call} {tg : Tg} {aas : List AV} (h : calleeA P α c = some (tg,aas)) (ty : TypeId) :
 ∃ xs,concL e aas = some xs∧Leads P e w tg xs (do let d ← resolve ρ c ty;invoke d.target d.args : Sem Next):=by
 unfold calleeA at h
 split at h
 ·rename_i x hcx
  simp only [Option.bind_eq_some_iff] at h
  obtain ⟨v,hv,us,hus,h⟩:=h
  have hx:=hr x v hv
  have hargs:=argL_map hr hus
  split at h
  ·rename_i f first cap
   split at h<;>simp only [reduceCtorEq,Option.some.injEq,Prod.mk.injEq] at h
   rename_i hen
   obtain ⟨rfl,rfl⟩:=h
   simp only [conc,Option.bind_eq_some_iff,Option.map_eq_some_iff] at hx
   obtain ⟨fs,hfs,cs,hcs,hx⟩:=hx
   refine ⟨_,concL_append (concL_append hfs hargs) hcs,?_⟩
   unfold Leads
   simp only [resolve,hcx,← hx,Deferred.ofValue,Sem.run_bind,Sem.run_pure,Result.andThen_ok,invoke]
   rw [callFunc_run hen]
   congr 2
   apply Array.toList_inj.1;simp
  ·rename_i l
   simp only [Option.some.injEq,Prod.mk.injEq] at h
   obtain ⟨rfl,rfl⟩:=h
   simp only [conc,Option.map_eq_some_iff] at hx
   obtain ⟨p,hp,hx⟩:=hx
   refine ⟨_,hargs,p,hp,fun r hb hl=>?_⟩
   have hgo : (getObj p.1).run P w = .ok (.loop r) w:=by simp [getObj,Sem.run,hb]
   have he : (#[] ++ c.args.map ρ : Array Value) = (c.args.map ρ).toList.toArray:=by apply Array.toList_inj.1;simp
   have hsz : ¬ (((c.args.map ρ).toList.toArray : Array Value).size ≠ r.params.size):=by simp at hl ⊢;exact hl
   simp only [resolve,hcx,← hx,Deferred.ofValue,Sem.run_bind,Sem.run_pure,Result.andThen_ok,invoke,he,Instr.yield,Instr.getLoop,hgo,hsz,if_false]
  ·cases h
 ·rename_i x name hcx
  simp only [Option.bind_eq_some_iff] at h
  obtain ⟨v,hv,us,hus,h⟩:=h
  have hx:=hr x v hv
  have hargs:=argL_map hr hus
  split at h
  ·rename_i t u
   simp only [Option.bind_eq_some_iff] at h
   obtain ⟨inf,hinf,m,hm,h⟩:=h
   split at h
   ·rename_i f d hpath hfun hu
    split at h<;>simp only [reduceCtorEq,Option.some.injEq,Prod.mk.injEq] at h
    rename_i hc
    obtain ⟨rfl,rfl⟩:=h
    simp only [Bool.and_eq_true] at hc
    simp only [conc,Option.map_eq_some_iff] at hx
    obtain ⟨y,hy,hx⟩:=hx
    refine ⟨y :: (c.args.map ρ).toList,by simp [concL,hy,hargs],?_⟩
    unfold Leads
    have hmeth : ∀ n,(method (n + 1) t y name).run P w = .ok (f,y) w:=fun n=>by
     have hm' : inf.methods.find? (fun x=>x.name == name) = some m:=hm
     simp only [method,Sem.run_bind,run_typeInfo w hinf,Result.andThen_ok,hm',hpath,follow,Sem.run_pure,hfun]
     cases d<;>first | (exact absurd hc.1 Bool.false_ne_true) | simp [receiverAt,run_underlying hu,Place.get]
    obtain ⟨n,hn⟩ : ∃ n,P.types.size + Made.depth = n + 1:=⟨P.types.size + Made.depth - 1,by
     have : Made.depth > 0:=by decide
     omega⟩
    simp only [resolve,hcx,← hx,Sem.run_bind,Sem.run_pure,Result.andThen_ok,invoke]
    have hg0 : (#[Value.iface t y] ++ c.args.map ρ)[0]? = some (Value.iface t y):=by rw [Array.getElem?_append_left (by simp)];rfl
    simp only [hg0,callMethod,Sem.run_bind,run_program,Result.andThen_ok,hn,hmeth]
    rw [callFunc_run hc.2]
    congr 2
    apply Array.toList_inj.1
    simp [List.take_of_length_le]
   ·cases h
  ·cases h
 ·cases h
end Go.Abs
namespace Go.Abs
variable {P : Program}
def Panics (P : Program) (m : Machine) (b : Frame) (a : Act) (cs : List Frame) (w : World) (e : Env) (v : AV) : Prop:=
 ∃ x,conc e v = some x∧∃ todo,Steps P m (lone { b.atR a todo with mode:=.panicking [{ v:=x,recovered:=false }] } cs w)
def OpEnds (P : Program) (m : Machine) (b : Frame) (ops : Array Oper) (rest : List Nat) (k : List Item) (a : Act) (cs : List Frame) (w : World) (e : Env) : Option AV→Prop
 | none=>Steps P m (lone (b.atR a (.inRegion ops rest :: k)) cs w)
 | some v=>Panics P m b a cs w e v
theorem OpEnds.of_steps {m m₁ : Machine} {b : Frame} {ops : Array Oper} {rest : List Nat} {k : List Item} {a : Act} {cs : List Frame} {w : World} {e : Env} {p : Option AV} (h : Steps P m m₁) (h' : OpEnds P m₁ b ops rest k a cs w e p) : OpEnds P m b ops rest k a cs w e p:=by
 cases p with
 | none=>exact h.trans h'
 | some v=>obtain ⟨x,hx,todo,hs⟩:=h';exact ⟨x,hx,todo,h.trans hs⟩
theorem conc_undef (e : Env) : conc e (.tup []) = some undef:=by simp [conc,concL,undef]
def XEnds (P : Program) (b : Frame) (cs : List Frame) (a : Act) (ops : Array Oper) (o : Oper) (i : Nat) (rest : List Nat) (k : List Item) (ro : Option Nat) (rc : RC) (e : Env) (s s' : St) (w : World) (r : OR) : Prop:=
 match r with
 | .put v=>∃ e' w',Sim e' s' w'∧Goes e s w e' s' w'∧∃ x,conc e' v = some x∧Steps P (lone (b.atR a (.inRegion ops (i :: rest) :: k)) cs w) (lone (b.atR (a.put o.dst x) (.inRegion ops rest :: k)) cs w')
 | .pan v=>∃ e' w',Sim e' s' w'∧Goes e s w e' s' w'∧Panics P (lone (b.atR a (.inRegion ops (i :: rest) :: k)) cs w) b a cs w' e' v
 | .dfr d=>s' = s∧ro = none∧∃ D,concD e d = some D∧(b.roundOf = none→Steps P (lone (b.atR a (.inRegion ops (i :: rest) :: k)) cs w) (lone (b.atR ({ a with defers:=D :: a.defers }.put o.dst undef) (.inRegion ops rest :: k)) cs w))
 | .rcv v=>s' = s∧ro = none∧(rc = .pend v∨rc = .quiet∧v = .nilIface)∧(execOp a.eval o).run P w = .ok .recover w
theorem opX_run {call : CallF} (hcall : CallOk P call) {e : Env} {s s' : St} {w : World} {b : Frame} {cs : List Frame} {a : Act} {ops : Array Oper} {o : Oper} {i : Nat} {α : Operand→Option AV} {ro : Option Nat} {rc : RC} {r : OR}
 (h : opX P call o α ro rc s = some (r,s')) (hs : Sim e s w) (hrd : Reads e α a.eval) (hf : Free e s.next s'.next) (ho : ops[i]? = some o) (hw' : Region.wanted o (yielded ops a.tmps) = true) (rest : List Nat) (k : List Item) :
 XEnds P b cs a ops o i rest k ro rc e s s' w r:=by
 unfold opX at h
 split at h
 ·rename_i v hv
  simp only [Option.some.injEq,Prod.mk.injEq] at h
  obtain ⟨rfl,rfl⟩:=h
  obtain ⟨x,hx,hrun⟩:=pureOp_run (P:=P) hrd hv w
  have hnd : ∀ c,o.op ≠ .defer c:=fun c hc=>by simp [pureOp,hc] at hv
  exact ⟨e,w,hs,Goes.refl ..,x,hx,.one (stepA_value ho hw' (by rw [Oper.semAt_eq _ _ _ hnd];exact hrun))⟩
 split at h
 ·rename_i r s1 hv
  simp only [Option.some.injEq,Prod.mk.injEq] at h
  obtain ⟨rfl,rfl⟩:=h
  have hnd : ∀ c,o.op ≠ .defer c:=fun c hc=>by simp [heapOp,hc] at hv
  obtain ⟨e',w',g1,g2,g3⟩:=heapOp_run (P:=P) hs hrd hv hf
  cases r with
  | none =>
   simp only at g3
   exact ⟨e',w',g1,g2,undef,conc_undef e',.one (stepA_skip ho hw' (by rw [Oper.semAt_eq _ _ _ hnd];exact g3))⟩
  | some v =>
   simp only at g3
   obtain ⟨x,hx,hrun⟩:=g3
   exact ⟨e',w',g1,g2,x,hx,.one (stepA_value ho hw' (by rw [Oper.semAt_eq _ _ _ hnd];exact hrun))⟩
 split at h
 ·rename_i args ats hop
  split at h
  case h_3=>cases h
  ·rename_i v
   simp only [Option.some.injEq,Prod.mk.injEq] at h
   obtain ⟨rfl,rfl⟩:=h
   exact ⟨rfl,rfl,.inl rfl,by simp [execOp,hop,resolve,invoke,builtin]⟩
  ·simp only [Option.some.injEq,Prod.mk.injEq] at h
   obtain ⟨rfl,rfl⟩:=h
   exact ⟨rfl,rfl,.inr ⟨rfl,rfl⟩,by simp [execOp,hop,resolve,invoke,builtin]⟩
 ·rename_i c _ hop
  have hnd0 : ∀ c,o.op ≠ .defer c:=fun c hc=>by rw [hop] at hc;cases hc
  split at h
  case h_2 =>
   simp only [Option.map_eq_some_iff,Prod.mk.injEq] at h
   obtain ⟨v,hv,rfl,rfl⟩:=h
   obtain ⟨x,hx,hrun⟩:=externC_run (P:=P) (w:=w) hrd hv o.type
   exact ⟨e,w,hs,Goes.refl ..,x,hx,.one (stepA_value ho hw' (by rw [Oper.semAt_eq _ _ _ hnd0];simp only [execOp,hop];exact hrun))⟩
  rename_i tg aas hc
  simp only [Option.map_eq_some_iff] at h
  obtain ⟨⟨r1,s1⟩,hr,h⟩:=h
  obtain ⟨xs,hxs,hlead⟩:=calleeA_run (P:=P) (w:=w) hrd hc o.type
  have hnd : ∀ c,o.op ≠ .defer c:=fun c hc=>by rw [hop] at hc;cases hc
  simp only [Prod.mk.injEq] at h
  obtain ⟨hr0,rfl⟩:=h
  obtain ⟨e',w',g1,g2,g3⟩:=hcall _ _ _ _ _ hr e w hs hf xs hxs (b.atR a (.inRegion ops (i :: rest) :: k)) cs
  have key : ∃ m,Steps P (lone (b.atR a (.inRegion ops (i :: rest) :: k)) cs w) m∧EndsAt P m (b.atR a (.inRegion ops (i :: rest) :: k)) cs e' r1 w':=by
   cases tg with
   | fn f =>
    refine ⟨_,.one (stepA_enter ho hw' ?_),g3⟩
    rw [Oper.semAt_eq _ _ _ hnd];simp only [execOp,hop];exact hlead
   | yld l =>
    obtain ⟨q,hq,hl⟩:=hlead
    obtain ⟨rl,h1,h2,h3⟩:=g3 q hq
    refine ⟨_,.one (stepA_round ho hw' ?_),h3⟩
    rw [Oper.semAt_eq _ _ _ hnd];simp only [execOp,hop];exact hl rl h1 h2
  obtain ⟨m,hm,hend⟩:=key
  cases r1 with
  | ret v =>
   subst hr0
   obtain ⟨x,hx,hst⟩:=hend
   have hfin : (b.atR a (.inRegion ops (i :: rest) :: k)).finish x = b.atR (a.put o.dst x) (.inRegion ops rest :: k):=by rw [Frame.finish_atR,ho];rfl
   rw [hfin] at hst
   exact ⟨e',w',g1,g2,x,hx,hm.trans hst⟩
  | pan v =>
   subst hr0
   obtain ⟨x,hx,hst⟩:=hend
   rw [Frame.raise_atR] at hst
   exact ⟨e',w',g1,g2,x,hx,_,hm.trans hst⟩
 ·rename_i x hop
  simp only [Option.bind_eq_some_iff] at h
  obtain ⟨v,hv,h⟩:=h
  have hx:=hrd x v hv
  have hnd : ∀ c,o.op ≠ .defer c:=fun c hc=>by rw [hop] at hc;cases hc
  split at h
  case h_2=>cases h
  rename_i t u
  simp only [Option.some.injEq,Prod.mk.injEq] at h
  obtain ⟨rfl,rfl⟩:=h
  refine ⟨e,w,hs,Goes.refl ..,_,hx,_,.one (stepA_panic ho hw' ?_)⟩
  simp only [conc,Option.map_eq_some_iff] at hx
  obtain ⟨y,hy,hx⟩:=hx
  rw [Oper.semAt_eq _ _ _ hnd]
  simp [execOp,hop,← hx,Instr.panic]
 ·rename_i c hop
  split at h
  case h_2=>cases h
  rename_i x hcal
  simp only [Option.bind_eq_some_iff] at h
  obtain ⟨v,hv,aas,has,h⟩:=h
  have hx:=hrd x v hv
  have hargs:=argL_map hrd has
  split at h
  case h_2=>cases h
  rename_i f first cap
  split at h<;>simp only [reduceCtorEq,Option.some.injEq,Prod.mk.injEq] at h
  obtain ⟨rfl,rfl⟩:=h
  simp only [conc,Option.bind_eq_some_iff,Option.map_eq_some_iff] at hx
  obtain ⟨fs,hfs,cps,hcps,hx⟩:=hx
  refine ⟨rfl,rfl,{ target:=.fn (.func f) cps.toArray,args:=fs.toArray ++ c.args.map a.eval },?_,fun hb=>.one (stepA_defer ho hw' ?_)⟩
  ·simp only [concD,concL_append hfs hargs,hcps,Option.bind_some,Option.map_some,Option.some.injEq,Deferred.mk.injEq,true_and]
   apply Array.toList_inj.1;simp
  ·rw [hb,Oper.semAt_none]
   simp [execOp,hop,resolve,hcal,← hx,Deferred.ofValue]
 ·cases h
theorem opA_run {call : CallF} (hcall : CallOk P call) {e : Env} {s s' : St} {w : World} {fr fr' : Fr} {b : Frame} {cs0 cs : List Frame} {a : Act} {ops : Array Oper} {o : Oper} {i : Nat} {p : Option AV}
 (h : opA P call ops o fr s = some (p,fr',s')) (hs : Sim e s w) (hfr : FR e fr b cs0 a cs) (hf : Free e s.next s'.next) (ho : ops[i]? = some o) (rest : List Nat) (k : List Item) :
 ∃ e' w' a' cs',Sim e' s' w'∧Goes e s w e' s' w'∧FR e' fr' b cs0 a' cs'∧OpEnds P (lone (b.atR a (.inRegion ops (i :: rest) :: k)) cs w) b ops rest k a' cs' w' e' p:=by
 have hrd:=hfr.reads
 obtain ⟨ts,hts,hta⟩:=hfr.tm
 have hwe : wantedA ops o fr.tm = Region.wanted o (yielded ops a.tmps):=by rw [hta];exact wantedA_eq hts
 unfold opA at h
 split at h
 case isFalse hw =>
  simp only [Option.some.injEq,Prod.mk.injEq] at h
  obtain ⟨rfl,rfl,rfl⟩:=h
  refine ⟨e,w,a.put o.dst undef,cs,hs,Goes.refl ..,hfr.put o.dst (conc_undef e),?_⟩
  have:=stepR_op_skip (P:=P) (b:=b) (a:=a) (k:=k) (cs:=cs) (w:=w) (ops:=ops) (i:=i) (rest:=rest) (by simp only [ho,Option.map_some,Option.getD_some,← hwe];simpa using hw)
  simp only [ho,Option.bind_some] at this
  exact .one this
 rename_i hw
 have hw' : Region.wanted o (yielded ops a.tmps) = true:=hwe ▸ hw
 simp only [Option.map_eq_some_iff] at h
 obtain ⟨⟨r,s1⟩,hr,h⟩:=h
 have hs1 : s1 = s':=by cases r<;>simp only [Prod.mk.injEq] at h<;>exact h.2.2
 subst hs1
 have hx:=opX_run (b:=b) (cs:=cs) hcall hr hs hrd hf ho hw' rest k
 cases r with
 | put v =>
  simp only [Prod.mk.injEq] at h
  obtain ⟨rfl,rfl,_⟩:=h
  obtain ⟨e',w',g1,g2,x,hx,hst⟩:=hx
  exact ⟨e',w',a.put o.dst x,cs,g1,g2,(hfr.le g2.le).put o.dst hx,hst⟩
 | pan v =>
  simp only [Prod.mk.injEq] at h
  obtain ⟨rfl,rfl,_⟩:=h
  obtain ⟨e',w',g1,g2,hp⟩:=hx
  exact ⟨e',w',a,cs,g1,g2,hfr.le g2.le,hp⟩
 | dfr d =>
  simp only [Prod.mk.injEq] at h
  obtain ⟨rfl,rfl,_⟩:=h
  obtain ⟨rfl,hro,D,hD,hst⟩:=hx
  obtain ⟨_,hdf,hr4,hr5⟩:=hfr
  simp only [hro] at hr4
  exact ⟨e,w,_,cs,hs,Goes.refl ..,⟨put_tm (a:={ a with defers:=_ :: a.defers }) hts hta o.dst (conc_undef e),by rw [put_defers];simp [concDL,hD,hdf],by simp only [hro];exact hr4,hr5⟩,hst hr4⟩
 | rcv v =>
  simp only [Prod.mk.injEq] at h
  obtain ⟨rfl,rfl,_⟩:=h
  obtain ⟨rfl,hro,hrc,hrun⟩:=hx
  obtain ⟨_,hdf,hr4,hr5⟩:=hfr
  simp only [hro] at hr4
  rcases hrc with hrc | ⟨hrc,rfl⟩
  case inr =>
   simp only [hrc,CsOk] at hr5
   obtain ⟨hkind,c,cr,hc0,hm,hcs⟩:=hr5
   refine ⟨e,w,a.put o.dst .nilIface,cs,hs,Goes.refl ..,⟨put_tm hts hta o.dst (v:=.nilIface) rfl,by rw [put_defers];exact hdf,by simp only [hro];exact hr4,?_⟩,?_⟩
   ·simp only [hrc,RC.got,CsOk];exact ⟨hkind,c,cr,hc0,hm,hcs⟩
   ·refine .one (stepA_recover0 ho hw' hrun hr4 ?_)
    rw [hcs,hc0]
    simp [tryRecover,Frame.atR,hkind,hm]
  simp only [hrc,CsOk] at hr5
  obtain ⟨hkind,c,cr,x,hc0,hx,hcs⟩:=hr5
  subst hcs
  simp only [hrc,RC.got]
  refine ⟨e,w,a.put o.dst x,{ c with mode:=.panicking [{ v:=x,recovered:=true }] } :: cr,hs,Goes.refl ..,⟨put_tm hts hta o.dst hx,by rw [put_defers];exact hdf,by simp only [hro];exact hr4,?_⟩,?_⟩
  ·exact ⟨hkind,c,cr,x,hc0,hx,rfl⟩
  ·refine .one (stepA_recover ho hw' hrun hr4 ?_)
   simp [tryRecover,Frame.atR,hkind]
noncomputable def evOps (P : Program) (call : CallF) (ops : Array Oper) : List Oper→Fr→St→Option (Option AV × Fr × St)
 | [],fr,s=>some (none,fr,s)
 | o :: r,fr,s=>(opA P call ops o fr s).bind fun x=>match x with
  | (some v,fr1,s1)=>some (some v,fr1,s1)
  | (none,fr1,s1)=>(evOps P call ops r fr1 s1).bind fun y=>if s1.next≤y.2.2.next then some y else none
theorem evOps_run {call : CallF} (hcall : CallOk P call) {ops : Array Oper} : ∀ (l : List Oper) (n : Nat),(∀ j,l[j]? = ops[n + j]?)→∀ {e : Env} {s s' : St} {w : World} {fr fr' : Fr} {b : Frame} {cs0 cs : List Frame} {a : Act} {p : Option AV},
 evOps P call ops l fr s = some (p,fr',s')→Sim e s w→FR e fr b cs0 a cs→Free e s.next s'.next→∀ (k : List Item),
 ∃ e' w' a' cs',Sim e' s' w'∧Goes e s w e' s' w'∧FR e' fr' b cs0 a' cs'∧OpEnds P (lone (b.atR a (.inRegion ops (List.range' n l.length) :: k)) cs w) b ops [] k a' cs' w' e' p
 | [],n,hl,e,s,s',w,fr,fr',b,cs0,cs,a,p,h,hs,hfr,hf,k=>by
  simp only [evOps,Option.some.injEq,Prod.mk.injEq] at h
  obtain ⟨rfl,rfl,rfl⟩:=h
  exact ⟨e,w,a,cs,hs,Goes.refl ..,hfr,Steps.refl P _⟩
 | o :: l,n,hl,e,s,s',w,fr,fr',b,cs0,cs,a,p,h,hs,hfr,hf,k=>by
  have ho : ops[n]? = some o:=by simpa using (hl 0).symm
  simp only [evOps,Option.bind_eq_some_iff] at h
  obtain ⟨⟨p1,fr1,s1⟩,h1,h⟩:=h
  simp only [List.length_cons,List.range'_succ]
  cases p1 with
  | some v =>
   simp only [Option.some.injEq,Prod.mk.injEq] at h
   obtain ⟨rfl,rfl,rfl⟩:=h
   exact opA_run hcall h1 hs hfr hf ho _ k
  | none =>
   simp only [Option.bind_eq_some_iff] at h
   obtain ⟨⟨p2,fr2,s2⟩,h2,h⟩:=h
   split at h<;>simp only [reduceCtorEq,Option.some.injEq,Prod.mk.injEq] at h
   rename_i hle
   obtain ⟨rfl,rfl,rfl⟩:=h
   simp only at hle
   obtain ⟨e1,w1,a1,cs1,g1,g2,g3,g4⟩:=opA_run hcall h1 hs hfr (fun m hm1 hm2=>hf m hm1 (Nat.lt_of_lt_of_le hm2 hle)) ho (List.range' (n + 1) l.length) k
   have hf1 : Free e1 s1.next s2.next:=g2.free (fun m hm1 hm2=>hf m (Nat.le_trans g2.next hm1) hm2) (Nat.le_refl _)
   obtain ⟨e2,w2,a2,cs2,q1,q2,q3,q4⟩:=evOps_run hcall l (n + 1) (fun j=>by have:=hl (j + 1);simpa [Nat.add_assoc,Nat.add_comm 1 j] using this) h2 g1 g3 hf1 k
   exact ⟨e2,w2,a2,cs2,q1,g2.trans q2,q3,OpEnds.of_steps g4 q4⟩
end Go.Abs
namespace Go.Abs
noncomputable def setAll (h : Tr Blk) (g : Tr Blk) (L : List Nat) : Tr Blk:=L.foldl (fun h n=>h.set n (g.get n)) h
theorem setAll_get (g : Tr Blk) : ∀ (L : List Nat) (h : Tr Blk) (n : Nat),(setAll h g L).get n = if n ∈ L then g.get n else h.get n
 | [],h,n=>by simp [setAll]
 | m :: L,h,n=>by
  have:=setAll_get g L (h.set m (g.get m)) n
  simp only [setAll,List.foldl_cons] at this ⊢
  rw [this,Tr.get_set]
  by_cases h1 : n ∈ L
  ·simp [h1]
  ·by_cases h2 : n = m
   ·subst h2;simp [h1]
   ·simp [h1,h2]
noncomputable def St.over (T I : St) : St:={ heap:=setAll T.heap I.heap I.log,next:=I.next,log:=I.log ++ T.log }
def SubH (I T : St) : Prop:=∀ n x,I.heap.get n = some x→T.heap.get n = some x
theorem over_sim {e e' : Env} {T I I' : St} {w w' : World} (hT : Sim e T w) (hsub : SubH I T) (hg : Goes e I w e' I' w') (hS : Sim e' I' w') (hd : ∀ n,n ∈ I'.log→T.heap.get n = I.heap.get n) :
 Sim e' (T.over I') w'∧(∀ b,b < w.heap.size→Own e' (T.over I') b→Own e T b)∧(∀ b,b < w.heap.size→Met e' (T.over I') b→Met e T b)∧(∀ b,b < w.heap.size→¬ Own e T b→w'.heap[b]? = w.heap[b]?):=by
 have ownsub : ∀ b,Own e I b→Own e T b:=fun b ⟨n,x,q,h1,h2⟩=>⟨n,x,q,hsub n x h1,h2⟩
 have metsub : ∀ b,Met e I b→Met e T b:=fun b ⟨n,x,q,h1,h2⟩=>⟨n,x,q,hsub n x h1,h2⟩
 have part : ∀ n x,(T.over I').heap.get n = some x→I'.heap.get n = some x∨(I.heap.get n = none∧T.heap.get n = some x):=by
  intro n x hx
  simp only [St.over,setAll_get] at hx
  split at hx
  ·exact .inl hx
  ·rename_i hn
   cases hi : I.heap.get n with
   | none=>exact .inr ⟨rfl,hx⟩
   | some y =>
    have:=hsub n y hi
    rw [hx] at this;cases this
    exact .inl ((hg.log n hn).trans hi)
 have aside : ∀ n x b q,I.heap.get n = none→T.heap.get n = some x→e n = some (b,q)→¬ Own e I b:=by
  rintro n x b q hi hx he ⟨m,y,q',hm,hr,hem⟩
  have:=hT.inj m n b q' q _ _ (hsub m y hm) hr hx hem he
  subst this;rw [hi] at hm;cases hm
 have key : ∀ n x m y b q q',I.heap.get n = none→T.heap.get n = some x→I'.heap.get m = some y→(x.rw∨y.rw)→e' n = some (b,q)→e' m = some (b,q')→False:=by
  intro n x m y b q q' hi hx hy hr en em
  obtain ⟨b1,q1,ob,he,_,_⟩:=hT.at_ n x hx
  have:=hg.le n _ he
  rw [en] at this;cases this
  have hb:=hT.bound n _ _ he
  rcases hr with hr | hr
  ·obtain ⟨m0,y0,q0,h1,h2⟩:=hg.met _ hb ⟨m,y,q',hy,em⟩
   have:=hT.inj n m0 _ _ _ _ _ hx hr (hsub m0 y0 h1) he h2
   subst this;rw [hi] at h1;cases h1
  ·exact aside n x _ _ hi hx he (hg.own _ hb ⟨m,y,q',hy,hr,em⟩)
 refine ⟨⟨?_,?_,hS.bound⟩,?_,?_,fun b hb no=>hg.frame b hb fun o=>no (ownsub b o)⟩
 ·intro n x hx
  rcases part n x hx with h | ⟨hi,h⟩
  ·exact hS.at_ n x h
  ·obtain ⟨b,q,ob,he,hb,hr⟩:=hT.at_ n x h
   refine ⟨b,q,ob,hg.le _ _ he,?_,hr.le hg.le⟩
   rw [hg.frame b (hT.bound n b q he) (aside n x b q hi h he)];exact hb
 ·intro n m b q q' x y hx hxr hy en em
  rcases part n x hx with h1 | ⟨i1,h1⟩<;>rcases part m y hy with h2 | ⟨i2,h2⟩
  ·exact hS.inj n m b q q' _ _ h1 hxr h2 en em
  ·exact (key m y n x b q' q i2 h2 h1 (.inr hxr) em en).elim
  ·exact (key n x m y b q q' i1 h1 h2 (.inl hxr) en em).elim
  ·obtain ⟨b1,q1,_,he1,_,_⟩:=hT.at_ n x h1
   obtain ⟨b2,q2,_,he2,_,_⟩:=hT.at_ m y h2
   have a1:=hg.le n _ he1
   have a2:=hg.le m _ he2
   rw [en] at a1;rw [em] at a2;cases a1;cases a2
   exact hT.inj n m b q q' _ _ h1 hxr h2 he1 he2
 ·rintro b hb ⟨n,x,q,hx,hr,hn⟩
  rcases part n x hx with h | ⟨hi,h⟩
  ·exact ownsub b (hg.own b hb ⟨n,x,q,h,hr,hn⟩)
  ·obtain ⟨b1,q1,_,he,_,_⟩:=hT.at_ n x h
   have:=hg.le n _ he
   rw [hn] at this;cases this
   exact ⟨n,x,q,h,hr,he⟩
 ·rintro b hb ⟨n,x,q,hx,hn⟩
  rcases part n x hx with h | ⟨hi,h⟩
  ·exact metsub b (hg.met b hb ⟨n,x,q,h,hn⟩)
  ·obtain ⟨b1,q1,_,he,_,_⟩:=hT.at_ n x h
   have:=hg.le n _ he
   rw [hn] at this;cases this
   exact ⟨n,x,q,h,he⟩
mutual
def namesA : AV→List Nat→List Nat
 | .ptr n _,acc | .slice n _ _ _,acc | .opn n _,acc | .yld n,acc | .map n,acc=>n :: acc
 | .func _ aas cs,acc=>namesL aas (namesL cs acc)
 | .iface _ v,acc=>namesA v acc
 | .agg cs,acc | .tup cs,acc=>namesL cs acc
 | _,acc=>acc
def namesL : List AV→List Nat→List Nat
 | [],acc=>acc
 | v :: vs,acc=>namesA v (namesL vs acc)
end
def namesM : List (AV × AV × Nat)→List Nat→List Nat
 | [],acc=>acc
 | (k,v,_) :: es,acc=>namesA k (namesA v (namesM es acc))
def namesB : Option Blk→List Nat→List Nat
 | some (.cells _ _ cs),acc=>namesL cs acc
 | some (.map es _),acc=>namesM es acc
 | some (.ro _ _ cs),acc=>namesL cs acc
 | some (.loop _ _ tm _ _ _ d),acc=>d :: namesL tm acc
 | _,acc=>acc
noncomputable def reach (h : Tr Blk) (c : Nat) : Nat→List Nat→Tr Unit→List Nat→List Nat
 | 0,_,_,acc=>acc
 | _ + 1,[],_,acc=>acc
 | k + 1,n :: work,seen,acc=>if n < c then reach h c k work seen acc else
  match seen.get n with
  | some _=>reach h c k work seen acc
  | none=>reach h c k (namesB (h.get n) work) (seen.set n (some ())) (n :: acc)
def namesR : Rt→List Nat
 | .ret v=>namesA v []
 | .pan v=>namesA v []
noncomputable def collect (s I : St) (r : Rt) : St:=
 let old:=I.log.filter fun n=>decide (n < s.next) || decide (I.next≤n)
 let L:=old ++ reach I.heap s.next 100000 (old.foldr (fun n acc=>namesB (I.heap.get n) acc) (namesR r)) .leaf []
 { heap:=setAll s.heap I.heap L,next:=I.next,log:=L ++ s.log }
theorem collect_run {e e' : Env} {s I : St} {w w' : World} {r : Rt} (hs : Sim e s w) (hf : Free e s.next I.next) (hg : Goes e { s with log:=[] } w e' I w') (hS : Sim e' I w') :
 Sim e' (collect s I r) w'∧Goes e s w e' (collect s I r) w':=by
 have hsub : SubH { s with log:=[] } s:=fun _ _ h=>h
 obtain ⟨g1,g2,g2m,g3⟩:=over_sim (T:=s) (I:={ s with log:=[] }) hs hsub hg hS (fun _ _=>rfl)
 have sub : SubH (collect s I r) (s.over I):=by
  intro n x hx
  simp only [collect,St.over,setAll_get,List.mem_append,List.mem_filter] at hx ⊢
  by_cases hn : n ∈ I.log
  ·rw [if_pos hn]
   split at hx
   ·exact hx
   ·rename_i hno
    simp only [not_or,not_and,Bool.or_eq_true,decide_eq_true_eq] at hno
    have h1:=hno.1 hn
    have : e n = none:=hf n (by omega) (by omega)
    rw [hs.none_of_free this] at hx;cases hx
  ·rw [if_neg hn]
   split at hx
   ·have:=hg.log n hn
    simp only at this
    rw [this] at hx;exact hx
   ·exact hx
 refine ⟨g1.sub sub,⟨hg.le,hg.rng,?_,?_,g3,hg.size,hg.os,hg.tape,hg.output,?_,?_,hg.next⟩⟩
 ·rintro b hb ⟨n,x,q,hx,hr,hn⟩
  exact g2 b hb ⟨n,x,q,sub n x hx,hr,hn⟩
 ·rintro b hb ⟨n,x,q,hx,hn⟩
  exact g2m b hb ⟨n,x,q,sub n x hx,hn⟩
 ·intro n hn
  simp only [collect,List.mem_append,not_or] at hn ⊢
  rw [setAll_get,if_neg]
  simp only [List.mem_append,not_or]
  exact hn.1
 ·intro n hn
  simp only [collect,List.mem_append]
  exact .inr hn
end Go.Abs
namespace Go.Abs
structure DE where
 o : Oper
 m : Nat
 v : AV
 hp : Tr Blk
 lg : List Nat
 c : Nat
 c' : Nat
 ih : Tr Blk
noncomputable def foldH (S : Nat→Bool) (h : Tr Blk) : List DE→Tr Blk
 | []=>h
 | x :: r=>if S r.length then setAll (foldH S h r) x.hp x.lg else foldH S h r
noncomputable def foldT (S : Nat→Bool) (tm : List AV) : List DE→List AV
 | []=>tm
 | x :: r=>if S r.length then putA x.o.dst x.v (foldT S tm r) else foldT S tm r
def atE : List DE→Nat→Option DE
 | [],_=>none
 | x :: r,i=>if i = r.length then some x else atE r i
def ancOf (E : List DE) : List Edge→Option Nat
 | []=>some 0
 | e :: es=>(ancOf E es).bind fun m=>if Region.binds .any e then (atE E e.on).map fun y=>(m ||| 2 ^ e.on) ||| y.m else some m
def qt (o : Oper) : Bool:=match o.op with | .move _=>true | _=>false
noncomputable def ihOf (o : Oper) (m : Nat) (h : Tr Blk) (E : List DE) : Tr Blk:=if qt o = true then .leaf else foldH m.testBit h E
noncomputable def argM (L : List Tmp) (tm : List AV) : Operand→Option AV
 | .tmp t=>if L.contains t then some (getR (.tup []) tm t) else none
 | x=>arg tm x
def atR : List (Oper × Nat)→Nat→Option (Oper × Nat)
 | [],_=>none
 | x :: r,i=>if i = r.length then some x else atR r i
def ancR (R : List (Oper × Nat)) : List Edge→Option Nat
 | []=>some 0
 | e :: es=>(ancR R es).bind fun m=>if Region.binds .any e then (atR R e.on).map fun y=>(m ||| 2 ^ e.on) ||| y.2 else some m
def apartR (ops : Array Oper) (o : Oper) (m : Nat) : List (Oper × Nat)→Bool
 | []=>true
 | y :: r=>(m.testBit r.length || Oper.apart ops o y.1) && apartR ops o m r
def infoGo (ops : Array Oper) : List Oper→List (Oper × Nat)→Option (List (Oper × Nat × List Tmp))
 | [],_=>some []
 | o :: l,R=>(ancR R o.after.toList).bind fun m=>if apartR ops o m R then (infoGo ops l ((o,m) :: R)).map ((o,m,o.looksAt ops) :: ·) else none
noncomputable def dynB (x y : DE) : Bool:=
 match x.lg,y.lg with
 | [],[]=>true
 | _,_=>x.lg.all (fun n=>(y.ih.get n).isNone) && y.lg.all (fun n=>(x.ih.get n).isNone) && y.lg.all (fun n=>!x.lg.contains n)
noncomputable def dynsB (x : DE) : List DE→Bool
 | []=>true
 | y :: r=>(x.m.testBit r.length || dynB x y) && dynsB x r
noncomputable def pairB (ops : Array Oper) (x y : DE) : Bool:=
 x.lg.all (fun n=>(y.ih.get n).isNone) && y.lg.all (fun n=>(x.ih.get n).isNone) && y.lg.all (fun n=>!x.lg.contains n) && Oper.apart ops x.o y.o
noncomputable def stepDE (P : Program) (call : CallF) (ops : Array Oper) (h : Tr Blk) (o : Oper) (m : Nat) (L : List Tmp) (t : List AV) (E : List DE) (c : Nat) : Option DE:=
 (if wantedA ops o t then
  match opX P call o (argM L t) (some 0) .no ⟨ihOf o m h E,c,[]⟩ with
  | some (.put v,I)=>if c≤I.next∧(qt o = true→I.log = []) then some ⟨o,m,v,I.heap,I.log,c,I.next,ihOf o m h E⟩ else none
  | _=>none
 else some ⟨o,m,.tup [],ihOf o m h E,[],c,c,ihOf o m h E⟩).bind fun x=>if dynsB x E then some x else none
noncomputable def evDrawL (P : Program) (call : CallF) (ops : Array Oper) (h : Tr Blk) : List (Oper × Nat × List Tmp)→List AV→List DE→Nat→Option (List DE × List AV × Nat)
 | [],t,E,c=>some (E,t,c)
 | (o,m,L) :: l,t,E,c=>(stepDE P call ops h o m L t E c).bind fun x=>evDrawL P call ops h l (putA x.o.dst x.v t) (x :: E) x.c'
def logsOf : List DE→List Nat→List Nat
 | [],l=>l
 | x :: r,l=>x.lg ++ logsOf r l
noncomputable def evDraw (P : Program) (call : CallF) (ops : Array Oper) (fr : Fr) (s : St) : Option (Fr × St):=
 (infoGo ops ops.toList []).bind fun inf=>(evDrawL P call ops s.heap inf fr.tm [] s.next).map fun (E,t,c) =>
  ({ fr with tm:=t },{ heap:=foldH (fun _=>true) s.heap E,next:=c,log:=logsOf E s.log })
structure Runs (P : Program) (call : CallF) (ops : Array Oper) (h : Tr Blk) (tm : List AV) (x : DE) (r : List DE) : Prop where
 anc : ancOf r x.o.after.toList = some x.m
 ih : x.ih = ihOf x.o x.m h r
 qq : qt x.o = true→x.lg = []
 run : (wantedA ops x.o (foldT x.m.testBit tm r) = true∧opX P call x.o (argM (x.o.looksAt ops) (foldT x.m.testBit tm r)) (some 0) .no ⟨x.ih,x.c,[]⟩ = some (.put x.v,⟨x.hp,x.c',x.lg⟩)∧x.c≤x.c')∨
  (wantedA ops x.o (foldT x.m.testBit tm r) = false∧x.v = .tup []∧x.lg = []∧x.c' = x.c)
 pairs : ∀ i y,atE r i = some y→x.m.testBit i = false→pairB ops x y = true
def Good (P : Program) (call : CallF) (ops : Array Oper) (h : Tr Blk) (tm : List AV) (c0 : Nat) : List DE→Nat→Prop
 | [],c=>c = c0
 | x :: r,c=>Good P call ops h tm c0 r x.c∧c = x.c'∧ops[r.length]? = some x.o∧Runs P call ops h tm x r
theorem atE_lt : ∀ {E : List DE} {i : Nat} {x : DE},atE E i = some x→i < E.length
 | [],_,_,h=>by simp [atE] at h
 | x :: r,i,y,h=>by
  simp only [atE] at h
  split at h
  ·subst i;simp
  ·have:=atE_lt h;simp;omega
theorem dynB_eq {x y : DE} (h : dynB x y = true) : (x.lg.all (fun n=>(y.ih.get n).isNone) && y.lg.all (fun n=>(x.ih.get n).isNone) && y.lg.all (fun n=>!x.lg.contains n)) = true:=by
 unfold dynB at h
 split at h
 ·rename_i h1 h2;simp [h1,h2]
 ·exact h
def pr (x : DE) : Oper × Nat:=(x.o,x.m)
theorem atR_map : ∀ (E : List DE) (i : Nat),atR (E.map pr) i = (atE E i).map pr
 | [],_=>rfl
 | x :: r,i=>by
  simp only [List.map_cons,atR,atE,List.length_map]
  split
  ·rfl
  ·exact atR_map r i
theorem ancR_map (E : List DE) : ∀ es : List Edge,ancR (E.map pr) es = ancOf E es
 | []=>rfl
 | e :: es=>by
  simp only [ancR,ancOf,ancR_map E es,atR_map,Option.map_map]
  rfl
theorem pairs_spec {ops : Array Oper} {x : DE} : ∀ {r : List DE},apartR ops x.o x.m (r.map pr) = true→dynsB x r = true→∀ i y,atE r i = some y→x.m.testBit i = false→pairB ops x y = true
 | [],_,_,i,y,h,_=>by simp [atE] at h
 | z :: r,hp,hd,i,y,h,hb=>by
  simp only [List.map_cons,apartR,List.length_map,Bool.and_eq_true,Bool.or_eq_true] at hp
  simp only [dynsB,Bool.and_eq_true,Bool.or_eq_true] at hd
  simp only [atE] at h
  split at h
  ·subst i;simp only [Option.some.injEq] at h;subst h
   rcases hp.1 with h1 | h1
   ·rw [hb] at h1;cases h1
   ·rcases hd.1 with h2 | h2
    ·rw [hb] at h2;cases h2
    ·unfold pairB;rw [dynB_eq h2,Bool.true_and];exact h1
  ·exact pairs_spec hp.2 hd.2 i y h hb
theorem putA_len (d : Option Tmp) (v : AV) (tm : List AV) : (putA d v tm).length = tm.length:=by cases d<;>simp [putA,setR_eq]
theorem putA_at {d : Option Tmp} {v : AV} {tm tm' : List AV} {t : Nat} (hl : tm.length = tm'.length) (ht : tm[t]? = tm'[t]?) : (putA d v tm)[t]? = (putA d v tm')[t]?:=by
 cases d with
 | none=>exact ht
 | some d =>
  simp only [putA,setR_eq,List.getElem?_set]
  split
  ·rw [hl]
  ·exact ht
theorem foldT_len (S : Nat→Bool) (tm : List AV) : ∀ (E : List DE),(foldT S tm E).length = tm.length
 | []=>rfl
 | x :: r=>by
  simp only [foldT]
  split
  ·rw [putA_len,foldT_len S tm r]
  ·exact foldT_len S tm r
theorem foldT_looks {m : Nat} {tm : List AV} {t : Nat} : ∀ {E : List DE},(∀ i y,atE E i = some y→m.testBit i = false→y.o.dst ≠ some t)→(foldT (fun _=>true) tm E)[t]? = (foldT m.testBit tm E)[t]?
 | [],_=>rfl
 | x :: r,h1=>by
  have ih:=foldT_looks (m:=m) (tm:=tm) (E:=r) (fun i y hy=>h1 i y (by simp only [atE];rw [if_neg (by have:=atE_lt hy;omega)];exact hy))
  have hx : atE (x :: r) r.length = some x:=by simp [atE]
  simp only [foldT,if_true]
  cases hM : m.testBit r.length
  ·simp only [Bool.false_eq_true,if_false]
   have hd:=h1 _ _ hx hM
   rw [← ih]
   cases hdst : x.o.dst with
   | none=>rfl
   | some d =>
    simp only [putA,setR_eq]
    rw [List.getElem?_set_ne]
    intro e0;exact hd (by rw [hdst,e0])
  ·simp only [if_true];exact putA_at (by rw [foldT_len,foldT_len]) ih
variable {P : Program} {call : CallF} {ops : Array Oper} {h : Tr Blk} {tm : List AV} {c0 : Nat}
theorem stepDE_runs {o : Oper} {m : Nat} {E : List DE} {c : Nat} {x : DE} (hx : stepDE P call ops h o m (o.looksAt ops) (foldT (fun _=>true) tm E) E c = some x) (hanc : ancR (E.map pr) o.after.toList = some m) (hap : apartR ops o m (E.map pr) = true) :
 x.o = o∧x.m = m∧x.c = c∧Runs P call ops h tm x E:=by
 have hap' : ∀ i y,atE E i = some y→m.testBit i = false→∀ d,y.o.dst = some d→d ∉ o.looksAt ops:=by
  intro i y hy hb d hd
  have : ∀ {r : List DE},apartR ops o m (r.map pr) = true→∀ i y,atE r i = some y→m.testBit i = false→Oper.apart ops o y.o = true:=by
   intro r
   induction r with
   | nil=>intro _ i y hy;simp [atE] at hy
   | cons z r ih =>
    intro hp i y hy hb
    simp only [List.map_cons,apartR,List.length_map,Bool.and_eq_true,Bool.or_eq_true] at hp
    simp only [atE] at hy
    split at hy
    ·subst i;simp only [Option.some.injEq] at hy;subst hy
     rcases hp.1 with h1 | h1
     ·rw [hb] at h1;cases h1
     ·exact h1
    ·exact ih hp.2 i y hy hb
  exact (Oper.apart_spec (this hap i y hy hb)).2.2 d hd
 have hslot : ∀ t,t ∈ o.looksAt ops→(foldT (fun _=>true) tm E)[t]? = (foldT m.testBit tm E)[t]?:=fun t ht =>
  foldT_looks fun i y hy hb hd=>hap' i y hy hb t hd ht
 have hα : argM (o.looksAt ops) (foldT (fun _=>true) tm E) = argM (o.looksAt ops) (foldT m.testBit tm E):=by
  funext y
  cases y with
  | tmp t =>
   simp only [argM]
   split
   ·rename_i ht
    rw [List.contains_eq_mem,decide_eq_true_eq] at ht
    simp only [getR_eq,List.getD_eq_getElem?_getD,hslot t ht]
   ·rfl
  | _=>rfl
 have hw : wantedA ops o (foldT (fun _=>true) tm E) = wantedA ops o (foldT m.testBit tm E):=by
  unfold wantedA
  cases hgd : o.guard with
  | none=>rfl
  | some gd =>
   obtain ⟨gi,want⟩:=gd
   simp only
   cases hd : (ops[gi]?).bind (·.dst) with
   | none=>rfl
   | some d =>
    have hlk : d ∈ o.looksAt ops:=by simp [Oper.looksAt,hgd,hd]
    simp only [Option.bind_some,hslot d hlk]
 rw [ancR_map] at hanc
 unfold stepDE at hx
 rw [hα,hw] at hx
 simp only [Option.bind_eq_some_iff] at hx
 obtain ⟨y,hy,hx⟩:=hx
 split at hx<;>simp only [reduceCtorEq,Option.some.injEq] at hx
 rename_i hp
 subst hx
 split at hy
 ·rename_i hw
  split at hy
  ·rename_i v I hX
   split at hy<;>simp only [reduceCtorEq,Option.some.injEq] at hy
   rename_i hc
   subst hy
   exact ⟨rfl,rfl,rfl,hanc,rfl,hc.2,.inl ⟨hw,hX,hc.1⟩,pairs_spec hap hp⟩
  ·cases hy
 ·rename_i hw
  simp only [Option.some.injEq] at hy
  subst hy
  exact ⟨rfl,rfl,rfl,hanc,rfl,fun _=>rfl,.inr ⟨by simpa using hw,rfl,rfl,rfl⟩,pairs_spec hap hp⟩
theorem evDrawL_good : ∀ {l : List Oper} {inf : List (Oper × Nat × List Tmp)} {E E' : List DE} {t t' : List AV} {c c' : Nat},infoGo ops l (E.map pr) = some inf→t = foldT (fun _=>true) tm E→evDrawL P call ops h inf t E c = some (E',t',c')→Good P call ops h tm c0 E c→(∀ j,l[j]? = ops[E.length + j]?)→
 Good P call ops h tm c0 E' c'∧E'.length = E.length + l.length∧t' = foldT (fun _=>true) tm E'
 | [],inf,E,E',t,t',c,c',hi,ht,hev,hg,_=>by
  simp only [infoGo,Option.some.injEq] at hi
  subst hi
  simp only [evDrawL,Option.some.injEq,Prod.mk.injEq] at hev
  obtain ⟨rfl,rfl,rfl⟩:=hev
  exact ⟨hg,by simp,ht⟩
 | o :: l,inf,E,E',t,t',c,c',hi,ht,hev,hg,hl=>by
  simp only [infoGo,Option.bind_eq_some_iff] at hi
  obtain ⟨m,hm,hi⟩:=hi
  split at hi
  case isFalse=>cases hi
  rename_i hap
  simp only [Option.map_eq_some_iff] at hi
  obtain ⟨inf',hi',rfl⟩:=hi
  simp only [evDrawL,Option.bind_eq_some_iff] at hev
  obtain ⟨x,hx,hev⟩:=hev
  subst ht
  obtain ⟨h1,h1',h2,h3⟩:=stepDE_runs hx hm hap
  have:=evDrawL_good (E:=x :: E) (by simp only [List.map_cons,pr,h1,h1'];exact hi') (by simp [foldT]) hev ⟨h2 ▸ hg,rfl,by rw [h1];simpa using (hl 0).symm,h3⟩ (fun j=>by have:=hl (j + 1);simpa [Nat.add_assoc,Nat.add_comm 1 j] using this)
  exact ⟨this.1,by rw [this.2.1];simp;omega,this.2.2⟩
theorem atE_split : ∀ {E : List DE} {j : Nat} {x : DE},atE E j = some x→∃ A r,E = A ++ x :: r∧r.length = j
 | [],_,_,hx=>by simp [atE] at hx
 | y :: r,j,x,hx=>by
  simp only [atE] at hx
  split at hx
  ·simp only [Option.some.injEq] at hx;subst hx;exact ⟨[],r,rfl,by omega⟩
  ·obtain ⟨A,r',rfl,hl⟩:=atE_split hx;exact ⟨y :: A,r',rfl,hl⟩
theorem atE_some : ∀ {E : List DE} {j : Nat},j < E.length→∃ x,atE E j = some x
 | [],_,hj=>by simp at hj
 | y :: r,j,hj=>by
  simp only [atE]
  split
  ·exact ⟨y,rfl⟩
  ·exact atE_some (by simp at hj;omega)
theorem good_suffix : ∀ {A : List DE} {r : List DE} {c : Nat},Good P call ops h tm c0 (A ++ r) c→∃ c1,Good P call ops h tm c0 r c1
 | [],r,c,hg=>⟨c,hg⟩
 | y :: A,r,c,hg=>good_suffix hg.1
theorem good_at {E : List DE} {c : Nat} {j : Nat} {x : DE} (hg : Good P call ops h tm c0 E c) (hx : atE E j = some x) : ∃ A r,E = A ++ x :: r∧r.length = j∧ops[j]? = some x.o∧Runs P call ops h tm x r:=by
 obtain ⟨A,r,rfl,hl⟩:=atE_split hx
 obtain ⟨c1,hg1⟩:=good_suffix (A:=A) hg
 exact ⟨A,r,rfl,hl,hl ▸ hg1.2.2.1,hg1.2.2.2⟩
theorem atE_append {A r : List DE} {i : Nat} (hi : i < r.length) : atE (A ++ r) i = atE r i:=by
 induction A with
 | nil=>rfl
 | cons y A ih=>simp only [List.cons_append,atE];rw [if_neg (by simp;omega)];exact ih
theorem anc_bits {E : List DE} : ∀ {es : List Edge} {m : Nat},ancOf E es = some m→∀ b,m.testBit b = true→∃ e ∈ es,Region.binds .any e = true∧∃ y,atE E e.on = some y∧(b = e.on∨y.m.testBit b = true)
 | [],m,hm,b,hb=>by simp [ancOf] at hm;subst hm;simp at hb
 | e :: es,m,hm,b,hb=>by
  simp only [ancOf,Option.bind_eq_some_iff] at hm
  obtain ⟨m1,hm1,hm⟩:=hm
  split at hm
  ·rename_i hbind
   simp only [Option.map_eq_some_iff] at hm
   obtain ⟨y,hy,rfl⟩:=hm
   simp only [Nat.testBit_or,Bool.or_eq_true,Nat.testBit_two_pow,decide_eq_true_eq] at hb
   rcases hb with (hb | hb) | hb
   ·obtain ⟨e',he',h1,h2⟩:=anc_bits hm1 b hb
    exact ⟨e',List.mem_cons_of_mem _ he',h1,h2⟩
   ·exact ⟨e,List.mem_cons_self,hbind,y,hy,.inl hb.symm⟩
   ·exact ⟨e,List.mem_cons_self,hbind,y,hy,.inr hb⟩
  ·simp only [Option.some.injEq] at hm;subst hm
   obtain ⟨e',he',h1,h2⟩:=anc_bits hm1 b hb
   exact ⟨e',List.mem_cons_of_mem _ he',h1,h2⟩
theorem anc_edges {E : List DE} : ∀ {es : List Edge} {m : Nat},ancOf E es = some m→∀ e ∈ es,Region.binds .any e = true→e.on < E.length
 | e :: es,m,hm,e',he,hb=>by
  simp only [ancOf,Option.bind_eq_some_iff] at hm
  obtain ⟨m1,hm1,hm⟩:=hm
  rcases List.mem_cons.1 he with rfl | he
  ·rw [if_pos hb] at hm
   simp only [Option.map_eq_some_iff] at hm
   obtain ⟨y,hy,_⟩:=hm
   exact atE_lt hy
  ·exact anc_edges hm1 e' he hb
 | [],_,_,_,he,_=>by simp at he
theorem bits_lt : ∀ {E : List DE} {c : Nat},Good P call ops h tm c0 E c→∀ j x,atE E j = some x→∀ b,x.m.testBit b = true→b < j:=by
 intro E c hg j x hx
 obtain ⟨A,r,rfl,hl,ho,hr⟩:=good_at hg hx
 intro b hb
 obtain ⟨e,he,hbind,y,hy,hor⟩:=anc_bits hr.anc b hb
 have h1:=atE_lt hy
 rcases hor with rfl | hb2
 ·omega
 ·obtain ⟨c1,hg1⟩:=good_suffix (A:=A) hg
  have:=bits_lt hg1.1 e.on y hy b hb2
  omega
termination_by E=>E.length
decreasing_by simp_all;omega
end Go.Abs
namespace Go.Abs
variable {P : Program} {call : CallF} {ops : Array Oper} {h : Tr Blk} {tm : List AV} {c0 : Nat}
theorem foldH_eq {S M : Nat→Bool} {n : Nat} : ∀ {E : List DE},(∀ i y,atE E i = some y→S i = true→M i = false→n ∉ y.lg)→(∀ i,i < E.length→M i = true→S i = true)→(foldH S h E).get n = (foldH M h E).get n
 | [],_,_=>rfl
 | x :: r,h1,h2=>by
  have ih:=foldH_eq (E:=r) (fun i y hy=>h1 i y (by simp only [atE];rw [if_neg (by have:=atE_lt hy;omega)];exact hy)) (fun i hi=>h2 i (by simp;omega))
  have hx : atE (x :: r) r.length = some x:=by simp [atE]
  simp only [foldH]
  cases hS : S r.length<;>cases hM : M r.length
  ·simpa using ih
  ·have:=h2 r.length (by simp) hM;rw [hS] at this;cases this
  ·simp only [if_true,Bool.false_eq_true,if_false,setAll_get,if_neg (h1 _ _ hx hS hM)];exact ih
  ·simp only [if_true,setAll_get,ih]
theorem foldH_below {M : Nat→Bool} : ∀ {A r : List DE},(∀ i,r.length≤i→M i = false)→foldH M h (A ++ r) = foldH M h r
 | [],_,_=>rfl
 | y :: A,r,hM=>by
  simp only [List.cons_append,foldH]
  rw [hM _ (by simp)]
  simpa using foldH_below hM
theorem foldH_congr {S S' : Nat→Bool} : ∀ {E : List DE},(∀ i,i < E.length→S i = S' i)→foldH S h E = foldH S' h E
 | [],_=>rfl
 | x :: r,hS=>by
  simp only [foldH]
  rw [hS r.length (by simp),foldH_congr fun i hi=>hS i (by simp;omega)]
theorem foldT_congr {S S' : Nat→Bool} : ∀ {E : List DE},(∀ i,i < E.length→S i = S' i)→foldT S tm E = foldT S' tm E
 | [],_=>rfl
 | x :: r,hS=>by
  simp only [foldT]
  rw [hS r.length (by simp),foldT_congr fun i hi=>hS i (by simp;omega)]
theorem foldT_below {M : Nat→Bool} : ∀ {A r : List DE},(∀ i,r.length≤i→M i = false)→foldT M tm (A ++ r) = foldT M tm r
 | [],_,_=>rfl
 | y :: A,r,hM=>by
  simp only [List.cons_append,foldT]
  rw [hM _ (by simp)]
  simpa using foldT_below hM
theorem putA_length (d : Option Tmp) (v : AV) (tm : List AV) : (putA d v tm).length = tm.length:=by cases d<;>simp [putA,setR_eq]
theorem foldT_length (S : Nat→Bool) : ∀ (E : List DE),(foldT S tm E).length = tm.length
 | []=>rfl
 | x :: r=>by
  simp only [foldT]
  split
  ·rw [putA_length,foldT_length S r]
  ·exact foldT_length S r
theorem putA_get {d : Option Tmp} {v : AV} {tm : List AV} {t : Nat} (hd : d ≠ some t) : (putA d v tm)[t]? = tm[t]?:=by
 cases d with
 | none=>rfl
 | some d=>simp only [putA,setR_eq];rw [List.getElem?_set_ne];intro e0;exact hd (e0 ▸ rfl)
theorem putA_get_congr {d : Option Tmp} {v : AV} {tm tm' : List AV} {t : Nat} (hl : tm.length = tm'.length) (ht : tm[t]? = tm'[t]?) : (putA d v tm)[t]? = (putA d v tm')[t]?:=by
 cases d with
 | none=>exact ht
 | some d =>
  simp only [putA,setR_eq,List.getElem?_set]
  split
  ·rw [hl]
  ·exact ht
theorem foldT_eq {S M : Nat→Bool} {t : Nat} : ∀ {E : List DE},(∀ i y,atE E i = some y→S i = true→M i = false→y.o.dst ≠ some t)→(∀ i,i < E.length→M i = true→S i = true)→(foldT S tm E)[t]? = (foldT M tm E)[t]?
 | [],_,_=>rfl
 | x :: r,h1,h2=>by
  have ih:=foldT_eq (E:=r) (fun i y hy=>h1 i y (by simp only [atE];rw [if_neg (by have:=atE_lt hy;omega)];exact hy)) (fun i hi=>h2 i (by simp;omega))
  have hx : atE (x :: r) r.length = some x:=by simp [atE]
  simp only [foldT]
  cases hS : S r.length<;>cases hM : M r.length
  ·simpa using ih
  ·have:=h2 r.length (by simp) hM;rw [hS] at this;cases this
  ·simp only [if_true,Bool.false_eq_true,if_false];rw [putA_get (h1 _ _ hx hS hM)];exact ih
  ·simp only [if_true];exact putA_get_congr (by rw [foldT_length,foldT_length]) ih
theorem putA_comm {d d' : Option Tmp} {v v' : AV} {tm : List AV} (hd : ∀ t,d = some t→d' ≠ some t) : putA d v (putA d' v' tm) = putA d' v' (putA d v tm):=by
 cases d with
 | none=>rfl
 | some t =>
  cases d' with
  | none=>rfl
  | some t'=>simp only [putA,setR_eq];exact List.set_comm _ _ (fun e0=>hd t rfl (e0 ▸ rfl))
def plus (S : Nat→Bool) (j : Nat) : Nat→Bool:=fun i=>S i || i == j
theorem plus_ne {S : Nat→Bool} {i j : Nat} (h : i ≠ j) : plus S j i = S i:=by simp [plus,h]
theorem foldH_plus {S : Nat→Bool} {x : DE} {r : List DE} (hS : S r.length = false) {n : Nat} : ∀ {A : List DE},(∀ i y,atE (A ++ x :: r) i = some y→i ≠ r.length→S i = true→x.m.testBit i = false→n ∈ x.lg→n ∉ y.lg)→(∀ b,x.m.testBit b = true→b < r.length)→
 (foldH (plus S r.length) h (A ++ x :: r)).get n = if n ∈ x.lg then x.hp.get n else (foldH S h (A ++ x :: r)).get n
 | [],_,_=>by
  simp only [List.nil_append,foldH,hS,Bool.false_eq_true,if_false]
  rw [if_pos (by simp [plus]),setAll_get,foldH_congr (S:=plus S r.length) (S':=S) fun i hi=>plus_ne (by omega)]
 | y :: A,hd,hb=>by
  have ih:=foldH_plus hS (A:=A) (fun i z hz=>hd i z (by simp only [List.cons_append,atE];rw [if_neg (by have:=atE_lt hz;omega)];exact hz)) hb
  have hy : atE (y :: A ++ x :: r) (A ++ x :: r).length = some y:=by simp [atE]
  have hne : (A ++ x :: r).length ≠ r.length:=by simp;omega
  simp only [List.cons_append,foldH]
  rw [plus_ne hne]
  split
  ·rename_i hSy
   simp only [setAll_get,ih]
   by_cases h1 : n ∈ y.lg
   ·have : n ∉ x.lg:=fun h2=>hd _ _ hy hne hSy (by
     cases hbt : x.m.testBit (A ++ x :: r).length with
     | false=>rfl
     | true=>have:=hb _ hbt;simp at this;omega) h2 h1
    simp [h1,this]
   ·simp [h1]
  ·exact ih
theorem foldT_plus {S : Nat→Bool} {x : DE} {r : List DE} (hS : S r.length = false) : ∀ {A : List DE},(∀ i y,atE (A ++ x :: r) i = some y→i ≠ r.length→S i = true→x.m.testBit i = false→∀ t,x.o.dst = some t→y.o.dst ≠ some t)→(∀ b,x.m.testBit b = true→b < r.length)→
 foldT (plus S r.length) tm (A ++ x :: r) = putA x.o.dst x.v (foldT S tm (A ++ x :: r))
 | [],_,_=>by
  simp only [List.nil_append,foldT,hS,Bool.false_eq_true,if_false]
  rw [if_pos (by simp [plus]),foldT_congr (S:=plus S r.length) (S':=S) fun i hi=>plus_ne (by omega)]
 | y :: A,hd,hb=>by
  have ih:=foldT_plus hS (A:=A) (fun i z hz=>hd i z (by simp only [List.cons_append,atE];rw [if_neg (by have:=atE_lt hz;omega)];exact hz)) hb
  have hy : atE (y :: A ++ x :: r) (A ++ x :: r).length = some y:=by simp [atE]
  have hne : (A ++ x :: r).length ≠ r.length:=by simp;omega
  simp only [List.cons_append,foldT]
  rw [plus_ne hne]
  split
  ·rename_i hSy
   rw [ih]
   refine (putA_comm fun t ht=>?_).symm
   exact hd _ _ hy hne hSy (by
    cases hbt : x.m.testBit (A ++ x :: r).length with
    | false=>rfl
    | true=>have:=hb _ hbt;simp at this;omega) t ht
  ·exact ih
structure Un (ops : Array Oper) (x y : DE) : Prop where
 ih : ∀ n,n ∈ y.lg→x.ih.get n = none
 lg : ∀ n,n ∈ y.lg→n ∉ x.lg
 looks : ∀ d,y.o.dst = some d→d ∉ x.o.looksAt ops
 dst : ∀ d,x.o.dst = some d→y.o.dst ≠ some d
theorem pairB_un {x y : DE} (hp : pairB ops x y = true) : Un ops x y∧Un ops y x:=by
 simp only [pairB,Bool.and_eq_true,List.all_eq_true,Option.isNone_iff_eq_none,Bool.not_eq_true',List.contains_eq_mem,decide_eq_false_iff_not] at hp
 obtain ⟨⟨⟨h1,h2⟩,h3⟩,h4⟩:=hp
 obtain ⟨a1,a2,a3⟩:=Oper.apart_spec h4
 exact ⟨⟨h2,h3,a3,a2⟩,⟨h1,fun n hx hy=>h3 n hy hx,a1,fun d hd e0=>a2 d e0 hd⟩⟩
def Closed (E : List DE) (S : Nat→Bool) : Prop:=∀ i x,atE E i = some x→S i = true→∀ b,x.m.testBit b = true→S b = true
theorem un_of {E : List DE} {c : Nat} (hg : Good P call ops h tm c0 E c) {S : Nat→Bool} (hS : Closed E S) {j : Nat} {x : DE} (hx : atE E j = some x) (hj : S j = false) {i : Nat} {y : DE} (hy : atE E i = some y) (hi : S i = true) (hb : x.m.testBit i = false) : Un ops x y:=by
 have hij : i ≠ j:=fun e0=>by subst e0;rw [hi] at hj;cases hj
 rcases Nat.lt_or_gt_of_ne hij with hlt | hgt
 ·obtain ⟨A,r,rfl,hl,_,hr⟩:=good_at hg hx
  have hyr : atE r i = some y:=by
   have e1:=atE_append (A:=A) (r:=x :: r) (i:=i) (by simp;omega)
   rw [e1] at hy
   simp only [atE] at hy
   rwa [if_neg (by omega)] at hy
  exact (pairB_un (hr.pairs i y hyr hb)).1
 ·obtain ⟨A,r,rfl,hl,_,hr⟩:=good_at hg hy
  have hxr : atE r j = some x:=by
   have e1:=atE_append (A:=A) (r:=y :: r) (i:=j) (by simp;omega)
   rw [e1] at hx
   simp only [atE] at hx
   rwa [if_neg (by omega)] at hx
  have hbj : y.m.testBit j = false:=by
   cases hb2 : y.m.testBit j with
   | false=>rfl
   | true=>have:=hS i y hy hi j hb2;rw [hj] at this;cases this
  exact (pairB_un (hr.pairs j x hxr hbj)).2
theorem ranges : ∀ {E : List DE} {c : Nat},Good P call ops h tm c0 E c→c0≤c∧∀ i x,atE E i = some x→c0≤x.c∧x.c≤x.c'∧x.c'≤c∧∀ k y,atE E k = some y→k < i→y.c'≤x.c
 | [],c,hg=>⟨by (have : c = c0:=hg;omega),fun i x hx=>by simp [atE] at hx⟩
 | z :: r,c,hg=>by
  obtain ⟨hg1,rfl,_,hr⟩:=hg
  obtain ⟨h1,h2⟩:=ranges hg1
  have hz : z.c≤z.c':=by rcases hr.run with ⟨_,_,hc⟩ | ⟨_,_,_,hc⟩<;>omega
  refine ⟨by omega,fun i x hx=>?_⟩
  simp only [atE] at hx
  split at hx
  ·simp only [Option.some.injEq] at hx;subst hx
   refine ⟨h1,hz,Nat.le_refl _,fun k y hy hk=>?_⟩
   simp only [atE] at hy
   rw [if_neg (by omega)] at hy
   exact (h2 k y hy).2.2.1
  ·obtain ⟨a1,a2,a3,a4⟩:=h2 i x hx
   refine ⟨a1,a2,by omega,fun k y hy hk=>?_⟩
   have:=atE_lt hx
   simp only [atE] at hy
   rw [if_neg (by omega)] at hy
   exact a4 k y hy hk
end Go.Abs
namespace Go.Abs
variable {P : Program} {call : CallF} {ops : Array Oper}
structure Inv (e0 : Env) (s : St) (w0 : World) (tm : List AV) (ds : List Deferred) (E : List DE) (S : Nat→Bool) (e : Env) (a : Act) (w : World) : Prop where
 le : e0.le e
 rng : ∀ n,e n ≠ none→e0 n ≠ none∨∃ i x,atE E i = some x∧S i = true∧x.c≤n∧n < x.c'
 sim : Sim e ⟨foldH S s.heap E,0,[]⟩ w
 own : ∀ b,b < w0.heap.size→Own e ⟨foldH S s.heap E,0,[]⟩ b→Own e0 s b
 met : ∀ b,b < w0.heap.size→Met e ⟨foldH S s.heap E,0,[]⟩ b→Met e0 s b
 frame : ∀ b,b < w0.heap.size→¬ Own e0 s b→w.heap[b]? = w0.heap[b]?
 size : w0.heap.size≤w.heap.size
 os : w.os = w0.os
 tape : w.tape = w0.tape
 output : w.output = w0.output
 tm : ∃ ts,concL e (foldT S tm E) = some ts∧a.tmps = ts.toArray
 df : a.defers = ds
 closed : Closed E S
theorem reads_mask {e : Env} {α : Operand→Option AV} {ρ : Operand→Value} {L : List Tmp} {tm : List AV} (h : Reads e (arg tm) ρ) (hα : α = argM L tm) : Reads e α ρ:=by
 subst hα
 intro x u hu
 cases x with
 | tmp t =>
  simp only [argM] at hu
  split at hu
  ·exact h (.tmp t) u hu
  ·cases hu
 | const v=>exact h (.const v) u hu
 | global g=>exact h (.global g) u hu
 | func f=>exact h (.func f) u hu
theorem own_congr {e : Env} {s s' : St} (h : ∀ n,s.heap.get n = s'.heap.get n) {b : Nat} (o : Own e s b) : Own e s' b:=by
 obtain ⟨n,x,q,h1,h2⟩:=o;exact ⟨n,x,q,h n ▸ h1,h2⟩
theorem met_congr {e : Env} {s s' : St} (h : ∀ n,s.heap.get n = s'.heap.get n) {b : Nat} (o : Met e s b) : Met e s' b:=by
 obtain ⟨n,x,q,h1,h2⟩:=o;exact ⟨n,x,q,h n ▸ h1,h2⟩
theorem inv_step (hcall : CallOk P call) {e0 : Env} {s : St} {w0 : World} {tm : List AV} {ds : List Deferred} {E : List DE} {c : Nat} (hg : Good P call ops s.heap tm s.next E c) (hf : Free e0 s.next c)
 {S : Nat→Bool} {e : Env} {a : Act} {w : World} (hI : Inv e0 s w0 tm ds E S e a w) {j : Nat} {x : DE} (hx : atE E j = some x) (hj : S j = false) (hm : ∀ b,x.m.testBit b = true→S b = true)
 (b : Frame) (cs : List Frame) (rest : List Nat) (k : List Item) :
 ∃ e' a' w',Inv e0 s w0 tm ds E (plus S j) e' a' w'∧Steps P (lone (b.atR a (.inRegion ops (j :: rest) :: k)) cs w) (lone (b.atR a' (.inRegion ops rest :: k)) cs w'):=by
 obtain ⟨A,r,rfl,hl,ho,hr⟩:=good_at hg hx
 subst hl
 have hbits : ∀ b,x.m.testBit b = true→b < r.length:=bits_lt hg _ _ hx
 have hun : ∀ i y,atE (A ++ x :: r) i = some y→S i = true→x.m.testBit i = false→Un ops x y:=fun i y hy hi hb=>un_of hg hI.closed hx hj hy hi hb
 have hhigh : ∀ i,r.length≤i→x.m.testBit i = false:=fun i hi=>by
  cases hb : x.m.testBit i with
  | false=>rfl
  | true=>have:=hbits i hb;omega
 have hfoldM : qt x.o = false→foldH x.m.testBit s.heap (A ++ x :: r) = x.ih:=by
  intro hq
  have h1 : foldH x.m.testBit s.heap (A ++ x :: r) = foldH x.m.testBit s.heap (x :: r):=by
   have e1 : A ++ x :: r = (A ++ [x]) ++ r:=by simp
   rw [e1,foldH_below hhigh]
   simp only [foldH,hhigh _ (Nat.le_refl _),Bool.false_eq_true,if_false]
  rw [h1,hr.ih,ihOf,hq]
  simp only [foldH,hhigh _ (Nat.le_refl _),Bool.false_eq_true,if_false]
 have hfoldTM : foldT x.m.testBit tm (A ++ x :: r) = foldT x.m.testBit tm r:=by
  have e1 : A ++ x :: r = (A ++ [x]) ++ r:=by simp
  rw [e1,foldT_below hhigh]
 have hheap : ∀ n,((x.ih.get n).isSome∨n ∈ x.lg)→(foldH S s.heap (A ++ x :: r)).get n = x.ih.get n:=fun n hn=>by
  cases hq : qt x.o with
  | true =>
   have e1 : x.ih = .leaf:=by rw [hr.ih,ihOf,if_pos hq]
   rcases hn with h1 | h1
   ·rw [e1] at h1;simp [Tr.get,T4.get_leaf] at h1
   ·rw [hr.qq hq] at h1;cases h1
  | false =>
  rw [← hfoldM hq]
  refine foldH_eq (fun i y hy hi hb=>?_) (fun i _ hi=>hm i hi)
  intro hny
  rcases hn with h1 | h1
  ·rw [(hun i y hy hi hb).ih n hny] at h1;cases h1
  ·exact (hun i y hy hi hb).lg n hny h1
 have hslot : ∀ t,t ∈ x.o.looksAt ops→(foldT S tm (A ++ x :: r))[t]? = (foldT x.m.testBit tm r)[t]?:=fun t ht=>by
  rw [← hfoldTM]
  exact foldT_eq (fun i y hy hi hb hd=>(hun i y hy hi hb).looks t hd ht) (fun i _ hi=>hm i hi)
 have hclosed : Closed (A ++ x :: r) (plus S r.length):=by
  intro i y hy hi b' hb'
  simp only [plus,Bool.or_eq_true,beq_iff_eq] at hi ⊢
  rcases hi with hi | rfl
  ·exact .inl (hI.closed i y hy hi b' hb')
  ·rw [hx] at hy;cases hy;exact .inl (hm b' hb')
 have hH : ∀ n,(foldH (plus S r.length) s.heap (A ++ x :: r)).get n = if n ∈ x.lg then x.hp.get n else (foldH S s.heap (A ++ x :: r)).get n:=fun n =>
  foldH_plus hj (fun i y hy _ hi hb hn hny=>(hun i y hy hi hb).lg n hny hn) hbits
 have hT : foldT (plus S r.length) tm (A ++ x :: r) = putA x.o.dst x.v (foldT S tm (A ++ x :: r)):=
  foldT_plus hj (fun i y hy _ hi hb t ht=>(hun i y hy hi hb).dst t ht) hbits
 obtain ⟨ts,hts,hta⟩:=hI.tm
 have hwant : wantedA ops x.o (foldT x.m.testBit tm r) = Region.wanted x.o (yielded ops a.tmps):=by
  rw [hta,← wantedA_eq (ops:=ops) (o:=x.o) hts]
  unfold wantedA
  cases hgd : x.o.guard with
  | none=>rfl
  | some gd =>
   obtain ⟨gi,want⟩:=gd
   simp only
   cases hd : (ops[gi]?).bind (·.dst) with
   | none=>rfl
   | some d =>
    have hlk : d ∈ x.o.looksAt ops:=by simp [Oper.looksAt,hgd,hd]
    simp only [Option.bind_some,hslot d hlk]
 rcases hr.run with ⟨hw,hX,hc⟩ | ⟨hw,hv,hlg,hc⟩
 ·have hw' : Region.wanted x.o (yielded ops a.tmps) = true:=hwant ▸ hw
  have hα : argM (x.o.looksAt ops) (foldT x.m.testBit tm r) = argM (x.o.looksAt ops) (foldT S tm (A ++ x :: r)):=by
   funext y
   cases y with
   | tmp t =>
    simp only [argM]
    split
    ·rename_i ht
     rw [List.contains_eq_mem,decide_eq_true_eq] at ht
     simp only [getR_eq,List.getD_eq_getElem?_getD,hslot t ht]
    ·rfl
   | _=>rfl
  have hrd : Reads e (argM (x.o.looksAt ops) (foldT x.m.testBit tm r)) a.eval:=reads_mask (reads_arg hts a hta) hα
  have hsub : SubH ⟨x.ih,x.c,[]⟩ ⟨foldH S s.heap (A ++ x :: r),x.c,[]⟩:=fun n z hz=>by
   show (foldH S s.heap (A ++ x :: r)).get n = some z
   rw [hheap n (.inl (by rw [show x.ih.get n = some z from hz];rfl))];exact hz
  have hsimT : Sim e ⟨foldH S s.heap (A ++ x :: r),x.c,[]⟩ w:=⟨hI.sim.at_,hI.sim.inj,hI.sim.bound⟩
  have hsimI : Sim e ⟨x.ih,x.c,[]⟩ w:=hsimT.sub hsub
  obtain ⟨r1,r2,r3,r4⟩:=(ranges hg).2 _ _ hx
  have hfree : Free e x.c x.c':=by
   intro n h1 h2
   cases hn : e n with
   | none=>rfl
   | some p =>
    rcases hI.rng n (by simp [hn]) with h3 | ⟨i,y,hy,hi,h4,h5⟩
    ·exact absurd (hf n (by omega) (by omega)) h3
    ·exfalso
     have hij : i ≠ r.length:=fun e0=>by subst e0;rw [hj] at hi;cases hi
     rcases Nat.lt_or_gt_of_ne hij with hlt | hgt
     ·have:=r4 i y hy hlt;omega
     ·have:=((ranges hg).2 i y hy).2.2.2 _ _ hx hgt;omega
  obtain ⟨e',w',g1,g2,xv,hxv,hst⟩:=opX_run (b:=b) (cs:=cs) hcall hX hsimI hrd hfree ho hw' rest k
  obtain ⟨q1,q2,q2m,q3⟩:=over_sim hsimT hsub g2 g1 (fun n hn=>hheap n (.inr hn))
  have hget : ∀ n,(St.over ⟨foldH S s.heap (A ++ x :: r),x.c,[]⟩ ⟨x.hp,x.c',x.lg⟩).heap.get n = (foldH (plus S r.length) s.heap (A ++ x :: r)).get n:=fun n=>by
   rw [hH];simp only [St.over,setAll_get]
  refine ⟨e',a.put x.o.dst xv,w',⟨hI.le.trans g2.le,?_,?_,?_,?_,?_,Nat.le_trans hI.size g2.size,g2.os.trans hI.os,g2.tape.trans hI.tape,g2.output.trans hI.output,?_,by rw [put_defers];exact hI.df,hclosed⟩,hst⟩
  ·intro n hn
   rcases g2.rng n hn with h1 | ⟨h1,h2⟩
   ·rcases hI.rng n h1 with h3 | ⟨i,y,hy,hi,h4,h5⟩
    ·exact .inl h3
    ·exact .inr ⟨i,y,hy,by simp [plus,hi],h4,h5⟩
   ·exact .inr ⟨r.length,x,hx,by simp [plus],h1,h2⟩
  ·exact q1.sub fun n z hz=>by rw [hget n];exact hz
  ·intro bb hbb o'
   have o1:=q2 bb (Nat.lt_of_lt_of_le hbb hI.size) (own_congr (s':=St.over _ _) (fun n=>(hget n).symm) o')
   exact hI.own bb hbb o1
  ·intro bb hbb o'
   have o1:=q2m bb (Nat.lt_of_lt_of_le hbb hI.size) (met_congr (s':=St.over _ _) (fun n=>(hget n).symm) o')
   exact hI.met bb hbb o1
  ·intro bb hbb no
   have hno : ¬ Own e ⟨foldH S s.heap (A ++ x :: r),x.c,[]⟩ bb:=fun o'=>no (hI.own bb hbb o')
   exact (q3 bb (Nat.lt_of_lt_of_le hbb hI.size) hno).trans (hI.frame bb hbb no)
  ·obtain ⟨us,h1,h2⟩:=put_tm (concL_le g2.le _ _ hts) hta x.o.dst hxv
   exact ⟨us,by rw [hT];exact h1,h2⟩
 ·have hw' : Region.wanted x.o (yielded ops a.tmps) = false:=hwant ▸ hw
  have hget : ∀ n,(foldH (plus S r.length) s.heap (A ++ x :: r)).get n = (foldH S s.heap (A ++ x :: r)).get n:=fun n=>by rw [hH,hlg];simp
  have hstep:=stepR_op_skip (P:=P) (b:=b) (a:=a) (k:=k) (cs:=cs) (w:=w) (ops:=ops) (i:=r.length) (rest:=rest) (by simp only [ho,Option.map_some,Option.getD_some,hw'])
  simp only [ho,Option.bind_some] at hstep
  refine ⟨e,a.put x.o.dst undef,w,⟨hI.le,?_,?_,?_,?_,hI.frame,hI.size,hI.os,hI.tape,hI.output,?_,by rw [put_defers];exact hI.df,hclosed⟩,.one hstep⟩
  ·intro n hn
   rcases hI.rng n hn with h3 | ⟨i,y,hy,hi,h4,h5⟩
   ·exact .inl h3
   ·exact .inr ⟨i,y,hy,by simp [plus,hi],h4,h5⟩
  ·exact hI.sim.sub fun n z hz=>by rw [← hget n];exact hz
  ·intro bb hbb o'
   exact hI.own bb hbb (own_congr (s':=⟨foldH S s.heap (A ++ x :: r),0,[]⟩) (fun n=>hget n) o')
  ·intro bb hbb o'
   exact hI.met bb hbb (met_congr (s':=⟨foldH S s.heap (A ++ x :: r),0,[]⟩) (fun n=>hget n) o')
  ·obtain ⟨us,h1,h2⟩:=put_tm hts hta x.o.dst (conc_undef e)
   exact ⟨us,by rw [hT,hv];exact h1,h2⟩
def unlisted : Nat→Array Bool→Nat
 | 0,_=>0
 | n + 1,l=>unlisted n l + (if l.getD n true then 0 else 1)
theorem unlisted_set {l : Array Bool} {i : Nat} (hi : l.getD i true = false) : ∀ n,i < n→unlisted n l = unlisted n (l.setIfInBounds i true) + 1
 | 0,h=>by omega
 | n + 1,h=>by
  have hlt : i < l.size:=by
   by_cases hl : i < l.size
   ·exact hl
   ·rw [Array.getD_eq_getD_getElem?,Array.getElem?_eq_none (by omega)] at hi;cases hi
  have same : ∀ m,m≤i→unlisted m (l.setIfInBounds i true) = unlisted m l:=by
   intro m
   induction m with
   | zero=>intro _;rfl
   | succ m ih =>
    intro hm
    simp only [unlisted,ih (by omega)]
    have : (l.setIfInBounds i true).getD m true = l.getD m true:=by
     simp only [Array.getD_eq_getD_getElem?];rw [Array.getElem?_setIfInBounds_ne (by omega)]
    rw [this]
  by_cases e0 : i = n
  ·subst e0
   simp only [unlisted,same i (Nat.le_refl _),hi]
   have : (l.setIfInBounds i true).getD i true = true:=by simp [Array.getD_eq_getD_getElem?,hlt]
   rw [this];simp
  ·simp only [unlisted,unlisted_set hi n (by omega)]
   have : (l.setIfInBounds i true).getD n true = l.getD n true:=by
    simp only [Array.getD_eq_getD_getElem?];rw [Array.getElem?_setIfInBounds_ne e0]
   rw [this];omega
theorem unlisted_zero {l : Array Bool} : ∀ n,unlisted n l = 0→∀ i,i < n→l.getD i true = true
 | 0,_,i,hi=>by omega
 | n + 1,h,i,hi=>by
  simp only [unlisted] at h
  by_cases e0 : i = n
  ·subst e0
   cases hl : l.getD i true with
   | true=>rfl
   | false=>rw [hl] at h;simp at h
  ·exact unlisted_zero n (by omega) i (by omega)
theorem first_unlisted {l : Array Bool} : ∀ n,unlisted n l ≠ 0→∃ i,i < n∧l.getD i true = false∧∀ k,k < i→l.getD k true = true
 | 0,h=>absurd rfl h
 | n + 1,h=>by
  by_cases h0 : unlisted n l = 0
  ·refine ⟨n,by omega,?_,fun k hk=>unlisted_zero n h0 k hk⟩
   simp only [unlisted,h0] at h
   cases hl : l.getD n true with
   | false=>rfl
   | true=>rw [hl] at h;simp at h
  ·obtain ⟨i,h1,h2,h3⟩:=first_unlisted n h0
   exact ⟨i,by omega,h2,h3⟩
end Go.Abs
namespace Go.Abs
variable {P : Program} {call : CallF} {ops : Array Oper}
theorem mem_ready' {l : Array Bool} {i : Nat} (h : i ∈ Region.ready .any ops l) : i < ops.size∧l.getD i true = false∧∀ o,ops[i]? = some o→∀ e ∈ o.after.toList,Region.binds .any e = true→l.getD e.on false = true:=by
 simp only [Region.ready,List.mem_filter,List.mem_range,Bool.and_eq_true,Bool.not_eq_true'] at h
 refine ⟨h.1,h.2.1,fun o ho e he hb=>?_⟩
 have h2:=h.2.2
 simp only [ho,Option.map_some,Option.getD_some] at h2
 have:=(Array.all_eq_true_iff_forall_mem.1 h2) e (by simpa using he)
 simpa [hb] using this
theorem ready_mem {l : Array Bool} {i : Nat} (h1 : i < ops.size) (h2 : l.getD i true = false) (h3 : ∀ o,ops[i]? = some o→∀ e ∈ o.after.toList,Region.binds .any e = true→l.getD e.on false = true) : i ∈ Region.ready .any ops l:=by
 simp only [Region.ready,List.mem_filter,List.mem_range,Bool.and_eq_true,Bool.not_eq_true']
 refine ⟨h1,h2,?_⟩
 have ho : ops[i]? = some ops[i]:=by simp [h1]
 simp only [ho,Option.map_some,Option.getD_some]
 rw [Array.all_eq_true_iff_forall_mem]
 intro e he
 cases hb : Region.binds .any e with
 | false=>rfl
 | true=>simp [h3 _ ho e (by simpa using he) hb]
theorem getD_tf {l : Array Bool} {i : Nat} (h : i < l.size) : l.getD i true = l.getD i false:=by simp [Array.getD_eq_getD_getElem?,h]
theorem draw_loop (hcall : CallOk P call) {e0 : Env} {s : St} {w0 : World} {tm : List AV} {ds : List Deferred} {E : List DE} {c : Nat} (hg : Good P call ops s.heap tm s.next E c) (hE : E.length = ops.size) (hf : Free e0 s.next c)
 (b : Frame) (cs : List Frame) (k : List Item) : ∀ (fuel t : Nat) (l : Array Bool) (e : Env) (a : Act) (w : World),l.size = ops.size→unlisted ops.size l = fuel→Inv e0 s w0 tm ds E (fun i=>l.getD i false) e a w→
 ∃ e' a' w',Inv e0 s w0 tm ds E (fun i=>decide (i < ops.size)) e' a' w'∧
  Steps P (lone (b.atR a (.inRegion ops (Region.linearise.go .any ops fuel t l []) :: k)) cs w) (lone (b.atR a' (.inRegion ops [] :: k)) cs w')
 | 0,t,l,e,a,w,hl,hu,hI=>by
  have hS : (fun i=>l.getD i false) = fun i=>decide (i < ops.size):=by
   funext i
   by_cases hi : i < ops.size
   ·have:=unlisted_zero _ hu i hi
    rw [getD_tf (by omega)] at this
    simp [this,hi]
   ·simp [Array.getD_eq_getD_getElem?,Array.getElem?_eq_none (show l.size≤i by omega),hi]
  rw [hS] at hI
  exact ⟨e,a,w,hI,by simpa [Region.linearise.go] using Steps.refl P _⟩
 | fuel + 1,t,l,e,a,w,hl,hu,hI=>by
  have hne : Region.ready .any ops l ≠ []:=by
   obtain ⟨i,h1,h2,h3⟩:=first_unlisted (l:=l) ops.size (by omega)
   obtain ⟨x,hx⟩:=atE_some (E:=E) (j:=i) (by omega)
   obtain ⟨A,r,rfl,hlr,ho,hr⟩:=good_at hg hx
   have:=ready_mem (l:=l) h1 h2 (fun o ho' ed hed hb=>by
    rw [ho] at ho';cases ho'
    have:=anc_edges hr.anc ed hed hb
    rw [← getD_tf (by omega)];exact h3 _ (by omega))
   intro e0;rw [e0] at this;cases this
  have hlen : 0 < (Region.ready .any ops l).length:=List.length_pos_iff.2 hne
  have hidx : t % (Region.ready .any ops l).length < (Region.ready .any ops l).length:=Nat.mod_lt _ hlen
  obtain ⟨i,hi⟩ : ∃ i,(Region.ready .any ops l)[t % (Region.ready .any ops l).length]? = some i:=⟨_,List.getElem?_eq_getElem hidx⟩
  have hmem:=List.mem_of_getElem? hi
  obtain ⟨h1,h2,h3⟩:=mem_ready' hmem
  obtain ⟨x,hx⟩:=atE_some (E:=E) (j:=i) (by omega)
  obtain ⟨A,r,hEq,hlr,ho,hr⟩:=good_at hg hx
  have hj : l.getD i false = false:=by rw [← getD_tf (by omega)];exact h2
  have hm : ∀ bt,x.m.testBit bt = true→l.getD bt false = true:=by
   intro bt hbt
   obtain ⟨ed,hed,hbind,y,hy,hor⟩:=anc_bits hr.anc bt hbt
   have hS:=h3 _ ho ed hed hbind
   have hyE : atE E ed.on = some y:=by
    have hlt:=atE_lt hy
    have e1:=atE_append (A:=A ++ [x]) (r:=r) hlt
    rw [hEq,show A ++ x :: r = (A ++ [x]) ++ r by simp,e1];exact hy
   rcases hor with rfl | hb2
   ·exact hS
   ·exact hI.closed _ y hyE hS bt hb2
  obtain ⟨e1,a1,w1,hI1,hst⟩:=inv_step hcall hg hf hI hx hj hm b cs (Region.linearise.go .any ops fuel (t / (Region.ready .any ops l).length) (l.setIfInBounds i true) []) k
  have hS1 : plus (fun i=>l.getD i false) i = fun k=>(l.setIfInBounds i true).getD k false:=by
   funext kk
   by_cases e0 : kk = i
   ·subst e0;simp [plus,Array.getD_eq_getD_getElem?,show kk < l.size by omega]
   ·rw [plus_ne e0];simp only [Array.getD_eq_getD_getElem?];rw [Array.getElem?_setIfInBounds_ne (Ne.symm e0)]
  rw [hS1] at hI1
  have hu1 : unlisted ops.size (l.setIfInBounds i true) = fuel:=by
   have:=unlisted_set (l:=l) h2 ops.size h1;omega
  obtain ⟨e2,a2,w2,hI2,hst2⟩:=draw_loop hcall hg hE hf b cs k fuel (t / (Region.ready .any ops l).length) (l.setIfInBounds i true) e1 a1 w1 (by simp [hl]) hu1 hI1
  refine ⟨e2,a2,w2,hI2,?_⟩
  have hgo : Region.linearise.go .any ops (fuel + 1) t l [] = i :: Region.linearise.go .any ops fuel (t / (Region.ready .any ops l).length) (l.setIfInBounds i true) []:=by
   simp only [Region.linearise.go]
   change (match (Region.ready .any ops l)[t % (Region.ready .any ops l).length]? with
    | some i=>Region.linearise.go .any ops fuel (t / (Region.ready .any ops l).length) (l.setIfInBounds i true) [i]
    | none=>[].reverse) = _
   rw [hi]
   simp only []
   rw [linearise_go_acc];simp
  rw [hgo]
  exact hst.trans hst2
theorem logsOf_mem {l : List Nat} {n : Nat} : ∀ {E : List DE},n ∈ logsOf E l↔n ∈ l∨∃ i x,atE E i = some x∧n ∈ x.lg
 | []=>by simp [logsOf,atE]
 | x :: r=>by
  simp only [logsOf,List.mem_append,logsOf_mem (E:=r)]
  constructor
  ·rintro (h | h | ⟨i,y,hy,hn⟩)
   ·exact .inr ⟨r.length,x,by simp [atE],h⟩
   ·exact .inl h
   ·exact .inr ⟨i,y,by simp only [atE];rw [if_neg (by have:=atE_lt hy;omega)];exact hy,hn⟩
  ·rintro (h | ⟨i,y,hy,hn⟩)
   ·exact .inr (.inl h)
   ·simp only [atE] at hy
    split at hy
    ·simp only [Option.some.injEq] at hy;subst hy;exact .inl hn
    ·exact .inr (.inr ⟨i,y,hy,hn⟩)
theorem foldH_out {S : Nat→Bool} {h : Tr Blk} {n : Nat} : ∀ {E : List DE},(∀ i x,atE E i = some x→n ∉ x.lg)→(foldH S h E).get n = h.get n
 | [],_=>rfl
 | x :: r,hn=>by
  have ih:=foldH_out (S:=S) (h:=h) (E:=r) (fun i y hy=>hn i y (by simp only [atE];rw [if_neg (by have:=atE_lt hy;omega)];exact hy))
  simp only [foldH]
  split
  ·rw [setAll_get,if_neg (hn r.length x (by simp [atE]))];exact ih
  ·exact ih
theorem evDraw_run (hcall : CallOk P call) {e : Env} {s s' : St} {w : World} {fr fr' : Fr} {b : Frame} {cs0 cs : List Frame} {a : Act} (h : evDraw P call ops fr s = some (fr',s')) (hs : Sim e s w) (hfr : FR e fr b cs0 a cs)
 (hf : Free e s.next s'.next) (t : Nat) (k : List Item) :
 ∃ e' w' a',Sim e' s' w'∧Goes e s w e' s' w'∧FR e' fr' b cs0 a' cs∧Steps P (lone (b.atR a (.inRegion ops (Region.linearise .any ops t) :: k)) cs w) (lone (b.atR a' (.inRegion ops [] :: k)) cs w'):=by
 simp only [evDraw,Option.bind_eq_some_iff,Option.map_eq_some_iff] at h
 obtain ⟨inf,hinf,⟨E,t',c⟩,hev,h⟩:=h
 simp only [Prod.mk.injEq] at h
 obtain ⟨rfl,rfl⟩:=h
 obtain ⟨hg,hE,htE⟩:=evDrawL_good (tm:=fr.tm) (c0:=s.next) (E:=[]) hinf rfl hev rfl (fun j=>by simp)
 subst htE
 have hE' : E.length = ops.size:=by simpa using hE
 obtain ⟨ts,hts,hta⟩:=hfr.tm
 have hS0 : ∀ i,(Array.replicate ops.size false).getD i false = false:=fun i=>by
  by_cases hi : i < ops.size
  ·simp [Array.getD_eq_getD_getElem?,hi]
  ·simp [Array.getD_eq_getD_getElem?,hi]
 have hS0' : (fun i=>(Array.replicate ops.size false).getD i false) = fun _=>false:=funext hS0
 have hH0 : ∀ E : List DE,foldH (fun _=>false) s.heap E = s.heap:=by
  intro E;induction E with
  | nil=>rfl
  | cons x r ih=>simp [foldH,ih]
 have hT0 : ∀ E : List DE,foldT (fun _=>false) fr.tm E = fr.tm:=by
  intro E;induction E with
  | nil=>rfl
  | cons x r ih=>simp [foldT,ih]
 have hI0 : Inv e s w fr.tm a.defers E (fun i=>(Array.replicate ops.size false).getD i false) e a w:=by
  rw [hS0']
  refine ⟨Env.le.refl e,fun n hn=>.inl hn,?_,?_,?_,fun _ _ _=>rfl,Nat.le_refl _,rfl,rfl,rfl,⟨ts,by rw [hT0];exact hts,hta⟩,rfl,?_⟩
  ·rw [hH0];exact ⟨hs.at_,hs.inj,hs.bound⟩
  ·rw [hH0];exact fun bb _ o=>o
  ·rw [hH0];exact fun bb _ o=>o
  ·intro i x _ hi;simp at hi
 have hu0 : unlisted ops.size (Array.replicate ops.size false) = ops.size:=by
  suffices h : ∀ m n,n≤m→unlisted n (Array.replicate m false) = n from h _ _ (Nat.le_refl _)
  intro m n
  induction n with
  | zero=>intro _;rfl
  | succ n ih =>
   intro hn
   simp only [unlisted,ih (by omega)]
   simp [Array.getD_eq_getD_getElem?,show n < m by omega]
 obtain ⟨e',a',w',hI,hst⟩:=draw_loop hcall hg hE' hf b cs k ops.size t _ e a w (by simp) hu0 hI0
 have hSt : ∀ i,i < E.length→(fun i=>decide (i < ops.size)) i = (fun _=>true) i:=fun i hi=>by simp;omega
 rw [show Region.linearise .any ops t = Region.linearise.go .any ops ops.size t (Array.replicate ops.size false) [] from rfl]
 have hsim:=hI.sim
 rw [foldH_congr hSt] at hsim
 refine ⟨e',w',a',⟨hsim.at_,hsim.inj,hsim.bound⟩,⟨hI.le,?_,?_,?_,hI.frame,hI.size,hI.os,hI.tape,hI.output,?_,?_,(ranges hg).1⟩,⟨?_,?_,?_,?_⟩,hst⟩
 ·intro n hn
  rcases hI.rng n hn with h1 | ⟨i,x,hx,_,h2,h3⟩
  ·exact .inl h1
  ·obtain ⟨r1,r2,r3,_⟩:=(ranges hg).2 i x hx
   exact .inr ⟨by omega,by show n < c;omega⟩
 ·intro bb hbb o
  refine hI.own bb hbb ?_
  rw [foldH_congr hSt];exact own_congr (fun n=>rfl) o
 ·intro bb hbb o
  refine hI.met bb hbb ?_
  rw [foldH_congr hSt];exact met_congr (fun n=>rfl) o
 ·intro n hn
  have hn' : n ∉ logsOf E s.log:=hn
  rw [logsOf_mem,not_or] at hn'
  exact foldH_out fun i x hx hnx=>hn'.2 ⟨i,x,hx,hnx⟩
 ·intro n hn
  show n ∈ logsOf E s.log
  rw [logsOf_mem];exact .inl hn
 ·obtain ⟨us,h1,h2⟩:=hI.tm
  rw [foldT_congr hSt] at h1
  exact ⟨us,h1,h2⟩
 ·rw [hI.df];exact concDL_le hI.le hfr.df
 ·exact (hfr.le hI.le).ro
 ·exact (hfr.le hI.le).rc
end Go.Abs
namespace Go.Abs
variable {P : Program}
noncomputable def loopA (s : St) (l : Nat) : Option (LoopState × Option Code × List AV × Array Tmp × Code × Code × Nat):=
 match s.heap.get l with
 | some (.loop st pend tm ps aas bd d)=>some (st,pend,tm,ps,aas,bd,d)
 | _=>none
noncomputable def enterA (fr : Fr) (ps : Array Tmp) (aas bd : Code) (s : St) : Option (Nat × Fr × St):=
 match fr.ro with
 | none=>some (s.next + 1,{ fr with df:=.coll s.next :: fr.df },(s.add .defr).add (.loop .ready none fr.tm ps aas bd s.next))
 | some l=>(loopA s l).map fun r=>(s.next,fr,s.add (.loop .ready none fr.tm ps aas bd r.2.2.2.2.2.2))
noncomputable def leaveLoopA (l : Nat) (s : St) : Option (Ex × St):=
 (loopA s l).bind fun r=>match r with
 | (st,pend,tm,ps,aas,bd,d)=>if st = .busy then none else
  (match pend with | none=>some Ex.norm | some .ret=>some .ret | some (.exit id)=>some (.exit id) | _=>none).map fun x=>(x,s.put l (.loop .exhausted pend tm ps aas bd d))
noncomputable def evCode (P : Program) (call : CallF) : Nat→Code→Fr→St→Option (Ex × Fr × St)
 | 0,_,_,_=>none
 | n + 1,c,fr,s =>
  match c with
  | .skip | .label _=>some (.norm,fr,s)
  | .exit id=>some (.exit id,fr,s)
  | .ret=>some (.ret,fr,s)
  | .region _ ops false=>(evOps P call ops ops.toList fr s).map fun r=>(match r.1 with | none=>.norm | some v=>.pan v,r.2)
  | .region _ ops true=>if P.follows .mixedOrders then (evDraw P call ops fr s).map fun r=>(.norm,r) else none
  | .seq a b=>(evCode P call n a fr s).bind fun r=>match r with
   | (.norm,fr1,s1)=>(evCode P call n b fr1 s1).bind fun y=>if s1.next≤y.2.2.next then some y else none
   | r=>some r
  | .cond c t e=>(arg fr.tm c).bind fun v=>match v with
   | .bool b=>evCode P call n (if b then t else e) fr s
   | _=>none
  | .block id body=>(evCode P call n body fr s).map fun r=>match r with
   | (.exit id',fr1,s1)=>if id' = id then (.norm,fr1,s1) else (.exit id',fr1,s1)
   | r=>r
  | .scope body=>evCode P call n body fr s
  | .loop body=>(evCode P call n body fr s).bind fun r=>match r with
   | (.norm,fr1,s1)=>(evCode P call n (.loop body) fr1 s1).bind fun y=>if s1.next≤y.2.2.next then some y else none
   | r=>some r
  | .rangeFunc g ps aas bd=>(arg fr.tm g).bind fun v=>match v with
   | .func f first cap=>if enterable P f then
    (enterA fr ps aas bd s).bind fun (l,fr1,s1)=>(call (.fn f) (first ++ [.yld l] ++ cap) s1).bind fun (r,s2)=>if s1.next≤s2.next then
     match r with
     | .pan v=>some (.pan v,fr1,s2)
     | .ret _=>(leaveLoopA l s2).map fun (x,s3)=>(x,fr1,s3)
    else none
    else none
   | _=>none
  | _=>none
def Lands (P : Program) (m : Machine) (b : Frame) (k : List Item) (e : Env) : Ex→Act→List Frame→World→Prop
 | .norm,a,cs,w=>Steps P m (lone (b.atR a k) cs w)
 | .exit id,a,cs,w=>∃ K,exitTo id K = exitTo id k∧Steps P m (lone (b.atR a (.code (.exit id) :: K)) cs w)
 | .ret,a,cs,w=>∃ K,Steps P m (lone (b.atR a (.code .ret :: K)) cs w)
 | .pan v,a,cs,w=>Panics P m b a cs w e v
theorem Lands.of_steps {m m₁ : Machine} {b : Frame} {k : List Item} {e : Env} {x : Ex} {a : Act} {cs : List Frame} {w : World} (h : Steps P m m₁) (h' : Lands P m₁ b k e x a cs w) : Lands P m b k e x a cs w:=by
 cases x with
 | norm=>exact h.trans h'
 | exit id=>obtain ⟨K,h1,h2⟩:=h';exact ⟨K,h1,h.trans h2⟩
 | ret=>obtain ⟨K,h2⟩:=h';exact ⟨K,h.trans h2⟩
 | pan v=>obtain ⟨x,hx,todo,h2⟩:=h';exact ⟨x,hx,todo,h.trans h2⟩
theorem Lands.pass {m : Machine} {b : Frame} {i : Item} {k : List Item} {e : Env} {x : Ex} {a : Act} {cs : List Frame} {w : World} (hi : ∀ id,exitTo id (i :: k) = exitTo id k) (hx : x ≠ .norm) (h : Lands P m b (i :: k) e x a cs w) : Lands P m b k e x a cs w:=by
 cases x with
 | norm=>exact absurd rfl hx
 | exit id=>obtain ⟨K,h1,h2⟩:=h;exact ⟨K,h1.trans (hi id),h2⟩
 | ret=>exact h
 | pan v=>exact h
section
variable {b : Frame} {a : Act} {k : List Item} {cs : List Frame} {w : World}
theorem stepR_scope {c : Code} : step P (lone (b.atR a (.code (.scope c) :: k)) cs w) = .next (lone (b.atR a (.code c :: .inScope c :: k)) cs w):=
 step_lone_go (by simp [stepG,stepG.exec,Frame.atR])
theorem stepR_inScope {c : Code} : step P (lone (b.atR a (.inScope c :: k)) cs w) = .next (lone (b.atR a k) cs w):=
 step_lone_go (by simp [stepG,stepG.exec,Frame.atR])
end
theorem loopA_eq {s : St} {l : Nat} {r : LoopState × Option Code × List AV × Array Tmp × Code × Code × Nat} (h : loopA s l = some r) : s.heap.get l = some (.loop r.1 r.2.1 r.2.2.1 r.2.2.2.1 r.2.2.2.2.1 r.2.2.2.2.2.1 r.2.2.2.2.2.2):=by
 unfold loopA at h
 split at h<;>simp only [reduceCtorEq,Option.some.injEq] at h
 rename_i hx;subst h;exact hx
theorem enterA_run {e : Env} {s s' : St} {w : World} {fr fr' : Fr} {b : Frame} {cs0 cs : List Frame} {a : Act} {ps : Array Tmp} {aas bd : Code} {l : Nat} (h : enterA fr ps aas bd s = some (l,fr',s')) (hs : Sim e s w) (hfr : FR e fr b cs0 a cs) (hf : Free e s.next s'.next) :
 ∃ e' w' mark p,Sim e' s' w'∧Goes e s w e' s' w'∧e' l = some p∧(Instr.enterLoop b.fn a.tmps ps aas bd b.roundOf).run P w = .ok (p.1,mark) w'∧FR e' fr' b cs0 { a with defers:=mark ++ a.defers } cs:=by
 obtain ⟨⟨ts,hts,hta⟩,hdf,hro,hrc⟩:=hfr
 unfold enterA at h
 split at h
 ·rename_i hr
  simp only [Option.some.injEq,Prod.mk.injEq] at h
  obtain ⟨rfl,rfl,rfl⟩:=h
  simp only [hr] at hro
  have f1 : e s.next = none:=hf _ (Nat.le_refl _) (by simp only [St.add];omega)
  obtain ⟨g1,g2⟩:=hs.add (blk:=.defr) (ob:=.deferred (some [])) (w':={ w with heap:=w.heap.push (.deferred (some [])) }) 0 f1 (by simp) (by simp) (fun k hk=>by rw [Array.getElem?_push,if_neg (by omega)]) rfl rfl rfl rfl
  have f2 : (e.upd s.next (w.heap.size,0)) (s.add .defr).next = none:=by
   rw [Env.upd_ne _ _ (by simp [St.add])];exact hf _ (by simp [St.add]) (by simp [St.add])
  let W1 : World:={ w with heap:=w.heap.push (.deferred (some [])) }
  let ob : Obj:=.loop { state:=.ready,pending:=none,fn:=b.fn,tmps:=ts.toArray,params:=ps,assign:=aas,body:=bd,defers:=w.heap.size }
  have hle1:=Env.le_upd (w.heap.size,0) f1
  obtain ⟨q1,q2⟩:=g1.add (blk:=.loop .ready none fr.tm ps aas bd s.next) (ob:=ob) (w':={ W1 with heap:=W1.heap.push ob }) 0 f2 (by simp [W1]) Array.getElem?_push_size (fun k hk=>by simp only [W1];rw [Array.getElem?_push,if_neg (by simpa using Nat.ne_of_lt hk)])
   ⟨b.fn,ts,(w.heap.size,0),concL_le (Env.le_upd _ f2) _ _ (concL_le hle1 _ _ hts),Env.le_upd _ f2 _ _ (Env.upd_self ..),rfl⟩ rfl rfl rfl
  refine ⟨_,_,[{ target:=.collected w.heap.size,args:=#[] }],_,q1,g2.trans q2,Env.upd_self ..,?_,?_⟩
  ·simp only [hro,hta,Instr.enterLoop,Sem.run_bind,run_newObj,Result.andThen_ok,Sem.run_pure];rfl
  ·refine FR.le (g2.trans q2).le ⟨⟨ts,hts,hta⟩,?_,by simp only [hr];exact hro,hrc⟩ |> fun r=>⟨r.tm,?_,r.ro,r.rc⟩
   ·exact hdf
   ·simp only [concDL,concD,List.singleton_append]
    have hc : (Env.upd (e.upd s.next (w.heap.size,0)) (s.add .defr).next (W1.heap.size,0)) s.next = some (w.heap.size,0):=Env.le_upd _ f2 _ _ (Env.upd_self ..)
    rw [show (Env.upd (e.upd s.next (w.heap.size,0)) (s.add .defr).next (({ w with heap:=w.heap.push (.deferred (some [])) } : World).heap.size,0)) s.next = some (w.heap.size,0) from hc]
    simp only [Option.map_some,Option.bind_some,concDL_le (g2.trans q2).le hdf]
 ·rename_i l0 hr
  simp only [Option.map_eq_some_iff,Prod.mk.injEq] at h
  obtain ⟨r,hl,rfl,rfl,rfl⟩:=h
  simp only [hr] at hro
  obtain ⟨p0,hp0,hbr⟩:=hro
  obtain ⟨b0,q0,ob0,he0,hb0,fn0,ts0,pd,h1,h2,rfl⟩:=hs.at_ _ _ (loopA_eq hl)
  rw [hp0] at he0;cases he0
  have f1 : e s.next = none:=hf _ (Nat.le_refl _) (by simp [St.add])
  let ob : Obj:=.loop { state:=.ready,pending:=none,fn:=b.fn,tmps:=ts.toArray,params:=ps,assign:=aas,body:=bd,defers:=pd.1 }
  have hle1:=Env.le_upd (w.heap.size,0) f1
  obtain ⟨q1,q2⟩:=hs.add (blk:=.loop .ready none fr.tm ps aas bd r.2.2.2.2.2.2) (ob:=ob) (w':={ w with heap:=w.heap.push ob }) 0 f1 (by simp) (by simp) (fun k hk=>by rw [Array.getElem?_push,if_neg (by omega)])
   ⟨b.fn,ts,pd,concL_le hle1 _ _ hts,hle1 _ _ h2,rfl⟩ rfl rfl rfl
  have hgo : (getObj b0).run P w = .ok (.loop { state:=r.1,pending:=r.2.1,fn:=fn0,tmps:=ts0.toArray,params:=r.2.2.2.1,assign:=r.2.2.2.2.1,body:=r.2.2.2.2.2.1,defers:=pd.1 }) w:=by simp [getObj,Sem.run,hb0]
  refine ⟨_,_,[],_,q1,q2,Env.upd_self ..,?_,?_⟩
  ·simp only [hbr,hta,Instr.enterLoop,Instr.getLoop,Sem.run_bind,hgo,run_newObj,Result.andThen_ok,Sem.run_pure];rfl
  ·exact (FR.le q2.le ⟨⟨ts,hts,hta⟩,hdf,by simp only [hr];exact ⟨_,hp0,hbr⟩,hrc⟩)
theorem leaveLoopA_run {e : Env} {s s' : St} {w : World} {l : Nat} {x : Ex} (h : leaveLoopA l s = some (x,s')) (hs : Sim e s w) {p : Nat × Nat} (hp : e l = some p) :
 ∃ w' jump,Sim e s' w'∧Goes e s w e s' w'∧(Instr.endLoop p.1).run P w = .ok jump w'∧match x with
  | .norm=>jump = none
  | .ret=>jump = some .ret
  | .exit id=>jump = some (.exit id)
  | .pan _=>False:=by
 simp only [leaveLoopA,Option.bind_eq_some_iff] at h
 obtain ⟨⟨st,pend,tm,ps,aas,bd,d⟩,hl,h⟩:=h
 simp only at h
 split at h
 ·cases h
 rename_i hst
 simp only [Option.map_eq_some_iff,Prod.mk.injEq] at h
 obtain ⟨y,hy,rfl,rfl⟩:=h
 have hget:=loopA_eq hl
 obtain ⟨b0,q0,ob0,he0,hb0,fn0,ts0,pd,h1,h2,rfl⟩:=hs.at_ _ _ hget
 rw [hp] at he0;cases he0
 have hlt : b0 < w.heap.size:=(Array.getElem?_eq_some_iff.1 hb0).1
 let L : Loop:={ state:=st,pending:=pend,fn:=fn0,tmps:=ts0.toArray,params:=ps,assign:=aas,body:=bd,defers:=pd.1 }
 have hgo : (getObj b0).run P w = .ok (.loop L) w:=by simp [getObj,Sem.run,hb0,L]
 let w' : World:={ w with heap:=w.heap.setIfInBounds b0 (.loop { L with state:=.exhausted }) }
 have hset : (setObj b0 (.loop { L with state:=.exhausted })).run P w = .ok () w':=by simp [setObj,Sem.run,hb0,w']
 obtain ⟨g1,g2⟩:=hs.put (blk':=.loop .exhausted pend tm ps aas bd d) (ob:=.loop { L with state:=.exhausted }) (w':=w') hget trivial hp (by simp [w']) (by simp [w',hlt]) (fun k hk=>by simp [w',Array.getElem?_setIfInBounds_ne (Ne.symm hk)]) ⟨fn0,ts0,pd,h1,h2,rfl⟩ rfl rfl rfl
 refine ⟨w',pend,g1,g2,?_,?_⟩
 ·have hst' : (L.state == LoopState.busy) = false:=by simpa [L] using hst
  simp only [Instr.endLoop,Instr.getLoop,Sem.run_bind,hgo,Result.andThen_ok,Sem.run_pure,hst',Bool.false_eq_true,if_false,hset]
  rfl
 ·revert hy;split<;>intro hy<;>simp only [Option.some.injEq,reduceCtorEq] at hy<;>subst hy<;>rfl
end Go.Abs
namespace Go.Abs
variable {P : Program}
def CodeOk (P : Program) (m : Frame→List Item→Act→List Frame→World→Machine) (ev : Fr→St→Option (Ex × Fr × St)) : Prop:=
 ∀ (fr : Fr) (s : St) (x : Ex) (fr' : Fr) (s' : St),ev fr s = some (x,fr',s')→∀ (e : Env) (w : World) (b : Frame) (cs0 cs : List Frame) (a : Act),Sim e s w→FR e fr b cs0 a cs→Free e s.next s'.next→∀ (k : List Item),
  ∃ e' w' a' cs',Sim e' s' w'∧Goes e s w e' s' w'∧FR e' fr' b cs0 a' cs'∧Lands P (m b k a cs w) b k e' x a' cs' w'
theorem free_mono {e : Env} {a b c : Nat} (h : Free e a b) (hc : c≤b) : Free e a c:=fun n h1 h2=>h n h1 (Nat.lt_of_lt_of_le h2 hc)
theorem evCode_run {call : CallF} (hcall : CallOk P call) : ∀ (n : Nat),
 (∀ c,CodeOk P (fun b k a cs w=>lone (b.atR a (.code c :: k)) cs w) (evCode P call n c))∧
 (∀ c,CodeOk P (fun b k a cs w=>lone (b.atR a (.code c :: .inLoop c :: k)) cs w) (evCode P call n (.loop c)))
 | 0=>⟨fun c fr s x fr' s' h=>by simp [evCode] at h,fun c fr s x fr' s' h=>by simp [evCode] at h⟩
 | n + 1=>by
  obtain ⟨ihC,ihL⟩:=evCode_run hcall n
  have L : ∀ c,CodeOk P (fun b k a cs w=>lone (b.atR a (.code c :: .inLoop c :: k)) cs w) (evCode P call (n + 1) (.loop c)):=by
   intro c fr s x fr' s' h e w b cs0 cs a hs hfr hf k
   simp only [evCode,Option.bind_eq_some_iff] at h
   obtain ⟨⟨x1,fr1,s1⟩,h1,h⟩:=h
   cases x1 with
   | norm =>
    simp only [Option.bind_eq_some_iff] at h
    obtain ⟨⟨x2,fr2,s2⟩,h2,h⟩:=h
    split at h<;>simp only [reduceCtorEq,Option.some.injEq,Prod.mk.injEq] at h
    rename_i hle
    obtain ⟨rfl,rfl,rfl⟩:=h
    simp only at hle
    obtain ⟨e1,w1,a1,cs1,g1,g2,g3,g4⟩:=ihC c fr s _ _ _ h1 e w b cs0 cs a hs hfr (free_mono hf hle) (.inLoop c :: k)
    obtain ⟨e2,w2,a2,cs2,q1,q2,q3,q4⟩:=ihL c fr1 s1 _ _ _ h2 e1 w1 b cs0 cs1 a1 g1 g3 (g2.free (fun m hm1 hm2=>hf m (Nat.le_trans g2.next hm1) hm2) (Nat.le_refl _)) k
    exact ⟨e2,w2,a2,cs2,q1,g2.trans q2,q3,Lands.of_steps (Steps.trans g4 (.one stepR_inLoop)) q4⟩
   | exit id =>
    simp only [Option.some.injEq,Prod.mk.injEq] at h
    obtain ⟨rfl,rfl,rfl⟩:=h
    obtain ⟨e1,w1,a1,cs1,g1,g2,g3,g4⟩:=ihC c fr s _ _ _ h1 e w b cs0 cs a hs hfr hf (.inLoop c :: k)
    exact ⟨e1,w1,a1,cs1,g1,g2,g3,Lands.pass (fun _=>rfl) (by simp) g4⟩
   | ret =>
    simp only [Option.some.injEq,Prod.mk.injEq] at h
    obtain ⟨rfl,rfl,rfl⟩:=h
    obtain ⟨e1,w1,a1,cs1,g1,g2,g3,g4⟩:=ihC c fr s _ _ _ h1 e w b cs0 cs a hs hfr hf (.inLoop c :: k)
    exact ⟨e1,w1,a1,cs1,g1,g2,g3,Lands.pass (fun _=>rfl) (by simp) g4⟩
   | pan v =>
    simp only [Option.some.injEq,Prod.mk.injEq] at h
    obtain ⟨rfl,rfl,rfl⟩:=h
    obtain ⟨e1,w1,a1,cs1,g1,g2,g3,g4⟩:=ihC c fr s _ _ _ h1 e w b cs0 cs a hs hfr hf (.inLoop c :: k)
    exact ⟨e1,w1,a1,cs1,g1,g2,g3,Lands.pass (fun _=>rfl) (by simp) g4⟩
  refine ⟨fun c=>?_,L⟩
  intro fr s x fr' s' h e w b cs0 cs a hs hfr hf k
  cases c with
  | skip =>
   simp only [evCode,Option.some.injEq,Prod.mk.injEq] at h
   obtain ⟨rfl,rfl,rfl⟩:=h
   exact ⟨e,w,a,cs,hs,Goes.refl ..,hfr,.one stepR_skip⟩
  | label l =>
   simp only [evCode,Option.some.injEq,Prod.mk.injEq] at h
   obtain ⟨rfl,rfl,rfl⟩:=h
   exact ⟨e,w,a,cs,hs,Goes.refl ..,hfr,.one stepR_label⟩
  | exit id =>
   simp only [evCode,Option.some.injEq,Prod.mk.injEq] at h
   obtain ⟨rfl,rfl,rfl⟩:=h
   exact ⟨e,w,a,cs,hs,Goes.refl ..,hfr,k,rfl,Steps.refl P _⟩
  | ret =>
   simp only [evCode,Option.some.injEq,Prod.mk.injEq] at h
   obtain ⟨rfl,rfl,rfl⟩:=h
   exact ⟨e,w,a,cs,hs,Goes.refl ..,hfr,k,Steps.refl P _⟩
  | goto l=>simp [evCode] at h
  | refuse why=>simp [evCode] at h
  | region id ops draw =>
   cases draw with
   | false =>
    simp only [evCode,Option.map_eq_some_iff,Prod.mk.injEq] at h
    obtain ⟨⟨p,fr1,s1⟩,h1,hx,rfl,rfl⟩:=h
    obtain ⟨e1,w1,a1,cs1,g1,g2,g3,g4⟩:=evOps_run hcall ops.toList 0 (fun j=>by simp) h1 hs hfr hf k
    rw [Array.length_toList,← List.range_eq_range'] at g4
    refine ⟨e1,w1,a1,cs1,g1,g2,g3,?_⟩
    cases p with
    | none=>simp only at hx;subst hx;exact (Steps.one stepR_region).trans (Steps.trans g4 (.one stepR_region_end))
    | some v=>simp only at hx;subst hx;exact Lands.of_steps (.one stepR_region) g4
   | true =>
    simp only [evCode] at h
    split at h
    case isFalse=>cases h
    rename_i hmix
    simp only [Option.map_eq_some_iff,Prod.mk.injEq] at h
    obtain ⟨⟨fr1,s1⟩,h1,rfl,rfl,rfl⟩:=h
    obtain ⟨e1,w1,a1,g1,g2,g3,g4⟩:=evDraw_run (b:=b) (cs0:=cs0) (cs:=cs) (a:=a) hcall h1 (hs.drawn (w.drawn + 1)) hfr hf (w.tape w.drawn (.order b.fn id)) k
    refine ⟨e1,w1,a1,cs,g1,(Goes.drawn _).trans g2,g3,?_⟩
    have hst:=stepR_region_draw (P:=P) (b:=b) (a:=a) (k:=k) (cs:=cs) (w:=w) (ops:=ops) (id:=id)
    have hsch : Region.schedule (P.follows .mixedOrders) ops (w.tape w.drawn (.order b.fn id)) = Region.linearise .any ops (w.tape w.drawn (.order b.fn id)):=by simp [Region.schedule,hmix]
    rw [hsch] at hst
    exact (Steps.one hst).trans (g4.trans (.one stepR_region_end))
  | seq c1 c2 =>
   simp only [evCode,Option.bind_eq_some_iff] at h
   obtain ⟨⟨x1,fr1,s1⟩,h1,h⟩:=h
   have pass : x1 ≠ .norm→(x1,fr1,s1) = (x,fr',s')→∃ e' w' a' cs',Sim e' s' w'∧Goes e s w e' s' w'∧FR e' fr' b cs0 a' cs'∧Lands P (lone (b.atR a (.code (.seq c1 c2) :: k)) cs w) b k e' x a' cs' w':=by
    intro hne heq
    simp only [Prod.mk.injEq] at heq
    obtain ⟨rfl,rfl,rfl⟩:=heq
    obtain ⟨e1,w1,a1,cs1,g1,g2,g3,g4⟩:=ihC c1 fr s _ _ _ h1 e w b cs0 cs a hs hfr hf (.code c2 :: k)
    exact ⟨e1,w1,a1,cs1,g1,g2,g3,Lands.of_steps (.one stepR_seq) (Lands.pass (fun _=>rfl) hne g4)⟩
   cases x1 with
   | norm =>
    simp only [Option.bind_eq_some_iff] at h
    obtain ⟨⟨x2,fr2,s2⟩,h2,h⟩:=h
    split at h<;>simp only [reduceCtorEq,Option.some.injEq,Prod.mk.injEq] at h
    rename_i hle
    obtain ⟨rfl,rfl,rfl⟩:=h
    simp only at hle
    obtain ⟨e1,w1,a1,cs1,g1,g2,g3,g4⟩:=ihC c1 fr s _ _ _ h1 e w b cs0 cs a hs hfr (free_mono hf hle) (.code c2 :: k)
    obtain ⟨e2,w2,a2,cs2,q1,q2,q3,q4⟩:=ihC c2 fr1 s1 _ _ _ h2 e1 w1 b cs0 cs1 a1 g1 g3 (g2.free (fun m hm1 hm2=>hf m (Nat.le_trans g2.next hm1) hm2) (Nat.le_refl _)) k
    exact ⟨e2,w2,a2,cs2,q1,g2.trans q2,q3,Lands.of_steps ((Steps.one stepR_seq).trans g4) q4⟩
   | exit id=>exact pass (by simp) (by simpa using h)
   | ret=>exact pass (by simp) (by simpa using h)
   | pan v=>exact pass (by simp) (by simpa using h)
  | cond c t f =>
   simp only [evCode,Option.bind_eq_some_iff] at h
   obtain ⟨v,hv,h⟩:=h
   have hx:=hfr.reads c v hv
   split at h
   case h_2=>cases h
   rename_i bb
   simp only [conc,Option.some.injEq] at hx
   obtain ⟨e1,w1,a1,cs1,g1,g2,g3,g4⟩:=ihC _ fr s _ _ _ h e w b cs0 cs a hs hfr hf k
   exact ⟨e1,w1,a1,cs1,g1,g2,g3,Lands.of_steps (.one (stepR_cond hx.symm)) g4⟩
  | scope c =>
   simp only [evCode] at h
   obtain ⟨e1,w1,a1,cs1,g1,g2,g3,g4⟩:=ihC c fr s _ _ _ h e w b cs0 cs a hs hfr hf (.inScope c :: k)
   refine ⟨e1,w1,a1,cs1,g1,g2,g3,Lands.of_steps (.one stepR_scope) ?_⟩
   cases x with
   | norm=>exact Steps.trans g4 (.one stepR_inScope)
   | exit id=>exact Lands.pass (i:=.inScope c) (fun _=>rfl) (by simp) g4
   | ret=>exact Lands.pass (i:=.inScope c) (fun _=>rfl) (by simp) g4
   | pan v=>exact Lands.pass (i:=.inScope c) (fun _=>rfl) (by simp) g4
  | block id c =>
   simp only [evCode,Option.map_eq_some_iff] at h
   obtain ⟨⟨x1,fr1,s1⟩,h1,h⟩:=h
   have hs1 : s1 = s'∧fr1 = fr':=by
    cases x1<;>simp only [Prod.mk.injEq] at h
    case exit id'=>split at h<;>simp only [Prod.mk.injEq] at h<;>exact ⟨h.2.2,h.2.1⟩
    all_goals exact ⟨h.2.2,h.2.1⟩
   obtain ⟨rfl,rfl⟩:=hs1
   obtain ⟨e1,w1,a1,cs1,g1,g2,g3,g4⟩:=ihC c fr s _ _ _ h1 e w b cs0 cs a hs hfr hf (.inBlock id :: k)
   refine ⟨e1,w1,a1,cs1,g1,g2,g3,Lands.of_steps (.one stepR_block) ?_⟩
   cases x1 with
   | norm=>simp only [Prod.mk.injEq] at h;obtain ⟨rfl,_⟩:=h;exact Steps.trans g4 (.one stepR_inBlock)
   | exit id' =>
    obtain ⟨K,hK,hst⟩:=g4
    by_cases hid : id' = id
    ·simp only [hid,if_true,Prod.mk.injEq] at h
     obtain ⟨rfl,_⟩:=h
     subst hid
     have : exitTo id' K = some k:=by rw [hK];simp [exitTo]
     exact Steps.trans hst (.one (stepR_exit this))
    ·simp only [hid,if_false,Prod.mk.injEq] at h
     obtain ⟨rfl,_⟩:=h
     have hne : (id == id') = false:=by simp;exact fun h=>hid h.symm
     exact ⟨K,by rw [hK];simp [exitTo,hne],hst⟩
   | ret=>simp only [Prod.mk.injEq] at h;obtain ⟨rfl,_⟩:=h;exact g4
   | pan v=>simp only [Prod.mk.injEq] at h;obtain ⟨rfl,_⟩:=h;exact g4
  | loop c =>
   obtain ⟨e1,w1,a1,cs1,g1,g2,g3,g4⟩:=L c fr s _ _ _ h e w b cs0 cs a hs hfr hf k
   exact ⟨e1,w1,a1,cs1,g1,g2,g3,Lands.of_steps (.one stepR_loop) g4⟩
  | rangeFunc g ps aas bd =>
   simp only [evCode,Option.bind_eq_some_iff] at h
   obtain ⟨v,hv,h⟩:=h
   have hx:=hfr.reads g v hv
   split at h
   case h_2=>cases h
   rename_i f first cap
   split at h
   case isFalse=>cases h
   rename_i hen
   simp only [Option.bind_eq_some_iff] at h
   obtain ⟨⟨l,fr1,s1⟩,h1,⟨r,s2⟩,h2,h⟩:=h
   split at h
   case isFalse=>cases h
   rename_i hle
   simp only at hle
   have hs2 : s2.next = s'.next:=by
    cases r with
    | pan v=>simp only [Option.some.injEq,Prod.mk.injEq] at h;rw [h.2.2]
    | ret v =>
     simp only [Option.map_eq_some_iff,Prod.mk.injEq] at h
     obtain ⟨⟨x3,s3⟩,h3,_,_,rfl⟩:=h
     simp only [leaveLoopA,Option.bind_eq_some_iff] at h3
     obtain ⟨⟨st,pend,tm,pps,pas,pbd,pd⟩,_,h3⟩:=h3
     simp only at h3
     split at h3
     ·cases h3
     ·simp only [Option.map_eq_some_iff,Prod.mk.injEq] at h3
      obtain ⟨_,_,_,rfl⟩:=h3;rfl
   obtain ⟨e1,w1,mark,p,g1,g2,hp,hent,hfr1⟩:=enterA_run (P:=P) h1 hs hfr (free_mono hf (by omega))
   simp only [conc,Option.bind_eq_some_iff,Option.map_eq_some_iff] at hx
   obtain ⟨fs,hfs,cps,hcps,hx⟩:=hx
   have hxs : concL e1 (first ++ [.yld l] ++ cap) = some (fs ++ [.func (.yield p.1) #[] #[]] ++ cps):=
    concL_append (concL_append (concL_le g2.le _ _ hfs) (by simp [concL,conc,hp])) (concL_le g2.le _ _ hcps)
   have hf1 : Free e1 s1.next s2.next:=g2.free (fun m hm1 hm2=>hf m (Nat.le_trans g2.next hm1) (by omega)) (Nat.le_refl _)
   obtain ⟨e2,w2,q1,q2,q3⟩:=hcall _ _ _ _ _ h2 e1 w1 g1 hf1 _ hxs (b.atR { a with defers:=mark ++ a.defers } (.inRangeFunc p.1 :: k)) cs
   have hstep:=stepR_rangeFunc (P:=P) (b:=b) (a:=a) (k:=k) (cs:=cs) (g:=g) (d:={ target:=.fn (.func f) cps.toArray,args:=fs.toArray ++ #[.func (.yield p.1) #[] #[]] }) (w₁':=w1) (w₂:=w1) (f:=f)
    (args:=(fs ++ [Value.func (.yield p.1) #[] #[]] ++ cps).toArray) hent
    (by
     have hm : (#[Operand.const (.func (.yield p.1) #[] #[])] : Array Operand).map a.eval = #[Value.func (.yield p.1) #[] #[]]:=by simp [Act.eval]
     simp only [resolve,rangeCall,hm,← hx,Deferred.ofValue];rfl)
    (by
     simp only [invoke]
     rw [callFunc_run hen]
     congr 2
     apply Array.toList_inj.1;simp)
   cases r with
   | pan u =>
    simp only [Option.some.injEq,Prod.mk.injEq] at h
    obtain ⟨rfl,rfl,rfl⟩:=h
    obtain ⟨y,hy,hst⟩:=q3
    rw [Frame.raise_atR] at hst
    exact ⟨e2,w2,_,cs,q1,g2.trans q2,hfr1.le q2.le,y,hy,_,(Steps.one hstep).trans hst⟩
   | ret u =>
    simp only [Option.map_eq_some_iff,Prod.mk.injEq] at h
    obtain ⟨⟨x3,s3⟩,h3,rfl,rfl,rfl⟩:=h
    obtain ⟨y,hy,hst⟩:=q3
    rw [finish_atR_inRangeFunc] at hst
    obtain ⟨w3,jump,r1,r2,r3,r4⟩:=leaveLoopA_run (P:=P) h3 q1 (q2.le _ _ hp)
    have hend:=stepR_endRangeFunc (P:=P) (b:=b) (a:={ a with defers:=mark ++ a.defers }) (k:=k) (cs:=cs) r3
    refine ⟨e2,w3,_,cs,r1,(g2.trans q2).trans r2,hfr1.le q2.le,Lands.of_steps ((Steps.one hstep).trans (hst.trans (.one hend))) ?_⟩
    cases x3 with
    | norm=>simp only at r4;subst r4;exact Steps.refl P _
    | ret=>simp only at r4;subst r4;exact ⟨k,Steps.refl P _⟩
    | exit id=>simp only at r4;subst r4;exact ⟨k,rfl,Steps.refl P _⟩
    | pan _=>exact r4.elim
end Go.Abs
namespace Go.Abs
abbrev Hook:=FuncId→Option (List AV→St→Option (Rt × St))
noncomputable def resL (P : Program) (tm : List AV) (I : St) : List ResultVar→Option (List AV)
 | []=>some []
 | .tmp t :: r=>(resL P tm I r).map (getR (.tup []) tm t :: ·)
 | .cell a t :: r=>(loadA P t (getR (.tup []) tm a) I).bind fun v=>(resL P tm I r).map (v :: ·)
noncomputable def resultsA (P : Program) (fn : Func) (tm : List AV) (I : St) : Option AV:=
 (resL P tm I fn.results.toList).map fun vs=>match vs with | [v]=>v | vs=>.tup vs
def frameA (args : List AV) (n : Nat) (rc : RC) : Fr:=⟨args ++ List.replicate (n - args.length) (.tup []),[],rc,none⟩
def rcOf : Option AV→RC
 | none=>.quiet
 | some v=>.pend v
def nextP (p : Option AV) : RC→Option AV
 | .no=>p
 | .quiet=>p
 | .pend v=>some v
 | .done _=>none
noncomputable def leaveA (P : Program) (call : CallF) (K : Nat) (fn : Func) (tm : List AV) : List Dfr→Option AV→St→Option (Rt × St)
 | [],none,I=>(resultsA P fn tm I).map fun v=>(.ret v,I)
 | [],some v,I=>some (.pan v,I)
 | .coll d :: ds,p,I=>match I.heap.get d with
  | some .defr=>leaveA P call K fn tm ds p (I.put d .gone)
  | _=>none
 | .fn f aas cs :: ds,p,I=>if enterable P f then (P.funcs[f]?).bind fun g=>g.body.bind fun body =>
  (evCode P call K body (frameA (aas ++ cs) g.ntmps (rcOf p)) I).bind fun (x,fr,I1) =>
  match x,fr.df with
  | .norm,[] | .ret,[]=>(resultsA P g fr.tm I1).bind fun _ =>
   (leaveA P call K fn tm ds (nextP p fr.rc) I1).bind fun y=>if I1.next≤y.2.next then some y else none
  | _,_=>none
  else none
def foldA : List (Tmp × AV)→List AV→List AV
 | [],tm=>tm
 | (t,v) :: r,tm=>foldA r (tm.set t v)
abbrev LP:=LoopState × Option Code × List AV × Array Tmp × Code × Code × Nat
noncomputable def endRd (I : St) (l : Nat) (jump : Option Code) (L : LP) : St:=I.put l (.loop (if jump.isNone then .ready else .done) jump L.2.2.1 L.2.2.2.1 L.2.2.2.2.1 L.2.2.2.2.2.1 L.2.2.2.2.2.2)
noncomputable def begRd (I : St) (l : Nat) (L : LP) : St:=I.put l (.loop .busy L.2.1 L.2.2.1 L.2.2.2.1 L.2.2.2.2.1 L.2.2.2.2.2.1 L.2.2.2.2.2.2)
def jumpOf : Ex→Option (Option Code)
 | .norm=>some none
 | .ret=>some (some .ret)
 | .exit id=>some (some (.exit id))
 | .pan _=>none
noncomputable def roundA (P : Program) (call : CallF) (K : Nat) (l : Nat) (args : List AV) (s : St) : Option (Rt × St):=
 (loopA s l).bind fun L=>if args.length = L.2.2.2.1.size then
 (evCode P call K L.2.2.2.2.1 ⟨foldA (L.2.2.2.1.toList.zip args) L.2.2.1,[],.no,some l⟩ s).bind fun (x,fr1,I1)=>match x with
 | .norm=>(loopA I1 l).bind fun L1=>if L1.1 = .ready then
  (evCode P call K L.2.2.2.2.2.1 fr1 (begRd I1 l L1)).bind fun (x,_,I3) =>
  if I1.next≤I3.next then
  (jumpOf x).bind fun jump=>(loopA I3 l).map fun L3 =>
   (.ret (.bool jump.isNone),endRd I3 l jump L3)
  else none
  else none
 | _=>none
 else none
noncomputable def evCall (P : Program) (hk : Hook) (K : Nat) : Nat→CallF
 | 0,_,_,_=>none
 | n + 1,tg,args,s =>
  match tg with
  | .fn f =>
   match hk f with
   | some g=>g args s
   | none=>(P.funcs[f]?).bind fun fn=>fn.body.bind fun body =>
    (evCode P (evCall P hk K n) K body (frameA args fn.ntmps .no) ⟨s.heap,s.next,[]⟩).bind fun (x,fr,I) =>
    (match x with
     | .norm | .ret=>leaveA P (evCall P hk K n) K fn fr.tm fr.df none I
     | .pan v=>leaveA P (evCall P hk K n) K fn fr.tm fr.df (some v) I
     | .exit _=>none).bind fun (r,I')=>if I.next≤I'.next then some (r,collect s I' r) else none
  | .yld l=>(roundA P (evCall P hk K n) K l args ⟨s.heap,s.next,[]⟩).map fun (r,I')=>(r,collect s I' r)
variable {P : Program}
theorem loadVar_of {t : TypeId} {x : Value} {y : Value} {w : World} (h : (Instr.loadAt t x).run P w = .ok y w) : (do loadVar t (← asAddr x) : Sem Value).run P w = .ok y w:=by
 unfold Instr.loadAt Instr.sureAddr at h
 cases x with
 | pointer p =>
  cases p with
  | some a=>simpa [asAddr] using h
  | none=>simp at h
 | _=>simp at h
def rvSem (tmps : Array Value) : ResultVar→Sem Value
 | .tmp t=>pure (tmps.getD t undef)
 | .cell a t=>do loadVar t (← asAddr (tmps.getD a undef))
theorem results_eq (fn : Func) (tmps : Array Value) : results fn tmps = (do let vs ← fn.results.mapM (rvSem tmps);pure (if h : vs.size = 1 then vs[0] else .tuple vs)):=by
 have : (fun r : ResultVar=>(match r with | .tmp t=>pure (tmps.getD t undef) | .cell a t=>do loadVar t (← asAddr (tmps.getD a undef)) : Sem Value)) = rvSem tmps:=by
  funext r;cases r<;>rfl
 unfold results
 rw [← this]
 rfl
theorem resL_run {e : Env} {I : St} {w : World} (hs : Sim e I w) {tm : List AV} {ts : List Value} (ht : concL e tm = some ts) : ∀ (rs : List ResultVar) (vs : List AV),resL P tm I rs = some vs→
 ∃ xs,concL e vs = some xs∧(rs.mapM (rvSem ts.toArray)).run P w = .ok xs w
 | [],vs,h=>by simp [resL] at h;subst h;exact ⟨[],rfl,rfl⟩
 | .tmp t :: r,vs,h=>by
  simp only [resL,Option.map_eq_some_iff] at h
  obtain ⟨us,hus,rfl⟩:=h
  obtain ⟨xs,hx1,hx2⟩:=resL_run hs ht r us hus
  have hv:=reads_arg ht (⟨ts.toArray,[]⟩ : Act) rfl (.tmp t) _ rfl
  refine ⟨ts.toArray.getD t undef :: xs,by simp only [concL,hv,Act.eval,hx1,Option.bind_some,Option.map_some],?_⟩
  simp only [List.mapM_cons,rvSem,Sem.run_bind,Sem.run_pure,Result.andThen_ok,hx2]
 | .cell a t :: r,vs,h=>by
  simp only [resL,Option.bind_eq_some_iff,Option.map_eq_some_iff] at h
  obtain ⟨v,hv,us,hus,rfl⟩:=h
  obtain ⟨xs,hx1,hx2⟩:=resL_run hs ht r us hus
  have ha:=reads_arg ht (⟨ts.toArray,[]⟩ : Act) rfl (.tmp a) _ rfl
  obtain ⟨y,hy,hrun⟩:=loadA_run (P:=P) hs hv ha
  refine ⟨y :: xs,by simp only [concL,hy,hx1,Option.bind_some,Option.map_some],?_⟩
  have hlv : (rvSem ts.toArray (.cell a t)).run P w = .ok y w:=loadVar_of hrun
  simp only [List.mapM_cons,Sem.run_bind,hlv,Result.andThen_ok,hx2,Sem.run_pure]
theorem resultsA_run {e : Env} {I : St} {w : World} (hs : Sim e I w) {tm : List AV} {ts : List Value} (ht : concL e tm = some ts) {fn : Func} {v : AV} (h : resultsA P fn tm I = some v) :
 ∃ x,conc e v = some x∧(results fn ts.toArray).run P w = .ok x w:=by
 simp only [resultsA,Option.map_eq_some_iff] at h
 obtain ⟨vs,hvs,rfl⟩:=h
 obtain ⟨xs,hx1,hx2⟩:=resL_run hs ht _ _ hvs
 have hl:=concL_length hx1
 have hm : (fn.results.mapM (rvSem ts.toArray)).run P w = .ok xs.toArray w:=by
  have : fn.results = fn.results.toList.toArray:=by simp
  rw [this,List.mapM_toArray,Sem.run_map,hx2];rfl
 rw [results_eq]
 simp only [Sem.run_bind,hm,Result.andThen_ok,Sem.run_pure]
 cases vs with
 | nil =>
  simp only [List.length_nil,List.length_eq_zero_iff] at hl
  subst hl
  exact ⟨.tuple #[],by simp [conc,concL],by simp⟩
 | cons a r =>
  cases r with
  | nil =>
   obtain ⟨x,hx,rfl⟩:=concL_one hx1
   exact ⟨x,hx,by simp⟩
  | cons c r =>
   refine ⟨.tuple xs.toArray,by simp [conc,hx1],?_⟩
   rw [dif_neg (by simp [hl])]
theorem step_coll {fr : Frame} {cs : List Frame} {w w' : World} {b : Nat} {A : Array Value} {ds : List Deferred} (hm : fr.mode ≠ .run) (hd : fr.defers = { target:=.collected b,args:=A } :: ds) (hr : (Instr.takeDeferred b).run P w = .ok [] w') :
 step P (lone fr cs w) = .next (lone { fr with defers:=ds } cs w'):=by
 refine step_lone_go ?_
 cases hmode : fr.mode with
 | run=>exact absurd hmode hm
 | returning=>simp [stepG,unwind,hmode,hd,Sem.runT_eq,hr]
 | panicking chain=>simp [stepG,unwind,hmode,hd,Sem.runT_eq,hr]
def ModeOk (e : Env) (p : Option AV) (m : FrameMode) : Prop:=
 match p with
 | none=>m = .returning
 | some v=>∃ x,conc e v = some x∧m = .panicking [{ v:=x,recovered:=false }]
theorem frameA_conc {e : Env} {args : List AV} {xs : List Value} (h : concL e args = some xs) (n : Nat) (rc : RC) : concL e (frameA args n rc).tm = some (xs.toArray ++ Array.replicate (n - xs.toArray.size) undef).toList:=by
 have hl:=concL_length h
 have : (xs.toArray ++ Array.replicate (n - xs.toArray.size) undef).toList = xs ++ List.replicate (n - args.length) undef:=by simp [hl]
 rw [this]
 exact concL_append h (concL_replicate (conc_undef e) _)
theorem leaveA_run {call : CallF} (hcall : CallOk P call) {K : Nat} {fn : Func} {tm : List AV} : ∀ (ds : List Dfr) (p : Option AV) (I : St) (r : Rt) (I' : St),leaveA P call K fn tm ds p I = some (r,I')→∀ (e : Env) (w : World) (ts : List Value) (Ds : List Deferred),Sim e I w→concL e tm = some ts→concDL e ds = some Ds→
 Free e I.next I'.next→∀ (fr : Frame) (c : Frame) (cs : List Frame),ModeOk e p fr.mode→fr.defers = Ds→fr.tmps = ts.toArray→P.funcs[fr.fn]? = some fn→fr.kind = .normal→
 ∃ e' w',Sim e' I' w'∧Goes e I w e' I' w'∧EndsAt P (lone fr (c :: cs) w) c cs e' r w'
 | [],none,I,r,I',h,e,w,ts,Ds,hs,ht,hD,hf,fr,c,cs,hm,hd,htm,hfn,hk=>by
  simp only [leaveA,Option.map_eq_some_iff,Prod.mk.injEq] at h
  obtain ⟨v,hv,rfl,rfl⟩:=h
  obtain ⟨x,hx,hrun⟩:=resultsA_run hs ht hv
  simp only [concDL,Option.some.injEq] at hD
  refine ⟨e,w,hs,Goes.refl ..,x,hx,.one (step_leave_returned ⟨hm,by rw [hd,← hD],hk,fn,hfn,by rw [htm];exact hrun⟩)⟩
 | [],some v,I,r,I',h,e,w,ts,Ds,hs,ht,hD,hf,fr,c,cs,hm,hd,htm,hfn,hk=>by
  simp only [leaveA,Option.some.injEq,Prod.mk.injEq] at h
  obtain ⟨rfl,rfl⟩:=h
  obtain ⟨x,hx,hm⟩:=hm
  simp only [concDL,Option.some.injEq] at hD
  exact ⟨e,w,hs,Goes.refl ..,x,hx,.one (step_leave_panicked ⟨hm,by rw [hd,← hD],fn,hfn⟩)⟩
 | .coll d :: ds,p,I,r,I',h,e,w,ts,Ds,hs,ht,hD,hf,fr,c,cs,hm,hd,htm,hfn,hk=>by
  simp only [leaveA] at h
  split at h
  case h_2=>cases h
  rename_i hg
  simp only [concDL,concD,Option.bind_eq_some_iff,Option.map_eq_some_iff] at hD
  obtain ⟨D,⟨pd,hpd,rfl⟩,Dr,hDr,rfl⟩:=hD
  obtain ⟨b0,q0,ob,he0,hb0,hrel⟩:=hs.at_ _ _ hg
  rw [hpd] at he0;cases he0
  have hob : ob = .deferred (some []):=hrel
  subst hob
  have hlt : b0 < w.heap.size:=(Array.getElem?_eq_some_iff.1 hb0).1
  let w1 : World:={ w with heap:=w.heap.setIfInBounds b0 (.deferred none) }
  obtain ⟨g1,g2⟩:=hs.put (blk':=.gone) (ob:=.deferred none) (w':=w1) hg trivial hpd (by simp [w1]) (by simp [w1,hlt]) (fun k hk=>by simp [w1,Array.getElem?_setIfInBounds_ne (Ne.symm hk)]) rfl rfl rfl rfl
  have htake : (Instr.takeDeferred b0).run P w = .ok [] w1:=by simp [Instr.takeDeferred,getObj,setObj,Sem.run,hb0,w1]
  have hmr : fr.mode ≠ .run:=by
   cases p with
   | none=>rw [show fr.mode = .returning from hm];simp
   | some v=>obtain ⟨x,_,hm⟩:=hm;rw [hm];simp
  have hst:=step_coll (P:=P) (cs:=c :: cs) hmr hd htake
  obtain ⟨e',w',q1,q2,q3⟩:=leaveA_run hcall ds p (I.put d .gone) r I' h e w1 ts Dr g1 ht hDr hf { fr with defers:=Dr } c cs hm rfl htm hfn hk
  refine ⟨e',w',q1,g2.trans q2,?_⟩
  cases r with
  | ret v=>obtain ⟨x,hx,hs'⟩:=q3;exact ⟨x,hx,.head hst hs'⟩
  | pan v=>obtain ⟨x,hx,hs'⟩:=q3;exact ⟨x,hx,.head hst hs'⟩
 | .fn f aas csA :: ds,p,I,r,I',h,e,w,ts,Ds,hs,ht,hD,hf,fr,c,cs,hm,hd,htm,hfn,hk=>by
  simp only [leaveA] at h
  split at h
  case isFalse=>cases h
  rename_i hen
  simp only [Option.bind_eq_some_iff] at h
  obtain ⟨g,hgf,body,hbody,⟨x,fr1,I1⟩,h1,h⟩:=h
  simp only [concDL,concD,Option.bind_eq_some_iff,Option.map_eq_some_iff] at hD
  obtain ⟨D,⟨xs,hxs,ys,hys,rfl⟩,Dr,hDr,rfl⟩:=hD
  have hmr : fr.mode ≠ .run:=by
   cases p with
   | none=>rw [show fr.mode = .returning from hm];simp
   | some v=>obtain ⟨x,_,hm⟩:=hm;rw [hm];simp
  have hinv : (invoke (.fn (.func f) ys.toArray) xs.toArray).run P w = .ok (.enter f (xs.toArray ++ ys.toArray)) w:=by simp only [invoke];exact callFunc_run hen _ w
  have hst:=step_defer (P:=P) (cs:=c :: cs) hmr hd rfl hinv
  let b : Frame:={ (default : Frame) with fn:=f,kind:=.deferred,roundOf:=none }
  let a0 : Act:={ tmps:=(xs ++ ys).toArray ++ Array.replicate (g.ntmps - (xs ++ ys).toArray.size) undef,defers:=[] }
  have henter : Frame.enter P f (xs.toArray ++ ys.toArray) .deferred = b.atR a0 [.code body]:=by
   simp [Frame.enter,Frame.atR,hgf,hbody,b,a0]
  have hfin : ∃ I2,(x = .norm∨x = .ret)∧fr1.df = []∧(∃ u,resultsA P g fr1.tm I1 = some u)∧leaveA P call K fn tm ds (nextP p fr1.rc) I1 = some (r,I2)∧I1.next≤I2.next∧I2 = I':=by
   split at h
   ·rename_i hxx hdf
    simp only [Option.bind_eq_some_iff] at h
    obtain ⟨u,hu,⟨r2,I2⟩,h2,h⟩:=h
    split at h<;>simp only [reduceCtorEq,Option.some.injEq,Prod.mk.injEq] at h
    obtain ⟨rfl,rfl⟩:=h
    exact ⟨_,.inl hxx,hdf,⟨u,hu⟩,h2,by assumption,rfl⟩
   ·rename_i hxx hdf
    simp only [Option.bind_eq_some_iff] at h
    obtain ⟨u,hu,⟨r2,I2⟩,h2,h⟩:=h
    split at h<;>simp only [reduceCtorEq,Option.some.injEq,Prod.mk.injEq] at h
    obtain ⟨rfl,rfl⟩:=h
    exact ⟨_,.inr hxx,hdf,⟨u,hu⟩,h2,by assumption,rfl⟩
   ·cases h
  obtain ⟨I2,hxn,hdf1,⟨u,hu⟩,h2,hle,rfl⟩:=hfin
  let cfr : Frame:={ fr with defers:=Dr }
  have hfr0 : FR e (frameA (aas ++ csA) g.ntmps (rcOf p)) b (cfr :: c :: cs) a0 (cfr :: c :: cs):=by
   refine ⟨⟨_,frameA_conc (concL_append hxs hys) g.ntmps _,by simp [a0]⟩,rfl,rfl,?_⟩
   cases p with
   | none=>exact ⟨rfl,cfr,c :: cs,rfl,hm,rfl⟩
   | some v =>
    obtain ⟨x,hx,hm⟩:=hm
    refine ⟨rfl,cfr,c :: cs,x,rfl,hx,?_⟩
    have : ({ cfr with mode:=.panicking [{ v:=x,recovered:=false }] } : Frame) = cfr:=by
     have hcm : cfr.mode = .panicking [{ v:=x,recovered:=false }]:=hm
     rw [← hcm]
    rw [this]
  obtain ⟨e1,w1,a1,cs1,g1,g2,g3,g4⟩:=(evCode_run hcall K).1 body _ I x fr1 I1 h1 e w b (cfr :: c :: cs) (cfr :: c :: cs) a0 hs hfr0 (free_mono hf hle) []
  obtain ⟨ts1,hts1,hta1⟩:=g3.tm
  have hdf1' : a1.defers = []:=by
   have:=g3.df;rw [hdf1] at this;simp only [concDL,Option.some.injEq] at this;exact this.symm
  obtain ⟨xr,hxr,hres⟩:=resultsA_run (P:=P) g1 hts1 hu
  have hout : ∃ fd : Frame,Steps P (lone (b.atR a0 [.code body]) (cfr :: c :: cs) w) (lone fd cs1 w1)∧fd.kind = .deferred∧fd.going P w1 (.returned xr):=by
   rcases hxn with rfl | rfl
   ·exact ⟨_,Steps.trans g4 (.one (stepR_end rfl)),rfl,rfl,hdf1',g,hgf,by rw [show ({ b.atR a1 [] with mode:=.returning } : Frame).tmps = ts1.toArray from hta1];exact hres⟩
   ·obtain ⟨Kk,hst⟩:=g4
    exact ⟨_,Steps.trans hst (.one (stepR_ret rfl)),rfl,rfl,hdf1',g,hgf,by rw [show ({ b.atR a1 (.code .ret :: Kk) with mode:=.returning } : Frame).tmps = ts1.toArray from hta1];exact hres⟩
  obtain ⟨fd,hsteps,hfk,hgo⟩:=hout
  have hf1 : Free e1 I1.next I2.next:=g2.free (fun m hm1 hm2=>hf m (Nat.le_trans g2.next hm1) hm2) (Nat.le_refl _)
  have hcs1 : ∃ m',cs1 = { cfr with mode:=m' } :: c :: cs∧ModeOk e1 (nextP p fr1.rc) (settle m'):=by
   have hrc:=g3.rc
   cases hr1 : fr1.rc with
   | no =>
    simp only [hr1,CsOk] at hrc
    refine ⟨cfr.mode,hrc,?_⟩
    show ModeOk e1 p (settle cfr.mode)
    cases p with
    | none =>
     have : cfr.mode = .returning:=hm
     rw [this];rfl
    | some v =>
     obtain ⟨x,hx,hm⟩:=hm
     have : cfr.mode = .panicking [{ v:=x,recovered:=false }]:=hm
     rw [this]
     exact ⟨x,conc_le g2.le _ _ hx,rfl⟩
   | quiet =>
    simp only [hr1,CsOk] at hrc
    obtain ⟨_,c1,rest,e1',hm1,e3⟩:=hrc
    simp only [List.cons.injEq] at e1'
    obtain ⟨rfl,rfl⟩:=e1'
    refine ⟨cfr.mode,e3,?_⟩
    show ModeOk e1 p (settle cfr.mode)
    cases p with
    | none=>rw [hm1];rfl
    | some v =>
     obtain ⟨x,hx,hm⟩:=hm
     have : cfr.mode = .panicking [{ v:=x,recovered:=false }]:=hm
     rw [this] at hm1;cases hm1
   | pend v =>
    simp only [hr1,CsOk] at hrc
    obtain ⟨_,c1,rest,x,e1',hx,e3⟩:=hrc
    simp only [List.cons.injEq] at e1'
    obtain ⟨rfl,rfl⟩:=e1'
    exact ⟨_,e3,x,hx,rfl⟩
   | done v =>
    simp only [hr1,CsOk] at hrc
    obtain ⟨_,c1,rest,x,e1',hx,e3⟩:=hrc
    simp only [List.cons.injEq] at e1'
    obtain ⟨rfl,rfl⟩:=e1'
    exact ⟨_,e3,rfl⟩
  obtain ⟨m',hcs1,hmode⟩:=hcs1
  subst hcs1
  have hst2:=step_going_returned (P:=P) (c:={ cfr with mode:=m' }) (cs:=c :: cs) hfk hgo
  obtain ⟨e2,w2,q1,q2,q3⟩:=leaveA_run hcall ds _ I1 r I2 h2 e1 w1 ts Dr g1 (concL_le g2.le _ _ ht) (concDL_le g2.le hDr) hf1 { { cfr with mode:=m' } with mode:=settle m' } c cs hmode rfl htm hfn hk
  have hall : Steps P (lone fr (c :: cs) w) (lone { { cfr with mode:=m' } with mode:=settle m' } (c :: cs) w1):=
   .head hst (henter ▸ hsteps.trans (.one hst2))
  refine ⟨e2,w2,q1,g2.trans q2,?_⟩
  cases r with
  | ret v=>obtain ⟨x,hx,hs'⟩:=q3;exact ⟨x,hx,hall.trans hs'⟩
  | pan v=>obtain ⟨x,hx,hs'⟩:=q3;exact ⟨x,hx,hall.trans hs'⟩
end Go.Abs
namespace Go.Abs
variable {P : Program}
theorem foldA_conc {e : Env} : ∀ (ps : List Tmp) (args : List AV) (xs : List Value) (tm : List AV) (ts : List Value),concL e args = some xs→concL e tm = some ts→
 ∃ us,concL e (foldA (ps.zip args) tm) = some us∧(ps.zip xs).foldl (fun (tmps : Array Value) (t,a)=>tmps.setIfInBounds t a) ts.toArray = us.toArray
 | [],args,xs,tm,ts,h,k=>⟨ts,k,rfl⟩
 | p :: ps,[],xs,tm,ts,h,k=>by simp [concL] at h;subst h;exact ⟨ts,k,rfl⟩
 | p :: ps,v :: args,xs,tm,ts,h,k=>by
  obtain ⟨x,ys,hx,hys,rfl⟩:=concL_cons h
  obtain ⟨us,h1,h2⟩:=foldA_conc ps args ys (tm.set p v) (ts.set p x) hys (concL_set k p hx)
  exact ⟨us,h1,by simpa using h2⟩
theorem loop_of {e : Env} {s : St} {w : World} (hs : Sim e s w) {l : Nat} {L : LP} (h : loopA s l = some L) {q : Nat × Nat} (hq : e l = some q) :
 ∃ fn ts p,concL e L.2.2.1 = some ts∧e L.2.2.2.2.2.2 = some p∧w.heap[q.1]? = some (.loop { state:=L.1,pending:=L.2.1,fn:=fn,tmps:=ts.toArray,params:=L.2.2.2.1,assign:=L.2.2.2.2.1,body:=L.2.2.2.2.2.1,defers:=p.1 }):=by
 obtain ⟨b0,q0,ob0,he0,hb0,fn0,ts0,pd,h1,h2,rfl⟩:=hs.at_ _ _ (loopA_eq h)
 rw [hq] at he0;cases he0
 exact ⟨fn0,ts0,pd,h1,h2,hb0⟩
theorem setLoop {e : Env} {s : St} {w : World} (hs : Sim e s w) {l : Nat} {L : LP} (h : loopA s l = some L) {q : Nat × Nat} (hq : e l = some q) (st : LoopState) (pend : Option Code) :
 ∃ w' R,Sim e (s.put l (.loop st pend L.2.2.1 L.2.2.2.1 L.2.2.2.2.1 L.2.2.2.2.2.1 L.2.2.2.2.2.2)) w'∧Goes e s w e (s.put l (.loop st pend L.2.2.1 L.2.2.2.1 L.2.2.2.2.1 L.2.2.2.2.2.1 L.2.2.2.2.2.2)) w'∧
  (getObj q.1).run P w = .ok (.loop R) w∧R.state = L.1∧(setObj q.1 (.loop { R with state:=st,pending:=pend })).run P w = .ok () w'∧R.pending = L.2.1:=by
 obtain ⟨fn0,ts0,pd,h1,h2,hb0⟩:=loop_of hs h hq
 have hlt : q.1 < w.heap.size:=(Array.getElem?_eq_some_iff.1 hb0).1
 let R : Loop:={ state:=L.1,pending:=L.2.1,fn:=fn0,tmps:=ts0.toArray,params:=L.2.2.2.1,assign:=L.2.2.2.2.1,body:=L.2.2.2.2.2.1,defers:=pd.1 }
 let w' : World:={ w with heap:=w.heap.setIfInBounds q.1 (.loop { R with state:=st,pending:=pend }) }
 obtain ⟨g1,g2⟩:=hs.put (blk':=.loop st pend L.2.2.1 L.2.2.2.1 L.2.2.2.2.1 L.2.2.2.2.2.1 L.2.2.2.2.2.2) (ob:=.loop { R with state:=st,pending:=pend }) (w':=w') (b:=q.1) (q:=q.2) (loopA_eq h) trivial hq (by simp [w']) (by simp [w',hlt])
  (fun k hk=>by simp [w',Array.getElem?_setIfInBounds_ne (Ne.symm hk)]) ⟨fn0,ts0,pd,h1,h2,rfl⟩ rfl rfl rfl
 exact ⟨w',R,g1,g2,by simp [getObj,Sem.run,hb0,R],rfl,by simp [setObj,Sem.run,hb0,w'],rfl⟩
theorem roundA_run {call : CallF} (hcall : CallOk P call) {K : Nat} {l : Nat} {args : List AV} {s I' : St} {r : Rt} (h : roundA P call K l args s = some (r,I')) {e : Env} {w : World} (hs : Sim e s w) (hf : Free e s.next I'.next) {xs : List Value} (hxs : concL e args = some xs) (c : Frame) (cs : List Frame) :
 ∃ e' w',Sim e' I' w'∧Goes e s w e' I' w'∧Starts P e w (.yld l) xs (fun m=>EndsAt P m c cs e' r w') c cs:=by
 simp only [roundA,Option.bind_eq_some_iff] at h
 obtain ⟨L,hL,h⟩:=h
 split at h
 case isFalse=>cases h
 rename_i hlen
 simp only [Option.bind_eq_some_iff] at h
 obtain ⟨⟨x0,fr1,I1⟩,h1,h⟩:=h
 cases x0<;>simp only [reduceCtorEq] at h
 simp only [Option.bind_eq_some_iff] at h
 obtain ⟨L1,hL1,h⟩:=h
 split at h
 case isFalse=>cases h
 rename_i hready
 simp only [Option.bind_eq_some_iff] at h
 obtain ⟨⟨x,fr2,I3⟩,h3,h⟩:=h
 split at h
 case isFalse=>cases h
 rename_i hle
 simp only [Option.bind_eq_some_iff,Option.map_eq_some_iff,Prod.mk.injEq] at h
 obtain ⟨jump,hjump,L3,hL3,hr,hI'⟩:=h
 subst hI'
 simp only at hle
 obtain ⟨b0,q0,ob0,he0,hb0,_⟩:=hs.at_ _ _ (loopA_eq hL)
 have hq : e l = some (b0,q0):=he0
 obtain ⟨fn0,ts0,pd,k1,k2,k3⟩:=loop_of hs hL hq
 obtain ⟨us,hus,hfold⟩:=foldA_conc L.2.2.2.1.toList args xs L.2.2.1 ts0 hxs k1
 let b : Frame:={ (default : Frame) with fn:=fn0,kind:=.normal,roundOf:=some b0 }
 let a0 : Act:={ tmps:=us.toArray,defers:=[] }
 have hfr0 : FR e ⟨foldA (L.2.2.2.1.toList.zip args) L.2.2.1,[],.no,some l⟩ b (c :: cs) a0 (c :: cs):=⟨⟨us,hus,rfl⟩,rfl,⟨_,hq,rfl⟩,rfl⟩
 have hI3 : I3.next = (endRd I3 l jump L3).next:=rfl
 have hI1 : I1.next≤I3.next:=hle
 obtain ⟨e1,w1,a1,cs1,g1,g2,g3,g4⟩:=(evCode_run hcall K).1 _ _ _ _ _ _ h1 e w b (c :: cs) (c :: cs) a0 hs hfr0 (free_mono hf (by rw [← hI3];exact hI1)) [.beginRound,.code L.2.2.2.2.2.1]
 have nor : ∀ {e' : Env} {fr' : Fr} {a' : Act} {cs' : List Frame},FR e' fr' b (c :: cs) a' cs'→cs' = c :: cs:=by
  intro e' fr' a' cs' g
  have hrc:=g.rc
  cases hr1 : fr'.rc with
  | no=>simpa [hr1,CsOk] using hrc
  | quiet=>simp only [hr1,CsOk] at hrc;exact absurd hrc.1 (by simp [b])
  | pend v=>simp only [hr1,CsOk] at hrc;exact absurd hrc.1 (by simp [b])
  | done v=>simp only [hr1,CsOk] at hrc;exact absurd hrc.1 (by simp [b])
 have hc1:=nor g3
 subst hc1
 have hq1 : e1 l = some (b0,q0):=g2.le _ _ hq
 obtain ⟨w2,R1,p1,p2,p3,p4,p5,p6⟩:=setLoop (P:=P) g1 hL1 hq1 .busy L1.2.1
 have hbeg : (Instr.beginRound b0).run P w1 = .ok () w2:=by
  have hR : R1.state = .ready:=by rw [p4,hready]
  have h5 : ({ R1 with state:=.busy,pending:=L1.2.1 } : Loop) = { R1 with state:=.busy }:=by rw [← p6]
  rw [h5] at p5
  simp only [Instr.beginRound,Instr.getLoop,Sem.run_bind,p3,Result.andThen_ok,Sem.run_pure,p5,hR]
 have hst1 : Steps P (lone (b.atR a0 [.code L.2.2.2.2.1,.beginRound,.code L.2.2.2.2.2.1]) (c :: cs) w) (lone (b.atR a1 [.code L.2.2.2.2.2.1]) (c :: cs) w2):=Steps.trans g4 (.one (stepR_beginRound rfl hbeg))
 have hf1 : Free e1 (begRd I1 l L1).next I3.next:=g2.free (fun m hm1 hm2=>hf m (Nat.le_trans g2.next hm1) hm2) (Nat.le_refl _)
 obtain ⟨e3,w3,a3,cs3,q1,q2,q3,q4⟩:=(evCode_run hcall K).1 _ _ _ _ _ _ h3 e1 w2 b (c :: cs) (c :: cs) a1 p1 g3 hf1 []
 have hc3:=nor q3
 subst hc3
 have hq3 : e3 l = some (b0,q0):=q2.le _ _ hq1
 obtain ⟨w4,R3,r1,r2,r3,r4,r5,r6⟩:=setLoop (P:=P) q1 hL3 hq3 (if jump.isNone then .ready else .done) jump
 have hend : (Instr.endRound b0 jump).run P w3 = .ok (.bool jump.isNone) w4:=by
  simp only [Instr.endRound,Instr.getLoop,Sem.run_bind,r3,Result.andThen_ok,Sem.run_pure,r5]
 have hst2 : Steps P (lone (b.atR a1 [.code L.2.2.2.2.2.1]) (c :: cs) w2) (lone (c.finish (.bool jump.isNone)) cs w4):=by
  cases x with
  | norm =>
   simp only [jumpOf,Option.some.injEq] at hjump;subst hjump
   exact Steps.trans q4 (.one (stepR_round_end rfl rfl hend))
  | ret =>
   simp only [jumpOf,Option.some.injEq] at hjump;subst hjump
   obtain ⟨Kk,hs'⟩:=q4
   exact Steps.trans hs' (.one (stepR_round_ret rfl rfl hend))
  | exit id =>
   simp only [jumpOf,Option.some.injEq] at hjump;subst hjump
   obtain ⟨Kk,hK,hs'⟩:=q4
   exact Steps.trans hs' (.one (stepR_round_exit rfl rfl hK hend))
  | pan v=>simp [jumpOf] at hjump
 refine ⟨e3,w4,r1,((g2.trans p2).trans q2).trans r2,?_⟩
 intro q hq'
 rw [hq] at hq';cases hq'
 refine ⟨_,k3,by rw [concL_length hxs,hlen],?_⟩
 subst hr
 refine ⟨.bool jump.isNone,rfl,?_⟩
 have hround : Frame.round b0 fn0 ((L.2.2.2.1.zip xs.toArray).foldl (fun tmps (t,a)=>tmps.setIfInBounds t a) ts0.toArray) L.2.2.2.2.1 L.2.2.2.2.2.1 .normal = b.atR a0 [.code L.2.2.2.2.1,.beginRound,.code L.2.2.2.2.2.1]:=by
  have : (L.2.2.2.1.zip xs.toArray).foldl (fun (tmps : Array Value) (t,a)=>tmps.setIfInBounds t a) ts0.toArray = us.toArray:=by
   rw [← hfold]
   have hz : L.2.2.2.1.zip xs.toArray = (L.2.2.2.1.toList.zip xs).toArray:=by
    apply Array.toList_inj.1;simp
   rw [hz,List.foldl_toArray]
  rw [this]
  simp [Frame.round,Frame.atR,b,a0]
 show Steps P (lone (Frame.round b0 fn0 _ _ _ .normal) (c :: cs) w) _
 rw [hround]
 exact hst1.trans hst2
def HookOk (P : Program) (hk : Hook) : Prop:=
 ∀ f g,hk f = some g→∀ args s r s',g args s = some (r,s')→∀ e w,Sim e s w→Free e s.next s'.next→∀ xs,concL e args = some xs→∀ (c : Frame) (cs : List Frame),
  ∃ e' w',Sim e' s' w'∧Goes e s w e' s' w'∧EndsAt P (lone (Frame.enter P f xs.toArray .normal) (c :: cs) w) c cs e' r w'
theorem EndsAt.of_steps {m m₁ : Machine} {c : Frame} {cs : List Frame} {e : Env} {r : Rt} {w : World} (h : Steps P m m₁) (h' : EndsAt P m₁ c cs e r w) : EndsAt P m c cs e r w:=by
 cases r with
 | ret v=>obtain ⟨x,hx,hs⟩:=h';exact ⟨x,hx,h.trans hs⟩
 | pan v=>obtain ⟨x,hx,hs⟩:=h';exact ⟨x,hx,h.trans hs⟩
theorem evCall_ok {hk : Hook} (hhk : HookOk P hk) {K : Nat} : ∀ n,CallOk P (evCall P hk K n)
 | 0=>fun tg args s r s' h=>by simp [evCall] at h
 | n + 1=>by
  have ih:=evCall_ok hhk (K:=K) n
  intro tg args s r s' h e w hs hf xs hxs c cs
  cases tg with
  | yld l =>
   simp only [evCall,Option.map_eq_some_iff,Prod.mk.injEq] at h
   obtain ⟨⟨r1,I'⟩,h1,h2,h3⟩:=h
   simp only at h2 h3
   subst h2 h3
   have hf' : Free e s.next I'.next:=hf
   obtain ⟨e',w',g1,g2,g3⟩:=roundA_run ih h1 (s:=⟨s.heap,s.next,[]⟩) (e:=e) (w:=w) ⟨hs.at_,hs.inj,hs.bound⟩ hf' hxs c cs
   obtain ⟨q1,q2⟩:=collect_run (r:=r1) hs hf' g2 g1
   exact ⟨e',w',q1,q2,g3⟩
  | fn f =>
   simp only [evCall] at h
   split at h
   ·rename_i g hg
    obtain ⟨e',w',g1,g2,g3⟩:=hhk f g hg args s r s' h e w hs hf xs hxs c cs
    exact ⟨e',w',g1,g2,g3⟩
   ·simp only [Option.bind_eq_some_iff] at h
    obtain ⟨fn,hfn,body,hbody,⟨x,fr,I⟩,h1,⟨r1,I'⟩,h2,h⟩:=h
    split at h<;>simp only [reduceCtorEq,Option.some.injEq,Prod.mk.injEq] at h
    rename_i hle
    obtain ⟨rfl,rfl⟩:=h
    simp only at hle h2
    let b : Frame:={ (default : Frame) with fn:=f,kind:=.normal,roundOf:=none }
    let a0 : Act:={ tmps:=xs.toArray ++ Array.replicate (fn.ntmps - xs.toArray.size) undef,defers:=[] }
    have henter : Frame.enter P f xs.toArray .normal = b.atR a0 [.code body]:=by simp [Frame.enter,Frame.atR,hfn,hbody,b,a0]
    have hfr0 : FR e (frameA args fn.ntmps .no) b (c :: cs) a0 (c :: cs):=⟨⟨_,frameA_conc hxs fn.ntmps _,by simp [a0]⟩,rfl,rfl,rfl⟩
    have hf' : Free e s.next I'.next:=hf
    obtain ⟨e1,w1,a1,cs1,g1,g2,g3,g4⟩:=(evCode_run ih K).1 body _ ⟨s.heap,s.next,[]⟩ x fr I h1 e w b (c :: cs) (c :: cs) a0 ⟨hs.at_,hs.inj,hs.bound⟩ hfr0 (free_mono hf' hle) []
    have hcs1 : cs1 = c :: cs:=by
     have hrc:=g3.rc
     cases hr1 : fr.rc with
     | no=>simpa [hr1,CsOk] using hrc
     | quiet=>simp only [hr1,CsOk] at hrc;exact absurd hrc.1 (by simp [b])
     | pend v=>simp only [hr1,CsOk] at hrc;exact absurd hrc.1 (by simp [b])
     | done v=>simp only [hr1,CsOk] at hrc;exact absurd hrc.1 (by simp [b])
    subst hcs1
    obtain ⟨ts1,hts1,hta1⟩:=g3.tm
    have hf1 : Free e1 I.next I'.next:=g2.free (fun m hm1 hm2=>hf' m (Nat.le_trans g2.next hm1) hm2) (Nat.le_refl _)
    have fin : ∀ (p : Option AV) (fo : Frame),leaveA P (evCall P hk K n) K fn fr.tm fr.df p I = some (r1,I')→Steps P (lone (b.atR a0 [.code body]) (c :: cs) w) (lone fo (c :: cs) w1)→ModeOk e1 p fo.mode→fo.defers = a1.defers→fo.tmps = a1.tmps→fo.fn = f→fo.kind = .normal→
     ∃ e' w',Sim e' (collect s I' r1) w'∧Goes e s w e' (collect s I' r1) w'∧EndsAt P (lone (Frame.enter P f xs.toArray .normal) (c :: cs) w) c cs e' r1 w':=by
     intro p fo hlv hst hmode hd ht hfo hkd
     obtain ⟨e2,w2,q1,q2,q3⟩:=leaveA_run ih fr.df p I r1 I' hlv e1 w1 ts1 a1.defers g1 hts1 g3.df hf1 fo c cs hmode hd (ht.trans hta1) (by rw [hfo];exact hfn) hkd
     obtain ⟨z1,z2⟩:=collect_run (r:=r1) hs hf' (g2.trans q2) q1
     exact ⟨e2,w2,z1,z2,EndsAt.of_steps (henter ▸ hst) q3⟩
    cases x with
    | norm=>exact fin none { b.atR a1 [] with mode:=.returning } h2 (Steps.trans g4 (.one (stepR_end rfl))) rfl rfl rfl rfl rfl
    | ret =>
     obtain ⟨Kk,hst⟩:=g4
     exact fin none { b.atR a1 (.code .ret :: Kk) with mode:=.returning } h2 (Steps.trans hst (.one (stepR_ret rfl))) rfl rfl rfl rfl rfl
    | pan v =>
     obtain ⟨y,hy,todo,hst⟩:=g4
     exact fin (some v) { b.atR a1 todo with mode:=.panicking [{ v:=y,recovered:=false }] } h2 hst ⟨y,hy,rfl⟩ rfl rfl rfl rfl
    | exit id=>cases h2
end Go.Abs

/- A part of the proof: a run of the program on abstract values, shown to be a run of the machine. -/
import Derived.Test.YtnnmnhpeblhiiaaGreatDoorMP3
import Derived.Laws.CopyRow
import Derived.Laws.Append
import Derived.MapFrom
import Derived.Lib.Bytealg
import Derived.Laws.Externs
set_option linter.unusedVariables false
set_option linter.unusedSimpArgs false
namespace Go.Abs
theorem cells_at {e : Env} {q : Nat} {t : TypeId} {k : Option Nat} {cs : List AV} {ob : Obj} (h : BlkRel e q (.cells t k cs) ob) :
  ∃ vs rest,concL e cs = some vs∧ob = .cells (vs ++ rest).toArray t (0,0)∧(k = none→rest = [])∧(∀ m,k = some m→(vs ++ rest).length = q * m):=by
 cases k with
 | none=>obtain ⟨vs,h1,h2⟩:=h;exact ⟨vs,[],h1,by simpa using h2,fun _=>rfl,by simp⟩
 | some k=>obtain ⟨vs,rest,h1,h2,h3⟩:=h;exact ⟨vs,rest,h1,h2,by simp,fun m hm=>by cases hm;exact h3⟩
theorem cells_mk {e : Env} {q : Nat} {t : TypeId} {k : Option Nat} {cs : List AV} {vs rest : List Value} (h : concL e cs = some vs) (h1 : k = none→rest = []) (h2 : ∀ m,k = some m→(vs ++ rest).length = q * m) :
  BlkRel e q (.cells t k cs) (.cells (vs ++ rest).toArray t (0,0)):=by
 cases k with
 | none=>exact ⟨vs,h,by simp [h1 rfl]⟩
 | some k=>exact ⟨vs,rest,h,rfl,h2 k rfl⟩
variable {P : Program}
theorem load_run {w : World} {b o n : Nat} {vs rest : List Value} {t : TypeId} {fz : Nat × Nat} (hb : w.heap[b]? = some (.cells (vs ++ rest).toArray t fz)) (h : o + n≤vs.length) :
  (loadCells ⟨b,o,none⟩ n).run P w = .ok ((vs.drop o).take n).toArray w:=by
 have hl : ((vs.drop o).take n).length = n:=by simp;omega
 have:=run_loadCells_list (P:=P) w ⟨b,o,none⟩ ((vs.drop o).take n) (by
  intro j v hj
  rw [addr_add]
  simp only [World.cell?,hb]
  simp only [List.getElem?_take] at hj
  split at hj
  ·rename_i hjn
   simp only [List.getElem?_drop] at hj
   simp only [Option.isSome_none,Bool.false_eq_true,if_false,List.getElem?_toArray]
   rw [List.getElem?_append_left (by omega)]
   exact hj
  ·cases hj)
 rw [hl] at this
 exact this
theorem load1_run {w : World} {b o : Nat} {vs rest : List Value} {t : TypeId} {fz : Nat × Nat} {v : Value} (hb : w.heap[b]? = some (.cells (vs ++ rest).toArray t fz)) (h : vs[o]? = some v) :
  (load ⟨b,o,none⟩).run P w = .ok v w:=by
 have ho : o < vs.length:=(List.getElem?_eq_some_iff.1 h).1
 simp [World.cell?,hb,List.getElem?_append_left ho,h]
def oneA : AV→Bool
 | .agg _ | .tup _=>false
 | _=>true
theorem oneA_conc {e : Env} {v : AV} {x : Value} (h : oneA v = true) (hx : conc e v = some x) : x.oneCell' = true:=by
 cases v<;>simp only [conc,Option.some.injEq,Option.map_eq_some_iff,Option.bind_eq_some_iff] at hx <;>
  first | (simp [oneA] at h;done) | (subst hx;rfl) | (obtain ⟨_,_,rfl⟩:=hx;rfl) | (obtain ⟨_,_,_,_,rfl⟩:=hx;rfl)
theorem oneA_list {e : Env} : ∀ {vs : List AV} {xs : List Value},vs.all oneA = true→concL e vs = some xs→∀ x ∈ xs,x.oneCell' = true
 | [],_,_,h=>by simp [concL] at h;subst h;simp
 | v :: vs,xs,ha,h=>by
  obtain ⟨x,ys,hx,hys,rfl⟩:=concL_cons h
  simp only [List.all_cons,Bool.and_eq_true] at ha
  intro z hz
  rcases List.mem_cons.1 hz with rfl | hz
  ·exact oneA_conc ha.1 hx
  ·exact oneA_list ha.2 hys z hz
def spl {α : Type} (o : Nat) (vs cs : List α) : List α:=cs.take o ++ vs ++ cs.drop (o + vs.length)
theorem spl_conc {e : Env} {vs cs : List AV} {xs ys : List Value} (o : Nat) (h : concL e vs = some xs) (k : concL e cs = some ys) : concL e (spl o vs cs) = some (spl o xs ys):=by
 unfold spl
 rw [← concL_length h]
 exact concL_append (concL_append (concL_take k o) h) (concL_drop k _)
theorem spl_app {α : Type} {o : Nat} {vs cs rest : List α} (h : o + vs.length≤cs.length) : spl o vs (cs ++ rest) = spl o vs cs ++ rest:=by
 unfold spl
 rw [List.take_append_of_le_length (by omega),List.drop_append_of_le_length h]
 simp
theorem spl_length {α : Type} {o : Nat} {vs cs : List α} (h : o + vs.length≤cs.length) : (spl o vs cs).length = cs.length:=by
 simp [spl];omega
theorem store_run {w : World} {b o : Nat} {vs rest xs : List Value} {t : TypeId} (hb : w.heap[b]? = some (.cells (vs ++ rest).toArray t (0,0))) (h : o + xs.length≤(vs ++ rest).length) (h1 : ∀ x ∈ xs,x.oneCell' = true) :
  (storeCells ⟨b,o,none⟩ xs).run P w = .ok () (w.setRow b (spl o xs (vs ++ rest)).toArray):=by
 have:=run_storeCells_at P b o t xs 0 (vs ++ rest).toArray w hb (by simpa using h) h1
 simpa [spl] using this
theorem alloc_sim {e : Env} {s : St} {w : World} (hs : Sim e s w) (hf : e s.next = none) (q : Nat) {t : TypeId} {k : Option Nat} {cs : List AV} {vs rest : List Value} (h : concL e cs = some vs) (h1 : k = none→rest = []) (h2 : ∀ m,k = some m→(vs ++ rest).length = q * m) (W : World)
  (hW : W.heap = w.heap∧W.os = w.os∧W.tape = w.tape∧W.output = w.output) :
  Sim (e.upd s.next (w.heap.size,q)) (s.add (.cells t k cs)) { W with heap:=W.heap.push (.cells (vs ++ rest).toArray t) }∧
  Goes e s w (e.upd s.next (w.heap.size,q)) (s.add (.cells t k cs)) { W with heap:=W.heap.push (.cells (vs ++ rest).toArray t) }:=by
 obtain ⟨w1,w2,w3,w4⟩:=hW
 refine hs.add q hf (by simp [w1]) (ob:=.cells (vs ++ rest).toArray t (0,0)) (by simp [w1]) (fun i hi=>by simp only [w1];rw [Array.getElem?_push,if_neg (by omega)]) ?_ w2 w3 w4
 exact (cells_mk h h1 h2).le (Env.le_upd _ hf)
noncomputable def St.get (s : St) (n : Nat) : Option (TypeId × Option Nat × List AV):=
 match s.heap.get n with
 | some (.cells t k cs)=>some (t,k,cs)
 | _=>none
theorem St.get_eq {s : St} {n : Nat} {t : TypeId} {k : Option Nat} {cs : List AV} (h : s.get n = some (t,k,cs)) : s.heap.get n = some (.cells t k cs):=by
 unfold St.get at h
 split at h<;>simp only [Option.some.injEq,Prod.mk.injEq,reduceCtorEq] at h
 rename_i hx;obtain ⟨rfl,rfl,rfl⟩:=h;exact hx
noncomputable def St.rd (s : St) (n : Nat) : Option (List AV):=
 match s.heap.get n with
 | some (.cells _ _ cs)=>some cs
 | some (.ro _ _ cs)=>some cs
 | _=>none
theorem rd_at {e : Env} {s : St} {w : World} (hs : Sim e s w) {n : Nat} {cs : List AV} (h : s.rd n = some cs) : ∃ b q t vs rest,e n = some (b,q)∧w.heap[b]? = some (.cells (vs ++ rest).toArray t (0,0))∧concL e cs = some vs:=by
 unfold St.rd at h
 split at h<;>simp only [Option.some.injEq,reduceCtorEq] at h
 ·rename_i hx;subst h
  obtain ⟨b,q,ob,he,hb,hr⟩:=hs.at_ _ _ hx
  obtain ⟨vs,rest,hvs,rfl,_,_⟩:=cells_at hr
  exact ⟨b,q,_,vs,rest,he,hb,hvs⟩
 ·rename_i hx;subst h
  obtain ⟨b,q,ob,he,hb,vs,rest,hvs,rfl,_⟩:=hs.at_ _ _ hx
  exact ⟨b,q,_,vs,rest,he,hb,hvs⟩
theorem rd_of_get {s : St} {n : Nat} {t : TypeId} {k : Option Nat} {cs : List AV} (h : s.get n = some (t,k,cs)) : s.rd n = some cs:=by
 unfold St.rd;rw [St.get_eq h]
noncomputable def loadA (P : Program) (t : TypeId) (v : AV) (s : St) : Option AV:=
 match v with
 | .ptr n o=>(s.rd n).bind fun cs=>(isAggA P t).bind fun g=>if g then (szA P t).bind fun k=>if o + k≤cs.length then some (.agg ((cs.drop o).take k)) else none else cs[o]?
 | _=>none
theorem loadA_run {e : Env} {s : St} {w : World} (hs : Sim e s w) {t : TypeId} {a v : AV} {x : Value} (h : loadA P t a s = some v) (hx : conc e a = some x) :
  ∃ y,conc e v = some y∧(Instr.loadAt t x).run P w = .ok y w:=by
 unfold loadA at h
 split at h
 ·rename_i n o
  simp only [Option.bind_eq_some_iff] at h
  obtain ⟨cs,hg,g,hgg,h⟩:=h
  obtain ⟨b,q,t',vs,rest,he,hb,hvs⟩:=rd_at hs hg
  simp only [conc,he,Option.map_some,Option.some.injEq] at hx
  subst hx
  have hl:=concL_length hvs
  cases g with
  | true =>
   simp only [if_true,Option.bind_eq_some_iff] at h
   obtain ⟨k,hk,h⟩:=h
   split at h
   ·rename_i hle
    simp only [Option.some.injEq] at h;subst h
    refine ⟨.agg ((vs.drop o).take k).toArray,by simp [conc,concL_take (concL_drop hvs o) k],?_⟩
    simp [Instr.loadAt,Instr.sureAddr,loadVar,isAggA_run P hgg w,szA_run P hk w,load_run hb (by omega : o + k≤vs.length)]
   ·cases h
  | false =>
   simp only [Bool.false_eq_true,if_false] at h
   obtain ⟨y,hy,hc⟩:=concL_get hvs _ _ h
   refine ⟨y,hc,?_⟩
   have:=load1_run (P:=P) hb hy
   simp only [Instr.loadAt,Instr.sureAddr,loadVar,Sem.run_bind,Sem.run_pure,Result.andThen_ok,isAggA_run P hgg w,Bool.false_eq_true,if_false,this]
 ·cases h
noncomputable def storeA (P : Program) (t : TypeId) (a v : AV) (s : St) : Option St:=
 match a with
 | .ptr n o=>(s.get n).bind fun (t',k',cs)=>(szA P t).bind fun k=>if (cellsA v).length = k∧o + k≤cs.length∧(cellsA v).all oneA then some (s.put n (.cells t' k' (spl o (cellsA v) cs))) else none
 | _=>none
theorem storeA_run {e : Env} {s s' : St} {w : World} (hs : Sim e s w) {t : TypeId} {a v : AV} {x y : Value} (h : storeA P t a v s = some s') (hx : conc e a = some x) (hy : conc e v = some y) :
  ∃ w',Sim e s' w'∧Goes e s w e s' w'∧(Instr.storeAt t x y).run P w = .ok () w':=by
 unfold storeA at h
 split at h
 ·rename_i n o
  simp only [Option.bind_eq_some_iff] at h
  obtain ⟨⟨t',k',cs⟩,hg,k,hk,h⟩:=h
  split at h
  ·rename_i hc
   simp only at hc
   simp only [Option.some.injEq] at h;subst h
   obtain ⟨b,q,ob,he,hb,hr⟩:=hs.at_ _ _ (St.get_eq hg)
   obtain ⟨vs,rest,hvs,rfl,hr1,hr2⟩:=cells_at hr
   simp only [conc,he,Option.map_some,Option.some.injEq] at hx
   subst hx
   have hl:=concL_length hvs
   obtain ⟨ys,hys,hyc⟩:=cellsA_conc hy
   have hly:=concL_length hys
   have hle : o + ys.length≤vs.length:=by omega
   have hrun:=store_run (P:=P) hb (o:=o) (xs:=ys) (by simp;omega) (oneA_list hc.2.2 hys)
   rw [spl_app hle] at hrun
   have hput:=hs.put (blk':=.cells t' k' (spl o (cellsA v) cs)) (w':=w.setRow b (spl o ys vs ++ rest).toArray) (St.get_eq hg) trivial he (by simp) (setRow_heap _ _ _ _ _ _ hb) (fun i hi=>setRow_other _ _ _ _ hi)
    (cells_mk (spl_conc o hys hvs) hr1 (fun m hm=>by rw [← hr2 m hm];simp [spl_length hle])) rfl rfl rfl
   refine ⟨_,hput.1,hput.2,?_⟩
   simp [Instr.storeAt,Instr.sureAddr,storeVar,szA_run P hk w,hyc,hly,hc.1,hrun]
  ·cases h
 ·cases h
end Go.Abs
namespace Go.Abs
variable {P : Program}
structure AppArgs (P : Program) (w : World) (st xt el : TypeId) (k bytes : Nat) (base : Option Addr) (sLen : Nat) (x : Value) (n : Nat) (old new : List Value) : Prop where
 st : P.underlying st = some (.slice el)
 xt : ∃ el',P.underlying xt = some (.slice el')
 info : ∃ i z,P.info? el = some i∧i.size = k∧i.bytes = bytes∧i.zero = some z∧z.cells.size = k
 len : Builtin.lenOf x = pure n
 newr : ∀ W : World,W.heap = w.heap→(Builtin.firstCells k n x).run P W = .ok new.toArray W
 oldr : ∀ W : World,W.heap = w.heap→(Builtin.firstCells k sLen (.slice base sLen 0)).run P W = .ok old.toArray W
 newl : new.length = n * k
 oldl : old.length = sLen * k
theorem AppArgs.old' {w : World} {st xt el : TypeId} {k bytes : Nat} {base : Option Addr} {sLen : Nat} {x : Value} {n : Nat} {old new : List Value} (h : AppArgs P w st xt el k bytes base sLen x n old new) (c : Nat) (W : World) (hW : W.heap = w.heap) :
  (Builtin.firstCells k sLen (.slice base sLen c)).run P W = .ok old.toArray W:=by
 have:=h.oldr W hW
 cases base<;>exact this
theorem append_grow {w : World} {st xt el ty : TypeId} {k bytes : Nat} {base : Option Addr} {sLen sCap : Nat} {x : Value} {n : Nat} {old new : List Value}
  (h : AppArgs P w st xt el k bytes base sLen x n old new) (hc : sCap < sLen + n) (hb : bytes ≠ 0) (hm : (sLen + n) * bytes≤140737488355328) :
  ∃ newCap rest,(old ++ new ++ rest).length = newCap * k∧
   (Builtin.append_ #[st,xt] ty #[.slice base sLen sCap,x]).run P w = .ok (.slice (some ⟨w.heap.size,0,none⟩) (sLen + n) newCap) { w with drawn:=w.drawn + 1,heap:=w.heap.push (.cells (old ++ new ++ rest).toArray el) }:=by
 obtain ⟨i,z,hi,hk,hby,hz,hzs⟩:=h.info
 obtain ⟨el',hxt⟩:=h.xt
 obtain ⟨newCap,hnc,hch⟩ : ∃ c,sLen + n≤c∧(choose (.appendCap (sLen + n) sCap el)).run P w = .ok c { w with drawn:=w.drawn + 1 }:=
  ⟨(Question.appendCap (sLen + n) sCap el).cut (w.tape w.drawn (Question.appendCap (sLen + n) sCap el)),Nat.le_add_right _ _,by rw [run_choose];rfl⟩
 refine ⟨newCap,(Builtin.zeroCells z.cells (newCap - (sLen + n))).toList,?_,?_⟩
 ·have : (Builtin.zeroCells z.cells (newCap - (sLen + n))).toList.length = (newCap - (sLen + n)) * k:=by simp [Builtin.zeroCells,hzs]
  rw [List.length_append,List.length_append,h.oldl,h.newl,this,← Nat.add_mul,← Nat.add_mul]
  congr 1;omega
 ·have hfit:=growslice_fits hc hm
  have g1 : ¬ (sLen + n≤sCap):=by omega
  have g2 : ¬ (Builtin.nextslicecap (sLen + n) sCap * bytes > 2 ^ 48):=by omega
  have hnew:=h.newr { w with drawn:=w.drawn + 1 } rfl
  have hold:=h.old' sCap { w with drawn:=w.drawn + 1 } rfl
  have hti : ∀ W : World,(typeInfo el).run P W = .ok i W:=fun W=>run_typeInfo W hi
  have hsz : ∀ W : World,(sizeOf el).run P W = .ok k W:=fun W=>by simp [sizeOf,hti W,hk]
  have hzv : ∀ W : World,(zeroValue el).run P W = .ok z W:=fun W=>by simp [zeroValue,hti W,hz]
  simp only [Builtin.append_,List.getElem?_toArray,List.getElem?_cons_zero,List.getElem?_cons_succ,Sem.run_bind,run_underlying h.st,run_underlying hxt,Result.andThen_ok,hsz,Sem.run_pure,h.len,
   Bool.false_eq_true,if_false,g1,hti,hby,g2,or_self,and_false,hb,false_or,hch,run_askRoom,hold,hnew,hzv,Bool.not_false,if_true,newRow,run_newObj,List.append_toArray]
  simp
  congr 2
  apply Array.toList_inj.1
  simp
theorem append_room {w : World} {st xt el ty : TypeId} {k bytes : Nat} {b o : Nat} {sLen sCap : Nat} {x : Value} {n : Nat} {old new : List Value} {arr : List Value} {t : TypeId}
  (h : AppArgs P w st xt el k bytes (some ⟨b,o,none⟩) sLen x n old new) (hc : sLen + n≤sCap) (hb : w.heap[b]? = some (.cells arr.toArray t (0,0))) (hl : o + sLen * k + n * k≤arr.length) (h1 : ∀ x ∈ new,x.oneCell' = true) :
  (Builtin.append_ #[st,xt] ty #[.slice (some ⟨b,o,none⟩) sLen sCap,x]).run P w = .ok (.slice (some ⟨b,o,none⟩) (sLen + n) sCap) (w.setRow b (spl (o + sLen * k) new arr).toArray):=by
 obtain ⟨i,z,hi,hk,hby,hz,hzs⟩:=h.info
 obtain ⟨el',hxt⟩:=h.xt
 have hti : ∀ W : World,(typeInfo el).run P W = .ok i W:=fun W=>run_typeInfo W hi
 have hsz : ∀ W : World,(sizeOf el).run P W = .ok k W:=fun W=>by simp [sizeOf,hti W,hk]
 have hnew:=h.newr w rfl
 have hst:=store_run (P:=P) (w:=w) (b:=b) (o:=o + sLen * k) (vs:=arr) (rest:=[]) (xs:=new) (t:=t) (by simpa using hb) (by simp [h.newl];omega) h1
 simp only [List.append_nil] at hst
 simp only [Builtin.append_,List.getElem?_toArray,List.getElem?_cons_zero,List.getElem?_cons_succ,Sem.run_bind,run_underlying h.st,run_underlying hxt,Result.andThen_ok,hsz,Sem.run_pure,h.len,
  Bool.false_eq_true,if_false,hc,if_true,hnew,Bool.not_false,addr_add,List.toList_toArray,hst]
theorem append_none {w : World} {st xt el ty : TypeId} {k bytes : Nat} {base : Option Addr} {sLen sCap : Nat} {x : Value} {old : List Value}
  (h : AppArgs P w st xt el k bytes base sLen x 0 old []) (hc : sLen≤sCap) : (Builtin.append_ #[st,xt] ty #[.slice base sLen sCap,x]).run P w = .ok (.slice base sLen sCap) w:=by
 obtain ⟨i,z,hi,hk,hby,hz,hzs⟩:=h.info
 obtain ⟨el',hxt⟩:=h.xt
 have hti : ∀ W : World,(typeInfo el).run P W = .ok i W:=fun W=>run_typeInfo W hi
 have hsz : ∀ W : World,(sizeOf el).run P W = .ok k W:=fun W=>by simp [sizeOf,hti W,hk]
 have hnew:=h.newr w rfl
 cases base with
 | none =>
  simp only [Builtin.append_,List.getElem?_toArray,List.getElem?_cons_zero,List.getElem?_cons_succ,Sem.run_bind,run_underlying h.st,run_underlying hxt,Result.andThen_ok,hsz,Sem.run_pure,h.len,
   Bool.false_eq_true,if_false,Nat.add_zero,hc,if_true,hnew,Bool.not_false]
 | some a =>
  simp only [Builtin.append_,List.getElem?_toArray,List.getElem?_cons_zero,List.getElem?_cons_succ,Sem.run_bind,run_underlying h.st,run_underlying hxt,Result.andThen_ok,hsz,Sem.run_pure,h.len,
   Bool.false_eq_true,if_false,Nat.add_zero,hc,if_true,hnew,Bool.not_false,storeCells]
def lenSl : AV→Option Nat
 | .nilSlice=>some 0
 | .slice _ _ n _=>some n
 | .opn _ n=>some n
 | _=>none
noncomputable def firstA (m : Nat) (v : AV) (s : St) : Option (List AV):=
 match v with
 | .nilSlice=>if m = 0 then some [] else none
 | .slice b o _ _=>(s.rd b).bind fun cs=>if o + m≤cs.length then some ((cs.drop o).take m) else none
 | .opn b _=>(s.rd b).bind fun cs=>if m≤cs.length then some (cs.take m) else none
 | _=>none
theorem lenSl_run {e : Env} {v : AV} {x : Value} {n : Nat} (h : lenSl v = some n) (hx : conc e v = some x) : Builtin.lenOf x = pure n∧∃ a c,x = .slice a n c:=by
 unfold lenSl at h
 split at h<;>simp only [reduceCtorEq,Option.some.injEq] at h<;>subst h<;>simp only [conc,Option.some.injEq,Option.map_eq_some_iff] at hx
 ·subst hx;exact ⟨rfl,_,_,rfl⟩
 ·obtain ⟨p,_,rfl⟩:=hx;exact ⟨rfl,_,_,rfl⟩
 ·obtain ⟨p,_,rfl⟩:=hx;exact ⟨rfl,_,_,rfl⟩
theorem firstA_run {e : Env} {s : St} {w : World} (hs : Sim e s w) {v : AV} {x : Value} {n k : Nat} {cs : List AV} (h : firstA (n * k) v s = some cs) (hx : conc e v = some x) :
  ∃ xs,concL e cs = some xs∧cs.length = n * k∧∀ W : World,W.heap = w.heap→(Builtin.firstCells k n x).run P W = .ok xs.toArray W:=by
 unfold firstA at h
 split at h
 ·split at h
  ·rename_i hm
   simp only [Option.some.injEq] at h;subst h
   simp only [conc,Option.some.injEq] at hx;subst hx
   exact ⟨[],rfl,by simp [hm],fun W _=>rfl⟩
  ·cases h
 ·simp only [Option.bind_eq_some_iff] at h
  obtain ⟨ds,hg,h⟩:=h
  split at h
  ·rename_i hle
   simp only [Option.some.injEq] at h;subst h
   obtain ⟨b,q,t,vs,rest,he,hb,hvs⟩:=rd_at hs hg
   simp only [conc,he,Option.map_some,Option.some.injEq] at hx
   subst hx
   have hl:=concL_length hvs
   refine ⟨_,concL_take (concL_drop hvs _) _,by simp;omega,fun W hW=>?_⟩
   have hb' : W.heap[b]? = some (.cells (vs ++ rest).toArray t (0,0)):=by rw [hW];exact hb
   simp only [Builtin.firstCells]
   exact load_run hb' (by omega)
  ·cases h
 ·simp only [Option.bind_eq_some_iff] at h
  obtain ⟨ds,hg,h⟩:=h
  split at h
  ·rename_i hle
   simp only [Option.some.injEq] at h;subst h
   obtain ⟨b,q,t,vs,rest,he,hb,hvs⟩:=rd_at hs hg
   simp only [conc,he,Option.map_some,Option.some.injEq] at hx
   subst hx
   have hl:=concL_length hvs
   refine ⟨_,concL_take hvs _,by simp;omega,fun W hW=>?_⟩
   have hb' : W.heap[b]? = some (.cells (vs ++ rest).toArray t (0,0)):=by rw [hW];exact hb
   simp only [Builtin.firstCells]
   have:=load_run (P:=P) (o:=0) (n:=n * k) hb' (by omega)
   simpa using this
  ·cases h
 ·cases h
end Go.Abs
namespace Go.Abs
variable {P : Program}
theorem Goes.kill {e e' : Env} {s : St} {w w' : World} {blk : Blk} (n : Nat) (hn : n ≠ s.next) (h : Goes e s w e' (s.add blk) w') : Goes e s w e' (s.shift n blk) w' where
 le:=h.le
 rng:=h.rng
 own:=fun b hb o=>h.own b hb (by
  obtain ⟨m,x,q,hx,hr,hm⟩:=o
  simp only [St.shift,Tr.get_set] at hx
  refine ⟨m,x,q,?_,hr,hm⟩
  simp only [St.add,Tr.get_set]
  split at hx
  ·rename_i e0;rw [if_pos e0];exact hx
  ·rename_i e0;rw [if_neg e0];split at hx
   ·cases hx
   ·exact hx)
 met:=fun b hb o=>h.met b hb (by
  obtain ⟨m,x,q,hx,hm⟩:=o
  simp only [St.shift,Tr.get_set] at hx
  refine ⟨m,x,q,?_,hm⟩
  simp only [St.add,Tr.get_set]
  split at hx
  ·rename_i e0;rw [if_pos e0];exact hx
  ·rename_i e0;rw [if_neg e0];split at hx
   ·cases hx
   ·exact hx)
 frame:=h.frame
 size:=h.size
 os:=h.os
 tape:=h.tape
 output:=h.output
 log:=fun m hm=>by
  simp only [St.shift,List.mem_cons,not_or] at hm ⊢
  rw [Tr.get_set,if_neg hm.1,Tr.get_set,if_neg hm.2.1]
 logs:=fun m hm=>List.mem_cons_of_mem _ (List.mem_cons_of_mem _ hm)
 next:=h.next
theorem Sim.kill {e : Env} {s : St} {w : World} {blk : Blk} (n : Nat) (h : Sim e (s.add blk) w) : Sim e (s.shift n blk) w:=
 h.sub fun m x hx=>by
  simp only [St.shift,St.add,Tr.get_set] at hx ⊢
  split at hx
  ·rename_i e0;rw [if_pos e0];exact hx
  ·rename_i e0;rw [if_neg e0];split at hx
   ·cases hx
   ·exact hx
noncomputable def appendA (P : Program) (st xt : TypeId) (a x : AV) (s : St) : Option (AV × St):=
 match P.underlying st,P.underlying xt with
 | some (.slice el),some (.slice _) =>
  (P.info? el).bind fun i=>(zeroA P el).bind fun z =>
  if (cellsA z).length = i.size∧i.bytes ≠ 0∧i.size ≠ 0 then
  (lenSl x).bind fun n=>(lenSl a).bind fun m=>(firstA (n * i.size) x s).bind fun new=>(firstA (m * i.size) a s).bind fun old =>
  if n = 0 then
   match a with
   | .nilSlice=>some (.nilSlice,s)
   | .slice b o l c=>if l≤c then some (.slice b o l c,s) else none
   | .opn b l=>(s.get b).bind fun r=>if r.2.1 = some i.size then some (.opn b l,s) else none
   | _=>none
  else if new.all oneA∧(m + n) * i.bytes≤140737488355328 then
   match a with
   | .nilSlice=>some (.opn s.next (m + n),s.add (.cells el (some i.size) (old ++ new)))
   | .slice b o l c =>
    if l + n≤c then (s.get b).bind fun r=>if o + l * i.size + n * i.size≤r.2.2.length then some (.slice b o (l + n) c,s.put b (.cells r.1 r.2.1 (spl (o + l * i.size) new r.2.2))) else none
    else some (.opn s.next (m + n),s.add (.cells el (some i.size) (old ++ new)))
   | .opn b l=>(s.get b).bind fun r=>if r.2.1 = some i.size∧r.1 = el then some (.opn s.next (l + n),s.shift b (.cells el (some i.size) (old ++ new))) else none
   | _=>none
  else none
  else none
 | _,_=>none
theorem appendA_run {e : Env} {s s' : St} {w : World} (hs : Sim e s w) {st xt ty : TypeId} {a x v : AV} {A X : Value} (h : appendA P st xt a x s = some (v,s')) (hA : conc e a = some A) (hX : conc e x = some X)
  (hf : Free e s.next s'.next) : ∃ e' w',Sim e' s' w'∧Goes e s w e' s' w'∧∃ V,conc e' v = some V∧(Builtin.append_ #[st,xt] ty #[A,X]).run P w = .ok V w':=by
 unfold appendA at h
 split at h
 case h_2=>cases h
 rename_i el el' hst hxt
 simp only [Option.bind_eq_some_iff] at h
 obtain ⟨i,hi,z,hz,h⟩:=h
 split at h
 case isFalse=>cases h
 rename_i hc
 obtain ⟨hzl,hby,hsz⟩:=hc
 simp only [Option.bind_eq_some_iff] at h
 obtain ⟨n,hn,m,hm,new,hnew,old,hold,h⟩:=h
 obtain ⟨hlen,_,_,_⟩:=lenSl_run hn hX
 obtain ⟨_,base,cap,rfl⟩:=lenSl_run hm hA
 obtain ⟨news,hnews,hnewl,hnewr⟩:=firstA_run (P:=P) hs hnew hX
 obtain ⟨olds,holds,holdl,holdr⟩:=firstA_run (P:=P) hs hold hA
 have l1:=concL_length hnews
 have l2:=concL_length holds
 have harg : AppArgs P w st xt el i.size i.bytes base m X n olds news:=by
  refine ⟨hst,⟨el',hxt⟩,?_,hlen,hnewr,?_,by omega,by omega⟩
  ·simp only [zeroA,hi,Option.bind_some,Option.bind_eq_some_iff] at hz
   obtain ⟨zv,hzv,hzo⟩:=hz
   obtain ⟨zs,hzs1,hzs2⟩:=cellsA_conc (conc_ofVal e hzo)
   have:=concL_length hzs1
   exact ⟨i,zv,hi,rfl,rfl,hzv,by rw [hzs2];simp;omega⟩
  ·intro W hW
   have:=holdr W hW
   cases base<;>exact this
 split at h
 ·rename_i hn0
  subst hn0
  have hnil : news = []:=by
    have : news.length = 0:=by omega
    exact List.eq_nil_of_length_eq_zero this
  subst hnil
  have key : m≤cap→∃ e' w',Sim e' s w'∧Goes e s w e' s w'∧∃ V,conc e' a = some V∧(Builtin.append_ #[st,xt] ty #[.slice base m cap,X]).run P w = .ok V w':=fun hcap =>
   ⟨e,w,hs,Goes.refl ..,_,hA,append_none harg hcap⟩
  split at h
  ·simp only [Option.some.injEq,Prod.mk.injEq] at h;obtain ⟨rfl,rfl⟩:=h
   simp only [conc,Option.some.injEq,Value.slice.injEq] at hA;obtain ⟨_,h1,h2⟩:=hA
   exact key (by omega)
  ·split at h<;>simp only [reduceCtorEq,Option.some.injEq,Prod.mk.injEq] at h
   obtain ⟨rfl,rfl⟩:=h
   rename_i hlc
   simp only [conc,Option.map_eq_some_iff,Value.slice.injEq] at hA;obtain ⟨_,_,_,h1,h2⟩:=hA
   exact key (by omega)
  ·rename_i b l
   simp only [Option.bind_eq_some_iff] at h
   obtain ⟨⟨t',k',cs⟩,hg,h⟩:=h
   split at h<;>simp only [reduceCtorEq,Option.some.injEq,Prod.mk.injEq] at h
   obtain ⟨rfl,rfl⟩:=h
   rename_i hk
   simp only at hk
   obtain ⟨b',q,ob,he,hb,hr⟩:=hs.at_ _ _ (St.get_eq hg)
   obtain ⟨vs,rest,hvs,rfl,_,hr2⟩:=cells_at hr
   have hql:=hr2 _ hk
   simp only [firstA,rd_of_get hg,Option.bind_some] at hold
   split at hold
   ·rename_i hle
    try simp only at hle
    have l3:=concL_length hvs
    simp only [conc,he,Option.map_some,Option.some.injEq,Value.slice.injEq] at hA
    obtain ⟨_,h1,h2⟩:=hA
    have hmq : m * i.size≤q * i.size:=by
     rw [List.length_append] at hql;omega
    exact key (by rw [← h2];exact Nat.le_of_mul_le_mul_right hmq (by omega))
   ·cases hold
  ·cases h
 ·rename_i hn0
  split at h
  case isFalse=>cases h
  rename_i hone
  obtain ⟨hone,hmax⟩:=hone
  have grow : cap < m + n→e s.next = none→∃ e' w',Sim e' (s.add (.cells el (some i.size) (old ++ new))) w'∧Goes e s w e' (s.add (.cells el (some i.size) (old ++ new))) w'∧
    ∃ V,conc e' (.opn s.next (m + n)) = some V∧(Builtin.append_ #[st,xt] ty #[.slice base m cap,X]).run P w = .ok V w':=by
   intro hcap hfree
   obtain ⟨newCap,rest,hl,hrun⟩:=append_grow (ty:=ty) harg hcap hby hmax
   have:=alloc_sim hs hfree newCap (t:=el) (k:=some i.size) (rest:=rest) (concL_append holds hnews) (by simp) (fun m' hm'=>by cases hm';exact hl) { w with drawn:=w.drawn + 1 } ⟨rfl,rfl,rfl,rfl⟩
   exact ⟨_,_,this.1,this.2,_,by simp only [conc,Env.upd_self,Option.map_some],hrun⟩
  split at h
  ·simp only [Option.some.injEq,Prod.mk.injEq] at h;obtain ⟨rfl,rfl⟩:=h
   simp only [conc,Option.some.injEq,Value.slice.injEq] at hA;obtain ⟨_,h1,h2⟩:=hA
   exact grow (by omega) (hf _ (Nat.le_refl _) (Nat.lt_succ_self _))
  ·rename_i b o l c
   split at h
   ·rename_i hroom
    simp only [Option.bind_eq_some_iff] at h
    obtain ⟨⟨t',k',cs⟩,hg,h⟩:=h
    split at h<;>simp only [reduceCtorEq,Option.some.injEq,Prod.mk.injEq] at h
    obtain ⟨rfl,rfl⟩:=h
    rename_i hle
    simp only at hle
    obtain ⟨b',q,ob,he,hb,hr⟩:=hs.at_ _ _ (St.get_eq hg)
    obtain ⟨vs,rest,hvs,rfl,hr1,hr2⟩:=cells_at hr
    have l3:=concL_length hvs
    simp only [conc,he,Option.map_some,Option.some.injEq,Value.slice.injEq] at hA
    obtain ⟨h0,h1,h2⟩:=hA
    subst h0 h1 h2
    have hrun:=append_room (ty:=ty) harg hroom hb (by simp;omega) (oneA_list hone hnews)
    have hsp : spl (o + l * i.size) news (vs ++ rest) = spl (o + l * i.size) news vs ++ rest:=spl_app (by omega)
    rw [hsp] at hrun
    have hput:=hs.put (blk':=.cells t' k' (spl (o + l * i.size) new cs)) (w':=w.setRow b' (spl (o + l * i.size) news vs ++ rest).toArray) (St.get_eq hg) trivial he (by simp) (setRow_heap _ _ _ _ _ _ hb) (fun j hj=>setRow_other _ _ _ _ hj)
     (cells_mk (spl_conc _ hnews hvs) hr1 (fun m' hm'=>by rw [← hr2 m' hm'];simp [spl_length (show o + l * i.size + news.length≤vs.length by omega)])) rfl rfl rfl
    exact ⟨_,_,hput.1,hput.2,_,by simp only [conc,he,Option.map_some],hrun⟩
   ·rename_i hroom
    simp only [Option.some.injEq,Prod.mk.injEq] at h;obtain ⟨rfl,rfl⟩:=h
    simp only [conc,Option.map_eq_some_iff,Value.slice.injEq] at hA;obtain ⟨_,_,_,h1,h2⟩:=hA
    exact grow (by omega) (hf _ (Nat.le_refl _) (Nat.lt_succ_self _))
  ·rename_i b l
   simp only [Option.bind_eq_some_iff] at h
   obtain ⟨⟨t',k',cs⟩,hg,h⟩:=h
   split at h<;>simp only [reduceCtorEq,Option.some.injEq,Prod.mk.injEq] at h
   obtain ⟨rfl,rfl⟩:=h
   rename_i hk
   simp only at hk
   obtain ⟨hk,rfl⟩:=hk
   have hfree : e s.next = none:=hf _ (Nat.le_refl _) (Nat.lt_succ_self _)
   obtain ⟨b',q,ob,he,hb,hr⟩:=hs.at_ _ _ (St.get_eq hg)
   have hbn : b ≠ s.next:=fun e0=>by rw [e0,hfree] at he;cases he
   obtain ⟨vs,rest,hvs,rfl,hr1,hr2⟩:=cells_at hr
   have hql:=hr2 _ hk
   have l3:=concL_length hvs
   simp only [firstA,rd_of_get hg,Option.bind_some] at hold
   split at hold
   case isFalse=>cases hold
   rename_i hle
   try simp only at hle
   simp only [Option.some.injEq] at hold
   have hlm : m = l:=by simp only [lenSl,Option.some.injEq] at hm;exact hm.symm
   subst hlm
   simp only [conc,he,Option.map_some,Option.some.injEq,Value.slice.injEq] at hA
   obtain ⟨h0,_,h2⟩:=hA
   subst h0 h2
   by_cases hroom : m + n≤q
   ·have hfull : 0 + m * i.size + n * i.size≤(vs ++ rest).length:=by
     rw [hql,Nat.zero_add,← Nat.add_mul];exact Nat.mul_le_mul_right _ hroom
    have hrun:=append_room (ty:=ty) harg hroom hb hfull (oneA_list hone hnews)
    have hov : olds = vs.take (m * i.size):=by
     have:=concL_take hvs (m * i.size)
     rw [hold] at this;exact Option.some.inj (holds.symm.trans this)
    have hsp : spl (0 + m * i.size) news (vs ++ rest) = (olds ++ news) ++ (vs ++ rest).drop (m * i.size + news.length):=by
     unfold spl
     rw [Nat.zero_add,List.take_append_of_le_length (by omega),← hov]
    rw [hsp] at hrun
    have hsh:=hs.shift (blk':=.cells t' (some i.size) (old ++ new)) (w':=w.setRow b' ((olds ++ news) ++ (vs ++ rest).drop (m * i.size + news.length)).toArray) (St.get_eq hg) trivial he hfree (by simp) (setRow_heap _ _ _ _ _ _ hb) (fun j hj=>setRow_other _ _ _ _ hj)
     (cells_mk (concL_append holds hnews) (by simp) (fun m' hm'=>by cases hm';rw [← hql];simp only [List.length_append,List.length_drop] at hfull ⊢;omega)) rfl rfl rfl
    exact ⟨_,_,hsh.1,hsh.2,_,by simp only [conc,Env.upd_self,Option.map_some],hrun⟩
   ·obtain ⟨e',w',g1,g2,V,g3,g4⟩:=grow (by omega) hfree
    exact ⟨e',w',g1.kill b,g2.kill b hbn,V,g3,g4⟩
  ·cases h
end Go.Abs
namespace Go.Abs
variable (P : Program)
def checkF (f : TypeId→AV→Option Unit) (cs : List AV) : List Field→Option Unit
 | []=>some ()
 | g :: gs => if g.name ≠ "_" then (partA P g.type cs g.offset).bind fun a => (f g.type a).bind fun _ => checkF f cs gs else checkF f cs gs
def checkV : Nat→TypeId→AV→Option Unit
 | 0,_,_=>none
 | d + 1,t,v =>
  match P.underlying t,v with
  | some (.struct fs),.agg cs=>checkF P (checkV d) cs fs.toList
  | some .bool,.bool _ | some (.int _),.int _ _ | some .string,.str _=>some ()
  | _,_=>none
def findA (t : TypeId) (k : AV) : List (AV × AV × Nat)→Option (Option AV)
 | []=>some none
 | (k',v,_) :: es=>(eqV P 10000 t k k').bind fun r=>if r then some (some v) else findA t k es
variable {P}
theorem checkF_run {e : Env} {f : TypeId→AV→Option Unit} {em : Bool} {d : Nat} {w : World} {cs : List AV} {us : List Value}
  (hf : ∀ t a x,f t a = some ()→conc e a = some x→(Instr.checkKey em d t x).run P w = .ok () w) (hx : concL e cs = some us) : ∀ (fs : List Field),checkF P f cs fs = some ()→
  (forIn fs PUnit.unit fun (g : Field) (_ : PUnit) => (if g.name ≠ "_" then (do let x ← part g.type us.toArray g.offset; Instr.checkKey em d g.type x; pure (ForInStep.yield PUnit.unit)) else pure (ForInStep.yield PUnit.unit) : Sem (ForInStep PUnit))).run P w = .ok PUnit.unit w
 | [],_=>by simp
 | g :: gs,h=>by
  unfold checkF at h
  rw [List.forIn_cons]
  split at h
  ·rename_i hn
   simp only [Option.bind_eq_some_iff] at h
   obtain ⟨a,ha,u,hu,hr⟩:=h
   obtain ⟨x,hx',hxr⟩:=partA_run P ha hx w
   have:=hf _ _ _ hu hx'
   simp only [Sem.run_bind,if_pos hn,hxr,this,Result.andThen_ok,Sem.run_pure]
   exact checkF_run hf hx gs hr
  ·rename_i hn
   simp only [Sem.run_bind,if_neg hn,Result.andThen_ok,Sem.run_pure]
   exact checkF_run hf hx gs h
theorem checkV_run {e : Env} (em : Bool) (w : World) : ∀ (d : Nat) (t : TypeId) (a : AV) (x : Value),checkV P d t a = some ()→conc e a = some x→(Instr.checkKey em d t x).run P w = .ok () w
 | 0,_,_,_,h,_=>by cases h
 | d + 1,t,a,x,h,ha=>by
  unfold checkV at h
  split at h
  case h_1 fs cs hu =>
   simp only [conc,Option.map_eq_some_iff] at ha
   obtain ⟨us,hus,rfl⟩:=ha
   have:=checkF_run (P:=P) (em:=em) (d:=d) (w:=w) (fun t a x h1 h2=>checkV_run em w d t a x h1 h2) hus _ h
   rw [Instr.checkKey]
   simp only [Sem.run_bind,run_underlying hu,Result.andThen_ok]
   rw [← Array.forIn_toList]
   rw [this];simp
  all_goals (try (cases h;done))
  all_goals (rename_i hu)
  all_goals (simp only [conc,Option.some.injEq] at ha;subst ha;rw [Instr.checkKey];simp [run_underlying hu])
theorem sameNow_eq {t : TypeId} {d : TypeDesc} (hu : P.underlying t = some d) {x y : Value} {b : Bool} (h : Instr.sameNow d x y = some b) (w : World) : (Op.equal t x y).run P w = .ok b w:=by
 suffices hk : ∀ n,(Op.equalIn (n + 1) t x y).run P w = .ok b w from hk 9999
 intro n
 unfold Instr.sameNow at h
 split at h
 ·split at h
  ·rename_i hk;subst hk;cases h;simp [Op.equalIn,run_underlying hu]
  ·cases h
 ·cases h;simp [Op.equalIn,run_underlying hu]
 ·cases h;simp [Op.equalIn,run_underlying hu]
 ·cases h
theorem findNow_eq {t : TypeId} {d : TypeDesc} (hu : P.underlying t = some d) {x : Value} (w : World) : ∀ {ms : List MapEntry} {i : Nat} {r : Option (Nat × Value)},Instr.findNow d x ms i = some r→(Instr.findAsking t x ms i).run P w = .ok r w
 | [],i,r,h=>by simp [Instr.findNow] at h;subst h;simp [Instr.findAsking]
 | m :: ms,i,r,h=>by
  simp only [Instr.findNow] at h
  split at h
  ·rename_i hs;cases h;simp only [Instr.findAsking,Sem.run_bind,sameNow_eq hu hs w,Result.andThen_ok,if_true,Sem.run_pure]
  ·rename_i hs;simp only [Instr.findAsking,Sem.run_bind,sameNow_eq hu hs w,Result.andThen_ok,Bool.false_eq_true,if_false,findNow_eq hu w h]
  ·cases h
theorem findKey_eq {t : TypeId} {d : TypeDesc} (hu : P.underlying t = some d) (x : Value) (ms : List MapEntry) (w : World) : (Instr.findKey t x ms).run P w = (Instr.findAsking t x ms).run P w:=by
 unfold Instr.findKey
 simp only [Sem.run_bind,run_underlying hu,Result.andThen_ok]
 cases hn : Instr.findNow d x ms 0 with
 | none=>rfl
 | some r=>simp only [Sem.run_pure,findNow_eq hu w hn]
def FoundIs (e : Env) : Option AV→Option (Nat × Value)→Prop
 | none,none=>True
 | some v,some q=>conc e v = some q.2
 | _,_=>False
theorem findA_run {e : Env} {t : TypeId} {k : AV} {x : Value} (hk : conc e k = some x) (w : World) : ∀ {es : List (AV × AV × Nat)} {ms : List MapEntry} {r : Option AV} (i : Nat),findA P t k es = some r→concM e es = some ms→∃ q,(Instr.findAsking t x ms i).run P w = .ok q w∧FoundIs e r q
 | [],ms,r,i,h,hm=>by
  simp [concM] at hm;subst hm;simp [findA] at h;subst h
  exact ⟨none,by simp [Instr.findAsking],trivial⟩
 | (k',v,b) :: es,ms,r,i,h,hm=>by
  simp only [concM,Option.bind_eq_some_iff,Option.map_eq_some_iff] at hm
  obtain ⟨y,hy,z,hz,ms1,hms,rfl⟩:=hm
  simp only [findA,Option.bind_eq_some_iff] at h
  obtain ⟨q,hq,h⟩:=h
  have he : (Op.equal t x y).run P w = .ok q w:=eqV_run P e w 10000 t k k' q x y hq hk hy
  cases q with
  | true =>
   simp only [if_true,Option.some.injEq] at h;subst h
   exact ⟨some (i,z),by simp only [Instr.findAsking,Sem.run_bind,he,Result.andThen_ok,if_true,Sem.run_pure],hz⟩
  | false =>
   simp only [Bool.false_eq_true,if_false] at h
   obtain ⟨q,h1,h2⟩:=findA_run hk w (i + 1) h hms
   exact ⟨q,by simp only [Instr.findAsking,Sem.run_bind,he,Result.andThen_ok,Bool.false_eq_true,if_false,h1],h2⟩
noncomputable def entsA (x : AV) (s : St) : Option (List (AV × AV × Nat)):=
 match x with
 | .nilMap=>some []
 | .map n=>match s.heap.get n with | some (.map es _)=>some es | _=>none
 | _=>none
noncomputable def lookupA (P : Program) (xt : TypeId) (x k : AV) (ok : Bool) (s : St) : Option AV:=
 match P.underlying xt with
 | some (.map kt el)=>(entsA x s).bind fun es=>(checkV P 10000 kt k).bind fun _=>(findA P kt k es).bind fun r=>match r with
  | some v=>some (if ok then .tup [v,.bool true] else v)
  | none=>(zeroA P el).map fun z=>if ok then .tup [z,.bool false] else z
 | _=>none
theorem lookupA_run {e : Env} {s : St} {w : World} (hs : Sim e s w) {xt : TypeId} {x k v : AV} {ok : Bool} (h : lookupA P xt x k ok s = some v) {a b : Value} (ha : conc e x = some a) (hb : conc e k = some b) :
  ∃ y,conc e v = some y∧(Instr.lookup xt a b ok).run P w = .ok y w:=by
 unfold lookupA at h
 split at h
 case h_2=>cases h
 rename_i kt el hu
 simp only [Option.bind_eq_some_iff] at h
 obtain ⟨es,hes,u,hc,r,hf,h⟩:=h
 have hck:=fun em=>checkV_run (P:=P) em w 10000 kt k b hc hb
 have hkt : ∃ d,P.underlying kt = some d:=by
  unfold checkV at hc;split at hc<;>first | exact ⟨_,by assumption⟩ | cases hc
 obtain ⟨d,hd⟩:=hkt
 have hents : ∃ ms,concM e es = some ms∧((a = .map none∧ms = [])∨∃ p c,a = .map (some p)∧(getObj p).run P w = .ok (.map ms.toArray c) w):=by
  unfold entsA at hes
  split at hes
  ·cases hes;simp only [conc,Option.some.injEq] at ha;exact ⟨[],rfl,.inl ⟨ha.symm,rfl⟩⟩
  ·rename_i n
   split at hes
   ·rename_i es' c hg
    cases hes
    obtain ⟨p,q,ob,he,hp,ms,hm,rfl⟩:=hs.at_ _ _ hg
    simp only [conc,he,Option.map_some,Option.some.injEq] at ha
    exact ⟨ms,hm,.inr ⟨p,c,ha.symm,by simp [getObj,Sem.run,hp]⟩⟩
   ·cases hes
  ·cases hes
 obtain ⟨ms,hms,hcase⟩:=hents
 obtain ⟨q,hq,hfound⟩:=findA_run hb w 0 hf hms
 have hkey : (Instr.findKey kt b ms).run P w = .ok q w:=(findKey_eq hd b ms w).trans hq
 have fin : ∃ y,conc e v = some y∧∀ m : Sem Value,(m.run P w = ((pure (q,0) : Sem (Option (Nat × Value) × Nat)).run P w).andThen fun p w'=>((match p.1 with | some (_,v)=>(pure (v,true) : Sem (Value × Bool)) | none=>do pure (← zeroValue el,false)).run P w').andThen (fun p w'=>(pure (if ok then Value.tuple #[p.1,.bool p.2] else p.1) : Sem Value).run P w'))→m.run P w = .ok y w:=by
  cases r with
  | some v' =>
   cases q with
   | none=>cases hfound
   | some q =>
    obtain ⟨i,z⟩:=q
    have hz : conc e v' = some z:=hfound
    cases h
    cases ok
    ·exact ⟨z,hz,fun m hm=>by rw [hm];simp⟩
    ·exact ⟨.tuple #[z,.bool true],by simp [conc,concL,hz],fun m hm=>by rw [hm];simp⟩
  | none =>
   cases q with
   | some q=>cases hfound
   | none =>
    simp only [Option.map_eq_some_iff] at h
    obtain ⟨z,hz,rfl⟩:=h
    obtain ⟨zx,hz1,hz2⟩:=zeroA_run P hz e w
    cases ok
    ·exact ⟨zx,hz1,fun m hm=>by rw [hm];simp [hz2]⟩
    ·exact ⟨.tuple #[zx,.bool false],by simp [conc,concL,hz1],fun m hm=>by rw [hm];simp [hz2]⟩
 obtain ⟨y,hy,hrun⟩:=fin
 refine ⟨y,hy,hrun _ ?_⟩
 unfold Instr.lookup
 rcases hcase with ⟨rfl,rfl⟩ | ⟨p,c,rfl,hg⟩
 ·simp only [Sem.run_bind,run_underlying hu,Result.andThen_ok,Sem.run_pure,hck]
  rw [hkey];cases q<;>simp [Result.andThen]<;>(try (split<;>rfl))
 ·simp only [Sem.run_bind,run_underlying hu,Result.andThen_ok,Sem.run_pure,hck,hg]
  rw [hkey];cases q<;>simp [Result.andThen]<;>(try (split<;>rfl))
noncomputable def mapUpdateA (P : Program) (mt : TypeId) (m k v : AV) (s : St) : Option St:=
 match P.underlying mt,m with
 | some (.map kt _),.map n=>match s.heap.get n with
  | some (.map es c)=>(checkV P 10000 kt k).bind fun _=>(findA P kt k es).bind fun r=>match r with
   | none=>some (s.put n (.map (es ++ [(k,v,c)]) (c + 1)))
   | some _=>none
  | _=>none
 | _,_=>none
theorem concM_snoc {e : Env} {k v : AV} {x y : Value} {b : Nat} (hk : conc e k = some x) (hv : conc e v = some y) : ∀ {es : List (AV × AV × Nat)} {ms : List MapEntry},concM e es = some ms→concM e (es ++ [(k,v,b)]) = some (ms ++ [⟨x,y,b⟩])
 | [],ms,h=>by simp [concM] at h;subst h;simp [concM,hk,hv]
 | (k',v',b') :: es,ms,h=>by
  simp only [concM,Option.bind_eq_some_iff,Option.map_eq_some_iff] at h
  obtain ⟨p,hp,q,hq,ms1,hms,rfl⟩:=h
  simp only [List.cons_append,concM,hp,hq,Option.bind_some,concM_snoc hk hv hms,Option.map_some]
theorem mapUpdateA_run {e : Env} {s s' : St} {w : World} (hs : Sim e s w) {mt : TypeId} {m k v : AV} (h : mapUpdateA P mt m k v s = some s') {a b c : Value} (ha : conc e m = some a) (hb : conc e k = some b) (hcv : conc e v = some c) :
  ∃ w',Sim e s' w'∧Goes e s w e s' w'∧(Instr.mapUpdate mt a b c).run P w = .ok () w':=by
 unfold mapUpdateA at h
 split at h
 case h_2=>cases h
 rename_i kt el n hu
 split at h
 case h_2=>cases h
 rename_i es cl hg
 simp only [Option.bind_eq_some_iff] at h
 obtain ⟨u,hc,r,hf,h⟩:=h
 split at h
 case h_2=>cases h
 cases h
 have hck:=checkV_run (P:=P) false w 10000 kt k b hc hb
 have hkt : ∃ d,P.underlying kt = some d:=by
  unfold checkV at hc;split at hc<;>first | exact ⟨_,by assumption⟩ | cases hc
 obtain ⟨d,hd⟩:=hkt
 obtain ⟨p,q,ob,he,hp,ms,hm,rfl⟩:=hs.at_ _ _ hg
 simp only [conc,he,Option.map_some,Option.some.injEq] at ha
 obtain ⟨q1,hq,hfound⟩:=findA_run hb w 0 hf hm
 have hq1 : q1 = none:=by cases q1 with | none=>rfl | some _=>cases hfound
 subst hq1
 have hkey : (Instr.findKey kt b ms).run P w = .ok none w:=(findKey_eq hd b ms w).trans hq
 have hlt : p < w.heap.size:=(Array.getElem?_eq_some_iff.1 hp).1
 obtain ⟨ob',hob⟩ : ∃ o : Obj,o = .map (ms ++ [(⟨b,c,cl⟩ : MapEntry)]).toArray (cl + 1):=⟨_,rfl⟩
 let w' : World:={ w with heap:=w.heap.setIfInBounds p ob' }
 have hput:=hs.put (blk':=.map (es ++ [(k,v,cl)]) (cl + 1)) (ob:=ob') (w':=w') hg trivial he (by simp [w']) (by simp [w',hlt]) (fun k hk=>by simp [w',Array.getElem?_setIfInBounds_ne (Ne.symm hk)]) ⟨_,concM_snoc hb hcv hm,hob⟩ rfl rfl rfl
 refine ⟨w',hput.1,hput.2,?_⟩
 have hgo : (getObj p).run P w = .ok (.map ms.toArray cl) w:=by simp [getObj,Sem.run,hp]
 have hset : (setObj p ob').run P w = .ok () w':=by simp [setObj,Sem.run,hp,w']
 subst ha
 unfold Instr.mapUpdate
 simp only [Sem.run_bind,run_underlying hu,Result.andThen_ok,hgo,hck]
 rw [hkey]
 simp only [Result.andThen_ok]
 rw [show (ms.toArray.push { key:=b,val:=c,born:=cl } : Array MapEntry) = (ms ++ [(⟨b,c,cl⟩ : MapEntry)]).toArray by simp,← hob]
 exact hset
end Go.Abs
namespace Go.Abs
variable {P : Program}
def repA (z : List AV) (n : Nat) : List AV:=(List.range n).map fun i=>z.getD (i % z.length) (.tup [])
theorem repA_conc {e : Env} {z : List AV} {zs : List Value} (h : concL e z = some zs) {n : Nat} (hn : n = 0∨z.length ≠ 0) :
  ∃ xs,concL e (repA z n) = some xs∧(Array.range n).map (fun i=>zs.toArray[i % zs.toArray.size]!) = xs.toArray∧xs.length = n:=by
 have hl:=concL_length h
 have key : ∀ l : List Nat,(l = []∨z.length ≠ 0)→concL e (l.map fun i=>z.getD (i % z.length) (.tup [])) = some (l.map fun i=>zs.toArray[i % zs.toArray.size]!):=by
  intro l hz
  induction l with
  | nil=>rfl
  | cons a l ih =>
   have hz' : z.length ≠ 0:=by
     rcases hz with h0 | h0;· cases h0
     ·exact h0
   have hlt : a % z.length < z.length:=Nat.mod_lt _ (by omega)
   obtain ⟨x,hx,hc⟩:=concL_get h (a % z.length) z[a % z.length] (by simp [hlt])
   simp only [List.map_cons,concL]
   rw [ih (.inr hz')]
   have h1 : z.getD (a % z.length) (.tup []) = z[a % z.length]:=by simp [List.getD_eq_getElem?_getD,hlt]
   have h2 : zs.toArray[a % zs.toArray.size]! = x:=by
    simp only [List.size_toArray,hl]
    rw [List.getElem!_toArray,getElem!_def,hx]
   rw [h1,hc,h2];rfl
 refine ⟨_,key (List.range n) ?_,?_,by simp⟩
 ·rcases hn with rfl | h0
  ·exact .inl rfl
  ·exact .inr h0
 ·apply Array.toList_inj.1;simp
noncomputable def newA (t : TypeId) (cs : List AV) (s : St) : Option (Option AV × St):=some (some (.ptr s.next 0),s.add (.cells t none cs))
noncomputable def buildSliceA (P : Program) (t : TypeId) (len : Nat) (ps : List (Nat × AV)) (s : St) : Option (Option AV × St):=
 match P.underlying t with
 | some (.slice el)=>(szA P el).bind fun k=>if len * k≤16777216 then
   (if len * k = 0 then some [] else (zeroA P el).map cellsA).bind fun z=>if len * k = 0∨z.length ≠ 0 then
   (fillA (fun i=>some (i * k,k)) (repA z (len * k)) ps).bind fun cs=>some (some (.slice s.next 0 len len),s.add (.cells el none cs)) else none else none
 | _=>none
noncomputable def makeSliceA (P : Program) (t : TypeId) (l c : AV) (s : St) : Option (Option AV × St):=
 match P.underlying t,l,c with
 | some (.slice el),.int _ l,.int _ c=>(P.info? el).bind fun i=>if 0≤l∧l≤c∧c < 1048576∧i.bytes≤1048576 then
   (if c.toNat * i.size = 0 then some [] else (zeroA P el).map cellsA).bind fun z=>if c.toNat * i.size = 0∨z.length ≠ 0 then
   some (some (.slice s.next 0 l.toNat c.toNat),s.add (.cells el none (repA z (c.toNat * i.size)))) else none else none
 | _,_,_=>none
noncomputable def sliceOpnA (P : Program) (t : TypeId) (x : AV) (lo hi mx : Option AV) (s : St) : Option AV:=
 match P.underlying t,x with
 | some (.slice el),.opn b len=>(szA P el).bind fun k=>(s.get b).bind fun r=>if k ≠ 0∧r.2.1 = some k then
   (match lo with | some (.int _ 0)=>some () | none=>some () | _=>none).bind fun _ =>
   (match hi,mx with
   | none,none=>some (.opn b len)
   | some (.int _ h),none=>if 0≤h∧h.toNat * k≤r.2.2.length then some (.opn b h.toNat) else none
   | some (.int _ h),some (.int _ m)=>if 0≤h∧h≤m∧m.toNat * k≤r.2.2.length then some (.slice b 0 h.toNat m.toNat) else none
   | _,_=>none) else none
 | _,_=>none
noncomputable def heapOp (P : Program) (o : Oper) (α : Operand→Option AV) (s : St) : Option (Option AV × St):=
 match o.op with
 | .alloc t=>(zeroA P t).bind fun z=>newA t (cellsA z) s
 | .box t x=>(α x).bind fun v=>newA t (cellsA v) s
 | .buildSlice t n ps=>(argP α ps.toList).bind fun qs=>buildSliceA P t n qs s
 | .load t x=>(α x).bind fun a=>(loadA P t a s).map fun v=>(some v,s)
 | .store t x y=>(α x).bind fun a=>(α y).bind fun v=>(storeA P t a v s).map fun s'=>(none,s')
 | .makeSlice t l c=>(α l).bind fun a=>(α c).bind fun b=>makeSliceA P t a b s
 | .slice t x lo hi mx=>(α x).bind fun a=>(optArg α lo).bind fun l=>(optArg α hi).bind fun h=>(optArg α mx).bind fun m=>(sliceOpnA P t a l h m s).map fun v=>(some v,s)
 | .call { callee:=.builtin .append,args,argTypes }=>(argL α args.toList).bind fun vs=>match vs,argTypes.toList with
  | [a,x],[st,xt]=>(appendA P st xt a x s).map fun r=>(some r.1,r.2)
  | _,_=>none
 | .range t x=>(α x).bind fun a=>match P.underlying t,a with | some .string,.str b=>some (some (.ptr s.next 0),s.add (.iter b 0)) | _,_=>none
 | .next x true=>(α x).bind fun a=>match a with
  | .ptr n 0=>match s.heap.get n with
   | some (.iter b pos)=>if pos < b.size then some (some (.tup [.bool true,.int .i64 pos,.int .i32 (Utf8.decode b pos).1]),s.put n (.iter b (pos + (Utf8.decode b pos).2))) else some (some (.tup [.bool false]),s)
   | _=>none
  | _=>none
 | .makeMap _ none=>some (some (.map s.next),s.add (.map [] 0))
 | .lookup t x k ok=>(α x).bind fun a=>(α k).bind fun b=>(lookupA P t a b ok s).map fun v=>(some v,s)
 | .mapUpdate t m k v=>(α m).bind fun a=>(α k).bind fun b=>(α v).bind fun c=>(mapUpdateA P t a b c s).map fun s'=>(none,s')
 | .call { callee:=.builtin .len,args,argTypes }=>(argL α args.toList).bind fun vs=>match vs,argTypes[0]? with
  | [.map n],some t=>match P.underlying t,s.heap.get n with
   | some (.map _ _),some (.map es _)=>some (some (.int .i64 es.length),s)
   | _,_=>none
  | _,_=>none
 | _=>none
end Go.Abs
namespace Go.Abs
variable {P : Program}
def HR (e : Env) (s : St) (w : World) (r : Option AV × St) (res : Result Next) : Prop:=
 ∃ e' w',Sim e' r.2 w'∧Goes e s w e' r.2 w'∧match r.1 with
  | some v=>∃ x,conc e' v = some x∧res = .ok (.value x) w'
  | none=>res = .ok .skip w'
theorem HR.same {e : Env} {s : St} {w : World} (hs : Sim e s w) {v : AV} {x : Value} (h : conc e v = some x) {res : Result Next} (hr : res = .ok (.value x) w) : HR e s w (some v,s) res:=
 ⟨e,w,hs,Goes.refl ..,x,h,hr⟩
theorem newA_HR {e : Env} {s : St} {w : World} (hs : Sim e s w) (hf : e s.next = none) {t : TypeId} {cs : List AV} {xs : List Value} (h : concL e cs = some xs) (v : AV) (x : Nat→Value)
  (hv : ∀ e' : Env,e' s.next = some (w.heap.size,0)→conc e' v = some (x w.heap.size)) {res : Result Next} (hr : res = .ok (.value (x w.heap.size)) { w with heap:=w.heap.push (.cells xs.toArray t) }) :
  HR e s w (some v,s.add (.cells t none cs)) res:=by
 have:=alloc_sim hs hf 0 (t:=t) (k:=none) (rest:=[]) h (fun _=>rfl) (by simp) w ⟨rfl,rfl,rfl,rfl⟩
 simp only [List.append_nil] at this
 exact ⟨_,_,this.1,this.2,_,hv _ (Env.upd_self ..),hr⟩
theorem bound_int {k : IntKind} {i : Int} {y : Nat} (h0 : 0≤i) (h1 : i≤y) (c : BoundsCode) (w : World) : (Instr.sliceBound (.int k i) y c).run P w = .ok i.toNat w:=by
 simp [Instr.sliceBound,asIntOf,h0,h1]
theorem sliceOpnA_run {e : Env} {s : St} {w : World} (hs : Sim e s w) {t : TypeId} {a v : AV} {x : Value} {lo hi mx : Option AV} {lo' hi' mx' : Option Value} (h : sliceOpnA P t a lo hi mx s = some v) (hx : conc e a = some x)
  (h1 : OptConc e lo lo') (h2 : OptConc e hi hi') (h3 : OptConc e mx mx') : ∃ u,conc e v = some u∧(Instr.sliceAt t x lo' hi' mx').run P w = .ok u w:=by
 unfold sliceOpnA at h
 split at h
 case h_2=>cases h
 rename_i el b len hu
 simp only [Option.bind_eq_some_iff] at h
 obtain ⟨k,hk,⟨t',k',cs⟩,hg,h⟩:=h
 split at h
 case isFalse=>cases h
 rename_i hc
 simp only at hc
 obtain ⟨hk0,rfl⟩:=hc
 simp only [Option.bind_eq_some_iff] at h
 obtain ⟨_,hlo,h⟩:=h
 obtain ⟨b',q,ob,he,hb,hr⟩:=hs.at_ _ _ (St.get_eq hg)
 obtain ⟨vs,rest,hvs,rfl,_,hr2⟩:=cells_at hr
 have hql:=hr2 _ rfl
 have l3:=concL_length hvs
 simp only [conc,he,Option.map_some,Option.some.injEq] at hx
 subst hx
 have hcap : ∀ m : Nat,m * k≤cs.length→m≤q:=fun m hm=>by
  rw [List.length_append] at hql
  exact Nat.le_of_mul_le_mul_right (by omega : m * k≤q * k) (by omega)
 have hl0 : ∀ (h : Nat) (r : Sem (Nat × Nat × Nat)) ,True:=fun _ _=>trivial
 have low : ∀ (y : Nat),(∀ c,lo' = some c→(Instr.sliceBound c y .sliceB).run P w = .ok 0 w)∧(∀ c,lo' = some c→(Instr.sliceBound c y .slice3C).run P w = .ok 0 w):=by
  intro y
  constructor<;>intro c hcl<;>subst hcl<;>cases lo<;>simp only [OptConc] at h1<;>split at hlo<;>simp only [reduceCtorEq,Option.some.injEq] at hlo<;>rename_i h0<;>simp only [Option.some.injEq,reduceCtorEq] at h0
  all_goals (subst h0;simp only [conc,Option.some.injEq] at h1;subst h1;simp [Instr.sliceBound,asIntOf])
 split at h
 ·simp only [Option.some.injEq] at h;subst h
  cases hi'<;>simp only [OptConc] at h2
  cases mx'<;>simp only [OptConc] at h3
  refine ⟨_,by simp only [conc,he,Option.map_some];rfl,?_⟩
  cases lo' with
  | none=>simp [Instr.sliceAt,Instr.slice,Instr.sliceBounds,run_underlying hu,szA_run P hk w,addr_add]
  | some c=>simp [Instr.sliceAt,Instr.slice,Instr.sliceBounds,run_underlying hu,szA_run P hk w,addr_add,(low len).1 c rfl]
 ·rename_i kh hh
  cases hi'<;>simp only [OptConc] at h2
  cases mx'<;>simp only [OptConc] at h3
  split at h<;>simp only [reduceCtorEq,Option.some.injEq] at h
  rename_i hle
  subst h
  simp only [conc,Option.some.injEq] at h2;subst h2
  have hq:=hcap _ hle.2
  refine ⟨_,by simp only [conc,he,Option.map_some];rfl,?_⟩
  have hb0 : ∀ c,(Instr.sliceBound (.int kh hh) q c).run P w = .ok hh.toNat w:=fun c=>bound_int hle.1 (by omega) c w
  cases lo' with
  | none=>simp [Instr.sliceAt,Instr.slice,Instr.sliceBounds,run_underlying hu,szA_run P hk w,addr_add,hb0]
  | some c=>simp [Instr.sliceAt,Instr.slice,Instr.sliceBounds,run_underlying hu,szA_run P hk w,addr_add,hb0,(low hh.toNat).1 c rfl]
 ·rename_i kh hh km m
  cases hi'<;>simp only [OptConc] at h2
  cases mx'<;>simp only [OptConc] at h3
  split at h<;>simp only [reduceCtorEq,Option.some.injEq] at h
  rename_i hle
  subst h
  simp only [conc,Option.some.injEq] at h2 h3;subst h2 h3
  have hq:=hcap _ hle.2.2
  refine ⟨_,by simp only [conc,he,Option.map_some];rfl,?_⟩
  have hb0 : ∀ c,(Instr.sliceBound (.int km m) q c).run P w = .ok m.toNat w:=fun c=>bound_int (by omega) (by omega) c w
  have hb1 : ∀ c,(Instr.sliceBound (.int kh hh) m.toNat c).run P w = .ok hh.toNat w:=fun c=>bound_int hle.1 (by omega) c w
  cases lo' with
  | none=>simp [Instr.sliceAt,Instr.slice,Instr.sliceBounds,run_underlying hu,szA_run P hk w,addr_add,hb0,hb1]
  | some c=>simp [Instr.sliceAt,Instr.slice,Instr.sliceBounds,run_underlying hu,szA_run P hk w,addr_add,hb0,hb1,(low hh.toNat).2 c rfl]
 ·cases h
theorem concM_length {e : Env} : ∀ {es : List (AV × AV × Nat)} {ms : List MapEntry},concM e es = some ms→ms.length = es.length
 | [],ms,h=>by simp [concM] at h;subst h;rfl
 | (k,v,b) :: es,ms,h=>by
  simp only [concM,Option.bind_eq_some_iff,Option.map_eq_some_iff] at h
  obtain ⟨p,hp,q,hq,ms1,hms,rfl⟩:=h
  simp [concM_length hms]
set_option maxHeartbeats 1000000 in
theorem heapOp_run {e : Env} {s : St} {w : World} (hs : Sim e s w) {α : Operand→Option AV} {ρ : Operand→Value} (hr : Reads e α ρ) {o : Oper} {r : Option AV × St} (h : heapOp P o α s = some r)
  (hf : Free e s.next r.2.next) : HR e s w r ((execOp ρ o).run P w):=by
 have hfree : s.next < r.2.next→e s.next = none:=fun hlt=>hf _ (Nat.le_refl _) hlt
 unfold heapOp at h
 split at h
 case h_1 t ho =>
  simp only [Option.bind_eq_some_iff,newA,Option.some.injEq] at h
  obtain ⟨z,hz,rfl⟩:=h
  obtain ⟨zx,hz1,hz2⟩:=zeroA_run P hz e w
  obtain ⟨zs,hzs,hzc⟩:=cellsA_conc hz1
  refine newA_HR hs (hfree (Nat.lt_succ_self _)) hzs (.ptr s.next 0) (fun b=>.pointer (some ⟨b,0,none⟩)) (fun e' he=>by simp [conc,he]) ?_
  simp only [execOp,ho,Instr.alloc,Sem.run_bind,hz2,Result.andThen_ok,newVar,newRow,hzc,run_newObj,Sem.run_pure]
 case h_2 t x ho =>
  simp only [Option.bind_eq_some_iff,newA,Option.some.injEq] at h
  obtain ⟨v,hv,rfl⟩:=h
  obtain ⟨zs,hzs,hzc⟩:=cellsA_conc (hr x v hv)
  refine newA_HR hs (hfree (Nat.lt_succ_self _)) hzs (.ptr s.next 0) (fun b=>.pointer (some ⟨b,0,none⟩)) (fun e' he=>by simp [conc,he]) ?_
  simp only [execOp,ho,Instr.box,Sem.run_bind,Result.andThen_ok,newVar,newRow,hzc,run_newObj,Sem.run_pure]
 case h_3 t n ps ho =>
  simp only [Option.bind_eq_some_iff] at h
  obtain ⟨qs,hqs,h⟩:=h
  have hps:=argP_conc hr _ _ hqs
  unfold buildSliceA at h
  split at h
  case h_2=>cases h
  rename_i el hu
  simp only [Option.bind_eq_some_iff] at h
  obtain ⟨k,hk,h⟩:=h
  split at h
  case isFalse=>cases h
  rename_i hmax
  simp only [Option.bind_eq_some_iff] at h
  obtain ⟨z,hz,h⟩:=h
  split at h
  case isFalse=>cases h
  rename_i hne
  simp only [Option.bind_eq_some_iff,Option.some.injEq] at h
  obtain ⟨cs,hcs,rfl⟩:=h
  have hzrun : ∃ zs,concL e z = some zs∧((n * k = 0∧zs = [])∨(n * k ≠ 0∧∃ zx,(zeroValue el).run P w = .ok zx w∧zx.cells = zs.toArray)):=by
   split at hz
   ·rename_i h0;simp only [Option.some.injEq] at hz;subst hz;exact ⟨[],rfl,.inl ⟨h0,rfl⟩⟩
   ·rename_i h0
    simp only [Option.map_eq_some_iff] at hz
    obtain ⟨zv,hzv,rfl⟩:=hz
    obtain ⟨zx,hz1,hz2⟩:=zeroA_run P hzv e w
    obtain ⟨zs,hzs,hzc⟩:=cellsA_conc hz1
    exact ⟨zs,hzs,.inr ⟨h0,zx,hz2,hzc⟩⟩
  obtain ⟨zs,hzs,hzr⟩:=hzrun
  obtain ⟨xs,hx1,hx2,_⟩:=repA_conc hzs hne
  obtain ⟨ys,hys,hfill⟩:=fillA_run hps hx1 hcs
  refine newA_HR hs (hfree (Nat.lt_succ_self _)) hys (.slice s.next 0 n n) (fun b=>.slice (some ⟨b,0,none⟩) n n) (fun e' he=>by simp [conc,he]) ?_
  have hmap : (ps.map fun (i,x)=>(i,ρ x)).toList = ps.toList.map fun (i,x)=>(i,ρ x):=by simp
  have g0 : ¬ (n * k > 2 ^ 24):=by omega
  rcases hzr with ⟨h0,rfl⟩ | ⟨h0,zx,hzx,hzc⟩
  ·have hx2' : (Array.map (fun i=>(#[] : Array Value)[i % (#[] : Array Value).size]!) (Array.range (n * k))) = xs.toArray:=hx2
   simp only [execOp,ho,Instr.buildSlice,Sem.run_bind,run_underlying hu,Result.andThen_ok,szA_run P hk w,g0,if_false,h0,(by decide : ¬ (0 > 2 ^ 24)),if_true,Sem.run_pure,h0 ▸ hx2',hmap,hfill,newRow,run_newObj]
  ·simp only [execOp,ho,Instr.buildSlice,Sem.run_bind,run_underlying hu,Result.andThen_ok,szA_run P hk w,g0,if_false,h0,hzx,hzc,hx2,hmap,hfill,newRow,run_newObj,Sem.run_pure]
 case h_4 t x ho =>
  simp only [Option.bind_eq_some_iff,Option.map_eq_some_iff] at h
  obtain ⟨a,ha,v,hv,rfl⟩:=h
  obtain ⟨y,hy,hrun⟩:=loadA_run (P:=P) hs hv (hr x a ha)
  exact HR.same hs hy (by simp [execOp,ho,hrun])
 case h_5 t x y ho =>
  simp only [Option.bind_eq_some_iff,Option.map_eq_some_iff] at h
  obtain ⟨a,ha,v,hv,s',hst,rfl⟩:=h
  obtain ⟨w',g1,g2,hrun⟩:=storeA_run (P:=P) hs hst (hr x a ha) (hr y v hv)
  exact ⟨e,w',g1,g2,by simp [execOp,ho,hrun]⟩
 case h_6 t l c ho =>
  simp only [Option.bind_eq_some_iff] at h
  obtain ⟨a,ha,b,hb,h⟩:=h
  have hl:=hr l a ha
  have hc:=hr c b hb
  unfold makeSliceA at h
  split at h
  case h_2=>cases h
  rename_i el kl l' kc c' hu
  simp only [Option.bind_eq_some_iff] at h
  obtain ⟨i,hi,h⟩:=h
  split at h
  case isFalse=>cases h
  rename_i hle
  simp only [Option.bind_eq_some_iff] at h
  obtain ⟨z,hz,h⟩:=h
  split at h
  case isFalse=>cases h
  rename_i hne
  simp only [Option.some.injEq] at h;subst h
  simp only [conc,Option.some.injEq] at hl hc
  have hzrun : ∃ zs,concL e z = some zs∧((c'.toNat * i.size = 0∧zs = [])∨(c'.toNat * i.size ≠ 0∧∃ zx,(zeroValue el).run P w = .ok zx w∧zx.cells = zs.toArray)):=by
   split at hz
   ·rename_i h0;simp only [Option.some.injEq] at hz;subst hz;exact ⟨[],rfl,.inl ⟨h0,rfl⟩⟩
   ·rename_i h0
    simp only [Option.map_eq_some_iff] at hz
    obtain ⟨zv,hzv,rfl⟩:=hz
    obtain ⟨zx,hz1,hz2⟩:=zeroA_run P hzv e w
    obtain ⟨zs,hzs,hzc⟩:=cellsA_conc hz1
    exact ⟨zs,hzs,.inr ⟨h0,zx,hz2,hzc⟩⟩
  obtain ⟨zs,hzs,hzr⟩:=hzrun
  obtain ⟨xs,hx1,hx2,_⟩:=repA_conc hzs hne
  refine newA_HR hs (hfree (Nat.lt_succ_self _)) hx1 (.slice s.next 0 l'.toNat c'.toNat) (fun b=>.slice (some ⟨b,0,none⟩) l'.toNat c'.toNat) (fun e' he=>by simp [conc,he]) ?_
  have wr : ∀ n : Int,0≤n→n < 1048576→IntKind.i64.wrap n = n:=fun n h0 h1=>by
   have hm : n % (2 ^ 64 : Int) = n:=Int.emod_eq_of_lt h0 (by omega)
   have : ¬ (n ≥ (2 ^ 63 : Int)):=by omega
   simp only [IntKind.wrap,IntKind.bits,IntKind.signed,hm,Bool.true_and,decide_eq_true_eq]
   rw [if_neg (by omega)]
  have w1:=wr l' hle.1 (by omega)
  have w2:=wr c' (by omega) hle.2.2.1
  have bnd : ∀ n : Int,0≤n→n < 1048576→(decide (n < 0) || decide ((i.bytes : Int) * n > 2 ^ 48)) = false:=fun n h0 h1=>by
   have hb : (i.bytes : Int) * n≤1048576 * 1048576:=Int.mul_le_mul (by omega) (by omega) h0 (by omega)
   simp only [Bool.or_eq_false_iff,decide_eq_false_iff_not]
   omega
  have b2:=bnd c' (by omega) hle.2.2.1
  have n1 : ¬ (l' < 0):=by omega
  have n2 : ¬ (l' > c'):=by omega
  have hsz : (sizeOf el).run P w = .ok i.size w:=szA_run P (show szA P el = some i.size by simp [szA,hi]) w
  rcases hzr with ⟨h0,rfl⟩ | ⟨h0,zx,hzx,hzc⟩
  ·have hx2' : (Array.map (fun i=>(#[] : Array Value)[i % (#[] : Array Value).size]!) (Array.range (c'.toNat * i.size))) = xs.toArray:=hx2
   simp only [execOp,ho,← hl,← hc,Instr.makeSlice,Sem.run_bind,run_underlying hu,Result.andThen_ok,asInt,asIntOf,Sem.run_pure,run_typeInfo w hi,w1,w2,b2,n1,n2,decide_false,Bool.false_or,Bool.or_false,Bool.false_eq_true,if_false,or_self,
    run_askRoom,hsz,h0,if_true,h0 ▸ hx2',newRow,run_newObj]
  ·simp only [execOp,ho,← hl,← hc,Instr.makeSlice,Sem.run_bind,run_underlying hu,Result.andThen_ok,asInt,asIntOf,Sem.run_pure,run_typeInfo w hi,w1,w2,b2,n1,n2,decide_false,Bool.false_or,Bool.or_false,Bool.false_eq_true,if_false,or_self,
    run_askRoom,hsz,h0,hzx,hzc,hx2,newRow,run_newObj]
 case h_7 t x lo hi mx ho =>
  simp only [Option.bind_eq_some_iff,Option.map_eq_some_iff] at h
  obtain ⟨a,ha,l,hl,hh,hhh,m,hm,v,hv,rfl⟩:=h
  obtain ⟨u,hu,hrun⟩:=sliceOpnA_run (P:=P) hs hv (hr x a ha) (optArg_conc hr hl) (optArg_conc hr hhh) (optArg_conc hr hm)
  exact HR.same hs hu (by simp [execOp,ho,hrun])
 case h_8 args ats ho =>
  simp only [Option.bind_eq_some_iff] at h
  obtain ⟨vs,hvs,h⟩:=h
  split at h
  case h_2=>cases h
  rename_i a x st xt hat
  simp only [Option.map_eq_some_iff] at h
  obtain ⟨⟨v,s'⟩,happ,rfl⟩:=h
  obtain ⟨A,ys,hA,hys,hl⟩:=concL_cons (argL_map hr hvs)
  obtain ⟨X,hX,rfl⟩:=concL_one hys
  obtain ⟨e',w',g1,g2,V,hV,hrun⟩:=appendA_run (P:=P) (ty:=o.type) hs happ hA hX hf
  refine ⟨e',w',g1,g2,V,hV,?_⟩
  have hats : ats = #[st,xt]:=by rw [← Array.toArray_toList (xs:=ats),hat]
  simp [execOp,ho,resolve,invoke,builtin,arr_eq hl,hats,hrun]
 case h_9 t x ho =>
  simp only [Option.bind_eq_some_iff] at h
  obtain ⟨a,ha,h⟩:=h
  have hx:=hr x a ha
  split at h
  case h_2=>cases h
  rename_i b hu
  simp only [Option.some.injEq] at h;subst h
  simp only [conc,Option.some.injEq] at hx
  have:=hs.add (blk:=.iter b 0) (ob:=.stringIter b 0) (w':={ w with heap:=w.heap.push (.stringIter b 0) }) 0 (hfree (Nat.lt_succ_self _)) (by simp) (by simp) (fun k hk=>by rw [Array.getElem?_push,if_neg (by omega)]) rfl rfl rfl rfl
  refine ⟨_,_,this.1,this.2,.pointer (some ⟨w.heap.size,0,none⟩),by simp [conc,Env.upd_self],?_⟩
  simp only [execOp,ho,← hx,Instr.range,Sem.run_bind,run_underlying hu,Result.andThen_ok,run_newObj,Sem.run_pure]
 case h_10 x ho =>
  simp only [Option.bind_eq_some_iff] at h
  obtain ⟨a,ha,h⟩:=h
  have hx:=hr x a ha
  split at h
  case h_2=>cases h
  rename_i n
  split at h
  case h_2=>cases h
  rename_i b pos hg
  obtain ⟨b',q,ob,he,hb,hrel⟩:=hs.at_ _ _ hg
  have hob : ob = .stringIter b pos:=hrel
  subst hob
  simp only [conc,he,Option.map_some,Option.some.injEq] at hx
  have hgo : (getObj b').run P w = .ok (.stringIter b pos) w:=by simp [getObj,Sem.run,hb]
  split at h
  ·rename_i hlt
   simp only [Option.some.injEq] at h;subst h
   have hlt' : b' < w.heap.size:=(Array.getElem?_eq_some_iff.1 hb).1
   let w' : World:={ w with heap:=w.heap.setIfInBounds b' (.stringIter b (pos + (Utf8.decode b pos).2)) }
   have hput:=hs.put (blk':=.iter b (pos + (Utf8.decode b pos).2)) (ob:=.stringIter b (pos + (Utf8.decode b pos).2)) (w':=w') hg trivial he (by simp [w']) (by simp [w',hlt']) (fun k hk=>by simp [w',Array.getElem?_setIfInBounds_ne (Ne.symm hk)]) rfl rfl rfl rfl
   have hset : (setObj b' (.stringIter b (pos + (Utf8.decode b pos).2))).run P w = .ok () w':=by simp [setObj,Sem.run,hb,w']
   refine ⟨e,w',hput.1,hput.2,.tuple #[.bool true,goInt pos,.int .i32 (Utf8.decode b pos).1],by simp [conc,concL,goInt],?_⟩
   simp [execOp,ho,← hx,Instr.next,hgo,hlt,hset]
  ·rename_i hlt
   simp only [Option.some.injEq] at h;subst h
   exact HR.same hs (x:=.tuple #[.bool false]) (by simp [conc,concL]) (by simp [execOp,ho,← hx,Instr.next,hgo,hlt])
 case h_11 t ho =>
  simp only [Option.some.injEq] at h;subst h
  have:=hs.add (blk:=.map [] 0) (ob:=.map #[] 0) (w':={ w with heap:=w.heap.push (.map #[] 0) }) 0 (hfree (Nat.lt_succ_self _)) (by simp) (by simp) (fun k hk=>by rw [Array.getElem?_push,if_neg (by omega)]) ⟨[],rfl,rfl⟩ rfl rfl rfl
  refine ⟨_,_,this.1,this.2,.map (some w.heap.size),by simp [conc,Env.upd_self],?_⟩
  simp only [execOp,ho,Option.map_none,Instr.makeMap,Sem.run_bind,run_newObj,Result.andThen_ok,Sem.run_pure]
 case h_12 t x k ok ho =>
  simp only [Option.bind_eq_some_iff,Option.map_eq_some_iff] at h
  obtain ⟨a,ha,b,hb,v,hv,rfl⟩:=h
  obtain ⟨y,hy,hrun⟩:=lookupA_run (P:=P) hs hv (hr x a ha) (hr k b hb)
  exact HR.same hs hy (by simp [execOp,ho,hrun])
 case h_13 t m k v ho =>
  simp only [Option.bind_eq_some_iff,Option.map_eq_some_iff] at h
  obtain ⟨a,ha,b,hb,c,hc,s',hst,rfl⟩:=h
  obtain ⟨w',g1,g2,hrun⟩:=mapUpdateA_run (P:=P) hs hst (hr m a ha) (hr k b hb) (hr v c hc)
  exact ⟨e,w',g1,g2,by simp [execOp,ho,hrun]⟩
 case h_14 args ats ho =>
  simp only [Option.bind_eq_some_iff] at h
  obtain ⟨vs,hvs,h⟩:=h
  split at h
  case h_2=>cases h
  rename_i n t hat
  split at h
  case h_2=>cases h
  rename_i kt el es c hu hg
  cases h
  obtain ⟨X,hX,hl⟩:=concL_one (argL_map hr hvs)
  obtain ⟨b',q,ob,he,hb,ms,hm,rfl⟩:=hs.at_ _ _ hg
  simp only [conc,he,Option.map_some,Option.some.injEq] at hX
  subst hX
  have hgo : (getObj b').run P w = .ok (.map ms.toArray c) w:=by simp [getObj,Sem.run,hb]
  have hlen : ms.length = es.length:=concM_length hm
  refine HR.same hs (x:=.int .i64 es.length) (by simp [conc]) ?_
  simp [execOp,ho,resolve,invoke,builtin,arr_eq hl,Builtin.len_,hat,run_underlying hu,hgo,hlen,goInt]
 case h_15=>cases h
end Go.Abs
namespace Go.Abs
inductive Tg where
 | fn (f : FuncId)
 | yld (l : Nat)
inductive Rt where
 | ret (v : AV)
 | pan (v : AV)
inductive RC where
 | no
 | quiet
 | pend (v : AV)
 | done (v : AV)
def RC.got (v : AV) : RC→RC
 | .quiet=>.quiet
 | _=>.done v
inductive Dfr where
 | fn (f : FuncId) (aas cs : List AV)
 | coll (n : Nat)
structure Fr where
 tm : List AV
 df : List Dfr
 rc : RC
 ro : Option Nat
inductive Ex where
 | norm
 | exit (id : Nat)
 | ret
 | pan (v : AV)
abbrev CallF:=Tg→List AV→St→Option (Rt × St)
noncomputable def putA (d : Option Tmp) (v : AV) (tm : List AV) : List AV:=match d with | some d=>setR v tm d | none=>tm
noncomputable def Fr.put (fr : Fr) (d : Option Tmp) (v : AV) : Fr:={ fr with tm:=putA d v fr.tm }
def wantedA (ops : Array Oper) (o : Oper) (tm : List AV) : Bool:=
 match o.guard with
 | none=>true
 | some (j,want)=>match ((ops[j]?).bind (·.dst)).bind (tm[·]?) with
  | some (.bool b)=>b == want
  | _=>false
def enterable (P : Program) (f : FuncId) : Bool:=
 match P.funcs[f]? with
 | some fn => fn.name != "runtime.NumGoroutine" && fn.body.isSome
 | none=>false
def notPtr : TypeDesc→Bool
 | .pointer _=>false
 | _=>true
def calleeA (P : Program) (α : Operand→Option AV) (c : Call) : Option (Tg × List AV):=
 match c.callee with
 | .value x=>(α x).bind fun v=>(argL α c.args.toList).bind fun aas=>match v with
  | .func f first cap=>if enterable P f then some (.fn f,first ++ aas ++ cap) else none
  | .yld l=>some (.yld l,aas)
  | _=>none
 | .invoke x name=>(α x).bind fun v=>(argL α c.args.toList).bind fun aas=>match v with
  | .iface t u=>(P.info? t).bind fun i=>(i.methods.find? (·.name == name)).bind fun m=>match m.path.toList,m.func,P.underlying t with
   | [],some (f,false),some d=>if notPtr d && enterable P f then some (.fn f,u :: aas) else none
   | _,_,_=>none
  | _=>none
 | .builtin _=>none
def externA (P : Program) (f : FuncId) (aas : List AV) : Option AV := (P.funcs[f]?).bind fun fn => if fn.body.isNone && fn.origin == "" then
  if fn.name == "internal/bytealg.CountString" then (match aas with | [.str s, .int .u8 c] => some (.int .i64 (Lib.countByte s.data.toList c.toNat.toUInt8)) | _ => none)
  else if fn.name == "internal/bytealg.IndexByteString" then (match aas with | [.str s, .int .u8 c] => some (.int .i64 (Lib.indexByte s.data.toList c.toNat.toUInt8)) | _ => none)
  else none else none
def externC (P : Program) (α : Operand→Option AV) (c : Call) : Option AV:=
 match c.callee with
 | .value x=>(α x).bind fun v=>(argL α c.args.toList).bind fun aas=>match v with
  | .func f [] []=>externA P f aas
  | _=>none
 | _=>none
inductive OR where
 | put (v : AV)
 | pan (v : AV)
 | dfr (d : Dfr)
 | rcv (v : AV)
noncomputable def opX (P : Program) (call : CallF) (o : Oper) (α : Operand→Option AV) (ro : Option Nat) (rc : RC) (s : St) : Option (OR × St):=
 match pureOp P o α with
 | some v=>some (.put v,s)
 | none =>
  match heapOp P o α s with
  | some (r,s')=>some (.put (r.getD (.tup [])),s')
  | none =>
   match o.op with
   | .call { callee:=.builtin .recover,args:=_,argTypes:=_ } =>
    match ro,rc with
    | none,.pend v=>some (.rcv v,s)
    | none,.quiet=>some (.rcv .nilIface,s)
    | _,_=>none
   | .call c=>match calleeA P α c with
    | some (tg,aas)=>(call tg aas s).map fun (r,s')=>(match r with | .ret v=>.put v | .pan v=>.pan v,s')
    | none=>(externC P α c).map fun v=>(.put v,s)
   | .panic x=>(α x).bind fun v=>match v with
    | .iface t u=>some (.pan (.iface t u),s)
    | _=>none
   | .defer c =>
    match ro,c.callee with
    | none,.value x=>(α x).bind fun v=>(argL α c.args.toList).bind fun aas=>match v with
     | .func f first cap=>if enterable P f then some (.dfr (.fn f (first ++ aas) cap),s) else none
     | _=>none
    | _,_=>none
   | _=>none
noncomputable def opA (P : Program) (call : CallF) (ops : Array Oper) (o : Oper) (fr : Fr) (s : St) : Option (Option AV × Fr × St):=
 if wantedA ops o fr.tm then
  (opX P call o (arg fr.tm) fr.ro fr.rc s).map fun (r,s')=>match r with
  | .put v=>(none,fr.put o.dst v,s')
  | .pan v=>(some v,fr,s')
  | .dfr d=>(none,{ fr with tm:=putA o.dst (.tup []) fr.tm,df:=d :: fr.df },s')
  | .rcv v=>(none,{ fr with tm:=putA o.dst v fr.tm,rc:=fr.rc.got v },s')
 else some (none,fr.put o.dst (.tup []),s)
def concD (e : Env) : Dfr→Option Deferred
 | .fn f aas cs=>(concL e aas).bind fun x=>(concL e cs).map fun y=>{ target:=.fn (.func f) y.toArray,args:=x.toArray }
 | .coll n=>(e n).map fun p=>{ target:=.collected p.1,args:=#[] }
def concDL (e : Env) : List Dfr→Option (List Deferred)
 | []=>some []
 | d :: ds=>(concD e d).bind fun x=>(concDL e ds).map (x :: ·)
theorem concD_le {e e' : Env} (h : e.le e') {d : Dfr} {x : Deferred} (hx : concD e d = some x) : concD e' d = some x:=by
 cases d with
 | fn f aas cs =>
  simp only [concD,Option.bind_eq_some_iff,Option.map_eq_some_iff] at hx ⊢
  obtain ⟨a,ha,c,hc,rfl⟩:=hx
  exact ⟨a,concL_le h _ _ ha,c,concL_le h _ _ hc,rfl⟩
 | coll n =>
  simp only [concD,Option.map_eq_some_iff] at hx ⊢
  obtain ⟨p,hp,rfl⟩:=hx
  exact ⟨p,h _ _ hp,rfl⟩
theorem concDL_le {e e' : Env} (h : e.le e') : ∀ {ds : List Dfr} {xs : List Deferred},concDL e ds = some xs→concDL e' ds = some xs
 | [],_,hx=>hx
 | d :: ds,xs,hx=>by
  simp only [concDL,Option.bind_eq_some_iff,Option.map_eq_some_iff] at hx ⊢
  obtain ⟨a,ha,c,hc,rfl⟩:=hx
  exact ⟨a,concD_le h ha,c,concDL_le h hc,rfl⟩
def CsOk (e : Env) (rc : RC) (b : Frame) (cs0 cs : List Frame) : Prop:=
 match rc with
 | .no=>cs = cs0
 | .quiet=>b.kind = .deferred∧∃ c rest,cs0 = c :: rest∧c.mode = .returning∧cs = cs0
 | .pend v=>b.kind = .deferred∧∃ c rest x,cs0 = c :: rest∧conc e v = some x∧cs = { c with mode:=.panicking [{ v:=x,recovered:=false }] } :: rest
 | .done v=>b.kind = .deferred∧∃ c rest x,cs0 = c :: rest∧conc e v = some x∧cs = { c with mode:=.panicking [{ v:=x,recovered:=true }] } :: rest
structure FR (e : Env) (fr : Fr) (b : Frame) (cs0 : List Frame) (a : Act) (cs : List Frame) : Prop where
 tm : ∃ ts,concL e fr.tm = some ts∧a.tmps = ts.toArray
 df : concDL e fr.df = some a.defers
 ro : match fr.ro with | none=>b.roundOf = none | some l=>∃ p,e l = some p∧b.roundOf = some p.1
 rc : CsOk e fr.rc b cs0 cs
theorem FR.le {e e' : Env} (h : e.le e') {fr : Fr} {b : Frame} {cs0 cs : List Frame} {a : Act} (r : FR e fr b cs0 a cs) : FR e' fr b cs0 a cs:=by
 obtain ⟨⟨ts,h1,h2⟩,h3,h4,h5⟩:=r
 refine ⟨⟨ts,concL_le h _ _ h1,h2⟩,concDL_le h h3,?_,?_⟩
 ·cases hr : fr.ro with
  | none=>simpa [hr] using h4
  | some l=>simp only [hr] at h4 ⊢;obtain ⟨p,hp,hb⟩:=h4;exact ⟨p,h _ _ hp,hb⟩
 ·cases hr : fr.rc<;>simp only [hr,CsOk] at h5 ⊢
  ·exact h5
  ·exact h5
  ·obtain ⟨hk,c,rest,x,e1,e2,e3⟩:=h5;exact ⟨hk,c,rest,x,e1,conc_le h _ _ e2,e3⟩
  ·obtain ⟨hk,c,rest,x,e1,e2,e3⟩:=h5;exact ⟨hk,c,rest,x,e1,conc_le h _ _ e2,e3⟩
theorem FR.reads {e : Env} {fr : Fr} {b : Frame} {cs0 cs : List Frame} {a : Act} (r : FR e fr b cs0 a cs) : Reads e (arg fr.tm) a.eval:=by
 obtain ⟨ts,h1,h2⟩:=r.tm;exact reads_arg h1 a h2
theorem put_tm {e : Env} {tm : List AV} {ts : List Value} {a : Act} (h : concL e tm = some ts) (ha : a.tmps = ts.toArray) (d : Option Tmp) {v : AV} {x : Value} (hv : conc e v = some x) :
  ∃ us,concL e (putA d v tm) = some us∧(a.put d x).tmps = us.toArray:=by
 cases d with
 | none=>exact ⟨ts,h,ha⟩
 | some d=>exact ⟨ts.set d x,by simp only [putA,setR_eq];exact concL_set h d hv,by simp [Act.put,ha]⟩
theorem put_defers (a : Act) (d : Option Tmp) (x : Value) : (a.put d x).defers = a.defers:=by cases d<;>rfl
theorem FR.put {e : Env} {fr : Fr} {b : Frame} {cs0 cs : List Frame} {a : Act} (r : FR e fr b cs0 a cs) (d : Option Tmp) {v : AV} {x : Value} (hv : conc e v = some x) : FR e (fr.put d v) b cs0 (a.put d x) cs:=by
 obtain ⟨⟨ts,h1,h2⟩,h3,h4,h5⟩:=r
 exact ⟨put_tm h1 h2 d hv,by rw [put_defers];exact h3,h4,h5⟩
theorem wantedA_eq {e : Env} {ops : Array Oper} {o : Oper} {tm : List AV} {ts : List Value} (h : concL e tm = some ts) : wantedA ops o tm = Region.wanted o (yielded ops ts.toArray):=by
 unfold wantedA Region.wanted
 cases hg : o.guard with
 | none=>rfl
 | some g =>
  obtain ⟨j,want⟩:=g
  simp only [yielded]
  cases hd : (ops[j]?).bind (·.dst) with
  | none=>simp
  | some d =>
   simp only [Option.bind_some,List.getElem?_toArray]
   cases hv : tm[d]? with
   | none =>
    have hl:=concL_length h
    have : ts[d]? = none:=by rw [List.getElem?_eq_none_iff] at hv ⊢;omega
    simp [this]
   | some v =>
    obtain ⟨x,hx,hc⟩:=concL_get h d v hv
    simp only [hx]
    cases v<;>simp only [conc,Option.some.injEq,Option.map_eq_some_iff,Option.bind_eq_some_iff] at hc <;>
     first | (subst hc;first | rfl | (cases want<;>simp)) | (obtain ⟨_,_,rfl⟩:=hc;simp) | (obtain ⟨_,_,_,_,rfl⟩:=hc;simp)
end Go.Abs

/- A part of the proof: the walks of the functions that it reaches. TIGHT. -/
import Derived.Test.YtclkbedbocnpkaaGreatDoorMFlo10
set_option linter.unusedVariables false
set_option linter.unusedSimpArgs false
namespace Go.Proofs.YtclkbedbocnpkaaGreatDoor.C
open Go Go.RowKit Go.Proofs.YtclkbedbocnpkaaGreatDoorW.PrintWords Go.Proofs.YtclkbedbocnpkaaGreatDoorW.PrintLast Go.Proofs.YtclkbedbocnpkaaGreatDoorW.PrintMore
set_option linter.unusedVariables false
set_option linter.unusedSimpArgs false
set_option maxHeartbeats 16000000
set_option maxRecDepth 100000
section
variable {pts : List Pt} {ch : List Ch}
def flowsS (ch : List Ch) (fl : List Int) : Bool:=decide (fl.length = ch.length) && fl.all cupS
def capC (op : List Int) (x : Ch) (i : Int) : Int:=if openC op x i = true then x.f2 else 0
def capsS (op fl : List Int) : Int→List Ch→Bool
 | _,[]=>true
 | i,x :: cs=>decide (rd fl i≤capC op x i) && capsS op fl (i + 1) cs
def netF (fl : List Int) (p : Int) : Int→List Ch→Int
 | _,[]=>0
 | i,x :: cs=>(if x.f1 = p then rd fl i else 0) - (if x.f0 = p then rd fl i else 0) + netF fl p (i + 1) cs
def leftP (p : Pt) : Int:=p.f0.f0 - p.f1
def fedP (pts : List Pt) (ch : List Ch) (fl : List Int) (p : Nat) : Bool:=decide (0≤leftP (rd_T37 pts (p : Int)) + netF fl (p : Int) 0 ch)
def feedsS (pts : List Pt) (ch : List Ch) (op fl : List Int) : Bool:=capsS op fl 0 ch && allFrom (fedP pts ch fl) pts.length 0
theorem flows_go {fl : List Int} (hl : fl.length≤1000) : ∀ (rest : List Int) (k i : Nat),fl.drop i = rest→rest.length < k→q8_Flows.l0 k fl (i : Int) pts ch = some (rest.all cupS && ((fl.length : Int) == (ch.length : Int)))
 | _,0,_,_,hk=>by omega
 | [],k + 1,i,hd,_=>by
  have : fl.length≤i:=by have:=congrArg List.length hd;simp at this;omega
  unfold q8_Flows.l0
  rw [if_neg (by omega)];rfl
 | x :: rest,k + 1,i,hd,hk=>by
  obtain ⟨hd2,hlt⟩:=drop_succ hd
  have ih:=flows_go hl rest k (i + 1) hd2 (by simp at hk;omega)
  unfold q8_Flows.l0
  rw [if_pos (by omega),if_pos (by omega),getD_of_drop hd,rcups_eq,wr (by omega) (by omega),show (i : Int) + 1 = ((i + 1 : Nat) : Int) from rfl,ih]
  simp only [Option.bind_some,List.all_cons]
  cases cupS x<;>simp
theorem rFlows_eq {fl : List Int} (hl : fl.length≤1000) {k : Nat} (hk : 1001≤k) : q8_Flows.f k pts ch fl = some (flowsS ch fl):=by
 unfold q8_Flows.f
 rw [show (0 : Int) = ((0 : Nat) : Int) from rfl,flows_go hl fl k 0 rfl (by omega)]
 unfold flowsS
 congr 1
 rw [Bool.and_comm]
 congr 1
 rw [Bool.eq_iff_iff,decide_eq_true_eq,beq_iff_eq];omega
theorem bad_eq {fl : List Int} : cf_Feeds1.f fl = some (!fl.all cupS):=by
 unfold cf_Feeds1.f
 rw [anyM_eq (p:=fun x=>!cupS x) fun x _=>by unfold ga_Feeds_1.f;rw [isCups_eq];rfl,any_not]
theorem neg_eq {L : List Int} : cf_Feeds2.f L = some (L.any fun x=>decide (x < 0)):=by
 unfold cf_Feeds2.f
 exact anyM_eq fun x _=>rfl
theorem getD_set (l : List Int) (i j : Nat) (v : Int) (h : i < l.length) : (l.set i v).getD j 0 = if i = j then v else l.getD j 0:=by
 rw [List.getD_eq_getElem?_getD,List.getElem?_set,List.getD_eq_getElem?_getD]
 split
 ·rfl
 ·rfl
theorem flow_bd {fl : List Int} (hf : fl.all cupS = true) (i : Nat) : 0≤rd fl (i : Int)∧rd fl (i : Int)≤10000:=by
 show 0≤fl.getD i 0∧fl.getD i 0≤10000
 rw [List.getD_eq_getElem?_getD]
 cases h : fl[i]? with
 | none=>simp
 | some x=>exact of_decide_eq_true (List.all_eq_true.1 hf x (List.mem_of_getElem? h))
theorem any_neg {L : List Int} {P : Nat→Bool} (h : ∀ j,j < L.length→P j = decide (0≤L.getD j 0)) : (!L.any fun x=>decide (x < 0)) = allFrom P L.length 0:=by
 rw [Bool.eq_iff_iff,allFrom_iff,Bool.not_eq_true',List.any_eq_false]
 constructor
 ·intro a j _ hj
  rw [h j (by omega)]
  have:=a (L[j]'(by omega)) (List.getElem_mem _)
  rw [List.getD_eq_getElem?_getD,List.getElem?_eq_getElem (by omega)]
  simp at this ⊢;exact this
 ·intro a x hx
  obtain ⟨j,hj,rfl⟩:=List.mem_iff_getElem.1 hx
  have:=a j (Nat.zero_le _) (by omega)
  rw [h j hj,List.getD_eq_getElem?_getD,List.getElem?_eq_getElem hj] at this
  simp at this ⊢;exact this
theorem allFrom_congr {P Q : Nat→Bool} : ∀ {d i : Nat},(∀ j,i≤j→j < i + d→P j = Q j)→allFrom P d i = allFrom Q d i
 | 0,_,_=>rfl
 | d + 1,i,h=>by
  unfold allFrom
  rw [h i (Nat.le_refl _) (by omega),allFrom_congr fun j h1 h2=>h j (by omega) (by omega)]
theorem feeds_l1 (h4 : ch.all (chS pts.length) = true) (hc : ch.length≤20) (hp : pts.length≤1000) {op fl : List Int} (ho : op.length≤1000) (hf : fl.all cupS = true) (hfl : fl.length = ch.length) : ∀ (rest : List Ch) (k i : Nat) (L : List Int),ch.drop i = rest→L.length = pts.length→(∀ j,-20000 * ((i : Int) + 1)≤L.getD j 0∧L.getD j 0≤20000 * ((i : Int) + 1))→rest.length + 1001 < k→
 ga_Feeds.l1 k fl L ch (ch.length : Int) (i : Int) pts ch op = some (capsS op fl (i : Int) rest && allFrom (fun p=>decide (0≤L.getD p 0 + netF fl (p : Int) (i : Int) rest)) pts.length 0,0)
 | _,0,_,_,_,_,_,hk=>by omega
 | [],k + 1,i,L,hd,hL,_,_=>by
  have : ch.length≤i:=by have:=congrArg List.length hd;simp at this;omega
  unfold ga_Feeds.l1
  rw [if_neg (by omega),neg_eq]
  simp only [Option.bind_some,capsS,Bool.true_and]
  rw [any_neg (P:=fun p=>decide (0≤L.getD p 0 + netF fl (p : Int) (i : Int) [])) (fun j _=>by simp [netF]),hL]
 | x :: rest,k + 1,i,L,hd,hL,hb,hk=>by
  obtain ⟨hd2,hlt⟩:=drop_succ hd
  have hx : x ∈ ch:=by
   have : x ∈ ch.drop i:=by rw [hd];exact List.mem_cons_self
   exact List.mem_of_mem_drop this
  obtain ⟨⟨a0,a1⟩,⟨b0,b1⟩,hne,-,-⟩:=chS_iff.1 (List.all_eq_true.1 h4 x hx)
  obtain ⟨f0,f1⟩:=flow_bd hf i
  obtain ⟨u,hu⟩ : ∃ u : Nat,x.f0 = (u : Int):=⟨x.f0.toNat,by omega⟩
  obtain ⟨v,hv⟩ : ∃ v : Nat,x.f1 = (v : Int):=⟨x.f1.toNat,by omega⟩
  have hbu:=hb u
  have hbv:=hb v
  unfold ga_Feeds.l1
  rw [if_pos (by omega),if_pos (by omega),if_pos (by omega),if_pos (by omega),carries_eq ho (by omega) hd]
  simp only [Option.bind_some]
  show _ = some (decide (rd fl (i : Int)≤capC op x (i : Int)) && capsS op fl ((i : Int) + 1) rest && _,0)
  rw [show (if openC op x (i : Int) = true then x.f2 else 0) = capC op x (i : Int) from rfl,rdT_nat ch i x rest hd]
  by_cases hcap : rd fl (i : Int)≤capC op x (i : Int)
  case neg=>rw [if_pos (by omega),decide_eq_false hcap];rfl
  rw [if_neg (by omega),decide_eq_true hcap,Bool.true_and,hu,hv,if_pos (by omega),if_pos (by omega)]
  rw [if_pos (by omega),if_pos (by omega),wr (x:=(i : Int) + 1) (by omega) (by omega),show (i : Int) + 1 = ((i + 1 : Nat) : Int) from rfl]
  rw [show ((u : Nat) : Int).toNat = u from rfl,show ((v : Nat) : Int).toNat = v from rfl]
  have huv : u ≠ v:=fun e=>hne (by omega)
  have e1 : rd L (u : Int) = L.getD u 0:=rfl
  rw [e1,wr (x:=L.getD u 0 - rd fl (i : Int)) (by omega) (by omega)]
  have e2 : rd (L.set u (L.getD u 0 - rd fl (i : Int))) (v : Int) = L.getD v 0:=by
   show (L.set u _).getD v 0 = _
   rw [getD_set _ _ _ _ (by omega),if_neg huv]
  rw [e2,wr (x:=L.getD v 0 + rd fl (i : Int)) (by omega) (by omega)]
  have e3 : ∀ j : Nat,((L.set u (L.getD u 0 - rd fl (i : Int))).set v (L.getD v 0 + rd fl (i : Int))).getD j 0 = L.getD j 0 + (if x.f1 = (j : Int) then rd fl (i : Int) else 0) - (if x.f0 = (j : Int) then rd fl (i : Int) else 0):=by
   intro j
   rw [getD_set _ _ _ _ (by simp;omega),getD_set _ _ _ _ (by omega),hu,hv]
   by_cases c1 : v = j
   ·have n1 : ((v : Nat) : Int) = (j : Int):=by omega
    have n2 : ¬ ((u : Nat) : Int) = (j : Int):=by omega
    rw [if_pos c1,if_pos n1,if_neg n2,c1];omega
   ·have n1 : ¬ ((v : Nat) : Int) = (j : Int):=by omega
    rw [if_neg c1,if_neg n1]
    by_cases c2 : u = j
    ·have n2 : ((u : Nat) : Int) = (j : Int):=by omega
     rw [if_pos c2,if_pos n2,c2];omega
    ·have n2 : ¬ ((u : Nat) : Int) = (j : Int):=by omega
     rw [if_neg c2,if_neg n2];omega
  rw [feeds_l1 h4 hc hp ho hf hfl rest k (i + 1) _ hd2 (by simp [hL]) (fun j=>by
   have:=hb j
   rw [e3 j]
   split<;>split<;>omega) (by simp at hk;omega)]
  congr 3
  refine allFrom_congr fun j _ hj=>?_
  rw [e3 j,decide_eq_decide]
  show _↔0≤L.getD j 0 + ((if x.f1 = (j : Int) then rd fl (i : Int) else 0) - (if x.f0 = (j : Int) then rd fl (i : Int) else 0) + netF fl (j : Int) ((i : Int) + 1) rest)
  rw [show ((i + 1 : Nat) : Int) = (i : Int) + 1 from rfl]
  omega
theorem feeds_l0 (h3 : pts.all ptS = true) (h4 : ch.all (chS pts.length) = true) (hc : ch.length≤20) (hp : pts.length≤1000) {op fl : List Int} (ho : op.length≤1000) (hf : fl.all cupS = true) (hfl : fl.length = ch.length) : ∀ (rest : List Pt) (k i : Nat) (L : List Int),pts.drop i = rest→L.length = pts.length→(∀ j,L.getD j 0 = if j < i then leftP (rd_T37 pts (j : Int)) else 0)→rest.length + 1100 < k→
 ga_Feeds.l0 k fl L pts (pts.length : Int) (i : Int) pts ch pts ch op = some (feedsS pts ch op fl,0)
 | _,0,_,_,_,_,_,hk=>by omega
 | [],k + 1,i,L,hd,hL,hb,hk=>by
  have : pts.length≤i:=by have:=congrArg List.length hd;simp at this;omega
  unfold ga_Feeds.l0
  have bd : ∀ j,-20000≤L.getD j 0∧L.getD j 0≤20000:=fun j=>by
   rw [hb j]
   by_cases hj : j < pts.length
   ·rw [if_pos (by omega)]
    have:=ptS_iff.1 (pt_in h3 (p:=(j : Int)) (by omega) (by omega))
    unfold leftP;omega
   ·have : L.getD j 0 = 0:=by rw [List.getD_eq_getElem?_getD,List.getElem?_eq_none (by omega)];rfl
    rw [← hb j,this];omega
  rw [if_neg (by omega),show (0 : Int) = ((0 : Nat) : Int) from rfl,feeds_l1 h4 hc hp ho hf hfl ch k 0 L rfl hL (fun j=>by have:=bd j;omega) (by omega)]
  unfold feedsS
  congr 3
  refine allFrom_congr fun j _ hj=>?_
  unfold fedP
  rw [hb j,if_pos (by omega)];rfl
 | x :: rest,k + 1,i,L,hd,hL,hb,hk=>by
  obtain ⟨hd2,hlt⟩:=drop_succ hd
  unfold ga_Feeds.l0
  have hq:=rdP_nat pts i x rest hd
  have hx:=ptS_iff.1 (pt_in h3 (p:=(i : Int)) (by omega) (by omega))
  rw [hq] at hx
  rw [if_pos (by omega),if_pos (by omega),if_pos (by omega),if_pos (by omega),hq,wr (x:=x.f0.f0 - x.f1) (by omega) (by omega),wr (x:=(i : Int) + 1) (by omega) (by omega),show (i : Int) + 1 = ((i + 1 : Nat) : Int) from rfl]
  refine feeds_l0 h3 h4 hc hp ho hf hfl rest k (i + 1) _ hd2 (by simp [hL]) (fun j=>?_) (by simp at hk;omega)
  rw [show ((i : Nat) : Int).toNat = i from rfl,getD_set _ _ _ _ (by omega),hb j]
  by_cases c : i = j
  ·subst c;rw [if_pos rfl,if_pos (by omega),hq];rfl
  ·rw [if_neg c]
   by_cases d : j < i
   ·rw [if_pos d,if_pos (by omega)]
   ·rw [if_neg d,if_neg (by omega)]
theorem gFeeds_eq (hp : pts.length≤1000) (hc : ch.length≤1000) {op fl : List Int} (ho : op.length≤20) {k : Nat} (hk : 3000≤k) : ga_Feeds.f k pts ch op fl = some (if (openS pts ch op && flowsS ch fl) = true then (feedsS pts ch op fl,0) else (false,2)):=by
 obtain ⟨k,rfl⟩ : ∃ m,k = m + 1:=⟨k - 1,by omega⟩
 unfold ga_Feeds.f openS flowsS
 rw [isNet_eq hp hc (by omega)]
 simp only [Option.bind_some]
 by_cases hn : netS pts ch = true
 case neg=>rw [if_neg hn];simp [ga_Feeds.j0,hn]
 obtain ⟨h1,h2,h3,h4,h5⟩:=netS_iff.1 hn
 rw [if_pos hn,areGates_eq hc (by omega) (by omega)]
 simp only [Option.bind_some]
 by_cases hs : someS ch op = true
 case neg=>rw [if_neg hs];simp [ga_Feeds.j0,hs]
 rw [if_pos hs]
 by_cases hl : fl.length = ch.length
 case neg=>rw [if_neg (by omega)];simp [ga_Feeds.j0,hl]
 rw [if_pos (by omega),bad_eq]
 simp only [Option.bind_some,ga_Feeds.j0]
 by_cases hf : fl.all cupS = true
 case neg=>simp [hf]
 simp only [hn,hs,hl,hf,decide_true,Bool.and_self,if_true,Bool.not_true,Bool.false_eq_true,if_false]
 have e:=feeds_l0 h3 h4 (by omega) hp (show op.length≤1000 by omega) hf hl pts k 0 (List.replicate ((pts.length : Int) : Int).toNat 0) rfl (by simp) (fun j=>by
  rw [if_neg (by omega),List.getD_eq_getElem?_getD,List.getElem?_replicate]
  split<;>rfl) (by omega)
 rw [if_pos (by omega),if_pos (by omega)]
 exact e
end
end Go.Proofs.YtclkbedbocnpkaaGreatDoor.C
namespace Go.Proofs.YtclkbedbocnpkaaGreatDoor.C
open Go.RowKit Go.Proofs.YtclkbedbocnpkaaGreatDoorW.PrintWords Go.Proofs.YtclkbedbocnpkaaGreatDoorW.PrintLast Go.Proofs.YtclkbedbocnpkaaGreatDoorW.PrintMore
set_option linter.unusedVariables false
set_option linter.unusedSimpArgs false
set_option maxHeartbeats 16000000
set_option maxRecDepth 100000
set_option linter.unusedSimpArgs false
end Go.Proofs.YtclkbedbocnpkaaGreatDoor.C
namespace Go.Proofs.YtclkbedbocnpkaaGreatDoor.C
open Go Go.RowKit Go.Proofs.YtclkbedbocnpkaaGreatDoorW.PrintWords Go.Proofs.YtclkbedbocnpkaaGreatDoorW.PrintLast Go.Proofs.YtclkbedbocnpkaaGreatDoorW.PrintMore
set_option linter.unusedVariables false
set_option linter.unusedSimpArgs false
set_option maxHeartbeats 16000000
set_option maxRecDepth 100000
def lexB : List Int→List Int→Bool
 | a :: ra,b :: rb=>if a = b then lexB ra rb else decide (a < b)
 | ra,rb=>decide (ra.length < rb.length)
def ahead (a b : List Int) : Prop:=a.length < b.length∨(a.length = b.length∧lexB a b = true)
section
variable {pts : List Pt} {ch : List Ch}
theorem sum_one (a f : Int) : ∀ {S : List Int},S.Pairwise (· < ·)→(S.map fun p=>if a = p then f else 0).sum = if a ∈ S then f else 0
 | [],_=>by simp
 | p :: S,h=>by
  obtain ⟨h1,h2⟩:=List.pairwise_cons.1 h
  rw [List.map_cons,List.sum_cons,sum_one a f h2]
  by_cases c : a = p
  ·have : a ∉ S:=fun m=>by have:=h1 a m;omega
   rw [if_pos c,if_neg this,if_pos (by simp [c])];omega
  ·rw [if_neg c]
   by_cases d : a ∈ S
   ·rw [if_pos d,if_pos (by simp [d])];omega
   ·rw [if_neg d,if_neg (by simp [c,d])];omega
theorem sum_three (f g h : Int→Int) : ∀ (S : List Int),(S.map fun p=>f p - g p + h p).sum = (S.map f).sum - (S.map g).sum + (S.map h).sum
 | []=>by simp
 | p :: S=>by simp only [List.map_cons,List.sum_cons];rw [sum_three f g h S];omega
theorem sum_le (f g : Int→Int) : ∀ (S : List Int),(∀ p ∈ S,f p≤g p)→(S.map f).sum≤(S.map g).sum
 | [],_=>by simp
 | p :: S,h=>by
  have:=sum_le f g S fun q hq=>h q (List.mem_cons_of_mem _ hq)
  have:=h p List.mem_cons_self
  simp only [List.map_cons,List.sum_cons];omega
theorem net_brings {op fl S : List Int} (hf : fl.all cupS = true) (hS : S.Pairwise (· < ·)) : ∀ (rest : List Ch) (i : Nat),capsS op fl (i : Int) rest = true→(S.map fun p=>netF fl p (i : Int) rest).sum≤brings op S (i : Int) rest
 | [],i,_=>by
  have : ∀ S : List Int,(S.map fun p=>netF fl p (i : Int) []).sum = 0:=fun S=>by
   induction S with
   | nil=>rfl
   | cons a S ih=>rw [List.map_cons,List.sum_cons,ih];rfl
  rw [this];exact Int.le_refl _
 | x :: rest,i,h=>by
  have h' : (decide (rd fl (i : Int)≤capC op x (i : Int)) && capsS op fl ((i : Int) + 1) rest) = true:=h
  rw [Bool.and_eq_true] at h'
  obtain ⟨h1,h2⟩:=h'
  have h1:=of_decide_eq_true h1
  have ih:=net_brings hf hS rest (i + 1) h2
  obtain ⟨f0,f1⟩:=flow_bd hf i
  have e:=sum_three (fun p=>if x.f1 = p then rd fl (i : Int) else 0) (fun p=>if x.f0 = p then rd fl (i : Int) else 0) (fun p=>netF fl p ((i : Int) + 1) rest) S
  rw [sum_one _ _ hS,sum_one _ _ hS] at e
  show (S.map fun p=>(if x.f1 = p then rd fl (i : Int) else 0) - (if x.f0 = p then rd fl (i : Int) else 0) + netF fl p ((i : Int) + 1) rest).sum≤(if openC op x (i : Int) = true∧x.f1 ∈ S∧x.f0 ∉ S then x.f2 else 0) + brings op S ((i : Int) + 1) rest
  rw [e]
  rw [show ((i + 1 : Nat) : Int) = (i : Int) + 1 from rfl] at ih
  unfold capC at h1
  by_cases c1 : x.f1 ∈ S
  ·by_cases c0 : x.f0 ∈ S
   ·rw [if_pos c1,if_pos c0,if_neg (by simp [c0])];omega
   ·rw [if_pos c1,if_neg c0]
    by_cases c2 : openC op x (i : Int) = true
    ·rw [if_pos c2] at h1;rw [if_pos ⟨c2,c1,c0⟩];omega
    ·rw [if_neg c2] at h1;rw [if_neg (by simp [c2])];omega
  ·have c3 : ¬ (openC op x (i : Int) = true∧x.f1 ∈ S∧x.f0 ∉ S):=fun h=>c1 h.2.1
   rw [if_neg c1,if_neg c3]
   split<;>omega
theorem fed_short {op fl S : List Int} (hf : fl.all cupS = true) (h : feedsS pts ch op fl = true) (hS : S.Pairwise (· < ·)) (hm : ∀ p ∈ S,0≤p∧p < (pts.length : Int)) : shortS pts ch op S false≤0:=by
 unfold feedsS at h
 rw [Bool.and_eq_true,allFrom_iff] at h
 obtain ⟨h1,h2⟩:=h
 have a:=net_brings hf hS ch 0 h1
 have b:=sum_le (fun p=>lackP false (rd_T37 pts p)) (fun p=>netF fl p 0 ch) S fun p hp=>by
  obtain ⟨p0,p1⟩:=hm p hp
  obtain ⟨n,rfl⟩ : ∃ n : Nat,p = (n : Int):=⟨p.toNat,by omega⟩
  have:=of_decide_eq_true (h2 n (Nat.zero_le _) (by omega))
  unfold leftP at this
  show (rd_T37 pts (n : Int)).f1 - (if false = true then _ else (rd_T37 pts (n : Int)).f0.f0)≤_
  rw [if_neg (by simp)];omega
 unfold shortS
 have a' : (S.map fun p=>netF fl p 0 ch).sum≤brings op S 0 ch:=a
 omega
theorem nums_sorted (n : Nat) : (numsL n).Pairwise (· < ·):=by
 unfold numsL
 rw [List.pairwise_map]
 exact List.pairwise_lt_range.imp fun h=>by simpa using h
theorem short_nums_sorted {n : Nat} {S : List Int} (h : S ∈ shortestOf (numsL n)) : S.Pairwise (· < ·):=by
 have key : ∀ (xs : List Int) (m : Nat) (l : List Int),xs.Pairwise (· < ·)→l ∈ partsOf xs [] m→l.Pairwise (· < ·):=by
  intro xs
  induction xs with
  | nil =>
   intro m l _ h
   cases m with
   | zero=>simp [partsOf] at h;subst h;exact List.Pairwise.nil
   | succ m=>simp [partsOf] at h
  | cons x xs ih =>
   intro m l hx h
   obtain ⟨x1,x2⟩:=List.pairwise_cons.1 hx
   cases m with
   | zero=>simp [partsOf] at h;subst h;exact List.Pairwise.nil
   | succ m =>
    unfold partsOf at h
    rw [partsOf_now xs ([] ++ [x]) m] at h
    rcases List.mem_append.1 h with h | h
    ·obtain ⟨l',h',e⟩:=List.mem_map.1 h
     subst e
     obtain ⟨s,e,_,hs⟩:=partsOf_mem xs [] m l' h'
     rw [List.nil_append] at e
     subst e
     exact List.pairwise_cons.2 ⟨fun z hz=>x1 z (hs z hz),ih m l' x2 h'⟩
    ·exact ih (m + 1) l x2 h
 have up : ∀ k,S ∈ uptoOf (numsL n) k→S.Pairwise (· < ·):=by
  intro k
  induction k with
  | zero=>intro h;simp [uptoOf] at h
  | succ k ih =>
   intro h
   unfold uptoOf at h
   rcases List.mem_append.1 h with h | h
   ·exact ih h
   ·exact key _ _ _ (nums_sorted n) h
 exact up _ h
theorem fed_no_cut {op fl : List Int} (hf : flowsS ch fl = true) (h : feedsS pts ch op fl = true) : cutS pts ch op false = none:=by
 unfold flowsS at hf
 rw [Bool.and_eq_true] at hf
 unfold cutS
 rw [List.find?_eq_none]
 intro S hS hc
 have:=of_decide_eq_true hc
 have:=fed_short hf.2 h (short_nums_sorted hS) fun p hp=>numsL_mem.1 ((uptoOf_mem hS).2 p hp)
 omega
end
end Go.Proofs.YtclkbedbocnpkaaGreatDoor.C
namespace Go.Proofs.YtclkbedbocnpkaaGreatDoor.C
open Go.RowKit Go.Proofs.YtclkbedbocnpkaaGreatDoorW.PrintWords Go.Proofs.YtclkbedbocnpkaaGreatDoorW.PrintLast Go.Proofs.YtclkbedbocnpkaaGreatDoorW.PrintMore
set_option linter.unusedVariables false
set_option linter.unusedSimpArgs false
set_option maxHeartbeats 16000000
set_option maxRecDepth 100000
set_option linter.unusedSimpArgs false
def l8_right.f (k : Nat) (l0_0 : List (S37)) (l0_1 : List (S65)) (l1 : List Int) : Option (Bool):=(l8_short.f l0_0 l0_1).bind fun t309=>(if t309 = true then (if (l1.length : Int)≤10 then ((q8_Net.f k l0_0 l0_1).bind fun t310=>(if t310 = true then ((q8_Some.f k l0_0 l0_1 l1).bind fun t311=>(some t311)) else (some false))) else (some false)) else (some false))
theorem l8_right.calls (k : Nat) (A0_0 : Option Addr) (c0_0 : Nat) (l0_0 : List (S37)) (A0_1 : Option Addr) (c0_1 : Nat) (l0_1 : List (S65)) (A1 : Option Addr) (c1 : Nat) (l1 : List Int) (r : Bool) (w : World) (hr0_0 : Kd.C k37 w A0_0 l0_0.length l0_0) (hc0_0 : l0_0.length≤c0_0) (hr0_1 : Kd.C k65 w A0_1 l0_1.length l0_1) (hc0_1 : l0_1.length≤c0_1) (hr1 : Kd.C (Kd.int .i64) w A1 l1.length l1) (hc1 : l1.length≤c1) (h : l8_right.f k l0_0 l0_1 l1 = some r) :
 Calls Tryz.prog 21 #[.agg #[.slice A0_0 l0_0.length c0_0,.slice A0_1 l0_1.length c0_1],.slice A1 l1.length c1] w fun e w'=>e = .returned (.bool r)∧Below w.heap.size w w':=by
 have hu25:=Tryz.underlying25
 have HR0_0:=am hr0_0
 have HC0_0:=am hc0_0
 clear hr0_0 hc0_0
 have HR0_1:=am hr0_1
 have HC0_1:=am hc0_1
 clear hr0_1 hc0_1
 have HR1:=am hr1
 have HC1:=am hc1
 clear hr1 hc1
 have HB:=am (Below.refl w.heap.size w)
 have H : ((l8_short.f l0_0 l0_1).bind fun t309=>(if t309 = true then (if (l1.length : Int)≤10 then ((q8_Net.f k l0_0 l0_1).bind fun t310=>(if t310 = true then ((q8_Some.f k l0_0 l0_1 l1).bind fun t311=>(some t311)) else (some false))) else (some false)) else (some false))) = some r:=h
 clear h
 replace H:=obm H
 obtain ⟨t309,A30,H⟩:=H
 replace H : (if t309 = true then (if (l1.length : Int)≤10 then ((q8_Net.f k l0_0 l0_1).bind fun t310=>(if t310 = true then ((q8_Some.f k l0_0 l0_1 l1).bind fun t311=>(some t311)) else (some false))) else (some false)) else (some false)) = some r:=H
 have A3:=am A30
 clear A30
 by_cases c4 : t309 = true
 case neg =>
  replace c4:=Bool.eq_false_iff.mpr c4
  subst c4
  replace H : (some false) = some r:=by rw [if_neg (show ¬ (false = true) by decide)] at H;exact H
  obtain rfl:=Option.some.inj H
  go_enter Tryz.func21,Tryz.ntmps21
  go_wp2_with (first | ((refine ga_dst (N:=2) rfl ?_);(try (refine ga_guard (by rfl) ?_;dsimp only));refine box_event rfl (N:=2) rfl (cs:=#[.slice A0_0 l0_0.length c0_0,.slice A0_1 l0_1.length c0_1]) (t:=25) ?hr ?_;(case hr=>go_simp;try rfl);intro gb308 hg w24 hbox hb;have BK308:=am (hbox);have GW308:=am (ge_new (HB.out) hg);have GE308:=am (ge_new (HB.out) hg);replace HB:=am (below_step (HB.out) hb);clear hb hbox hg;obtain ⟨hcz25_0,hcz25_1⟩:=cO2 BK308.out) | ((with_reducible refine ga_callee (f:=14) rfl ?_);refine goesL_ (some 6) rfl rfl Tryz.func14 (by kernel_rfl) rfl #[.agg #[.slice A0_0 l0_0.length c0_0,.slice A0_1 l0_1.length c0_1]] rfl (by (try simp only [List.map_toArray,List.map_cons,List.map_nil]);first | done | rfl | (simp only [List.length_drop,List.length_take];rfl)) ?_;(refine (l8_short.calls _ _ l0_0 _ _ l0_1 false _ ?side1 ?side2 ?side3 ?side4 A3.out).mono ?_);(case side1=>exact kC HR0_0.out HB.out);(case side2=>exact HC0_0.out);(case side3=>exact kC HR0_1.out HB.out);(case side4=>exact HC0_1.out);rintro e w26 ⟨rfl,hb⟩;refine ⟨_,rfl,?_⟩;replace BK308:=(kmv hb BK308);replace HB:=am (below_step (HB.out) hb);(try clear hb);(try clear hb2);(try clear hk);(try clear hi)))
  go_ret
  exact ⟨by first | rfl | (simp [*]<;>rfl),HB.out⟩
 subst c4
 replace H : (if (l1.length : Int)≤10 then ((q8_Net.f k l0_0 l0_1).bind fun t310=>(if t310 = true then ((q8_Some.f k l0_0 l0_1 l1).bind fun t311=>(some t311)) else (some false))) else (some false)) = some r:=by rw [if_pos rfl] at H;exact H
 by_cases c5 : (l1.length : Int)≤10
 case neg =>
  rw [if_neg c5] at H
  have c5b0 : decide ((l1.length : Int)≤10) = false:=decide_eq_false c5
  have c5b1 : decide (l1.length≤10) = false:=decide_eq_false (by omega)
  clear c5
  obtain rfl:=Option.some.inj H
  go_enter Tryz.func21,Tryz.ntmps21
  go_wp2_with (first | ((refine ga_dst (N:=2) rfl ?_);(try (refine ga_guard (by rfl) ?_;dsimp only));refine box_event rfl (N:=2) rfl (cs:=#[.slice A0_0 l0_0.length c0_0,.slice A0_1 l0_1.length c0_1]) (t:=25) ?hr ?_;(case hr=>go_simp;try rfl);intro gb308 hg w21 hbox hb;have BK308:=am (hbox);have GW308:=am (ge_new (HB.out) hg);have GE308:=am (ge_new (HB.out) hg);replace HB:=am (below_step (HB.out) hb);clear hb hbox hg;obtain ⟨hcz22_0,hcz22_1⟩:=cO2 BK308.out) | ((with_reducible refine ga_callee (f:=14) rfl ?_);refine goesL_ (some 6) rfl rfl Tryz.func14 (by kernel_rfl) rfl #[.agg #[.slice A0_0 l0_0.length c0_0,.slice A0_1 l0_1.length c0_1]] rfl (by (try simp only [List.map_toArray,List.map_cons,List.map_nil]);first | done | rfl | (simp only [List.length_drop,List.length_take];rfl)) ?_;(refine (l8_short.calls _ _ l0_0 _ _ l0_1 true _ ?side1 ?side2 ?side3 ?side4 A3.out).mono ?_);(case side1=>exact kC HR0_0.out HB.out);(case side2=>exact HC0_0.out);(case side3=>exact kC HR0_1.out HB.out);(case side4=>exact HC0_1.out);rintro e w23 ⟨rfl,hb⟩;refine ⟨_,rfl,?_⟩;replace BK308:=(kmv hb BK308);replace HB:=am (below_step (HB.out) hb);(try clear hb);(try clear hb2);(try clear hk);(try clear hi)))
  go_ret
  exact ⟨by first | rfl | (simp [*]<;>rfl),HB.out⟩
 rw [if_pos c5] at H
 have c5b0 : decide ((l1.length : Int)≤10) = true:=decide_eq_true c5
 have c5b1 : decide (l1.length≤10) = true:=decide_eq_true (by omega)
 clear c5
 replace H:=obm H
 obtain ⟨t310,A60,H⟩:=H
 replace H : (if t310 = true then ((q8_Some.f k l0_0 l0_1 l1).bind fun t311=>(some t311)) else (some false)) = some r:=H
 have A6:=am A60
 clear A60
 by_cases c7 : t310 = true
 case neg =>
  replace c7:=Bool.eq_false_iff.mpr c7
  subst c7
  replace H : (some false) = some r:=by rw [if_neg (show ¬ (false = true) by decide)] at H;exact H
  obtain rfl:=Option.some.inj H
  go_enter Tryz.func21,Tryz.ntmps21
  go_wp2_with (first | ((refine ga_dst (N:=2) rfl ?_);(try (refine ga_guard (by rfl) ?_;dsimp only));refine box_event rfl (N:=2) rfl (cs:=#[.slice A0_0 l0_0.length c0_0,.slice A0_1 l0_1.length c0_1]) (t:=25) ?hr ?_;(case hr=>go_simp;try rfl);intro gb308 hg w16 hbox hb;have BK308:=am (hbox);have GW308:=am (ge_new (HB.out) hg);have GE308:=am (ge_new (HB.out) hg);replace HB:=am (below_step (HB.out) hb);clear hb hbox hg;obtain ⟨hcz17_0,hcz17_1⟩:=cO2 BK308.out) | ((with_reducible refine ga_callee (f:=14) rfl ?_);refine goesL_ (some 6) rfl rfl Tryz.func14 (by kernel_rfl) rfl #[.agg #[.slice A0_0 l0_0.length c0_0,.slice A0_1 l0_1.length c0_1]] rfl (by (try simp only [List.map_toArray,List.map_cons,List.map_nil]);first | done | rfl | (simp only [List.length_drop,List.length_take];rfl)) ?_;(refine (l8_short.calls _ _ l0_0 _ _ l0_1 true _ ?side1 ?side2 ?side3 ?side4 A3.out).mono ?_);(case side1=>exact kC HR0_0.out HB.out);(case side2=>exact HC0_0.out);(case side3=>exact kC HR0_1.out HB.out);(case side4=>exact HC0_1.out);rintro e w18 ⟨rfl,hb⟩;refine ⟨_,rfl,?_⟩;replace BK308:=(kmv hb BK308);replace HB:=am (below_step (HB.out) hb);(try clear hb);(try clear hb2);(try clear hk);(try clear hi);obtain ⟨hcz19_0,hcz19_1⟩:=cO2 BK308.out) | (go_at_call 17;(refine (q8_Net.calls k _ _ l0_0 _ _ l0_1 false _ ?side1 ?side2 ?side3 ?side4 A6.out).mono ?_);(case side1=>exact kC HR0_0.out HB.out);(case side2=>exact HC0_0.out);(case side3=>exact kC HR0_1.out HB.out);(case side4=>exact HC0_1.out);rintro e w20 ⟨rfl,hb⟩;replace BK308:=(kmv hb BK308);replace HB:=am (below_step (HB.out) hb);(try clear hb);(try clear hb2);(try clear hk);(try clear hi)))
  go_ret
  exact ⟨by first | rfl | (simp [*]<;>rfl),HB.out⟩
 subst c7
 replace H : ((q8_Some.f k l0_0 l0_1 l1).bind fun t311=>(some t311)) = some r:=by rw [if_pos rfl] at H;exact H
 replace H:=obm H
 obtain ⟨t311,A80,H⟩:=H
 replace H : (some t311) = some r:=H
 have A8:=am A80
 clear A80
 obtain rfl:=Option.some.inj H
 go_enter Tryz.func21,Tryz.ntmps21
 go_wp2_with (first | ((refine ga_dst (N:=2) rfl ?_);(try (refine ga_guard (by rfl) ?_;dsimp only));refine box_event rfl (N:=2) rfl (cs:=#[.slice A0_0 l0_0.length c0_0,.slice A0_1 l0_1.length c0_1]) (t:=25) ?hr ?_;(case hr=>go_simp;try rfl);intro gb308 hg w9 hbox hb;have BK308:=am (hbox);have GW308:=am (ge_new (HB.out) hg);have GE308:=am (ge_new (HB.out) hg);replace HB:=am (below_step (HB.out) hb);clear hb hbox hg;obtain ⟨hcz10_0,hcz10_1⟩:=cO2 BK308.out) | ((with_reducible refine ga_callee (f:=14) rfl ?_);refine goesL_ (some 6) rfl rfl Tryz.func14 (by kernel_rfl) rfl #[.agg #[.slice A0_0 l0_0.length c0_0,.slice A0_1 l0_1.length c0_1]] rfl (by (try simp only [List.map_toArray,List.map_cons,List.map_nil]);first | done | rfl | (simp only [List.length_drop,List.length_take];rfl)) ?_;(refine (l8_short.calls _ _ l0_0 _ _ l0_1 true _ ?side1 ?side2 ?side3 ?side4 A3.out).mono ?_);(case side1=>exact kC HR0_0.out HB.out);(case side2=>exact HC0_0.out);(case side3=>exact kC HR0_1.out HB.out);(case side4=>exact HC0_1.out);rintro e w11 ⟨rfl,hb⟩;refine ⟨_,rfl,?_⟩;replace BK308:=(kmv hb BK308);replace HB:=am (below_step (HB.out) hb);(try clear hb);(try clear hb2);(try clear hk);(try clear hi);obtain ⟨hcz12_0,hcz12_1⟩:=cO2 BK308.out) | (go_at_call 17;(refine (q8_Net.calls k _ _ l0_0 _ _ l0_1 true _ ?side1 ?side2 ?side3 ?side4 A6.out).mono ?_);(case side1=>exact kC HR0_0.out HB.out);(case side2=>exact HC0_0.out);(case side3=>exact kC HR0_1.out HB.out);(case side4=>exact HC0_1.out);rintro e w13 ⟨rfl,hb⟩;replace BK308:=(kmv hb BK308);replace HB:=am (below_step (HB.out) hb);(try clear hb);(try clear hb2);(try clear hk);(try clear hi);obtain ⟨hcz14_0,hcz14_1⟩:=cO2 BK308.out) | (go_at_call 18;(refine (q8_Some.calls k _ _ l0_0 _ _ l0_1 _ _ l1 t311 _ ?side1 ?side2 ?side3 ?side4 ?side5 ?side6 A8.out).mono ?_);(case side1=>exact kC HR0_0.out HB.out);(case side2=>exact HC0_0.out);(case side3=>exact kC HR0_1.out HB.out);(case side4=>exact HC0_1.out);(case side5=>exact kC HR1.out HB.out);(case side6=>exact HC1.out);rintro e w15 ⟨rfl,hb⟩;replace BK308:=(kmv hb BK308);replace HB:=am (below_step (HB.out) hb);(try clear hb);(try clear hb2);(try clear hk);(try clear hi)))
 go_ret
 exact ⟨by first | rfl | (simp [*]<;>rfl),HB.out⟩
end Go.Proofs.YtclkbedbocnpkaaGreatDoor.C
namespace Go.Proofs.YtclkbedbocnpkaaGreatDoor.C
open Go Go.RowKit Go.Proofs.YtclkbedbocnpkaaGreatDoorW.PrintWords Go.Proofs.YtclkbedbocnpkaaGreatDoorW.PrintLast Go.Proofs.YtclkbedbocnpkaaGreatDoorW.PrintMore
set_option linter.unusedVariables false
set_option linter.unusedSimpArgs false
set_option maxHeartbeats 16000000
set_option maxRecDepth 100000
section
variable {pts : List Pt} {ch : List Ch}
def rightS (pts : List Pt) (ch : List Ch) (op : List Int) : Bool:=shortB pts ch && (decide (op.length≤10) && (netS pts ch && someS ch op))
theorem right_eq {op : List Int} {k : Nat} (hk : 1000≤k) : l8_right.f k pts ch op = some (rightS pts ch op):=by
 unfold l8_right.f rightS
 rw [short_eq]
 simp only [Option.bind_some]
 by_cases hs : shortB pts ch = true
 case neg=>simp [hs]
 obtain ⟨hp,hc⟩:=shortB_iff.1 hs
 by_cases hl : op.length≤10
 case neg=>rw [if_pos hs,if_neg (by omega)];simp [hl]
 rw [if_pos hs,if_pos (by omega),rNet_eq (by omega) (by omega) (by omega)]
 simp only [Option.bind_some]
 by_cases hn : netS pts ch = true
 case neg=>simp [hn]
 rw [if_pos hn,rSome_eq (by omega) (by omega) (by omega)]
 simp [hs,hl,hn]
theorem cut_none_iff {op : List Int} {hi : Bool} : cutS pts ch op hi = none↔∀ S ∈ shortestOf (numsL pts.length),shortS pts ch op S hi≤0:=by
 unfold cutS
 rw [List.find?_eq_none]
 constructor
 ·intro h S hS
  have:=h S hS
  unfold cutP at this
  rw [decide_eq_true_eq] at this;omega
 ·intro h S hS hc
  have:=h S hS
  have:=of_decide_eq_true hc
  omega
theorem nums_in {n : Nat} {S : List Int} (h : S ∈ shortestOf (numsL n)) : ∀ p ∈ S,0≤p∧p < (n : Int):=fun p hp=>numsL_mem.1 ((uptoOf_mem h).2 p hp)
end
end Go.Proofs.YtclkbedbocnpkaaGreatDoor.C

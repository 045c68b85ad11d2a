/- A part of the proof: the walks of the functions that it reaches. TIGHT. -/
import Derived.Test.YtclkbedbocnpkaaGreatDoorMSho11
set_option linter.unusedVariables false
set_option linter.unusedSimpArgs false
namespace Go.Proofs.YtclkbedbocnpkaaGreatDoor.C
open Go.RowKit Go.Proofs.YtclkbedbocnpkaaGreatDoorW.PrintWords Go.Proofs.YtclkbedbocnpkaaGreatDoorW.PrintLast Go.Proofs.YtclkbedbocnpkaaGreatDoorW.PrintMore
set_option linter.unusedVariables false
set_option linter.unusedSimpArgs false
set_option maxHeartbeats 16000000
set_option maxRecDepth 100000
def q8_Flows.l0 : Nat→List Int→Int→List (S37)→List (S65)→Option (Bool)
 | 0,_,_,_,_=>none
 | k + 1,x1,x5,x278000,x278001=>if x5 < (x1.length : Int) then (if 0≤x5 then ((q8_cups.f (rd x1 x5)).bind fun t279=>(if t279 = true then (q8_Flows.l0 k x1 (wrap64 (x5 + 1)) x278000 x278001) else (some false))) else (none)) else (some ((x1.length : Int) == (x278001.length : Int)))
def q8_Flows.f (k : Nat) (l0_0 : List (S37)) (l0_1 : List (S65)) (l1 : List Int) : Option (Bool):=q8_Flows.l0 k l1 0 l0_0 l0_1
theorem q8_Flows.calls (k : Nat) (A0_0 : Option Addr) (c0_0 : Nat) (l0_0 : List (S37)) (A0_1 : Option Addr) (c0_1 : Nat) (l0_1 : List (S65)) (A1 : Option Addr) (c1 : Nat) (l1 : List Int) (r : Bool) (w : World) (hr0_0 : Kd.C k37 w A0_0 l0_0.length l0_0) (hc0_0 : l0_0.length≤c0_0) (hr0_1 : Kd.C k65 w A0_1 l0_1.length l0_1) (hc0_1 : l0_1.length≤c0_1) (hr1 : Kd.C (Kd.int .i64) w A1 l1.length l1) (hc1 : l1.length≤c1) (h : q8_Flows.f k l0_0 l0_1 l1 = some r) :
 Calls Tryz.prog 19 #[.agg #[.slice A0_0 l0_0.length c0_0,.slice A0_1 l0_1.length c0_1],.slice A1 l1.length c1] w fun e w'=>e = .returned (.bool r)∧Below w.heap.size w w':=by
 have hu25:=Tryz.underlying25
 have HR0_0:=am hr0_0
 have HC0_0:=am hc0_0
 clear hr0_0 hc0_0
 have HR0_1:=am hr0_1
 have HC0_1:=am hc0_1
 clear hr0_1 hc0_1
 have HR1:=am hr1
 have HC1:=am hc1
 clear hr1 hc1
 have HB:=am (Below.refl w.heap.size w)
 have H : (q8_Flows.l0 k l1 0 l0_0 l0_1) = some r:=h
 clear h
 replace H':=am H
 go_enter Tryz.func19,Tryz.ntmps19
 go_wp2_with (first | ((refine ga_dst (N:=2) rfl ?_);refine box_event rfl (N:=2) rfl (cs:=#[.slice A0_0 l0_0.length c0_0,.slice A0_1 l0_1.length c0_1]) (t:=25) ?hr ?_;(case hr=>go_simp;try rfl);intro gb277 hg w3 hbox hb;have BK277:=am (hbox);have GW277:=am (ge_new (HB.out) hg);have GE277:=am (ge_new (HB.out) hg);replace HB:=am (below_step (HB.out) hb);clear hb hbox hg))
 go_loopg [5] k (fun kq v5 w'=>∃ (x5_1 : Int),v5 = .int .i64 x5_1∧Aside0 (q8_Flows.l0 kq l1 x5_1 l0_0 l0_1 = some r)∧Aside0 (kq≤k)∧Aside0 (w'.heap[gb277]? = some (.cells #[(.slice A0_0 l0_0.length c0_0),(.slice A0_1 l0_1.length c0_1)] 25 (0,0)))∧Aside0 (Below w.heap.size w w'))
 case atStart=>exact ⟨(0),(by first | rfl | (simp;done) | (simp [*];done)),H',⟨Nat.le_refl _⟩,⟨BK277.out⟩,⟨HB.out⟩⟩
 case round =>
  clear H'
  obtain ⟨x5_1,rfl,HA,HK1,BK277,HB⟩:=hrel
  cases gk with
  | zero=>exact absurd HA.out (by simp [q8_Flows.l0])
  | succ k1 =>
   have H:=HA.out
   clear HA
   simp only [q8_Flows.l0] at H
   by_cases c4 : x5_1 < (l1.length : Int)
   case neg =>
    rw [if_neg c4] at H
    have c4b0 : decide (x5_1 < (l1.length : Int)) = false:=decide_eq_false c4
    clear c4
    obtain rfl:=Option.some.inj H
    obtain ⟨hcz8_0,hcz8_1⟩:=cO2 BK277.out
    go_wp2
    go_ret
    exact ⟨by first | rfl | (simp [*]<;>rfl),HB.out⟩
   rw [if_pos c4] at H
   have c4b0 : decide (x5_1 < (l1.length : Int)) = true:=decide_eq_true c4
   clear c4
   by_cases c5 : 0≤x5_1
   case neg =>
    rw [if_neg c5] at H
    exact absurd H (by simp)
   rw [if_pos c5] at H
   have c5b0 : decide (0≤x5_1) = true:=decide_eq_true c5
   clear c5
   replace H:=obm H
   obtain ⟨t279,A60,H⟩:=H
   replace H : (if t279 = true then (q8_Flows.l0 k1 l1 (wrap64 (x5_1 + 1)) l0_0 l0_1) else (some false)) = some r:=H
   have A6:=am A60
   clear A60
   by_cases c7 : t279 = true
   ·subst c7
    replace H : (q8_Flows.l0 k1 l1 (wrap64 (x5_1 + 1)) l0_0 l0_1) = some r:=by rw [if_pos rfl] at H;exact H
    replace H':=am H
    have p278 : 0≤(x5_1 : Int):=of_decide_eq_true (by assumption)
    have q278 : x5_1 < (l1.length : Int):=of_decide_eq_true (by assumption)
    obtain ⟨ad278,e278,hx278_0⟩:=Kd.at_int HR1.out x5_1 p278 q278
    cases e278
    replace hx278_0:=(HB.out.cell (wbl hx278_0)).trans hx278_0
    replace p278:=eq_true p278
    replace q278:=eq_true q278
    go_wp2_with (first | ((with_reducible refine ga_callee (f:=62) rfl ?_);refine goesL_ (some 16) rfl rfl Tryz.func62 (by kernel_rfl) rfl #[.int .i64 (rd l1 x5_1)] rfl (by (try simp only [List.map_toArray,List.map_cons,List.map_nil]);first | done | rfl | (simp only [List.length_drop,List.length_take];rfl)) ?_;(refine (q8_cups.calls (rd l1 x5_1) true _ A6.out).mono ?_);rintro e w' ⟨rfl,⟨nd,rfl⟩⟩;refine ⟨_,rfl,?_⟩))
    go_roundg k1
    case measure=>have:=HK1.out;omega
    case rel=>exact ⟨(wrap64 (x5_1 + 1)),(by first | rfl | (simp;done) | (simp [*];done)),H',⟨by have:=HK1.out;omega⟩,⟨BK277.out⟩,⟨pw_below_drewN HB.out _⟩⟩
   ·replace c7:=Bool.eq_false_iff.mpr c7
    subst c7
    replace H : (some false) = some r:=by rw [if_neg (show ¬ (false = true) by decide)] at H;exact H
    obtain rfl:=Option.some.inj H
    have p278 : 0≤(x5_1 : Int):=of_decide_eq_true (by assumption)
    have q278 : x5_1 < (l1.length : Int):=of_decide_eq_true (by assumption)
    obtain ⟨ad278,e278,hx278_0⟩:=Kd.at_int HR1.out x5_1 p278 q278
    cases e278
    replace hx278_0:=(HB.out.cell (wbl hx278_0)).trans hx278_0
    replace p278:=eq_true p278
    replace q278:=eq_true q278
    go_wp2_with (first | ((with_reducible refine ga_callee (f:=62) rfl ?_);refine goesL_ (some 16) rfl rfl Tryz.func62 (by kernel_rfl) rfl #[.int .i64 (rd l1 x5_1)] rfl (by (try simp only [List.map_toArray,List.map_cons,List.map_nil]);first | done | rfl | (simp only [List.length_drop,List.length_take];rfl)) ?_;(refine (q8_cups.calls (rd l1 x5_1) false _ A6.out).mono ?_);rintro e w' ⟨rfl,⟨nd,rfl⟩⟩;refine ⟨_,rfl,?_⟩))
    go_ret
    exact ⟨by first | rfl | (simp [*]<;>rfl),pw_below_drewN HB.out _⟩
set_option linter.unusedSimpArgs false
end Go.Proofs.YtclkbedbocnpkaaGreatDoor.C
namespace Go.Proofs.YtclkbedbocnpkaaGreatDoor.C
open Go Go.RowKit Go.Proofs.YtclkbedbocnpkaaGreatDoorW.PrintWords Go.Proofs.YtclkbedbocnpkaaGreatDoorW.PrintLast Go.Proofs.YtclkbedbocnpkaaGreatDoorW.PrintMore
set_option linter.unusedVariables false
set_option linter.unusedSimpArgs false
set_option maxHeartbeats 16000000
set_option maxRecDepth 100000
section
variable {pts : List Pt} {ch : List Ch}
def flowsS (ch : List Ch) (fl : List Int) : Bool:=decide (fl.length = ch.length) && fl.all cupS
def capC (op : List Int) (x : Ch) (i : Int) : Int:=if openC op x i = true then x.f2 else 0
def capsS (op fl : List Int) : Int→List Ch→Bool
 | _,[]=>true
 | i,x :: cs=>decide (rd fl i≤capC op x i) && capsS op fl (i + 1) cs
def netF (fl : List Int) (p : Int) : Int→List Ch→Int
 | _,[]=>0
 | i,x :: cs=>(if x.f1 = p then rd fl i else 0) - (if x.f0 = p then rd fl i else 0) + netF fl p (i + 1) cs
def leftP (p : Pt) : Int:=p.f0.f0 - p.f1
def fedP (pts : List Pt) (ch : List Ch) (fl : List Int) (p : Nat) : Bool:=decide (0≤leftP (rd_T37 pts (p : Int)) + netF fl (p : Int) 0 ch)
def feedsS (pts : List Pt) (ch : List Ch) (op fl : List Int) : Bool:=capsS op fl 0 ch && allFrom (fedP pts ch fl) pts.length 0
theorem flows_go {fl : List Int} (hl : fl.length≤1000) : ∀ (rest : List Int) (k i : Nat),fl.drop i = rest→rest.length < k→q8_Flows.l0 k fl (i : Int) pts ch = some (rest.all cupS && ((fl.length : Int) == (ch.length : Int)))
 | _,0,_,_,hk=>by omega
 | [],k + 1,i,hd,_=>by
  have : fl.length≤i:=by have:=congrArg List.length hd;simp at this;omega
  unfold q8_Flows.l0
  rw [if_neg (by omega)];rfl
 | x :: rest,k + 1,i,hd,hk=>by
  obtain ⟨hd2,hlt⟩:=drop_succ hd
  have ih:=flows_go hl rest k (i + 1) hd2 (by simp at hk;omega)
  unfold q8_Flows.l0
  rw [if_pos (by omega),if_pos (by omega),getD_of_drop hd,rcups_eq,wr (by omega) (by omega),show (i : Int) + 1 = ((i + 1 : Nat) : Int) from rfl,ih]
  simp only [Option.bind_some,List.all_cons]
  cases cupS x<;>simp
theorem rFlows_eq {fl : List Int} (hl : fl.length≤1000) {k : Nat} (hk : 1001≤k) : q8_Flows.f k pts ch fl = some (flowsS ch fl):=by
 unfold q8_Flows.f
 rw [show (0 : Int) = ((0 : Nat) : Int) from rfl,flows_go hl fl k 0 rfl (by omega)]
 unfold flowsS
 congr 1
 rw [Bool.and_comm]
 congr 1
 rw [Bool.eq_iff_iff,decide_eq_true_eq,beq_iff_eq];omega
theorem bad_eq {fl : List Int} : cf_Feeds1.f fl = some (!fl.all cupS):=by
 unfold cf_Feeds1.f
 rw [anyM_eq (p:=fun x=>!cupS x) fun x _=>by unfold ga_Feeds_1.f;rw [isCups_eq];rfl,any_not]
theorem neg_eq {L : List Int} : cf_Feeds2.f L = some (L.any fun x=>decide (x < 0)):=by
 unfold cf_Feeds2.f
 exact anyM_eq fun x _=>rfl
theorem getD_set (l : List Int) (i j : Nat) (v : Int) (h : i < l.length) : (l.set i v).getD j 0 = if i = j then v else l.getD j 0:=by
 rw [List.getD_eq_getElem?_getD,List.getElem?_set,List.getD_eq_getElem?_getD]
 split
 ·rfl
 ·rfl
theorem flow_bd {fl : List Int} (hf : fl.all cupS = true) (i : Nat) : 0≤rd fl (i : Int)∧rd fl (i : Int)≤10000:=by
 show 0≤fl.getD i 0∧fl.getD i 0≤10000
 rw [List.getD_eq_getElem?_getD]
 cases h : fl[i]? with
 | none=>simp
 | some x=>exact of_decide_eq_true (List.all_eq_true.1 hf x (List.mem_of_getElem? h))
theorem any_neg {L : List Int} {P : Nat→Bool} (h : ∀ j,j < L.length→P j = decide (0≤L.getD j 0)) : (!L.any fun x=>decide (x < 0)) = allFrom P L.length 0:=by
 rw [Bool.eq_iff_iff,allFrom_iff,Bool.not_eq_true',List.any_eq_false]
 constructor
 ·intro a j _ hj
  rw [h j (by omega)]
  have:=a (L[j]'(by omega)) (List.getElem_mem _)
  rw [List.getD_eq_getElem?_getD,List.getElem?_eq_getElem (by omega)]
  simp at this ⊢;exact this
 ·intro a x hx
  obtain ⟨j,hj,rfl⟩:=List.mem_iff_getElem.1 hx
  have:=a j (Nat.zero_le _) (by omega)
  rw [h j hj,List.getD_eq_getElem?_getD,List.getElem?_eq_getElem hj] at this
  simp at this ⊢;exact this
theorem allFrom_congr {P Q : Nat→Bool} : ∀ {d i : Nat},(∀ j,i≤j→j < i + d→P j = Q j)→allFrom P d i = allFrom Q d i
 | 0,_,_=>rfl
 | d + 1,i,h=>by
  unfold allFrom
  rw [h i (Nat.le_refl _) (by omega),allFrom_congr fun j h1 h2=>h j (by omega) (by omega)]
theorem feeds_l1 (h4 : ch.all (chS pts.length) = true) (hc : ch.length≤20) (hp : pts.length≤1000) {op fl : List Int} (ho : op.length≤1000) (hf : fl.all cupS = true) (hfl : fl.length = ch.length) : ∀ (rest : List Ch) (k i : Nat) (L : List Int),ch.drop i = rest→L.length = pts.length→(∀ j,-20000 * ((i : Int) + 1)≤L.getD j 0∧L.getD j 0≤20000 * ((i : Int) + 1))→rest.length + 1001 < k→
 ga_Feeds.l1 k fl L ch (ch.length : Int) (i : Int) pts ch op = some (capsS op fl (i : Int) rest && allFrom (fun p=>decide (0≤L.getD p 0 + netF fl (p : Int) (i : Int) rest)) pts.length 0,0)
 | _,0,_,_,_,_,_,hk=>by omega
 | [],k + 1,i,L,hd,hL,_,_=>by
  have : ch.length≤i:=by have:=congrArg List.length hd;simp at this;omega
  unfold ga_Feeds.l1
  rw [if_neg (by omega),neg_eq]
  simp only [Option.bind_some,capsS,Bool.true_and]
  rw [any_neg (P:=fun p=>decide (0≤L.getD p 0 + netF fl (p : Int) (i : Int) [])) (fun j _=>by simp [netF]),hL]
 | x :: rest,k + 1,i,L,hd,hL,hb,hk=>by
  obtain ⟨hd2,hlt⟩:=drop_succ hd
  have hx : x ∈ ch:=by
   have : x ∈ ch.drop i:=by rw [hd];exact List.mem_cons_self
   exact List.mem_of_mem_drop this
  obtain ⟨⟨a0,a1⟩,⟨b0,b1⟩,hne,-,-⟩:=chS_iff.1 (List.all_eq_true.1 h4 x hx)
  obtain ⟨f0,f1⟩:=flow_bd hf i
  obtain ⟨u,hu⟩ : ∃ u : Nat,x.f0 = (u : Int):=⟨x.f0.toNat,by omega⟩
  obtain ⟨v,hv⟩ : ∃ v : Nat,x.f1 = (v : Int):=⟨x.f1.toNat,by omega⟩
  have hbu:=hb u
  have hbv:=hb v
  unfold ga_Feeds.l1
  rw [if_pos (by omega),if_pos (by omega),if_pos (by omega),if_pos (by omega),carries_eq ho (by omega) hd]
  simp only [Option.bind_some]
  show _ = some (decide (rd fl (i : Int)≤capC op x (i : Int)) && capsS op fl ((i : Int) + 1) rest && _,0)
  rw [show (if openC op x (i : Int) = true then x.f2 else 0) = capC op x (i : Int) from rfl,rdT_nat ch i x rest hd]
  by_cases hcap : rd fl (i : Int)≤capC op x (i : Int)
  case neg=>rw [if_pos (by omega),decide_eq_false hcap];rfl
  rw [if_neg (by omega),decide_eq_true hcap,Bool.true_and,hu,hv,if_pos (by omega),if_pos (by omega)]
  rw [if_pos (by omega),if_pos (by omega),wr (x:=(i : Int) + 1) (by omega) (by omega),show (i : Int) + 1 = ((i + 1 : Nat) : Int) from rfl]
  rw [show ((u : Nat) : Int).toNat = u from rfl,show ((v : Nat) : Int).toNat = v from rfl]
  have huv : u ≠ v:=fun e=>hne (by omega)
  have e1 : rd L (u : Int) = L.getD u 0:=rfl
  rw [e1,wr (x:=L.getD u 0 - rd fl (i : Int)) (by omega) (by omega)]
  have e2 : rd (L.set u (L.getD u 0 - rd fl (i : Int))) (v : Int) = L.getD v 0:=by
   show (L.set u _).getD v 0 = _
   rw [getD_set _ _ _ _ (by omega),if_neg huv]
  rw [e2,wr (x:=L.getD v 0 + rd fl (i : Int)) (by omega) (by omega)]
  have e3 : ∀ j : Nat,((L.set u (L.getD u 0 - rd fl (i : Int))).set v (L.getD v 0 + rd fl (i : Int))).getD j 0 = L.getD j 0 + (if x.f1 = (j : Int) then rd fl (i : Int) else 0) - (if x.f0 = (j : Int) then rd fl (i : Int) else 0):=by
   intro j
   rw [getD_set _ _ _ _ (by simp;omega),getD_set _ _ _ _ (by omega),hu,hv]
   by_cases c1 : v = j
   ·have n1 : ((v : Nat) : Int) = (j : Int):=by omega
    have n2 : ¬ ((u : Nat) : Int) = (j : Int):=by omega
    rw [if_pos c1,if_pos n1,if_neg n2,c1];omega
   ·have n1 : ¬ ((v : Nat) : Int) = (j : Int):=by omega
    rw [if_neg c1,if_neg n1]
    by_cases c2 : u = j
    ·have n2 : ((u : Nat) : Int) = (j : Int):=by omega
     rw [if_pos c2,if_pos n2,c2];omega
    ·have n2 : ¬ ((u : Nat) : Int) = (j : Int):=by omega
     rw [if_neg c2,if_neg n2];omega
  rw [feeds_l1 h4 hc hp ho hf hfl rest k (i + 1) _ hd2 (by simp [hL]) (fun j=>by
   have:=hb j
   rw [e3 j]
   split<;>split<;>omega) (by simp at hk;omega)]
  congr 3
  refine allFrom_congr fun j _ hj=>?_
  rw [e3 j,decide_eq_decide]
  show _↔0≤L.getD j 0 + ((if x.f1 = (j : Int) then rd fl (i : Int) else 0) - (if x.f0 = (j : Int) then rd fl (i : Int) else 0) + netF fl (j : Int) ((i : Int) + 1) rest)
  rw [show ((i + 1 : Nat) : Int) = (i : Int) + 1 from rfl]
  omega
theorem feeds_l0 (h3 : pts.all ptS = true) (h4 : ch.all (chS pts.length) = true) (hc : ch.length≤20) (hp : pts.length≤1000) {op fl : List Int} (ho : op.length≤1000) (hf : fl.all cupS = true) (hfl : fl.length = ch.length) : ∀ (rest : List Pt) (k i : Nat) (L : List Int),pts.drop i = rest→L.length = pts.length→(∀ j,L.getD j 0 = if j < i then leftP (rd_T37 pts (j : Int)) else 0)→rest.length + 1100 < k→
 ga_Feeds.l0 k fl L pts (pts.length : Int) (i : Int) pts ch pts ch op = some (feedsS pts ch op fl,0)
 | _,0,_,_,_,_,_,hk=>by omega
 | [],k + 1,i,L,hd,hL,hb,hk=>by
  have : pts.length≤i:=by have:=congrArg List.length hd;simp at this;omega
  unfold ga_Feeds.l0
  have bd : ∀ j,-20000≤L.getD j 0∧L.getD j 0≤20000:=fun j=>by
   rw [hb j]
   by_cases hj : j < pts.length
   ·rw [if_pos (by omega)]
    have:=ptS_iff.1 (pt_in h3 (p:=(j : Int)) (by omega) (by omega))
    unfold leftP;omega
   ·have : L.getD j 0 = 0:=by rw [List.getD_eq_getElem?_getD,List.getElem?_eq_none (by omega)];rfl
    rw [← hb j,this];omega
  rw [if_neg (by omega),show (0 : Int) = ((0 : Nat) : Int) from rfl,feeds_l1 h4 hc hp ho hf hfl ch k 0 L rfl hL (fun j=>by have:=bd j;omega) (by omega)]
  unfold feedsS
  congr 3
  refine allFrom_congr fun j _ hj=>?_
  unfold fedP
  rw [hb j,if_pos (by omega)];rfl
 | x :: rest,k + 1,i,L,hd,hL,hb,hk=>by
  obtain ⟨hd2,hlt⟩:=drop_succ hd
  unfold ga_Feeds.l0
  have hq:=rdP_nat pts i x rest hd
  have hx:=ptS_iff.1 (pt_in h3 (p:=(i : Int)) (by omega) (by omega))
  rw [hq] at hx
  rw [if_pos (by omega),if_pos (by omega),if_pos (by omega),if_pos (by omega),hq,wr (x:=x.f0.f0 - x.f1) (by omega) (by omega),wr (x:=(i : Int) + 1) (by omega) (by omega),show (i : Int) + 1 = ((i + 1 : Nat) : Int) from rfl]
  refine feeds_l0 h3 h4 hc hp ho hf hfl rest k (i + 1) _ hd2 (by simp [hL]) (fun j=>?_) (by simp at hk;omega)
  rw [show ((i : Nat) : Int).toNat = i from rfl,getD_set _ _ _ _ (by omega),hb j]
  by_cases c : i = j
  ·subst c;rw [if_pos rfl,if_pos (by omega),hq];rfl
  ·rw [if_neg c]
   by_cases d : j < i
   ·rw [if_pos d,if_pos (by omega)]
   ·rw [if_neg d,if_neg (by omega)]
theorem gFeeds_eq (hp : pts.length≤1000) (hc : ch.length≤1000) {op fl : List Int} (ho : op.length≤20) {k : Nat} (hk : 3000≤k) : ga_Feeds.f k pts ch op fl = some (if (openS pts ch op && flowsS ch fl) = true then (feedsS pts ch op fl,0) else (false,2)):=by
 obtain ⟨k,rfl⟩ : ∃ m,k = m + 1:=⟨k - 1,by omega⟩
 unfold ga_Feeds.f openS flowsS
 rw [isNet_eq hp hc (by omega)]
 simp only [Option.bind_some]
 by_cases hn : netS pts ch = true
 case neg=>rw [if_neg hn];simp [ga_Feeds.j0,hn]
 obtain ⟨h1,h2,h3,h4,h5⟩:=netS_iff.1 hn
 rw [if_pos hn,areGates_eq hc (by omega) (by omega)]
 simp only [Option.bind_some]
 by_cases hs : someS ch op = true
 case neg=>rw [if_neg hs];simp [ga_Feeds.j0,hs]
 rw [if_pos hs]
 by_cases hl : fl.length = ch.length
 case neg=>rw [if_neg (by omega)];simp [ga_Feeds.j0,hl]
 rw [if_pos (by omega),bad_eq]
 simp only [Option.bind_some,ga_Feeds.j0]
 by_cases hf : fl.all cupS = true
 case neg=>simp [hf]
 simp only [hn,hs,hl,hf,decide_true,Bool.and_self,if_true,Bool.not_true,Bool.false_eq_true,if_false]
 have e:=feeds_l0 h3 h4 (by omega) hp (show op.length≤1000 by omega) hf hl pts k 0 (List.replicate ((pts.length : Int) : Int).toNat 0) rfl (by simp) (fun j=>by
  rw [if_neg (by omega),List.getD_eq_getElem?_getD,List.getElem?_replicate]
  split<;>rfl) (by omega)
 rw [if_pos (by omega),if_pos (by omega)]
 exact e
end
end Go.Proofs.YtclkbedbocnpkaaGreatDoor.C
namespace Go.Proofs.YtclkbedbocnpkaaGreatDoor.C
open Go.RowKit Go.Proofs.YtclkbedbocnpkaaGreatDoorW.PrintWords Go.Proofs.YtclkbedbocnpkaaGreatDoorW.PrintLast Go.Proofs.YtclkbedbocnpkaaGreatDoorW.PrintMore
set_option linter.unusedVariables false
set_option linter.unusedSimpArgs false
set_option maxHeartbeats 16000000
set_option maxRecDepth 100000
mutual
def q8_Before.l0 : Nat→List Int→List Int→Int→Option (Bool)
 | 0,_,_,_=>none
 | k + 1,x0,x1,x5=>if x5 < (x0.length : Int) then (q8_Before.j1 k x0 x1 x5 (decide (x5 < (x1.length : Int)))) else (q8_Before.j1 k x0 x1 x5 false)
def q8_Before.j1 : Nat→List Int→List Int→Int→Bool→Option (Bool)
 | 0,_,_,_,_=>none
 | k + 1,x0,x1,x5,x15=>if x15 = true then (if 0≤x5 then (if x5 < (x0.length : Int) then (if x5 < (x1.length : Int) then (if (rd x0 x5) = (rd x1 x5) then (q8_Before.l0 k x0 x1 (wrap64 (x5 + 1))) else (some (decide ((rd x0 x5) < (rd x1 x5))))) else (none)) else (none)) else (none)) else (some (decide ((x0.length : Int) < (x1.length : Int))))
end
def q8_Before.f (k : Nat) (l0 : List Int) (l1 : List Int) : Option (Bool):=q8_Before.l0 k l0 l1 0
theorem q8_Before.calls (k : Nat) (A0 : Option Addr) (c0 : Nat) (l0 : List Int) (A1 : Option Addr) (c1 : Nat) (l1 : List Int) (r : Bool) (w : World) (hr0 : Kd.C (Kd.int .i64) w A0 l0.length l0) (hc0 : l0.length≤c0) (hr1 : Kd.C (Kd.int .i64) w A1 l1.length l1) (hc1 : l1.length≤c1) (h : q8_Before.f k l0 l1 = some r) :
 Calls Tryz.prog 28 #[.slice A0 l0.length c0,.slice A1 l1.length c1] w fun e w'=>e = .returned (.bool r)∧Drawn0 w w':=by
 have HR0:=am hr0
 have HC0:=am hc0
 clear hr0 hc0
 have HR1:=am hr1
 have HC1:=am hc1
 clear hr1 hc1
 have H : (q8_Before.l0 k l0 l1 0) = some r:=h
 clear h
 replace H':=am H
 go_enter Tryz.func28,Tryz.ntmps28
 go_wp2
 repeat (go_quiet (fail);try go_wp2)
 go_loopg [5] k (fun kq v5 w'=>∃ (x5_1 : Int),v5 = .int .i64 x5_1∧Aside0 (q8_Before.l0 kq l0 l1 x5_1 = some r)∧Aside0 (kq≤k)∧Drawn0 w w')
 case atStart=>exact ⟨(0),(by first | rfl | (simp;done) | (simp [*];done)),H',⟨Nat.le_refl _⟩,by repeat (first | exact Drawn0.refl _ | apply Drawn0.step)⟩
 case round =>
  clear H'
  obtain ⟨x5_1,rfl,HA,HK1,⟨m1,rfl⟩⟩:=hrel
  cases gk with
  | zero=>exact absurd HA.out (by simp [q8_Before.l0])
  | succ k1 =>
   have H:=HA.out
   clear HA
   simp only [q8_Before.l0] at H
   have HC3:=am H
   clear H
   go_upto_region 2 with (fail)
   repeat (go_quiet (fail);go_upto_region 2 with (fail))
   go_cut [15] (fun v15 wc=>∃ (kq : Nat) (x15_2 : Bool),v15 = .bool x15_2∧Aside0 (q8_Before.j1 kq l0 l1 x5_1 x15_2 = some r)∧Aside0 (kq≤k1)∧Drawn0 w wc)
   case first =>
    have H:=HC3.out
    clear HC3
    by_cases c4 : x5_1 < (l0.length : Int)
    ·rw [if_pos c4] at H
     have c4b0 : decide (x5_1 < (l0.length : Int)) = true:=decide_eq_true c4
     clear c4
     (first | rw [c4b0] | (simp only [i64_w,i32_w];rw [c4b0]) | skip)
     replace H':=am H
     go_wp2
     repeat (go_quiet (fail);try go_wp2)
     go_meet
     case rel=>exact ⟨_,(decide (x5_1 < (l1.length : Int))),(by first | rfl | (simp;done) | (simp [*];done)),H',⟨by have:=HK1.out;first | omega | exact Nat.le_refl _⟩,by repeat (first | exact Drawn0.refl _ | apply Drawn0.step)⟩
    ·rw [if_neg c4] at H
     have c4b0 : decide (x5_1 < (l0.length : Int)) = false:=decide_eq_false c4
     clear c4
     (first | rw [c4b0] | (simp only [i64_w,i32_w];rw [c4b0]) | skip)
     replace H':=am H
     go_wp2
     repeat (go_quiet (fail);try go_wp2)
     go_meet
     case rel=>exact ⟨_,(false),(by first | rfl | (simp;done) | (simp [*];done)),H',⟨by have:=HK1.out;first | omega | exact Nat.le_refl _⟩,by repeat (first | exact Drawn0.refl _ | apply Drawn0.step)⟩
   case rest =>
    clear HC3
    obtain ⟨kq,x15_2,rfl,HA,HJ2,⟨mc2,rfl⟩⟩:=hcut
    cases kq with
    | zero=>exact absurd HA.out (by simp [q8_Before.j1])
    | succ kj2 =>
     have H:=HA.out
     clear HA
     simp only [q8_Before.j1] at H
     by_cases c5 : x15_2 = true
     case neg =>
      replace c5:=Bool.eq_false_iff.mpr c5
      subst c5
      replace H : (some (decide ((l0.length : Int) < (l1.length : Int)))) = some r:=by rw [if_neg (show ¬ (false = true) by decide)] at H;exact H
      obtain rfl:=Option.some.inj H
      go_wp2
      repeat (go_quiet (fail);try go_wp2)
      go_ret
      exact ⟨by first | rfl | (simp;done) | (simp [*];done),by repeat (first | exact Drawn0.refl _ | apply Drawn0.step)⟩
     subst c5
     replace H : (if 0≤x5_1 then (if x5_1 < (l0.length : Int) then (if x5_1 < (l1.length : Int) then (if (rd l0 x5_1) = (rd l1 x5_1) then (q8_Before.l0 kj2 l0 l1 (wrap64 (x5_1 + 1))) else (some (decide ((rd l0 x5_1) < (rd l1 x5_1))))) else (none)) else (none)) else (none)) = some r:=by rw [if_pos rfl] at H;exact H
     by_cases c6 : 0≤x5_1
     case neg =>
      rw [if_neg c6] at H
      exact absurd H (by simp)
     rw [if_pos c6] at H
     have c6b0 : decide (0≤x5_1) = true:=decide_eq_true c6
     clear c6
     by_cases c7 : x5_1 < (l0.length : Int)
     case neg =>
      rw [if_neg c7] at H
      exact absurd H (by simp)
     rw [if_pos c7] at H
     have c7b0 : decide (x5_1 < (l0.length : Int)) = true:=decide_eq_true c7
     clear c7
     by_cases c8 : x5_1 < (l1.length : Int)
     case neg =>
      rw [if_neg c8] at H
      exact absurd H (by simp)
     rw [if_pos c8] at H
     have c8b0 : decide (x5_1 < (l1.length : Int)) = true:=decide_eq_true c8
     clear c8
     by_cases c9 : (rd l0 x5_1) = (rd l1 x5_1)
     ·rw [if_pos c9] at H
      have c9b0 : ((rd l0 x5_1) == (rd l1 x5_1)) = true:=beq_iff_eq.mpr c9
      have c9b1 : ((rd l0 x5_1) != (rd l1 x5_1)) = false:=bne_eq_false_iff_eq.mpr c9
      clear c9
      replace H':=am H
      have p412 : 0≤(x5_1 : Int):=of_decide_eq_true (by assumption)
      have q412 : x5_1 < (l0.length : Int):=of_decide_eq_true (by assumption)
      obtain ⟨ad412,e412,hx412_0⟩:=Kd.at_int HR0.out x5_1 p412 q412
      cases e412
      replace p412:=eq_true p412
      replace q412:=eq_true q412
      have p413 : 0≤(x5_1 : Int):=of_decide_eq_true (by assumption)
      have q413 : x5_1 < (l1.length : Int):=of_decide_eq_true (by assumption)
      obtain ⟨ad413,e413,hx413_0⟩:=Kd.at_int HR1.out x5_1 p413 q413
      cases e413
      replace p413:=eq_true p413
      replace q413:=eq_true q413
      go_wp2
      repeat (go_quiet (fail);try go_wp2)
      go_roundg kj2
      case measure=>have:=HK1.out;have:=HJ2.out;omega
      case rel=>exact ⟨(wrap64 (x5_1 + 1)),(by first | rfl | (simp;done) | (simp [*];done)),H',⟨by have:=HK1.out;have:=HJ2.out;omega⟩,by repeat (first | exact Drawn0.refl _ | apply Drawn0.step)⟩
     ·rw [if_neg c9] at H
      have c9b0 : ((rd l0 x5_1) == (rd l1 x5_1)) = false:=beq_eq_false_iff_ne.mpr c9
      have c9b1 : ((rd l0 x5_1) != (rd l1 x5_1)) = true:=bne_iff_ne.mpr c9
      obtain rfl:=Option.some.inj H
      have p412 : 0≤(x5_1 : Int):=of_decide_eq_true (by assumption)
      have q412 : x5_1 < (l0.length : Int):=of_decide_eq_true (by assumption)
      obtain ⟨ad412,e412,hx412_0⟩:=Kd.at_int HR0.out x5_1 p412 q412
      cases e412
      replace p412:=eq_true p412
      replace q412:=eq_true q412
      have p413 : 0≤(x5_1 : Int):=of_decide_eq_true (by assumption)
      have q413 : x5_1 < (l1.length : Int):=of_decide_eq_true (by assumption)
      obtain ⟨ad413,e413,hx413_0⟩:=Kd.at_int HR1.out x5_1 p413 q413
      cases e413
      replace p413:=eq_true p413
      replace q413:=eq_true q413
      have p414 : 0≤(x5_1 : Int):=of_decide_eq_true (by assumption)
      have q414 : x5_1 < (l0.length : Int):=of_decide_eq_true (by assumption)
      obtain ⟨ad414,e414,hx414_0⟩:=Kd.at_int HR0.out x5_1 p414 q414
      obtain rfl : ad412 = ad414:=(by injection e414)
      replace p414:=eq_true p414
      replace q414:=eq_true q414
      have p415 : 0≤(x5_1 : Int):=of_decide_eq_true (by assumption)
      have q415 : x5_1 < (l1.length : Int):=of_decide_eq_true (by assumption)
      obtain ⟨ad415,e415,hx415_0⟩:=Kd.at_int HR1.out x5_1 p415 q415
      obtain rfl : ad413 = ad415:=(by injection e415)
      replace p415:=eq_true p415
      replace q415:=eq_true q415
      go_wp2
      repeat (go_quiet (fail);try go_wp2)
      go_ret
      exact ⟨by first | rfl | (simp;done) | (simp [*];done),by repeat (first | exact Drawn0.refl _ | apply Drawn0.step)⟩
end Go.Proofs.YtclkbedbocnpkaaGreatDoor.C
namespace Go.Proofs.YtclkbedbocnpkaaGreatDoor.C
open Go Go.RowKit Go.Proofs.YtclkbedbocnpkaaGreatDoorW.PrintWords Go.Proofs.YtclkbedbocnpkaaGreatDoorW.PrintLast Go.Proofs.YtclkbedbocnpkaaGreatDoorW.PrintMore
set_option linter.unusedVariables false
set_option linter.unusedSimpArgs false
set_option maxHeartbeats 16000000
set_option maxRecDepth 100000
def lexB : List Int→List Int→Bool
 | a :: ra,b :: rb=>if a = b then lexB ra rb else decide (a < b)
 | ra,rb=>decide (ra.length < rb.length)
theorem lexB_irr : ∀ a : List Int,lexB a a = false
 | []=>rfl
 | a :: ra=>by unfold lexB;rw [if_pos rfl];exact lexB_irr ra
theorem lexB_asym : ∀ {a b : List Int},lexB a b = true→lexB b a = false
 | [],[],h=>by simp [lexB] at h
 | [],b :: rb,h=>by simp [lexB]
 | a :: ra,[],h=>by simp [lexB] at h
 | a :: ra,b :: rb,h=>by
  unfold lexB at h ⊢
  by_cases e : a = b
  ·rw [if_pos e] at h;rw [if_pos e.symm];exact lexB_asym h
  ·rw [if_neg e] at h;rw [if_neg (Ne.symm e)]
   have:=of_decide_eq_true h
   exact decide_eq_false (by omega)
theorem before_go {x y : List Int} (hx : x.length≤100000) (hy : y.length≤100000) : ∀ (r s : List Int) (k i : Nat),x.drop i = r→y.drop i = s→i≤x.length→i≤y.length→2 * r.length + 2≤k→
 q8_Before.l0 k x y (i : Int) = some (lexB r s)
 | _,_,0,_,_,_,_,_,hk=>by omega
 | _,_,1,_,_,_,_,_,hk=>by omega
 | [],s,k + 2,i,h1,h2,l1,l2,_=>by
  have e1 : x.length = i:=by have:=congrArg List.length h1;simp at this;omega
  have e2 : s.length = y.length - i:=by have:=congrArg List.length h2;simp at this;omega
  unfold q8_Before.l0
  rw [if_neg (by omega)]
  unfold q8_Before.j1
  rw [if_neg (by simp)]
  congr 1
  unfold lexB
  rw [decide_eq_decide,e2];simp only [List.length_nil];omega
 | a :: r,[],k + 2,i,h1,h2,l1,l2,_=>by
  obtain ⟨_,hlt⟩:=drop_succ h1
  have e2 : y.length = i:=by have:=congrArg List.length h2;simp at this;omega
  unfold q8_Before.l0
  rw [if_pos (by omega),decide_eq_false (by omega)]
  unfold q8_Before.j1
  rw [if_neg (by simp)]
  congr 1
  unfold lexB
  rw [decide_eq_decide];simp only [List.length_nil,List.length_cons];omega
 | a :: r,b :: s,k + 2,i,h1,h2,l1,l2,hk=>by
  obtain ⟨d1,hlt1⟩:=drop_succ h1
  obtain ⟨d2,hlt2⟩:=drop_succ h2
  have ih:=before_go hx hy r s k (i + 1) d1 d2 (by omega) (by omega) (by simp at hk;omega)
  unfold q8_Before.l0
  rw [if_pos (by omega),decide_eq_true (by omega)]
  unfold q8_Before.j1
  rw [if_pos rfl,if_pos (by omega),if_pos (by omega),if_pos (by omega),getD_of_drop h1,getD_of_drop h2,wr (by omega) (by omega),show (i : Int) + 1 = ((i + 1 : Nat) : Int) from rfl,ih]
  show (if a = b then some (lexB r s) else some (decide (a < b))) = some (if a = b then lexB r s else decide (a < b))
  split<;>rfl
theorem before_eq {x y : List Int} (hx : x.length≤100000) (hy : y.length≤100000) {k : Nat} (hk : 2 * x.length + 2≤k) : q8_Before.f k x y = some (lexB x y):=before_go hx hy x y k 0 rfl rfl (by omega) (by omega) hk
def ahead (a b : List Int) : Prop:=a.length < b.length∨(a.length = b.length∧lexB a b = true)
theorem parts_lex : ∀ (rest : List Int) (m : Nat),rest.Pairwise (· < ·)→(partsOf rest [] m).Pairwise fun a b=>lexB a b = true
 | [],0,_=>by simp [partsOf]
 | _ :: _,0,_=>by simp [partsOf]
 | [],m + 1,_=>by simp [partsOf]
 | x :: rest,m + 1,h=>by
  obtain ⟨h1,h2⟩:=List.pairwise_cons.1 h
  unfold partsOf
  rw [partsOf_now rest ([] ++ [x]) m]
  refine List.pairwise_append.2 ⟨?_,parts_lex rest (m + 1) h2,?_⟩
  ·rw [List.pairwise_map]
   refine (parts_lex rest m h2).imp fun {a b} hab=>?_
   show lexB (x :: a) (x :: b) = true
   unfold lexB;rw [if_pos rfl];exact hab
  ·intro a ha b hb
   obtain ⟨a',_,e0⟩:=List.mem_map.1 ha
   subst e0
   obtain ⟨s,e,hl,hm⟩:=partsOf_mem rest [] (m + 1) b hb
   rw [List.nil_append] at e
   subst e
   cases b with
   | nil=>simp at hl
   | cons y s =>
    have:=h1 y (hm y List.mem_cons_self)
    show lexB (x :: a') (y :: s) = true
    unfold lexB
    rw [if_neg (by omega)];exact decide_eq_true this
theorem parts_len {rest : List Int} {m : Nat} {l : List Int} (h : l ∈ partsOf rest [] m) : l.length = m:=by
 obtain ⟨s,rfl,hl,_⟩:=partsOf_mem rest [] m l h
 simpa using hl
theorem upto_lex {xs : List Int} (h : xs.Pairwise (· < ·)) : ∀ k,(uptoOf xs k).Pairwise ahead
 | 0=>List.Pairwise.nil
 | k + 1=>by
  unfold uptoOf
  refine List.pairwise_append.2 ⟨upto_lex h k,?_,?_⟩
  ·refine List.Pairwise.imp_of_mem ?_ (parts_lex xs k h)
   intro a b ha hb hab
   exact .inr ⟨by rw [parts_len ha,parts_len hb],hab⟩
  ·intro a ha b hb
   exact .inl (by rw [parts_len hb];exact (uptoOf_mem ha).1)
theorem sub_of_sorted : ∀ {xs l : List Int},xs.Pairwise (· < ·)→l.Pairwise (· < ·)→(∀ z ∈ l,z ∈ xs)→l.Sublist xs
 | _,[],_,_,_=>List.nil_sublist _
 | [],a :: l,_,_,h=>absurd (h a List.mem_cons_self) (by simp)
 | x :: xs,a :: l,hx,hl,h=>by
  obtain ⟨x1,x2⟩:=List.pairwise_cons.1 hx
  obtain ⟨a1,a2⟩:=List.pairwise_cons.1 hl
  rcases List.mem_cons.1 (h a List.mem_cons_self) with e | e
  ·subst e
   refine (sub_of_sorted x2 a2 fun z hz=>?_).cons_cons _
   rcases List.mem_cons.1 (h z (List.mem_cons_of_mem _ hz)) with e | e
   ·have:=a1 z hz;omega
   ·exact e
  ·have hxa:=x1 a e
   refine (sub_of_sorted x2 hl fun z hz=>?_).cons _
   rcases List.mem_cons.1 (h z hz) with e2 | e2
   ·rcases List.mem_cons.1 hz with e3 | e3
    ·omega
    ·have:=a1 z e3;omega
   ·exact e2
theorem sub_parts : ∀ {xs l : List Int},l.Sublist xs→l ∈ partsOf xs [] l.length
 | xs,[],_=>by cases xs<;>simp [partsOf]
 | [],a :: l,h=>by cases h
 | x :: xs,a :: l,h=>by
  show a :: l ∈ partsOf (x :: xs) [] (l.length + 1)
  unfold partsOf
  rw [partsOf_now xs ([] ++ [x]) l.length]
  cases h with
  | cons _ h2=>exact List.mem_append_right _ (sub_parts h2)
  | cons_cons _ h2=>exact List.mem_append_left _ (List.mem_map.2 ⟨l,sub_parts h2,rfl⟩)
theorem upto_mem {xs l : List Int} (h : l.Sublist xs) : ∀ {k : Nat},l.length < k→l ∈ uptoOf xs k
 | 0,hk=>by omega
 | k + 1,hk=>by
  unfold uptoOf
  by_cases e : l.length = k
  ·exact List.mem_append_right _ (e ▸ sub_parts h)
  ·exact List.mem_append_left _ (upto_mem h (by omega))
theorem shortest_mem {xs l : List Int} (hx : xs.Pairwise (· < ·)) (hl : l.Pairwise (· < ·)) (h : ∀ z ∈ l,z ∈ xs) : l ∈ shortestOf xs:=by
 have hs:=sub_of_sorted hx hl h
 exact upto_mem hs (by have:=hs.length_le;omega)
theorem find_first {xs l : List Int} {P : List Int→Bool} (hx : xs.Pairwise (· < ·)) (hl : l ∈ shortestOf xs) (hP : P l = true) : ∃ S,(shortestOf xs).find? P = some S∧P S = true∧(S = l∨ahead S l):=by
 cases hf : (shortestOf xs).find? P with
 | none=>exact absurd hP (by simpa using List.find?_eq_none.1 hf l hl)
 | some S =>
  obtain ⟨hS,ra,rb,e,hn⟩:=List.find?_eq_some_iff_append.1 hf
  refine ⟨S,rfl,hS,?_⟩
  have hp:=upto_lex hx (xs.length + 1)
  have e2 : uptoOf xs (xs.length + 1) = ra ++ S :: rb:=e
  rw [e2] at hp
  rw [e] at hl
  rcases List.mem_append.1 hl with h | h
  ·exact absurd hP (by simpa using hn l h)
  ·rcases List.mem_cons.1 h with h | h
   ·exact .inl h.symm
   ·exact .inr ((List.pairwise_cons.1 (List.pairwise_append.1 hp).2.1).1 l h)
theorem not_ahead {S l : List Int} (h : S = l∨ahead S l) : S.length≤l.length∧(l.length = S.length→lexB l S = false):=by
 rcases h with rfl | h | ⟨h1,h2⟩
 ·exact ⟨Nat.le_refl _,fun _=>lexB_irr _⟩
 ·exact ⟨by omega,fun e=>by omega⟩
 ·exact ⟨by omega,fun _=>lexB_asym h2⟩
section
variable {pts : List Pt} {ch : List Ch}
theorem sum_one (a f : Int) : ∀ {S : List Int},S.Pairwise (· < ·)→(S.map fun p=>if a = p then f else 0).sum = if a ∈ S then f else 0
 | [],_=>by simp
 | p :: S,h=>by
  obtain ⟨h1,h2⟩:=List.pairwise_cons.1 h
  rw [List.map_cons,List.sum_cons,sum_one a f h2]
  by_cases c : a = p
  ·have : a ∉ S:=fun m=>by have:=h1 a m;omega
   rw [if_pos c,if_neg this,if_pos (by simp [c])];omega
  ·rw [if_neg c]
   by_cases d : a ∈ S
   ·rw [if_pos d,if_pos (by simp [d])];omega
   ·rw [if_neg d,if_neg (by simp [c,d])];omega
theorem sum_three (f g h : Int→Int) : ∀ (S : List Int),(S.map fun p=>f p - g p + h p).sum = (S.map f).sum - (S.map g).sum + (S.map h).sum
 | []=>by simp
 | p :: S=>by simp only [List.map_cons,List.sum_cons];rw [sum_three f g h S];omega
theorem sum_le (f g : Int→Int) : ∀ (S : List Int),(∀ p ∈ S,f p≤g p)→(S.map f).sum≤(S.map g).sum
 | [],_=>by simp
 | p :: S,h=>by
  have:=sum_le f g S fun q hq=>h q (List.mem_cons_of_mem _ hq)
  have:=h p List.mem_cons_self
  simp only [List.map_cons,List.sum_cons];omega
theorem net_brings {op fl S : List Int} (hf : fl.all cupS = true) (hS : S.Pairwise (· < ·)) : ∀ (rest : List Ch) (i : Nat),capsS op fl (i : Int) rest = true→(S.map fun p=>netF fl p (i : Int) rest).sum≤brings op S (i : Int) rest
 | [],i,_=>by
  have : ∀ S : List Int,(S.map fun p=>netF fl p (i : Int) []).sum = 0:=fun S=>by
   induction S with
   | nil=>rfl
   | cons a S ih=>rw [List.map_cons,List.sum_cons,ih];rfl
  rw [this];exact Int.le_refl _
 | x :: rest,i,h=>by
  have h' : (decide (rd fl (i : Int)≤capC op x (i : Int)) && capsS op fl ((i : Int) + 1) rest) = true:=h
  rw [Bool.and_eq_true] at h'
  obtain ⟨h1,h2⟩:=h'
  have h1:=of_decide_eq_true h1
  have ih:=net_brings hf hS rest (i + 1) h2
  obtain ⟨f0,f1⟩:=flow_bd hf i
  have e:=sum_three (fun p=>if x.f1 = p then rd fl (i : Int) else 0) (fun p=>if x.f0 = p then rd fl (i : Int) else 0) (fun p=>netF fl p ((i : Int) + 1) rest) S
  rw [sum_one _ _ hS,sum_one _ _ hS] at e
  show (S.map fun p=>(if x.f1 = p then rd fl (i : Int) else 0) - (if x.f0 = p then rd fl (i : Int) else 0) + netF fl p ((i : Int) + 1) rest).sum≤(if openC op x (i : Int) = true∧x.f1 ∈ S∧x.f0 ∉ S then x.f2 else 0) + brings op S ((i : Int) + 1) rest
  rw [e]
  rw [show ((i + 1 : Nat) : Int) = (i : Int) + 1 from rfl] at ih
  unfold capC at h1
  by_cases c1 : x.f1 ∈ S
  ·by_cases c0 : x.f0 ∈ S
   ·rw [if_pos c1,if_pos c0,if_neg (by simp [c0])];omega
   ·rw [if_pos c1,if_neg c0]
    by_cases c2 : openC op x (i : Int) = true
    ·rw [if_pos c2] at h1;rw [if_pos ⟨c2,c1,c0⟩];omega
    ·rw [if_neg c2] at h1;rw [if_neg (by simp [c2])];omega
  ·have c3 : ¬ (openC op x (i : Int) = true∧x.f1 ∈ S∧x.f0 ∉ S):=fun h=>c1 h.2.1
   rw [if_neg c1,if_neg c3]
   split<;>omega
theorem fed_short {op fl S : List Int} (hf : fl.all cupS = true) (h : feedsS pts ch op fl = true) (hS : S.Pairwise (· < ·)) (hm : ∀ p ∈ S,0≤p∧p < (pts.length : Int)) : shortS pts ch op S false≤0:=by
 unfold feedsS at h
 rw [Bool.and_eq_true,allFrom_iff] at h
 obtain ⟨h1,h2⟩:=h
 have a:=net_brings hf hS ch 0 h1
 have b:=sum_le (fun p=>lackP false (rd_T37 pts p)) (fun p=>netF fl p 0 ch) S fun p hp=>by
  obtain ⟨p0,p1⟩:=hm p hp
  obtain ⟨n,rfl⟩ : ∃ n : Nat,p = (n : Int):=⟨p.toNat,by omega⟩
  have:=of_decide_eq_true (h2 n (Nat.zero_le _) (by omega))
  unfold leftP at this
  show (rd_T37 pts (n : Int)).f1 - (if false = true then _ else (rd_T37 pts (n : Int)).f0.f0)≤_
  rw [if_neg (by simp)];omega
 unfold shortS
 have a' : (S.map fun p=>netF fl p 0 ch).sum≤brings op S 0 ch:=a
 omega
theorem nums_sorted (n : Nat) : (numsL n).Pairwise (· < ·):=by
 unfold numsL
 rw [List.pairwise_map]
 exact List.pairwise_lt_range.imp fun h=>by simpa using h
theorem short_nums_sorted {n : Nat} {S : List Int} (h : S ∈ shortestOf (numsL n)) : S.Pairwise (· < ·):=by
 have key : ∀ (xs : List Int) (m : Nat) (l : List Int),xs.Pairwise (· < ·)→l ∈ partsOf xs [] m→l.Pairwise (· < ·):=by
  intro xs
  induction xs with
  | nil =>
   intro m l _ h
   cases m with
   | zero=>simp [partsOf] at h;subst h;exact List.Pairwise.nil
   | succ m=>simp [partsOf] at h
  | cons x xs ih =>
   intro m l hx h
   obtain ⟨x1,x2⟩:=List.pairwise_cons.1 hx
   cases m with
   | zero=>simp [partsOf] at h;subst h;exact List.Pairwise.nil
   | succ m =>
    unfold partsOf at h
    rw [partsOf_now xs ([] ++ [x]) m] at h
    rcases List.mem_append.1 h with h | h
    ·obtain ⟨l',h',e⟩:=List.mem_map.1 h
     subst e
     obtain ⟨s,e,_,hs⟩:=partsOf_mem xs [] m l' h'
     rw [List.nil_append] at e
     subst e
     exact List.pairwise_cons.2 ⟨fun z hz=>x1 z (hs z hz),ih m l' x2 h'⟩
    ·exact ih (m + 1) l x2 h
 have up : ∀ k,S ∈ uptoOf (numsL n) k→S.Pairwise (· < ·):=by
  intro k
  induction k with
  | zero=>intro h;simp [uptoOf] at h
  | succ k ih =>
   intro h
   unfold uptoOf at h
   rcases List.mem_append.1 h with h | h
   ·exact ih h
   ·exact key _ _ _ (nums_sorted n) h
 exact up _ h
theorem fed_no_cut {op fl : List Int} (hf : flowsS ch fl = true) (h : feedsS pts ch op fl = true) : cutS pts ch op false = none:=by
 unfold flowsS at hf
 rw [Bool.and_eq_true] at hf
 unfold cutS
 rw [List.find?_eq_none]
 intro S hS hc
 have:=of_decide_eq_true hc
 have:=fed_short hf.2 h (short_nums_sorted hS) fun p hp=>numsL_mem.1 ((uptoOf_mem hS).2 p hp)
 omega
end
end Go.Proofs.YtclkbedbocnpkaaGreatDoor.C
namespace Go.Proofs.YtclkbedbocnpkaaGreatDoor.C
open Go.RowKit Go.Proofs.YtclkbedbocnpkaaGreatDoorW.PrintWords Go.Proofs.YtclkbedbocnpkaaGreatDoorW.PrintLast Go.Proofs.YtclkbedbocnpkaaGreatDoorW.PrintMore
set_option linter.unusedVariables false
set_option linter.unusedSimpArgs false
set_option maxHeartbeats 16000000
set_option maxRecDepth 100000
def l8_points.l0 : Nat→List Int→Int→List (S37)→List (S65)→Option (Bool)
 | 0,_,_,_,_=>none
 | k + 1,x1,x5,x408000,x408001=>if x5 < (x1.length : Int) then (if 0≤x5 then ((q8_Point.f x408000 x408001 (rd x1 x5)).bind fun t409=>(if t409 = true then (if x5 > 0 then (if 0≤(wrap64 (x5 - 1)) then (if (wrap64 (x5 - 1)) < (x1.length : Int) then (if (rd x1 x5)≤(rd x1 (wrap64 (x5 - 1))) then (some false) else (l8_points.l0 k x1 (wrap64 (x5 + 1)) x408000 x408001)) else (none)) else (none)) else (l8_points.l0 k x1 (wrap64 (x5 + 1)) x408000 x408001)) else (some false))) else (none)) else (some true)
def l8_points.f (k : Nat) (l0_0 : List (S37)) (l0_1 : List (S65)) (l1 : List Int) : Option (Bool):=l8_points.l0 k l1 0 l0_0 l0_1
def l8_points.T4 : Bool × List (List Nat × List Nat):=(true,[([],[]),([],[]),([],[]),([1,2],[1,2]),([3],[3]),([0,4],[0,4]),([5],[5]),([6,5],[6]),([7],[7]),([8,7],[7,8]),([9,7,7],[7,9]),([10],[10]),([10],[10]),([11,12,10],[10,11,12]),([13,10],[10,13]),([10],[10]),([10],[10]),([16,10],[10,16]),([15,17,10],[10,15,17]),([18,10],[10,18]),([14,19,10],[10,14,19]),([10,20,7],[7,10,20]),([7,21],[7,21])])
def l8_points.B4 : List Nat:=[0,0,0,6,14,31,63,127,255,511,1023,2047,2047,8191,16383,2047,2047,67583,231423,493567,1048575,2097151,4194303]
theorem l8_points.tab4 : rtab .any (opsOf Tryz.f26 4) = l8_points.T4:=by kernel_rfl
theorem l8_points.bits4 : waitsOk l8_points.T4.2 l8_points.B4 = true:=by kernel_rfl
theorem l8_points.calls (k : Nat) (A0_0 : Option Addr) (c0_0 : Nat) (l0_0 : List (S37)) (A0_1 : Option Addr) (c0_1 : Nat) (l0_1 : List (S65)) (A1 : Option Addr) (c1 : Nat) (l1 : List Int) (r : Bool) (w : World) (hr0_0 : Kd.C k37 w A0_0 l0_0.length l0_0) (hc0_0 : l0_0.length≤c0_0) (hr0_1 : Kd.C k65 w A0_1 l0_1.length l0_1) (hc0_1 : l0_1.length≤c0_1) (hr1 : Kd.C (Kd.int .i64) w A1 l1.length l1) (hc1 : l1.length≤c1) (h : l8_points.f k l0_0 l0_1 l1 = some r) :
 Calls Tryz.prog 26 #[.agg #[.slice A0_0 l0_0.length c0_0,.slice A0_1 l0_1.length c0_1],.slice A1 l1.length c1] w fun e w'=>e = .returned (.bool r)∧Below w.heap.size w w':=by
 have hu25:=Tryz.underlying25
 have HR0_0:=am hr0_0
 have HC0_0:=am hc0_0
 clear hr0_0 hc0_0
 have HR0_1:=am hr0_1
 have HC0_1:=am hc0_1
 clear hr0_1 hc0_1
 have HR1:=am hr1
 have HC1:=am hc1
 clear hr1 hc1
 have HB:=am (Below.refl w.heap.size w)
 have H : (l8_points.l0 k l1 0 l0_0 l0_1) = some r:=h
 clear h
 replace H':=am H
 go_enter Tryz.func26,Tryz.ntmps26
 go_wp2_with (first | ((refine ga_dst (N:=2) rfl ?_);refine box_event rfl (N:=2) rfl (cs:=#[.slice A0_0 l0_0.length c0_0,.slice A0_1 l0_1.length c0_1]) (t:=25) ?hr ?_;(case hr=>go_simp;try rfl);intro gb407 hg w3 hbox hb;have BK407:=am (hbox);have GW407:=am (ge_new (HB.out) hg);have GE407:=am (ge_new (HB.out) hg);replace HB:=am (below_step (HB.out) hb);clear hb hbox hg))
 go_loopg [5] k (fun kq v5 w'=>∃ (x5_1 : Int),v5 = .int .i64 x5_1∧Aside0 (l8_points.l0 kq l1 x5_1 l0_0 l0_1 = some r)∧Aside0 (kq≤k)∧Aside0 (w'.heap[gb407]? = some (.cells #[(.slice A0_0 l0_0.length c0_0),(.slice A0_1 l0_1.length c0_1)] 25 (0,0)))∧Aside0 (Below w.heap.size w w'))
 case atStart=>exact ⟨(0),(by first | rfl | (simp;done) | (simp [*];done)),H',⟨Nat.le_refl _⟩,⟨BK407.out⟩,⟨HB.out⟩⟩
 case round =>
  clear H'
  obtain ⟨x5_1,rfl,HA,HK1,BK407,HB⟩:=hrel
  cases gk with
  | zero=>exact absurd HA.out (by simp [l8_points.l0])
  | succ k1 =>
   have H:=HA.out
   clear HA
   simp only [l8_points.l0] at H
   by_cases c4 : x5_1 < (l1.length : Int)
   case neg =>
    rw [if_neg c4] at H
    have c4b0 : decide (x5_1 < (l1.length : Int)) = false:=decide_eq_false c4
    clear c4
    obtain rfl:=Option.some.inj H
    go_wp2
    go_ret
    exact ⟨by first | rfl | (simp [*]<;>rfl),HB.out⟩
   rw [if_pos c4] at H
   have c4b0 : decide (x5_1 < (l1.length : Int)) = true:=decide_eq_true c4
   clear c4
   by_cases c5 : 0≤x5_1
   case neg =>
    rw [if_neg c5] at H
    exact absurd H (by simp)
   rw [if_pos c5] at H
   have c5b0 : decide (0≤x5_1) = true:=decide_eq_true c5
   clear c5
   replace H:=obm H
   obtain ⟨t409,A60,H⟩:=H
   replace H : (if t409 = true then (if x5_1 > 0 then (if 0≤(wrap64 (x5_1 - 1)) then (if (wrap64 (x5_1 - 1)) < (l1.length : Int) then (if (rd l1 x5_1)≤(rd l1 (wrap64 (x5_1 - 1))) then (some false) else (l8_points.l0 k1 l1 (wrap64 (x5_1 + 1)) l0_0 l0_1)) else (none)) else (none)) else (l8_points.l0 k1 l1 (wrap64 (x5_1 + 1)) l0_0 l0_1)) else (some false)) = some r:=H
   have A6:=am A60
   clear A60
   by_cases c7 : t409 = true
   case neg =>
    replace c7:=Bool.eq_false_iff.mpr c7
    subst c7
    replace H : (some false) = some r:=by rw [if_neg (show ¬ (false = true) by decide)] at H;exact H
    obtain rfl:=Option.some.inj H
    try go_wp2
    replace BK407:=am (blk_drew BK407.out)
    replace HB:=am (below_drew1 HB.out)
    have p408 : 0≤(x5_1 : Int):=of_decide_eq_true (by assumption)
    have q408 : x5_1 < (l1.length : Int):=of_decide_eq_true (by assumption)
    obtain ⟨ad408,e408,hx408_0⟩:=Kd.at_int HR1.out x5_1 p408 q408
    have hw408_0:=hx408_0
    cases e408
    replace hx408_0:=(HB.out.cell (wbl hx408_0)).trans hx408_0
    replace p408:=eq_true p408
    replace q408:=eq_true q408
    refine start_ (n:=23) (S:=fun w'=>w'.cell? ⟨gb407,0,none⟩ = some (.slice A0_0 l0_0.length c0_0)∧w'.cell? ⟨gb407,1,none⟩ = some (.slice A0_1 l0_1.length c0_1)∧w'.cell? (ad408.add (x5_1).toNat) = some (.int .i64 (rd l1 x5_1))) (ds:=[]) (ba 23 0) (by kernel_rfl) rfl rfl ⟨(blk_cell BK407.out 0).trans rfl,(blk_cell BK407.out 1).trans rfl,((HB.out.cell (wbl hw408_0)).trans hw408_0)⟩ (fun hHeld=>?_);refine with_tabW l8_points.tab4 l8_points.bits4 (fun HT_ HW_=>?_)
    generalize wr.drew = w19 at BK407 HB hx408_0 hHeld ⊢
    refine pure_ (i:=1) (N:=some 13) (v:=?_) (a':=?_) (ba 23 2) rfl rfl (any_of HT_.out (by kernel_rfl)) (fun _ _ _ h=>h) (Or.inl ⟨by rfl,?_⟩) ?_ ?_
    rotate_left
    ·intro w'
     go_simp
     with_reducible rfl
    rotate_left
    ·simp only [Act.put,NRM]
     rfl
    refine pure_ (i:=2) (N:=some 14) (v:=?_) (a':=?_) (ba 23 6) rfl rfl (any_of HT_.out (by kernel_rfl)) (fun _ _ _ h=>h) (Or.inl ⟨by rfl,?_⟩) ?_ ?_
    rotate_left
    ·intro w'
     go_simp
     with_reducible rfl
    rotate_left
    ·simp only [Act.put,NRM]
     rfl
    refine pure_ (i:=3) (N:=some 15) (v:=?_) (a':=?_) (ba 23 14) rfl rfl (any_of HT_.out (by kernel_rfl)) (fun _ _ _ h=>h) (Or.inl ⟨by rfl,?_⟩) ?_ ?_
    rotate_left
    ·intro w'
     go_simp
     with_reducible rfl
    rotate_left
    ·simp only [Act.put,NRM]
     rfl
    refine take_ (i:=0) (N:=some 12) (v:=?_) (a':=?_) (ba 23 15) rfl rfl (take_ofW HT_.out HW_.out (by kernel_rfl)) (fun _ _ _ h=>h) (Or.inl ⟨by rfl,?_⟩) hHeld ?_ ?_
    rotate_left
    ·rintro w' ⟨s0,s1,s2⟩
     go_simp
     with_reducible rfl
    rotate_left
    ·simp only [Act.put,NRM]
     rfl
    refine take_ (i:=4) (N:=some 16) (v:=?_) (a':=?_) (ba 23 31) rfl rfl (take_ofW HT_.out HW_.out (by kernel_rfl)) (fun _ _ _ h=>h) (Or.inl ⟨by rfl,?_⟩) hHeld ?_ ?_
    rotate_left
    ·rintro w' ⟨s0,s1,s2⟩
     go_simp
     with_reducible rfl
    rotate_left
    ·simp only [Act.put,NRM]
     rfl
    refine one_ (i:=5) (N:=some 17) (ba 23 63) rfl rfl (one_of HT_.out (by kernel_rfl)) (by decide) (fun K hK=>?_)
    refine goes_ Tryz.func30 (by kernel_rfl) rfl #[.agg #[.slice A0_0 l0_0.length c0_0,.slice A0_1 l0_1.length c0_1],.int .i64 (rd l1 x5_1)] (by rfl) rfl rfl (by (try simp only [List.map_toArray,List.map_cons,List.map_nil]);first | done | rfl | (simp only [List.length_drop,List.length_take];rfl)) ?_
    with_reducible refine (q8_Point.calls _ _ l0_0 _ _ l0_1 (rd l1 x5_1) false _ ?side1 ?side2 ?side3 ?side4 A6.out).mono ?_
    (case side1=>exact kC HR0_0.out HB.out)
    (case side2=>exact HC0_0.out)
    (case side3=>exact kC HR0_1.out HB.out)
    (case side4=>exact HC0_1.out)
    rintro e w20 ⟨rfl,hb⟩
    refine ⟨_,rfl,?_⟩
    replace BK407:=(kmv hb BK407)
    replace HB:=am (below_step (HB.out) hb)
    (try clear hb)
    (try clear hb2)
    (try clear hk)
    (try clear hi)
    refine hK.out _ _ ⟨(blk_cell BK407.out 0).trans rfl,(blk_cell BK407.out 1).trans rfl,((HB.out.cell (wbl hw408_0)).trans hw408_0)⟩ (fun hHeld=>?_)
    clear hK K
    refine norm_ (a':=?_) ?_ ?_
    rotate_left
    ·show Act.put _ (some 17) _ = _
     simp only [Act.put,NRM]
     rfl
    refine pure_ (i:=6) (N:=some 18) (v:=?_) (a':=?_) (ba 23 127) rfl rfl (any_of HT_.out (by kernel_rfl)) (fun _ _ _ h=>h) (Or.inl ⟨by rfl,?_⟩) ?_ ?_
    rotate_left
    ·intro w'
     go_simp
     with_reducible rfl
    rotate_left
    ·simp only [Act.put,NRM]
     rfl
    refine pure_ (i:=7) (N:=some 19) (v:=?_) (a':=?_) (ba 23 255) rfl rfl (any_of HT_.out (by kernel_rfl)) (fun _ _ _ h=>h) (Or.inl ⟨by rfl,?_⟩) ?_ ?_
    rotate_left
    ·intro w'
     go_simp
     with_reducible rfl
    rotate_left
    ·simp only [Act.put,NRM]
     rfl
    refine pure_ (i:=8) (N:=some 20) (v:=undef) (a':=?_) (ba 23 511) rfl rfl (any_of HT_.out (by kernel_rfl)) (fun _ _ _ h=>h) (Or.inr ⟨by rfl,rfl⟩) ?_ ?_
    rotate_left
    ·simp only [Act.put,NRM]
     rfl
    refine pure_ (i:=9) (N:=some 21) (v:=undef) (a':=?_) (ba 23 1023) rfl rfl (any_of HT_.out (by kernel_rfl)) (fun _ _ _ h=>h) (Or.inr ⟨by rfl,rfl⟩) ?_ ?_
    rotate_left
    ·simp only [Act.put,NRM]
     rfl
    refine pure_ (i:=10) (N:=some 22) (v:=undef) (a':=?_) (ba 23 2047) rfl rfl (any_of HT_.out (by kernel_rfl)) (fun _ _ _ h=>h) (Or.inr ⟨by rfl,rfl⟩) ?_ ?_
    rotate_left
    ·simp only [Act.put,NRM]
     rfl
    refine pure_ (i:=11) (N:=some 23) (v:=undef) (a':=?_) (ba 23 4095) rfl rfl (any_of HT_.out (by kernel_rfl)) (fun _ _ _ h=>h) (Or.inr ⟨by rfl,rfl⟩) ?_ ?_
    rotate_left
    ·simp only [Act.put,NRM]
     rfl
    refine pure_ (i:=12) (N:=some 24) (v:=undef) (a':=?_) (ba 23 8191) rfl rfl (any_of HT_.out (by kernel_rfl)) (fun _ _ _ h=>h) (Or.inr ⟨by rfl,rfl⟩) ?_ ?_
    rotate_left
    ·simp only [Act.put,NRM]
     rfl
    refine pure_ (i:=13) (N:=some 25) (v:=undef) (a':=?_) (ba 23 16383) rfl rfl (any_of HT_.out (by kernel_rfl)) (fun _ _ _ h=>h) (Or.inr ⟨by rfl,rfl⟩) ?_ ?_
    rotate_left
    ·simp only [Act.put,NRM]
     rfl
    refine pure_ (i:=14) (N:=some 26) (v:=undef) (a':=?_) (ba 23 32767) rfl rfl (any_of HT_.out (by kernel_rfl)) (fun _ _ _ h=>h) (Or.inr ⟨by rfl,rfl⟩) ?_ ?_
    rotate_left
    ·simp only [Act.put,NRM]
     rfl
    refine pure_ (i:=15) (N:=some 27) (v:=undef) (a':=?_) (ba 23 65535) rfl rfl (any_of HT_.out (by kernel_rfl)) (fun _ _ _ h=>h) (Or.inr ⟨by rfl,rfl⟩) ?_ ?_
    rotate_left
    ·simp only [Act.put,NRM]
     rfl
    refine pure_ (i:=16) (N:=some 28) (v:=undef) (a':=?_) (ba 23 131071) rfl rfl (any_of HT_.out (by kernel_rfl)) (fun _ _ _ h=>h) (Or.inr ⟨by rfl,rfl⟩) ?_ ?_
    rotate_left
    ·simp only [Act.put,NRM]
     rfl
    refine pure_ (i:=17) (N:=some 29) (v:=undef) (a':=?_) (ba 23 262143) rfl rfl (any_of HT_.out (by kernel_rfl)) (fun _ _ _ h=>h) (Or.inr ⟨by rfl,rfl⟩) ?_ ?_
    rotate_left
    ·simp only [Act.put,NRM]
     rfl
    refine pure_ (i:=18) (N:=some 30) (v:=undef) (a':=?_) (ba 23 524287) rfl rfl (any_of HT_.out (by kernel_rfl)) (fun _ _ _ h=>h) (Or.inr ⟨by rfl,rfl⟩) ?_ ?_
    rotate_left
    ·simp only [Act.put,NRM]
     rfl
    refine pure_ (i:=19) (N:=some 31) (v:=undef) (a':=?_) (ba 23 1048575) rfl rfl (any_of HT_.out (by kernel_rfl)) (fun _ _ _ h=>h) (Or.inr ⟨by rfl,rfl⟩) ?_ ?_
    rotate_left
    ·simp only [Act.put,NRM]
     rfl
    refine pure_ (i:=20) (N:=some 32) (v:=undef) (a':=?_) (ba 23 2097151) rfl rfl (any_of HT_.out (by kernel_rfl)) (fun _ _ _ h=>h) (Or.inr ⟨by rfl,rfl⟩) ?_ ?_
    rotate_left
    ·simp only [Act.put,NRM]
     rfl
    refine pure_ (i:=21) (N:=some 33) (v:=undef) (a':=?_) (ba 23 4194303) rfl rfl (any_of HT_.out (by kernel_rfl)) (fun _ _ _ h=>h) (Or.inr ⟨by rfl,rfl⟩) ?_ ?_
    rotate_left
    ·simp only [Act.put,NRM]
     rfl
    refine pure_ (i:=22) (N:=some 34) (v:=?_) (a':=?_) (ba 23 8388607) rfl rfl (any_of HT_.out (by kernel_rfl)) (fun _ _ _ h=>h) (Or.inl ⟨by rfl,?_⟩) ?_ ?_
    rotate_left
    ·intro w'
     go_simp
     with_reducible rfl
    rotate_left
    ·simp only [Act.put,NRM]
     rfl
    refine done_ (done_of HT_.out (by kernel_rfl)) ?_
    try go_wp2
    go_ret
    exact ⟨by first | rfl | (simp [*]<;>rfl),HB.out⟩
   subst c7
   replace H : (if x5_1 > 0 then (if 0≤(wrap64 (x5_1 - 1)) then (if (wrap64 (x5_1 - 1)) < (l1.length : Int) then (if (rd l1 x5_1)≤(rd l1 (wrap64 (x5_1 - 1))) then (some false) else (l8_points.l0 k1 l1 (wrap64 (x5_1 + 1)) l0_0 l0_1)) else (none)) else (none)) else (l8_points.l0 k1 l1 (wrap64 (x5_1 + 1)) l0_0 l0_1)) = some r:=by rw [if_pos rfl] at H;exact H
   by_cases c8 : x5_1 > 0
   case neg =>
    rw [if_neg c8] at H
    have c8b0 : decide (0 < x5_1) = false:=decide_eq_false c8
    clear c8
    replace H':=am H
    try go_wp2
    replace BK407:=am (blk_drew BK407.out)
    replace HB:=am (below_drew1 HB.out)
    have p408 : 0≤(x5_1 : Int):=of_decide_eq_true (by assumption)
    have q408 : x5_1 < (l1.length : Int):=of_decide_eq_true (by assumption)
    obtain ⟨ad408,e408,hx408_0⟩:=Kd.at_int HR1.out x5_1 p408 q408
    have hw408_0:=hx408_0
    cases e408
    replace hx408_0:=(HB.out.cell (wbl hx408_0)).trans hx408_0
    replace p408:=eq_true p408
    replace q408:=eq_true q408
    refine start_ (n:=23) (S:=fun w'=>w'.cell? ⟨gb407,0,none⟩ = some (.slice A0_0 l0_0.length c0_0)∧w'.cell? ⟨gb407,1,none⟩ = some (.slice A0_1 l0_1.length c0_1)∧w'.cell? (ad408.add (x5_1).toNat) = some (.int .i64 (rd l1 x5_1))) (ds:=[]) (ba 23 0) (by kernel_rfl) rfl rfl ⟨(blk_cell BK407.out 0).trans rfl,(blk_cell BK407.out 1).trans rfl,((HB.out.cell (wbl hw408_0)).trans hw408_0)⟩ (fun hHeld=>?_);refine with_tabW l8_points.tab4 l8_points.bits4 (fun HT_ HW_=>?_)
    generalize wr.drew = w17 at BK407 HB hx408_0 hHeld ⊢
    refine pure_ (i:=1) (N:=some 13) (v:=?_) (a':=?_) (ba 23 2) rfl rfl (any_of HT_.out (by kernel_rfl)) (fun _ _ _ h=>h) (Or.inl ⟨by rfl,?_⟩) ?_ ?_
    rotate_left
    ·intro w'
     go_simp
     with_reducible rfl
    rotate_left
    ·simp only [Act.put,NRM]
     rfl
    refine pure_ (i:=2) (N:=some 14) (v:=?_) (a':=?_) (ba 23 6) rfl rfl (any_of HT_.out (by kernel_rfl)) (fun _ _ _ h=>h) (Or.inl ⟨by rfl,?_⟩) ?_ ?_
    rotate_left
    ·intro w'
     go_simp
     with_reducible rfl
    rotate_left
    ·simp only [Act.put,NRM]
     rfl
    refine pure_ (i:=3) (N:=some 15) (v:=?_) (a':=?_) (ba 23 14) rfl rfl (any_of HT_.out (by kernel_rfl)) (fun _ _ _ h=>h) (Or.inl ⟨by rfl,?_⟩) ?_ ?_
    rotate_left
    ·intro w'
     go_simp
     with_reducible rfl
    rotate_left
    ·simp only [Act.put,NRM]
     rfl
    refine take_ (i:=0) (N:=some 12) (v:=?_) (a':=?_) (ba 23 15) rfl rfl (take_ofW HT_.out HW_.out (by kernel_rfl)) (fun _ _ _ h=>h) (Or.inl ⟨by rfl,?_⟩) hHeld ?_ ?_
    rotate_left
    ·rintro w' ⟨s0,s1,s2⟩
     go_simp
     with_reducible rfl
    rotate_left
    ·simp only [Act.put,NRM]
     rfl
    refine take_ (i:=4) (N:=some 16) (v:=?_) (a':=?_) (ba 23 31) rfl rfl (take_ofW HT_.out HW_.out (by kernel_rfl)) (fun _ _ _ h=>h) (Or.inl ⟨by rfl,?_⟩) hHeld ?_ ?_
    rotate_left
    ·rintro w' ⟨s0,s1,s2⟩
     go_simp
     with_reducible rfl
    rotate_left
    ·simp only [Act.put,NRM]
     rfl
    refine one_ (i:=5) (N:=some 17) (ba 23 63) rfl rfl (one_of HT_.out (by kernel_rfl)) (by decide) (fun K hK=>?_)
    refine goes_ Tryz.func30 (by kernel_rfl) rfl #[.agg #[.slice A0_0 l0_0.length c0_0,.slice A0_1 l0_1.length c0_1],.int .i64 (rd l1 x5_1)] (by rfl) rfl rfl (by (try simp only [List.map_toArray,List.map_cons,List.map_nil]);first | done | rfl | (simp only [List.length_drop,List.length_take];rfl)) ?_
    with_reducible refine (q8_Point.calls _ _ l0_0 _ _ l0_1 (rd l1 x5_1) true _ ?side1 ?side2 ?side3 ?side4 A6.out).mono ?_
    (case side1=>exact kC HR0_0.out HB.out)
    (case side2=>exact HC0_0.out)
    (case side3=>exact kC HR0_1.out HB.out)
    (case side4=>exact HC0_1.out)
    rintro e w18 ⟨rfl,hb⟩
    refine ⟨_,rfl,?_⟩
    replace BK407:=(kmv hb BK407)
    replace HB:=am (below_step (HB.out) hb)
    (try clear hb)
    (try clear hb2)
    (try clear hk)
    (try clear hi)
    refine hK.out _ _ ⟨(blk_cell BK407.out 0).trans rfl,(blk_cell BK407.out 1).trans rfl,((HB.out.cell (wbl hw408_0)).trans hw408_0)⟩ (fun hHeld=>?_)
    clear hK K
    refine norm_ (a':=?_) ?_ ?_
    rotate_left
    ·show Act.put _ (some 17) _ = _
     simp only [Act.put,NRM]
     rfl
    refine pure_ (i:=6) (N:=some 18) (v:=?_) (a':=?_) (ba 23 127) rfl rfl (any_of HT_.out (by kernel_rfl)) (fun _ _ _ h=>h) (Or.inl ⟨by rfl,?_⟩) ?_ ?_
    rotate_left
    ·intro w'
     go_simp
     with_reducible rfl
    rotate_left
    ·simp only [Act.put,NRM]
     rfl
    refine pure_ (i:=7) (N:=some 19) (v:=?_) (a':=?_) (ba 23 255) rfl rfl (any_of HT_.out (by kernel_rfl)) (fun _ _ _ h=>h) (Or.inl ⟨by rfl,?_⟩) ?_ ?_
    rotate_left
    ·intro w'
     go_simp
     with_reducible rfl
    rotate_left
    ·simp only [Act.put,NRM]
     rfl
    refine pure_ (i:=8) (N:=some 20) (v:=?_) (a':=?_) (ba 23 511) rfl rfl (any_of HT_.out (by kernel_rfl)) (fun _ _ _ h=>h) (Or.inl ⟨by rfl,?_⟩) ?_ ?_
    rotate_left
    ·intro w'
     go_simp
     with_reducible rfl
    rotate_left
    ·simp only [Act.put,NRM]
     rfl
    refine pure_ (i:=9) (N:=some 21) (v:=?_) (a':=?_) (ba 23 1023) rfl rfl (any_of HT_.out (by kernel_rfl)) (fun _ _ _ h=>h) (Or.inl ⟨by rfl,?_⟩) ?_ ?_
    rotate_left
    ·intro w'
     go_simp
     with_reducible rfl
    rotate_left
    ·simp only [Act.put,NRM]
     rfl
    refine pure_ (i:=10) (N:=some 22) (v:=?_) (a':=?_) (ba 23 2047) rfl rfl (any_of HT_.out (by kernel_rfl)) (fun _ _ _ h=>h) (Or.inl ⟨by rfl,?_⟩) ?_ ?_
    rotate_left
    ·intro w'
     go_simp
     with_reducible rfl
    rotate_left
    ·simp only [Act.put,NRM]
     rfl
    refine pure_ (i:=11) (N:=some 23) (v:=undef) (a':=?_) (ba 23 4095) rfl rfl (any_of HT_.out (by kernel_rfl)) (fun _ _ _ h=>h) (Or.inr ⟨by rfl,rfl⟩) ?_ ?_
    rotate_left
    ·simp only [Act.put,NRM]
     rfl
    refine pure_ (i:=12) (N:=some 24) (v:=undef) (a':=?_) (ba 23 8191) rfl rfl (any_of HT_.out (by kernel_rfl)) (fun _ _ _ h=>h) (Or.inr ⟨by rfl,rfl⟩) ?_ ?_
    rotate_left
    ·simp only [Act.put,NRM]
     rfl
    refine pure_ (i:=13) (N:=some 25) (v:=undef) (a':=?_) (ba 23 16383) rfl rfl (any_of HT_.out (by kernel_rfl)) (fun _ _ _ h=>h) (Or.inr ⟨by rfl,rfl⟩) ?_ ?_
    rotate_left
    ·simp only [Act.put,NRM]
     rfl
    refine pure_ (i:=14) (N:=some 26) (v:=undef) (a':=?_) (ba 23 32767) rfl rfl (any_of HT_.out (by kernel_rfl)) (fun _ _ _ h=>h) (Or.inr ⟨by rfl,rfl⟩) ?_ ?_
    rotate_left
    ·simp only [Act.put,NRM]
     rfl
    refine pure_ (i:=15) (N:=some 27) (v:=undef) (a':=?_) (ba 23 65535) rfl rfl (any_of HT_.out (by kernel_rfl)) (fun _ _ _ h=>h) (Or.inr ⟨by rfl,rfl⟩) ?_ ?_
    rotate_left
    ·simp only [Act.put,NRM]
     rfl
    refine pure_ (i:=16) (N:=some 28) (v:=undef) (a':=?_) (ba 23 131071) rfl rfl (any_of HT_.out (by kernel_rfl)) (fun _ _ _ h=>h) (Or.inr ⟨by rfl,rfl⟩) ?_ ?_
    rotate_left
    ·simp only [Act.put,NRM]
     rfl
    refine pure_ (i:=17) (N:=some 29) (v:=undef) (a':=?_) (ba 23 262143) rfl rfl (any_of HT_.out (by kernel_rfl)) (fun _ _ _ h=>h) (Or.inr ⟨by rfl,rfl⟩) ?_ ?_
    rotate_left
    ·simp only [Act.put,NRM]
     rfl
    refine pure_ (i:=18) (N:=some 30) (v:=undef) (a':=?_) (ba 23 524287) rfl rfl (any_of HT_.out (by kernel_rfl)) (fun _ _ _ h=>h) (Or.inr ⟨by rfl,rfl⟩) ?_ ?_
    rotate_left
    ·simp only [Act.put,NRM]
     rfl
    refine pure_ (i:=19) (N:=some 31) (v:=undef) (a':=?_) (ba 23 1048575) rfl rfl (any_of HT_.out (by kernel_rfl)) (fun _ _ _ h=>h) (Or.inr ⟨by rfl,rfl⟩) ?_ ?_
    rotate_left
    ·simp only [Act.put,NRM]
     rfl
    refine pure_ (i:=20) (N:=some 32) (v:=undef) (a':=?_) (ba 23 2097151) rfl rfl (any_of HT_.out (by kernel_rfl)) (fun _ _ _ h=>h) (Or.inr ⟨by rfl,rfl⟩) ?_ ?_
    rotate_left
    ·simp only [Act.put,NRM]
     rfl
    refine pure_ (i:=21) (N:=some 33) (v:=?_) (a':=?_) (ba 23 4194303) rfl rfl (any_of HT_.out (by kernel_rfl)) (fun _ _ _ h=>h) (Or.inl ⟨by rfl,?_⟩) ?_ ?_
    rotate_left
    ·intro w'
     go_simp
     with_reducible rfl
    rotate_left
    ·simp only [Act.put,NRM]
     rfl
    refine pure_ (i:=22) (N:=some 34) (v:=?_) (a':=?_) (ba 23 8388607) rfl rfl (any_of HT_.out (by kernel_rfl)) (fun _ _ _ h=>h) (Or.inl ⟨by rfl,?_⟩) ?_ ?_
    rotate_left
    ·intro w'
     go_simp
     with_reducible rfl
    rotate_left
    ·simp only [Act.put,NRM]
     rfl
    refine done_ (done_of HT_.out (by kernel_rfl)) ?_
    try go_wp2
    go_roundg k1
    case measure=>have:=HK1.out;omega
    case rel=>exact ⟨(wrap64 (x5_1 + 1)),(by first | rfl | (simp;done) | (simp [*];done)),H',⟨by have:=HK1.out;omega⟩,⟨BK407.out⟩,⟨HB.out⟩⟩
   rw [if_pos c8] at H
   have c8b0 : decide (0 < x5_1) = true:=decide_eq_true c8
   clear c8
   obtain ⟨ji9,hji9⟩ : ∃ j_ : Int,(wrap64 (x5_1 - 1)) = j_:=⟨_,rfl⟩
   replace H : (if 0≤(ji9) then (if (ji9) < (l1.length : Int) then (if (rd l1 x5_1)≤(rd l1 (ji9)) then (some false) else (l8_points.l0 k1 l1 (wrap64 (x5_1 + 1)) l0_0 l0_1)) else (none)) else (none)) = some r:=by first | (rw [hji9] at H;exact H) | (simp only [hji9] at H ⊢;exact H)
   (try rw [hji9] at A6)
   have hji9w : (IntKind.i64.wrap (x5_1 - 1)) = ji9:=(i64_w _).trans hji9
   by_cases c10 : 0≤(ji9)
   case neg =>
    rw [if_neg c10] at H
    exact absurd H (by simp)
   rw [if_pos c10] at H
   have c10b0 : decide (0≤(ji9)) = true:=decide_eq_true c10
   clear c10
   by_cases c11 : (ji9) < (l1.length : Int)
   case neg =>
    rw [if_neg c11] at H
    exact absurd H (by simp)
   rw [if_pos c11] at H
   have c11b0 : decide ((ji9) < (l1.length : Int)) = true:=decide_eq_true c11
   clear c11
   by_cases c12 : (rd l1 x5_1)≤(rd l1 (ji9))
   ·rw [if_pos c12] at H
    have c12b0 : decide ((rd l1 x5_1)≤(rd l1 (ji9))) = true:=decide_eq_true c12
    clear c12
    obtain rfl:=Option.some.inj H
    try go_wp2
    replace BK407:=am (blk_drew BK407.out)
    replace HB:=am (below_drew1 HB.out)
    have p408 : 0≤(x5_1 : Int):=of_decide_eq_true (by assumption)
    have q408 : x5_1 < (l1.length : Int):=of_decide_eq_true (by assumption)
    obtain ⟨ad408,e408,hx408_0⟩:=Kd.at_int HR1.out x5_1 p408 q408
    have hw408_0:=hx408_0
    cases e408
    replace hx408_0:=(HB.out.cell (wbl hx408_0)).trans hx408_0
    replace p408:=eq_true p408
    replace q408:=eq_true q408
    have p410 : 0≤(x5_1 : Int):=of_decide_eq_true (by assumption)
    have q410 : x5_1 < (l1.length : Int):=of_decide_eq_true (by assumption)
    obtain ⟨ad410,e410,hx410_0⟩:=Kd.at_int HR1.out x5_1 p410 q410
    have hw410_0:=hx410_0
    obtain rfl : ad408 = ad410:=(by injection e410)
    replace hx410_0:=(HB.out.cell (wbl hx410_0)).trans hx410_0
    replace p410:=eq_true p410
    replace q410:=eq_true q410
    have p411 : 0≤((ji9) : Int):=of_decide_eq_true (by assumption)
    have q411 : (ji9) < (l1.length : Int):=of_decide_eq_true (by assumption)
    obtain ⟨ad411,e411,hx411_0⟩:=Kd.at_int HR1.out (ji9) p411 q411
    have hw411_0:=hx411_0
    obtain rfl : ad408 = ad411:=(by injection e411)
    replace hx411_0:=(HB.out.cell (wbl hx411_0)).trans hx411_0
    replace p411:=eq_true p411
    replace q411:=eq_true q411
    refine start_ (n:=23) (S:=fun w'=>w'.cell? ⟨gb407,0,none⟩ = some (.slice A0_0 l0_0.length c0_0)∧w'.cell? ⟨gb407,1,none⟩ = some (.slice A0_1 l0_1.length c0_1)∧w'.cell? (ad408.add (x5_1).toNat) = some (.int .i64 (rd l1 x5_1))∧w'.cell? (ad408.add (x5_1).toNat) = some (.int .i64 (rd l1 x5_1))∧w'.cell? (ad408.add ((ji9)).toNat) = some (.int .i64 (rd l1 (ji9)))) (ds:=[]) (ba 23 0) (by kernel_rfl) rfl rfl ⟨(blk_cell BK407.out 0).trans rfl,(blk_cell BK407.out 1).trans rfl,((HB.out.cell (wbl hw408_0)).trans hw408_0),((HB.out.cell (wbl hw410_0)).trans hw410_0),((HB.out.cell (wbl hw411_0)).trans hw411_0)⟩ (fun hHeld=>?_);refine with_tabW l8_points.tab4 l8_points.bits4 (fun HT_ HW_=>?_)
    generalize wr.drew = w13 at BK407 HB hx408_0 hx410_0 hx411_0 hHeld ⊢
    refine pure_ (i:=1) (N:=some 13) (v:=?_) (a':=?_) (ba 23 2) rfl rfl (any_of HT_.out (by kernel_rfl)) (fun _ _ _ h=>h) (Or.inl ⟨by rfl,?_⟩) ?_ ?_
    rotate_left
    ·intro w'
     go_simp
     with_reducible rfl
    rotate_left
    ·simp only [Act.put,NRM]
     rfl
    refine pure_ (i:=2) (N:=some 14) (v:=?_) (a':=?_) (ba 23 6) rfl rfl (any_of HT_.out (by kernel_rfl)) (fun _ _ _ h=>h) (Or.inl ⟨by rfl,?_⟩) ?_ ?_
    rotate_left
    ·intro w'
     go_simp
     with_reducible rfl
    rotate_left
    ·simp only [Act.put,NRM]
     rfl
    refine pure_ (i:=3) (N:=some 15) (v:=?_) (a':=?_) (ba 23 14) rfl rfl (any_of HT_.out (by kernel_rfl)) (fun _ _ _ h=>h) (Or.inl ⟨by rfl,?_⟩) ?_ ?_
    rotate_left
    ·intro w'
     go_simp
     with_reducible rfl
    rotate_left
    ·simp only [Act.put,NRM]
     rfl
    refine take_ (i:=0) (N:=some 12) (v:=?_) (a':=?_) (ba 23 15) rfl rfl (take_ofW HT_.out HW_.out (by kernel_rfl)) (fun _ _ _ h=>h) (Or.inl ⟨by rfl,?_⟩) hHeld ?_ ?_
    rotate_left
    ·rintro w' ⟨s0,s1,s2,s3,s4⟩
     go_simp
     with_reducible rfl
    rotate_left
    ·simp only [Act.put,NRM]
     rfl
    refine take_ (i:=4) (N:=some 16) (v:=?_) (a':=?_) (ba 23 31) rfl rfl (take_ofW HT_.out HW_.out (by kernel_rfl)) (fun _ _ _ h=>h) (Or.inl ⟨by rfl,?_⟩) hHeld ?_ ?_
    rotate_left
    ·rintro w' ⟨s0,s1,s2,s3,s4⟩
     go_simp
     with_reducible rfl
    rotate_left
    ·simp only [Act.put,NRM]
     rfl
    refine one_ (i:=5) (N:=some 17) (ba 23 63) rfl rfl (one_of HT_.out (by kernel_rfl)) (by decide) (fun K hK=>?_)
    refine goes_ Tryz.func30 (by kernel_rfl) rfl #[.agg #[.slice A0_0 l0_0.length c0_0,.slice A0_1 l0_1.length c0_1],.int .i64 (rd l1 x5_1)] (by rfl) rfl rfl (by (try simp only [List.map_toArray,List.map_cons,List.map_nil]);first | done | rfl | (simp only [List.length_drop,List.length_take];rfl)) ?_
    with_reducible refine (q8_Point.calls _ _ l0_0 _ _ l0_1 (rd l1 x5_1) true _ ?side1 ?side2 ?side3 ?side4 A6.out).mono ?_
    (case side1=>exact kC HR0_0.out HB.out)
    (case side2=>exact HC0_0.out)
    (case side3=>exact kC HR0_1.out HB.out)
    (case side4=>exact HC0_1.out)
    rintro e w14 ⟨rfl,hb⟩
    refine ⟨_,rfl,?_⟩
    replace BK407:=(kmv hb BK407)
    replace HB:=am (below_step (HB.out) hb)
    (try clear hb)
    (try clear hb2)
    (try clear hk)
    (try clear hi)
    refine hK.out _ _ ⟨(blk_cell BK407.out 0).trans rfl,(blk_cell BK407.out 1).trans rfl,((HB.out.cell (wbl hw408_0)).trans hw408_0),((HB.out.cell (wbl hw410_0)).trans hw410_0),((HB.out.cell (wbl hw411_0)).trans hw411_0)⟩ (fun hHeld=>?_)
    clear hK K
    refine norm_ (a':=?_) ?_ ?_
    rotate_left
    ·show Act.put _ (some 17) _ = _
     simp only [Act.put,NRM]
     rfl
    refine pure_ (i:=6) (N:=some 18) (v:=?_) (a':=?_) (ba 23 127) rfl rfl (any_of HT_.out (by kernel_rfl)) (fun _ _ _ h=>h) (Or.inl ⟨by rfl,?_⟩) ?_ ?_
    rotate_left
    ·intro w'
     go_simp
     with_reducible rfl
    rotate_left
    ·simp only [Act.put,NRM]
     rfl
    refine pure_ (i:=7) (N:=some 19) (v:=?_) (a':=?_) (ba 23 255) rfl rfl (any_of HT_.out (by kernel_rfl)) (fun _ _ _ h=>h) (Or.inl ⟨by rfl,?_⟩) ?_ ?_
    rotate_left
    ·intro w'
     go_simp
     with_reducible rfl
    rotate_left
    ·simp only [Act.put,NRM]
     rfl
    refine pure_ (i:=8) (N:=some 20) (v:=?_) (a':=?_) (ba 23 511) rfl rfl (any_of HT_.out (by kernel_rfl)) (fun _ _ _ h=>h) (Or.inl ⟨by rfl,?_⟩) ?_ ?_
    rotate_left
    ·intro w'
     go_simp
     with_reducible rfl
    rotate_left
    ·simp only [Act.put,NRM]
     rfl
    refine pure_ (i:=9) (N:=some 21) (v:=?_) (a':=?_) (ba 23 1023) rfl rfl (any_of HT_.out (by kernel_rfl)) (fun _ _ _ h=>h) (Or.inl ⟨by rfl,?_⟩) ?_ ?_
    rotate_left
    ·intro w'
     go_simp
     with_reducible rfl
    rotate_left
    ·simp only [Act.put,NRM]
     rfl
    refine pure_ (i:=10) (N:=some 22) (v:=?_) (a':=?_) (ba 23 2047) rfl rfl (any_of HT_.out (by kernel_rfl)) (fun _ _ _ h=>h) (Or.inl ⟨by rfl,?_⟩) ?_ ?_
    rotate_left
    ·intro w'
     go_simp
     with_reducible rfl
    rotate_left
    ·simp only [Act.put,NRM]
     rfl
    refine pure_ (i:=11) (N:=some 23) (v:=?_) (a':=?_) (ba 23 4095) rfl rfl (any_of HT_.out (by kernel_rfl)) (fun _ _ _ h=>h) (Or.inl ⟨by rfl,?_⟩) ?_ ?_
    rotate_left
    ·intro w'
     go_simp
     with_reducible rfl
    rotate_left
    ·simp only [Act.put,NRM]
     rfl
    refine pure_ (i:=12) (N:=some 24) (v:=?_) (a':=?_) (ba 23 8191) rfl rfl (any_of HT_.out (by kernel_rfl)) (fun _ _ _ h=>h) (Or.inl ⟨by rfl,?_⟩) ?_ ?_
    rotate_left
    ·intro w'
     go_simp
     with_reducible rfl
    rotate_left
    ·simp only [Act.put,NRM]
     rfl
    refine pure_ (i:=13) (N:=some 25) (v:=?_) (a':=?_) (ba 23 16383) rfl rfl (any_of HT_.out (by kernel_rfl)) (fun _ _ _ h=>h) (Or.inl ⟨by rfl,?_⟩) ?_ ?_
    rotate_left
    ·intro w'
     go_simp
     with_reducible rfl
    rotate_left
    ·simp only [Act.put,NRM]
     rfl
    refine pure_ (i:=15) (N:=some 27) (v:=?_) (a':=?_) (ba 23 49151) rfl rfl (any_of HT_.out (by kernel_rfl)) (fun _ _ _ h=>h) (Or.inl ⟨by rfl,?_⟩) ?_ ?_
    rotate_left
    ·intro w'
     go_simp
     with_reducible rfl
    rotate_left
    ·simp only [Act.put,NRM]
     rfl
    refine pure_ (i:=16) (N:=some 28) (v:=?_) (a':=?_) (ba 23 114687) rfl rfl (any_of HT_.out (by kernel_rfl)) (fun _ _ _ h=>h) (Or.inl ⟨by rfl,?_⟩) ?_ ?_
    rotate_left
    ·intro w'
     go_simp
     with_reducible rfl
    rotate_left
    ·simp only [Act.put,NRM]
     rfl
    refine pure_ (i:=17) (N:=some 29) (v:=?_) (a':=?_) (ba 23 245759) rfl rfl (any_of HT_.out (by kernel_rfl)) (fun _ _ _ h=>h) (Or.inl ⟨by rfl,?_⟩) ?_ ?_
    rotate_left
    ·intro w'
     go_simp
     with_reducible rfl
    rotate_left
    ·simp only [Act.put,NRM]
     rfl
    refine pure_ (i:=18) (N:=some 30) (v:=?_) (a':=?_) (ba 23 507903) rfl rfl (any_of HT_.out (by kernel_rfl)) (fun _ _ _ h=>h) (Or.inl ⟨by rfl,?_⟩) ?_ ?_
    rotate_left
    ·intro w'
     go_simp
     with_reducible rfl
    rotate_left
    ·simp only [Act.put,NRM]
     rfl
    refine take_ (i:=14) (N:=some 26) (v:=?_) (a':=?_) (ba 23 524287) rfl rfl (take_ofW HT_.out HW_.out (by kernel_rfl)) (fun _ _ _ h=>h) (Or.inl ⟨by rfl,?_⟩) hHeld ?_ ?_
    rotate_left
    ·rintro w' ⟨s0,s1,s2,s3,s4⟩
     go_simp
     with_reducible rfl
    rotate_left
    ·simp only [Act.put,NRM]
     rfl
    refine take_ (i:=19) (N:=some 31) (v:=?_) (a':=?_) (ba 23 1048575) rfl rfl (take_ofW HT_.out HW_.out (by kernel_rfl)) (fun _ _ _ h=>h) (Or.inl ⟨by rfl,?_⟩) hHeld ?_ ?_
    rotate_left
    ·rintro w' ⟨s0,s1,s2,s3,s4⟩
     go_simp
     with_reducible rfl
    rotate_left
    ·simp only [Act.put,NRM]
     rfl
    refine pure_ (i:=20) (N:=some 32) (v:=?_) (a':=?_) (ba 23 2097151) rfl rfl (any_of HT_.out (by kernel_rfl)) (fun _ _ _ h=>h) (Or.inl ⟨by rfl,?_⟩) ?_ ?_
    rotate_left
    ·intro w'
     go_simp
     with_reducible rfl
    rotate_left
    ·simp only [Act.put,NRM]
     rfl
    refine pure_ (i:=21) (N:=some 33) (v:=?_) (a':=?_) (ba 23 4194303) rfl rfl (any_of HT_.out (by kernel_rfl)) (fun _ _ _ h=>h) (Or.inl ⟨by rfl,?_⟩) ?_ ?_
    rotate_left
    ·intro w'
     go_simp
     with_reducible rfl
    rotate_left
    ·simp only [Act.put,NRM]
     rfl
    refine pure_ (i:=22) (N:=some 34) (v:=?_) (a':=?_) (ba 23 8388607) rfl rfl (any_of HT_.out (by kernel_rfl)) (fun _ _ _ h=>h) (Or.inl ⟨by rfl,?_⟩) ?_ ?_
    rotate_left
    ·intro w'
     go_simp
     with_reducible rfl
    rotate_left
    ·simp only [Act.put,NRM]
     rfl
    refine done_ (done_of HT_.out (by kernel_rfl)) ?_
    try go_wp2
    go_ret
    exact ⟨by first | rfl | (simp [errW_none,errW_some]<;>rfl) | (simp only [← hji9];first | rfl | (simp [errW_none,errW_some]<;>rfl)) | (simp [*,errW_none,errW_some]<;>rfl),HB.out⟩
   ·rw [if_neg c12] at H
    have c12b0 : decide ((rd l1 x5_1)≤(rd l1 (ji9))) = false:=decide_eq_false c12
    clear c12
    replace H':=am H
    try go_wp2
    replace BK407:=am (blk_drew BK407.out)
    replace HB:=am (below_drew1 HB.out)
    have p408 : 0≤(x5_1 : Int):=of_decide_eq_true (by assumption)
    have q408 : x5_1 < (l1.length : Int):=of_decide_eq_true (by assumption)
    obtain ⟨ad408,e408,hx408_0⟩:=Kd.at_int HR1.out x5_1 p408 q408
    have hw408_0:=hx408_0
    cases e408
    replace hx408_0:=(HB.out.cell (wbl hx408_0)).trans hx408_0
    replace p408:=eq_true p408
    replace q408:=eq_true q408
    have p410 : 0≤(x5_1 : Int):=of_decide_eq_true (by assumption)
    have q410 : x5_1 < (l1.length : Int):=of_decide_eq_true (by assumption)
    obtain ⟨ad410,e410,hx410_0⟩:=Kd.at_int HR1.out x5_1 p410 q410
    have hw410_0:=hx410_0
    obtain rfl : ad408 = ad410:=(by injection e410)
    replace hx410_0:=(HB.out.cell (wbl hx410_0)).trans hx410_0
    replace p410:=eq_true p410
    replace q410:=eq_true q410
    have p411 : 0≤((ji9) : Int):=of_decide_eq_true (by assumption)
    have q411 : (ji9) < (l1.length : Int):=of_decide_eq_true (by assumption)
    obtain ⟨ad411,e411,hx411_0⟩:=Kd.at_int HR1.out (ji9) p411 q411
    have hw411_0:=hx411_0
    obtain rfl : ad408 = ad411:=(by injection e411)
    replace hx411_0:=(HB.out.cell (wbl hx411_0)).trans hx411_0
    replace p411:=eq_true p411
    replace q411:=eq_true q411
    refine start_ (n:=23) (S:=fun w'=>w'.cell? ⟨gb407,0,none⟩ = some (.slice A0_0 l0_0.length c0_0)∧w'.cell? ⟨gb407,1,none⟩ = some (.slice A0_1 l0_1.length c0_1)∧w'.cell? (ad408.add (x5_1).toNat) = some (.int .i64 (rd l1 x5_1))∧w'.cell? (ad408.add (x5_1).toNat) = some (.int .i64 (rd l1 x5_1))∧w'.cell? (ad408.add ((ji9)).toNat) = some (.int .i64 (rd l1 (ji9)))) (ds:=[]) (ba 23 0) (by kernel_rfl) rfl rfl ⟨(blk_cell BK407.out 0).trans rfl,(blk_cell BK407.out 1).trans rfl,((HB.out.cell (wbl hw408_0)).trans hw408_0),((HB.out.cell (wbl hw410_0)).trans hw410_0),((HB.out.cell (wbl hw411_0)).trans hw411_0)⟩ (fun hHeld=>?_);refine with_tabW l8_points.tab4 l8_points.bits4 (fun HT_ HW_=>?_)
    generalize wr.drew = w15 at BK407 HB hx408_0 hx410_0 hx411_0 hHeld ⊢
    refine pure_ (i:=1) (N:=some 13) (v:=?_) (a':=?_) (ba 23 2) rfl rfl (any_of HT_.out (by kernel_rfl)) (fun _ _ _ h=>h) (Or.inl ⟨by rfl,?_⟩) ?_ ?_
    rotate_left
    ·intro w'
     go_simp
     with_reducible rfl
    rotate_left
    ·simp only [Act.put,NRM]
     rfl
    refine pure_ (i:=2) (N:=some 14) (v:=?_) (a':=?_) (ba 23 6) rfl rfl (any_of HT_.out (by kernel_rfl)) (fun _ _ _ h=>h) (Or.inl ⟨by rfl,?_⟩) ?_ ?_
    rotate_left
    ·intro w'
     go_simp
     with_reducible rfl
    rotate_left
    ·simp only [Act.put,NRM]
     rfl
    refine pure_ (i:=3) (N:=some 15) (v:=?_) (a':=?_) (ba 23 14) rfl rfl (any_of HT_.out (by kernel_rfl)) (fun _ _ _ h=>h) (Or.inl ⟨by rfl,?_⟩) ?_ ?_
    rotate_left
    ·intro w'
     go_simp
     with_reducible rfl
    rotate_left
    ·simp only [Act.put,NRM]
     rfl
    refine take_ (i:=0) (N:=some 12) (v:=?_) (a':=?_) (ba 23 15) rfl rfl (take_ofW HT_.out HW_.out (by kernel_rfl)) (fun _ _ _ h=>h) (Or.inl ⟨by rfl,?_⟩) hHeld ?_ ?_
    rotate_left
    ·rintro w' ⟨s0,s1,s2,s3,s4⟩
     go_simp
     with_reducible rfl
    rotate_left
    ·simp only [Act.put,NRM]
     rfl
    refine take_ (i:=4) (N:=some 16) (v:=?_) (a':=?_) (ba 23 31) rfl rfl (take_ofW HT_.out HW_.out (by kernel_rfl)) (fun _ _ _ h=>h) (Or.inl ⟨by rfl,?_⟩) hHeld ?_ ?_
    rotate_left
    ·rintro w' ⟨s0,s1,s2,s3,s4⟩
     go_simp
     with_reducible rfl
    rotate_left
    ·simp only [Act.put,NRM]
     rfl
    refine one_ (i:=5) (N:=some 17) (ba 23 63) rfl rfl (one_of HT_.out (by kernel_rfl)) (by decide) (fun K hK=>?_)
    refine goes_ Tryz.func30 (by kernel_rfl) rfl #[.agg #[.slice A0_0 l0_0.length c0_0,.slice A0_1 l0_1.length c0_1],.int .i64 (rd l1 x5_1)] (by rfl) rfl rfl (by (try simp only [List.map_toArray,List.map_cons,List.map_nil]);first | done | rfl | (simp only [List.length_drop,List.length_take];rfl)) ?_
    with_reducible refine (q8_Point.calls _ _ l0_0 _ _ l0_1 (rd l1 x5_1) true _ ?side1 ?side2 ?side3 ?side4 A6.out).mono ?_
    (case side1=>exact kC HR0_0.out HB.out)
    (case side2=>exact HC0_0.out)
    (case side3=>exact kC HR0_1.out HB.out)
    (case side4=>exact HC0_1.out)
    rintro e w16 ⟨rfl,hb⟩
    refine ⟨_,rfl,?_⟩
    replace BK407:=(kmv hb BK407)
    replace HB:=am (below_step (HB.out) hb)
    (try clear hb)
    (try clear hb2)
    (try clear hk)
    (try clear hi)
    refine hK.out _ _ ⟨(blk_cell BK407.out 0).trans rfl,(blk_cell BK407.out 1).trans rfl,((HB.out.cell (wbl hw408_0)).trans hw408_0),((HB.out.cell (wbl hw410_0)).trans hw410_0),((HB.out.cell (wbl hw411_0)).trans hw411_0)⟩ (fun hHeld=>?_)
    clear hK K
    refine norm_ (a':=?_) ?_ ?_
    rotate_left
    ·show Act.put _ (some 17) _ = _
     simp only [Act.put,NRM]
     rfl
    refine pure_ (i:=6) (N:=some 18) (v:=?_) (a':=?_) (ba 23 127) rfl rfl (any_of HT_.out (by kernel_rfl)) (fun _ _ _ h=>h) (Or.inl ⟨by rfl,?_⟩) ?_ ?_
    rotate_left
    ·intro w'
     go_simp
     with_reducible rfl
    rotate_left
    ·simp only [Act.put,NRM]
     rfl
    refine pure_ (i:=7) (N:=some 19) (v:=?_) (a':=?_) (ba 23 255) rfl rfl (any_of HT_.out (by kernel_rfl)) (fun _ _ _ h=>h) (Or.inl ⟨by rfl,?_⟩) ?_ ?_
    rotate_left
    ·intro w'
     go_simp
     with_reducible rfl
    rotate_left
    ·simp only [Act.put,NRM]
     rfl
    refine pure_ (i:=8) (N:=some 20) (v:=?_) (a':=?_) (ba 23 511) rfl rfl (any_of HT_.out (by kernel_rfl)) (fun _ _ _ h=>h) (Or.inl ⟨by rfl,?_⟩) ?_ ?_
    rotate_left
    ·intro w'
     go_simp
     with_reducible rfl
    rotate_left
    ·simp only [Act.put,NRM]
     rfl
    refine pure_ (i:=9) (N:=some 21) (v:=?_) (a':=?_) (ba 23 1023) rfl rfl (any_of HT_.out (by kernel_rfl)) (fun _ _ _ h=>h) (Or.inl ⟨by rfl,?_⟩) ?_ ?_
    rotate_left
    ·intro w'
     go_simp
     with_reducible rfl
    rotate_left
    ·simp only [Act.put,NRM]
     rfl
    refine pure_ (i:=10) (N:=some 22) (v:=?_) (a':=?_) (ba 23 2047) rfl rfl (any_of HT_.out (by kernel_rfl)) (fun _ _ _ h=>h) (Or.inl ⟨by rfl,?_⟩) ?_ ?_
    rotate_left
    ·intro w'
     go_simp
     with_reducible rfl
    rotate_left
    ·simp only [Act.put,NRM]
     rfl
    refine pure_ (i:=11) (N:=some 23) (v:=?_) (a':=?_) (ba 23 4095) rfl rfl (any_of HT_.out (by kernel_rfl)) (fun _ _ _ h=>h) (Or.inl ⟨by rfl,?_⟩) ?_ ?_
    rotate_left
    ·intro w'
     go_simp
     with_reducible rfl
    rotate_left
    ·simp only [Act.put,NRM]
     rfl
    refine pure_ (i:=12) (N:=some 24) (v:=?_) (a':=?_) (ba 23 8191) rfl rfl (any_of HT_.out (by kernel_rfl)) (fun _ _ _ h=>h) (Or.inl ⟨by rfl,?_⟩) ?_ ?_
    rotate_left
    ·intro w'
     go_simp
     with_reducible rfl
    rotate_left
    ·simp only [Act.put,NRM]
     rfl
    refine pure_ (i:=13) (N:=some 25) (v:=?_) (a':=?_) (ba 23 16383) rfl rfl (any_of HT_.out (by kernel_rfl)) (fun _ _ _ h=>h) (Or.inl ⟨by rfl,?_⟩) ?_ ?_
    rotate_left
    ·intro w'
     go_simp
     with_reducible rfl
    rotate_left
    ·simp only [Act.put,NRM]
     rfl
    refine pure_ (i:=15) (N:=some 27) (v:=?_) (a':=?_) (ba 23 49151) rfl rfl (any_of HT_.out (by kernel_rfl)) (fun _ _ _ h=>h) (Or.inl ⟨by rfl,?_⟩) ?_ ?_
    rotate_left
    ·intro w'
     go_simp
     with_reducible rfl
    rotate_left
    ·simp only [Act.put,NRM]
     rfl
    refine pure_ (i:=16) (N:=some 28) (v:=?_) (a':=?_) (ba 23 114687) rfl rfl (any_of HT_.out (by kernel_rfl)) (fun _ _ _ h=>h) (Or.inl ⟨by rfl,?_⟩) ?_ ?_
    rotate_left
    ·intro w'
     go_simp
     with_reducible rfl
    rotate_left
    ·simp only [Act.put,NRM]
     rfl
    refine pure_ (i:=17) (N:=some 29) (v:=?_) (a':=?_) (ba 23 245759) rfl rfl (any_of HT_.out (by kernel_rfl)) (fun _ _ _ h=>h) (Or.inl ⟨by rfl,?_⟩) ?_ ?_
    rotate_left
    ·intro w'
     go_simp
     with_reducible rfl
    rotate_left
    ·simp only [Act.put,NRM]
     rfl
    refine pure_ (i:=18) (N:=some 30) (v:=?_) (a':=?_) (ba 23 507903) rfl rfl (any_of HT_.out (by kernel_rfl)) (fun _ _ _ h=>h) (Or.inl ⟨by rfl,?_⟩) ?_ ?_
    rotate_left
    ·intro w'
     go_simp
     with_reducible rfl
    rotate_left
    ·simp only [Act.put,NRM]
     rfl
    refine take_ (i:=14) (N:=some 26) (v:=?_) (a':=?_) (ba 23 524287) rfl rfl (take_ofW HT_.out HW_.out (by kernel_rfl)) (fun _ _ _ h=>h) (Or.inl ⟨by rfl,?_⟩) hHeld ?_ ?_
    rotate_left
    ·rintro w' ⟨s0,s1,s2,s3,s4⟩
     go_simp
     with_reducible rfl
    rotate_left
    ·simp only [Act.put,NRM]
     rfl
    refine take_ (i:=19) (N:=some 31) (v:=?_) (a':=?_) (ba 23 1048575) rfl rfl (take_ofW HT_.out HW_.out (by kernel_rfl)) (fun _ _ _ h=>h) (Or.inl ⟨by rfl,?_⟩) hHeld ?_ ?_
    rotate_left
    ·rintro w' ⟨s0,s1,s2,s3,s4⟩
     go_simp
     with_reducible rfl
    rotate_left
    ·simp only [Act.put,NRM]
     rfl
    refine pure_ (i:=20) (N:=some 32) (v:=?_) (a':=?_) (ba 23 2097151) rfl rfl (any_of HT_.out (by kernel_rfl)) (fun _ _ _ h=>h) (Or.inl ⟨by rfl,?_⟩) ?_ ?_
    rotate_left
    ·intro w'
     go_simp
     with_reducible rfl
    rotate_left
    ·simp only [Act.put,NRM]
     rfl
    refine pure_ (i:=21) (N:=some 33) (v:=?_) (a':=?_) (ba 23 4194303) rfl rfl (any_of HT_.out (by kernel_rfl)) (fun _ _ _ h=>h) (Or.inl ⟨by rfl,?_⟩) ?_ ?_
    rotate_left
    ·intro w'
     go_simp
     with_reducible rfl
    rotate_left
    ·simp only [Act.put,NRM]
     rfl
    refine pure_ (i:=22) (N:=some 34) (v:=?_) (a':=?_) (ba 23 8388607) rfl rfl (any_of HT_.out (by kernel_rfl)) (fun _ _ _ h=>h) (Or.inl ⟨by rfl,?_⟩) ?_ ?_
    rotate_left
    ·intro w'
     go_simp
     with_reducible rfl
    rotate_left
    ·simp only [Act.put,NRM]
     rfl
    refine done_ (done_of HT_.out (by kernel_rfl)) ?_
    try go_wp2
    go_roundg k1
    case measure=>have:=HK1.out;omega
    case rel=>exact ⟨(wrap64 (x5_1 + 1)),(by first | rfl | (simp;done) | (simp [*];done)),H',⟨by have:=HK1.out;omega⟩,⟨BK407.out⟩,⟨HB.out⟩⟩
def l8_right.f (k : Nat) (l0_0 : List (S37)) (l0_1 : List (S65)) (l1 : List Int) : Option (Bool):=(l8_short.f l0_0 l0_1).bind fun t309=>(if t309 = true then (if (l1.length : Int)≤10 then ((q8_Net.f k l0_0 l0_1).bind fun t310=>(if t310 = true then ((q8_Some.f k l0_0 l0_1 l1).bind fun t311=>(some t311)) else (some false))) else (some false)) else (some false))
theorem l8_right.calls (k : Nat) (A0_0 : Option Addr) (c0_0 : Nat) (l0_0 : List (S37)) (A0_1 : Option Addr) (c0_1 : Nat) (l0_1 : List (S65)) (A1 : Option Addr) (c1 : Nat) (l1 : List Int) (r : Bool) (w : World) (hr0_0 : Kd.C k37 w A0_0 l0_0.length l0_0) (hc0_0 : l0_0.length≤c0_0) (hr0_1 : Kd.C k65 w A0_1 l0_1.length l0_1) (hc0_1 : l0_1.length≤c0_1) (hr1 : Kd.C (Kd.int .i64) w A1 l1.length l1) (hc1 : l1.length≤c1) (h : l8_right.f k l0_0 l0_1 l1 = some r) :
 Calls Tryz.prog 21 #[.agg #[.slice A0_0 l0_0.length c0_0,.slice A0_1 l0_1.length c0_1],.slice A1 l1.length c1] w fun e w'=>e = .returned (.bool r)∧Below w.heap.size w w':=by
 have hu25:=Tryz.underlying25
 have HR0_0:=am hr0_0
 have HC0_0:=am hc0_0
 clear hr0_0 hc0_0
 have HR0_1:=am hr0_1
 have HC0_1:=am hc0_1
 clear hr0_1 hc0_1
 have HR1:=am hr1
 have HC1:=am hc1
 clear hr1 hc1
 have HB:=am (Below.refl w.heap.size w)
 have H : ((l8_short.f l0_0 l0_1).bind fun t309=>(if t309 = true then (if (l1.length : Int)≤10 then ((q8_Net.f k l0_0 l0_1).bind fun t310=>(if t310 = true then ((q8_Some.f k l0_0 l0_1 l1).bind fun t311=>(some t311)) else (some false))) else (some false)) else (some false))) = some r:=h
 clear h
 replace H:=obm H
 obtain ⟨t309,A30,H⟩:=H
 replace H : (if t309 = true then (if (l1.length : Int)≤10 then ((q8_Net.f k l0_0 l0_1).bind fun t310=>(if t310 = true then ((q8_Some.f k l0_0 l0_1 l1).bind fun t311=>(some t311)) else (some false))) else (some false)) else (some false)) = some r:=H
 have A3:=am A30
 clear A30
 by_cases c4 : t309 = true
 case neg =>
  replace c4:=Bool.eq_false_iff.mpr c4
  subst c4
  replace H : (some false) = some r:=by rw [if_neg (show ¬ (false = true) by decide)] at H;exact H
  obtain rfl:=Option.some.inj H
  go_enter Tryz.func21,Tryz.ntmps21
  go_wp2_with (first | ((refine ga_dst (N:=2) rfl ?_);(try (refine ga_guard (by rfl) ?_;dsimp only));refine box_event rfl (N:=2) rfl (cs:=#[.slice A0_0 l0_0.length c0_0,.slice A0_1 l0_1.length c0_1]) (t:=25) ?hr ?_;(case hr=>go_simp;try rfl);intro gb308 hg w24 hbox hb;have BK308:=am (hbox);have GW308:=am (ge_new (HB.out) hg);have GE308:=am (ge_new (HB.out) hg);replace HB:=am (below_step (HB.out) hb);clear hb hbox hg;obtain ⟨hcz25_0,hcz25_1⟩:=cO2 BK308.out) | ((with_reducible refine ga_callee (f:=14) rfl ?_);refine goesL_ (some 6) rfl rfl Tryz.func14 (by kernel_rfl) rfl #[.agg #[.slice A0_0 l0_0.length c0_0,.slice A0_1 l0_1.length c0_1]] rfl (by (try simp only [List.map_toArray,List.map_cons,List.map_nil]);first | done | rfl | (simp only [List.length_drop,List.length_take];rfl)) ?_;(refine (l8_short.calls _ _ l0_0 _ _ l0_1 false _ ?side1 ?side2 ?side3 ?side4 A3.out).mono ?_);(case side1=>exact kC HR0_0.out HB.out);(case side2=>exact HC0_0.out);(case side3=>exact kC HR0_1.out HB.out);(case side4=>exact HC0_1.out);rintro e w26 ⟨rfl,hb⟩;refine ⟨_,rfl,?_⟩;replace BK308:=(kmv hb BK308);replace HB:=am (below_step (HB.out) hb);(try clear hb);(try clear hb2);(try clear hk);(try clear hi)))
  go_ret
  exact ⟨by first | rfl | (simp [*]<;>rfl),HB.out⟩
 subst c4
 replace H : (if (l1.length : Int)≤10 then ((q8_Net.f k l0_0 l0_1).bind fun t310=>(if t310 = true then ((q8_Some.f k l0_0 l0_1 l1).bind fun t311=>(some t311)) else (some false))) else (some false)) = some r:=by rw [if_pos rfl] at H;exact H
 by_cases c5 : (l1.length : Int)≤10
 case neg =>
  rw [if_neg c5] at H
  have c5b0 : decide ((l1.length : Int)≤10) = false:=decide_eq_false c5
  have c5b1 : decide (l1.length≤10) = false:=decide_eq_false (by omega)
  clear c5
  obtain rfl:=Option.some.inj H
  go_enter Tryz.func21,Tryz.ntmps21
  go_wp2_with (first | ((refine ga_dst (N:=2) rfl ?_);(try (refine ga_guard (by rfl) ?_;dsimp only));refine box_event rfl (N:=2) rfl (cs:=#[.slice A0_0 l0_0.length c0_0,.slice A0_1 l0_1.length c0_1]) (t:=25) ?hr ?_;(case hr=>go_simp;try rfl);intro gb308 hg w21 hbox hb;have BK308:=am (hbox);have GW308:=am (ge_new (HB.out) hg);have GE308:=am (ge_new (HB.out) hg);replace HB:=am (below_step (HB.out) hb);clear hb hbox hg;obtain ⟨hcz22_0,hcz22_1⟩:=cO2 BK308.out) | ((with_reducible refine ga_callee (f:=14) rfl ?_);refine goesL_ (some 6) rfl rfl Tryz.func14 (by kernel_rfl) rfl #[.agg #[.slice A0_0 l0_0.length c0_0,.slice A0_1 l0_1.length c0_1]] rfl (by (try simp only [List.map_toArray,List.map_cons,List.map_nil]);first | done | rfl | (simp only [List.length_drop,List.length_take];rfl)) ?_;(refine (l8_short.calls _ _ l0_0 _ _ l0_1 true _ ?side1 ?side2 ?side3 ?side4 A3.out).mono ?_);(case side1=>exact kC HR0_0.out HB.out);(case side2=>exact HC0_0.out);(case side3=>exact kC HR0_1.out HB.out);(case side4=>exact HC0_1.out);rintro e w23 ⟨rfl,hb⟩;refine ⟨_,rfl,?_⟩;replace BK308:=(kmv hb BK308);replace HB:=am (below_step (HB.out) hb);(try clear hb);(try clear hb2);(try clear hk);(try clear hi)))
  go_ret
  exact ⟨by first | rfl | (simp [*]<;>rfl),HB.out⟩
 rw [if_pos c5] at H
 have c5b0 : decide ((l1.length : Int)≤10) = true:=decide_eq_true c5
 have c5b1 : decide (l1.length≤10) = true:=decide_eq_true (by omega)
 clear c5
 replace H:=obm H
 obtain ⟨t310,A60,H⟩:=H
 replace H : (if t310 = true then ((q8_Some.f k l0_0 l0_1 l1).bind fun t311=>(some t311)) else (some false)) = some r:=H
 have A6:=am A60
 clear A60
 by_cases c7 : t310 = true
 case neg =>
  replace c7:=Bool.eq_false_iff.mpr c7
  subst c7
  replace H : (some false) = some r:=by rw [if_neg (show ¬ (false = true) by decide)] at H;exact H
  obtain rfl:=Option.some.inj H
  go_enter Tryz.func21,Tryz.ntmps21
  go_wp2_with (first | ((refine ga_dst (N:=2) rfl ?_);(try (refine ga_guard (by rfl) ?_;dsimp only));refine box_event rfl (N:=2) rfl (cs:=#[.slice A0_0 l0_0.length c0_0,.slice A0_1 l0_1.length c0_1]) (t:=25) ?hr ?_;(case hr=>go_simp;try rfl);intro gb308 hg w16 hbox hb;have BK308:=am (hbox);have GW308:=am (ge_new (HB.out) hg);have GE308:=am (ge_new (HB.out) hg);replace HB:=am (below_step (HB.out) hb);clear hb hbox hg;obtain ⟨hcz17_0,hcz17_1⟩:=cO2 BK308.out) | ((with_reducible refine ga_callee (f:=14) rfl ?_);refine goesL_ (some 6) rfl rfl Tryz.func14 (by kernel_rfl) rfl #[.agg #[.slice A0_0 l0_0.length c0_0,.slice A0_1 l0_1.length c0_1]] rfl (by (try simp only [List.map_toArray,List.map_cons,List.map_nil]);first | done | rfl | (simp only [List.length_drop,List.length_take];rfl)) ?_;(refine (l8_short.calls _ _ l0_0 _ _ l0_1 true _ ?side1 ?side2 ?side3 ?side4 A3.out).mono ?_);(case side1=>exact kC HR0_0.out HB.out);(case side2=>exact HC0_0.out);(case side3=>exact kC HR0_1.out HB.out);(case side4=>exact HC0_1.out);rintro e w18 ⟨rfl,hb⟩;refine ⟨_,rfl,?_⟩;replace BK308:=(kmv hb BK308);replace HB:=am (below_step (HB.out) hb);(try clear hb);(try clear hb2);(try clear hk);(try clear hi);obtain ⟨hcz19_0,hcz19_1⟩:=cO2 BK308.out) | (go_at_call 17;(refine (q8_Net.calls k _ _ l0_0 _ _ l0_1 false _ ?side1 ?side2 ?side3 ?side4 A6.out).mono ?_);(case side1=>exact kC HR0_0.out HB.out);(case side2=>exact HC0_0.out);(case side3=>exact kC HR0_1.out HB.out);(case side4=>exact HC0_1.out);rintro e w20 ⟨rfl,hb⟩;replace BK308:=(kmv hb BK308);replace HB:=am (below_step (HB.out) hb);(try clear hb);(try clear hb2);(try clear hk);(try clear hi)))
  go_ret
  exact ⟨by first | rfl | (simp [*]<;>rfl),HB.out⟩
 subst c7
 replace H : ((q8_Some.f k l0_0 l0_1 l1).bind fun t311=>(some t311)) = some r:=by rw [if_pos rfl] at H;exact H
 replace H:=obm H
 obtain ⟨t311,A80,H⟩:=H
 replace H : (some t311) = some r:=H
 have A8:=am A80
 clear A80
 obtain rfl:=Option.some.inj H
 go_enter Tryz.func21,Tryz.ntmps21
 go_wp2_with (first | ((refine ga_dst (N:=2) rfl ?_);(try (refine ga_guard (by rfl) ?_;dsimp only));refine box_event rfl (N:=2) rfl (cs:=#[.slice A0_0 l0_0.length c0_0,.slice A0_1 l0_1.length c0_1]) (t:=25) ?hr ?_;(case hr=>go_simp;try rfl);intro gb308 hg w9 hbox hb;have BK308:=am (hbox);have GW308:=am (ge_new (HB.out) hg);have GE308:=am (ge_new (HB.out) hg);replace HB:=am (below_step (HB.out) hb);clear hb hbox hg;obtain ⟨hcz10_0,hcz10_1⟩:=cO2 BK308.out) | ((with_reducible refine ga_callee (f:=14) rfl ?_);refine goesL_ (some 6) rfl rfl Tryz.func14 (by kernel_rfl) rfl #[.agg #[.slice A0_0 l0_0.length c0_0,.slice A0_1 l0_1.length c0_1]] rfl (by (try simp only [List.map_toArray,List.map_cons,List.map_nil]);first | done | rfl | (simp only [List.length_drop,List.length_take];rfl)) ?_;(refine (l8_short.calls _ _ l0_0 _ _ l0_1 true _ ?side1 ?side2 ?side3 ?side4 A3.out).mono ?_);(case side1=>exact kC HR0_0.out HB.out);(case side2=>exact HC0_0.out);(case side3=>exact kC HR0_1.out HB.out);(case side4=>exact HC0_1.out);rintro e w11 ⟨rfl,hb⟩;refine ⟨_,rfl,?_⟩;replace BK308:=(kmv hb BK308);replace HB:=am (below_step (HB.out) hb);(try clear hb);(try clear hb2);(try clear hk);(try clear hi);obtain ⟨hcz12_0,hcz12_1⟩:=cO2 BK308.out) | (go_at_call 17;(refine (q8_Net.calls k _ _ l0_0 _ _ l0_1 true _ ?side1 ?side2 ?side3 ?side4 A6.out).mono ?_);(case side1=>exact kC HR0_0.out HB.out);(case side2=>exact HC0_0.out);(case side3=>exact kC HR0_1.out HB.out);(case side4=>exact HC0_1.out);rintro e w13 ⟨rfl,hb⟩;replace BK308:=(kmv hb BK308);replace HB:=am (below_step (HB.out) hb);(try clear hb);(try clear hb2);(try clear hk);(try clear hi);obtain ⟨hcz14_0,hcz14_1⟩:=cO2 BK308.out) | (go_at_call 18;(refine (q8_Some.calls k _ _ l0_0 _ _ l0_1 _ _ l1 t311 _ ?side1 ?side2 ?side3 ?side4 ?side5 ?side6 A8.out).mono ?_);(case side1=>exact kC HR0_0.out HB.out);(case side2=>exact HC0_0.out);(case side3=>exact kC HR0_1.out HB.out);(case side4=>exact HC0_1.out);(case side5=>exact kC HR1.out HB.out);(case side6=>exact HC1.out);rintro e w15 ⟨rfl,hb⟩;replace BK308:=(kmv hb BK308);replace HB:=am (below_step (HB.out) hb);(try clear hb);(try clear hb2);(try clear hk);(try clear hi)))
 go_ret
 exact ⟨by first | rfl | (simp [*]<;>rfl),HB.out⟩
end Go.Proofs.YtclkbedbocnpkaaGreatDoor.C
namespace Go.Proofs.YtclkbedbocnpkaaGreatDoor.C
open Go Go.RowKit Go.Proofs.YtclkbedbocnpkaaGreatDoorW.PrintWords Go.Proofs.YtclkbedbocnpkaaGreatDoorW.PrintLast Go.Proofs.YtclkbedbocnpkaaGreatDoorW.PrintMore
set_option linter.unusedVariables false
set_option linter.unusedSimpArgs false
set_option maxHeartbeats 16000000
set_option maxRecDepth 100000
section
variable {pts : List Pt} {ch : List Ch}
def rightS (pts : List Pt) (ch : List Ch) (op : List Int) : Bool:=shortB pts ch && (decide (op.length≤10) && (netS pts ch && someS ch op))
theorem right_eq {op : List Int} {k : Nat} (hk : 1000≤k) : l8_right.f k pts ch op = some (rightS pts ch op):=by
 unfold l8_right.f rightS
 rw [short_eq]
 simp only [Option.bind_some]
 by_cases hs : shortB pts ch = true
 case neg=>simp [hs]
 obtain ⟨hp,hc⟩:=shortB_iff.1 hs
 by_cases hl : op.length≤10
 case neg=>rw [if_pos hs,if_neg (by omega)];simp [hl]
 rw [if_pos hs,if_pos (by omega),rNet_eq (by omega) (by omega) (by omega)]
 simp only [Option.bind_some]
 by_cases hn : netS pts ch = true
 case neg=>simp [hn]
 rw [if_pos hn,rSome_eq (by omega) (by omega) (by omega)]
 simp [hs,hl,hn]
def ptsS (n : Nat) (l : List Int) : Bool:=allFrom (fun j=>isPtS n (l.getD j 0) && (decide (j = 0) || decide (l.getD (j - 1) 0 < l.getD j 0))) l.length 0
theorem points_go' (hp : pts.length≤1000) {l : List Int} (hl : l.length≤1000) : ∀ (d k i : Nat),i + d = l.length→d < k→l8_points.l0 k l (i : Int) pts ch = some (allFrom (fun j=>isPtS pts.length (l.getD j 0) && (decide (j = 0) || decide (l.getD (j - 1) 0 < l.getD j 0))) d i)
 | _,0,_,_,hk=>by omega
 | 0,k + 1,i,hd,_=>by
  unfold l8_points.l0
  rw [if_neg (by omega)];rfl
 | d + 1,k + 1,i,hd,hk=>by
  have ih:=points_go' hp hl d k (i + 1) (by omega) (by omega)
  unfold l8_points.l0
  rw [if_pos (by omega),if_pos (by omega),rd_nat,rPoint_eq hp]
  simp only [Option.bind_some]
  unfold allFrom
  cases isPtS pts.length (l.getD i 0) with
  | false=>simp
  | true =>
   rw [if_pos rfl,Bool.true_and]
   cases i with
   | zero=>rw [if_neg (by omega),wr (by omega) (by omega),decide_eq_true rfl,Bool.true_or,Bool.true_and];exact ih
   | succ i =>
    rw [if_pos (by omega),wr (x:=((i + 1 : Nat) : Int) - 1) (by omega) (by omega),if_pos (by omega),if_pos (by omega),wr (by omega) (by omega),show ((i + 1 : Nat) : Int) - 1 = (i : Int) by omega,rd_nat,decide_eq_false (show ¬ i + 1 = 0 by omega),Bool.false_or,show i + 1 - 1 = i from rfl]
    by_cases c : l.getD (i + 1) 0≤l.getD i 0
    ·rw [if_pos c,decide_eq_false (by omega)];rfl
    ·rw [if_neg c,decide_eq_true (by omega),Bool.true_and];exact ih
theorem rpoints_eq (hp : pts.length≤1000) {l : List Int} (hl : l.length≤1000) {k : Nat} (hk : 1001≤k) : l8_points.f k pts ch l = some (ptsS pts.length l):=points_go' hp hl l.length k 0 (by omega) (by omega)
theorem sorted_iff {l : List Int} {G : Int→Bool} : allFrom (fun j=>G (l.getD j 0) && (decide (j = 0) || decide (l.getD (j - 1) 0 < l.getD j 0))) l.length 0 = true↔(∀ c ∈ l,G c = true)∧l.Pairwise (· < ·):=by
 rw [allFrom_iff]
 constructor
 ·intro h
  have h1 : ∀ j,j < l.length→G (l.getD j 0) = true∧(j = 0∨l.getD (j - 1) 0 < l.getD j 0):=fun j hj=>by
   have:=h j (Nat.zero_le _) (by omega)
   simpa using this
  have h2 : ∀ d i,i + d + 1 < l.length→l.getD i 0 < l.getD (i + d + 1) 0:=by
   intro d
   induction d with
   | zero =>
    intro i hi
    have:=(h1 (i + 1) (by omega)).2
    rcases this with h | h
    ·omega
    ·exact h
   | succ d ih =>
    intro i hi
    have a:=ih i (by omega)
    have:=(h1 (i + (d + 1) + 1) (by omega)).2
    rcases this with h | h
    ·omega
    ·rw [show i + (d + 1) + 1 - 1 = i + d + 1 by omega] at h;omega
  refine ⟨fun c hc=>?_,?_⟩
  ·obtain ⟨j,hj,rfl⟩:=List.mem_iff_getElem.1 hc
   have:=(h1 j hj).1
   rwa [List.getD_eq_getElem?_getD,List.getElem?_eq_getElem hj] at this
  ·rw [List.pairwise_iff_getElem]
   intro i j hi hj hij
   have:=h2 (j - i - 1) i (by omega)
   rw [show i + (j - i - 1) + 1 = j by omega] at this
   rwa [List.getD_eq_getElem?_getD,List.getElem?_eq_getElem hi,List.getD_eq_getElem?_getD,List.getElem?_eq_getElem hj] at this
 ·rintro ⟨h1,h2⟩ j _ hj
  have hj' : j < l.length:=by omega
  rw [List.pairwise_iff_getElem] at h2
  have a : G (l.getD j 0) = true:=by
   rw [List.getD_eq_getElem?_getD,List.getElem?_eq_getElem hj']
   exact h1 _ (List.getElem_mem hj')
  rw [a,Bool.true_and,Bool.or_eq_true]
  by_cases h0 : j = 0
  ·exact .inl (decide_eq_true h0)
  ·refine .inr (decide_eq_true ?_)
   rw [List.getD_eq_getElem?_getD,List.getD_eq_getElem?_getD,List.getElem?_eq_getElem hj',List.getElem?_eq_getElem (show j - 1 < l.length by omega)]
   exact h2 (j - 1) j (by omega) hj' (by omega)
theorem ptsS_iff {n : Nat} {l : List Int} : ptsS n l = true↔(∀ p ∈ l,0≤p∧p < (n : Int))∧l.Pairwise (· < ·):=by
 unfold ptsS
 rw [sorted_iff]
 unfold isPtS
 simp only [decide_eq_true_eq]
theorem sorted_len : ∀ {n : Nat} {l : List Int},(∀ p ∈ l,0≤p∧p < (n : Int))→l.Pairwise (· < ·)→l.length≤n:=by
 intro n l h hs
 have:=(sub_of_sorted (nums_sorted n) hs fun z hz=>numsL_mem.2 (h z hz)).length_le
 rwa [numsL_len] at this
end
end Go.Proofs.YtclkbedbocnpkaaGreatDoor.C

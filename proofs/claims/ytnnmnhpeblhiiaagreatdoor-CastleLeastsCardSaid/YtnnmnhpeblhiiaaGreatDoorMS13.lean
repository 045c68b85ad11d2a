/- A part of the proof: the walks of the functions that it reaches. TIGHT. -/
import Derived.Test.YtnnmnhpeblhiiaaGreatDoorMS12
set_option linter.unusedSimpArgs false
set_option linter.unusedVariables false
namespace Go.Proofs.YtnnmnhpeblhiiaaGreatDoor.C
open Go.RowKit Go.Proofs.YtnnmnhpeblhiiaaGreatDoorW.PrintWords Go.Proofs.YtnnmnhpeblhiiaaGreatDoorW.PrintLast Go.Proofs.YtnnmnhpeblhiiaaGreatDoorW.PrintMore
set_option maxHeartbeats 16000000
set_option maxRecDepth 100000
def zkh (x : S27) (y : Int × Int × Int × List (List Int)) : S110:=⟨⟨⟨x.f0.f0,y.1⟩,x.f1,y.2.1,y.2.2.1⟩,y.2.2.2⟩
def zxx : List S27→List S110→Option (List S110)
 | [],acc=>some acc
 | x :: xs,acc=>(ca_fill.f (fillK x.f1.length) x.f0.f0 x.f0.f1 x.f1 x.f2 x.f3).bind fun y=>if acc.length < 1466015503701 then zxx xs (acc ++ [zkh x y]) else none
def ca_basins.f (lA : List S27) : Option (List S110):=zxx lA []
theorem infoFilled : (Tryz.prog.info? 110).map (fun i=>(i.zero,i.size,i.bytes)) = some (some (.agg #[(.slice none 0 0),(.int .i64 0),(.slice none 0 0),(.int .i64 0),(.int .i64 0),(.slice none 0 0)]),6,96):=by kernel_rfl
theorem leOf {a : Nat} {W wc : World} (_ : Below W.heap.size W wc) (h : a≤W.heap.size) : a≤W.heap.size:=h
theorem basinsF {w wr wc : World} {u3 : Value} {acc : List S110} {A0 A2 A5 : Option Addr} {c0 c2 c5 : Nat} (HN : Kd.N k110 110 wr w.heap.size (fun _=>True) u3 acc) (HB : Below w.heap.size w wc) (NB : Below wr.heap.size wr wc) (x : S27) (y1 y2 y3 : Int) (y4 : List (List Int)) (hl0 : x.f0.f0.length≤c0) (hi0 : Kd.C k126 w A0 x.f0.f0.length x.f0.f0) (hl2 : x.f1.length≤c2) (hi2 : Kd.C k48 w A2 x.f1.length x.f1) {n : Nat} (hn : wr.heap.size≤n)
 (hs : Kd.S (Kd.slice 3 (Kd.int .i64)) 28 wc n (fun k=>True∧n≤k∧k < wc.heap.size∧∃ q,q ∈ 28 :: (Kd.slice 3 (Kd.int .i64)).E∧∃ cells,wc.heap[k]? = some (.cells cells q (0,0))) (.slice A5 y4.length c5) y4) :
 Kd.FK k110 wc (fun k=>some k ≠ u3.ownBlock) (zkh x (y1,y2,y3,y4)) [.slice A0 x.f0.f0.length c0,.int .i64 y1,.slice A2 x.f1.length c2,.int .i64 y2,.int .i64 y3,.slice A5 y4.length c5]:=by
 have h1 : ∀ k,k < w.heap.size→some k ≠ u3.ownBlock:=fun k hk he=>by have:=Kd.N_base HN k he.symm;omega
 have h2 : ∀ k,n≤k→some k ≠ u3.ownBlock:=fun k hk he=>by have:=Kd.N_lt HN k he.symm;omega
 have h5 : y4.length≤c5:=(Kd.R_reads' (Kd.S_R hs)).2.1
 exact k110_mkF _ _ (zkh x (y1,y2,y3,y4)) hl0 (Kd.F_mono (Kd.F_below (Kd.C_F (Kd.heap_iso _ (Kd.heap_pair (Kd.heap_int _) (Kd.heap_pair (Kd.heap_int _) (Kd.heap_int _)))) hi0) HB) h1) hl2 (Kd.F_mono (Kd.F_below (Kd.C_F (Kd.heap_iso _ (Kd.heap_pair (Kd.heap_int _) (Kd.heap_int _))) hi2) HB) h1) h5 (Kd.F_mono (Kd.S_F hs) (fun k hk=>h2 k hk.2.1))
theorem ca_basins.calls (AX : Option Addr) (c0_0 : Nat) (lA : List S27) (AZ : Option Addr) (n0_1 cC : Nat) (r : List S110) (w : World) (hra : Kd.C k27 w AX lA.length lA) (hc0_0 : lA.length≤c0_0) (h : ca_basins.f lA = some r) :
 Calls Tryz.prog 82 #[.agg #[.slice AX lA.length c0_0,.slice AZ n0_1 cC]] w fun e w'=>∃ (A : Option Addr) (c : Nat),e = .returned (.slice A r.length c)∧r.length≤c∧Kd.C k110 w' A r.length r∧Below w.heap.size w w':=by
 have hu:=Tryz.underlying59
 have hub:=Tryz.underlying27
 have HM:=am (Kd.C_max hra)
 have HR0:=am hra
 have HB:=am (Below.refl w.heap.size w)
 have HQ:=am h
 clear hra hc0_0 h
 go_enter Tryz.func82,Tryz.ntmps82
 go_wp2_with ((refine zqm (N:=1) rfl ?_);(try (refine zqs (by rfl) ?_;dsimp only));refine zqk rfl (N:=1) rfl (cs:=#[.slice AX lA.length c0_0,.slice AZ n0_1 cC]) (t:=59) ?hr ?_;(case hr=>go_simp;try rfl);intro gc hg w1 hbox hb;replace HB:=(bmv HB hb);clear hg;have BKgc:=am hbox;clear hbox;(try clear hczgc_0 hfzgc_0);have hczgc_0:=cO1 BKgc.out;have hfzgc_0:=zqe BKgc.out 0;(try clear hczgc_1 hfzgc_1);have hczgc_1 : w1.cell? ⟨gc,1,none⟩ = some (.slice AZ n0_1 cC):=(zqb BKgc.out 1).trans rfl;have hfzgc_1:=zqe BKgc.out 1;clear hb)
 go_loopw [3,9] (fun v3 v9 w'=>∃ (acc : List S110) (i : Int),0≤i∧i≤lA.length∧v9 = .int .i64 i∧zqg (zxx (lA.drop i.toNat) acc = some r)∧zqg (Kd.N k110 110 w' w.heap.size (fun _=>True) v3 acc)∧zqg (Below w.heap.size w w')) (fun _ v9 _=>lA.length - (intOf v9).toNat)
 case atStart=>exact ⟨[],0,by omega,by omega,rfl,HQ,⟨Kd.N_nil _ _ _ _ _⟩,HB⟩
 case round =>
  clear HQ HB BKgc hczgc_0 hfzgc_0 hczgc_1 hfzgc_1
  obtain ⟨acc,i,p1,hi,rfl,HQ,HN,HB⟩:=hrel
  have hm:=HM.out
  by_cases hlt : i < (lA.length : Int)
  case neg =>
   go_wp2
   go_ret
   have hq:=HQ.out
   rw [List.drop_of_length_le (by omega)] at hq
   obtain rfl:=Option.some.inj hq
   obtain ⟨A,c,rfl,hl,hc⟩:=Kd.N_reads HN.out
   exact ⟨A,c,rfl,hl,hc,HB.out⟩
  obtain ⟨ad,A0,c0,A2,c2,e1,hx0,hx1,hx2,hx3,hx4,hl0,hi0,hl2,hi2⟩:=zvf HR0.out i p1 hlt
  cases e1
  replace hx0:=(HB.out.cell (wbl hx0)).trans hx0
  replace hx1:=(HB.out.cell (wbl hx1)).trans hx1
  replace hx2:=(HB.out.cell (wbl hx2)).trans hx2
  replace hx3:=(HB.out.cell (wbl hx3)).trans hx3
  replace hx4:=(HB.out.cell (wbl hx4)).trans hx4
  have hq:=HQ.out
  rw [zx7 z27 lA i p1 hlt,show lA.getD i.toNat z27 = zqo lA i from rfl] at hq
  simp only [zxx] at hq
  generalize zqo lA i = x at *
  obtain ⟨y,hy,hq⟩:=obm hq
  obtain ⟨y1,y2,y3,y4⟩:=y
  have HY:=am hy
  clear hy HQ
  by_cases hl : acc.length < 1466015503701
  case neg =>
   rw [if_neg hl] at hq;cases hq
  rw [if_pos hl] at hq
  have HQ:=am hq
  have HL:=am hl
  clear hq hl
  have HI0:=am hi0
  have HL0:=am hl0
  have HI2:=am hi2
  have HL2:=am hl2
  clear hi0 hl0 hi2 hl2
  go_wp2_with (first | ((refine zqm (N:=5) rfl ?_);refine zqk rfl (N:=5) rfl (cs:=#[.slice none 0 0,.int .i64 0,.slice none 0 0,.int .i64 0,.int .i64 0]) (t:=27) ?hr ?_;(case hr=>go_simp;try rfl);intro gb hg w2 hbox hb;have GB:=am (show w.heap.size≤gb by have:=HB.out.size;omega);have GB2:=am (Nat.le_of_eq hg.symm);have NB:=am hb;have n3:=(bmv HB hb);have BKgb:=am hbox;clear hg hb hbox HB;have HB:=n3;clear n3;have hczgb_0:=cO1 BKgb.out;have hfzgb_0:=zqe BKgb.out 0;have hczgb_1 : w2.cell? ⟨gb,1,none⟩ = some (.int .i64 0):=(zqb BKgb.out 1).trans rfl;have hfzgb_1:=zqe BKgb.out 1;have hczgb_2 : w2.cell? ⟨gb,2,none⟩ = some (.slice none 0 0):=(zqb BKgb.out 2).trans rfl;have hfzgb_2:=zqe BKgb.out 2;have hczgb_3 : w2.cell? ⟨gb,3,none⟩ = some (.int .i64 0):=(zqb BKgb.out 3).trans rfl;have hfzgb_3:=zqe BKgb.out 3;have hczgb_4 : w2.cell? ⟨gb,4,none⟩ = some (.int .i64 0):=(zqb BKgb.out 4).trans rfl;have hfzgb_4:=zqe BKgb.out 4) | (go_at_call 69;(with_reducible refine (ca_fill.calls (fillK x.f1.length) A0 c0 x.f0.f0 x.f0.f1 A2 c2 x.f1 x.f2 x.f3 y1 y2 y3 y4 _ (kC HI0.out (zqd (zqd (zqd (zqd (zqd HB.out GB.out) GB.out) GB.out) GB.out) GB.out)) HL0.out (kC HI2.out (zqd (zqd (zqd (zqd (zqd HB.out GB.out) GB.out) GB.out) GB.out) GB.out)) HL2.out HY.out).mono ?_);rintro e wc ⟨v3_,rfl,hs,hb⟩;have n1:=am (zqu (zqd (zqd (zqd (zqd (zqd HB.out GB.out) GB.out) GB.out) GB.out) GB.out) ((zqd (zqd (zqd (zqd (zqd HB.out GB.out) GB.out) GB.out) GB.out) GB.out)).size hb);have n2:=am (zqu (zqd (zqd (zqd (zqd (zqd NB.out GB2.out) GB2.out) GB2.out) GB2.out) GB2.out) ((zqd (zqd (zqd (zqd (zqd NB.out GB2.out) GB2.out) GB2.out) GB2.out) GB2.out)).size hb);have NL:=am (leOf hb ((zqd (zqd (zqd (zqd (zqd NB.out GB2.out) GB2.out) GB2.out) GB2.out) GB2.out)).size);have n4:=am (Kd.S_bound hs);clear HB NB hb hs BKgb;(try clear hczgb_0 hczgb_1 hczgb_2 hczgb_3 hczgb_4 hfzgb_0 hfzgb_1 hfzgb_2 hfzgb_3 hfzgb_4);have HB:=n1;have NB:=n2;have HS:=n4;clear n1 n2 n4;obtain ⟨A5,c5,e5⟩:=Kd.S_slice HS.out;subst e5) | ((with_reducible refine zqy (b:=.append) (xs:=#[.tmp 13,.tmp 16]) rfl ?_);at_builtin;refine Kd.N_append k110 (w0:=w) w.heap.size rfl (.tmp 13) (.tmp 16) 122 110 (.agg #[(.slice none 0 0),(.int .i64 0),(.slice none 0 0),(.int .i64 0),(.int .i64 0),(.slice none 0 0)]) 96 rfl Tryz.underlying122 infoFilled rfl (by decide) (by omega) u3 acc (zkh x (y1,y2,y3,y4)) [.slice A0 x.f0.f0.length c0,.int .i64 y1,.slice A2 x.f1.length c2,.int .i64 y2,.int .i64 y3,.slice A5 y4.length c5] (fun _=>True) (fun k=>some k ≠ (u3 : Value).ownBlock) rfl rfl ?aP (fun _ hk=>⟨trivial,hk⟩) (fun _ _=>trivial) ?aO HB.out HB.out.size ?aL ?_;(case aP=>exact basinsF HN.out HB.out NB.out x y1 y2 y3 y4 HL0.out HI0.out HL2.out HI2.out (NL.out) HS.out);(case aO=>exact Kd.N_below HN.out NB.out);(case aL=>have:=HL.out;omega);intro v1 w3 ho hb hg hat;have n1:=am ho;have n2:=am hb;clear ho hb hg hat HB NB HS HN;have HN:=n1;have HB:=n2;clear n1 n2))
  go_roundw
  case rel=>exact ⟨acc ++ [zkh x (y1,y2,y3,y4)],i + 1,by omega,by omega,by go_num,HQ,HN,HB⟩
  case measure=>simp [intOf];omega
def bisGo (q : Int→Option Bool) : Nat→Int→Int→Option Int
 | 0,_,_=>none
 | n + 1,lo,hi=>if lo < hi then (q (wrap64 (Int.tdiv (wrap64 (lo + hi)) 2))).bind fun b=>if b = true then bisGo q n lo (wrap64 (Int.tdiv (wrap64 (lo + hi)) 2)) else bisGo q n (wrap64 ((wrap64 (Int.tdiv (wrap64 (lo + hi)) 2)) + 1)) hi else some lo
def ca_Least.f (k : Nat) (lA : List S27) (lC : List S66) (a1 a2 a3 : Int) : Option (Int × Int):=
 (ca_isChain.f lA lC).bind fun t=>if t = true then (ca_in.f a1 0 (wrap64 ((lA.length : Int) - 1))).bind fun u=>(if u = true then (if 0≤a1 then (if a1 < (lA.length : Int) then (ca_in.f a2 0 (wrap64 (((zqo lA a1).f1.length : Int) - 1))).bind fun v=>(if v = true then (ca_isFlow.f a3).bind fun y=>(if y = true then (ca_basins.f lA).bind fun fs=>(enough.f k fs lC a1 a2 a3 10000).bind fun z=>(if z = true then (bisGo (enough.f k fs lC a1 a2 a3) k 0 10000).bind fun q=>some (q,0) else some (0,5)) else some (0,2)) else some (0,2)) else none) else none) else some (0,2)) else some (0,2)
theorem zph {P : Program} {ops : Array Oper} {o : Oper} {a : Act} {Q : Exit→Act→World→Prop} {rest : List Oper} {W W1 : World} (Rr : World→Prop) (hgd : o.guard = none) (hN : o.dst = none)
 (hrun : (execOp a.eval o).run P W = .ok .skip W1) (hR : Rr W1) (h : ∀ W',Rr W'→wpList P ops Q rest a W') : wpList P ops Q (o :: rest) a W:=zke Rr hgd hN hrun hR h
theorem ca_Least.calls (k : Nat) (AX : Option Addr) (c0_0 : Nat) (lA : List S27) (AZ : Option Addr) (cC : Nat) (lC : List S66) (a1 a2 a3 : Int) (r1 r2 : Int) (w : World) (hra : Kd.C k27 w AX lA.length lA) (hc0_0 : lA.length≤c0_0) (hr0_1 : Kd.C k66 w AZ lC.length lC) (hc0_1 : lC.length≤cC) (h : ca_Least.f k lA lC a1 a2 a3 = some (r1,r2)) :
 Calls Tryz.prog 35 #[.agg #[.slice AX lA.length c0_0,.slice AZ lC.length cC],.int .i64 a1,.int .i64 a2,.int .i64 a3] w fun e w'=>e = .returned (.tuple #[.int .i64 r1,.int .i64 r2])∧Below w.heap.size w w':=by
 have hu:=Tryz.underlying59
 have hub:=Tryz.underlying27
 have hmf : ∀ (fn : Fn) (first cap : Array Value) (w : World),(Instr.makeFunc fn first cap).run Tryz.prog w = .ok (.func fn first cap) w:=fun _ _ _ _=>rfl
 have HR0:=am hra
 have HC0:=am hc0_0
 have HR1:=am hr0_1
 have HC1:=am hc0_1
 have HB:=am (Below.refl w.heap.size w)
 clear hra hc0_0 hr0_1 hc0_1
 unfold ca_Least.f at h
 obtain ⟨t,ht,h⟩:=obm h
 have H1:=am ht
 clear ht
 cases t with
 | false =>
  rw [if_neg (by decide)] at h
  simp only [Option.some.injEq,Prod.mk.injEq] at h
  obtain ⟨rfl,rfl⟩:=h
  go_enter Tryz.func35,Tryz.ntmps35
  go_wp2_with (first | ((refine zqm (N:=4) rfl ?_);(try (refine zqs (by rfl) ?_;dsimp only));refine zqk rfl (N:=4) rfl (cs:=#[.slice AX lA.length c0_0,.slice AZ lC.length cC]) (t:=59) ?hr ?_;(case hr=>go_simp;try rfl);intro gc hg w1 hbox hb;replace HB:=(bmv HB hb);clear hg;have BKgc:=am hbox;clear hbox;(try clear hczgc_0 hfzgc_0);have hczgc_0:=cO1 BKgc.out;(try clear hczgc_1 hfzgc_1);have hczgc_1 : w1.cell? ⟨gc,1,none⟩ = some (.slice AZ lC.length cC):=(zqb BKgc.out 1).trans rfl;clear hb) | ((refine zqm (N:=5) rfl ?_);(try (refine zqs (by rfl) ?_;dsimp only));refine zqk rfl (N:=5) rfl (cs:=#[.int .i64 a1]) (t:=3) ?hr ?_;(case hr=>go_simp;try rfl);intro g1 hg w2 hbox hb;replace HB:=(bmv HB hb);replace BKgc:=(kmv hb BKgc);clear hg;have BKg1:=am hbox;clear hbox;(try clear hczgc_0 hfzgc_0);have hczgc_0:=cO1 BKgc.out;(try clear hczgc_1 hfzgc_1);have hczgc_1 : w2.cell? ⟨gc,1,none⟩ = some (.slice AZ lC.length cC):=(zqb BKgc.out 1).trans rfl;(try clear hczg1_0 hfzg1_0);have hczg1_0:=cO1 BKg1.out;clear hb) | ((refine zqm (N:=6) rfl ?_);(try (refine zqs (by rfl) ?_;dsimp only));refine zqk rfl (N:=6) rfl (cs:=#[.int .i64 a2]) (t:=3) ?hr ?_;(case hr=>go_simp;try rfl);intro g2 hg w3 hbox hb;replace HB:=(bmv HB hb);replace BKgc:=(kmv hb BKgc);replace BKg1:=(kmv hb BKg1);clear hg;have BKg2:=am hbox;clear hbox;(try clear hczgc_0 hfzgc_0);have hczgc_0:=cO1 BKgc.out;(try clear hczgc_1 hfzgc_1);have hczgc_1 : w3.cell? ⟨gc,1,none⟩ = some (.slice AZ lC.length cC):=(zqb BKgc.out 1).trans rfl;(try clear hczg1_0 hfzg1_0);have hczg1_0:=cO1 BKg1.out;(try clear hczg2_0 hfzg2_0);have hczg2_0:=cO1 BKg2.out;clear hb) | ((refine zqm (N:=7) rfl ?_);(try (refine zqs (by rfl) ?_;dsimp only));refine zqk rfl (N:=7) rfl (cs:=#[.int .i64 a3]) (t:=3) ?hr ?_;(case hr=>go_simp;try rfl);intro g3 hg w4 hbox hb;replace HB:=(bmv HB hb);replace BKgc:=(kmv hb BKgc);replace BKg1:=(kmv hb BKg1);replace BKg2:=(kmv hb BKg2);clear hg;have BKg3:=am hbox;clear hbox;(try clear hczgc_0 hfzgc_0);have hczgc_0:=cO1 BKgc.out;(try clear hczgc_1 hfzgc_1);have hczgc_1 : w4.cell? ⟨gc,1,none⟩ = some (.slice AZ lC.length cC):=(zqb BKgc.out 1).trans rfl;(try clear hczg1_0 hfzg1_0);have hczg1_0:=cO1 BKg1.out;(try clear hczg2_0 hfzg2_0);have hczg2_0:=cO1 BKg2.out;(try clear hczg3_0 hfzg3_0);have hczg3_0:=cO1 BKg3.out;clear hb))
  refine zk8 (n:=30) (S:=fun W=>W.cell? ⟨gc,0,none⟩ = some (.slice AX lA.length c0_0)∧W.cell? ⟨gc,1,none⟩ = some (.slice AZ lC.length cC)∧W.cell? ⟨g1,0,none⟩ = some (.int .i64 a1)∧W.cell? ⟨g2,0,none⟩ = some (.int .i64 a2)∧W.cell? ⟨g3,0,none⟩ = some (.int .i64 a3)) (ds:=[]) (ba 30 0) (by kernel_rfl) rfl rfl ⟨(zqb (zqj BKgc.out) 0).trans rfl,(zqb (zqj BKgc.out) 1).trans rfl,(zqb (zqj BKg1.out) 0).trans rfl,(zqb (zqj BKg2.out) 0).trans rfl,(zqb (zqj BKg3.out) 0).trans rfl⟩ (fun hHeld=>?_)
  replace BKgc:=am (zqj BKgc.out)
  replace BKg1:=am (zqj BKg1.out)
  replace BKg2:=am (zqj BKg2.out)
  replace BKg3:=am (zqj BKg3.out)
  replace HB:=am (zwe HB.out)
  (try clear hczgc_0 hczgc_1 hczg1_0 hczg2_0 hczg3_0)
  (try clear hfzgc_0 hfzgc_1 hfzg1_0 hfzg2_0 hfzg3_0)
  generalize w4.drew = wd at BKgc BKg1 BKg2 BKg3 HB hHeld ⊢
  refine take_ (i:=0) (N:=some 15) (v:=?_) (a':=?_) (ba 30 1) rfl rfl (by kernel_rfl) (fun _ _ _ h=>h) (Or.inl ⟨by rfl,?_⟩) hHeld ?_ ?_
  rotate_left
  ·rintro w' ⟨s0,s1,s2,s3,s4⟩
   go_simp
   with_reducible rfl
  rotate_left
  ·simp only [Act.put,NRM]
   rfl
  refine one_ (i:=1) (N:=some 16) (ba 30 3) rfl rfl (by kernel_rfl) (by decide) (fun K hK=>?_)
  refine goes_ Tryz.func80 (by kernel_rfl) rfl #[.agg #[.slice AX lA.length c0_0,.slice AZ lC.length cC]] (by rfl) rfl rfl (by (try simp only [List.map_toArray,List.map_cons,List.map_nil]);first | done | rfl) ?_
  refine (ca_isChain.calls AX c0_0 lA AZ cC lC false _ (kC HR0.out HB.out) HC0.out (kC HR1.out HB.out) HC1.out H1.out).mono ?_
  rintro e wc ⟨rfl,hb⟩
  replace HB:=(bmv HB hb)
  replace BKgc:=(kmv hb BKgc)
  replace BKg1:=(kmv hb BKg1)
  replace BKg2:=(kmv hb BKg2)
  replace BKg3:=(kmv hb BKg3)
  clear hb
  refine ⟨_,rfl,?_⟩
  refine hK.out _ _ ⟨(zqb BKgc.out 0).trans rfl,(zqb BKgc.out 1).trans rfl,(zqb BKg1.out 0).trans rfl,(zqb BKg2.out 0).trans rfl,(zqb BKg3.out 0).trans rfl⟩ (fun hHeld=>?_)
  clear hK K
  refine norm_ (a':=?_) ?_ ?_
  rotate_left
  ·show Act.put _ (some 16) _ = _
   simp only [Act.put,NRM]
   rfl
  refine pure_ (i:=2) (N:=some 17) (v:=?_) (a':=?_) (ba 30 7) rfl rfl (by kernel_rfl) (fun _ _ _ h=>h) (Or.inl ⟨by rfl,?_⟩) ?_ ?_
  rotate_left
  ·intro w'
   go_simp
   with_reducible rfl
  rotate_left
  ·simp only [Act.put,NRM]
   rfl
  refine pure_ (i:=3) (N:=some 18) (v:=?_) (a':=?_) (ba 30 15) rfl rfl (by kernel_rfl) (fun _ _ _ h=>h) (Or.inl ⟨by rfl,?_⟩) ?_ ?_
  rotate_left
  ·intro w'
   go_simp
   with_reducible rfl
  rotate_left
  ·simp only [Act.put,NRM]
   rfl
  refine pure_ (i:=4) (N:=some 19) (v:=undef) (a':=?_) (ba 30 31) rfl rfl (by kernel_rfl) (fun _ _ _ h=>h) (Or.inr ⟨by rfl,rfl⟩) ?_ ?_
  rotate_left
  ·simp only [Act.put,NRM]
   rfl
  refine pure_ (i:=5) (N:=some 20) (v:=undef) (a':=?_) (ba 30 63) rfl rfl (by kernel_rfl) (fun _ _ _ h=>h) (Or.inr ⟨by rfl,rfl⟩) ?_ ?_
  rotate_left
  ·simp only [Act.put,NRM]
   rfl
  refine pure_ (i:=6) (N:=some 21) (v:=undef) (a':=?_) (ba 30 127) rfl rfl (by kernel_rfl) (fun _ _ _ h=>h) (Or.inr ⟨by rfl,rfl⟩) ?_ ?_
  rotate_left
  ·simp only [Act.put,NRM]
   rfl
  refine pure_ (i:=7) (N:=some 22) (v:=undef) (a':=?_) (ba 30 255) rfl rfl (by kernel_rfl) (fun _ _ _ h=>h) (Or.inr ⟨by rfl,rfl⟩) ?_ ?_
  rotate_left
  ·simp only [Act.put,NRM]
   rfl
  refine pure_ (i:=8) (N:=some 23) (v:=undef) (a':=?_) (ba 30 511) rfl rfl (by kernel_rfl) (fun _ _ _ h=>h) (Or.inr ⟨by rfl,rfl⟩) ?_ ?_
  rotate_left
  ·simp only [Act.put,NRM]
   rfl
  refine pure_ (i:=9) (N:=some 24) (v:=undef) (a':=?_) (ba 30 1023) rfl rfl (by kernel_rfl) (fun _ _ _ h=>h) (Or.inr ⟨by rfl,rfl⟩) ?_ ?_
  rotate_left
  ·simp only [Act.put,NRM]
   rfl
  refine pure_ (i:=10) (N:=some 25) (v:=undef) (a':=?_) (ba 30 2047) rfl rfl (by kernel_rfl) (fun _ _ _ h=>h) (Or.inr ⟨by rfl,rfl⟩) ?_ ?_
  rotate_left
  ·simp only [Act.put,NRM]
   rfl
  refine pure_ (i:=11) (N:=some 26) (v:=?_) (a':=?_) (ba 30 4095) rfl rfl (by kernel_rfl) (fun _ _ _ h=>h) (Or.inl ⟨by rfl,?_⟩) ?_ ?_
  rotate_left
  ·intro w'
   go_simp
   with_reducible rfl
  rotate_left
  ·simp only [Act.put,NRM]
   rfl
  refine pure_ (i:=12) (N:=some 27) (v:=?_) (a':=?_) (ba 30 8191) rfl rfl (by kernel_rfl) (fun _ _ _ h=>h) (Or.inl ⟨by rfl,?_⟩) ?_ ?_
  rotate_left
  ·intro w'
   go_simp
   with_reducible rfl
  rotate_left
  ·simp only [Act.put,NRM]
   rfl
  refine pure_ (i:=13) (N:=some 28) (v:=undef) (a':=?_) (ba 30 16383) rfl rfl (by kernel_rfl) (fun _ _ _ h=>h) (Or.inr ⟨by rfl,rfl⟩) ?_ ?_
  rotate_left
  ·simp only [Act.put,NRM]
   rfl
  refine pure_ (i:=14) (N:=some 29) (v:=undef) (a':=?_) (ba 30 32767) rfl rfl (by kernel_rfl) (fun _ _ _ h=>h) (Or.inr ⟨by rfl,rfl⟩) ?_ ?_
  rotate_left
  ·simp only [Act.put,NRM]
   rfl
  refine pure_ (i:=15) (N:=some 30) (v:=undef) (a':=?_) (ba 30 65535) rfl rfl (by kernel_rfl) (fun _ _ _ h=>h) (Or.inr ⟨by rfl,rfl⟩) ?_ ?_
  rotate_left
  ·simp only [Act.put,NRM]
   rfl
  refine pure_ (i:=16) (N:=some 31) (v:=undef) (a':=?_) (ba 30 131071) rfl rfl (by kernel_rfl) (fun _ _ _ h=>h) (Or.inr ⟨by rfl,rfl⟩) ?_ ?_
  rotate_left
  ·simp only [Act.put,NRM]
   rfl
  refine pure_ (i:=17) (N:=some 32) (v:=undef) (a':=?_) (ba 30 262143) rfl rfl (by kernel_rfl) (fun _ _ _ h=>h) (Or.inr ⟨by rfl,rfl⟩) ?_ ?_
  rotate_left
  ·simp only [Act.put,NRM]
   rfl
  refine pure_ (i:=18) (N:=some 33) (v:=undef) (a':=?_) (ba 30 524287) rfl rfl (by kernel_rfl) (fun _ _ _ h=>h) (Or.inr ⟨by rfl,rfl⟩) ?_ ?_
  rotate_left
  ·simp only [Act.put,NRM]
   rfl
  refine pure_ (i:=19) (N:=some 34) (v:=undef) (a':=?_) (ba 30 1048575) rfl rfl (by kernel_rfl) (fun _ _ _ h=>h) (Or.inr ⟨by rfl,rfl⟩) ?_ ?_
  rotate_left
  ·simp only [Act.put,NRM]
   rfl
  refine pure_ (i:=20) (N:=some 35) (v:=undef) (a':=?_) (ba 30 2097151) rfl rfl (by kernel_rfl) (fun _ _ _ h=>h) (Or.inr ⟨by rfl,rfl⟩) ?_ ?_
  rotate_left
  ·simp only [Act.put,NRM]
   rfl
  refine pure_ (i:=21) (N:=some 36) (v:=undef) (a':=?_) (ba 30 4194303) rfl rfl (by kernel_rfl) (fun _ _ _ h=>h) (Or.inr ⟨by rfl,rfl⟩) ?_ ?_
  rotate_left
  ·simp only [Act.put,NRM]
   rfl
  refine pure_ (i:=22) (N:=some 37) (v:=undef) (a':=?_) (ba 30 8388607) rfl rfl (by kernel_rfl) (fun _ _ _ h=>h) (Or.inr ⟨by rfl,rfl⟩) ?_ ?_
  rotate_left
  ·simp only [Act.put,NRM]
   rfl
  refine pure_ (i:=23) (N:=some 38) (v:=undef) (a':=?_) (ba 30 16777215) rfl rfl (by kernel_rfl) (fun _ _ _ h=>h) (Or.inr ⟨by rfl,rfl⟩) ?_ ?_
  rotate_left
  ·simp only [Act.put,NRM]
   rfl
  refine pure_ (i:=24) (N:=some 39) (v:=?_) (a':=?_) (ba 30 33554431) rfl rfl (by kernel_rfl) (fun _ _ _ h=>h) (Or.inl ⟨by rfl,?_⟩) ?_ ?_
  rotate_left
  ·intro w'
   go_simp
   with_reducible rfl
  rotate_left
  ·simp only [Act.put,NRM]
   rfl
  refine pure_ (i:=25) (N:=some 40) (v:=?_) (a':=?_) (ba 30 67108863) rfl rfl (by kernel_rfl) (fun _ _ _ h=>h) (Or.inl ⟨by rfl,?_⟩) ?_ ?_
  rotate_left
  ·intro w'
   go_simp
   with_reducible rfl
  rotate_left
  ·simp only [Act.put,NRM]
   rfl
  refine pure_ (i:=26) (N:=some 41) (v:=undef) (a':=?_) (ba 30 134217727) rfl rfl (by kernel_rfl) (fun _ _ _ h=>h) (Or.inr ⟨by rfl,rfl⟩) ?_ ?_
  rotate_left
  ·simp only [Act.put,NRM]
   rfl
  refine pure_ (i:=27) (N:=some 42) (v:=undef) (a':=?_) (ba 30 268435455) rfl rfl (by kernel_rfl) (fun _ _ _ h=>h) (Or.inr ⟨by rfl,rfl⟩) ?_ ?_
  rotate_left
  ·simp only [Act.put,NRM]
   rfl
  refine pure_ (i:=28) (N:=some 43) (v:=undef) (a':=?_) (ba 30 536870911) rfl rfl (by kernel_rfl) (fun _ _ _ h=>h) (Or.inr ⟨by rfl,rfl⟩) ?_ ?_
  rotate_left
  ·simp only [Act.put,NRM]
   rfl
  refine pure_ (i:=29) (N:=some 44) (v:=?_) (a':=?_) (ba 30 1073741823) rfl rfl (by kernel_rfl) (fun _ _ _ h=>h) (Or.inl ⟨by rfl,?_⟩) ?_ ?_
  rotate_left
  ·intro w'
   go_simp
   with_reducible rfl
  rotate_left
  ·simp only [Act.put,NRM]
   rfl
  refine done_ (by kernel_rfl) ?_
  go_wp2
  go_ret2
  exact ⟨rfl,HB.out⟩
 | true =>
  rw [if_pos rfl] at h
  obtain ⟨u,hu2,h⟩:=obm h
  have H2:=am hu2
  clear hu2
  cases u with
  | false =>
   rw [if_neg (by decide)] at h
   simp only [Option.some.injEq,Prod.mk.injEq] at h
   obtain ⟨rfl,rfl⟩:=h
   go_enter Tryz.func35,Tryz.ntmps35
   go_wp2_with (first | ((refine zqm (N:=4) rfl ?_);(try (refine zqs (by rfl) ?_;dsimp only));refine zqk rfl (N:=4) rfl (cs:=#[.slice AX lA.length c0_0,.slice AZ lC.length cC]) (t:=59) ?hr ?_;(case hr=>go_simp;try rfl);intro gc hg w1 hbox hb;replace HB:=(bmv HB hb);clear hg;have BKgc:=am hbox;clear hbox;(try clear hczgc_0 hfzgc_0);have hczgc_0:=cO1 BKgc.out;(try clear hczgc_1 hfzgc_1);have hczgc_1 : w1.cell? ⟨gc,1,none⟩ = some (.slice AZ lC.length cC):=(zqb BKgc.out 1).trans rfl;clear hb) | ((refine zqm (N:=5) rfl ?_);(try (refine zqs (by rfl) ?_;dsimp only));refine zqk rfl (N:=5) rfl (cs:=#[.int .i64 a1]) (t:=3) ?hr ?_;(case hr=>go_simp;try rfl);intro g1 hg w2 hbox hb;replace HB:=(bmv HB hb);replace BKgc:=(kmv hb BKgc);clear hg;have BKg1:=am hbox;clear hbox;(try clear hczgc_0 hfzgc_0);have hczgc_0:=cO1 BKgc.out;(try clear hczgc_1 hfzgc_1);have hczgc_1 : w2.cell? ⟨gc,1,none⟩ = some (.slice AZ lC.length cC):=(zqb BKgc.out 1).trans rfl;(try clear hczg1_0 hfzg1_0);have hczg1_0:=cO1 BKg1.out;clear hb) | ((refine zqm (N:=6) rfl ?_);(try (refine zqs (by rfl) ?_;dsimp only));refine zqk rfl (N:=6) rfl (cs:=#[.int .i64 a2]) (t:=3) ?hr ?_;(case hr=>go_simp;try rfl);intro g2 hg w3 hbox hb;replace HB:=(bmv HB hb);replace BKgc:=(kmv hb BKgc);replace BKg1:=(kmv hb BKg1);clear hg;have BKg2:=am hbox;clear hbox;(try clear hczgc_0 hfzgc_0);have hczgc_0:=cO1 BKgc.out;(try clear hczgc_1 hfzgc_1);have hczgc_1 : w3.cell? ⟨gc,1,none⟩ = some (.slice AZ lC.length cC):=(zqb BKgc.out 1).trans rfl;(try clear hczg1_0 hfzg1_0);have hczg1_0:=cO1 BKg1.out;(try clear hczg2_0 hfzg2_0);have hczg2_0:=cO1 BKg2.out;clear hb) | ((refine zqm (N:=7) rfl ?_);(try (refine zqs (by rfl) ?_;dsimp only));refine zqk rfl (N:=7) rfl (cs:=#[.int .i64 a3]) (t:=3) ?hr ?_;(case hr=>go_simp;try rfl);intro g3 hg w4 hbox hb;replace HB:=(bmv HB hb);replace BKgc:=(kmv hb BKgc);replace BKg1:=(kmv hb BKg1);replace BKg2:=(kmv hb BKg2);clear hg;have BKg3:=am hbox;clear hbox;(try clear hczgc_0 hfzgc_0);have hczgc_0:=cO1 BKgc.out;(try clear hczgc_1 hfzgc_1);have hczgc_1 : w4.cell? ⟨gc,1,none⟩ = some (.slice AZ lC.length cC):=(zqb BKgc.out 1).trans rfl;(try clear hczg1_0 hfzg1_0);have hczg1_0:=cO1 BKg1.out;(try clear hczg2_0 hfzg2_0);have hczg2_0:=cO1 BKg2.out;(try clear hczg3_0 hfzg3_0);have hczg3_0:=cO1 BKg3.out;clear hb))
   refine zk8 (n:=30) (S:=fun W=>W.cell? ⟨gc,0,none⟩ = some (.slice AX lA.length c0_0)∧W.cell? ⟨gc,1,none⟩ = some (.slice AZ lC.length cC)∧W.cell? ⟨g1,0,none⟩ = some (.int .i64 a1)∧W.cell? ⟨g2,0,none⟩ = some (.int .i64 a2)∧W.cell? ⟨g3,0,none⟩ = some (.int .i64 a3)) (ds:=[]) (ba 30 0) (by kernel_rfl) rfl rfl ⟨(zqb (zqj BKgc.out) 0).trans rfl,(zqb (zqj BKgc.out) 1).trans rfl,(zqb (zqj BKg1.out) 0).trans rfl,(zqb (zqj BKg2.out) 0).trans rfl,(zqb (zqj BKg3.out) 0).trans rfl⟩ (fun hHeld=>?_)
   replace BKgc:=am (zqj BKgc.out)
   replace BKg1:=am (zqj BKg1.out)
   replace BKg2:=am (zqj BKg2.out)
   replace BKg3:=am (zqj BKg3.out)
   replace HB:=am (zwe HB.out)
   (try clear hczgc_0 hczgc_1 hczg1_0 hczg2_0 hczg3_0)
   (try clear hfzgc_0 hfzgc_1 hfzg1_0 hfzg2_0 hfzg3_0)
   generalize w4.drew = wd at BKgc BKg1 BKg2 BKg3 HB hHeld ⊢
   refine take_ (i:=0) (N:=some 15) (v:=?_) (a':=?_) (ba 30 1) rfl rfl (by kernel_rfl) (fun _ _ _ h=>h) (Or.inl ⟨by rfl,?_⟩) hHeld ?_ ?_
   rotate_left
   ·rintro w' ⟨s0,s1,s2,s3,s4⟩
    go_simp
    with_reducible rfl
   rotate_left
   ·simp only [Act.put,NRM]
    rfl
   refine one_ (i:=1) (N:=some 16) (ba 30 3) rfl rfl (by kernel_rfl) (by decide) (fun K hK=>?_)
   refine goes_ Tryz.func80 (by kernel_rfl) rfl #[.agg #[.slice AX lA.length c0_0,.slice AZ lC.length cC]] (by rfl) rfl rfl (by (try simp only [List.map_toArray,List.map_cons,List.map_nil]);first | done | rfl) ?_
   refine (ca_isChain.calls AX c0_0 lA AZ cC lC true _ (kC HR0.out HB.out) HC0.out (kC HR1.out HB.out) HC1.out H1.out).mono ?_
   rintro e wc ⟨rfl,hb⟩
   replace HB:=(bmv HB hb)
   replace BKgc:=(kmv hb BKgc)
   replace BKg1:=(kmv hb BKg1)
   replace BKg2:=(kmv hb BKg2)
   replace BKg3:=(kmv hb BKg3)
   clear hb
   refine ⟨_,rfl,?_⟩
   refine hK.out _ _ ⟨(zqb BKgc.out 0).trans rfl,(zqb BKgc.out 1).trans rfl,(zqb BKg1.out 0).trans rfl,(zqb BKg2.out 0).trans rfl,(zqb BKg3.out 0).trans rfl⟩ (fun hHeld=>?_)
   clear hK K
   refine norm_ (a':=?_) ?_ ?_
   rotate_left
   ·show Act.put _ (some 16) _ = _
    simp only [Act.put,NRM]
    rfl
   refine pure_ (i:=2) (N:=some 17) (v:=?_) (a':=?_) (ba 30 7) rfl rfl (by kernel_rfl) (fun _ _ _ h=>h) (Or.inl ⟨by rfl,?_⟩) ?_ ?_
   rotate_left
   ·intro w'
    go_simp
    with_reducible rfl
   rotate_left
   ·simp only [Act.put,NRM]
    rfl
   refine pure_ (i:=3) (N:=some 18) (v:=?_) (a':=?_) (ba 30 15) rfl rfl (by kernel_rfl) (fun _ _ _ h=>h) (Or.inl ⟨by rfl,?_⟩) ?_ ?_
   rotate_left
   ·intro w'
    go_simp
    with_reducible rfl
   rotate_left
   ·simp only [Act.put,NRM]
    rfl
   refine pure_ (i:=5) (N:=some 20) (v:=?_) (a':=?_) (ba 30 47) rfl rfl (by kernel_rfl) (fun _ _ _ h=>h) (Or.inl ⟨by rfl,?_⟩) ?_ ?_
   rotate_left
   ·intro w'
    go_simp
    with_reducible rfl
   rotate_left
   ·simp only [Act.put,NRM]
    rfl
   refine take_ (i:=4) (N:=some 19) (v:=?_) (a':=?_) (ba 30 63) rfl rfl (by kernel_rfl) (fun _ _ _ h=>h) (Or.inl ⟨by rfl,?_⟩) hHeld ?_ ?_
   rotate_left
   ·rintro w' ⟨s0,s1,s2,s3,s4⟩
    go_simp
    with_reducible rfl
   rotate_left
   ·simp only [Act.put,NRM]
    rfl
   refine take_ (i:=6) (N:=some 21) (v:=?_) (a':=?_) (ba 30 127) rfl rfl (by kernel_rfl) (fun _ _ _ h=>h) (Or.inl ⟨by rfl,?_⟩) hHeld ?_ ?_
   rotate_left
   ·rintro w' ⟨s0,s1,s2,s3,s4⟩
    go_simp
    with_reducible rfl
   rotate_left
   ·simp only [Act.put,NRM]
    rfl
   refine pure_ (i:=7) (N:=some 22) (v:=?_) (a':=?_) (ba 30 255) rfl rfl (by kernel_rfl) (fun _ _ _ h=>h) (Or.inl ⟨by rfl,?_⟩) ?_ ?_
   rotate_left
   ·intro w'
    go_simp
    with_reducible rfl
   rotate_left
   ·simp only [Act.put,NRM]
    rfl
   refine pure_ (i:=8) (N:=some 23) (v:=?_) (a':=?_) (ba 30 511) rfl rfl (by kernel_rfl) (fun _ _ _ h=>h) (Or.inl ⟨by rfl,?_⟩) ?_ ?_
   rotate_left
   ·intro w'
    go_simp
    with_reducible rfl
   rotate_left
   ·simp only [Act.put,NRM]
    rfl
   refine one_ (i:=9) (N:=some 24) (ba 30 1023) rfl rfl (by kernel_rfl) (by decide) (fun K hK=>?_)
   refine goes_ Tryz.func79 (by kernel_rfl) rfl #[.int .i64 a1,.int .i64 0,.int .i64 (wrap64 ((lA.length : Int) - 1))] (by rfl) rfl rfl (by (try simp only [List.map_toArray,List.map_cons,List.map_nil]);first | done | rfl) ?_
   refine (ca_in.calls a1 0 (wrap64 ((lA.length : Int) - 1)) false _ H2.out).mono ?_
   rintro e wi ⟨rfl,hd⟩
   have hb:=hd.below
   clear hd
   replace HB:=(bmv HB hb)
   replace BKgc:=(kmv hb BKgc)
   replace BKg1:=(kmv hb BKg1)
   replace BKg2:=(kmv hb BKg2)
   replace BKg3:=(kmv hb BKg3)
   clear hb
   refine ⟨_,rfl,?_⟩
   refine hK.out _ _ ⟨(zqb BKgc.out 0).trans rfl,(zqb BKgc.out 1).trans rfl,(zqb BKg1.out 0).trans rfl,(zqb BKg2.out 0).trans rfl,(zqb BKg3.out 0).trans rfl⟩ (fun hHeld=>?_)
   clear hK K
   refine norm_ (a':=?_) ?_ ?_
   rotate_left
   ·show Act.put _ (some 24) _ = _
    simp only [Act.put,NRM]
    rfl
   refine pure_ (i:=10) (N:=some 25) (v:=?_) (a':=?_) (ba 30 2047) rfl rfl (by kernel_rfl) (fun _ _ _ h=>h) (Or.inl ⟨by rfl,?_⟩) ?_ ?_
   rotate_left
   ·intro w'
    go_simp
    with_reducible rfl
   rotate_left
   ·simp only [Act.put,NRM]
    rfl
   refine pure_ (i:=11) (N:=some 26) (v:=?_) (a':=?_) (ba 30 4095) rfl rfl (by kernel_rfl) (fun _ _ _ h=>h) (Or.inl ⟨by rfl,?_⟩) ?_ ?_
   rotate_left
   ·intro w'
    go_simp
    with_reducible rfl
   rotate_left
   ·simp only [Act.put,NRM]
    rfl
   refine pure_ (i:=12) (N:=some 27) (v:=?_) (a':=?_) (ba 30 8191) rfl rfl (by kernel_rfl) (fun _ _ _ h=>h) (Or.inl ⟨by rfl,?_⟩) ?_ ?_
   rotate_left
   ·intro w'
    go_simp
    with_reducible rfl
   rotate_left
   ·simp only [Act.put,NRM]
    rfl
   refine pure_ (i:=13) (N:=some 28) (v:=undef) (a':=?_) (ba 30 16383) rfl rfl (by kernel_rfl) (fun _ _ _ h=>h) (Or.inr ⟨by rfl,rfl⟩) ?_ ?_
   rotate_left
   ·simp only [Act.put,NRM]
    rfl
   refine pure_ (i:=14) (N:=some 29) (v:=undef) (a':=?_) (ba 30 32767) rfl rfl (by kernel_rfl) (fun _ _ _ h=>h) (Or.inr ⟨by rfl,rfl⟩) ?_ ?_
   rotate_left
   ·simp only [Act.put,NRM]
    rfl
   refine pure_ (i:=15) (N:=some 30) (v:=undef) (a':=?_) (ba 30 65535) rfl rfl (by kernel_rfl) (fun _ _ _ h=>h) (Or.inr ⟨by rfl,rfl⟩) ?_ ?_
   rotate_left
   ·simp only [Act.put,NRM]
    rfl
   refine pure_ (i:=16) (N:=some 31) (v:=undef) (a':=?_) (ba 30 131071) rfl rfl (by kernel_rfl) (fun _ _ _ h=>h) (Or.inr ⟨by rfl,rfl⟩) ?_ ?_
   rotate_left
   ·simp only [Act.put,NRM]
    rfl
   refine pure_ (i:=17) (N:=some 32) (v:=undef) (a':=?_) (ba 30 262143) rfl rfl (by kernel_rfl) (fun _ _ _ h=>h) (Or.inr ⟨by rfl,rfl⟩) ?_ ?_
   rotate_left
   ·simp only [Act.put,NRM]
    rfl
   refine pure_ (i:=18) (N:=some 33) (v:=undef) (a':=?_) (ba 30 524287) rfl rfl (by kernel_rfl) (fun _ _ _ h=>h) (Or.inr ⟨by rfl,rfl⟩) ?_ ?_
   rotate_left
   ·simp only [Act.put,NRM]
    rfl
   refine pure_ (i:=19) (N:=some 34) (v:=undef) (a':=?_) (ba 30 1048575) rfl rfl (by kernel_rfl) (fun _ _ _ h=>h) (Or.inr ⟨by rfl,rfl⟩) ?_ ?_
   rotate_left
   ·simp only [Act.put,NRM]
    rfl
   refine pure_ (i:=20) (N:=some 35) (v:=undef) (a':=?_) (ba 30 2097151) rfl rfl (by kernel_rfl) (fun _ _ _ h=>h) (Or.inr ⟨by rfl,rfl⟩) ?_ ?_
   rotate_left
   ·simp only [Act.put,NRM]
    rfl
   refine pure_ (i:=21) (N:=some 36) (v:=undef) (a':=?_) (ba 30 4194303) rfl rfl (by kernel_rfl) (fun _ _ _ h=>h) (Or.inr ⟨by rfl,rfl⟩) ?_ ?_
   rotate_left
   ·simp only [Act.put,NRM]
    rfl
   refine pure_ (i:=22) (N:=some 37) (v:=undef) (a':=?_) (ba 30 8388607) rfl rfl (by kernel_rfl) (fun _ _ _ h=>h) (Or.inr ⟨by rfl,rfl⟩) ?_ ?_
   rotate_left
   ·simp only [Act.put,NRM]
    rfl
   refine pure_ (i:=23) (N:=some 38) (v:=undef) (a':=?_) (ba 30 16777215) rfl rfl (by kernel_rfl) (fun _ _ _ h=>h) (Or.inr ⟨by rfl,rfl⟩) ?_ ?_
   rotate_left
   ·simp only [Act.put,NRM]
    rfl
   refine pure_ (i:=24) (N:=some 39) (v:=?_) (a':=?_) (ba 30 33554431) rfl rfl (by kernel_rfl) (fun _ _ _ h=>h) (Or.inl ⟨by rfl,?_⟩) ?_ ?_
   rotate_left
   ·intro w'
    go_simp
    with_reducible rfl
   rotate_left
   ·simp only [Act.put,NRM]
    rfl
   refine pure_ (i:=25) (N:=some 40) (v:=?_) (a':=?_) (ba 30 67108863) rfl rfl (by kernel_rfl) (fun _ _ _ h=>h) (Or.inl ⟨by rfl,?_⟩) ?_ ?_
   rotate_left
   ·intro w'
    go_simp
    with_reducible rfl
   rotate_left
   ·simp only [Act.put,NRM]
    rfl
   refine pure_ (i:=26) (N:=some 41) (v:=undef) (a':=?_) (ba 30 134217727) rfl rfl (by kernel_rfl) (fun _ _ _ h=>h) (Or.inr ⟨by rfl,rfl⟩) ?_ ?_
   rotate_left
   ·simp only [Act.put,NRM]
    rfl
   refine pure_ (i:=27) (N:=some 42) (v:=undef) (a':=?_) (ba 30 268435455) rfl rfl (by kernel_rfl) (fun _ _ _ h=>h) (Or.inr ⟨by rfl,rfl⟩) ?_ ?_
   rotate_left
   ·simp only [Act.put,NRM]
    rfl
   refine pure_ (i:=28) (N:=some 43) (v:=undef) (a':=?_) (ba 30 536870911) rfl rfl (by kernel_rfl) (fun _ _ _ h=>h) (Or.inr ⟨by rfl,rfl⟩) ?_ ?_
   rotate_left
   ·simp only [Act.put,NRM]
    rfl
   refine pure_ (i:=29) (N:=some 44) (v:=?_) (a':=?_) (ba 30 1073741823) rfl rfl (by kernel_rfl) (fun _ _ _ h=>h) (Or.inl ⟨by rfl,?_⟩) ?_ ?_
   rotate_left
   ·intro w'
    go_simp
    with_reducible rfl
   rotate_left
   ·simp only [Act.put,NRM]
    rfl
   refine done_ (by kernel_rfl) ?_
   go_wp2
   go_ret2
   exact ⟨rfl,HB.out⟩
  | true =>
   rw [if_pos rfl] at h
   by_cases q0 : 0≤a1
   case neg=>rw [if_neg q0] at h;cases h
   rw [if_pos q0] at h
   by_cases q1 : a1 < (lA.length : Int)
   case neg=>rw [if_neg q1] at h;cases h
   rw [if_pos q1] at h
   obtain ⟨adb,A0,c0,A2,c2,eb,hy0,hy1,hy2,hy3,hy4,g1,g2,g3,g4⟩:=zvf HR0.out a1 q0 q1
   cases eb
   have HY:=am hy2
   clear hy0 hy1 hy2 hy3 hy4 g1 g2 g3 g4
   obtain ⟨v,hv,h⟩:=obm h
   have H3:=am hv
   clear hv
   cases v with
   | false =>
    rw [if_neg (by decide)] at h
    simp only [Option.some.injEq,Prod.mk.injEq] at h
    obtain ⟨rfl,rfl⟩:=h
    go_enter Tryz.func35,Tryz.ntmps35
    go_wp2_with (first | ((refine zqm (N:=4) rfl ?_);(try (refine zqs (by rfl) ?_;dsimp only));refine zqk rfl (N:=4) rfl (cs:=#[.slice (some adb) lA.length c0_0,.slice AZ lC.length cC]) (t:=59) ?hr ?_;(case hr=>go_simp;try rfl);intro gc hg w1 hbox hb;replace HB:=(bmv HB hb);clear hg;have BKgc:=am hbox;clear hbox;(try clear hczgc_0 hfzgc_0);have hczgc_0:=cO1 BKgc.out;(try clear hczgc_1 hfzgc_1);have hczgc_1 : w1.cell? ⟨gc,1,none⟩ = some (.slice AZ lC.length cC):=(zqb BKgc.out 1).trans rfl;clear hb) | ((refine zqm (N:=5) rfl ?_);(try (refine zqs (by rfl) ?_;dsimp only));refine zqk rfl (N:=5) rfl (cs:=#[.int .i64 a1]) (t:=3) ?hr ?_;(case hr=>go_simp;try rfl);intro g1 hg w2 hbox hb;replace HB:=(bmv HB hb);replace BKgc:=(kmv hb BKgc);clear hg;have BKg1:=am hbox;clear hbox;(try clear hczgc_0 hfzgc_0);have hczgc_0:=cO1 BKgc.out;(try clear hczgc_1 hfzgc_1);have hczgc_1 : w2.cell? ⟨gc,1,none⟩ = some (.slice AZ lC.length cC):=(zqb BKgc.out 1).trans rfl;(try clear hczg1_0 hfzg1_0);have hczg1_0:=cO1 BKg1.out;clear hb) | ((refine zqm (N:=6) rfl ?_);(try (refine zqs (by rfl) ?_;dsimp only));refine zqk rfl (N:=6) rfl (cs:=#[.int .i64 a2]) (t:=3) ?hr ?_;(case hr=>go_simp;try rfl);intro g2 hg w3 hbox hb;replace HB:=(bmv HB hb);replace BKgc:=(kmv hb BKgc);replace BKg1:=(kmv hb BKg1);clear hg;have BKg2:=am hbox;clear hbox;(try clear hczgc_0 hfzgc_0);have hczgc_0:=cO1 BKgc.out;(try clear hczgc_1 hfzgc_1);have hczgc_1 : w3.cell? ⟨gc,1,none⟩ = some (.slice AZ lC.length cC):=(zqb BKgc.out 1).trans rfl;(try clear hczg1_0 hfzg1_0);have hczg1_0:=cO1 BKg1.out;(try clear hczg2_0 hfzg2_0);have hczg2_0:=cO1 BKg2.out;clear hb) | ((refine zqm (N:=7) rfl ?_);(try (refine zqs (by rfl) ?_;dsimp only));refine zqk rfl (N:=7) rfl (cs:=#[.int .i64 a3]) (t:=3) ?hr ?_;(case hr=>go_simp;try rfl);intro g3 hg w4 hbox hb;replace HB:=(bmv HB hb);replace BKgc:=(kmv hb BKgc);replace BKg1:=(kmv hb BKg1);replace BKg2:=(kmv hb BKg2);clear hg;have BKg3:=am hbox;clear hbox;(try clear hczgc_0 hfzgc_0);have hczgc_0:=cO1 BKgc.out;(try clear hczgc_1 hfzgc_1);have hczgc_1 : w4.cell? ⟨gc,1,none⟩ = some (.slice AZ lC.length cC):=(zqb BKgc.out 1).trans rfl;(try clear hczg1_0 hfzg1_0);have hczg1_0:=cO1 BKg1.out;(try clear hczg2_0 hfzg2_0);have hczg2_0:=cO1 BKg2.out;(try clear hczg3_0 hfzg3_0);have hczg3_0:=cO1 BKg3.out;clear hb))
    refine zk8 (n:=30) (S:=fun W=>W.cell? ⟨gc,0,none⟩ = some (.slice (some adb) lA.length c0_0)∧W.cell? ⟨gc,1,none⟩ = some (.slice AZ lC.length cC)∧W.cell? ⟨g1,0,none⟩ = some (.int .i64 a1)∧W.cell? ⟨g2,0,none⟩ = some (.int .i64 a2)∧W.cell? ⟨g3,0,none⟩ = some (.int .i64 a3)∧W.cell? ⟨(adb.add (a1.toNat * 5)).block,(adb.add (a1.toNat * 5)).off + 2,none⟩ = some (.slice A2 (zqo lA a1).f1.length c2)) (ds:=[]) (ba 30 0) (by kernel_rfl) rfl rfl ⟨(zqb (zqj BKgc.out) 0).trans rfl,(zqb (zqj BKgc.out) 1).trans rfl,(zqb (zqj BKg1.out) 0).trans rfl,(zqb (zqj BKg2.out) 0).trans rfl,(zqb (zqj BKg3.out) 0).trans rfl,((zwe HB.out).cell (wbl HY.out)).trans HY.out⟩ (fun hHeld=>?_)
    replace BKgc:=am (zqj BKgc.out)
    replace BKg1:=am (zqj BKg1.out)
    replace BKg2:=am (zqj BKg2.out)
    replace BKg3:=am (zqj BKg3.out)
    replace HB:=am (zwe HB.out)
    (try clear hczgc_0 hczgc_1 hczg1_0 hczg2_0 hczg3_0)
    (try clear hfzgc_0 hfzgc_1 hfzg1_0 hfzg2_0 hfzg3_0)
    generalize w4.drew = wd at BKgc BKg1 BKg2 BKg3 HB hHeld ⊢
    refine take_ (i:=0) (N:=some 15) (v:=?_) (a':=?_) (ba 30 1) rfl rfl (by kernel_rfl) (fun _ _ _ h=>h) (Or.inl ⟨by rfl,?_⟩) hHeld ?_ ?_
    rotate_left
    ·rintro w' ⟨s0,s1,s2,s3,s4,s5⟩
     go_simp
     with_reducible rfl
    rotate_left
    ·simp only [Act.put,NRM]
     rfl
    refine one_ (i:=1) (N:=some 16) (ba 30 3) rfl rfl (by kernel_rfl) (by decide) (fun K hK=>?_)
    refine goes_ Tryz.func80 (by kernel_rfl) rfl #[.agg #[.slice (some adb) lA.length c0_0,.slice AZ lC.length cC]] (by rfl) rfl rfl (by (try simp only [List.map_toArray,List.map_cons,List.map_nil]);first | done | rfl) ?_
    refine (ca_isChain.calls (some adb) c0_0 lA AZ cC lC true _ (kC HR0.out HB.out) HC0.out (kC HR1.out HB.out) HC1.out H1.out).mono ?_
    rintro e wc ⟨rfl,hb⟩
    replace HB:=(bmv HB hb)
    replace BKgc:=(kmv hb BKgc)
    replace BKg1:=(kmv hb BKg1)
    replace BKg2:=(kmv hb BKg2)
    replace BKg3:=(kmv hb BKg3)
    clear hb
    refine ⟨_,rfl,?_⟩
    refine hK.out _ _ ⟨(zqb BKgc.out 0).trans rfl,(zqb BKgc.out 1).trans rfl,(zqb BKg1.out 0).trans rfl,(zqb BKg2.out 0).trans rfl,(zqb BKg3.out 0).trans rfl,(HB.out.cell (wbl HY.out)).trans HY.out⟩ (fun hHeld=>?_)
    clear hK K
    refine norm_ (a':=?_) ?_ ?_
    rotate_left
    ·show Act.put _ (some 16) _ = _
     simp only [Act.put,NRM]
     rfl
    refine pure_ (i:=2) (N:=some 17) (v:=?_) (a':=?_) (ba 30 7) rfl rfl (by kernel_rfl) (fun _ _ _ h=>h) (Or.inl ⟨by rfl,?_⟩) ?_ ?_
    rotate_left
    ·intro w'
     go_simp
     with_reducible rfl
    rotate_left
    ·simp only [Act.put,NRM]
     rfl
    refine pure_ (i:=3) (N:=some 18) (v:=?_) (a':=?_) (ba 30 15) rfl rfl (by kernel_rfl) (fun _ _ _ h=>h) (Or.inl ⟨by rfl,?_⟩) ?_ ?_
    rotate_left
    ·intro w'
     go_simp
     with_reducible rfl
    rotate_left
    ·simp only [Act.put,NRM]
     rfl
    refine pure_ (i:=5) (N:=some 20) (v:=?_) (a':=?_) (ba 30 47) rfl rfl (by kernel_rfl) (fun _ _ _ h=>h) (Or.inl ⟨by rfl,?_⟩) ?_ ?_
    rotate_left
    ·intro w'
     go_simp
     with_reducible rfl
    rotate_left
    ·simp only [Act.put,NRM]
     rfl
    refine take_ (i:=4) (N:=some 19) (v:=?_) (a':=?_) (ba 30 63) rfl rfl (by kernel_rfl) (fun _ _ _ h=>h) (Or.inl ⟨by rfl,?_⟩) hHeld ?_ ?_
    rotate_left
    ·rintro w' ⟨s0,s1,s2,s3,s4,s5⟩
     go_simp
     with_reducible rfl
    rotate_left
    ·simp only [Act.put,NRM]
     rfl
    refine take_ (i:=6) (N:=some 21) (v:=?_) (a':=?_) (ba 30 127) rfl rfl (by kernel_rfl) (fun _ _ _ h=>h) (Or.inl ⟨by rfl,?_⟩) hHeld ?_ ?_
    rotate_left
    ·rintro w' ⟨s0,s1,s2,s3,s4,s5⟩
     go_simp
     with_reducible rfl
    rotate_left
    ·simp only [Act.put,NRM]
     rfl
    refine pure_ (i:=7) (N:=some 22) (v:=?_) (a':=?_) (ba 30 255) rfl rfl (by kernel_rfl) (fun _ _ _ h=>h) (Or.inl ⟨by rfl,?_⟩) ?_ ?_
    rotate_left
    ·intro w'
     go_simp
     with_reducible rfl
    rotate_left
    ·simp only [Act.put,NRM]
     rfl
    refine pure_ (i:=8) (N:=some 23) (v:=?_) (a':=?_) (ba 30 511) rfl rfl (by kernel_rfl) (fun _ _ _ h=>h) (Or.inl ⟨by rfl,?_⟩) ?_ ?_
    rotate_left
    ·intro w'
     go_simp
     with_reducible rfl
    rotate_left
    ·simp only [Act.put,NRM]
     rfl
    refine one_ (i:=9) (N:=some 24) (ba 30 1023) rfl rfl (by kernel_rfl) (by decide) (fun K hK=>?_)
    refine goes_ Tryz.func79 (by kernel_rfl) rfl #[.int .i64 a1,.int .i64 0,.int .i64 (wrap64 ((lA.length : Int) - 1))] (by rfl) rfl rfl (by (try simp only [List.map_toArray,List.map_cons,List.map_nil]);first | done | rfl) ?_
    refine (ca_in.calls a1 0 (wrap64 ((lA.length : Int) - 1)) true _ H2.out).mono ?_
    rintro e wi ⟨rfl,hd⟩
    have hb:=hd.below
    clear hd
    replace HB:=(bmv HB hb)
    replace BKgc:=(kmv hb BKgc)
    replace BKg1:=(kmv hb BKg1)
    replace BKg2:=(kmv hb BKg2)
    replace BKg3:=(kmv hb BKg3)
    clear hb
    refine ⟨_,rfl,?_⟩
    refine hK.out _ _ ⟨(zqb BKgc.out 0).trans rfl,(zqb BKgc.out 1).trans rfl,(zqb BKg1.out 0).trans rfl,(zqb BKg2.out 0).trans rfl,(zqb BKg3.out 0).trans rfl,(HB.out.cell (wbl HY.out)).trans HY.out⟩ (fun hHeld=>?_)
    clear hK K
    refine norm_ (a':=?_) ?_ ?_
    rotate_left
    ·show Act.put _ (some 24) _ = _
     simp only [Act.put,NRM]
     rfl
    refine pure_ (i:=10) (N:=some 25) (v:=?_) (a':=?_) (ba 30 2047) rfl rfl (by kernel_rfl) (fun _ _ _ h=>h) (Or.inl ⟨by rfl,?_⟩) ?_ ?_
    rotate_left
    ·intro w'
     go_simp
     with_reducible rfl
    rotate_left
    ·simp only [Act.put,NRM]
     rfl
    refine pure_ (i:=11) (N:=some 26) (v:=?_) (a':=?_) (ba 30 4095) rfl rfl (by kernel_rfl) (fun _ _ _ h=>h) (Or.inl ⟨by rfl,?_⟩) ?_ ?_
    rotate_left
    ·intro w'
     go_simp
     with_reducible rfl
    rotate_left
    ·simp only [Act.put,NRM]
     rfl
    refine pure_ (i:=12) (N:=some 27) (v:=?_) (a':=?_) (ba 30 8191) rfl rfl (by kernel_rfl) (fun _ _ _ h=>h) (Or.inl ⟨by rfl,?_⟩) ?_ ?_
    rotate_left
    ·intro w'
     go_simp
     with_reducible rfl
    rotate_left
    ·simp only [Act.put,NRM]
     rfl
    refine pure_ (i:=14) (N:=some 29) (v:=?_) (a':=?_) (ba 30 24575) rfl rfl (by kernel_rfl) (fun _ _ _ h=>h) (Or.inl ⟨by rfl,?_⟩) ?_ ?_
    rotate_left
    ·intro w'
     go_simp
     with_reducible rfl
    rotate_left
    ·simp only [Act.put,NRM]
     rfl
    refine take_ (i:=13) (N:=some 28) (v:=?_) (a':=?_) (ba 30 32767) rfl rfl (by kernel_rfl) (fun _ _ _ h=>h) (Or.inl ⟨by rfl,?_⟩) hHeld ?_ ?_
    rotate_left
    ·rintro w' ⟨s0,s1,s2,s3,s4,s5⟩
     go_simp
     with_reducible rfl
    rotate_left
    ·simp only [Act.put,NRM]
     rfl
    refine take_ (i:=15) (N:=some 30) (v:=?_) (a':=?_) (ba 30 65535) rfl rfl (by kernel_rfl) (fun _ _ _ h=>h) (Or.inl ⟨by rfl,?_⟩) hHeld ?_ ?_
    rotate_left
    ·rintro w' ⟨s0,s1,s2,s3,s4,s5⟩
     go_simp
     with_reducible rfl
    rotate_left
    ·simp only [Act.put,NRM]
     rfl
    refine take_ (i:=16) (N:=some 31) (v:=?_) (a':=?_) (ba 30 131071) rfl rfl (by kernel_rfl) (fun _ _ _ h=>h) (Or.inl ⟨by rfl,?_⟩) hHeld ?_ ?_
    rotate_left
    ·rintro w' ⟨s0,s1,s2,s3,s4,s5⟩
     go_simp
     with_reducible rfl
    rotate_left
    ·simp only [Act.put,NRM]
     rfl
    refine pure_ (i:=17) (N:=some 32) (v:=?_) (a':=?_) (ba 30 262143) rfl rfl (by kernel_rfl) (fun _ _ _ h=>h) (Or.inl ⟨by rfl,?_⟩) ?_ ?_
    rotate_left
    ·intro w'
     go_simp
     with_reducible rfl
    rotate_left
    ·simp only [Act.put,NRM]
     rfl
    refine pure_ (i:=18) (N:=some 33) (v:=?_) (a':=?_) (ba 30 524287) rfl rfl (by kernel_rfl) (fun _ _ _ h=>h) (Or.inl ⟨by rfl,?_⟩) ?_ ?_
    rotate_left
    ·intro w'
     go_simp
     with_reducible rfl
    rotate_left
    ·simp only [Act.put,NRM]
     rfl
    refine take_ (i:=19) (N:=some 34) (v:=?_) (a':=?_) (ba 30 1048575) rfl rfl (by kernel_rfl) (fun _ _ _ h=>h) (Or.inl ⟨by rfl,?_⟩) hHeld ?_ ?_
    rotate_left
    ·rintro w' ⟨s0,s1,s2,s3,s4,s5⟩
     go_simp
     with_reducible rfl
    rotate_left
    ·simp only [Act.put,NRM]
     rfl
    refine pure_ (i:=20) (N:=some 35) (v:=?_) (a':=?_) (ba 30 2097151) rfl rfl (by kernel_rfl) (fun _ _ _ h=>h) (Or.inl ⟨by rfl,?_⟩) ?_ ?_
    rotate_left
    ·intro w'
     go_simp
     with_reducible rfl
    rotate_left
    ·simp only [Act.put,NRM]
     rfl
    refine pure_ (i:=21) (N:=some 36) (v:=?_) (a':=?_) (ba 30 4194303) rfl rfl (by kernel_rfl) (fun _ _ _ h=>h) (Or.inl ⟨by rfl,?_⟩) ?_ ?_
    rotate_left
    ·intro w'
     go_simp
     with_reducible rfl
    rotate_left
    ·simp only [Act.put,NRM]
     rfl
    refine one_ (i:=22) (N:=some 37) (ba 30 8388607) rfl rfl (by kernel_rfl) (by decide) (fun K hK=>?_)
    refine goes_ Tryz.func79 (by kernel_rfl) rfl #[.int .i64 a2,.int .i64 0,.int .i64 (wrap64 (((zqo lA a1).f1.length : Int) - 1))] (by rfl) rfl rfl (by (try simp only [List.map_toArray,List.map_cons,List.map_nil]);first | done | rfl) ?_
    refine (ca_in.calls a2 0 (wrap64 (((zqo lA a1).f1.length : Int) - 1)) false _ H3.out).mono ?_
    rintro e wj ⟨rfl,hd⟩
    have hb:=hd.below
    clear hd
    replace HB:=(bmv HB hb)
    replace BKgc:=(kmv hb BKgc)
    replace BKg1:=(kmv hb BKg1)
    replace BKg2:=(kmv hb BKg2)
    replace BKg3:=(kmv hb BKg3)
    clear hb
    refine ⟨_,rfl,?_⟩
    refine hK.out _ _ ⟨(zqb BKgc.out 0).trans rfl,(zqb BKgc.out 1).trans rfl,(zqb BKg1.out 0).trans rfl,(zqb BKg2.out 0).trans rfl,(zqb BKg3.out 0).trans rfl,(HB.out.cell (wbl HY.out)).trans HY.out⟩ (fun hHeld=>?_)
    clear hK K
    refine norm_ (a':=?_) ?_ ?_
    rotate_left
    ·show Act.put _ (some 37) _ = _
     simp only [Act.put,NRM]
     rfl
    refine pure_ (i:=23) (N:=some 38) (v:=?_) (a':=?_) (ba 30 16777215) rfl rfl (by kernel_rfl) (fun _ _ _ h=>h) (Or.inl ⟨by rfl,?_⟩) ?_ ?_
    rotate_left
    ·intro w'
     go_simp
     with_reducible rfl
    rotate_left
    ·simp only [Act.put,NRM]
     rfl
    refine pure_ (i:=24) (N:=some 39) (v:=?_) (a':=?_) (ba 30 33554431) rfl rfl (by kernel_rfl) (fun _ _ _ h=>h) (Or.inl ⟨by rfl,?_⟩) ?_ ?_
    rotate_left
    ·intro w'
     go_simp
     with_reducible rfl
    rotate_left
    ·simp only [Act.put,NRM]
     rfl
    refine pure_ (i:=25) (N:=some 40) (v:=?_) (a':=?_) (ba 30 67108863) rfl rfl (by kernel_rfl) (fun _ _ _ h=>h) (Or.inl ⟨by rfl,?_⟩) ?_ ?_
    rotate_left
    ·intro w'
     go_simp
     with_reducible rfl
    rotate_left
    ·simp only [Act.put,NRM]
     rfl
    refine pure_ (i:=26) (N:=some 41) (v:=undef) (a':=?_) (ba 30 134217727) rfl rfl (by kernel_rfl) (fun _ _ _ h=>h) (Or.inr ⟨by rfl,rfl⟩) ?_ ?_
    rotate_left
    ·simp only [Act.put,NRM]
     rfl
    refine pure_ (i:=27) (N:=some 42) (v:=undef) (a':=?_) (ba 30 268435455) rfl rfl (by kernel_rfl) (fun _ _ _ h=>h) (Or.inr ⟨by rfl,rfl⟩) ?_ ?_
    rotate_left
    ·simp only [Act.put,NRM]
     rfl
    refine pure_ (i:=28) (N:=some 43) (v:=undef) (a':=?_) (ba 30 536870911) rfl rfl (by kernel_rfl) (fun _ _ _ h=>h) (Or.inr ⟨by rfl,rfl⟩) ?_ ?_
    rotate_left
    ·simp only [Act.put,NRM]
     rfl
    refine pure_ (i:=29) (N:=some 44) (v:=?_) (a':=?_) (ba 30 1073741823) rfl rfl (by kernel_rfl) (fun _ _ _ h=>h) (Or.inl ⟨by rfl,?_⟩) ?_ ?_
    rotate_left
    ·intro w'
     go_simp
     with_reducible rfl
    rotate_left
    ·simp only [Act.put,NRM]
     rfl
    refine done_ (by kernel_rfl) ?_
    go_wp2
    go_ret2
    exact ⟨rfl,HB.out⟩
   | true =>
    rw [if_pos rfl] at h
    obtain ⟨y,hy_,h⟩:=obm h
    have H4:=am hy_
    clear hy_
    cases y with
    | false =>
     rw [if_neg (by decide)] at h
     simp only [Option.some.injEq,Prod.mk.injEq] at h
     obtain ⟨rfl,rfl⟩:=h
     go_enter Tryz.func35,Tryz.ntmps35
     go_wp2_with (first | ((refine zqm (N:=4) rfl ?_);(try (refine zqs (by rfl) ?_;dsimp only));refine zqk rfl (N:=4) rfl (cs:=#[.slice (some adb) lA.length c0_0,.slice AZ lC.length cC]) (t:=59) ?hr ?_;(case hr=>go_simp;try rfl);intro gc hg w1 hbox hb;replace HB:=(bmv HB hb);clear hg;have BKgc:=am hbox;clear hbox;(try clear hczgc_0 hfzgc_0);have hczgc_0:=cO1 BKgc.out;(try clear hczgc_1 hfzgc_1);have hczgc_1 : w1.cell? ⟨gc,1,none⟩ = some (.slice AZ lC.length cC):=(zqb BKgc.out 1).trans rfl;clear hb) | ((refine zqm (N:=5) rfl ?_);(try (refine zqs (by rfl) ?_;dsimp only));refine zqk rfl (N:=5) rfl (cs:=#[.int .i64 a1]) (t:=3) ?hr ?_;(case hr=>go_simp;try rfl);intro g1 hg w2 hbox hb;replace HB:=(bmv HB hb);replace BKgc:=(kmv hb BKgc);clear hg;have BKg1:=am hbox;clear hbox;(try clear hczgc_0 hfzgc_0);have hczgc_0:=cO1 BKgc.out;(try clear hczgc_1 hfzgc_1);have hczgc_1 : w2.cell? ⟨gc,1,none⟩ = some (.slice AZ lC.length cC):=(zqb BKgc.out 1).trans rfl;(try clear hczg1_0 hfzg1_0);have hczg1_0:=cO1 BKg1.out;clear hb) | ((refine zqm (N:=6) rfl ?_);(try (refine zqs (by rfl) ?_;dsimp only));refine zqk rfl (N:=6) rfl (cs:=#[.int .i64 a2]) (t:=3) ?hr ?_;(case hr=>go_simp;try rfl);intro g2 hg w3 hbox hb;replace HB:=(bmv HB hb);replace BKgc:=(kmv hb BKgc);replace BKg1:=(kmv hb BKg1);clear hg;have BKg2:=am hbox;clear hbox;(try clear hczgc_0 hfzgc_0);have hczgc_0:=cO1 BKgc.out;(try clear hczgc_1 hfzgc_1);have hczgc_1 : w3.cell? ⟨gc,1,none⟩ = some (.slice AZ lC.length cC):=(zqb BKgc.out 1).trans rfl;(try clear hczg1_0 hfzg1_0);have hczg1_0:=cO1 BKg1.out;(try clear hczg2_0 hfzg2_0);have hczg2_0:=cO1 BKg2.out;clear hb) | ((refine zqm (N:=7) rfl ?_);(try (refine zqs (by rfl) ?_;dsimp only));refine zqk rfl (N:=7) rfl (cs:=#[.int .i64 a3]) (t:=3) ?hr ?_;(case hr=>go_simp;try rfl);intro g3 hg w4 hbox hb;replace HB:=(bmv HB hb);replace BKgc:=(kmv hb BKgc);replace BKg1:=(kmv hb BKg1);replace BKg2:=(kmv hb BKg2);clear hg;have BKg3:=am hbox;clear hbox;(try clear hczgc_0 hfzgc_0);have hczgc_0:=cO1 BKgc.out;(try clear hczgc_1 hfzgc_1);have hczgc_1 : w4.cell? ⟨gc,1,none⟩ = some (.slice AZ lC.length cC):=(zqb BKgc.out 1).trans rfl;(try clear hczg1_0 hfzg1_0);have hczg1_0:=cO1 BKg1.out;(try clear hczg2_0 hfzg2_0);have hczg2_0:=cO1 BKg2.out;(try clear hczg3_0 hfzg3_0);have hczg3_0:=cO1 BKg3.out;clear hb))
     refine zk8 (n:=30) (S:=fun W=>W.cell? ⟨gc,0,none⟩ = some (.slice (some adb) lA.length c0_0)∧W.cell? ⟨gc,1,none⟩ = some (.slice AZ lC.length cC)∧W.cell? ⟨g1,0,none⟩ = some (.int .i64 a1)∧W.cell? ⟨g2,0,none⟩ = some (.int .i64 a2)∧W.cell? ⟨g3,0,none⟩ = some (.int .i64 a3)∧W.cell? ⟨(adb.add (a1.toNat * 5)).block,(adb.add (a1.toNat * 5)).off + 2,none⟩ = some (.slice A2 (zqo lA a1).f1.length c2)) (ds:=[]) (ba 30 0) (by kernel_rfl) rfl rfl ⟨(zqb (zqj BKgc.out) 0).trans rfl,(zqb (zqj BKgc.out) 1).trans rfl,(zqb (zqj BKg1.out) 0).trans rfl,(zqb (zqj BKg2.out) 0).trans rfl,(zqb (zqj BKg3.out) 0).trans rfl,((zwe HB.out).cell (wbl HY.out)).trans HY.out⟩ (fun hHeld=>?_)
     replace BKgc:=am (zqj BKgc.out)
     replace BKg1:=am (zqj BKg1.out)
     replace BKg2:=am (zqj BKg2.out)
     replace BKg3:=am (zqj BKg3.out)
     replace HB:=am (zwe HB.out)
     (try clear hczgc_0 hczgc_1 hczg1_0 hczg2_0 hczg3_0)
     (try clear hfzgc_0 hfzgc_1 hfzg1_0 hfzg2_0 hfzg3_0)
     generalize w4.drew = wd at BKgc BKg1 BKg2 BKg3 HB hHeld ⊢
     refine take_ (i:=0) (N:=some 15) (v:=?_) (a':=?_) (ba 30 1) rfl rfl (by kernel_rfl) (fun _ _ _ h=>h) (Or.inl ⟨by rfl,?_⟩) hHeld ?_ ?_
     rotate_left
     ·rintro w' ⟨s0,s1,s2,s3,s4,s5⟩
      go_simp
      with_reducible rfl
     rotate_left
     ·simp only [Act.put,NRM]
      rfl
     refine one_ (i:=1) (N:=some 16) (ba 30 3) rfl rfl (by kernel_rfl) (by decide) (fun K hK=>?_)
     refine goes_ Tryz.func80 (by kernel_rfl) rfl #[.agg #[.slice (some adb) lA.length c0_0,.slice AZ lC.length cC]] (by rfl) rfl rfl (by (try simp only [List.map_toArray,List.map_cons,List.map_nil]);first | done | rfl) ?_
     refine (ca_isChain.calls (some adb) c0_0 lA AZ cC lC true _ (kC HR0.out HB.out) HC0.out (kC HR1.out HB.out) HC1.out H1.out).mono ?_
     rintro e wc ⟨rfl,hb⟩
     replace HB:=(bmv HB hb)
     replace BKgc:=(kmv hb BKgc)
     replace BKg1:=(kmv hb BKg1)
     replace BKg2:=(kmv hb BKg2)
     replace BKg3:=(kmv hb BKg3)
     clear hb
     refine ⟨_,rfl,?_⟩
     refine hK.out _ _ ⟨(zqb BKgc.out 0).trans rfl,(zqb BKgc.out 1).trans rfl,(zqb BKg1.out 0).trans rfl,(zqb BKg2.out 0).trans rfl,(zqb BKg3.out 0).trans rfl,(HB.out.cell (wbl HY.out)).trans HY.out⟩ (fun hHeld=>?_)
     clear hK K
     refine norm_ (a':=?_) ?_ ?_
     rotate_left
     ·show Act.put _ (some 16) _ = _
      simp only [Act.put,NRM]
      rfl
     refine pure_ (i:=2) (N:=some 17) (v:=?_) (a':=?_) (ba 30 7) rfl rfl (by kernel_rfl) (fun _ _ _ h=>h) (Or.inl ⟨by rfl,?_⟩) ?_ ?_
     rotate_left
     ·intro w'
      go_simp
      with_reducible rfl
     rotate_left
     ·simp only [Act.put,NRM]
      rfl
     refine pure_ (i:=3) (N:=some 18) (v:=?_) (a':=?_) (ba 30 15) rfl rfl (by kernel_rfl) (fun _ _ _ h=>h) (Or.inl ⟨by rfl,?_⟩) ?_ ?_
     rotate_left
     ·intro w'
      go_simp
      with_reducible rfl
     rotate_left
     ·simp only [Act.put,NRM]
      rfl
     refine pure_ (i:=5) (N:=some 20) (v:=?_) (a':=?_) (ba 30 47) rfl rfl (by kernel_rfl) (fun _ _ _ h=>h) (Or.inl ⟨by rfl,?_⟩) ?_ ?_
     rotate_left
     ·intro w'
      go_simp
      with_reducible rfl
     rotate_left
     ·simp only [Act.put,NRM]
      rfl
     refine take_ (i:=4) (N:=some 19) (v:=?_) (a':=?_) (ba 30 63) rfl rfl (by kernel_rfl) (fun _ _ _ h=>h) (Or.inl ⟨by rfl,?_⟩) hHeld ?_ ?_
     rotate_left
     ·rintro w' ⟨s0,s1,s2,s3,s4,s5⟩
      go_simp
      with_reducible rfl
     rotate_left
     ·simp only [Act.put,NRM]
      rfl
     refine take_ (i:=6) (N:=some 21) (v:=?_) (a':=?_) (ba 30 127) rfl rfl (by kernel_rfl) (fun _ _ _ h=>h) (Or.inl ⟨by rfl,?_⟩) hHeld ?_ ?_
     rotate_left
     ·rintro w' ⟨s0,s1,s2,s3,s4,s5⟩
      go_simp
      with_reducible rfl
     rotate_left
     ·simp only [Act.put,NRM]
      rfl
     refine pure_ (i:=7) (N:=some 22) (v:=?_) (a':=?_) (ba 30 255) rfl rfl (by kernel_rfl) (fun _ _ _ h=>h) (Or.inl ⟨by rfl,?_⟩) ?_ ?_
     rotate_left
     ·intro w'
      go_simp
      with_reducible rfl
     rotate_left
     ·simp only [Act.put,NRM]
      rfl
     refine pure_ (i:=8) (N:=some 23) (v:=?_) (a':=?_) (ba 30 511) rfl rfl (by kernel_rfl) (fun _ _ _ h=>h) (Or.inl ⟨by rfl,?_⟩) ?_ ?_
     rotate_left
     ·intro w'
      go_simp
      with_reducible rfl
     rotate_left
     ·simp only [Act.put,NRM]
      rfl
     refine one_ (i:=9) (N:=some 24) (ba 30 1023) rfl rfl (by kernel_rfl) (by decide) (fun K hK=>?_)
     refine goes_ Tryz.func79 (by kernel_rfl) rfl #[.int .i64 a1,.int .i64 0,.int .i64 (wrap64 ((lA.length : Int) - 1))] (by rfl) rfl rfl (by (try simp only [List.map_toArray,List.map_cons,List.map_nil]);first | done | rfl) ?_
     refine (ca_in.calls a1 0 (wrap64 ((lA.length : Int) - 1)) true _ H2.out).mono ?_
     rintro e wi ⟨rfl,hd⟩
     have hb:=hd.below
     clear hd
     replace HB:=(bmv HB hb)
     replace BKgc:=(kmv hb BKgc)
     replace BKg1:=(kmv hb BKg1)
     replace BKg2:=(kmv hb BKg2)
     replace BKg3:=(kmv hb BKg3)
     clear hb
     refine ⟨_,rfl,?_⟩
     refine hK.out _ _ ⟨(zqb BKgc.out 0).trans rfl,(zqb BKgc.out 1).trans rfl,(zqb BKg1.out 0).trans rfl,(zqb BKg2.out 0).trans rfl,(zqb BKg3.out 0).trans rfl,(HB.out.cell (wbl HY.out)).trans HY.out⟩ (fun hHeld=>?_)
     clear hK K
     refine norm_ (a':=?_) ?_ ?_
     rotate_left
     ·show Act.put _ (some 24) _ = _
      simp only [Act.put,NRM]
      rfl
     refine pure_ (i:=10) (N:=some 25) (v:=?_) (a':=?_) (ba 30 2047) rfl rfl (by kernel_rfl) (fun _ _ _ h=>h) (Or.inl ⟨by rfl,?_⟩) ?_ ?_
     rotate_left
     ·intro w'
      go_simp
      with_reducible rfl
     rotate_left
     ·simp only [Act.put,NRM]
      rfl
     refine pure_ (i:=11) (N:=some 26) (v:=?_) (a':=?_) (ba 30 4095) rfl rfl (by kernel_rfl) (fun _ _ _ h=>h) (Or.inl ⟨by rfl,?_⟩) ?_ ?_
     rotate_left
     ·intro w'
      go_simp
      with_reducible rfl
     rotate_left
     ·simp only [Act.put,NRM]
      rfl
     refine pure_ (i:=12) (N:=some 27) (v:=?_) (a':=?_) (ba 30 8191) rfl rfl (by kernel_rfl) (fun _ _ _ h=>h) (Or.inl ⟨by rfl,?_⟩) ?_ ?_
     rotate_left
     ·intro w'
      go_simp
      with_reducible rfl
     rotate_left
     ·simp only [Act.put,NRM]
      rfl
     refine pure_ (i:=14) (N:=some 29) (v:=?_) (a':=?_) (ba 30 24575) rfl rfl (by kernel_rfl) (fun _ _ _ h=>h) (Or.inl ⟨by rfl,?_⟩) ?_ ?_
     rotate_left
     ·intro w'
      go_simp
      with_reducible rfl
     rotate_left
     ·simp only [Act.put,NRM]
      rfl
     refine take_ (i:=13) (N:=some 28) (v:=?_) (a':=?_) (ba 30 32767) rfl rfl (by kernel_rfl) (fun _ _ _ h=>h) (Or.inl ⟨by rfl,?_⟩) hHeld ?_ ?_
     rotate_left
     ·rintro w' ⟨s0,s1,s2,s3,s4,s5⟩
      go_simp
      with_reducible rfl
     rotate_left
     ·simp only [Act.put,NRM]
      rfl
     refine take_ (i:=15) (N:=some 30) (v:=?_) (a':=?_) (ba 30 65535) rfl rfl (by kernel_rfl) (fun _ _ _ h=>h) (Or.inl ⟨by rfl,?_⟩) hHeld ?_ ?_
     rotate_left
     ·rintro w' ⟨s0,s1,s2,s3,s4,s5⟩
      go_simp
      with_reducible rfl
     rotate_left
     ·simp only [Act.put,NRM]
      rfl
     refine take_ (i:=16) (N:=some 31) (v:=?_) (a':=?_) (ba 30 131071) rfl rfl (by kernel_rfl) (fun _ _ _ h=>h) (Or.inl ⟨by rfl,?_⟩) hHeld ?_ ?_
     rotate_left
     ·rintro w' ⟨s0,s1,s2,s3,s4,s5⟩
      go_simp
      with_reducible rfl
     rotate_left
     ·simp only [Act.put,NRM]
      rfl
     refine pure_ (i:=17) (N:=some 32) (v:=?_) (a':=?_) (ba 30 262143) rfl rfl (by kernel_rfl) (fun _ _ _ h=>h) (Or.inl ⟨by rfl,?_⟩) ?_ ?_
     rotate_left
     ·intro w'
      go_simp
      with_reducible rfl
     rotate_left
     ·simp only [Act.put,NRM]
      rfl
     refine pure_ (i:=18) (N:=some 33) (v:=?_) (a':=?_) (ba 30 524287) rfl rfl (by kernel_rfl) (fun _ _ _ h=>h) (Or.inl ⟨by rfl,?_⟩) ?_ ?_
     rotate_left
     ·intro w'
      go_simp
      with_reducible rfl
     rotate_left
     ·simp only [Act.put,NRM]
      rfl
     refine take_ (i:=19) (N:=some 34) (v:=?_) (a':=?_) (ba 30 1048575) rfl rfl (by kernel_rfl) (fun _ _ _ h=>h) (Or.inl ⟨by rfl,?_⟩) hHeld ?_ ?_
     rotate_left
     ·rintro w' ⟨s0,s1,s2,s3,s4,s5⟩
      go_simp
      with_reducible rfl
     rotate_left
     ·simp only [Act.put,NRM]
      rfl
     refine pure_ (i:=20) (N:=some 35) (v:=?_) (a':=?_) (ba 30 2097151) rfl rfl (by kernel_rfl) (fun _ _ _ h=>h) (Or.inl ⟨by rfl,?_⟩) ?_ ?_
     rotate_left
     ·intro w'
      go_simp
      with_reducible rfl
     rotate_left
     ·simp only [Act.put,NRM]
      rfl
     refine pure_ (i:=21) (N:=some 36) (v:=?_) (a':=?_) (ba 30 4194303) rfl rfl (by kernel_rfl) (fun _ _ _ h=>h) (Or.inl ⟨by rfl,?_⟩) ?_ ?_
     rotate_left
     ·intro w'
      go_simp
      with_reducible rfl
     rotate_left
     ·simp only [Act.put,NRM]
      rfl
     refine one_ (i:=22) (N:=some 37) (ba 30 8388607) rfl rfl (by kernel_rfl) (by decide) (fun K hK=>?_)
     refine goes_ Tryz.func79 (by kernel_rfl) rfl #[.int .i64 a2,.int .i64 0,.int .i64 (wrap64 (((zqo lA a1).f1.length : Int) - 1))] (by rfl) rfl rfl (by (try simp only [List.map_toArray,List.map_cons,List.map_nil]);first | done | rfl) ?_
     refine (ca_in.calls a2 0 (wrap64 (((zqo lA a1).f1.length : Int) - 1)) true _ H3.out).mono ?_
     rintro e wj ⟨rfl,hd⟩
     have hb:=hd.below
     clear hd
     replace HB:=(bmv HB hb)
     replace BKgc:=(kmv hb BKgc)
     replace BKg1:=(kmv hb BKg1)
     replace BKg2:=(kmv hb BKg2)
     replace BKg3:=(kmv hb BKg3)
     clear hb
     refine ⟨_,rfl,?_⟩
     refine hK.out _ _ ⟨(zqb BKgc.out 0).trans rfl,(zqb BKgc.out 1).trans rfl,(zqb BKg1.out 0).trans rfl,(zqb BKg2.out 0).trans rfl,(zqb BKg3.out 0).trans rfl,(HB.out.cell (wbl HY.out)).trans HY.out⟩ (fun hHeld=>?_)
     clear hK K
     refine norm_ (a':=?_) ?_ ?_
     rotate_left
     ·show Act.put _ (some 37) _ = _
      simp only [Act.put,NRM]
      rfl
     refine pure_ (i:=23) (N:=some 38) (v:=?_) (a':=?_) (ba 30 16777215) rfl rfl (by kernel_rfl) (fun _ _ _ h=>h) (Or.inl ⟨by rfl,?_⟩) ?_ ?_
     rotate_left
     ·intro w'
      go_simp
      with_reducible rfl
     rotate_left
     ·simp only [Act.put,NRM]
      rfl
     refine pure_ (i:=24) (N:=some 39) (v:=?_) (a':=?_) (ba 30 33554431) rfl rfl (by kernel_rfl) (fun _ _ _ h=>h) (Or.inl ⟨by rfl,?_⟩) ?_ ?_
     rotate_left
     ·intro w'
      go_simp
      with_reducible rfl
     rotate_left
     ·simp only [Act.put,NRM]
      rfl
     refine pure_ (i:=25) (N:=some 40) (v:=?_) (a':=?_) (ba 30 67108863) rfl rfl (by kernel_rfl) (fun _ _ _ h=>h) (Or.inl ⟨by rfl,?_⟩) ?_ ?_
     rotate_left
     ·intro w'
      go_simp
      with_reducible rfl
     rotate_left
     ·simp only [Act.put,NRM]
      rfl
     refine take_ (i:=26) (N:=some 41) (v:=?_) (a':=?_) (ba 30 134217727) rfl rfl (by kernel_rfl) (fun _ _ _ h=>h) (Or.inl ⟨by rfl,?_⟩) hHeld ?_ ?_
     rotate_left
     ·rintro w' ⟨s0,s1,s2,s3,s4,s5⟩
      go_simp
      with_reducible rfl
     rotate_left
     ·simp only [Act.put,NRM]
      rfl
     refine one_ (i:=27) (N:=some 42) (ba 30 268435455) rfl rfl (by kernel_rfl) (by decide) (fun K hK=>?_)
     refine goes_ Tryz.func67 (by kernel_rfl) rfl #[.int .i64 a3] (by rfl) rfl rfl (by (try simp only [List.map_toArray,List.map_cons,List.map_nil]);first | done | rfl) ?_
     refine (ca_isFlow.calls a3 false _ H4.out).mono ?_
     rintro e wk ⟨rfl,hd⟩
     have hb:=hd.below
     clear hd
     replace HB:=(bmv HB hb)
     replace BKgc:=(kmv hb BKgc)
     replace BKg1:=(kmv hb BKg1)
     replace BKg2:=(kmv hb BKg2)
     replace BKg3:=(kmv hb BKg3)
     clear hb
     refine ⟨_,rfl,?_⟩
     refine hK.out _ _ ⟨(zqb BKgc.out 0).trans rfl,(zqb BKgc.out 1).trans rfl,(zqb BKg1.out 0).trans rfl,(zqb BKg2.out 0).trans rfl,(zqb BKg3.out 0).trans rfl,(HB.out.cell (wbl HY.out)).trans HY.out⟩ (fun hHeld=>?_)
     clear hK K
     refine norm_ (a':=?_) ?_ ?_
     rotate_left
     ·show Act.put _ (some 42) _ = _
      simp only [Act.put,NRM]
      rfl
     refine pure_ (i:=28) (N:=some 43) (v:=?_) (a':=?_) (ba 30 536870911) rfl rfl (by kernel_rfl) (fun _ _ _ h=>h) (Or.inl ⟨by rfl,?_⟩) ?_ ?_
     rotate_left
     ·intro w'
      go_simp
      with_reducible rfl
     rotate_left
     ·simp only [Act.put,NRM]
      rfl
     refine pure_ (i:=29) (N:=some 44) (v:=?_) (a':=?_) (ba 30 1073741823) rfl rfl (by kernel_rfl) (fun _ _ _ h=>h) (Or.inl ⟨by rfl,?_⟩) ?_ ?_
     rotate_left
     ·intro w'
      go_simp
      with_reducible rfl
     rotate_left
     ·simp only [Act.put,NRM]
      rfl
     refine done_ (by kernel_rfl) ?_
     go_wp2
     go_ret2
     exact ⟨rfl,HB.out⟩
    | true =>
     rw [if_pos rfl] at h
     obtain ⟨fs,hf,h⟩:=obm h
     have H5:=am hf
     clear hf
     obtain ⟨z,hz,h⟩:=obm h
     have H6:=am hz
     clear hz
     cases z with
     | false =>
      rw [if_neg (by decide)] at h
      simp only [Option.some.injEq,Prod.mk.injEq] at h
      obtain ⟨rfl,rfl⟩:=h
      go_enter Tryz.func35,Tryz.ntmps35
      go_wp2_with (first | ((refine zqm (N:=4) rfl ?_);(try (refine zqs (by rfl) ?_;dsimp only));refine zqk rfl (N:=4) rfl (cs:=#[.slice (some adb) lA.length c0_0,.slice AZ lC.length cC]) (t:=59) ?hr ?_;(case hr=>go_simp;try rfl);intro gc hg w1 hbox hb;replace HB:=(bmv HB hb);clear hg;have BKgc:=am hbox;clear hbox;(try clear hczgc_0 hfzgc_0);have hczgc_0:=cO1 BKgc.out;(try clear hczgc_1 hfzgc_1);have hczgc_1 : w1.cell? ⟨gc,1,none⟩ = some (.slice AZ lC.length cC):=(zqb BKgc.out 1).trans rfl;clear hb) | ((refine zqm (N:=5) rfl ?_);(try (refine zqs (by rfl) ?_;dsimp only));refine zqk rfl (N:=5) rfl (cs:=#[.int .i64 a1]) (t:=3) ?hr ?_;(case hr=>go_simp;try rfl);intro g1 hg w2 hbox hb;replace HB:=(bmv HB hb);replace BKgc:=(kmv hb BKgc);clear hg;have BKg1:=am hbox;clear hbox;(try clear hczgc_0 hfzgc_0);have hczgc_0:=cO1 BKgc.out;(try clear hczgc_1 hfzgc_1);have hczgc_1 : w2.cell? ⟨gc,1,none⟩ = some (.slice AZ lC.length cC):=(zqb BKgc.out 1).trans rfl;(try clear hczg1_0 hfzg1_0);have hczg1_0:=cO1 BKg1.out;clear hb) | ((refine zqm (N:=6) rfl ?_);(try (refine zqs (by rfl) ?_;dsimp only));refine zqk rfl (N:=6) rfl (cs:=#[.int .i64 a2]) (t:=3) ?hr ?_;(case hr=>go_simp;try rfl);intro g2 hg w3 hbox hb;replace HB:=(bmv HB hb);replace BKgc:=(kmv hb BKgc);replace BKg1:=(kmv hb BKg1);clear hg;have BKg2:=am hbox;clear hbox;(try clear hczgc_0 hfzgc_0);have hczgc_0:=cO1 BKgc.out;(try clear hczgc_1 hfzgc_1);have hczgc_1 : w3.cell? ⟨gc,1,none⟩ = some (.slice AZ lC.length cC):=(zqb BKgc.out 1).trans rfl;(try clear hczg1_0 hfzg1_0);have hczg1_0:=cO1 BKg1.out;(try clear hczg2_0 hfzg2_0);have hczg2_0:=cO1 BKg2.out;clear hb) | ((refine zqm (N:=7) rfl ?_);(try (refine zqs (by rfl) ?_;dsimp only));refine zqk rfl (N:=7) rfl (cs:=#[.int .i64 a3]) (t:=3) ?hr ?_;(case hr=>go_simp;try rfl);intro g3 hg w4 hbox hb;replace HB:=(bmv HB hb);replace BKgc:=(kmv hb BKgc);replace BKg1:=(kmv hb BKg1);replace BKg2:=(kmv hb BKg2);clear hg;have BKg3:=am hbox;clear hbox;(try clear hczgc_0 hfzgc_0);have hczgc_0:=cO1 BKgc.out;(try clear hczgc_1 hfzgc_1);have hczgc_1 : w4.cell? ⟨gc,1,none⟩ = some (.slice AZ lC.length cC):=(zqb BKgc.out 1).trans rfl;(try clear hczg1_0 hfzg1_0);have hczg1_0:=cO1 BKg1.out;(try clear hczg2_0 hfzg2_0);have hczg2_0:=cO1 BKg2.out;(try clear hczg3_0 hfzg3_0);have hczg3_0:=cO1 BKg3.out;clear hb))
      refine zk8 (n:=30) (S:=fun W=>W.cell? ⟨gc,0,none⟩ = some (.slice (some adb) lA.length c0_0)∧W.cell? ⟨gc,1,none⟩ = some (.slice AZ lC.length cC)∧W.cell? ⟨g1,0,none⟩ = some (.int .i64 a1)∧W.cell? ⟨g2,0,none⟩ = some (.int .i64 a2)∧W.cell? ⟨g3,0,none⟩ = some (.int .i64 a3)∧W.cell? ⟨(adb.add (a1.toNat * 5)).block,(adb.add (a1.toNat * 5)).off + 2,none⟩ = some (.slice A2 (zqo lA a1).f1.length c2)) (ds:=[]) (ba 30 0) (by kernel_rfl) rfl rfl ⟨(zqb (zqj BKgc.out) 0).trans rfl,(zqb (zqj BKgc.out) 1).trans rfl,(zqb (zqj BKg1.out) 0).trans rfl,(zqb (zqj BKg2.out) 0).trans rfl,(zqb (zqj BKg3.out) 0).trans rfl,((zwe HB.out).cell (wbl HY.out)).trans HY.out⟩ (fun hHeld=>?_)
      replace BKgc:=am (zqj BKgc.out)
      replace BKg1:=am (zqj BKg1.out)
      replace BKg2:=am (zqj BKg2.out)
      replace BKg3:=am (zqj BKg3.out)
      replace HB:=am (zwe HB.out)
      (try clear hczgc_0 hczgc_1 hczg1_0 hczg2_0 hczg3_0)
      (try clear hfzgc_0 hfzgc_1 hfzg1_0 hfzg2_0 hfzg3_0)
      generalize w4.drew = wd at BKgc BKg1 BKg2 BKg3 HB hHeld ⊢
      refine take_ (i:=0) (N:=some 15) (v:=?_) (a':=?_) (ba 30 1) rfl rfl (by kernel_rfl) (fun _ _ _ h=>h) (Or.inl ⟨by rfl,?_⟩) hHeld ?_ ?_
      rotate_left
      ·rintro w' ⟨s0,s1,s2,s3,s4,s5⟩
       go_simp
       with_reducible rfl
      rotate_left
      ·simp only [Act.put,NRM]
       rfl
      refine one_ (i:=1) (N:=some 16) (ba 30 3) rfl rfl (by kernel_rfl) (by decide) (fun K hK=>?_)
      refine goes_ Tryz.func80 (by kernel_rfl) rfl #[.agg #[.slice (some adb) lA.length c0_0,.slice AZ lC.length cC]] (by rfl) rfl rfl (by (try simp only [List.map_toArray,List.map_cons,List.map_nil]);first | done | rfl) ?_
      refine (ca_isChain.calls (some adb) c0_0 lA AZ cC lC true _ (kC HR0.out HB.out) HC0.out (kC HR1.out HB.out) HC1.out H1.out).mono ?_
      rintro e wc ⟨rfl,hb⟩
      replace HB:=(bmv HB hb)
      replace BKgc:=(kmv hb BKgc)
      replace BKg1:=(kmv hb BKg1)
      replace BKg2:=(kmv hb BKg2)
      replace BKg3:=(kmv hb BKg3)
      clear hb
      refine ⟨_,rfl,?_⟩
      refine hK.out _ _ ⟨(zqb BKgc.out 0).trans rfl,(zqb BKgc.out 1).trans rfl,(zqb BKg1.out 0).trans rfl,(zqb BKg2.out 0).trans rfl,(zqb BKg3.out 0).trans rfl,(HB.out.cell (wbl HY.out)).trans HY.out⟩ (fun hHeld=>?_)
      clear hK K
      refine norm_ (a':=?_) ?_ ?_
      rotate_left
      ·show Act.put _ (some 16) _ = _
       simp only [Act.put,NRM]
       rfl
      refine pure_ (i:=2) (N:=some 17) (v:=?_) (a':=?_) (ba 30 7) rfl rfl (by kernel_rfl) (fun _ _ _ h=>h) (Or.inl ⟨by rfl,?_⟩) ?_ ?_
      rotate_left
      ·intro w'
       go_simp
       with_reducible rfl
      rotate_left
      ·simp only [Act.put,NRM]
       rfl
      refine pure_ (i:=3) (N:=some 18) (v:=?_) (a':=?_) (ba 30 15) rfl rfl (by kernel_rfl) (fun _ _ _ h=>h) (Or.inl ⟨by rfl,?_⟩) ?_ ?_
      rotate_left
      ·intro w'
       go_simp
       with_reducible rfl
      rotate_left
      ·simp only [Act.put,NRM]
       rfl
      refine pure_ (i:=5) (N:=some 20) (v:=?_) (a':=?_) (ba 30 47) rfl rfl (by kernel_rfl) (fun _ _ _ h=>h) (Or.inl ⟨by rfl,?_⟩) ?_ ?_
      rotate_left
      ·intro w'
       go_simp
       with_reducible rfl
      rotate_left
      ·simp only [Act.put,NRM]
       rfl
      refine take_ (i:=4) (N:=some 19) (v:=?_) (a':=?_) (ba 30 63) rfl rfl (by kernel_rfl) (fun _ _ _ h=>h) (Or.inl ⟨by rfl,?_⟩) hHeld ?_ ?_
      rotate_left
      ·rintro w' ⟨s0,s1,s2,s3,s4,s5⟩
       go_simp
       with_reducible rfl
      rotate_left
      ·simp only [Act.put,NRM]
       rfl
      refine take_ (i:=6) (N:=some 21) (v:=?_) (a':=?_) (ba 30 127) rfl rfl (by kernel_rfl) (fun _ _ _ h=>h) (Or.inl ⟨by rfl,?_⟩) hHeld ?_ ?_
      rotate_left
      ·rintro w' ⟨s0,s1,s2,s3,s4,s5⟩
       go_simp
       with_reducible rfl
      rotate_left
      ·simp only [Act.put,NRM]
       rfl
      refine pure_ (i:=7) (N:=some 22) (v:=?_) (a':=?_) (ba 30 255) rfl rfl (by kernel_rfl) (fun _ _ _ h=>h) (Or.inl ⟨by rfl,?_⟩) ?_ ?_
      rotate_left
      ·intro w'
       go_simp
       with_reducible rfl
      rotate_left
      ·simp only [Act.put,NRM]
       rfl
      refine pure_ (i:=8) (N:=some 23) (v:=?_) (a':=?_) (ba 30 511) rfl rfl (by kernel_rfl) (fun _ _ _ h=>h) (Or.inl ⟨by rfl,?_⟩) ?_ ?_
      rotate_left
      ·intro w'
       go_simp
       with_reducible rfl
      rotate_left
      ·simp only [Act.put,NRM]
       rfl
      refine one_ (i:=9) (N:=some 24) (ba 30 1023) rfl rfl (by kernel_rfl) (by decide) (fun K hK=>?_)
      refine goes_ Tryz.func79 (by kernel_rfl) rfl #[.int .i64 a1,.int .i64 0,.int .i64 (wrap64 ((lA.length : Int) - 1))] (by rfl) rfl rfl (by (try simp only [List.map_toArray,List.map_cons,List.map_nil]);first | done | rfl) ?_
      refine (ca_in.calls a1 0 (wrap64 ((lA.length : Int) - 1)) true _ H2.out).mono ?_
      rintro e wi ⟨rfl,hd⟩
      have hb:=hd.below
      clear hd
      replace HB:=(bmv HB hb)
      replace BKgc:=(kmv hb BKgc)
      replace BKg1:=(kmv hb BKg1)
      replace BKg2:=(kmv hb BKg2)
      replace BKg3:=(kmv hb BKg3)
      clear hb
      refine ⟨_,rfl,?_⟩
      refine hK.out _ _ ⟨(zqb BKgc.out 0).trans rfl,(zqb BKgc.out 1).trans rfl,(zqb BKg1.out 0).trans rfl,(zqb BKg2.out 0).trans rfl,(zqb BKg3.out 0).trans rfl,(HB.out.cell (wbl HY.out)).trans HY.out⟩ (fun hHeld=>?_)
      clear hK K
      refine norm_ (a':=?_) ?_ ?_
      rotate_left
      ·show Act.put _ (some 24) _ = _
       simp only [Act.put,NRM]
       rfl
      refine pure_ (i:=10) (N:=some 25) (v:=?_) (a':=?_) (ba 30 2047) rfl rfl (by kernel_rfl) (fun _ _ _ h=>h) (Or.inl ⟨by rfl,?_⟩) ?_ ?_
      rotate_left
      ·intro w'
       go_simp
       with_reducible rfl
      rotate_left
      ·simp only [Act.put,NRM]
       rfl
      refine pure_ (i:=11) (N:=some 26) (v:=?_) (a':=?_) (ba 30 4095) rfl rfl (by kernel_rfl) (fun _ _ _ h=>h) (Or.inl ⟨by rfl,?_⟩) ?_ ?_
      rotate_left
      ·intro w'
       go_simp
       with_reducible rfl
      rotate_left
      ·simp only [Act.put,NRM]
       rfl
      refine pure_ (i:=12) (N:=some 27) (v:=?_) (a':=?_) (ba 30 8191) rfl rfl (by kernel_rfl) (fun _ _ _ h=>h) (Or.inl ⟨by rfl,?_⟩) ?_ ?_
      rotate_left
      ·intro w'
       go_simp
       with_reducible rfl
      rotate_left
      ·simp only [Act.put,NRM]
       rfl
      refine pure_ (i:=14) (N:=some 29) (v:=?_) (a':=?_) (ba 30 24575) rfl rfl (by kernel_rfl) (fun _ _ _ h=>h) (Or.inl ⟨by rfl,?_⟩) ?_ ?_
      rotate_left
      ·intro w'
       go_simp
       with_reducible rfl
      rotate_left
      ·simp only [Act.put,NRM]
       rfl
      refine take_ (i:=13) (N:=some 28) (v:=?_) (a':=?_) (ba 30 32767) rfl rfl (by kernel_rfl) (fun _ _ _ h=>h) (Or.inl ⟨by rfl,?_⟩) hHeld ?_ ?_
      rotate_left
      ·rintro w' ⟨s0,s1,s2,s3,s4,s5⟩
       go_simp
       with_reducible rfl
      rotate_left
      ·simp only [Act.put,NRM]
       rfl
      refine take_ (i:=15) (N:=some 30) (v:=?_) (a':=?_) (ba 30 65535) rfl rfl (by kernel_rfl) (fun _ _ _ h=>h) (Or.inl ⟨by rfl,?_⟩) hHeld ?_ ?_
      rotate_left
      ·rintro w' ⟨s0,s1,s2,s3,s4,s5⟩
       go_simp
       with_reducible rfl
      rotate_left
      ·simp only [Act.put,NRM]
       rfl
      refine take_ (i:=16) (N:=some 31) (v:=?_) (a':=?_) (ba 30 131071) rfl rfl (by kernel_rfl) (fun _ _ _ h=>h) (Or.inl ⟨by rfl,?_⟩) hHeld ?_ ?_
      rotate_left
      ·rintro w' ⟨s0,s1,s2,s3,s4,s5⟩
       go_simp
       with_reducible rfl
      rotate_left
      ·simp only [Act.put,NRM]
       rfl
      refine pure_ (i:=17) (N:=some 32) (v:=?_) (a':=?_) (ba 30 262143) rfl rfl (by kernel_rfl) (fun _ _ _ h=>h) (Or.inl ⟨by rfl,?_⟩) ?_ ?_
      rotate_left
      ·intro w'
       go_simp
       with_reducible rfl
      rotate_left
      ·simp only [Act.put,NRM]
       rfl
      refine pure_ (i:=18) (N:=some 33) (v:=?_) (a':=?_) (ba 30 524287) rfl rfl (by kernel_rfl) (fun _ _ _ h=>h) (Or.inl ⟨by rfl,?_⟩) ?_ ?_
      rotate_left
      ·intro w'
       go_simp
       with_reducible rfl
      rotate_left
      ·simp only [Act.put,NRM]
       rfl
      refine take_ (i:=19) (N:=some 34) (v:=?_) (a':=?_) (ba 30 1048575) rfl rfl (by kernel_rfl) (fun _ _ _ h=>h) (Or.inl ⟨by rfl,?_⟩) hHeld ?_ ?_
      rotate_left
      ·rintro w' ⟨s0,s1,s2,s3,s4,s5⟩
       go_simp
       with_reducible rfl
      rotate_left
      ·simp only [Act.put,NRM]
       rfl
      refine pure_ (i:=20) (N:=some 35) (v:=?_) (a':=?_) (ba 30 2097151) rfl rfl (by kernel_rfl) (fun _ _ _ h=>h) (Or.inl ⟨by rfl,?_⟩) ?_ ?_
      rotate_left
      ·intro w'
       go_simp
       with_reducible rfl
      rotate_left
      ·simp only [Act.put,NRM]
       rfl
      refine pure_ (i:=21) (N:=some 36) (v:=?_) (a':=?_) (ba 30 4194303) rfl rfl (by kernel_rfl) (fun _ _ _ h=>h) (Or.inl ⟨by rfl,?_⟩) ?_ ?_
      rotate_left
      ·intro w'
       go_simp
       with_reducible rfl
      rotate_left
      ·simp only [Act.put,NRM]
       rfl
      refine one_ (i:=22) (N:=some 37) (ba 30 8388607) rfl rfl (by kernel_rfl) (by decide) (fun K hK=>?_)
      refine goes_ Tryz.func79 (by kernel_rfl) rfl #[.int .i64 a2,.int .i64 0,.int .i64 (wrap64 (((zqo lA a1).f1.length : Int) - 1))] (by rfl) rfl rfl (by (try simp only [List.map_toArray,List.map_cons,List.map_nil]);first | done | rfl) ?_
      refine (ca_in.calls a2 0 (wrap64 (((zqo lA a1).f1.length : Int) - 1)) true _ H3.out).mono ?_
      rintro e wj ⟨rfl,hd⟩
      have hb:=hd.below
      clear hd
      replace HB:=(bmv HB hb)
      replace BKgc:=(kmv hb BKgc)
      replace BKg1:=(kmv hb BKg1)
      replace BKg2:=(kmv hb BKg2)
      replace BKg3:=(kmv hb BKg3)
      clear hb
      refine ⟨_,rfl,?_⟩
      refine hK.out _ _ ⟨(zqb BKgc.out 0).trans rfl,(zqb BKgc.out 1).trans rfl,(zqb BKg1.out 0).trans rfl,(zqb BKg2.out 0).trans rfl,(zqb BKg3.out 0).trans rfl,(HB.out.cell (wbl HY.out)).trans HY.out⟩ (fun hHeld=>?_)
      clear hK K
      refine norm_ (a':=?_) ?_ ?_
      rotate_left
      ·show Act.put _ (some 37) _ = _
       simp only [Act.put,NRM]
       rfl
      refine pure_ (i:=23) (N:=some 38) (v:=?_) (a':=?_) (ba 30 16777215) rfl rfl (by kernel_rfl) (fun _ _ _ h=>h) (Or.inl ⟨by rfl,?_⟩) ?_ ?_
      rotate_left
      ·intro w'
       go_simp
       with_reducible rfl
      rotate_left
      ·simp only [Act.put,NRM]
       rfl
      refine pure_ (i:=24) (N:=some 39) (v:=?_) (a':=?_) (ba 30 33554431) rfl rfl (by kernel_rfl) (fun _ _ _ h=>h) (Or.inl ⟨by rfl,?_⟩) ?_ ?_
      rotate_left
      ·intro w'
       go_simp
       with_reducible rfl
      rotate_left
      ·simp only [Act.put,NRM]
       rfl
      refine pure_ (i:=25) (N:=some 40) (v:=?_) (a':=?_) (ba 30 67108863) rfl rfl (by kernel_rfl) (fun _ _ _ h=>h) (Or.inl ⟨by rfl,?_⟩) ?_ ?_
      rotate_left
      ·intro w'
       go_simp
       with_reducible rfl
      rotate_left
      ·simp only [Act.put,NRM]
       rfl
      refine take_ (i:=26) (N:=some 41) (v:=?_) (a':=?_) (ba 30 134217727) rfl rfl (by kernel_rfl) (fun _ _ _ h=>h) (Or.inl ⟨by rfl,?_⟩) hHeld ?_ ?_
      rotate_left
      ·rintro w' ⟨s0,s1,s2,s3,s4,s5⟩
       go_simp
       with_reducible rfl
      rotate_left
      ·simp only [Act.put,NRM]
       rfl
      refine one_ (i:=27) (N:=some 42) (ba 30 268435455) rfl rfl (by kernel_rfl) (by decide) (fun K hK=>?_)
      refine goes_ Tryz.func67 (by kernel_rfl) rfl #[.int .i64 a3] (by rfl) rfl rfl (by (try simp only [List.map_toArray,List.map_cons,List.map_nil]);first | done | rfl) ?_
      refine (ca_isFlow.calls a3 true _ H4.out).mono ?_
      rintro e wk ⟨rfl,hd⟩
      have hb:=hd.below
      clear hd
      replace HB:=(bmv HB hb)
      replace BKgc:=(kmv hb BKgc)
      replace BKg1:=(kmv hb BKg1)
      replace BKg2:=(kmv hb BKg2)
      replace BKg3:=(kmv hb BKg3)
      clear hb
      refine ⟨_,rfl,?_⟩
      refine hK.out _ _ ⟨(zqb BKgc.out 0).trans rfl,(zqb BKgc.out 1).trans rfl,(zqb BKg1.out 0).trans rfl,(zqb BKg2.out 0).trans rfl,(zqb BKg3.out 0).trans rfl,(HB.out.cell (wbl HY.out)).trans HY.out⟩ (fun hHeld=>?_)
      clear hK K
      refine norm_ (a':=?_) ?_ ?_
      rotate_left
      ·show Act.put _ (some 42) _ = _
       simp only [Act.put,NRM]
       rfl
      refine pure_ (i:=28) (N:=some 43) (v:=?_) (a':=?_) (ba 30 536870911) rfl rfl (by kernel_rfl) (fun _ _ _ h=>h) (Or.inl ⟨by rfl,?_⟩) ?_ ?_
      rotate_left
      ·intro w'
       go_simp
       with_reducible rfl
      rotate_left
      ·simp only [Act.put,NRM]
       rfl
      refine pure_ (i:=29) (N:=some 44) (v:=?_) (a':=?_) (ba 30 1073741823) rfl rfl (by kernel_rfl) (fun _ _ _ h=>h) (Or.inl ⟨by rfl,?_⟩) ?_ ?_
      rotate_left
      ·intro w'
       go_simp
       with_reducible rfl
      rotate_left
      ·simp only [Act.put,NRM]
       rfl
      refine done_ (by kernel_rfl) ?_
      (try clear hczgc_0 hfzgc_0);have hczgc_0 : wk.cell? ⟨gc,0,none⟩ = some (.slice (some adb) lA.length c0_0):=(zqb BKgc.out 0).trans rfl;have hfzgc_0:=zqe BKgc.out 0
      (try clear hczgc_1 hfzgc_1);have hczgc_1 : wk.cell? ⟨gc,1,none⟩ = some (.slice AZ lC.length cC):=(zqb BKgc.out 1).trans rfl;have hfzgc_1:=zqe BKgc.out 1
      (try clear hczg1_0 hfzg1_0);have hczg1_0 : wk.cell? ⟨g1,0,none⟩ = some (.int .i64 a1):=(zqb BKg1.out 0).trans rfl;have hfzg1_0:=zqe BKg1.out 0
      (try clear hczg2_0 hfzg2_0);have hczg2_0 : wk.cell? ⟨g2,0,none⟩ = some (.int .i64 a2):=(zqb BKg2.out 0).trans rfl;have hfzg2_0:=zqe BKg2.out 0
      (try clear hczg3_0 hfzg3_0);have hczg3_0 : wk.cell? ⟨g3,0,none⟩ = some (.int .i64 a3):=(zqb BKg3.out 0).trans rfl;have hfzg3_0:=zqe BKg3.out 0
      go_wp2_with (first | (go_at_call 82;refine (ca_basins.calls (some adb) c0_0 lA AZ lC.length cC fs _ (kC HR0.out HB.out) HC0.out H5.out).mono ?_;rintro e wb ⟨Af,cf,rfl,hlf,hcf,hb⟩;replace HB:=(bmv HB hb);replace BKgc:=(kmv hb BKgc);replace BKg1:=(kmv hb BKg1);replace BKg2:=(kmv hb BKg2);replace BKg3:=(kmv hb BKg3);(try clear hczgc_0 hfzgc_0);have hczgc_0:=cO1 BKgc.out;(try clear hczgc_1 hfzgc_1);have hczgc_1 : wb.cell? ⟨gc,1,none⟩ = some (.slice AZ lC.length cC):=(zqb BKgc.out 1).trans rfl;(try clear hczg1_0 hfzg1_0);have hczg1_0:=cO1 BKg1.out;(try clear hczg2_0 hfzg2_0);have hczg2_0:=cO1 BKg2.out;(try clear hczg3_0 hfzg3_0);have hczg3_0:=cO1 BKg3.out;have HCF:=am hcf;clear hcf;(try clear hy);clear hb) | ((refine zqm (N:=10) rfl ?_);(try (refine zqs (by rfl) ?_;dsimp only));refine zqk rfl (N:=10) rfl (cs:=#[.slice none 0 0]) (t:=122) ?hr ?_;(case hr=>go_simp;try rfl);intro ga hg wa hbox hb;have HNgc_ga:=am (show gc ≠ ga by have:=zq7 BKgc.out;omega);have HNg1_ga:=am (show g1 ≠ ga by have:=zq7 BKg1.out;omega);have HNg2_ga:=am (show g2 ≠ ga by have:=zq7 BKg2.out;omega);have HNg3_ga:=am (show g3 ≠ ga by have:=zq7 BKg3.out;omega);have GA:=am (show w.heap.size≤ga by have:=HB.out.size;omega);have GC_:=am (show gc ≠ ga by have:=zq7 BKgc.out;omega);have G1_:=am (show g1 ≠ ga by have:=zq7 BKg1.out;omega);have G2_:=am (show g2 ≠ ga by have:=zq7 BKg2.out;omega);have G3_:=am (show g3 ≠ ga by have:=zq7 BKg3.out;omega);have GS_:=am (Nat.le_of_eq hg.symm);have GB_:=am hb;replace HB:=(bmv HB hb);replace BKgc:=(kmv hb BKgc);replace BKg1:=(kmv hb BKg1);replace BKg2:=(kmv hb BKg2);replace BKg3:=(kmv hb BKg3);have HCF0:=HCF;replace HCF:=(cmv HCF hb);clear hg;have BKga:=am hbox;clear hbox;(try clear hczgc_0 hfzgc_0);have hczgc_0:=cO1 BKgc.out;(try clear hczgc_1 hfzgc_1);have hczgc_1 : wa.cell? ⟨gc,1,none⟩ = some (.slice AZ lC.length cC):=(zqb BKgc.out 1).trans rfl;(try clear hczg1_0 hfzg1_0);have hczg1_0:=cO1 BKg1.out;(try clear hczg2_0 hfzg2_0);have hczg2_0:=cO1 BKg2.out;(try clear hczg3_0 hfzg3_0);have hczg3_0:=cO1 BKg3.out;(try clear hczga_0 hfzga_0);have hczga_0:=cO1 BKga.out;have hfzga_0:=zqe BKga.out 0;clear hb) | ((with_reducible refine zwi (t:=122) (p:=10) rfl ?_);refine zph (fun W'=>W'.heap[ga]? = some (.cells #[.slice Af fs.length cf] 122 (0,0))∧W'.heap[gc]? = some (.cells #[.slice (some adb) lA.length c0_0,.slice AZ lC.length cC] 59 (0,0))∧W'.heap[g1]? = some (.cells #[.int .i64 a1] 3 (0,0))∧W'.heap[g2]? = some (.cells #[.int .i64 a2] 3 (0,0))∧W'.heap[g3]? = some (.cells #[.int .i64 a3] 3 (0,0))∧Kd.C k110 W' Af fs.length fs∧Below w.heap.size w W') ?hg ?hd ?hr ⟨(zwa BKga.out 0 _).trans rfl,zqz (p:=⟨ga,0,none⟩) BKgc.out GC_.out _,zqz (p:=⟨ga,0,none⟩) BKg1.out G1_.out _,zqz (p:=⟨ga,0,none⟩) BKg2.out G2_.out _,zqz (p:=⟨ga,0,none⟩) BKg3.out G3_.out _,kC HCF0.out (zqd GB_.out GS_.out),zqd HB.out GA.out⟩ ?_;(case hg=>rfl);(case hd=>rfl);(case hr=>go_simp;try rfl);rintro ws ⟨k1,k2,k3,k4,k5,k6,k7⟩;(try clear hczgc_0 hczgc_1 hczg1_0 hczg2_0 hczg3_0 hczga_0);(try clear hfzgc_0 hfzgc_1 hfzg1_0 hfzg2_0 hfzg3_0 hfzga_0);clear BKga BKgc BKg1 BKg2 BKg3 HCF HCF0 HB GB_ GS_;have BKga:=am k1;have BKgc:=am k2;have BKg1:=am k3;have BKg2:=am k4;have BKg3:=am k5;have HCF:=am k6;have HB:=am k7;clear k1 k2 k3 k4 k5 k6 k7) | (go_at_call 83;refine (ca_Least_1.calls k ga gc g1 g2 g3 Af cf fs (some adb) c0_0 lA AZ cC lC a1 a2 a3 10000 false _ BKga.out BKgc.out BKg1.out BKg2.out BKg3.out HCF.out (kC HR1.out HB.out) H6.out).mono ?_;rintro e we ⟨rfl,hb⟩;replace HB:=(bmv HB hb);replace BKgc:=(kmv hb BKgc);replace BKg1:=(kmv hb BKg1);replace BKg2:=(kmv hb BKg2);replace BKg3:=(kmv hb BKg3);replace HCF:=(cmv HCF hb);replace BKga:=(kmv hb BKga);(try clear hczgc_0 hfzgc_0);have hczgc_0:=cO1 BKgc.out;(try clear hczgc_1 hfzgc_1);have hczgc_1 : we.cell? ⟨gc,1,none⟩ = some (.slice AZ lC.length cC):=(zqb BKgc.out 1).trans rfl;(try clear hczg1_0 hfzg1_0);have hczg1_0:=cO1 BKg1.out;(try clear hczg2_0 hfzg2_0);have hczg2_0:=cO1 BKg2.out;(try clear hczg3_0 hfzg3_0);have hczg3_0:=cO1 BKg3.out;(try clear hczga_0 hfzga_0);have hczga_0:=cO1 BKga.out;have hfzga_0:=zqe BKga.out 0;clear hb))
      go_ret2
      exact ⟨rfl,HB.out⟩
     | true =>
      rw [if_pos rfl] at h
      obtain ⟨q,hq,h⟩:=obm h
      simp only [Option.some.injEq,Prod.mk.injEq] at h
      obtain ⟨rfl,rfl⟩:=h
      have HQ:=am hq
      clear hq
      go_enter Tryz.func35,Tryz.ntmps35
      go_wp2_with (first | ((refine zqm (N:=4) rfl ?_);(try (refine zqs (by rfl) ?_;dsimp only));refine zqk rfl (N:=4) rfl (cs:=#[.slice (some adb) lA.length c0_0,.slice AZ lC.length cC]) (t:=59) ?hr ?_;(case hr=>go_simp;try rfl);intro gc hg w1 hbox hb;replace HB:=(bmv HB hb);clear hg;have BKgc:=am hbox;clear hbox;(try clear hczgc_0 hfzgc_0);have hczgc_0:=cO1 BKgc.out;(try clear hczgc_1 hfzgc_1);have hczgc_1 : w1.cell? ⟨gc,1,none⟩ = some (.slice AZ lC.length cC):=(zqb BKgc.out 1).trans rfl;clear hb) | ((refine zqm (N:=5) rfl ?_);(try (refine zqs (by rfl) ?_;dsimp only));refine zqk rfl (N:=5) rfl (cs:=#[.int .i64 a1]) (t:=3) ?hr ?_;(case hr=>go_simp;try rfl);intro g1 hg w2 hbox hb;replace HB:=(bmv HB hb);replace BKgc:=(kmv hb BKgc);clear hg;have BKg1:=am hbox;clear hbox;(try clear hczgc_0 hfzgc_0);have hczgc_0:=cO1 BKgc.out;(try clear hczgc_1 hfzgc_1);have hczgc_1 : w2.cell? ⟨gc,1,none⟩ = some (.slice AZ lC.length cC):=(zqb BKgc.out 1).trans rfl;(try clear hczg1_0 hfzg1_0);have hczg1_0:=cO1 BKg1.out;clear hb) | ((refine zqm (N:=6) rfl ?_);(try (refine zqs (by rfl) ?_;dsimp only));refine zqk rfl (N:=6) rfl (cs:=#[.int .i64 a2]) (t:=3) ?hr ?_;(case hr=>go_simp;try rfl);intro g2 hg w3 hbox hb;replace HB:=(bmv HB hb);replace BKgc:=(kmv hb BKgc);replace BKg1:=(kmv hb BKg1);clear hg;have BKg2:=am hbox;clear hbox;(try clear hczgc_0 hfzgc_0);have hczgc_0:=cO1 BKgc.out;(try clear hczgc_1 hfzgc_1);have hczgc_1 : w3.cell? ⟨gc,1,none⟩ = some (.slice AZ lC.length cC):=(zqb BKgc.out 1).trans rfl;(try clear hczg1_0 hfzg1_0);have hczg1_0:=cO1 BKg1.out;(try clear hczg2_0 hfzg2_0);have hczg2_0:=cO1 BKg2.out;clear hb) | ((refine zqm (N:=7) rfl ?_);(try (refine zqs (by rfl) ?_;dsimp only));refine zqk rfl (N:=7) rfl (cs:=#[.int .i64 a3]) (t:=3) ?hr ?_;(case hr=>go_simp;try rfl);intro g3 hg w4 hbox hb;replace HB:=(bmv HB hb);replace BKgc:=(kmv hb BKgc);replace BKg1:=(kmv hb BKg1);replace BKg2:=(kmv hb BKg2);clear hg;have BKg3:=am hbox;clear hbox;(try clear hczgc_0 hfzgc_0);have hczgc_0:=cO1 BKgc.out;(try clear hczgc_1 hfzgc_1);have hczgc_1 : w4.cell? ⟨gc,1,none⟩ = some (.slice AZ lC.length cC):=(zqb BKgc.out 1).trans rfl;(try clear hczg1_0 hfzg1_0);have hczg1_0:=cO1 BKg1.out;(try clear hczg2_0 hfzg2_0);have hczg2_0:=cO1 BKg2.out;(try clear hczg3_0 hfzg3_0);have hczg3_0:=cO1 BKg3.out;clear hb))
      refine zk8 (n:=30) (S:=fun W=>W.cell? ⟨gc,0,none⟩ = some (.slice (some adb) lA.length c0_0)∧W.cell? ⟨gc,1,none⟩ = some (.slice AZ lC.length cC)∧W.cell? ⟨g1,0,none⟩ = some (.int .i64 a1)∧W.cell? ⟨g2,0,none⟩ = some (.int .i64 a2)∧W.cell? ⟨g3,0,none⟩ = some (.int .i64 a3)∧W.cell? ⟨(adb.add (a1.toNat * 5)).block,(adb.add (a1.toNat * 5)).off + 2,none⟩ = some (.slice A2 (zqo lA a1).f1.length c2)) (ds:=[]) (ba 30 0) (by kernel_rfl) rfl rfl ⟨(zqb (zqj BKgc.out) 0).trans rfl,(zqb (zqj BKgc.out) 1).trans rfl,(zqb (zqj BKg1.out) 0).trans rfl,(zqb (zqj BKg2.out) 0).trans rfl,(zqb (zqj BKg3.out) 0).trans rfl,((zwe HB.out).cell (wbl HY.out)).trans HY.out⟩ (fun hHeld=>?_)
      replace BKgc:=am (zqj BKgc.out)
      replace BKg1:=am (zqj BKg1.out)
      replace BKg2:=am (zqj BKg2.out)
      replace BKg3:=am (zqj BKg3.out)
      replace HB:=am (zwe HB.out)
      (try clear hczgc_0 hczgc_1 hczg1_0 hczg2_0 hczg3_0)
      (try clear hfzgc_0 hfzgc_1 hfzg1_0 hfzg2_0 hfzg3_0)
      generalize w4.drew = wd at BKgc BKg1 BKg2 BKg3 HB hHeld ⊢
      refine take_ (i:=0) (N:=some 15) (v:=?_) (a':=?_) (ba 30 1) rfl rfl (by kernel_rfl) (fun _ _ _ h=>h) (Or.inl ⟨by rfl,?_⟩) hHeld ?_ ?_
      rotate_left
      ·rintro w' ⟨s0,s1,s2,s3,s4,s5⟩
       go_simp
       with_reducible rfl
      rotate_left
      ·simp only [Act.put,NRM]
       rfl
      refine one_ (i:=1) (N:=some 16) (ba 30 3) rfl rfl (by kernel_rfl) (by decide) (fun K hK=>?_)
      refine goes_ Tryz.func80 (by kernel_rfl) rfl #[.agg #[.slice (some adb) lA.length c0_0,.slice AZ lC.length cC]] (by rfl) rfl rfl (by (try simp only [List.map_toArray,List.map_cons,List.map_nil]);first | done | rfl) ?_
      refine (ca_isChain.calls (some adb) c0_0 lA AZ cC lC true _ (kC HR0.out HB.out) HC0.out (kC HR1.out HB.out) HC1.out H1.out).mono ?_
      rintro e wc ⟨rfl,hb⟩
      replace HB:=(bmv HB hb)
      replace BKgc:=(kmv hb BKgc)
      replace BKg1:=(kmv hb BKg1)
      replace BKg2:=(kmv hb BKg2)
      replace BKg3:=(kmv hb BKg3)
      clear hb
      refine ⟨_,rfl,?_⟩
      refine hK.out _ _ ⟨(zqb BKgc.out 0).trans rfl,(zqb BKgc.out 1).trans rfl,(zqb BKg1.out 0).trans rfl,(zqb BKg2.out 0).trans rfl,(zqb BKg3.out 0).trans rfl,(HB.out.cell (wbl HY.out)).trans HY.out⟩ (fun hHeld=>?_)
      clear hK K
      refine norm_ (a':=?_) ?_ ?_
      rotate_left
      ·show Act.put _ (some 16) _ = _
       simp only [Act.put,NRM]
       rfl
      refine pure_ (i:=2) (N:=some 17) (v:=?_) (a':=?_) (ba 30 7) rfl rfl (by kernel_rfl) (fun _ _ _ h=>h) (Or.inl ⟨by rfl,?_⟩) ?_ ?_
      rotate_left
      ·intro w'
       go_simp
       with_reducible rfl
      rotate_left
      ·simp only [Act.put,NRM]
       rfl
      refine pure_ (i:=3) (N:=some 18) (v:=?_) (a':=?_) (ba 30 15) rfl rfl (by kernel_rfl) (fun _ _ _ h=>h) (Or.inl ⟨by rfl,?_⟩) ?_ ?_
      rotate_left
      ·intro w'
       go_simp
       with_reducible rfl
      rotate_left
      ·simp only [Act.put,NRM]
       rfl
      refine pure_ (i:=5) (N:=some 20) (v:=?_) (a':=?_) (ba 30 47) rfl rfl (by kernel_rfl) (fun _ _ _ h=>h) (Or.inl ⟨by rfl,?_⟩) ?_ ?_
      rotate_left
      ·intro w'
       go_simp
       with_reducible rfl
      rotate_left
      ·simp only [Act.put,NRM]
       rfl
      refine take_ (i:=4) (N:=some 19) (v:=?_) (a':=?_) (ba 30 63) rfl rfl (by kernel_rfl) (fun _ _ _ h=>h) (Or.inl ⟨by rfl,?_⟩) hHeld ?_ ?_
      rotate_left
      ·rintro w' ⟨s0,s1,s2,s3,s4,s5⟩
       go_simp
       with_reducible rfl
      rotate_left
      ·simp only [Act.put,NRM]
       rfl
      refine take_ (i:=6) (N:=some 21) (v:=?_) (a':=?_) (ba 30 127) rfl rfl (by kernel_rfl) (fun _ _ _ h=>h) (Or.inl ⟨by rfl,?_⟩) hHeld ?_ ?_
      rotate_left
      ·rintro w' ⟨s0,s1,s2,s3,s4,s5⟩
       go_simp
       with_reducible rfl
      rotate_left
      ·simp only [Act.put,NRM]
       rfl
      refine pure_ (i:=7) (N:=some 22) (v:=?_) (a':=?_) (ba 30 255) rfl rfl (by kernel_rfl) (fun _ _ _ h=>h) (Or.inl ⟨by rfl,?_⟩) ?_ ?_
      rotate_left
      ·intro w'
       go_simp
       with_reducible rfl
      rotate_left
      ·simp only [Act.put,NRM]
       rfl
      refine pure_ (i:=8) (N:=some 23) (v:=?_) (a':=?_) (ba 30 511) rfl rfl (by kernel_rfl) (fun _ _ _ h=>h) (Or.inl ⟨by rfl,?_⟩) ?_ ?_
      rotate_left
      ·intro w'
       go_simp
       with_reducible rfl
      rotate_left
      ·simp only [Act.put,NRM]
       rfl
      refine one_ (i:=9) (N:=some 24) (ba 30 1023) rfl rfl (by kernel_rfl) (by decide) (fun K hK=>?_)
      refine goes_ Tryz.func79 (by kernel_rfl) rfl #[.int .i64 a1,.int .i64 0,.int .i64 (wrap64 ((lA.length : Int) - 1))] (by rfl) rfl rfl (by (try simp only [List.map_toArray,List.map_cons,List.map_nil]);first | done | rfl) ?_
      refine (ca_in.calls a1 0 (wrap64 ((lA.length : Int) - 1)) true _ H2.out).mono ?_
      rintro e wi ⟨rfl,hd⟩
      have hb:=hd.below
      clear hd
      replace HB:=(bmv HB hb)
      replace BKgc:=(kmv hb BKgc)
      replace BKg1:=(kmv hb BKg1)
      replace BKg2:=(kmv hb BKg2)
      replace BKg3:=(kmv hb BKg3)
      clear hb
      refine ⟨_,rfl,?_⟩
      refine hK.out _ _ ⟨(zqb BKgc.out 0).trans rfl,(zqb BKgc.out 1).trans rfl,(zqb BKg1.out 0).trans rfl,(zqb BKg2.out 0).trans rfl,(zqb BKg3.out 0).trans rfl,(HB.out.cell (wbl HY.out)).trans HY.out⟩ (fun hHeld=>?_)
      clear hK K
      refine norm_ (a':=?_) ?_ ?_
      rotate_left
      ·show Act.put _ (some 24) _ = _
       simp only [Act.put,NRM]
       rfl
      refine pure_ (i:=10) (N:=some 25) (v:=?_) (a':=?_) (ba 30 2047) rfl rfl (by kernel_rfl) (fun _ _ _ h=>h) (Or.inl ⟨by rfl,?_⟩) ?_ ?_
      rotate_left
      ·intro w'
       go_simp
       with_reducible rfl
      rotate_left
      ·simp only [Act.put,NRM]
       rfl
      refine pure_ (i:=11) (N:=some 26) (v:=?_) (a':=?_) (ba 30 4095) rfl rfl (by kernel_rfl) (fun _ _ _ h=>h) (Or.inl ⟨by rfl,?_⟩) ?_ ?_
      rotate_left
      ·intro w'
       go_simp
       with_reducible rfl
      rotate_left
      ·simp only [Act.put,NRM]
       rfl
      refine pure_ (i:=12) (N:=some 27) (v:=?_) (a':=?_) (ba 30 8191) rfl rfl (by kernel_rfl) (fun _ _ _ h=>h) (Or.inl ⟨by rfl,?_⟩) ?_ ?_
      rotate_left
      ·intro w'
       go_simp
       with_reducible rfl
      rotate_left
      ·simp only [Act.put,NRM]
       rfl
      refine pure_ (i:=14) (N:=some 29) (v:=?_) (a':=?_) (ba 30 24575) rfl rfl (by kernel_rfl) (fun _ _ _ h=>h) (Or.inl ⟨by rfl,?_⟩) ?_ ?_
      rotate_left
      ·intro w'
       go_simp
       with_reducible rfl
      rotate_left
      ·simp only [Act.put,NRM]
       rfl
      refine take_ (i:=13) (N:=some 28) (v:=?_) (a':=?_) (ba 30 32767) rfl rfl (by kernel_rfl) (fun _ _ _ h=>h) (Or.inl ⟨by rfl,?_⟩) hHeld ?_ ?_
      rotate_left
      ·rintro w' ⟨s0,s1,s2,s3,s4,s5⟩
       go_simp
       with_reducible rfl
      rotate_left
      ·simp only [Act.put,NRM]
       rfl
      refine take_ (i:=15) (N:=some 30) (v:=?_) (a':=?_) (ba 30 65535) rfl rfl (by kernel_rfl) (fun _ _ _ h=>h) (Or.inl ⟨by rfl,?_⟩) hHeld ?_ ?_
      rotate_left
      ·rintro w' ⟨s0,s1,s2,s3,s4,s5⟩
       go_simp
       with_reducible rfl
      rotate_left
      ·simp only [Act.put,NRM]
       rfl
      refine take_ (i:=16) (N:=some 31) (v:=?_) (a':=?_) (ba 30 131071) rfl rfl (by kernel_rfl) (fun _ _ _ h=>h) (Or.inl ⟨by rfl,?_⟩) hHeld ?_ ?_
      rotate_left
      ·rintro w' ⟨s0,s1,s2,s3,s4,s5⟩
       go_simp
       with_reducible rfl
      rotate_left
      ·simp only [Act.put,NRM]
       rfl
      refine pure_ (i:=17) (N:=some 32) (v:=?_) (a':=?_) (ba 30 262143) rfl rfl (by kernel_rfl) (fun _ _ _ h=>h) (Or.inl ⟨by rfl,?_⟩) ?_ ?_
      rotate_left
      ·intro w'
       go_simp
       with_reducible rfl
      rotate_left
      ·simp only [Act.put,NRM]
       rfl
      refine pure_ (i:=18) (N:=some 33) (v:=?_) (a':=?_) (ba 30 524287) rfl rfl (by kernel_rfl) (fun _ _ _ h=>h) (Or.inl ⟨by rfl,?_⟩) ?_ ?_
      rotate_left
      ·intro w'
       go_simp
       with_reducible rfl
      rotate_left
      ·simp only [Act.put,NRM]
       rfl
      refine take_ (i:=19) (N:=some 34) (v:=?_) (a':=?_) (ba 30 1048575) rfl rfl (by kernel_rfl) (fun _ _ _ h=>h) (Or.inl ⟨by rfl,?_⟩) hHeld ?_ ?_
      rotate_left
      ·rintro w' ⟨s0,s1,s2,s3,s4,s5⟩
       go_simp
       with_reducible rfl
      rotate_left
      ·simp only [Act.put,NRM]
       rfl
      refine pure_ (i:=20) (N:=some 35) (v:=?_) (a':=?_) (ba 30 2097151) rfl rfl (by kernel_rfl) (fun _ _ _ h=>h) (Or.inl ⟨by rfl,?_⟩) ?_ ?_
      rotate_left
      ·intro w'
       go_simp
       with_reducible rfl
      rotate_left
      ·simp only [Act.put,NRM]
       rfl
      refine pure_ (i:=21) (N:=some 36) (v:=?_) (a':=?_) (ba 30 4194303) rfl rfl (by kernel_rfl) (fun _ _ _ h=>h) (Or.inl ⟨by rfl,?_⟩) ?_ ?_
      rotate_left
      ·intro w'
       go_simp
       with_reducible rfl
      rotate_left
      ·simp only [Act.put,NRM]
       rfl
      refine one_ (i:=22) (N:=some 37) (ba 30 8388607) rfl rfl (by kernel_rfl) (by decide) (fun K hK=>?_)
      refine goes_ Tryz.func79 (by kernel_rfl) rfl #[.int .i64 a2,.int .i64 0,.int .i64 (wrap64 (((zqo lA a1).f1.length : Int) - 1))] (by rfl) rfl rfl (by (try simp only [List.map_toArray,List.map_cons,List.map_nil]);first | done | rfl) ?_
      refine (ca_in.calls a2 0 (wrap64 (((zqo lA a1).f1.length : Int) - 1)) true _ H3.out).mono ?_
      rintro e wj ⟨rfl,hd⟩
      have hb:=hd.below
      clear hd
      replace HB:=(bmv HB hb)
      replace BKgc:=(kmv hb BKgc)
      replace BKg1:=(kmv hb BKg1)
      replace BKg2:=(kmv hb BKg2)
      replace BKg3:=(kmv hb BKg3)
      clear hb
      refine ⟨_,rfl,?_⟩
      refine hK.out _ _ ⟨(zqb BKgc.out 0).trans rfl,(zqb BKgc.out 1).trans rfl,(zqb BKg1.out 0).trans rfl,(zqb BKg2.out 0).trans rfl,(zqb BKg3.out 0).trans rfl,(HB.out.cell (wbl HY.out)).trans HY.out⟩ (fun hHeld=>?_)
      clear hK K
      refine norm_ (a':=?_) ?_ ?_
      rotate_left
      ·show Act.put _ (some 37) _ = _
       simp only [Act.put,NRM]
       rfl
      refine pure_ (i:=23) (N:=some 38) (v:=?_) (a':=?_) (ba 30 16777215) rfl rfl (by kernel_rfl) (fun _ _ _ h=>h) (Or.inl ⟨by rfl,?_⟩) ?_ ?_
      rotate_left
      ·intro w'
       go_simp
       with_reducible rfl
      rotate_left
      ·simp only [Act.put,NRM]
       rfl
      refine pure_ (i:=24) (N:=some 39) (v:=?_) (a':=?_) (ba 30 33554431) rfl rfl (by kernel_rfl) (fun _ _ _ h=>h) (Or.inl ⟨by rfl,?_⟩) ?_ ?_
      rotate_left
      ·intro w'
       go_simp
       with_reducible rfl
      rotate_left
      ·simp only [Act.put,NRM]
       rfl
      refine pure_ (i:=25) (N:=some 40) (v:=?_) (a':=?_) (ba 30 67108863) rfl rfl (by kernel_rfl) (fun _ _ _ h=>h) (Or.inl ⟨by rfl,?_⟩) ?_ ?_
      rotate_left
      ·intro w'
       go_simp
       with_reducible rfl
      rotate_left
      ·simp only [Act.put,NRM]
       rfl
      refine take_ (i:=26) (N:=some 41) (v:=?_) (a':=?_) (ba 30 134217727) rfl rfl (by kernel_rfl) (fun _ _ _ h=>h) (Or.inl ⟨by rfl,?_⟩) hHeld ?_ ?_
      rotate_left
      ·rintro w' ⟨s0,s1,s2,s3,s4,s5⟩
       go_simp
       with_reducible rfl
      rotate_left
      ·simp only [Act.put,NRM]
       rfl
      refine one_ (i:=27) (N:=some 42) (ba 30 268435455) rfl rfl (by kernel_rfl) (by decide) (fun K hK=>?_)
      refine goes_ Tryz.func67 (by kernel_rfl) rfl #[.int .i64 a3] (by rfl) rfl rfl (by (try simp only [List.map_toArray,List.map_cons,List.map_nil]);first | done | rfl) ?_
      refine (ca_isFlow.calls a3 true _ H4.out).mono ?_
      rintro e wk ⟨rfl,hd⟩
      have hb:=hd.below
      clear hd
      replace HB:=(bmv HB hb)
      replace BKgc:=(kmv hb BKgc)
      replace BKg1:=(kmv hb BKg1)
      replace BKg2:=(kmv hb BKg2)
      replace BKg3:=(kmv hb BKg3)
      clear hb
      refine ⟨_,rfl,?_⟩
      refine hK.out _ _ ⟨(zqb BKgc.out 0).trans rfl,(zqb BKgc.out 1).trans rfl,(zqb BKg1.out 0).trans rfl,(zqb BKg2.out 0).trans rfl,(zqb BKg3.out 0).trans rfl,(HB.out.cell (wbl HY.out)).trans HY.out⟩ (fun hHeld=>?_)
      clear hK K
      refine norm_ (a':=?_) ?_ ?_
      rotate_left
      ·show Act.put _ (some 42) _ = _
       simp only [Act.put,NRM]
       rfl
      refine pure_ (i:=28) (N:=some 43) (v:=?_) (a':=?_) (ba 30 536870911) rfl rfl (by kernel_rfl) (fun _ _ _ h=>h) (Or.inl ⟨by rfl,?_⟩) ?_ ?_
      rotate_left
      ·intro w'
       go_simp
       with_reducible rfl
      rotate_left
      ·simp only [Act.put,NRM]
       rfl
      refine pure_ (i:=29) (N:=some 44) (v:=?_) (a':=?_) (ba 30 1073741823) rfl rfl (by kernel_rfl) (fun _ _ _ h=>h) (Or.inl ⟨by rfl,?_⟩) ?_ ?_
      rotate_left
      ·intro w'
       go_simp
       with_reducible rfl
      rotate_left
      ·simp only [Act.put,NRM]
       rfl
      refine done_ (by kernel_rfl) ?_
      (try clear hczgc_0 hfzgc_0);have hczgc_0 : wk.cell? ⟨gc,0,none⟩ = some (.slice (some adb) lA.length c0_0):=(zqb BKgc.out 0).trans rfl;have hfzgc_0:=zqe BKgc.out 0
      (try clear hczgc_1 hfzgc_1);have hczgc_1 : wk.cell? ⟨gc,1,none⟩ = some (.slice AZ lC.length cC):=(zqb BKgc.out 1).trans rfl;have hfzgc_1:=zqe BKgc.out 1
      (try clear hczg1_0 hfzg1_0);have hczg1_0 : wk.cell? ⟨g1,0,none⟩ = some (.int .i64 a1):=(zqb BKg1.out 0).trans rfl;have hfzg1_0:=zqe BKg1.out 0
      (try clear hczg2_0 hfzg2_0);have hczg2_0 : wk.cell? ⟨g2,0,none⟩ = some (.int .i64 a2):=(zqb BKg2.out 0).trans rfl;have hfzg2_0:=zqe BKg2.out 0
      (try clear hczg3_0 hfzg3_0);have hczg3_0 : wk.cell? ⟨g3,0,none⟩ = some (.int .i64 a3):=(zqb BKg3.out 0).trans rfl;have hfzg3_0:=zqe BKg3.out 0
      go_wp2_with (first | (go_at_call 82;refine (ca_basins.calls (some adb) c0_0 lA AZ lC.length cC fs _ (kC HR0.out HB.out) HC0.out H5.out).mono ?_;rintro e wb ⟨Af,cf,rfl,hlf,hcf,hb⟩;replace HB:=(bmv HB hb);replace BKgc:=(kmv hb BKgc);replace BKg1:=(kmv hb BKg1);replace BKg2:=(kmv hb BKg2);replace BKg3:=(kmv hb BKg3);(try clear hczgc_0 hfzgc_0);have hczgc_0:=cO1 BKgc.out;(try clear hczgc_1 hfzgc_1);have hczgc_1 : wb.cell? ⟨gc,1,none⟩ = some (.slice AZ lC.length cC):=(zqb BKgc.out 1).trans rfl;(try clear hczg1_0 hfzg1_0);have hczg1_0:=cO1 BKg1.out;(try clear hczg2_0 hfzg2_0);have hczg2_0:=cO1 BKg2.out;(try clear hczg3_0 hfzg3_0);have hczg3_0:=cO1 BKg3.out;have HCF:=am hcf;clear hcf;(try clear hy);clear hb) | ((refine zqm (N:=10) rfl ?_);(try (refine zqs (by rfl) ?_;dsimp only));refine zqk rfl (N:=10) rfl (cs:=#[.slice none 0 0]) (t:=122) ?hr ?_;(case hr=>go_simp;try rfl);intro ga hg wa hbox hb;have HNgc_ga:=am (show gc ≠ ga by have:=zq7 BKgc.out;omega);have HNg1_ga:=am (show g1 ≠ ga by have:=zq7 BKg1.out;omega);have HNg2_ga:=am (show g2 ≠ ga by have:=zq7 BKg2.out;omega);have HNg3_ga:=am (show g3 ≠ ga by have:=zq7 BKg3.out;omega);have GA:=am (show w.heap.size≤ga by have:=HB.out.size;omega);have GC_:=am (show gc ≠ ga by have:=zq7 BKgc.out;omega);have G1_:=am (show g1 ≠ ga by have:=zq7 BKg1.out;omega);have G2_:=am (show g2 ≠ ga by have:=zq7 BKg2.out;omega);have G3_:=am (show g3 ≠ ga by have:=zq7 BKg3.out;omega);have GS_:=am (Nat.le_of_eq hg.symm);have GB_:=am hb;replace HB:=(bmv HB hb);replace BKgc:=(kmv hb BKgc);replace BKg1:=(kmv hb BKg1);replace BKg2:=(kmv hb BKg2);replace BKg3:=(kmv hb BKg3);have HCF0:=HCF;replace HCF:=(cmv HCF hb);clear hg;have BKga:=am hbox;clear hbox;(try clear hczgc_0 hfzgc_0);have hczgc_0:=cO1 BKgc.out;(try clear hczgc_1 hfzgc_1);have hczgc_1 : wa.cell? ⟨gc,1,none⟩ = some (.slice AZ lC.length cC):=(zqb BKgc.out 1).trans rfl;(try clear hczg1_0 hfzg1_0);have hczg1_0:=cO1 BKg1.out;(try clear hczg2_0 hfzg2_0);have hczg2_0:=cO1 BKg2.out;(try clear hczg3_0 hfzg3_0);have hczg3_0:=cO1 BKg3.out;(try clear hczga_0 hfzga_0);have hczga_0:=cO1 BKga.out;have hfzga_0:=zqe BKga.out 0;clear hb) | ((with_reducible refine zwi (t:=122) (p:=10) rfl ?_);refine zph (fun W'=>W'.heap[ga]? = some (.cells #[.slice Af fs.length cf] 122 (0,0))∧W'.heap[gc]? = some (.cells #[.slice (some adb) lA.length c0_0,.slice AZ lC.length cC] 59 (0,0))∧W'.heap[g1]? = some (.cells #[.int .i64 a1] 3 (0,0))∧W'.heap[g2]? = some (.cells #[.int .i64 a2] 3 (0,0))∧W'.heap[g3]? = some (.cells #[.int .i64 a3] 3 (0,0))∧Kd.C k110 W' Af fs.length fs∧Below w.heap.size w W') ?hg ?hd ?hr ⟨(zwa BKga.out 0 _).trans rfl,zqz (p:=⟨ga,0,none⟩) BKgc.out GC_.out _,zqz (p:=⟨ga,0,none⟩) BKg1.out G1_.out _,zqz (p:=⟨ga,0,none⟩) BKg2.out G2_.out _,zqz (p:=⟨ga,0,none⟩) BKg3.out G3_.out _,kC HCF0.out (zqd GB_.out GS_.out),zqd HB.out GA.out⟩ ?_;(case hg=>rfl);(case hd=>rfl);(case hr=>go_simp;try rfl);rintro ws ⟨k1,k2,k3,k4,k5,k6,k7⟩;(try clear hczgc_0 hczgc_1 hczg1_0 hczg2_0 hczg3_0 hczga_0);(try clear hfzgc_0 hfzgc_1 hfzg1_0 hfzg2_0 hfzg3_0 hfzga_0);clear BKga BKgc BKg1 BKg2 BKg3 HCF HCF0 HB GB_ GS_;have BKga:=am k1;have BKgc:=am k2;have BKg1:=am k3;have BKg2:=am k4;have BKg3:=am k5;have HCF:=am k6;have HB:=am k7;clear k1 k2 k3 k4 k5 k6 k7) | (go_at_call 83;refine (ca_Least_1.calls k ga gc g1 g2 g3 Af cf fs (some adb) c0_0 lA AZ cC lC a1 a2 a3 10000 true _ BKga.out BKgc.out BKg1.out BKg2.out BKg3.out HCF.out (kC HR1.out HB.out) H6.out).mono ?_;rintro e we ⟨rfl,hb⟩;replace HB:=(bmv HB hb);replace BKgc:=(kmv hb BKgc);replace BKg1:=(kmv hb BKg1);replace BKg2:=(kmv hb BKg2);replace BKg3:=(kmv hb BKg3);replace HCF:=(cmv HCF hb);replace BKga:=(kmv hb BKga);(try clear hczgc_0 hfzgc_0);have hczgc_0:=cO1 BKgc.out;(try clear hczgc_1 hfzgc_1);have hczgc_1 : we.cell? ⟨gc,1,none⟩ = some (.slice AZ lC.length cC):=(zqb BKgc.out 1).trans rfl;(try clear hczg1_0 hfzg1_0);have hczg1_0:=cO1 BKg1.out;(try clear hczg2_0 hfzg2_0);have hczg2_0:=cO1 BKg2.out;(try clear hczg3_0 hfzg3_0);have hczg3_0:=cO1 BKg3.out;(try clear hczga_0 hfzga_0);have hczga_0:=cO1 BKga.out;have hfzga_0:=zqe BKga.out 0;clear hb))
      go_loopg [12,13] k (fun kq v12 v13 w'=>∃ (lo hi : Int),v12 = .int .i64 lo∧v13 = .int .i64 hi∧zqg (bisGo (enough.f k fs lC a1 a2 a3) kq lo hi = some q)∧zqg (w'.heap[ga]? = some (.cells #[.slice Af fs.length cf] 122 (0,0)))∧zqg (w'.heap[gc]? = some (.cells #[.slice (some adb) lA.length c0_0,.slice AZ lC.length cC] 59 (0,0)))∧zqg (w'.heap[g1]? = some (.cells #[.int .i64 a1] 3 (0,0)))∧zqg (w'.heap[g2]? = some (.cells #[.int .i64 a2] 3 (0,0)))∧zqg (w'.heap[g3]? = some (.cells #[.int .i64 a3] 3 (0,0)))∧zqg (Kd.C k110 w' Af fs.length fs)∧zqg (Below w.heap.size w w'))
      case atStart=>exact ⟨0,10000,rfl,rfl,HQ,BKga,BKgc,BKg1,BKg2,BKg3,HCF,HB⟩
      case round =>
       clear HQ BKga BKgc BKg1 BKg2 BKg3 HCF HB
       (try clear hczgc_0 hczgc_1 hczg1_0 hczg2_0 hczg3_0 hczga_0)
       (try clear hfzgc_0 hfzgc_1 hfzg1_0 hfzg2_0 hfzg3_0 hfzga_0)
       obtain ⟨lo,hi,rfl,rfl,HQ,BKga,BKgc,BKg1,BKg2,BKg3,HCF,HB⟩:=hrel
       cases gk with
       | zero=>exact absurd HQ.out (by simp [bisGo])
       | succ k1 =>
        have hq:=HQ.out
        clear HQ
        simp only [bisGo] at hq
        by_cases hlt : lo < hi
        case neg =>
         rw [if_neg hlt] at hq
         have hd0 : decide (lo < hi) = false:=decide_eq_false hlt
         obtain rfl:=Option.some.inj hq
         clear hq hlt
         go_wp2
         go_ret2
         exact ⟨rfl,HB.out⟩
        rw [if_pos hlt] at hq
        have hd0 : decide (lo < hi) = true:=decide_eq_true hlt
        clear hlt
        obtain ⟨b,hb,hq⟩:=obm hq
        have H7:=am hb
        have HQ:=am hq
        clear hb hq
        cases b with
        | false =>
         have hq:=HQ.out
         rw [if_neg (by decide)] at hq
         have HQ2:=am hq
         clear hq HQ
         go_wp2_with (go_at_call 83;refine (ca_Least_1.calls k ga gc g1 g2 g3 Af cf fs (some adb) c0_0 lA AZ cC lC a1 a2 a3 (wrap64 (Int.tdiv (wrap64 (lo + hi)) 2)) false _ BKga.out BKgc.out BKg1.out BKg2.out BKg3.out HCF.out (kC HR1.out HB.out) H7.out).mono ?_;rintro e we ⟨rfl,hb⟩;replace HB:=(bmv HB hb);replace HCF:=(cmv HCF hb);replace BKga:=(kmv hb BKga);replace BKgc:=(kmv hb BKgc);replace BKg1:=(kmv hb BKg1);replace BKg2:=(kmv hb BKg2);replace BKg3:=(kmv hb BKg3);clear hb)
         go_roundg k1
         case rel=>exact ⟨(wrap64 ((wrap64 (Int.tdiv (wrap64 (lo + hi)) 2)) + 1)),hi,rfl,rfl,HQ2,BKga,BKgc,BKg1,BKg2,BKg3,HCF,HB⟩
         case measure=>omega
        | true =>
         have hq:=HQ.out
         rw [if_pos rfl] at hq
         have HQ2:=am hq
         clear hq HQ
         go_wp2_with (go_at_call 83;refine (ca_Least_1.calls k ga gc g1 g2 g3 Af cf fs (some adb) c0_0 lA AZ cC lC a1 a2 a3 (wrap64 (Int.tdiv (wrap64 (lo + hi)) 2)) true _ BKga.out BKgc.out BKg1.out BKg2.out BKg3.out HCF.out (kC HR1.out HB.out) H7.out).mono ?_;rintro e we ⟨rfl,hb⟩;replace HB:=(bmv HB hb);replace HCF:=(cmv HCF hb);replace BKga:=(kmv hb BKga);replace BKgc:=(kmv hb BKgc);replace BKg1:=(kmv hb BKg1);replace BKg2:=(kmv hb BKg2);replace BKg3:=(kmv hb BKg3);clear hb)
         go_roundg k1
         case rel=>exact ⟨lo,(wrap64 (Int.tdiv (wrap64 (lo + hi)) 2)),rfl,rfl,HQ2,BKga,BKgc,BKg1,BKg2,BKg3,HCF,HB⟩
         case measure=>omega
end Go.Proofs.YtnnmnhpeblhiiaaGreatDoor.C

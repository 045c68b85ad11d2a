/- A part of the proof: the walks of the functions that it reaches. TIGHT. -/
import Derived.Test.YtnnmnhpeblhiiaaGreatDoorMW9
import Derived.Test.YtnnmnhpeblhiiaaGreatDoorMW5
set_option linter.unusedVariables false
set_option linter.unusedSimpArgs false
namespace Go.Proofs.YtnnmnhpeblhiiaaGreatDoor.C
open Go.RowKit Go.Proofs.YtnnmnhpeblhiiaaGreatDoorW.PrintWords Go.Proofs.YtnnmnhpeblhiiaaGreatDoorW.PrintLast Go.Proofs.YtnnmnhpeblhiiaaGreatDoorW.PrintMore
set_option linter.unusedVariables false
set_option linter.unusedSimpArgs false
set_option maxHeartbeats 16000000
set_option maxRecDepth 100000
set_option linter.unusedSimpArgs false
def fillK (n : Nat) : Nat:=50 * (n + 2) + 100
def filledOf (x : S27) (y : Int × Int × Int × List (List Int)) : S110:=⟨⟨⟨x.f0.f0,y.1⟩,x.f1,y.2.1,y.2.2.1⟩,y.2.2.2⟩
def basinsGo : List S27→List S110→Option (List S110)
 | [],acc=>some acc
 | x :: xs,acc=>(ca_fill.f (fillK x.f1.length) x.f0.f0 x.f0.f1 x.f1 x.f2 x.f3).bind fun y=>if acc.length < 1466015503701 then basinsGo xs (acc ++ [filledOf x y]) else none
def ca_basins.f (l0_0 : List S27) : Option (List S110):=basinsGo l0_0 []
theorem infoFilled : (Tryz.prog.info? 110).map (fun i=>(i.zero,i.size,i.bytes)) = some (some (.agg #[(.slice none 0 0),(.int .i64 0),(.slice none 0 0),(.int .i64 0),(.int .i64 0),(.slice none 0 0)]),6,96):=by kernel_rfl
theorem leOf {a : Nat} {W wc : World} (_ : Below W.heap.size W wc) (h : a≤W.heap.size) : a≤W.heap.size:=h
theorem basinsF {w wr wc : World} {u3 : Value} {acc : List S110} {A0 A2 A5 : Option Addr} {c0 c2 c5 : Nat} (HN : Kd.N k110 110 wr w.heap.size (fun _=>True) u3 acc) (HB : Below w.heap.size w wc) (NB : Below wr.heap.size wr wc) (x : S27) (y1 y2 y3 : Int) (y4 : List (List Int)) (hl0 : x.f0.f0.length≤c0) (hi0 : Kd.C k126 w A0 x.f0.f0.length x.f0.f0) (hl2 : x.f1.length≤c2) (hi2 : Kd.C k48 w A2 x.f1.length x.f1) {n : Nat} (hn : wr.heap.size≤n)
 (hs : Kd.S (Kd.slice 3 (Kd.int .i64)) 28 wc n (fun k=>True∧n≤k∧k < wc.heap.size∧∃ q,q ∈ 28 :: (Kd.slice 3 (Kd.int .i64)).E∧∃ cells,wc.heap[k]? = some (.cells cells q (0,0))) (.slice A5 y4.length c5) y4) :
 Kd.FK k110 wc (fun k=>some k ≠ u3.ownBlock) (filledOf x (y1,y2,y3,y4)) [.slice A0 x.f0.f0.length c0,.int .i64 y1,.slice A2 x.f1.length c2,.int .i64 y2,.int .i64 y3,.slice A5 y4.length c5]:=by
 have h1 : ∀ k,k < w.heap.size→some k ≠ u3.ownBlock:=fun k hk he=>by have:=Kd.N_base HN k he.symm;omega
 have h2 : ∀ k,n≤k→some k ≠ u3.ownBlock:=fun k hk he=>by have:=Kd.N_lt HN k he.symm;omega
 have h5 : y4.length≤c5:=(Kd.R_reads' (Kd.S_R hs)).2.1
 exact k110_mkF _ _ (filledOf x (y1,y2,y3,y4)) hl0 (Kd.F_mono (Kd.F_below (Kd.C_F (Kd.heap_iso _ (Kd.heap_pair (Kd.heap_int _) (Kd.heap_pair (Kd.heap_int _) (Kd.heap_int _)))) hi0) HB) h1) hl2 (Kd.F_mono (Kd.F_below (Kd.C_F (Kd.heap_iso _ (Kd.heap_pair (Kd.heap_int _) (Kd.heap_int _))) hi2) HB) h1) h5 (Kd.F_mono (Kd.S_F hs) (fun k hk=>h2 k hk.2.1))
theorem ca_basins.calls (A0_0 : Option Addr) (c0_0 : Nat) (l0_0 : List S27) (A0_1 : Option Addr) (n0_1 c0_1 : Nat) (r : List S110) (w : World) (hr0_0 : Kd.C k27 w A0_0 l0_0.length l0_0) (hc0_0 : l0_0.length≤c0_0) (h : ca_basins.f l0_0 = some r) :
 Calls Tryz.prog 82 #[.agg #[.slice A0_0 l0_0.length c0_0,.slice A0_1 n0_1 c0_1]] w fun e w'=>∃ (A : Option Addr) (c : Nat),e = .returned (.slice A r.length c)∧r.length≤c∧Kd.C k110 w' A r.length r∧Below w.heap.size w w':=by
 have hu:=Tryz.underlying59
 have hub:=Tryz.underlying27
 have HM:=am (Kd.C_max hr0_0)
 have HR0:=am hr0_0
 have HB:=am (Below.refl w.heap.size w)
 have HQ:=am h
 clear hr0_0 hc0_0 h
 go_enter Tryz.func82,Tryz.ntmps82
 go_wp2_with ((refine gate_dst (N:=1) rfl ?_);(try (refine gate_guard (by rfl) ?_;dsimp only));refine box_event rfl (N:=1) rfl (cs:=#[.slice A0_0 l0_0.length c0_0,.slice A0_1 n0_1 c0_1]) (t:=59) ?hr ?_;(case hr=>go_simp;try rfl);intro gc hg w1 hbox hb;replace HB:=(bmv HB hb);clear hg;have BKgc:=am hbox;clear hbox;(try clear hczgc_0 hfzgc_0);have hczgc_0:=cO1 BKgc.out;have hfzgc_0:=blk_frozen BKgc.out 0;(try clear hczgc_1 hfzgc_1);have hczgc_1 : w1.cell? ⟨gc,1,none⟩ = some (.slice A0_1 n0_1 c0_1):=(blk_cell BKgc.out 1).trans rfl;have hfzgc_1:=blk_frozen BKgc.out 1;clear hb)
 go_loopw [3,9] (fun v3 v9 w'=>∃ (acc : List S110) (i : Int),0≤i∧i≤l0_0.length∧v9 = .int .i64 i∧Aside0 (basinsGo (l0_0.drop i.toNat) acc = some r)∧Aside0 (Kd.N k110 110 w' w.heap.size (fun _=>True) v3 acc)∧Aside0 (Below w.heap.size w w')) (fun _ v9 _=>l0_0.length - (intOf v9).toNat)
 case atStart=>exact ⟨[],0,by omega,by omega,rfl,HQ,⟨Kd.N_nil _ _ _ _ _⟩,HB⟩
 case round =>
  clear HQ HB BKgc hczgc_0 hfzgc_0 hczgc_1 hfzgc_1
  obtain ⟨acc,i,p1,hi,rfl,HQ,HN,HB⟩:=hrel
  have hm:=HM.out
  by_cases hlt : i < (l0_0.length : Int)
  case neg =>
   go_wp2
   go_ret
   have hq:=HQ.out
   rw [List.drop_of_length_le (by omega)] at hq
   obtain rfl:=Option.some.inj hq
   obtain ⟨A,c,rfl,hl,hc⟩:=Kd.N_reads HN.out
   exact ⟨A,c,rfl,hl,hc,HB.out⟩
  obtain ⟨ad,A0,c0,A2,c2,e1,hx0,hx1,hx2,hx3,hx4,hl0,hi0,hl2,hi2⟩:=at_T27 HR0.out i p1 hlt
  cases e1
  replace hx0:=(HB.out.cell (wbl hx0)).trans hx0
  replace hx1:=(HB.out.cell (wbl hx1)).trans hx1
  replace hx2:=(HB.out.cell (wbl hx2)).trans hx2
  replace hx3:=(HB.out.cell (wbl hx3)).trans hx3
  replace hx4:=(HB.out.cell (wbl hx4)).trans hx4
  have hq:=HQ.out
  rw [drop_at z27 l0_0 i p1 hlt,show l0_0.getD i.toNat z27 = rd_T27 l0_0 i from rfl] at hq
  simp only [basinsGo] at hq
  generalize rd_T27 l0_0 i = x at *
  obtain ⟨y,hy,hq⟩:=obm hq
  obtain ⟨y1,y2,y3,y4⟩:=y
  have HY:=am hy
  clear hy HQ
  by_cases hl : acc.length < 1466015503701
  case neg =>
   rw [if_neg hl] at hq;cases hq
  rw [if_pos hl] at hq
  have HQ:=am hq
  have HL:=am hl
  clear hq hl
  have HI0:=am hi0
  have HL0:=am hl0
  have HI2:=am hi2
  have HL2:=am hl2
  clear hi0 hl0 hi2 hl2
  go_wp2_with (first | ((refine gate_dst (N:=5) rfl ?_);refine box_event rfl (N:=5) rfl (cs:=#[.slice none 0 0,.int .i64 0,.slice none 0 0,.int .i64 0,.int .i64 0]) (t:=27) ?hr ?_;(case hr=>go_simp;try rfl);intro gb hg w2 hbox hb;have GB:=am (show w.heap.size≤gb by have:=HB.out.size;omega);have GB2:=am (Nat.le_of_eq hg.symm);have NB:=am hb;have n3:=(bmv HB hb);have BKgb:=am hbox;clear hg hb hbox HB;have HB:=n3;clear n3;have hczgb_0:=cO1 BKgb.out;have hfzgb_0:=blk_frozen BKgb.out 0;have hczgb_1 : w2.cell? ⟨gb,1,none⟩ = some (.int .i64 0):=(blk_cell BKgb.out 1).trans rfl;have hfzgb_1:=blk_frozen BKgb.out 1;have hczgb_2 : w2.cell? ⟨gb,2,none⟩ = some (.slice none 0 0):=(blk_cell BKgb.out 2).trans rfl;have hfzgb_2:=blk_frozen BKgb.out 2;have hczgb_3 : w2.cell? ⟨gb,3,none⟩ = some (.int .i64 0):=(blk_cell BKgb.out 3).trans rfl;have hfzgb_3:=blk_frozen BKgb.out 3;have hczgb_4 : w2.cell? ⟨gb,4,none⟩ = some (.int .i64 0):=(blk_cell BKgb.out 4).trans rfl;have hfzgb_4:=blk_frozen BKgb.out 4) | (go_at_call 69;(with_reducible refine (ca_fill.calls (fillK x.f1.length) A0 c0 x.f0.f0 x.f0.f1 A2 c2 x.f1 x.f2 x.f3 y1 y2 y3 y4 _ (kC HI0.out (below_set (below_set (below_set (below_set (below_set HB.out GB.out) GB.out) GB.out) GB.out) GB.out)) HL0.out (kC HI2.out (below_set (below_set (below_set (below_set (below_set HB.out GB.out) GB.out) GB.out) GB.out) GB.out)) HL2.out HY.out).mono ?_);rintro e wc ⟨v3_,rfl,hs,hb⟩;have n1:=am (below_then (below_set (below_set (below_set (below_set (below_set HB.out GB.out) GB.out) GB.out) GB.out) GB.out) ((below_set (below_set (below_set (below_set (below_set HB.out GB.out) GB.out) GB.out) GB.out) GB.out)).size hb);have n2:=am (below_then (below_set (below_set (below_set (below_set (below_set NB.out GB2.out) GB2.out) GB2.out) GB2.out) GB2.out) ((below_set (below_set (below_set (below_set (below_set NB.out GB2.out) GB2.out) GB2.out) GB2.out) GB2.out)).size hb);have NL:=am (leOf hb ((below_set (below_set (below_set (below_set (below_set NB.out GB2.out) GB2.out) GB2.out) GB2.out) GB2.out)).size);have n4:=am (Kd.S_bound hs);clear HB NB hb hs BKgb;(try clear hczgb_0 hczgb_1 hczgb_2 hczgb_3 hczgb_4 hfzgb_0 hfzgb_1 hfzgb_2 hfzgb_3 hfzgb_4);have HB:=n1;have NB:=n2;have HS:=n4;clear n1 n2 n4;obtain ⟨A5,c5,e5⟩:=Kd.S_slice HS.out;subst e5) | ((with_reducible refine gate_builtin (b:=.append) (xs:=#[.tmp 13,.tmp 16]) rfl ?_);at_builtin;refine Kd.N_append k110 (w0:=w) w.heap.size rfl (.tmp 13) (.tmp 16) 122 110 (.agg #[(.slice none 0 0),(.int .i64 0),(.slice none 0 0),(.int .i64 0),(.int .i64 0),(.slice none 0 0)]) 96 rfl Tryz.underlying122 infoFilled rfl (by decide) (by omega) u3 acc (filledOf x (y1,y2,y3,y4)) [.slice A0 x.f0.f0.length c0,.int .i64 y1,.slice A2 x.f1.length c2,.int .i64 y2,.int .i64 y3,.slice A5 y4.length c5] (fun _=>True) (fun k=>some k ≠ (u3 : Value).ownBlock) rfl rfl ?aP (fun _ hk=>⟨trivial,hk⟩) (fun _ _=>trivial) ?aO HB.out HB.out.size ?aL ?_;(case aP=>exact basinsF HN.out HB.out NB.out x y1 y2 y3 y4 HL0.out HI0.out HL2.out HI2.out (NL.out) HS.out);(case aO=>exact Kd.N_below HN.out NB.out);(case aL=>have:=HL.out;omega);intro v1 w3 ho hb hg hat;have n1:=am ho;have n2:=am hb;clear ho hb hg hat HB NB HS HN;have HN:=n1;have HB:=n2;clear n1 n2))
  go_roundw
  case rel=>exact ⟨acc ++ [filledOf x (y1,y2,y3,y4)],i + 1,by omega,by omega,by go_num,HQ,HN,HB⟩
  case measure=>simp [intOf];omega
theorem N_swapB {α : Type} {d : Kd α} {e base B : Nat} {w : World} {ok : Nat→Prop} {v : Value} {xs : List α} (h : Kd.N d e w base (fun k=>B≤k∧ok k) v xs) : Kd.N d e w base (fun k=>ok k∧B≤k∧k < w.heap.size) v xs:=Kd.N_mono (ok':=fun k=>ok k∧B≤k∧k < w.heap.size) (Kd.N_bound h) (fun _ h=>⟨h.1.2,h.1.1,h.2⟩)
def ca_Flow.f (k : Nat) (l0_0 : List S27) (l0_1 : List S66) (a1 : Int) : Option (List (List Int) × List Int × Int):=
 (ca_isChain.f l0_0 l0_1).bind fun t=>if t = true then (ca_isFlow.f a1).bind fun u=>(if u = true then (ca_basins.f l0_0).bind fun fs=>(ca_flow.f k fs l0_1 a1).bind fun x=>some (x.1,x.2,0) else some ([],[],2)) else some ([],[],2)
theorem ca_Flow.calls (k : Nat) (A0_0 : Option Addr) (c0_0 : Nat) (l0_0 : List S27) (A0_1 : Option Addr) (c0_1 : Nat) (l0_1 : List S66) (a1 : Int) (r1 : List (List Int)) (r2 : List Int) (r3 : Int) (w : World) (hr0_0 : Kd.C k27 w A0_0 l0_0.length l0_0) (hc0_0 : l0_0.length≤c0_0) (hr0_1 : Kd.C k66 w A0_1 l0_1.length l0_1) (hc0_1 : l0_1.length≤c0_1) (h : ca_Flow.f k l0_0 l0_1 a1 = some (r1,r2,r3)) :
 Calls Tryz.prog 32 #[.agg #[.slice A0_0 l0_0.length c0_0,.slice A0_1 l0_1.length c0_1],.int .i64 a1] w fun e w'=>∃ v0_ v1_ : Value,e = .returned (.tuple #[v0_,v1_,.int .i64 r3])∧Kd.N (Kd.slice 3 (Kd.int .i64)) 28 w' w.heap.size (fun k_=>w.heap.size≤k_∧some k_ ≠ (v1_ : Value).ownBlock) v0_ r1∧Kd.R (Kd.int .i64) 3 w' w.heap.size (fun _=>True) v1_ r2∧Below w.heap.size w w':=by
 have hu:=Tryz.underlying59
 have HR0:=am hr0_0
 have HC0:=am hc0_0
 have HR1:=am hr0_1
 have HC1:=am hc0_1
 have HB:=am (Below.refl w.heap.size w)
 clear hr0_0 hc0_0 hr0_1 hc0_1
 unfold ca_Flow.f at h
 obtain ⟨t,ht,h⟩:=obm h
 have H1:=am ht
 clear ht
 cases t with
 | false =>
  rw [if_neg (by decide)] at h
  simp only [Option.some.injEq,Prod.mk.injEq] at h
  obtain ⟨rfl,rfl,rfl⟩:=h
  go_enter Tryz.func32,Tryz.ntmps32
  go_wp2_with (first | ((refine gate_dst (N:=2) rfl ?_);(try (refine gate_guard (by rfl) ?_;dsimp only));refine box_event rfl (N:=2) rfl (cs:=#[.slice A0_0 l0_0.length c0_0,.slice A0_1 l0_1.length c0_1]) (t:=59) ?hr ?_;(case hr=>go_simp;try rfl);intro gc hg w1 hbox hb;replace HB:=(bmv HB hb);clear hg;have BKgc:=am hbox;clear hbox;(try clear hczgc_0 hczgc_1);obtain ⟨hczgc_0,hczgc_1⟩:=cO2 BKgc.out;clear hb) | (go_at_call 80;(refine (ca_isChain.calls A0_0 c0_0 l0_0 A0_1 c0_1 l0_1 false _ (kC HR0.out HB.out) HC0.out (kC HR1.out HB.out) HC1.out H1.out).mono ?_);rintro e w1 ⟨rfl,hb⟩;replace HB:=(bmv HB hb);replace BKgc:=(kmv hb BKgc);(try clear hczgc_0 hczgc_1);obtain ⟨hczgc_0,hczgc_1⟩:=cO2 BKgc.out;clear hb))
  go_ret3
  exact ⟨_,_,rfl,Kd.N_nil _ _ _ _ _,Kd.R_nil _ _ _ _ _,HB.out⟩
 | true =>
  rw [if_pos rfl] at h
  obtain ⟨u,hu2,h⟩:=obm h
  have H2:=am hu2
  clear hu2
  cases u with
  | false =>
   rw [if_neg (by decide)] at h
   simp only [Option.some.injEq,Prod.mk.injEq] at h
   obtain ⟨rfl,rfl,rfl⟩:=h
   go_enter Tryz.func32,Tryz.ntmps32
   go_wp2_with (first | ((refine gate_dst (N:=2) rfl ?_);(try (refine gate_guard (by rfl) ?_;dsimp only));refine box_event rfl (N:=2) rfl (cs:=#[.slice A0_0 l0_0.length c0_0,.slice A0_1 l0_1.length c0_1]) (t:=59) ?hr ?_;(case hr=>go_simp;try rfl);intro gc hg w1 hbox hb;replace HB:=(bmv HB hb);clear hg;have BKgc:=am hbox;clear hbox;(try clear hczgc_0 hczgc_1);obtain ⟨hczgc_0,hczgc_1⟩:=cO2 BKgc.out;clear hb) | (go_at_call 80;(refine (ca_isChain.calls A0_0 c0_0 l0_0 A0_1 c0_1 l0_1 true _ (kC HR0.out HB.out) HC0.out (kC HR1.out HB.out) HC1.out H1.out).mono ?_);rintro e w1 ⟨rfl,hb⟩;replace HB:=(bmv HB hb);replace BKgc:=(kmv hb BKgc);(try clear hczgc_0 hczgc_1);obtain ⟨hczgc_0,hczgc_1⟩:=cO2 BKgc.out;clear hb) | (go_at_call 67;(refine (ca_isFlow.calls a1 false _ H2.out).mono ?_);rintro e w1 ⟨rfl,hd⟩;have hb:=hd.below;clear hd;replace HB:=(bmv HB hb);replace BKgc:=(kmv hb BKgc);(try clear hczgc_0 hczgc_1);obtain ⟨hczgc_0,hczgc_1⟩:=cO2 BKgc.out;clear hb))
   go_ret3
   exact ⟨_,_,rfl,Kd.N_nil _ _ _ _ _,Kd.R_nil _ _ _ _ _,HB.out⟩
  | true =>
   rw [if_pos rfl] at h
   obtain ⟨fs,hf,h⟩:=obm h
   obtain ⟨⟨x1,x2⟩,hx,h⟩:=obm h
   have H3:=am hf
   have H4:=am hx
   clear hf hx
   simp only [Option.some.injEq,Prod.mk.injEq] at h
   obtain ⟨rfl,rfl,rfl⟩:=h
   go_enter Tryz.func32,Tryz.ntmps32
   go_wp2_with (first | ((refine gate_dst (N:=2) rfl ?_);(try (refine gate_guard (by rfl) ?_;dsimp only));refine box_event rfl (N:=2) rfl (cs:=#[.slice A0_0 l0_0.length c0_0,.slice A0_1 l0_1.length c0_1]) (t:=59) ?hr ?_;(case hr=>go_simp;try rfl);intro gc hg w1 hbox hb;replace HB:=(bmv HB hb);clear hg;have BKgc:=am hbox;clear hbox;(try clear hczgc_0 hczgc_1);obtain ⟨hczgc_0,hczgc_1⟩:=cO2 BKgc.out;clear hb) | (go_at_call 80;(refine (ca_isChain.calls A0_0 c0_0 l0_0 A0_1 c0_1 l0_1 true _ (kC HR0.out HB.out) HC0.out (kC HR1.out HB.out) HC1.out H1.out).mono ?_);rintro e w1 ⟨rfl,hb⟩;replace HB:=(bmv HB hb);replace BKgc:=(kmv hb BKgc);(try clear hczgc_0 hczgc_1);obtain ⟨hczgc_0,hczgc_1⟩:=cO2 BKgc.out;clear hb) | (go_at_call 67;(refine (ca_isFlow.calls a1 true _ H2.out).mono ?_);rintro e w1 ⟨rfl,hd⟩;have hb:=hd.below;clear hd;replace HB:=(bmv HB hb);replace BKgc:=(kmv hb BKgc);(try clear hczgc_0 hczgc_1);obtain ⟨hczgc_0,hczgc_1⟩:=cO2 BKgc.out;clear hb))
   go_region_held3 (fun W=>W.cell? ⟨gc,0,none⟩ = some (.slice A0_0 l0_0.length c0_0)∧W.cell? ⟨gc,1,none⟩ = some (.slice A0_1 l0_1.length c0_1)) (first | go_keep | (exact ⟨(blk_cell BKgc.out 0).trans rfl,(blk_cell BKgc.out 1).trans rfl⟩)) ((first | (go_at_call 82;refine (ca_basins.calls A0_0 c0_0 l0_0 A0_1 l0_1.length c0_1 fs _ (kC HR0.out (below_drew HB.out)) HC0.out H3.out).mono ?_;rintro e wb ⟨Af,cf,rfl,hlf,hcf,hb⟩;have n1:=am (below_then (below_drew HB.out) (below_drew HB.out).size hb);have n2:=am (blk_below (blk_drew BKgc.out) hb);have HCF:=am hcf;clear HB BKgc hb hcf;have HB:=n1;have BKgc:=n2;clear n1 n2;(try clear hczgc_0 hczgc_1);obtain ⟨hczgc_0,hczgc_1⟩:=cO2 BKgc.out) | (go_at_call 81;refine (ca_flow.calls k Af cf fs A0_1 c0_1 l0_1 a1 x1 x2 _ HCF.out (kC HR1.out HB.out) H4.out).mono ?_;rintro e wf ⟨v0_,v1_,rfl,hn,hr,hb⟩;have n1:=(bmv HB hb);have n2:=(kmv hb BKgc);have HN:=am (Kd.N_mono (ok':=fun k_=>w.heap.size≤k_∧some k_ ≠ (v1_ : Value).ownBlock) (Kd.N_lower hn HB.out.size) (fun k hk=>⟨Nat.le_trans HB.out.size hk.1,hk.2⟩));have HR:=am (Kd.R_lower hr HB.out.size);clear HB BKgc hb hn hr;have HB:=n1;have BKgc:=n2;clear n1 n2;(try clear hczgc_0 hczgc_1);obtain ⟨hczgc_0,hczgc_1⟩:=cO2 BKgc.out)))
   go_wp2
   go_ret3
   exact ⟨_,_,rfl,HN.out,HR.out,HB.out⟩
end Go.Proofs.YtnnmnhpeblhiiaaGreatDoor.C
namespace Go.Abs
open Go.RowKit Go.Proofs.YtnnmnhpeblhiiaaGreatDoorW.PrintWords Go.Proofs.YtnnmnhpeblhiiaaGreatDoorW.PrintMore
set_option linter.unusedVariables false
set_option linter.unusedSimpArgs false
set_option maxHeartbeats 16000000
set_option maxRecDepth 100000
noncomputable def capOk (k : Nat) (s : St) (v : AV) : Bool:=
 match v with
 | .nilSlice=>true
 | .slice _ _ n c=>Nat.ble n c
 | .opn b n=>match s.heap.get b with
  | some (.cells _ (some k') cs)=>Nat.beq k' k && Nat.ble 1 k && Nat.ble (n * k) cs.length
  | some (.ro _ (some k') cs)=>Nat.beq k' k && Nat.ble 1 k && Nat.ble (n * k) cs.length
  | _=>false
 | _=>false
theorem capOk_le {e : Env} {s : St} {w : World} (hs : Sim e s w) {k n m c : Nat} {v : AV} {A : Option Addr} (h : capOk k s v = true) (hx : conc e v = some (.slice A m c)) : m≤c:=by
 unfold capOk at h
 split at h
 ·simp only [conc,Option.some.injEq,Value.slice.injEq] at hx;omega
 ·simp only [conc,Option.map_eq_some_iff,Value.slice.injEq] at hx
  obtain ⟨p,_,_,rfl,rfl⟩:=hx
  exact Nat.le_of_ble_eq_true h
 ·simp only [conc,Option.map_eq_some_iff,Value.slice.injEq] at hx
  obtain ⟨p,hp,_,rfl,rfl⟩:=hx
  have key : ∀ {n' k' : Nat} {cs : List AV} {vs rest : List Value},(Nat.beq k' k && Nat.ble 1 k && Nat.ble (n' * k) cs.length) = true→concL e cs = some vs→(vs ++ rest).length = p.2 * k'→n'≤p.2:=by
   intro n' k' cs vs rest h h1 h2
   simp only [Bool.and_eq_true,Nat.beq_eq,Nat.ble_eq] at h
   obtain ⟨⟨rfl,h3⟩,h4⟩:=h
   rw [List.length_append,concL_length h1] at h2
   exact Nat.le_of_mul_le_mul_right (by omega : n' * k'≤p.2 * k') (by omega)
  split at h
  ·rename_i hb
   obtain ⟨b,q,ob,he,_,vs,rest,h1,rfl,h2⟩:=hs.at_ _ _ hb
   rw [hp] at he;cases he
   exact key h h1 h2
  ·rename_i hb
   obtain ⟨b,q,ob,he,_,vs,rest,h1,rfl,h2⟩:=hs.at_ _ _ hb
   rw [hp] at he;cases he
   exact key h h1 (h2 _ rfl)
  ·cases h
 ·cases h
theorem first_cells {e : Env} {s : St} {w : World} (hs : Sim e s w) {m n c : Nat} {v : AV} {cs : List AV} {A : Option Addr} (h : firstA m v s = some cs) (hx : conc e v = some (.slice A n c)) (hm : 0 < m) :
 ∃ ad vs,A = some ad∧concL e cs = some vs∧∀ i u,vs[i]? = some u→w.cell? (ad.add i) = some u:=by
 have cell : ∀ {g o : Nat} {t : TypeId} {vs rest us : List Value},w.heap[g]? = some (.cells (vs ++ rest).toArray t (0,0))→(∀ i u,us[i]? = some u→vs[o + i]? = some u)→∀ i u,us[i]? = some u→w.cell? ((⟨g,o,none⟩ : Addr).add i) = some u:=by
  intro g o t vs rest us hg hus i u hu
  have h1:=hus i u hu
  have h2 : o + i < vs.length:=(List.getElem?_eq_some_iff.1 h1).1
  rw [addr_add]
  simp only [World.cell?,hg]
  simp only [Option.isSome_none,Bool.false_eq_true,if_false,List.getElem?_toArray]
  rw [List.getElem?_append_left h2];exact h1
 unfold firstA at h
 split at h
 ·split at h
  ·omega
  ·cases h
 ·simp only [Option.bind_eq_some_iff] at h
  obtain ⟨ds,hg,h⟩:=h
  split at h
  ·simp only [Option.some.injEq] at h;subst h
   obtain ⟨g,q,t,vs,rest,he,hb,hvs⟩:=rd_at hs hg
   simp only [conc,he,Option.map_some,Option.some.injEq,Value.slice.injEq] at hx
   obtain ⟨rfl,_,_⟩:=hx
   refine ⟨_,_,rfl,concL_take (concL_drop hvs _) _,cell hb fun i u hu=>?_⟩
   rw [List.getElem?_take] at hu
   split at hu
   ·rw [List.getElem?_drop] at hu;exact hu
   ·cases hu
  ·cases h
 ·simp only [Option.bind_eq_some_iff] at h
  obtain ⟨ds,hg,h⟩:=h
  split at h
  ·simp only [Option.some.injEq] at h;subst h
   obtain ⟨g,q,t,vs,rest,he,hb,hvs⟩:=rd_at hs hg
   simp only [conc,he,Option.map_some,Option.some.injEq,Value.slice.injEq] at hx
   obtain ⟨rfl,_,_⟩:=hx
   refine ⟨_,_,rfl,concL_take hvs _,cell hb fun i u hu=>?_⟩
   rw [List.getElem?_take] at hu
   split at hu
   ·rw [Nat.zero_add];exact hu
   ·cases hu
  ·cases h
 ·cases h
noncomputable def rdG {α : Type} (sz : Nat) (dec : List AV→Option (List α)) (s : St) (v : AV) : Option (List α):=
 if capOk sz s v then (lenSl v).bind fun n=>if Nat.ble n 1000000 then (firstA (n * sz) v s).bind fun cs=>(dec cs).bind fun xs=>if Nat.beq xs.length n then some xs else none else none else none
theorem rdG_ok {α : Type} {d : Kd α} {e : Env} {s : St} {w : World} (hs : Sim e s w) {dec : List AV→Option (List α)} (hsz : 0 < d.sz)
 (hdec : ∀ cs xs vs,dec cs = some xs→concL e cs = some vs→∀ j p,xs[j]? = some p→d.K w p ((vs.drop (j * d.sz)).take d.sz))
 {v : AV} {xs : List α} {x : Value} (h : rdG d.sz dec s v = some xs) (hx : conc e v = some x) : ∃ A c,x = .slice A xs.length c∧xs.length≤c∧d.C w A xs.length xs:=by
 unfold rdG at h
 split at h
 case isFalse=>cases h
 rename_i hcap
 simp only [Option.bind_eq_some_iff] at h
 obtain ⟨n,hn,h⟩:=h
 split at h
 case isFalse=>cases h
 rename_i hle
 simp only [Option.bind_eq_some_iff] at h
 obtain ⟨cs,hcs,xs',hxs,h⟩:=h
 split at h
 case isFalse=>cases h
 rename_i hlen
 cases h
 have hlen : xs.length = n:=Nat.eq_of_beq_eq_true hlen
 subst hlen
 obtain ⟨_,A,c,rfl⟩:=lenSl_run hn hx
 refine ⟨A,c,rfl,capOk_le hs (n:=0) hcap hx,rfl,by have:=Nat.le_of_ble_eq_true hle;omega,fun h0=>?_⟩
 obtain ⟨ad,vs,rfl,hvs,hcell⟩:=first_cells hs hcs hx (Nat.mul_pos h0 hsz)
 refine ⟨ad,rfl,fun j p hj=>⟨_,d.K_len (hdec cs xs vs hxs hvs j p hj),hdec cs xs vs hxs hvs j p hj,fun i u hu=>?_⟩⟩
 rw [List.getElem?_take] at hu
 split at hu
 ·rw [List.getElem?_drop] at hu
  exact hcell _ u hu
 ·cases hu
def intsA : List AV→Option (List Int)
 | []=>some []
 | .int .i64 a :: l=>(intsA l).map (a :: ·)
 | _=>none
theorem intsA_eq : ∀ {cs : List AV} {xs : List Int},intsA cs = some xs→cs = xs.map (.int .i64)
 | [],_,h=>by cases h;rfl
 | a :: l,xs,h=>by
  unfold intsA at h
  split at h
  ·cases ‹_ :: _ = []›
  ·rename_i heq;cases heq
   simp only [Option.map_eq_some_iff] at h
   obtain ⟨ys,h1,rfl⟩:=h
   rw [intsA_eq h1];rfl
  ·cases h
theorem concL_ints (e : Env) : ∀ xs : List Int,concL e (xs.map (.int .i64)) = some (xs.map (Value.int .i64))
 | []=>rfl
 | x :: xs=>by simp [concL,conc,concL_ints e xs]
noncomputable def rdInts : St→AV→Option (List Int):=rdG 1 intsA
theorem rdInts_ok {e : Env} {s : St} {w : World} (hs : Sim e s w) {v : AV} {xs : List Int} {x : Value} (h : rdInts s v = some xs) (hx : conc e v = some x) : ∃ A c,x = .slice A xs.length c∧xs.length≤c∧(Kd.int .i64).C w A xs.length xs:=by
 refine rdG_ok (d:=Kd.int .i64) hs (by show 0 < 1;omega) (fun cs xs vs h1 h2 j p hj=>?_) h hx
 rw [intsA_eq h1,concL_ints] at h2;cases h2
 show ((xs.map (Value.int .i64)).drop (j * 1)).take 1 = [.int .i64 p]
 have : (xs.map (Value.int .i64))[j * 1]? = some (.int .i64 p):=by simp [hj]
 rw [List.drop_eq_getElem?_toList_append]
 rw [this];rfl
noncomputable def eachA {α : Type} (f : AV→Option α) : List AV→Option (List α)
 | []=>some []
 | v :: l=>(f v).bind fun x=>(eachA f l).map (x :: ·)
theorem eachA_at {α : Type} {f : AV→Option α} : ∀ {cs : List AV} {xs : List α},eachA f cs = some xs→∀ {e : Env} {vs : List Value},concL e cs = some vs→∀ j p,xs[j]? = some p→∃ v y,f v = some p∧conc e v = some y∧(vs.drop (j * 1)).take 1 = [y]
 | [],_,h,e,vs,hv,j,p,hj=>by cases h;simp at hj
 | c :: cs,xs,h,e,vs,hv,j,p,hj=>by
  simp only [eachA,Option.bind_eq_some_iff,Option.map_eq_some_iff] at h
  obtain ⟨x,hx,ys,hys,rfl⟩:=h
  obtain ⟨y,zs,hy,hzs,rfl⟩:=concL_cons hv
  cases j with
  | zero=>cases hj;exact ⟨c,y,hx,hy,by simp⟩
  | succ j =>
   obtain ⟨v,y',h1,h2,h3⟩:=eachA_at hys hzs j p (by simpa using hj)
   exact ⟨v,y',h1,h2,by rw [show (j + 1) * 1 = j * 1 + 1 by omega];exact h3⟩
noncomputable def rdLists (s : St) : AV→Option (List (List Int)):=rdG 1 (eachA (rdInts s)) s
theorem rdLists_ok {e : Env} {s : St} {w : World} (hs : Sim e s w) {v : AV} {xs : List (List Int)} {x : Value} (h : rdLists s v = some xs) (hx : conc e v = some x) : ∃ A c,x = .slice A xs.length c∧xs.length≤c∧(Kd.slice 3 (Kd.int .i64)).C w A xs.length xs:=by
 refine rdG_ok (d:=Kd.slice 3 (Kd.int .i64)) hs (by show 0 < 1;omega) (fun cs xs vs h1 h2 j p hj=>?_) h hx
 obtain ⟨v,y,h3,h4,h5⟩:=eachA_at h1 h2 j p hj
 obtain ⟨A,c,rfl,h6,h7⟩:=rdInts_ok hs h3 h4
 exact ⟨A,c,h5,h6,h7⟩
theorem grow {e : Env} {s : St} {w w' : World} (h : Sim e s w) (hb : Below w.heap.size w w') : Sim e s w'∧Goes e s w e s w':=by
 refine ⟨⟨fun n x hx=>?_,h.inj,fun n b q hn=>Nat.lt_of_lt_of_le (h.bound n b q hn) hb.size⟩,⟨Env.le.refl e,fun _ h=>.inl h,fun _ _ h=>h,fun _ _ h=>h,fun b hb' _=>hb.block b hb',hb.size,hb.os,hb.tape,hb.output,fun _ _=>rfl,fun _ h=>h,Nat.le_refl _⟩⟩
 obtain ⟨b,q,ob,he,hw,hr⟩:=h.at_ n x hx
 exact ⟨b,q,ob,he,(hb.block b (h.bound n b q he)).trans hw,hr⟩
def RwBelow (e : Env) (s : St) (B : Nat) : Prop:=∀ n x b q,s.heap.get n = some x→x.rw→e n = some (b,q)→b < B
theorem addAt {e0 e : Env} {s0 s : St} {w0 w : World} (hg : Goes e0 s0 w0 e s w) (h : Sim e s w) (hr : RwBelow e s w0.heap.size) {g q : Nat} {blk : Blk} {ob : Obj} (hfree : e s.next = none) (h0 : w0.heap.size≤g) (hlt : g < w.heap.size)
 (hro : ¬ blk.rw∨∀ n x q,s.heap.get n = some x→e n ≠ some (g,q)) (hob : w.heap[g]? = some ob) (hb : BlkRel (e.upd s.next (g,q)) q blk ob) :
 Sim (e.upd s.next (g,q)) (s.add blk) w∧Goes e0 s0 w0 (e.upd s.next (g,q)) (s.add blk) w∧(¬ blk.rw→RwBelow (e.upd s.next (g,q)) (s.add blk) w0.heap.size):=by
 have hle:=Env.le_upd (g,q) hfree
 refine ⟨⟨?_,?_,?_⟩,⟨hg.le.trans hle,?_,?_,?_,hg.frame,hg.size,hg.os,hg.tape,hg.output,?_,?_,Nat.le_trans hg.next (Nat.le_succ _)⟩,?_⟩
 ·intro m x hx
  simp only [St.add,Tr.get_set] at hx
  split at hx
  ·subst m;cases hx;exact ⟨g,q,ob,Env.upd_self ..,hob,hb⟩
  ·obtain ⟨b',q',ob',he',hb',hr'⟩:=h.at_ m x hx
   exact ⟨b',q',ob',hle _ _ he',hb',hr'.le hle⟩
 ·intro m k b' q1 q2 x y hm hmr hk em ek
  simp only [St.add,Tr.get_set] at hm hk
  by_cases e1 : m = s.next<;>by_cases e2 : k = s.next
  ·rw [e1,e2]
  ·subst e1;rw [Env.upd_self] at em;cases em;rw [Env.upd_ne _ _ e2] at ek;rw [if_neg e2] at hk;rw [if_pos rfl] at hm;cases hm
   rcases hro with hro | hro
   ·exact absurd hmr hro
   ·exact absurd ek (hro _ _ _ hk)
  ·subst e2;rw [Env.upd_self] at ek;cases ek;rw [Env.upd_ne _ _ e1] at em;rw [if_neg e1] at hm
   exact absurd (hr m _ _ _ hm hmr em) (by omega)
  ·rw [if_neg e1] at hm;rw [if_neg e2] at hk;rw [Env.upd_ne _ _ e1] at em;rw [Env.upd_ne _ _ e2] at ek
   exact h.inj m k b' q1 q2 _ _ hm hmr hk em ek
 ·intro m b' q' hm
  by_cases e1 : m = s.next
  ·subst e1;rw [Env.upd_self] at hm;cases hm;exact hlt
  ·rw [Env.upd_ne _ _ e1] at hm;exact h.bound m b' q' hm
 ·intro m hm
  by_cases e1 : m = s.next
  ·exact .inr ⟨by rw [e1];exact hg.next,by simp only [St.add];omega⟩
  ·rw [Env.upd_ne _ _ e1] at hm
   rcases hg.rng m hm with h1 | ⟨h1,h2⟩
   ·exact .inl h1
   ·exact .inr ⟨h1,Nat.lt_succ_of_lt h2⟩
 ·rintro b' hb' ⟨m,x,q',hx,hxr,hm⟩
  simp only [St.add,Tr.get_set] at hx
  by_cases e1 : m = s.next
  ·subst e1;rw [Env.upd_self] at hm;cases hm;omega
  ·rw [if_neg e1] at hx;rw [Env.upd_ne _ _ e1] at hm;exact hg.own b' hb' ⟨m,x,q',hx,hxr,hm⟩
 ·rintro b' hb' ⟨m,x,q',hx,hm⟩
  simp only [St.add,Tr.get_set] at hx
  by_cases e1 : m = s.next
  ·subst e1;rw [Env.upd_self] at hm;cases hm;omega
  ·rw [if_neg e1] at hx;rw [Env.upd_ne _ _ e1] at hm;exact hg.met b' hb' ⟨m,x,q',hx,hm⟩
 ·intro m hm
  simp only [St.add,List.mem_cons,not_or] at hm ⊢
  rw [Tr.get_set,if_neg hm.1];exact hg.log m hm.2
 ·intro m hm;exact List.mem_cons_of_mem _ (hg.logs m hm)
 ·intro hro m x b' q' hx hxr hm
  simp only [St.add,Tr.get_set] at hx
  by_cases e1 : m = s.next
  ·subst e1;rw [if_pos rfl] at hx;cases hx;exact absurd hxr hro
  ·rw [if_neg e1] at hx;rw [Env.upd_ne _ _ e1] at hm;exact hr m x b' q' hx hxr hm
theorem rwBelow {e : Env} {s : St} {w : World} (h : Sim e s w) : RwBelow e s w.heap.size:=fun n x b q _ _ he=>h.bound n b q he
theorem endsC {P : Program} {f : FuncId} {xs : Array Value} {w : World} {R : Ending→World→Prop} (h : Calls P f xs w R) (c : Frame) (cs : List Frame) :
 ∃ e w',R e w'∧∀ v,e = .returned v→Steps P (lone (Frame.enter P f xs .normal) (c :: cs) w) (lone (c.finish v) cs w'):=by
 obtain ⟨e,w',fr,hR,hc,_,hl⟩:=h (c :: cs)
 refine ⟨e,w',hR,fun v hv=>?_⟩
 subst hv
 exact Steps.trans hc (.one (step_leave_returned hl))
theorem row_of {d : Kd Int} {e base n : Nat} {w : World} {ok : Nat→Prop} {v : Value} {xs : List Int} (h : (Kd.int .i64).R e w base ok v xs) (hx : xs ≠ []) :
 ∃ g cap rest,v = .slice (some ⟨g,0,none⟩) xs.length cap∧base≤g∧g < w.heap.size∧w.heap[g]? = some (.cells (xs.map (Value.int .i64) ++ rest).toArray e (0,0))∧(xs.map (Value.int .i64) ++ rest).length = cap * 1:=by
 obtain ⟨_,inner,ho,hr⟩:=h
 obtain ⟨h1,h2⟩:=ho
 rcases h2 with ⟨_,h2⟩ | ⟨g,cap,cur,rfl,h3,h4,h5,h6,h7,h8⟩
 ·exact absurd (List.length_eq_zero_iff.1 h2) hx
 have hin : inner = xs.map (Value.int .i64):=by
  apply List.ext_getElem?
  intro j
  have hl : inner.length = xs.length * 1:=h1
  cases hj : xs[j]? with
  | none =>
   rw [List.getElem?_map,hj,List.getElem?_eq_none];· rfl
   have:=List.getElem?_eq_none_iff.1 hj;omega
  | some p =>
   have h9 : (inner.drop (j * 1)).take 1 = [.int .i64 p]:=hr.2 j p hj
   rw [List.getElem?_map,hj]
   have : ((inner.drop (j * 1)).take 1)[0]? = some (Value.int .i64 p):=by rw [h9];rfl
   rw [List.getElem?_take,if_pos (by omega),List.getElem?_drop] at this
   simpa using this
 have hsz : (Kd.int .i64).sz = 1:=rfl
 rw [hsz] at h7 h8
 refine ⟨g,cap,cur.toList.drop (xs.length * 1),rfl,h3,(Array.getElem?_eq_some_iff.1 h4).1,?_,?_⟩
 ·rw [h4,← hin,← h8,List.take_append_drop]
 ·rw [← hin,← h8,List.take_append_drop,Array.length_toList];exact h7
noncomputable def addInts (t : TypeId) : List (List Int)→St→List AV × St
 | [],s=>([],s)
 | l :: r,s=>let q:=addInts t r (s.add (.ro t (some 1) (l.map (.int .i64))));(.opn s.next l.length :: q.1,q.2)
theorem addInts_next (t : TypeId) : ∀ (l : List (List Int)) (s : St),(addInts t l s).2.next = s.next + l.length
 | [],s=>rfl
 | x :: r,s=>by
  show (addInts t r _).2.next = _
  rw [addInts_next t r];simp only [St.add,List.length_cons];omega
theorem addInts_ok {e0 : Env} {s0 : St} {w0 w : World} {t : TypeId} {ok : Nat→Prop} : ∀ {l : List (List Int)} {vs : List Value} {e : Env} {s : St},Goes e0 s0 w0 e s w→Sim e s w→RwBelow e s w0.heap.size→Free e s.next (s.next + l.length)→
 vs.length = l.length→(∀ (j : Nat) (xs : List Int),l[j]? = some xs→xs ≠ []∧∃ v,vs[j]? = some v∧(Kd.int .i64).R t w w0.heap.size ok v xs)→
 ∃ e',Goes e0 s0 w0 e' (addInts t l s).2 w∧Sim e' (addInts t l s).2 w∧RwBelow e' (addInts t l s).2 w0.heap.size∧e.le e'∧concL e' (addInts t l s).1 = some vs∧∀ n,s.next + l.length≤n→e n = none→e' n = none
 | [],vs,e,s,hg,hs,hr,hf,hl,h=>by
  obtain rfl : vs = []:=List.length_eq_zero_iff.1 hl
  exact ⟨e,hg,hs,hr,Env.le.refl e,rfl,fun _ _ h=>h⟩
 | x :: r,vs,e,s,hg,hs,hr,hf,hl,h=>by
  obtain ⟨v,vs,rfl⟩ : ∃ v vs',vs = v :: vs':=by cases vs with | nil=>simp at hl | cons a b=>exact ⟨a,b,rfl⟩
  obtain ⟨hx,v',hv',hR⟩:=h 0 x rfl
  cases hv'
  obtain ⟨g,cap,rest,rfl,h1,h2,h3,h4⟩:=row_of (d:=Kd.int .i64) (n:=0) hR hx
  have hfree : e s.next = none:=hf _ (Nat.le_refl _) (by simp only [List.length_cons];omega)
  have hle:=Env.le_upd (g,cap) hfree
  obtain ⟨q1,q2,q3⟩:=addAt (q:=cap) (blk:=.ro t (some 1) (x.map (.int .i64))) hg hs hr hfree h1 h2 (.inl fun z=>z) h3 ⟨_,rest,concL_ints _ x,rfl,fun m hm=>by cases hm;exact h4⟩
  obtain ⟨e',p1,p2,p3,p4,p5,p6⟩:=addInts_ok (l:=r) (vs:=vs) (s:=s.add (.ro t (some 1) (x.map (.int .i64)))) q2 q1 (q3 fun z=>z) (fun n a b=>by
   rw [Env.upd_ne _ _ (by simp only [St.add] at a;omega)]
   exact hf n (by simp only [St.add] at a;omega) (by simp only [St.add] at b;simp only [List.length_cons];omega)) (by simpa using hl) (fun j xs hj=>h (j + 1) xs (by simpa using hj))
  refine ⟨e',p1,p2,p3,hle.trans p4,?_,fun n a b=>p6 n (by simp only [St.add,List.length_cons] at a ⊢;omega) ?_⟩
  ·simp only [addInts,concL,conc,p4 _ _ (Env.upd_self e s.next (g,cap)),Option.map_some,Option.bind_some,p5]
  ·rw [Env.upd_ne _ _ (by simp only [List.length_cons] at a;omega)];exact b
end Go.Abs
namespace Go.Proofs.YtnnmnhpeblhiiaaGreatDoor.C
open Go.RowKit Go.Abs Go.Proofs.YtnnmnhpeblhiiaaGreatDoorW.PrintWords Go.Proofs.YtnnmnhpeblhiiaaGreatDoorW.PrintLast Go.Proofs.YtnnmnhpeblhiiaaGreatDoorW.PrintMore
set_option linter.unusedVariables false
set_option linter.unusedSimpArgs false
set_option maxHeartbeats 16000000
set_option maxRecDepth 100000
def decRows : List AV→Option (List S126)
 | []=>some []
 | .int .i64 a :: .int .i64 b :: .int .i64 c :: l=>(decRows l).map (⟨a,b,c⟩ :: ·)
 | _=>none
theorem decRows_eq : ∀ {cs : List AV} {xs : List S126} {e : Env} {vs : List Value},decRows cs = some xs→concL e cs = some vs→∀ (j : Nat) p,xs[j]? = some p→(vs.drop (j * 3)).take 3 = [.int .i64 p.f0,.int .i64 p.f1,.int .i64 p.f2]
 | [],_,e,vs,h,hv,j,p,hj=>by cases h;simp at hj
 | a :: l,xs,e,vs,h,hv,j,p,hj=>by
  unfold decRows at h
  split at h
  ·cases ‹_ :: _ = []›
  ·rename_i heq;cases heq
   simp only [Option.map_eq_some_iff] at h
   obtain ⟨ys,h1,rfl⟩:=h
   simp only [concL,conc,Option.bind_some,Option.map_eq_some_iff] at hv
   obtain ⟨_,⟨_,⟨zs,hz,rfl⟩,rfl⟩,rfl⟩:=hv
   cases j with
   | zero=>cases hj;rfl
   | succ j=>rw [show (j + 1) * 3 = j * 3 + 3 by omega];exact decRows_eq h1 hz j p (by simpa using hj)
  ·cases h
def decNoz : List AV→Option (List S48)
 | []=>some []
 | .int .i64 a :: .int .i64 b :: l=>(decNoz l).map (⟨a,b⟩ :: ·)
 | _=>none
theorem decNoz_eq : ∀ {cs : List AV} {xs : List S48} {e : Env} {vs : List Value},decNoz cs = some xs→concL e cs = some vs→∀ (j : Nat) p,xs[j]? = some p→(vs.drop (j * 2)).take 2 = [.int .i64 p.f0,.int .i64 p.f1]
 | [],_,e,vs,h,hv,j,p,hj=>by cases h;simp at hj
 | a :: l,xs,e,vs,h,hv,j,p,hj=>by
  unfold decNoz at h
  split at h
  ·cases ‹_ :: _ = []›
  ·rename_i heq;cases heq
   simp only [Option.map_eq_some_iff] at h
   obtain ⟨ys,h1,rfl⟩:=h
   simp only [concL,conc,Option.bind_some,Option.map_eq_some_iff] at hv
   obtain ⟨_,⟨zs,hz,rfl⟩,rfl⟩:=hv
   cases j with
   | zero=>cases hj;rfl
   | succ j=>rw [show (j + 1) * 2 = j * 2 + 2 by omega];exact decNoz_eq h1 hz j p (by simpa using hj)
  ·cases h
noncomputable def rdRows : St→AV→Option (List S126):=rdG 3 decRows
noncomputable def rdNoz : St→AV→Option (List S48):=rdG 2 decNoz
theorem rdRows_ok {e : Env} {s : St} {w : World} (hs : Sim e s w) {v : AV} {xs : List S126} {x : Value} (h : rdRows s v = some xs) (hx : conc e v = some x) : ∃ A c,x = .slice A xs.length c∧xs.length≤c∧Kd.C k126 w A xs.length xs:=
 rdG_ok (d:=k126) hs (by show 0 < 3;omega) (fun cs xs vs h1 h2 j p hj=>by
  show k126.K w p ((vs.drop (j * 3)).take 3)
  rw [decRows_eq h1 h2 j p hj];exact k126_mk w p) h hx
theorem rdNoz_ok {e : Env} {s : St} {w : World} (hs : Sim e s w) {v : AV} {xs : List S48} {x : Value} (h : rdNoz s v = some xs) (hx : conc e v = some x) : ∃ A c,x = .slice A xs.length c∧xs.length≤c∧Kd.C k48 w A xs.length xs:=
 rdG_ok (d:=k48) hs (by show 0 < 2;omega) (fun cs xs vs h1 h2 j p hj=>by
  show k48.K w p ((vs.drop (j * 2)).take 2)
  rw [decNoz_eq h1 h2 j p hj];exact k48_mk w p) h hx
noncomputable def fillG (args : List AV) (s : St) : Option (Rt × St):=
 match args with
 | [.agg [t,.int .i64 d,z,.int .i64 wr,.int .i64 sp]]=>(rdRows s t).bind fun rs=>(rdNoz s z).bind fun zs=>(ca_fill.f 400 rs d zs wr sp).bind fun r =>
  if r.2.2.2.all (fun l=>!l.isEmpty) && !r.2.2.2.isEmpty then
   some (.ret (.agg [t,.int .i64 r.1,z,.int .i64 r.2.1,.int .i64 r.2.2.1,.opn (s.next + r.2.2.2.length) r.2.2.2.length]),(addInts 3 r.2.2.2 s).2.add (.ro 28 (some 1) (addInts 3 r.2.2.2 s).1))
  else none
 | _=>none
noncomputable def levelG (args : List AV) (s : St) : Option (Rt × St):=
 match args with
 | [.agg [t,.int .i64 d,z,.int .i64 wr,.int .i64 sp,g],.int .i64 c]=>(rdRows s t).bind fun rs=>(rdNoz s z).bind fun zs=>(rdLists s g).bind fun gs=>(gf_level.f rs d zs wr sp gs c).bind fun r=>some (.ret (.int .i64 r),s)
 | _=>none
noncomputable def sharesG (args : List AV) (s : St) : Option (Rt × St):=
 match args with
 | [.agg [t,.int .i64 d,z,.int .i64 wr,.int .i64 sp,g],.int .i64 c]=>(rdRows s t).bind fun rs=>(rdNoz s z).bind fun zs=>(rdLists s g).bind fun gs=>(gf_shares.f 400 rs d zs wr sp gs c).bind fun r =>
  if r.1.isEmpty then none else some (.ret (.tup [.opn s.next r.1.length,.int .i64 r.2]),s.add (.cells 3 (some 1) (r.1.map (.int .i64))))
 | _=>none
noncomputable def castleHook : Hook:=fun f=>if Nat.beq f 69 then some fillG else if Nat.beq f 85 then some levelG else if Nat.beq f 71 then some sharesG else none
theorem fillG_ok {args : List AV} {s : St} {r : Rt} {s' : St} (h : fillG args s = some (r,s')) {e : Env} {w : World} (hs : Sim e s w) (hf : Free e s.next s'.next) {xs : List Value} (hxs : concL e args = some xs) (c : Frame) (cs : List Frame) :
 ∃ e' w',Sim e' s' w'∧Goes e s w e' s' w'∧EndsAt Tryz.prog (lone (Frame.enter Tryz.prog 69 xs.toArray .normal) (c :: cs) w) c cs e' r w':=by
 unfold fillG at h
 split at h
 case h_2=>cases h
 rename_i t d z wr sp
 simp only [Option.bind_eq_some_iff] at h
 obtain ⟨rs,hrs,zs,hzs,⟨r1,r2,r3,r4⟩,hr,h⟩:=h
 split at h
 case isFalse=>cases h
 rename_i hne
 simp only [Bool.and_eq_true,Bool.not_eq_true',List.all_eq_true,List.isEmpty_eq_false_iff] at hne
 obtain ⟨hne1,hne2⟩:=hne
 cases h
 simp only [concL,conc,Option.bind_eq_some_iff,Option.map_eq_some_iff,Option.some.injEq] at hxs
 obtain ⟨_,⟨_,⟨xt,hxt,_,⟨_,rfl,_,⟨xz,hxz,_,⟨_,rfl,_,⟨_,rfl,_,rfl,rfl⟩,rfl⟩,rfl⟩,rfl⟩,rfl⟩,rfl⟩,_,rfl,rfl⟩:=hxs
 obtain ⟨A0,c0,rfl,hc0,hC0⟩:=rdRows_ok hs hrs hxt
 obtain ⟨A2,c2,rfl,hc2,hC2⟩:=rdNoz_ok hs hzs hxz
 obtain ⟨en,w',⟨v3,rfl,hS,hB⟩,hst⟩:=endsC (ca_fill.calls 400 A0 c0 rs d A2 c2 zs wr sp r1 r2 r3 r4 w hC0 hc0 hC2 hc2 hr) c cs
 obtain ⟨hg1,hg2⟩:=grow hs hB
 obtain ⟨_,inner,ho,hrep⟩:=Kd.S_R hS
 obtain ⟨ho1,ho2⟩:=ho
 rcases ho2 with ⟨_,ho2⟩ | ⟨g,cap,cur,rfl,o1,o2,o3,o4,o5,o6⟩
 ·exact absurd (List.length_eq_zero_iff.1 ho2) hne2
 have hsz : (Kd.slice 3 (Kd.int .i64)).sz = 1:=rfl
 rw [hsz] at ho1 o5 o6
 have hfree : Free e s.next (s.next + r4.length + 1):=fun n a b=>hf n a (by simp only [St.add,addInts_next];exact b)
 obtain ⟨e1,p1,p2,p3,p4,p5,p6⟩:=addInts_ok (t:=3) (ok:=fun k=>True∧some k ≠ (Value.slice (some ⟨g,0,none⟩) r4.length cap).ownBlock) (l:=r4) (vs:=inner) hg2 hg1 (fun n x b q hx hr he=>rwBelow hs n x b q hx hr he) (fun n a b=>hfree n a (Nat.lt_succ_of_lt b)) (by rw [ho1];omega)
  (fun j ys hj=>by
   obtain ⟨v,hv1,hv2⟩:=hrep.2 j ys hj
   refine ⟨hne1 ys (List.mem_of_getElem? hj),v,?_,hv2⟩
   have : ((inner.drop (j * 1)).take 1)[0]? = some v:=by rw [show (inner.drop (j * 1)).take 1 = [v] from hv1];rfl
   rw [List.getElem?_take,if_pos (by omega),List.getElem?_drop] at this
   simpa using this)
 have hn1 : (addInts 3 r4 s).2.next = s.next + r4.length:=addInts_next ..
 have hfr1 : e1 (addInts 3 r4 s).2.next = none:=by
  rw [hn1];exact p6 _ (Nat.le_refl _) (hfree _ (by omega) (by omega))
 have hob : w'.heap[g]? = some (.cells (inner ++ cur.toList.drop (r4.length * 1)).toArray 28 (0,0)):=by
  rw [o2,← o6,List.take_append_drop]
 obtain ⟨q1,q2,_⟩:=addAt (q:=cap) (blk:=.ro 28 (some 1) (addInts 3 r4 s).1) p1 p2 p3 hfr1 o1 (Array.getElem?_eq_some_iff.1 o2).1 (.inl fun z=>z) hob
  ⟨_,_,concL_le (Env.le_upd _ hfr1) _ _ p5,rfl,fun m hm=>by cases hm;rw [← o6,List.take_append_drop,Array.length_toList];exact o5⟩
 refine ⟨_,w',q1,q2,?_⟩
 have hle:=p4.trans (Env.le_upd (g,cap) hfr1)
 have hup : (e1.upd (addInts 3 r4 s).2.next (g,cap)) (s.next + r4.length) = some (g,cap):=by rw [← hn1];exact Env.upd_self ..
 refine ⟨_,?_,hst _ rfl⟩
 simp only [conc,concL,conc_le hle _ _ hxt,conc_le hle _ _ hxz,hup,Option.map_some,Option.bind_some]
theorem levelG_ok {args : List AV} {s : St} {r : Rt} {s' : St} (h : levelG args s = some (r,s')) {e : Env} {w : World} (hs : Sim e s w) (hf : Free e s.next s'.next) {xs : List Value} (hxs : concL e args = some xs) (c : Frame) (cs : List Frame) :
 ∃ e' w',Sim e' s' w'∧Goes e s w e' s' w'∧EndsAt Tryz.prog (lone (Frame.enter Tryz.prog 85 xs.toArray .normal) (c :: cs) w) c cs e' r w':=by
 unfold levelG at h
 split at h
 case h_2=>cases h
 rename_i t d z wr sp gv cc
 simp only [Option.bind_eq_some_iff] at h
 obtain ⟨rs,hrs,zs,hzs,gs,hgs,rr,hr,h⟩:=h
 cases h
 simp only [concL,conc,Option.bind_eq_some_iff,Option.map_eq_some_iff,Option.some.injEq] at hxs
 obtain ⟨_,⟨_,⟨xt,hxt,_,⟨_,rfl,_,⟨xz,hxz,_,⟨_,rfl,_,⟨_,rfl,_,⟨xg,hxg,_,rfl,rfl⟩,rfl⟩,rfl⟩,rfl⟩,rfl⟩,rfl⟩,rfl⟩,_,⟨_,rfl,_,rfl,rfl⟩,rfl⟩:=hxs
 obtain ⟨A0,c0,rfl,hc0,hC0⟩:=rdRows_ok hs hrs hxt
 obtain ⟨A2,c2,rfl,hc2,hC2⟩:=rdNoz_ok hs hzs hxz
 obtain ⟨A5,c5,rfl,hc5,hC5⟩:=rdLists_ok hs hgs hxg
 obtain ⟨en,w',⟨rfl,hB⟩,hst⟩:=endsC (gf_level.calls A0 c0 rs d A2 c2 zs wr sp A5 c5 gs cc rr w hC0 hc0 hC2 hc2 hC5 hc5 hr) c cs
 obtain ⟨hg1,hg2⟩:=grow hs hB
 exact ⟨e,w',hg1,hg2,_,rfl,hst _ rfl⟩
theorem sharesG_ok {args : List AV} {s : St} {r : Rt} {s' : St} (h : sharesG args s = some (r,s')) {e : Env} {w : World} (hs : Sim e s w) (hf : Free e s.next s'.next) {xs : List Value} (hxs : concL e args = some xs) (c : Frame) (cs : List Frame) :
 ∃ e' w',Sim e' s' w'∧Goes e s w e' s' w'∧EndsAt Tryz.prog (lone (Frame.enter Tryz.prog 71 xs.toArray .normal) (c :: cs) w) c cs e' r w':=by
 unfold sharesG at h
 split at h
 case h_2=>cases h
 rename_i t d z wr sp gv cc
 simp only [Option.bind_eq_some_iff] at h
 obtain ⟨rs,hrs,zs,hzs,gs,hgs,⟨r1,r2⟩,hr,h⟩:=h
 split at h
 case isTrue=>cases h
 rename_i hne
 have hne : r1 ≠ []:=fun e0=>hne (by simp only [e0,List.isEmpty_nil])
 cases h
 simp only [concL,conc,Option.bind_eq_some_iff,Option.map_eq_some_iff,Option.some.injEq] at hxs
 obtain ⟨_,⟨_,⟨xt,hxt,_,⟨_,rfl,_,⟨xz,hxz,_,⟨_,rfl,_,⟨_,rfl,_,⟨xg,hxg,_,rfl,rfl⟩,rfl⟩,rfl⟩,rfl⟩,rfl⟩,rfl⟩,rfl⟩,_,⟨_,rfl,_,rfl,rfl⟩,rfl⟩:=hxs
 obtain ⟨A0,c0,rfl,hc0,hC0⟩:=rdRows_ok hs hrs hxt
 obtain ⟨A2,c2,rfl,hc2,hC2⟩:=rdNoz_ok hs hzs hxz
 obtain ⟨A5,c5,rfl,hc5,hC5⟩:=rdLists_ok hs hgs hxg
 obtain ⟨en,w',⟨v0,rfl,hR,hB⟩,hst⟩:=endsC (gf_shares.calls 400 A0 c0 rs d A2 c2 zs wr sp A5 c5 gs cc r1 r2 w hC0 hc0 hC2 hc2 hC5 hc5 hr) c cs
 obtain ⟨hg1,hg2⟩:=grow hs hB
 obtain ⟨g,cap,rest,rfl,h1,h2,h3,h4⟩:=row_of (d:=Kd.int .i64) (n:=0) hR hne
 have hfree : e s.next = none:=hf _ (Nat.le_refl _) (by simp only [St.add];omega)
 obtain ⟨q1,q2,_⟩:=addAt (q:=cap) (blk:=.cells 3 (some 1) (r1.map (.int .i64))) hg2 hg1 (fun n x b q hx hr he=>rwBelow hs n x b q hx hr he) hfree h1 h2
  (.inr fun n x q _ he=>absurd (hs.bound n g q he) (by omega)) h3 ⟨_,rest,concL_ints _ r1,rfl,h4⟩
 refine ⟨_,w',q1,q2,_,?_,hst _ rfl⟩
 simp only [conc,concL,Env.upd_self,Option.map_some,Option.bind_some]
theorem castleHook_ok : HookOk Tryz.prog castleHook:=by
 intro f g hg args s r s' h e w hs hf xs hxs c cs
 unfold castleHook at hg
 split at hg
 ·rename_i hb;cases hg;cases Nat.eq_of_beq_eq_true hb;exact fillG_ok h hs hf hxs c cs
 ·split at hg
  ·rename_i hb;cases hg;cases Nat.eq_of_beq_eq_true hb;exact levelG_ok h hs hf hxs c cs
  ·split at hg
   ·rename_i hb;cases hg;cases Nat.eq_of_beq_eq_true hb;exact sharesG_ok h hs hf hxs c cs
   ·cases hg
end Go.Proofs.YtnnmnhpeblhiiaaGreatDoor.C
namespace Go.Proofs.YtnnmnhpeblhiiaaGreatDoor.C
open Go Go.Abs Go.RowKit
set_option linter.unusedVariables false
set_option linter.unusedSimpArgs false
set_option maxHeartbeats 16000000
set_option maxRecDepth 100000
abbrev I (n : Int) : AV:=.int .i64 n
abbrev U : AV:=.tup []
abbrev L {α : Type} : T4 α:=.leaf
abbrev N {α : Type} (v : α) (a b c d : T4 α) : T4 α:=.node v a b c d
abbrev N0 {α : Type} (v : α) : T4 α:=.node v .leaf .leaf .leaf .leaf
abbrev N1 {α : Type} (v : α) (a : T4 α) : T4 α:=.node v a .leaf .leaf .leaf
abbrev N2 {α : Type} (v : α) (a : T4 α) : T4 α:=.node v .leaf a .leaf .leaf
abbrev N3 {α : Type} (v : α) (a : T4 α) : T4 α:=.node v .leaf .leaf a .leaf
abbrev N4 {α : Type} (v : α) (a : T4 α) : T4 α:=.node v .leaf .leaf .leaf a
noncomputable def knownCall : CallF:=fCall Tryz.prog Go.Proofs.YtnnmnhpeblhiiaaGreatDoor.C.castleHook 100000 60
noncomputable def kt0 : FT:=ofL []
noncomputable def kg0 : Sg:=sgOf ⟨.leaf,0,[]⟩
noncomputable def kt1 : FT:=(N U (N U L (N (.ptr 318 0) (N0 (I 0)) L L L) (N (.ptr 175 0) (N0 (I 0)) L L L) (N0 (.opn 36 3))) (N U (N0 (I 1)) (N1 U (N0 (I 0))) (N (I 3) (N0 (.bool false)) L L L) L) (N U (N (.opn 710 3) (N0 (I 0)) L L L) (N (.ptr 244 0) (N0 (I 0)) L L L) (N0 (.opn 114 3)) L) (N U (N (.opn 424 3) (N0 (I 0)) L L L) (N (.opn 243 3) (N0 (I 0)) L L L) (N0 (I 10)) L))
noncomputable def kg1 : Sg:=sgOf ⟨(N none (N none (N3 none (N1 none (N0 (some (.cells 126 none [(I 5),(I 4),(I 10),(I 10),(I 8),(I 20),(I 20),(I 15),(I 45)]))))) L (N none L (N2 none (N1 none (N0 (some (.cells 3 none [(I 8),(I 12),(I 12)]))))) (N0 (some (.cells 48 none [(I 0),(I 10),(I 1),(I 10),(I 2),(I 12)]))) L) (N3 none (N4 none (N0 (some (.cells 126 none [(I 5),(I 4),(I 10),(I 10),(I 8),(I 20),(I 20),(I 15),(I 45)])))))) (N (some (.cells 126 none [(I 5),(I 4),(I 10),(I 10),(I 8),(I 20),(I 20),(I 15),(I 45)])) (N none L L (N1 none (N0 (some (.cells 48 none [(I 0),(I 10),(I 1),(I 10),(I 2),(I 12)])))) (N2 none (N2 none (N0 (some (.cells 3 (some 1) [(I 10),(I 11),(I 12)])))))) L (N3 none (N4 none (N0 (some (.cells 54 none [(I 27),(I 56)]))))) (N none L (N none (N0 (some (.cells 3 (some 1) [(I 10),(I 20),(I 45)]))) (N0 (some (.cells 126 none [(I 5),(I 4),(I 10),(I 10),(I 8),(I 20),(I 20),(I 15),(I 45)]))) L L) (N4 none (N0 (some (.cells 48 none [(I 0),(I 10),(I 1),(I 10),(I 2),(I 12)])))) L)) (N (some (.cells 48 none [(I 0),(I 10),(I 1),(I 10),(I 2),(I 12)])) (N3 none (N3 none (N0 (some (.cells 126 none [(I 5),(I 4),(I 10),(I 10),(I 8),(I 20),(I 20),(I 15),(I 45)]))))) (N2 none (N2 none (N1 none (N0 (some (.cells 126 none [(I 5),(I 4),(I 10),(I 10),(I 8),(I 20),(I 20),(I 15),(I 45)])))))) (N2 none (N2 none (N0 (some (.cells 54 none [(I 13),(I 15)]))))) (N2 none (N none L (N0 (some (.cells 48 none [(I 0),(I 10),(I 1),(I 10),(I 2),(I 12)]))) (N0 (some (.cells 54 (some 2) [(I 8),(I 10),(I 13),(I 20),(I 9),(I 30)]))) L))) (N none (N none L (N2 none (N1 none (N0 (some (.cells 3 (some 1) [(I (-4)),(I (-5)),(I 9)]))))) (N3 none (N0 (some (.cells 48 none [(I 0),(I 10),(I 1),(I 10),(I 2),(I 12)])))) L) (N none L (N2 none (N1 none (N0 (some (.cells 48 none [(I 0),(I 10),(I 1),(I 10),(I 2),(I 12)]))))) (N0 (some (.cells 126 none [(I 5),(I 4),(I 10),(I 10),(I 8),(I 20),(I 20),(I 15),(I 45)]))) L) L (N none (N0 (some (.ro 3 (some 1) [(I 10),(I 20),(I 45)]))) (N3 none (N0 (some (.cells 54 none [(I 0),(I 0)])))) L L))),758,[710,429,428,427,424,322,321,318,318,248,247,244,244,243,179,178,175,175,118,117,114,61,60,36,3,2]⟩
noncomputable def kt2 : FT:=(N U (N U (N0 (.opn 5340 2)) (N (.ptr 318 0) (N0 (I 0)) L L L) (N (.ptr 175 0) (N0 (I 0)) L L L) (N0 (.opn 36 3))) (N U (N (I 1) (N0 (I 0)) L L L) (N1 U (N0 (I 0))) (N (I 3) (N0 (.bool false)) L L L) L) (N U (N (.opn 710 3) (N0 (I 0)) L L L) (N (.ptr 244 0) (N0 (I 0)) L L L) (N0 (.opn 114 3)) L) (N U (N (.opn 424 3) (N0 (I 0)) L L L) (N (.opn 243 3) (N0 (I 0)) L L L) (N0 (I 10)) L))
noncomputable def kg2 : Sg:=sgOf ⟨(N none (N none (N3 none (N1 none (N0 (some (.cells 126 none [(I 5),(I 4),(I 10),(I 10),(I 8),(I 20),(I 20),(I 15),(I 45)]))))) (N3 none (N3 none (N2 none (N0 (some (.cells 48 none [(I 0),(I 10),(I 1),(I 10),(I 2),(I 12)])))))) (N none L (N2 none (N1 none (N0 (some (.cells 3 none [(I 8),(I 12),(I 12)]))))) (N0 (some (.cells 48 none [(I 0),(I 10),(I 1),(I 10),(I 2),(I 12)]))) L) (N3 none (N4 none (N0 (some (.cells 126 none [(I 5),(I 4),(I 10),(I 10),(I 8),(I 20),(I 20),(I 15),(I 45)])))))) (N (some (.cells 126 none [(I 5),(I 4),(I 10),(I 10),(I 8),(I 20),(I 20),(I 15),(I 45)])) (N none L L (N1 none (N0 (some (.cells 48 none [(I 0),(I 10),(I 1),(I 10),(I 2),(I 12)])))) (N2 none (N2 none (N0 (some (.cells 3 (some 1) [(I 10),(I 11),(I 12)])))))) (N3 none (N3 none (N2 none (N0 (some (.cells 54 none [(I 4),(I 4),(I 8),(I 8),(I 18),(I 18)])))))) (N3 none (N4 none (N0 (some (.cells 54 none [(I 27),(I 56)]))))) (N none L (N none (N0 (some (.cells 3 (some 1) [(I 10),(I 20),(I 45)]))) (N0 (some (.cells 126 none [(I 5),(I 4),(I 10),(I 10),(I 8),(I 20),(I 20),(I 15),(I 45)]))) L L) (N4 none (N0 (some (.cells 48 none [(I 0),(I 10),(I 1),(I 10),(I 2),(I 12)])))) L)) (N (some (.cells 48 none [(I 0),(I 10),(I 1),(I 10),(I 2),(I 12)])) (N3 none (N3 none (N0 (some (.cells 126 none [(I 5),(I 4),(I 10),(I 10),(I 8),(I 20),(I 20),(I 15),(I 45)]))))) (N2 none (N2 none (N1 none (N0 (some (.cells 126 none [(I 5),(I 4),(I 10),(I 10),(I 8),(I 20),(I 20),(I 15),(I 45)])))))) (N2 none (N2 none (N0 (some (.cells 54 none [(I 13),(I 15)]))))) (N2 none (N none L (N0 (some (.cells 48 none [(I 0),(I 10),(I 1),(I 10),(I 2),(I 12)]))) (N0 (some (.cells 54 (some 2) [(I 8),(I 10),(I 13),(I 20),(I 9),(I 30)]))) L))) (N none (N none L (N2 none (N1 none (N0 (some (.cells 3 (some 1) [(I (-4)),(I (-5)),(I 9)]))))) (N3 none (N (some (.cells 48 none [(I 0),(I 10),(I 1),(I 10),(I 2),(I 12)])) L (N0 (some (.cells 126 none [(I 5),(I 4),(I 10),(I 10),(I 8),(I 20),(I 20),(I 15),(I 45)]))) L L)) L) (N none (N3 none (N4 none (N4 none (N0 (some (.cells 44 (some 2) [(I 2),(I 9),(I 2),(I 10)])))))) (N2 none (N1 none (N0 (some (.cells 48 none [(I 0),(I 10),(I 1),(I 10),(I 2),(I 12)]))))) (N0 (some (.cells 126 none [(I 5),(I 4),(I 10),(I 10),(I 8),(I 20),(I 20),(I 15),(I 45)]))) L) L (N none (N0 (some (.ro 3 (some 1) [(I 10),(I 20),(I 45)]))) (N3 none (N0 (some (.cells 54 none [(I 0),(I 0)])))) L L))),6791,[5340,762,761,760,710,429,428,427,424,322,321,318,318,248,247,244,244,243,179,178,175,175,118,117,114,61,60,36,3,2]⟩
theorem ks0 : ((kcOf Tryz.prog 19).drop 0).seqs 8 = true:=by kernel_rfl
theorem kr0 (kx : KX) (k : KT) : warm 1 (runKX 100000 (((kcOf Tryz.prog 19).drop 0).take 8) ⟨Tryz.prog,knownCall,kx⟩ kt0 kg0 k) = k kt1 kg1:=by kernel_rfl
theorem ks1 : ((kcOf Tryz.prog 19).drop 8).seqs 1 = true:=by kernel_rfl
theorem kr1 (kx : KX) (k : KT) : warm 12 (runKX 99992 (((kcOf Tryz.prog 19).drop 8).take 1) ⟨Tryz.prog,knownCall,kx⟩ kt1 kg1 k) = k kt2 kg2:=by kernel_rfl
theorem klast : okTrue (warm 107 (from_ Tryz.prog knownCall 19 9 99991 kt2 kg2)) = true:=by kernel_rfl
theorem known_run : okTrue (runF Tryz.prog Go.Proofs.YtnnmnhpeblhiiaaGreatDoor.C.castleHook 100000 60 19 []) = true:=by
 rw [runF_from]
 rw [show from_ Tryz.prog (fCall Tryz.prog Go.Proofs.YtnnmnhpeblhiiaaGreatDoor.C.castleHook 100000 60) 19 0 100000 (ofL []) (sgOf ⟨.leaf,0,[]⟩) = from_ Tryz.prog knownCall 19 0 100000 kt0 kg0 from rfl]
 rw [show from_ Tryz.prog knownCall 19 0 100000 kt0 kg0 = from_ Tryz.prog knownCall 19 8 99992 kt1 kg1 from from_step (K:=99991) (m:=8) ks0 fun kx k=>(warm_eq 1 _).symm.trans (kr0 kx k)]
 rw [show from_ Tryz.prog knownCall 19 8 99992 kt1 kg1 = from_ Tryz.prog knownCall 19 9 99991 kt2 kg2 from from_step (K:=99990) (m:=1) ks1 fun kx k=>(warm_eq 12 _).symm.trans (kr1 kx k)]
 exact (congrArg okTrue (warm_eq 107 _)).symm.trans klast
end Go.Proofs.YtnnmnhpeblhiiaaGreatDoor.C
namespace Go.Proofs.YtnnmnhpeblhiiaaGreatDoor.C
open Go Go.RowKit Go.Abs
set_option linter.unusedVariables false
set_option linter.unusedSimpArgs false
set_option maxHeartbeats 16000000
set_option maxRecDepth 100000
def l4_known.f : Option Bool:=some true
theorem l4_known.calls (r : Bool) (w : World) (h : l4_known.f = some r) : Calls Tryz.prog 19 #[] w fun e w'=>e = .returned (.bool r)∧Below w.heap.size w w':=by
 cases h
 exact calls_true castleHook_ok known_run w
theorem known_true : l4_known.f = some true:=rfl
end Go.Proofs.YtnnmnhpeblhiiaaGreatDoor.C

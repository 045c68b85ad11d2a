/- A part of the proof: the walks of the functions that it reaches. TIGHT. -/
import Derived.Test.YtnnmnhpeblhiiaaGreatDoorMV7
import Derived.Deep.RegionHeld3
import Derived.WalkSpells
import Derived.Lib.SliceRun
import Derived.Deep.Light
import Derived.Tactics2
import Derived.Defers
import Derived.Recover
import Derived.Laws.Pointers
import Derived.Lib.Hide
set_option linter.unusedVariables false
set_option linter.unusedSimpArgs false
namespace Go.Proofs.YtnnmnhpeblhiiaaGreatDoor.C
open Go.RowKit Go.Proofs.YtnnmnhpeblhiiaaGreatDoorW.PrintWords Go.Proofs.YtnnmnhpeblhiiaaGreatDoorW.PrintLast Go.Proofs.YtnnmnhpeblhiiaaGreatDoorW.PrintMore
set_option linter.unusedVariables false
set_option linter.unusedSimpArgs false
set_option maxHeartbeats 16000000
set_option maxRecDepth 100000
theorem ca_told.calls (line wd : ByteArray) (kind : Int) (hki : ∀ W,(Instr.index 158 (.agg #[.string castleB,.string nozzleB]) (.int .i64 kind)).run Tryz.prog W = .ok (.string wd) W) (w : World) (hs : line.size < 4294967281) (hg : GV w) :
 Calls Tryz.prog 124 #[.string line,.int .i64 kind] w (ToldPost (toldF line wd) w):=by
 have hu:=Tryz.underlying9
 have hk7:=nums_at0
 have hk8:=nums_at1
 have HG:=Aside0.mk hg
 have HS:=Aside0.mk hs
 have HB:=Aside0.mk (Below.refl w.heap.size w)
 clear hg hs
 obtain ⟨ws,hws⟩ : ∃ ws,splitF line spB = ws:=⟨_,rfl⟩
 have HF:=Aside0.mk (show toldF line wd = toldW wd ws by rw [← hws];rfl)
 have hwl0:=splitF_len line spB (by decide) HS.out
 rw [hws] at hwl0
 have hwl : ws.length≤9223372036854775807:=Nat.le_trans hwl0 (by decide)
 clear hwl0
 have HC:=Aside0.mk (split_calls line spB w HS.out (by decide) HG.out)
 rw [hws] at HC
 clear hws
 by_cases hl : ws.length = 3
 case neg =>
  have hd : (((ws.length : Nat) : Int) == 3) = false:=by simp;omega
  have HR:=Aside0.mk (show toldF line wd = none by rw [HF.out];exact toldW_len hl)
  clear hl HF
  go_enter Tryz.func124,Tryz.ntmps124
  go_wp2_with (go_at_call 121;refine HC.out.mono ?_;rintro e w1 ⟨g,rfl,hgg,hbg,hb⟩;have n_:=Aside0.mk (below_then HB.out HB.out.size hb);clear HB;have HB:=n_;clear n_;have HGG:=Aside0.mk hgg;have BG:=Aside0.mk hbg;clear hgg hbg hb)
  refine start_ (n:=14) (S:=fun W=>True∧True) (ds:=[]) (ba 14 0) (by kernel_rfl) rfl rfl ⟨trivial,trivial⟩ (fun hHeld=>?_)
  have n_:=Aside0.mk (below_drew1 HB.out)
  clear HB
  have HB:=n_
  clear n_
  have n_:=Aside0.mk (blk_drew BG.out)
  clear BG
  have BG:=n_
  clear n_
  generalize w1.drew = wd1 at BG HB hHeld ⊢
  refine pure_ (i:=0) (N:=some 14) (v:=?_) (a':=?_) (ba 14 1) rfl rfl (by kernel_rfl) (fun _ _ _ h=>h) (Or.inl ⟨by rfl,?_⟩) ?_ ?_
  rotate_left
  ·intro w'
   go_simp
   with_reducible rfl
  rotate_left
  ·simp only [Act.put,List.setIfInBounds_toArray,List.set_cons_zero,List.set_cons_succ,i64_w,i32_w]
   rfl
  refine pure_ (i:=1) (N:=some 15) (v:=?_) (a':=?_) (ba 14 3) rfl rfl (by kernel_rfl) (fun _ _ _ h=>h) (Or.inl ⟨by rfl,?_⟩) ?_ ?_
  rotate_left
  ·intro w'
   go_simp
   with_reducible rfl
  rotate_left
  ·simp only [Act.put,List.setIfInBounds_toArray,List.set_cons_zero,List.set_cons_succ,i64_w,i32_w]
   rfl
  refine pure_ (i:=2) (N:=some 16) (v:=?_) (a':=?_) (ba 14 7) rfl rfl (by kernel_rfl) (fun _ _ _ h=>h) (Or.inl ⟨by rfl,?_⟩) ?_ ?_
  rotate_left
  ·intro w'
   go_simp
   with_reducible rfl
  rotate_left
  ·simp only [Act.put,List.setIfInBounds_toArray,List.set_cons_zero,List.set_cons_succ,i64_w,i32_w]
   rfl
  refine pure_ (i:=3) (N:=some 17) (v:=?_) (a':=?_) (ba 14 15) rfl rfl (by kernel_rfl) (fun _ _ _ h=>h) (Or.inl ⟨by rfl,?_⟩) ?_ ?_
  rotate_left
  ·intro w'
   go_simp
   with_reducible rfl
  rotate_left
  ·simp only [Act.put,List.setIfInBounds_toArray,List.set_cons_zero,List.set_cons_succ,i64_w,i32_w]
   rfl
  refine pure_ (i:=4) (N:=some 18) (v:=undef) (a':=?_) (ba 14 31) rfl rfl (by kernel_rfl) (fun _ _ _ h=>h) (Or.inr ⟨by rfl,rfl⟩) ?_ ?_
  rotate_left
  ·simp only [Act.put,List.setIfInBounds_toArray,List.set_cons_zero,List.set_cons_succ,i64_w,i32_w]
   rfl
  refine pure_ (i:=5) (N:=some 19) (v:=undef) (a':=?_) (ba 14 63) rfl rfl (by kernel_rfl) (fun _ _ _ h=>h) (Or.inr ⟨by rfl,rfl⟩) ?_ ?_
  rotate_left
  ·simp only [Act.put,List.setIfInBounds_toArray,List.set_cons_zero,List.set_cons_succ,i64_w,i32_w]
   rfl
  refine pure_ (i:=6) (N:=some 20) (v:=undef) (a':=?_) (ba 14 127) rfl rfl (by kernel_rfl) (fun _ _ _ h=>h) (Or.inr ⟨by rfl,rfl⟩) ?_ ?_
  rotate_left
  ·simp only [Act.put,List.setIfInBounds_toArray,List.set_cons_zero,List.set_cons_succ,i64_w,i32_w]
   rfl
  refine pure_ (i:=7) (N:=some 21) (v:=undef) (a':=?_) (ba 14 255) rfl rfl (by kernel_rfl) (fun _ _ _ h=>h) (Or.inr ⟨by rfl,rfl⟩) ?_ ?_
  rotate_left
  ·simp only [Act.put,List.setIfInBounds_toArray,List.set_cons_zero,List.set_cons_succ,i64_w,i32_w]
   rfl
  refine pure_ (i:=8) (N:=some 22) (v:=undef) (a':=?_) (ba 14 511) rfl rfl (by kernel_rfl) (fun _ _ _ h=>h) (Or.inr ⟨by rfl,rfl⟩) ?_ ?_
  rotate_left
  ·simp only [Act.put,List.setIfInBounds_toArray,List.set_cons_zero,List.set_cons_succ,i64_w,i32_w]
   rfl
  refine pure_ (i:=9) (N:=some 23) (v:=undef) (a':=?_) (ba 14 1023) rfl rfl (by kernel_rfl) (fun _ _ _ h=>h) (Or.inr ⟨by rfl,rfl⟩) ?_ ?_
  rotate_left
  ·simp only [Act.put,List.setIfInBounds_toArray,List.set_cons_zero,List.set_cons_succ,i64_w,i32_w]
   rfl
  refine pure_ (i:=10) (N:=some 24) (v:=undef) (a':=?_) (ba 14 2047) rfl rfl (by kernel_rfl) (fun _ _ _ h=>h) (Or.inr ⟨by rfl,rfl⟩) ?_ ?_
  rotate_left
  ·simp only [Act.put,List.setIfInBounds_toArray,List.set_cons_zero,List.set_cons_succ,i64_w,i32_w]
   rfl
  refine pure_ (i:=11) (N:=some 25) (v:=?_) (a':=?_) (ba 14 4095) rfl rfl (by kernel_rfl) (fun _ _ _ h=>h) (Or.inl ⟨by rfl,?_⟩) ?_ ?_
  rotate_left
  ·intro w'
   go_simp
   with_reducible rfl
  rotate_left
  ·simp only [Act.put,List.setIfInBounds_toArray,List.set_cons_zero,List.set_cons_succ,i64_w,i32_w]
   rfl
  refine pure_ (i:=12) (N:=some 26) (v:=?_) (a':=?_) (ba 14 8191) rfl rfl (by kernel_rfl) (fun _ _ _ h=>h) (Or.inl ⟨by rfl,?_⟩) ?_ ?_
  rotate_left
  ·intro w'
   go_simp
   with_reducible rfl
  rotate_left
  ·simp only [Act.put,List.setIfInBounds_toArray,List.set_cons_zero,List.set_cons_succ,i64_w,i32_w]
   rfl
  refine one_ (i:=13) (N:=some 27) (ba 14 16383) rfl rfl (by kernel_rfl) (by decide) (fun K hK=>?_)
  refine goesP_ Tryz.func122 (by kernel_rfl) rfl #[.bool false,.string line] (by rfl) rfl rfl (by (try simp only [List.map_toArray,List.map_cons,List.map_nil]);first | done | rfl) ?_
  refine (ca_sure_P.calls false line line _ rfl).mono ?_
  rintro e w3 ⟨rfl,hd⟩
  have HB3:=below_then HB.out HB.out.size hd.below
  refine ⟨_,rfl,?_⟩
  refine ⟨rfl,?_,HB3⟩
  rw [HR.out]
  exact ⟨_,rfl⟩
 obtain ⟨w0,w1_,w2_,rfl⟩ : ∃ a b c,ws = [a,b,c]:=by match ws,hl with | [a,b,c],_=>exact ⟨a,b,c,rfl⟩
 clear hl hwl
 have HC2:=Aside0.mk (show Calls Tryz.prog 121 #[.string line,.string spB] w fun e w'=>∃ g,e = .returned (.slice (some ⟨g,0,none⟩) 3 3)∧w.heap.size≤g∧w'.heap[g]? = some (.cells #[.string w0,.string w1_,.string w2_] 9 (0,0))∧Below w.heap.size w w' from HC.out)
 clear HC
 by_cases hw : w0 = wd
 case neg =>
  have hq1:=bl_false hw
  have HR:=Aside0.mk (show toldF line wd = none by rw [HF.out];exact if_neg hw)
  clear hw HF
  go_enter Tryz.func124,Tryz.ntmps124
  go_wp2_with (go_at_call 121;refine HC2.out.mono ?_;rintro e w1 ⟨g,rfl,hgg,hbg,hb⟩;have n_:=Aside0.mk (below_then HB.out HB.out.size hb);clear HB;have HB:=n_;clear n_;have HGG:=Aside0.mk hgg;have BG:=Aside0.mk hbg;clear hgg hbg hb)
  refine start_ (n:=14) (S:=fun W=>W.cell? ⟨g,0,none⟩ = some (.string w0)∧True) (ds:=[]) (ba 14 0) (by kernel_rfl) rfl rfl ⟨(blk_cell (blk_drew BG.out) 0).trans rfl,trivial⟩ (fun hHeld=>?_)
  have n_:=Aside0.mk (below_drew1 HB.out)
  clear HB
  have HB:=n_
  clear n_
  have n_:=Aside0.mk (blk_drew BG.out)
  clear BG
  have BG:=n_
  clear n_
  generalize w1.drew = wd1 at BG HB hHeld ⊢
  refine pure_ (i:=0) (N:=some 14) (v:=?_) (a':=?_) (ba 14 1) rfl rfl (by kernel_rfl) (fun _ _ _ h=>h) (Or.inl ⟨by rfl,?_⟩) ?_ ?_
  rotate_left
  ·intro w'
   go_simp
   with_reducible rfl
  rotate_left
  ·simp only [Act.put,List.setIfInBounds_toArray,List.set_cons_zero,List.set_cons_succ,i64_w,i32_w]
   rfl
  refine pure_ (i:=1) (N:=some 15) (v:=?_) (a':=?_) (ba 14 3) rfl rfl (by kernel_rfl) (fun _ _ _ h=>h) (Or.inl ⟨by rfl,?_⟩) ?_ ?_
  rotate_left
  ·intro w'
   go_simp
   with_reducible rfl
  rotate_left
  ·simp only [Act.put,List.setIfInBounds_toArray,List.set_cons_zero,List.set_cons_succ,i64_w,i32_w]
   rfl
  refine pure_ (i:=2) (N:=some 16) (v:=?_) (a':=?_) (ba 14 7) rfl rfl (by kernel_rfl) (fun _ _ _ h=>h) (Or.inl ⟨by rfl,?_⟩) ?_ ?_
  rotate_left
  ·intro w'
   go_simp
   with_reducible rfl
  rotate_left
  ·simp only [Act.put,List.setIfInBounds_toArray,List.set_cons_zero,List.set_cons_succ,i64_w,i32_w]
   rfl
  refine pure_ (i:=3) (N:=some 17) (v:=?_) (a':=?_) (ba 14 15) rfl rfl (by kernel_rfl) (fun _ _ _ h=>h) (Or.inl ⟨by rfl,?_⟩) ?_ ?_
  rotate_left
  ·intro w'
   go_simp
   with_reducible rfl
  rotate_left
  ·simp only [Act.put,List.setIfInBounds_toArray,List.set_cons_zero,List.set_cons_succ,i64_w,i32_w]
   rfl
  refine pure_ (i:=4) (N:=some 18) (v:=?_) (a':=?_) (ba 14 31) rfl rfl (by kernel_rfl) (fun _ _ _ h=>h) (Or.inl ⟨by rfl,?_⟩) ?_ ?_
  rotate_left
  ·intro w'
   go_simp
   with_reducible rfl
  rotate_left
  ·simp only [Act.put,List.setIfInBounds_toArray,List.set_cons_zero,List.set_cons_succ,i64_w,i32_w]
   rfl
  refine pure_ (i:=5) (N:=some 19) (v:=?_) (a':=?_) (ba 14 63) rfl rfl (by kernel_rfl) (fun _ _ _ h=>h) (Or.inl ⟨by rfl,?_⟩) ?_ ?_
  rotate_left
  ·intro w'
   go_simp
   with_reducible rfl
  rotate_left
  ·simp only [Act.put,List.setIfInBounds_toArray,List.set_cons_zero,List.set_cons_succ,i64_w,i32_w]
   rfl
  refine pure_ (i:=8) (N:=some 22) (v:=?_) (a':=?_) (ba 14 319) rfl rfl (by kernel_rfl) (fun _ _ _ h=>h) (Or.inl ⟨by rfl,?_⟩) ?_ ?_
  rotate_left
  ·intro w'
   go_simp
   with_reducible rfl
  rotate_left
  ·simp only [Act.put,List.setIfInBounds_toArray,List.set_cons_zero,List.set_cons_succ,i64_w,i32_w]
   rfl
  refine pure_ (i:=12) (N:=some 26) (v:=?_) (a':=?_) (ba 14 4415) rfl rfl (by kernel_rfl) (fun _ _ _ h=>h) (Or.inl ⟨by rfl,?_⟩) ?_ ?_
  rotate_left
  ·intro w'
   go_simp
   with_reducible rfl
  rotate_left
  ·simp only [Act.put,List.setIfInBounds_toArray,List.set_cons_zero,List.set_cons_succ,i64_w,i32_w]
   rfl
  refine take_ (i:=6) (N:=some 20) (v:=?_) (a':=?_) (ba 14 4479) rfl rfl (by kernel_rfl) (fun _ _ _ h=>h) (Or.inl ⟨by rfl,?_⟩) hHeld ?_ ?_
  rotate_left
  ·rintro w' ⟨s0,s1⟩
   go_simp
   with_reducible rfl
  rotate_left
  ·simp only [Act.put,List.setIfInBounds_toArray,List.set_cons_zero,List.set_cons_succ,i64_w,i32_w]
   rfl
  refine one_ (i:=7) (N:=some 21) (ba 14 4607) rfl rfl (by kernel_rfl) (by decide) (fun K hK=>?_)
  refine goes_ Tryz.func118 (by kernel_rfl) rfl #[] (by rfl) rfl rfl (by (try simp only [List.map_toArray,List.map_cons,List.map_nil]);first | done | rfl) ?_
  refine (ca_words.calls _).mono ?_
  rintro e w2 ⟨rfl,hb⟩
  have n_:=Aside0.mk (below_then HB.out HB.out.size hb);clear HB;have HB:=n_;clear n_;have n_:=Aside0.mk (blk_below BG.out hb);clear BG;have BG:=n_;clear n_
  clear hb
  refine ⟨_,rfl,?_⟩
  refine hK.out _ _ ⟨(blk_cell BG.out 0).trans rfl,trivial⟩ (fun hHeld=>?_)
  clear hK K
  refine norm_ (a':=?_) ?_ ?_
  rotate_left
  ·show Act.put _ (some 21) _ = _
   simp only [Act.put,List.setIfInBounds_toArray,List.set_cons_zero,List.set_cons_succ,i64_w,i32_w]
   rfl
  refine pure_ (i:=9) (N:=some 23) (v:=?_) (a':=?_) (ba 14 5119) rfl rfl (by kernel_rfl) (fun _ _ _ h=>h) (Or.inl ⟨by rfl,?_⟩) ?_ ?_
  rotate_left
  ·intro w'
   go_simp
   with_reducible rfl
  rotate_left
  ·simp only [Act.put,List.setIfInBounds_toArray,List.set_cons_zero,List.set_cons_succ,i64_w,i32_w]
   rfl
  refine pure_ (i:=10) (N:=some 24) (v:=?_) (a':=?_) (ba 14 6143) rfl rfl (by kernel_rfl) (fun _ _ _ h=>h) (Or.inl ⟨by rfl,?_⟩) ?_ ?_
  rotate_left
  ·intro w'
   go_simp
   with_reducible rfl
  rotate_left
  ·simp only [Act.put,List.setIfInBounds_toArray,List.set_cons_zero,List.set_cons_succ,i64_w,i32_w]
   rfl
  refine pure_ (i:=11) (N:=some 25) (v:=?_) (a':=?_) (ba 14 8191) rfl rfl (by kernel_rfl) (fun _ _ _ h=>h) (Or.inl ⟨by rfl,?_⟩) ?_ ?_
  rotate_left
  ·intro w'
   go_simp
   with_reducible rfl
  rotate_left
  ·simp only [Act.put,List.setIfInBounds_toArray,List.set_cons_zero,List.set_cons_succ,i64_w,i32_w]
   rfl
  refine one_ (i:=13) (N:=some 27) (ba 14 16383) rfl rfl (by kernel_rfl) (by decide) (fun K hK=>?_)
  refine goesP_ Tryz.func122 (by kernel_rfl) rfl #[.bool false,.string line] (by rfl) rfl rfl (by (try simp only [List.map_toArray,List.map_cons,List.map_nil]);first | done | rfl) ?_
  refine (ca_sure_P.calls false line line _ rfl).mono ?_
  rintro e w3 ⟨rfl,hd⟩
  have HB3:=below_then HB.out HB.out.size hd.below
  refine ⟨_,rfl,?_⟩
  refine ⟨rfl,?_,HB3⟩
  rw [HR.out]
  exact ⟨_,rfl⟩
 have hq1:=bl_true hw
 have HF2:=Aside0.mk (show toldF line wd = (numF w1_).bind fun a=>(numF w2_).bind fun b=>some (a,b) by rw [HF.out];exact if_pos hw)
 have HW:=Aside0.mk hw
 clear hw HF
 go_enter Tryz.func124,Tryz.ntmps124
 go_wp2_with (go_at_call 121;refine HC2.out.mono ?_;rintro e w1 ⟨g,rfl,hgg,hbg,hb⟩;have n_:=Aside0.mk (below_then HB.out HB.out.size hb);clear HB;have HB:=n_;clear n_;have HGG:=Aside0.mk hgg;have BG:=Aside0.mk hbg;clear hgg hbg hb)
 refine start_ (n:=14) (S:=fun W=>W.cell? ⟨g,0,none⟩ = some (.string w0)∧True) (ds:=[]) (ba 14 0) (by kernel_rfl) rfl rfl ⟨(blk_cell (blk_drew BG.out) 0).trans rfl,trivial⟩ (fun hHeld=>?_)
 have n_:=Aside0.mk (below_drew1 HB.out)
 clear HB
 have HB:=n_
 clear n_
 have n_:=Aside0.mk (blk_drew BG.out)
 clear BG
 have BG:=n_
 clear n_
 generalize w1.drew = wd1 at BG HB hHeld ⊢
 refine pure_ (i:=0) (N:=some 14) (v:=?_) (a':=?_) (ba 14 1) rfl rfl (by kernel_rfl) (fun _ _ _ h=>h) (Or.inl ⟨by rfl,?_⟩) ?_ ?_
 rotate_left
 ·intro w'
  go_simp
  with_reducible rfl
 rotate_left
 ·simp only [Act.put,List.setIfInBounds_toArray,List.set_cons_zero,List.set_cons_succ,i64_w,i32_w]
  rfl
 refine pure_ (i:=1) (N:=some 15) (v:=?_) (a':=?_) (ba 14 3) rfl rfl (by kernel_rfl) (fun _ _ _ h=>h) (Or.inl ⟨by rfl,?_⟩) ?_ ?_
 rotate_left
 ·intro w'
  go_simp
  with_reducible rfl
 rotate_left
 ·simp only [Act.put,List.setIfInBounds_toArray,List.set_cons_zero,List.set_cons_succ,i64_w,i32_w]
  rfl
 refine pure_ (i:=2) (N:=some 16) (v:=?_) (a':=?_) (ba 14 7) rfl rfl (by kernel_rfl) (fun _ _ _ h=>h) (Or.inl ⟨by rfl,?_⟩) ?_ ?_
 rotate_left
 ·intro w'
  go_simp
  with_reducible rfl
 rotate_left
 ·simp only [Act.put,List.setIfInBounds_toArray,List.set_cons_zero,List.set_cons_succ,i64_w,i32_w]
  rfl
 refine pure_ (i:=3) (N:=some 17) (v:=?_) (a':=?_) (ba 14 15) rfl rfl (by kernel_rfl) (fun _ _ _ h=>h) (Or.inl ⟨by rfl,?_⟩) ?_ ?_
 rotate_left
 ·intro w'
  go_simp
  with_reducible rfl
 rotate_left
 ·simp only [Act.put,List.setIfInBounds_toArray,List.set_cons_zero,List.set_cons_succ,i64_w,i32_w]
  rfl
 refine pure_ (i:=4) (N:=some 18) (v:=?_) (a':=?_) (ba 14 31) rfl rfl (by kernel_rfl) (fun _ _ _ h=>h) (Or.inl ⟨by rfl,?_⟩) ?_ ?_
 rotate_left
 ·intro w'
  go_simp
  with_reducible rfl
 rotate_left
 ·simp only [Act.put,List.setIfInBounds_toArray,List.set_cons_zero,List.set_cons_succ,i64_w,i32_w]
  rfl
 refine pure_ (i:=5) (N:=some 19) (v:=?_) (a':=?_) (ba 14 63) rfl rfl (by kernel_rfl) (fun _ _ _ h=>h) (Or.inl ⟨by rfl,?_⟩) ?_ ?_
 rotate_left
 ·intro w'
  go_simp
  with_reducible rfl
 rotate_left
 ·simp only [Act.put,List.setIfInBounds_toArray,List.set_cons_zero,List.set_cons_succ,i64_w,i32_w]
  rfl
 refine pure_ (i:=8) (N:=some 22) (v:=?_) (a':=?_) (ba 14 319) rfl rfl (by kernel_rfl) (fun _ _ _ h=>h) (Or.inl ⟨by rfl,?_⟩) ?_ ?_
 rotate_left
 ·intro w'
  go_simp
  with_reducible rfl
 rotate_left
 ·simp only [Act.put,List.setIfInBounds_toArray,List.set_cons_zero,List.set_cons_succ,i64_w,i32_w]
  rfl
 refine pure_ (i:=12) (N:=some 26) (v:=?_) (a':=?_) (ba 14 4415) rfl rfl (by kernel_rfl) (fun _ _ _ h=>h) (Or.inl ⟨by rfl,?_⟩) ?_ ?_
 rotate_left
 ·intro w'
  go_simp
  with_reducible rfl
 rotate_left
 ·simp only [Act.put,List.setIfInBounds_toArray,List.set_cons_zero,List.set_cons_succ,i64_w,i32_w]
  rfl
 refine take_ (i:=6) (N:=some 20) (v:=?_) (a':=?_) (ba 14 4479) rfl rfl (by kernel_rfl) (fun _ _ _ h=>h) (Or.inl ⟨by rfl,?_⟩) hHeld ?_ ?_
 rotate_left
 ·rintro w' ⟨s0,s1⟩
  go_simp
  with_reducible rfl
 rotate_left
 ·simp only [Act.put,List.setIfInBounds_toArray,List.set_cons_zero,List.set_cons_succ,i64_w,i32_w]
  rfl
 refine one_ (i:=7) (N:=some 21) (ba 14 4607) rfl rfl (by kernel_rfl) (by decide) (fun K hK=>?_)
 refine goes_ Tryz.func118 (by kernel_rfl) rfl #[] (by rfl) rfl rfl (by (try simp only [List.map_toArray,List.map_cons,List.map_nil]);first | done | rfl) ?_
 refine (ca_words.calls _).mono ?_
 rintro e w2 ⟨rfl,hb⟩
 have n_:=Aside0.mk (below_then HB.out HB.out.size hb);clear HB;have HB:=n_;clear n_;have n_:=Aside0.mk (blk_below BG.out hb);clear BG;have BG:=n_;clear n_
 clear hb
 refine ⟨_,rfl,?_⟩
 refine hK.out _ _ ⟨(blk_cell BG.out 0).trans rfl,trivial⟩ (fun hHeld=>?_)
 clear hK K
 refine norm_ (a':=?_) ?_ ?_
 rotate_left
 ·show Act.put _ (some 21) _ = _
  simp only [Act.put,List.setIfInBounds_toArray,List.set_cons_zero,List.set_cons_succ,i64_w,i32_w]
  rfl
 refine pure_ (i:=9) (N:=some 23) (v:=?_) (a':=?_) (ba 14 5119) rfl rfl (by kernel_rfl) (fun _ _ _ h=>h) (Or.inl ⟨by rfl,?_⟩) ?_ ?_
 rotate_left
 ·intro w'
  go_simp
  with_reducible rfl
 rotate_left
 ·simp only [Act.put,List.setIfInBounds_toArray,List.set_cons_zero,List.set_cons_succ,i64_w,i32_w]
  rfl
 refine pure_ (i:=10) (N:=some 24) (v:=?_) (a':=?_) (ba 14 6143) rfl rfl (by kernel_rfl) (fun _ _ _ h=>h) (Or.inl ⟨by rfl,?_⟩) ?_ ?_
 rotate_left
 ·intro w'
  go_simp
  with_reducible rfl
 rotate_left
 ·simp only [Act.put,List.setIfInBounds_toArray,List.set_cons_zero,List.set_cons_succ,i64_w,i32_w]
  rfl
 refine pure_ (i:=11) (N:=some 25) (v:=?_) (a':=?_) (ba 14 8191) rfl rfl (by kernel_rfl) (fun _ _ _ h=>h) (Or.inl ⟨by rfl,?_⟩) ?_ ?_
 rotate_left
 ·intro w'
  go_simp
  with_reducible rfl
 rotate_left
 ·simp only [Act.put,List.setIfInBounds_toArray,List.set_cons_zero,List.set_cons_succ,i64_w,i32_w]
  rfl
 refine one_ (i:=13) (N:=some 27) (ba 14 16383) rfl rfl (by kernel_rfl) (by decide) (fun K hK=>?_)
 refine goes_ Tryz.func122 (by kernel_rfl) rfl #[.bool true,.string line] (by rfl) rfl rfl (by (try simp only [List.map_toArray,List.map_cons,List.map_nil]);first | done | rfl) ?_
 refine (ca_sure.calls true line _ rfl).mono ?_
 rintro e w3 ⟨rfl,hd⟩
 have hb:=hd.below
 clear hd
 have n_:=Aside0.mk (below_then HB.out HB.out.size hb);clear HB;have HB:=n_;clear n_;have n_:=Aside0.mk (blk_below BG.out hb);clear BG;have BG:=n_;clear n_
 clear hb
 refine ⟨_,rfl,?_⟩
 refine hK.out _ _ ⟨(blk_cell BG.out 0).trans rfl,trivial⟩ (fun hHeld=>?_)
 clear hK K
 refine norm_ (a':=?_) ?_ ?_
 rotate_left
 ·show Act.put _ (some 27) _ = _
  simp only [Act.put,List.setIfInBounds_toArray,List.set_cons_zero,List.set_cons_succ,i64_w,i32_w]
  rfl
 refine done_ (by kernel_rfl) ?_
 go_wp2_with ((with_reducible refine gate_dst (N:=7) rfl ?_);refine box_event ?hg (N:=7) ?hd (cs:=#[.int .i64 0,.int .i64 0]) (t:=161) ?hr ?_;(case hd=>rfl);(case hg=>rfl);(case hr=>go_simp;try rfl);intro gl hgl w4 hbox hb;have HGL:=Aside0.mk (show w.heap.size≤gl by have:=HB.out.size;omega);clear hgl;have BL:=Aside0.mk hbox;clear hbox;have n_:=Aside0.mk (below_then HB.out HB.out.size hb);clear HB;have HB:=n_;clear n_;have n_:=Aside0.mk (blk_below BG.out hb);clear BG;have BG:=n_;clear n_;clear hb)
 have HNE:=Aside0.mk (blk_ne BG.out BL.out (by decide))
 go_loopw [31] (fun v31 W'=>∃ i l0 l1 : Int,v31 = .int .i64 i∧Aside0 ((i = 0∧l0 = 0∧l1 = 0)∨(i = 1∧numF w1_ = some l0∧l1 = 0)∨(i = 2∧numF w1_ = some l0∧numF w2_ = some l1))∧Aside0 (W'.heap[gl]? = some (.cells #[.int .i64 l0,.int .i64 l1] 161 (0,0)))∧Aside0 (W'.heap[g]? = some (.cells #[.string w0,.string w1_,.string w2_] 9 (0,0)))∧Aside0 (Below w.heap.size w W')) (fun v31 _=>2 - (intOf v31).toNat)
 case atStart=>exact ⟨0,0,0,rfl,⟨.inl ⟨rfl,rfl,rfl⟩⟩,BL,BG,HB⟩
 case round =>
  clear BL BG HB
  obtain ⟨i,l0,l1,rfl,HST,BL,BG,HB⟩:=hrel
  have hst:=HST.out
  clear HST
  generalize wr = W1 at *
  rcases hst with ⟨rfl,rfl,rfl⟩ | ⟨rfl,hn1,rfl⟩ | ⟨rfl,hn1,hn2⟩
  ·skip
   have HNN:=Aside0.mk (show numF w1_ = none→toldF line wd = none by intro hn;rw [HF2.out];rw [hn];rfl)
   have hcg0 : W1.cell? ⟨g,1,none⟩ = some (.string w1_):=(blk_cell BG.out 1).trans rfl
   have hcg1 : W1.cell? ⟨g,2,none⟩ = some (.string w2_):=(blk_cell BG.out 2).trans rfl
   go_wp2_with ((with_reducible refine gate_dst (N:=37) rfl ?_);refine range_event (x:=w1_) rfl rfl rfl hu ?_;intro gi hgi w5 hit hb;have HGI:=Aside0.mk (show w.heap.size≤gi by have:=HB.out.size;omega);clear hgi;have BI:=Aside0.mk hit;clear hit;have n_:=Aside0.mk (below_then HB.out HB.out.size hb);clear HB;have HB:=n_;clear n_;have n_:=Aside0.mk (blk_below BG.out hb);clear BG;have BG:=n_;clear n_;have n_:=Aside0.mk (blk_below BL.out hb);clear BL;have BL:=n_;clear n_;clear hb)
   simp only [Act.put,List.setIfInBounds_toArray,List.set_cons_zero,List.set_cons_succ]
   clear hcg0 hcg1
   have HN2:=Aside0.mk (show gl ≠ gi by intro e;have h1:=BL.out;have h2:=BI.out;rw [e,h2] at h1;cases h1)
   have HN3:=Aside0.mk (show g ≠ gi by intro e;have h1:=BG.out;have h2:=BI.out;rw [e,h2] at h1;cases h1)
   go_loopw [38] (fun v38 W'=>∃ pos : Nat,pos≤w1_.size∧Aside0 (∀ q : Nat,q < pos→48≤bt w1_ q∧bt w1_ q≤57)∧Aside0 (w1_.size≤3∨pos = 0)∧Aside0 (W'.heap[gi]? = some (.stringIter w1_ pos))∧Aside0 (W'.heap[gl]? = some (.cells #[.int .i64 (valTo w1_ pos),.int .i64 0] 161 (0,0)))∧Aside0 (W'.heap[g]? = some (.cells #[.string w0,.string w1_,.string w2_] 9 (0,0)))∧Aside0 (Below w.heap.size w W')) (fun _ W'=>w1_.size - W'.iterPos gi)
   case atStart=>exact ⟨0,Nat.zero_le _,⟨fun q h=>absurd h (Nat.not_lt_zero q)⟩,⟨.inr rfl⟩,BI,BL,BG,HB⟩
   case round =>
    clear BI BL BG HB
    obtain ⟨pos,hple,HD0,HD3,BI,BL,BG,HB⟩:=hrel
    have HIP:=Aside0.mk (iter_pos BI.out)
    by_cases hpx : pos < w1_.size
    ·by_cases hgood : (48≤bt w1_ pos∧bt w1_ pos≤57)∧w1_.size≤3
     ·obtain ⟨hdg,hs3⟩:=hgood
      obtain ⟨c,hdec,hcb,hc48,hc57⟩:=digit_ex hpx hdg
      have HD:=Aside0.mk hdec
      have HCB:=Aside0.mk hcb
      have HDN:=Aside0.mk (digs_snoc HD0.out hdg)
      have HVR:=Aside0.mk (valTo_range HD0.out (by omega))
      have HS3:=Aside0.mk hs3
      have hv0:=HVR.out.1
      have hv1:=HVR.out.2
      have hsz3 : decide ((w1_.size : Int)≤3) = true:=decide_eq_true (by omega)
      clear hdec hcb hdg hs3
      obtain ⟨v,hv⟩ : ∃ v,valTo w1_ pos = v:=⟨_,rfl⟩
      have HV:=Aside0.mk hv
      rw [hv] at BL hv0 hv1
      clear hv
      have hw32 : wrap32 ((c : Int) - 48) = (c : Int) - 48:=by unfold wrap32;omega
      go_wp2_with (first | ((with_reducible refine gate_dst (N:=38) rfl ?_);refine next_event2 (x:=w1_) (pos:=pos) c 1 rfl rfl rfl BI.out hpx HD.out ?_;intro w5 hw5;have HW5:=Aside0.mk hw5;clear hw5;have n_:=Aside0.mk (iterAt_far (pos':=pos + 1) (x:=w1_) HN2.out BL.out);rw [← HW5.out] at n_;clear BL;have BL:=n_;clear n_;have n_:=Aside0.mk (iterAt_far (pos':=pos + 1) (x:=w1_) HN3.out BG.out);rw [← HW5.out] at n_;clear BG;have BG:=n_;clear n_;have n_:=Aside0.mk (iterAt_below (pos':=pos + 1) (x:=w1_) HB.out HGI.out);rw [← HW5.out] at n_;clear HB;have HB:=n_;clear n_;have n_:=Aside0.mk (iterAt_at (pos':=pos + 1) BI.out);rw [← HW5.out] at n_;clear BI;have BI:=n_;clear n_;clear HW5) | (go_at_call 122;(with_reducible refine (ca_sure.calls true w1_  _ rfl).mono ?_);rintro e w6 ⟨rfl,hd⟩;have hb:=hd.below;clear hd;have n_:=Aside0.mk (below_then HB.out HB.out.size hb);clear HB;have HB:=n_;clear n_;have n_:=Aside0.mk (blk_below BG.out hb);clear BG;have BG:=n_;clear n_;have n_:=Aside0.mk (blk_below BL.out hb);clear BL;have BL:=n_;clear n_;have n_:=Aside0.mk (blk_below BI.out hb);clear BI;have BI:=n_;clear n_;clear hb;(try clear hcl0 hcl1 hfl0 hfl1);have hcl0 : w6.cell? ⟨gl,0,none⟩ = some (.int .i64 v):=(blk_cell BL.out 0).trans rfl;have hcl1 : w6.cell? ⟨gl,1,none⟩ = some (.int .i64 0):=(blk_cell BL.out 1).trans rfl;have hfl0:=blk_frozen BL.out 0;have hfl1:=blk_frozen BL.out 1))
      go_roundw
      case rel=>exact ⟨pos + 1,by omega,HDN,⟨.inl HS3.out⟩,⟨set_iter (Ne.symm HN2.out) BI.out⟩,⟨by have h:=blk_set BL.out 0 (.int .i64 (valTo w1_ (pos + 1)));rw [show valTo w1_ (pos + 1) = 10 * v + ((c : Int) - 48) by rw [valTo,HV.out,HCB.out]] at *;exact h⟩,⟨blk_far BG.out HNE.out _⟩,⟨below_set HB.out HGL.out⟩⟩
      case measure=>rw [iter_pos (set_iter (Ne.symm HN2.out) BI.out),HIP.out];omega
     ·have HR:=Aside0.mk (HNN.out (digB_false hpx (fun h=>hgood ⟨⟨h.1,h.2.1⟩,h.2.2⟩)))
      by_cases hdg : 48≤bt w1_ pos∧bt w1_ pos≤57
      ·obtain ⟨c,hdec,hcb,hc48,hc57⟩:=digit_ex hpx hdg
       have HD:=Aside0.mk hdec
       have hsz3 : decide ((w1_.size : Int)≤3) = false:=decide_eq_false (by intro h;exact hgood ⟨hdg,by omega⟩)
       clear hdec hcb hdg hgood
       go_wp2_with (first | ((with_reducible refine gate_dst (N:=38) rfl ?_);refine next_event2 (x:=w1_) (pos:=pos) c 1 rfl rfl rfl BI.out hpx HD.out ?_;intro w5 hw5;have HW5:=Aside0.mk hw5;clear hw5;have n_:=Aside0.mk (iterAt_far (pos':=pos + 1) (x:=w1_) HN2.out BL.out);rw [← HW5.out] at n_;clear BL;have BL:=n_;clear n_;have n_:=Aside0.mk (iterAt_far (pos':=pos + 1) (x:=w1_) HN3.out BG.out);rw [← HW5.out] at n_;clear BG;have BG:=n_;clear n_;have n_:=Aside0.mk (iterAt_below (pos':=pos + 1) (x:=w1_) HB.out HGI.out);rw [← HW5.out] at n_;clear HB;have HB:=n_;clear n_;have n_:=Aside0.mk (iterAt_at (pos':=pos + 1) BI.out);rw [← HW5.out] at n_;clear BI;have BI:=n_;clear n_;clear HW5) | (go_at_call 122;(with_reducible refine (ca_sure_P.calls false w1_ w1_ _ rfl).mono ?_);rintro e w6 ⟨rfl,hd⟩;have hb:=hd.below;clear hd;have n_:=Aside0.mk (below_then HB.out HB.out.size hb);clear HB;have HB:=n_;clear n_;have n_:=Aside0.mk (blk_below BG.out hb);clear BG;have BG:=n_;clear n_;have n_:=Aside0.mk (blk_below BL.out hb);clear BL;have BL:=n_;clear n_;have n_:=Aside0.mk (blk_below BI.out hb);clear BI;have BI:=n_;clear n_;clear hb))
       refine ⟨rfl,?_,HB.out⟩
       rw [HR.out]
       exact ⟨_,rfl⟩
      ·obtain ⟨c,k,hdec,hcn⟩:=digit_not hpx hdg
       have HD:=Aside0.mk hdec
       clear hdec hdg hgood
       by_cases hc48 : 48≤(c : Int)
       ·have hc57 : ¬ (c : Int)≤57:=fun h=>hcn ⟨hc48,h⟩
        have hcd : decide ((c : Int)≤57) = false:=decide_eq_false hc57
        clear hcn
        go_wp2_with (first | ((with_reducible refine gate_dst (N:=38) rfl ?_);refine next_event2 (x:=w1_) (pos:=pos) c k rfl rfl rfl BI.out hpx HD.out ?_;intro w5 hw5;have HW5:=Aside0.mk hw5;clear hw5;have n_:=Aside0.mk (iterAt_far (pos':=pos + k) (x:=w1_) HN2.out BL.out);rw [← HW5.out] at n_;clear BL;have BL:=n_;clear n_;have n_:=Aside0.mk (iterAt_far (pos':=pos + k) (x:=w1_) HN3.out BG.out);rw [← HW5.out] at n_;clear BG;have BG:=n_;clear n_;have n_:=Aside0.mk (iterAt_below (pos':=pos + k) (x:=w1_) HB.out HGI.out);rw [← HW5.out] at n_;clear HB;have HB:=n_;clear n_;have n_:=Aside0.mk (iterAt_at (pos':=pos + k) BI.out);rw [← HW5.out] at n_;clear BI;have BI:=n_;clear n_;clear HW5) | (go_at_call 122;(with_reducible refine (ca_sure_P.calls false w1_ w1_ _ rfl).mono ?_);rintro e w6 ⟨rfl,hd⟩;have hb:=hd.below;clear hd;have n_:=Aside0.mk (below_then HB.out HB.out.size hb);clear HB;have HB:=n_;clear n_;have n_:=Aside0.mk (blk_below BG.out hb);clear BG;have BG:=n_;clear n_;have n_:=Aside0.mk (blk_below BL.out hb);clear BL;have BL:=n_;clear n_;have n_:=Aside0.mk (blk_below BI.out hb);clear BI;have BI:=n_;clear n_;clear hb))
        refine ⟨rfl,?_,HB.out⟩
        rw [HR.out]
        exact ⟨_,rfl⟩
       ·have hcd : decide (48≤(c : Int)) = false:=decide_eq_false hc48
        clear hcn
        go_wp2_with (first | ((with_reducible refine gate_dst (N:=38) rfl ?_);refine next_event2 (x:=w1_) (pos:=pos) c k rfl rfl rfl BI.out hpx HD.out ?_;intro w5 hw5;have HW5:=Aside0.mk hw5;clear hw5;have n_:=Aside0.mk (iterAt_far (pos':=pos + k) (x:=w1_) HN2.out BL.out);rw [← HW5.out] at n_;clear BL;have BL:=n_;clear n_;have n_:=Aside0.mk (iterAt_far (pos':=pos + k) (x:=w1_) HN3.out BG.out);rw [← HW5.out] at n_;clear BG;have BG:=n_;clear n_;have n_:=Aside0.mk (iterAt_below (pos':=pos + k) (x:=w1_) HB.out HGI.out);rw [← HW5.out] at n_;clear HB;have HB:=n_;clear n_;have n_:=Aside0.mk (iterAt_at (pos':=pos + k) BI.out);rw [← HW5.out] at n_;clear BI;have BI:=n_;clear n_;clear HW5) | (go_at_call 122;(with_reducible refine (ca_sure_P.calls false w1_ w1_ _ rfl).mono ?_);rintro e w6 ⟨rfl,hd⟩;have hb:=hd.below;clear hd;have n_:=Aside0.mk (below_then HB.out HB.out.size hb);clear HB;have HB:=n_;clear n_;have n_:=Aside0.mk (blk_below BG.out hb);clear BG;have BG:=n_;clear n_;have n_:=Aside0.mk (blk_below BL.out hb);clear BL;have BL:=n_;clear n_;have n_:=Aside0.mk (blk_below BI.out hb);clear BI;have BI:=n_;clear n_;clear hb))
        refine ⟨rfl,?_,HB.out⟩
        rw [HR.out]
        exact ⟨_,rfl⟩
    ·obtain rfl : pos = w1_.size:=by omega
     by_cases h0 : w1_.size = 0
     ·have HR:=Aside0.mk (HNN.out (numF_empty h0))
      have hee:=str_nil h0
      clear h0
      (try clear hcl0 hcl1 hfl0 hfl1);have hcl0 : wr.cell? ⟨gl,0,none⟩ = some (.int .i64 (valTo w1_ w1_.size)):=(blk_cell BL.out 0).trans rfl;have hcl1 : wr.cell? ⟨gl,1,none⟩ = some (.int .i64 0):=(blk_cell BL.out 1).trans rfl;have hfl0:=blk_frozen BL.out 0;have hfl1:=blk_frozen BL.out 1
      go_wp2_with (first | ((with_reducible refine gate_dst (N:=38) rfl ?_);refine next_over (x:=w1_) (pos:=w1_.size) rfl rfl rfl BI.out hpx ?_) | (go_at_call 122;(with_reducible refine (ca_sure_P.calls false w1_ w1_ _ rfl).mono ?_);rintro e w7 ⟨rfl,hd⟩;have hb:=hd.below;clear hd;have n_:=Aside0.mk (below_then HB.out HB.out.size hb);clear HB;have HB:=n_;clear n_;have n_:=Aside0.mk (blk_below BG.out hb);clear BG;have BG:=n_;clear n_;have n_:=Aside0.mk (blk_below BL.out hb);clear BL;have BL:=n_;clear n_;have n_:=Aside0.mk (blk_below BI.out hb);clear BI;have BI:=n_;clear n_;clear hb))
      refine ⟨rfl,?_,HB.out⟩
      rw [HR.out]
      exact ⟨_,rfl⟩
     ·have hne:=str_ne h0
      have HH0:=Aside0.mk h0
      have HS3:=Aside0.mk (show w1_.size≤3 from HD3.out.elim id (fun e=>absurd e h0))
      have HVR:=Aside0.mk (valTo_range HD0.out HS3.out)
      obtain ⟨v,hv⟩ : ∃ v,valTo w1_ w1_.size = v:=⟨_,rfl⟩
      have HV:=Aside0.mk hv
      rw [hv] at BL HVR
      clear hv h0
      (try clear hcl0 hcl1 hfl0 hfl1);have hcl0 : wr.cell? ⟨gl,0,none⟩ = some (.int .i64 v):=(blk_cell BL.out 0).trans rfl;have hcl1 : wr.cell? ⟨gl,1,none⟩ = some (.int .i64 0):=(blk_cell BL.out 1).trans rfl;have hfl0:=blk_frozen BL.out 0;have hfl1:=blk_frozen BL.out 1
      by_cases hit : itB v = w1_
      ·have hq9:=bl_true hit
       rw [it_list] at hq9
       have HNF:=Aside0.mk (show numF w1_ = some v by have h:=numF_some HH0.out HD0.out HS3.out (by rw [HV.out];exact hit);rw [HV.out] at h;exact h)
       clear hit
       go_wp2_with (first | ((with_reducible refine gate_dst (N:=38) rfl ?_);refine next_over (x:=w1_) (pos:=w1_.size) rfl rfl rfl BI.out hpx ?_) | (go_at_call 119;(with_reducible refine (itoa_calls v (by have:=HVR.out;omega) (by have:=HVR.out;omega) _ (HG.out.below HB.out)).mono ?_);rintro e w6 ⟨rfl,hb⟩;have n_:=Aside0.mk (below_then HB.out HB.out.size hb);clear HB;have HB:=n_;clear n_;have n_:=Aside0.mk (blk_below BG.out hb);clear BG;have BG:=n_;clear n_;have n_:=Aside0.mk (blk_below BL.out hb);clear BL;have BL:=n_;clear n_;have n_:=Aside0.mk (blk_below BI.out hb);clear BI;have BI:=n_;clear n_;clear hb) | (go_at_call 122;(with_reducible refine (ca_sure.calls true w1_  _ rfl).mono ?_);rintro e w7 ⟨rfl,hd⟩;have hb:=hd.below;clear hd;have n_:=Aside0.mk (below_then HB.out HB.out.size hb);clear HB;have HB:=n_;clear n_;have n_:=Aside0.mk (blk_below BG.out hb);clear BG;have BG:=n_;clear n_;have n_:=Aside0.mk (blk_below BL.out hb);clear BL;have BL:=n_;clear n_;have n_:=Aside0.mk (blk_below BI.out hb);clear BI;have BI:=n_;clear n_;clear hb))
       go_roundw
       case rel=>exact ⟨1,v,0,by go_num,⟨.inr (.inl ⟨rfl,HNF.out,rfl⟩)⟩,BL,BG,HB⟩
       case measure=>first | (simp [intOf];done) | trivial | omega
      ·have hq9:=bl_false hit
       rw [it_list] at hq9
       have HR:=Aside0.mk (HNN.out (numF_ne (by rw [HV.out];exact hit)))
       clear hit
       go_wp2_with (first | ((with_reducible refine gate_dst (N:=38) rfl ?_);refine next_over (x:=w1_) (pos:=w1_.size) rfl rfl rfl BI.out hpx ?_) | (go_at_call 119;(with_reducible refine (itoa_calls v (by have:=HVR.out;omega) (by have:=HVR.out;omega) _ (HG.out.below HB.out)).mono ?_);rintro e w6 ⟨rfl,hb⟩;have n_:=Aside0.mk (below_then HB.out HB.out.size hb);clear HB;have HB:=n_;clear n_;have n_:=Aside0.mk (blk_below BG.out hb);clear BG;have BG:=n_;clear n_;have n_:=Aside0.mk (blk_below BL.out hb);clear BL;have BL:=n_;clear n_;have n_:=Aside0.mk (blk_below BI.out hb);clear BI;have BI:=n_;clear n_;clear hb) | (go_at_call 122;(with_reducible refine (ca_sure_P.calls false w1_ w1_ _ rfl).mono ?_);rintro e w7 ⟨rfl,hd⟩;have hb:=hd.below;clear hd;have n_:=Aside0.mk (below_then HB.out HB.out.size hb);clear HB;have HB:=n_;clear n_;have n_:=Aside0.mk (blk_below BG.out hb);clear BG;have BG:=n_;clear n_;have n_:=Aside0.mk (blk_below BL.out hb);clear BL;have BL:=n_;clear n_;have n_:=Aside0.mk (blk_below BI.out hb);clear BI;have BI:=n_;clear n_;clear hb))
       refine ⟨rfl,?_,HB.out⟩
       rw [HR.out]
       exact ⟨_,rfl⟩
  ·skip
   have HNN:=Aside0.mk (show numF w2_ = none→toldF line wd = none by intro hn;rw [HF2.out];rw [hn1,hn];rfl)
   have HN1:=Aside0.mk hn1
   clear hn1
   have hcg0 : W1.cell? ⟨g,1,none⟩ = some (.string w1_):=(blk_cell BG.out 1).trans rfl
   have hcg1 : W1.cell? ⟨g,2,none⟩ = some (.string w2_):=(blk_cell BG.out 2).trans rfl
   go_wp2_with ((with_reducible refine gate_dst (N:=37) rfl ?_);refine range_event (x:=w2_) rfl rfl rfl hu ?_;intro gi hgi w5 hit hb;have HGI:=Aside0.mk (show w.heap.size≤gi by have:=HB.out.size;omega);clear hgi;have BI:=Aside0.mk hit;clear hit;have n_:=Aside0.mk (below_then HB.out HB.out.size hb);clear HB;have HB:=n_;clear n_;have n_:=Aside0.mk (blk_below BG.out hb);clear BG;have BG:=n_;clear n_;have n_:=Aside0.mk (blk_below BL.out hb);clear BL;have BL:=n_;clear n_;clear hb)
   simp only [Act.put,List.setIfInBounds_toArray,List.set_cons_zero,List.set_cons_succ]
   clear hcg0 hcg1
   have HN2:=Aside0.mk (show gl ≠ gi by intro e;have h1:=BL.out;have h2:=BI.out;rw [e,h2] at h1;cases h1)
   have HN3:=Aside0.mk (show g ≠ gi by intro e;have h1:=BG.out;have h2:=BI.out;rw [e,h2] at h1;cases h1)
   go_loopw [38] (fun v38 W'=>∃ pos : Nat,pos≤w2_.size∧Aside0 (∀ q : Nat,q < pos→48≤bt w2_ q∧bt w2_ q≤57)∧Aside0 (w2_.size≤3∨pos = 0)∧Aside0 (W'.heap[gi]? = some (.stringIter w2_ pos))∧Aside0 (W'.heap[gl]? = some (.cells #[.int .i64 l0,.int .i64 (valTo w2_ pos)] 161 (0,0)))∧Aside0 (W'.heap[g]? = some (.cells #[.string w0,.string w1_,.string w2_] 9 (0,0)))∧Aside0 (Below w.heap.size w W')) (fun _ W'=>w2_.size - W'.iterPos gi)
   case atStart=>exact ⟨0,Nat.zero_le _,⟨fun q h=>absurd h (Nat.not_lt_zero q)⟩,⟨.inr rfl⟩,BI,BL,BG,HB⟩
   case round =>
    clear BI BL BG HB
    obtain ⟨pos,hple,HD0,HD3,BI,BL,BG,HB⟩:=hrel
    have HIP:=Aside0.mk (iter_pos BI.out)
    by_cases hpx : pos < w2_.size
    ·by_cases hgood : (48≤bt w2_ pos∧bt w2_ pos≤57)∧w2_.size≤3
     ·obtain ⟨hdg,hs3⟩:=hgood
      obtain ⟨c,hdec,hcb,hc48,hc57⟩:=digit_ex hpx hdg
      have HD:=Aside0.mk hdec
      have HCB:=Aside0.mk hcb
      have HDN:=Aside0.mk (digs_snoc HD0.out hdg)
      have HVR:=Aside0.mk (valTo_range HD0.out (by omega))
      have HS3:=Aside0.mk hs3
      have hv0:=HVR.out.1
      have hv1:=HVR.out.2
      have hsz3 : decide ((w2_.size : Int)≤3) = true:=decide_eq_true (by omega)
      clear hdec hcb hdg hs3
      obtain ⟨v,hv⟩ : ∃ v,valTo w2_ pos = v:=⟨_,rfl⟩
      have HV:=Aside0.mk hv
      rw [hv] at BL hv0 hv1
      clear hv
      have hw32 : wrap32 ((c : Int) - 48) = (c : Int) - 48:=by unfold wrap32;omega
      go_wp2_with (first | ((with_reducible refine gate_dst (N:=38) rfl ?_);refine next_event2 (x:=w2_) (pos:=pos) c 1 rfl rfl rfl BI.out hpx HD.out ?_;intro w5 hw5;have HW5:=Aside0.mk hw5;clear hw5;have n_:=Aside0.mk (iterAt_far (pos':=pos + 1) (x:=w2_) HN2.out BL.out);rw [← HW5.out] at n_;clear BL;have BL:=n_;clear n_;have n_:=Aside0.mk (iterAt_far (pos':=pos + 1) (x:=w2_) HN3.out BG.out);rw [← HW5.out] at n_;clear BG;have BG:=n_;clear n_;have n_:=Aside0.mk (iterAt_below (pos':=pos + 1) (x:=w2_) HB.out HGI.out);rw [← HW5.out] at n_;clear HB;have HB:=n_;clear n_;have n_:=Aside0.mk (iterAt_at (pos':=pos + 1) BI.out);rw [← HW5.out] at n_;clear BI;have BI:=n_;clear n_;clear HW5) | (go_at_call 122;(with_reducible refine (ca_sure.calls true w2_  _ rfl).mono ?_);rintro e w6 ⟨rfl,hd⟩;have hb:=hd.below;clear hd;have n_:=Aside0.mk (below_then HB.out HB.out.size hb);clear HB;have HB:=n_;clear n_;have n_:=Aside0.mk (blk_below BG.out hb);clear BG;have BG:=n_;clear n_;have n_:=Aside0.mk (blk_below BL.out hb);clear BL;have BL:=n_;clear n_;have n_:=Aside0.mk (blk_below BI.out hb);clear BI;have BI:=n_;clear n_;clear hb;(try clear hcl0 hcl1 hfl0 hfl1);have hcl0 : w6.cell? ⟨gl,0,none⟩ = some (.int .i64 l0):=(blk_cell BL.out 0).trans rfl;have hcl1 : w6.cell? ⟨gl,1,none⟩ = some (.int .i64 v):=(blk_cell BL.out 1).trans rfl;have hfl0:=blk_frozen BL.out 0;have hfl1:=blk_frozen BL.out 1))
      go_roundw
      case rel=>exact ⟨pos + 1,by omega,HDN,⟨.inl HS3.out⟩,⟨set_iter (Ne.symm HN2.out) BI.out⟩,⟨by have h:=blk_set BL.out 1 (.int .i64 (valTo w2_ (pos + 1)));rw [show valTo w2_ (pos + 1) = 10 * v + ((c : Int) - 48) by rw [valTo,HV.out,HCB.out]] at *;exact h⟩,⟨blk_far BG.out HNE.out _⟩,⟨below_set HB.out HGL.out⟩⟩
      case measure=>rw [iter_pos (set_iter (Ne.symm HN2.out) BI.out),HIP.out];omega
     ·have HR:=Aside0.mk (HNN.out (digB_false hpx (fun h=>hgood ⟨⟨h.1,h.2.1⟩,h.2.2⟩)))
      by_cases hdg : 48≤bt w2_ pos∧bt w2_ pos≤57
      ·obtain ⟨c,hdec,hcb,hc48,hc57⟩:=digit_ex hpx hdg
       have HD:=Aside0.mk hdec
       have hsz3 : decide ((w2_.size : Int)≤3) = false:=decide_eq_false (by intro h;exact hgood ⟨hdg,by omega⟩)
       clear hdec hcb hdg hgood
       go_wp2_with (first | ((with_reducible refine gate_dst (N:=38) rfl ?_);refine next_event2 (x:=w2_) (pos:=pos) c 1 rfl rfl rfl BI.out hpx HD.out ?_;intro w5 hw5;have HW5:=Aside0.mk hw5;clear hw5;have n_:=Aside0.mk (iterAt_far (pos':=pos + 1) (x:=w2_) HN2.out BL.out);rw [← HW5.out] at n_;clear BL;have BL:=n_;clear n_;have n_:=Aside0.mk (iterAt_far (pos':=pos + 1) (x:=w2_) HN3.out BG.out);rw [← HW5.out] at n_;clear BG;have BG:=n_;clear n_;have n_:=Aside0.mk (iterAt_below (pos':=pos + 1) (x:=w2_) HB.out HGI.out);rw [← HW5.out] at n_;clear HB;have HB:=n_;clear n_;have n_:=Aside0.mk (iterAt_at (pos':=pos + 1) BI.out);rw [← HW5.out] at n_;clear BI;have BI:=n_;clear n_;clear HW5) | (go_at_call 122;(with_reducible refine (ca_sure_P.calls false w2_ w2_ _ rfl).mono ?_);rintro e w6 ⟨rfl,hd⟩;have hb:=hd.below;clear hd;have n_:=Aside0.mk (below_then HB.out HB.out.size hb);clear HB;have HB:=n_;clear n_;have n_:=Aside0.mk (blk_below BG.out hb);clear BG;have BG:=n_;clear n_;have n_:=Aside0.mk (blk_below BL.out hb);clear BL;have BL:=n_;clear n_;have n_:=Aside0.mk (blk_below BI.out hb);clear BI;have BI:=n_;clear n_;clear hb))
       refine ⟨rfl,?_,HB.out⟩
       rw [HR.out]
       exact ⟨_,rfl⟩
      ·obtain ⟨c,k,hdec,hcn⟩:=digit_not hpx hdg
       have HD:=Aside0.mk hdec
       clear hdec hdg hgood
       by_cases hc48 : 48≤(c : Int)
       ·have hc57 : ¬ (c : Int)≤57:=fun h=>hcn ⟨hc48,h⟩
        have hcd : decide ((c : Int)≤57) = false:=decide_eq_false hc57
        clear hcn
        go_wp2_with (first | ((with_reducible refine gate_dst (N:=38) rfl ?_);refine next_event2 (x:=w2_) (pos:=pos) c k rfl rfl rfl BI.out hpx HD.out ?_;intro w5 hw5;have HW5:=Aside0.mk hw5;clear hw5;have n_:=Aside0.mk (iterAt_far (pos':=pos + k) (x:=w2_) HN2.out BL.out);rw [← HW5.out] at n_;clear BL;have BL:=n_;clear n_;have n_:=Aside0.mk (iterAt_far (pos':=pos + k) (x:=w2_) HN3.out BG.out);rw [← HW5.out] at n_;clear BG;have BG:=n_;clear n_;have n_:=Aside0.mk (iterAt_below (pos':=pos + k) (x:=w2_) HB.out HGI.out);rw [← HW5.out] at n_;clear HB;have HB:=n_;clear n_;have n_:=Aside0.mk (iterAt_at (pos':=pos + k) BI.out);rw [← HW5.out] at n_;clear BI;have BI:=n_;clear n_;clear HW5) | (go_at_call 122;(with_reducible refine (ca_sure_P.calls false w2_ w2_ _ rfl).mono ?_);rintro e w6 ⟨rfl,hd⟩;have hb:=hd.below;clear hd;have n_:=Aside0.mk (below_then HB.out HB.out.size hb);clear HB;have HB:=n_;clear n_;have n_:=Aside0.mk (blk_below BG.out hb);clear BG;have BG:=n_;clear n_;have n_:=Aside0.mk (blk_below BL.out hb);clear BL;have BL:=n_;clear n_;have n_:=Aside0.mk (blk_below BI.out hb);clear BI;have BI:=n_;clear n_;clear hb))
        refine ⟨rfl,?_,HB.out⟩
        rw [HR.out]
        exact ⟨_,rfl⟩
       ·have hcd : decide (48≤(c : Int)) = false:=decide_eq_false hc48
        clear hcn
        go_wp2_with (first | ((with_reducible refine gate_dst (N:=38) rfl ?_);refine next_event2 (x:=w2_) (pos:=pos) c k rfl rfl rfl BI.out hpx HD.out ?_;intro w5 hw5;have HW5:=Aside0.mk hw5;clear hw5;have n_:=Aside0.mk (iterAt_far (pos':=pos + k) (x:=w2_) HN2.out BL.out);rw [← HW5.out] at n_;clear BL;have BL:=n_;clear n_;have n_:=Aside0.mk (iterAt_far (pos':=pos + k) (x:=w2_) HN3.out BG.out);rw [← HW5.out] at n_;clear BG;have BG:=n_;clear n_;have n_:=Aside0.mk (iterAt_below (pos':=pos + k) (x:=w2_) HB.out HGI.out);rw [← HW5.out] at n_;clear HB;have HB:=n_;clear n_;have n_:=Aside0.mk (iterAt_at (pos':=pos + k) BI.out);rw [← HW5.out] at n_;clear BI;have BI:=n_;clear n_;clear HW5) | (go_at_call 122;(with_reducible refine (ca_sure_P.calls false w2_ w2_ _ rfl).mono ?_);rintro e w6 ⟨rfl,hd⟩;have hb:=hd.below;clear hd;have n_:=Aside0.mk (below_then HB.out HB.out.size hb);clear HB;have HB:=n_;clear n_;have n_:=Aside0.mk (blk_below BG.out hb);clear BG;have BG:=n_;clear n_;have n_:=Aside0.mk (blk_below BL.out hb);clear BL;have BL:=n_;clear n_;have n_:=Aside0.mk (blk_below BI.out hb);clear BI;have BI:=n_;clear n_;clear hb))
        refine ⟨rfl,?_,HB.out⟩
        rw [HR.out]
        exact ⟨_,rfl⟩
    ·obtain rfl : pos = w2_.size:=by omega
     by_cases h0 : w2_.size = 0
     ·have HR:=Aside0.mk (HNN.out (numF_empty h0))
      have hee:=str_nil h0
      clear h0
      (try clear hcl0 hcl1 hfl0 hfl1);have hcl0 : wr.cell? ⟨gl,0,none⟩ = some (.int .i64 l0):=(blk_cell BL.out 0).trans rfl;have hcl1 : wr.cell? ⟨gl,1,none⟩ = some (.int .i64 (valTo w2_ w2_.size)):=(blk_cell BL.out 1).trans rfl;have hfl0:=blk_frozen BL.out 0;have hfl1:=blk_frozen BL.out 1
      go_wp2_with (first | ((with_reducible refine gate_dst (N:=38) rfl ?_);refine next_over (x:=w2_) (pos:=w2_.size) rfl rfl rfl BI.out hpx ?_) | (go_at_call 122;(with_reducible refine (ca_sure_P.calls false w2_ w2_ _ rfl).mono ?_);rintro e w7 ⟨rfl,hd⟩;have hb:=hd.below;clear hd;have n_:=Aside0.mk (below_then HB.out HB.out.size hb);clear HB;have HB:=n_;clear n_;have n_:=Aside0.mk (blk_below BG.out hb);clear BG;have BG:=n_;clear n_;have n_:=Aside0.mk (blk_below BL.out hb);clear BL;have BL:=n_;clear n_;have n_:=Aside0.mk (blk_below BI.out hb);clear BI;have BI:=n_;clear n_;clear hb))
      refine ⟨rfl,?_,HB.out⟩
      rw [HR.out]
      exact ⟨_,rfl⟩
     ·have hne:=str_ne h0
      have HH0:=Aside0.mk h0
      have HS3:=Aside0.mk (show w2_.size≤3 from HD3.out.elim id (fun e=>absurd e h0))
      have HVR:=Aside0.mk (valTo_range HD0.out HS3.out)
      obtain ⟨v,hv⟩ : ∃ v,valTo w2_ w2_.size = v:=⟨_,rfl⟩
      have HV:=Aside0.mk hv
      rw [hv] at BL HVR
      clear hv h0
      (try clear hcl0 hcl1 hfl0 hfl1);have hcl0 : wr.cell? ⟨gl,0,none⟩ = some (.int .i64 l0):=(blk_cell BL.out 0).trans rfl;have hcl1 : wr.cell? ⟨gl,1,none⟩ = some (.int .i64 v):=(blk_cell BL.out 1).trans rfl;have hfl0:=blk_frozen BL.out 0;have hfl1:=blk_frozen BL.out 1
      by_cases hit : itB v = w2_
      ·have hq9:=bl_true hit
       rw [it_list] at hq9
       have HNF:=Aside0.mk (show numF w2_ = some v by have h:=numF_some HH0.out HD0.out HS3.out (by rw [HV.out];exact hit);rw [HV.out] at h;exact h)
       clear hit
       go_wp2_with (first | ((with_reducible refine gate_dst (N:=38) rfl ?_);refine next_over (x:=w2_) (pos:=w2_.size) rfl rfl rfl BI.out hpx ?_) | (go_at_call 119;(with_reducible refine (itoa_calls v (by have:=HVR.out;omega) (by have:=HVR.out;omega) _ (HG.out.below HB.out)).mono ?_);rintro e w6 ⟨rfl,hb⟩;have n_:=Aside0.mk (below_then HB.out HB.out.size hb);clear HB;have HB:=n_;clear n_;have n_:=Aside0.mk (blk_below BG.out hb);clear BG;have BG:=n_;clear n_;have n_:=Aside0.mk (blk_below BL.out hb);clear BL;have BL:=n_;clear n_;have n_:=Aside0.mk (blk_below BI.out hb);clear BI;have BI:=n_;clear n_;clear hb) | (go_at_call 122;(with_reducible refine (ca_sure.calls true w2_  _ rfl).mono ?_);rintro e w7 ⟨rfl,hd⟩;have hb:=hd.below;clear hd;have n_:=Aside0.mk (below_then HB.out HB.out.size hb);clear HB;have HB:=n_;clear n_;have n_:=Aside0.mk (blk_below BG.out hb);clear BG;have BG:=n_;clear n_;have n_:=Aside0.mk (blk_below BL.out hb);clear BL;have BL:=n_;clear n_;have n_:=Aside0.mk (blk_below BI.out hb);clear BI;have BI:=n_;clear n_;clear hb))
       go_roundw
       case rel=>exact ⟨2,l0,v,by go_num,⟨.inr (.inr ⟨rfl,HN1.out,HNF.out⟩)⟩,BL,BG,HB⟩
       case measure=>first | (simp [intOf];done) | trivial | omega
      ·have hq9:=bl_false hit
       rw [it_list] at hq9
       have HR:=Aside0.mk (HNN.out (numF_ne (by rw [HV.out];exact hit)))
       clear hit
       go_wp2_with (first | ((with_reducible refine gate_dst (N:=38) rfl ?_);refine next_over (x:=w2_) (pos:=w2_.size) rfl rfl rfl BI.out hpx ?_) | (go_at_call 119;(with_reducible refine (itoa_calls v (by have:=HVR.out;omega) (by have:=HVR.out;omega) _ (HG.out.below HB.out)).mono ?_);rintro e w6 ⟨rfl,hb⟩;have n_:=Aside0.mk (below_then HB.out HB.out.size hb);clear HB;have HB:=n_;clear n_;have n_:=Aside0.mk (blk_below BG.out hb);clear BG;have BG:=n_;clear n_;have n_:=Aside0.mk (blk_below BL.out hb);clear BL;have BL:=n_;clear n_;have n_:=Aside0.mk (blk_below BI.out hb);clear BI;have BI:=n_;clear n_;clear hb) | (go_at_call 122;(with_reducible refine (ca_sure_P.calls false w2_ w2_ _ rfl).mono ?_);rintro e w7 ⟨rfl,hd⟩;have hb:=hd.below;clear hd;have n_:=Aside0.mk (below_then HB.out HB.out.size hb);clear HB;have HB:=n_;clear n_;have n_:=Aside0.mk (blk_below BG.out hb);clear BG;have BG:=n_;clear n_;have n_:=Aside0.mk (blk_below BL.out hb);clear BL;have BL:=n_;clear n_;have n_:=Aside0.mk (blk_below BI.out hb);clear BI;have BI:=n_;clear n_;clear hb))
       refine ⟨rfl,?_,HB.out⟩
       rw [HR.out]
       exact ⟨_,rfl⟩
  ·have HR:=Aside0.mk (show toldF line wd = some (l0,l1) by rw [HF2.out,hn1,hn2];rfl)
   clear hn1 hn2
   (try clear hcl0 hcl1 hfl0 hfl1);have hcl0 : W1.cell? ⟨gl,0,none⟩ = some (.int .i64 l0):=(blk_cell BL.out 0).trans rfl;have hcl1 : W1.cell? ⟨gl,1,none⟩ = some (.int .i64 l1):=(blk_cell BL.out 1).trans rfl;have hfl0:=blk_frozen BL.out 0;have hfl1:=blk_frozen BL.out 1
   go_wp2
   go_quiet (fail)
   go_wp2
   go_ret2
   refine ⟨?_,by repeat (first | exact HB.out | apply below_drew1 | apply pw_below_drewN)⟩
   rw [HR.out]
   rfl
theorem infoC_int : (Tryz.prog.info? 3).map (fun i=>(i.zero,i.size,i.bytes)) = some (some (.int .i64 0),1,8):=by kernel_rfl
def sl_Clone_int.f (l0 : List Int) : Option (List Int):=if l0.length < 17592186044416 then some l0 else none
theorem sl_Clone_int.calls (A0 : Option Addr) (c0 : Nat) (l0 : List Int) (r : List Int) (w : World) (hr0 : Kd.C (Kd.int .i64) w A0 l0.length l0) (hc0 : l0.length≤c0) (h : sl_Clone_int.f l0 = some r) :
 Calls Tryz.prog 108 #[.slice A0 l0.length c0] w fun e w'=>∃ v0_ : Value,e = .returned v0_∧Kd.R (Kd.int .i64) 3 w' w.heap.size (fun _=>True) v0_ r∧Below w.heap.size w w':=by
 unfold sl_Clone_int.f at h
 by_cases hl : l0.length < 17592186044416
 case neg =>
  rw [if_neg hl] at h;cases h
 rw [if_pos hl] at h
 obtain rfl:=Option.some.inj h
 clear h
 have hq : ∀ (W : World) (a : Option Addr) (n c : Nat),(binOp .eql 28 (.slice a n c) (.slice none 0 0)).run Tryz.prog W = .ok (.bool a.isNone) W:=fun W a n c=>Lib.run_eql_slice_nil W 28 3 a n c 0 0 Tryz.underlying28
 cases A0 with
 | none =>
  have hn : l0 = []:=by
   rcases Nat.eq_zero_or_pos l0.length with h0 | h0
   ·exact List.eq_nil_of_length_eq_zero h0
   ·obtain ⟨ad,e,_⟩:=hr0.2.2 h0;cases e
  subst hn
  clear hr0 hc0 hl
  go_enter Tryz.func108,Tryz.ntmps108
  go_wp2
  go_ret
  exact ⟨_,rfl,Kd.R_nil _ _ _ _ _,Below.refl _ _⟩
 | some ad =>
  have HR:=am (kC hr0 (below_alloc (Below.refl _ w) (.cells #[] 3)))
  have HL:=am hl
  clear hr0 hc0 hl
  have HO:=am (show Kd.R (Kd.int .i64) 3 (w.alloc (.cells #[] 3)) w.heap.size (fun _=>True) (.slice (some ⟨w.heap.size,0,none⟩) 0 0) [] from ⟨fun _ _=>trivial,[],by simpa using World.ownsRow_lit (base:=w.heap.size) (e:=3) (size:=((Kd.int .i64)).sz) w #[] 0 (Nat.le_refl _) (by simp [maxLen]) (by simp),Reps.none _ _⟩)
  go_enter Tryz.func108,Tryz.ntmps108
  go_wp2_with ((with_reducible refine gate_builtin (b:=.append) (xs:=#[.tmp 5,.tmp 6]) rfl ?_);at_builtin;refine Kd.R_append_rows (Kd.int .i64) (Rr:=((Kd.int .i64)).K (w.alloc (.cells #[] 3))) (w0:=w) w.heap.size rfl (.tmp 5) (.tmp 6) 28 3 (.int .i64 0) 8 rfl Tryz.underlying28 infoC_int rfl (by decide) (by omega) (.slice (some ⟨w.heap.size,0,none⟩) 0 0) [] l0 (some ad) l0.length c0 (fun _=>True) (fun _=>False) rfl rfl HO.out HR.out (fun _ _ hk=>hk) (fun _ h=>h.elim) (fun _ _=>trivial) (below_alloc (Below.refl _ w) _) (by simp) (by have:=HL.out;simp;omega) ?_;intro v1 w1 ho hb hg hat)
  go_ret
  exact ⟨v1,rfl,ho,hb⟩
theorem infoC_R : (Tryz.prog.info? 126).map (fun i=>(i.zero,i.size,i.bytes)) = some (some (.agg #[.int .i64 0,.int .i64 0,.int .i64 0]),3,24):=by kernel_rfl
def sl_Clone_R.f (l0 : List S126) : Option (List S126):=if l0.length < 5864062014805 then some l0 else none
theorem sl_Clone_R.calls (A0 : Option Addr) (c0 : Nat) (l0 : List S126) (r : List S126) (w : World) (hr0 : Kd.C k126 w A0 l0.length l0) (hc0 : l0.length≤c0) (h : sl_Clone_R.f l0 = some r) :
 Calls Tryz.prog 123 #[.slice A0 l0.length c0] w fun e w'=>∃ v0_ : Value,e = .returned v0_∧Kd.R k126 126 w' w.heap.size (fun _=>True) v0_ r∧Below w.heap.size w w':=by
 unfold sl_Clone_R.f at h
 by_cases hl : l0.length < 5864062014805
 case neg =>
  rw [if_neg hl] at h;cases h
 rw [if_pos hl] at h
 obtain rfl:=Option.some.inj h
 clear h
 have hq : ∀ (W : World) (a : Option Addr) (n c : Nat),(binOp .eql 22 (.slice a n c) (.slice none 0 0)).run Tryz.prog W = .ok (.bool a.isNone) W:=fun W a n c=>Lib.run_eql_slice_nil W 22 126 a n c 0 0 Tryz.underlying22
 cases A0 with
 | none =>
  have hn : l0 = []:=by
   rcases Nat.eq_zero_or_pos l0.length with h0 | h0
   ·exact List.eq_nil_of_length_eq_zero h0
   ·obtain ⟨ad,e,_⟩:=hr0.2.2 h0;cases e
  subst hn
  clear hr0 hc0 hl
  go_enter Tryz.func123,Tryz.ntmps123
  go_wp2
  go_ret
  exact ⟨_,rfl,Kd.R_nil _ _ _ _ _,Below.refl _ _⟩
 | some ad =>
  have HR:=am (kC hr0 (below_alloc (Below.refl _ w) (.cells #[] 126)))
  have HL:=am hl
  clear hr0 hc0 hl
  have HO:=am (show Kd.R k126 126 (w.alloc (.cells #[] 126)) w.heap.size (fun _=>True) (.slice (some ⟨w.heap.size,0,none⟩) 0 0) [] from ⟨fun _ _=>trivial,[],by simpa using World.ownsRow_lit (base:=w.heap.size) (e:=126) (size:=(k126).sz) w #[] 0 (Nat.le_refl _) (by simp [maxLen]) (by simp),Reps.none _ _⟩)
  go_enter Tryz.func123,Tryz.ntmps123
  go_wp2_with ((with_reducible refine gate_builtin (b:=.append) (xs:=#[.tmp 5,.tmp 6]) rfl ?_);at_builtin;refine Kd.R_append_rows k126 (Rr:=(k126).K (w.alloc (.cells #[] 126))) (w0:=w) w.heap.size rfl (.tmp 5) (.tmp 6) 22 126 (.agg #[.int .i64 0,.int .i64 0,.int .i64 0]) 24 rfl Tryz.underlying22 infoC_R rfl (by decide) (by omega) (.slice (some ⟨w.heap.size,0,none⟩) 0 0) [] l0 (some ad) l0.length c0 (fun _=>True) (fun _=>False) rfl rfl HO.out HR.out (fun x cs hk=>by rw [k126_open hk];exact k126_mkM _ _ _ x) (fun _ h=>h.elim) (fun _ _=>trivial) (below_alloc (Below.refl _ w) _) (by simp) (by have:=HL.out;simp;omega) ?_;intro v1 w1 ho hb hg hat)
  go_ret
  exact ⟨v1,rfl,ho,hb⟩
theorem told_some {line wd : ByteArray} {kind a b : Int} (hki : ∀ W,(Instr.index 158 (.agg #[.string castleB,.string nozzleB]) (.int .i64 kind)).run Tryz.prog W = .ok (.string wd) W) (w : World) (hs : line.size < 4294967281) (hg : GV w) (h : toldF line wd = some (a,b)) :
 Calls Tryz.prog 124 #[.string line,.int .i64 kind] w fun e w'=>e = .returned (.tuple #[.int .i64 a,.int .i64 b])∧Below w.heap.size w w':=
 (ca_told.calls line wd kind hki w hs hg).mono fun e w' hp=>by rw [h] at hp;exact hp
theorem told_none {line wd : ByteArray} {kind : Int} (hki : ∀ W,(Instr.index 158 (.agg #[.string castleB,.string nozzleB]) (.int .i64 kind)).run Tryz.prog W = .ok (.string wd) W) (w : World) (hs : line.size < 4294967281) (hg : GV w) (h : toldF line wd = none) :
 Calls Tryz.prog 124 #[.string line,.int .i64 kind] w fun e w'=>∃ s,e = .panicked [{ v:=.iface 167 (.agg #[.string s]),recovered:=false }]∧Below w.heap.size w w':=
 (ca_told.calls line wd kind hki w hs hg).mono fun e w' hp=>by rw [h] at hp;obtain ⟨⟨s,h1⟩,h2⟩:=hp;exact ⟨s,h1,h2⟩
def rowsGo : List ByteArray→Option (List S48)
 | []=>some []
 | x :: xs=>(toldF x nozzleB).bind fun q=>(rowsGo xs).bind fun l=>some (⟨q.1,q.2⟩ :: l)
def parsedW (s : ByteArray) (ws : List ByteArray) : Option (Int × Int × List S48):=
 if 3≤ws.length then (toldF (ws.getD 0 ByteArray.empty) castleB).bind fun h=>(rowsGo ((ws.drop 1).take (ws.length - 3))).bind fun l=>if ca_text.f h.1 h.2 l = s then some (h.1,h.2,l) else none else none
def parsedF (s : ByteArray) : Option (Int × Int × List S48):=parsedW s (splitF s nlB)
def ParsedPost (r : Option (Int × Int × List S48)) (l0 : List S126) (d : Int) (w : World) (e : Ending) (w' : World) : Prop:=(match r with
 | some x=>∃ A1 c1 A2 c2,e = .returned (.agg #[.slice A1 l0.length c1,.int .i64 d,.slice A2 x.2.2.length c2,.int .i64 x.1,.int .i64 x.2.1])∧Kd.R k126 126 w' w.heap.size (fun _=>True) (.slice A1 l0.length c1) l0∧Kd.R k48 48 w' w.heap.size (fun _=>True) (.slice A2 x.2.2.length c2) x.2.2
 | none=>∃ s,e = .panicked [{ v:=.iface 167 (.agg #[.string s]),recovered:=false }])∧Below w.heap.size w w'
theorem toldF_range {line wd : ByteArray} {a b : Int} (h : toldF line wd = some (a,b)) : 0≤a∧a≤999∧0≤b∧b≤999:=by
 have hn : ∀ {x : ByteArray} {v : Int},numF x = some v→0≤v∧v≤999:=by
  intro x v hx
  unfold numF at hx
  split at hx
  ·rename_i hc
   obtain rfl:=Option.some.inj hx
   have hd:=hc.2.1
   unfold digB at hd
   simp only [Bool.and_eq_true,decide_eq_true_eq,List.all_eq_true,List.mem_range] at hd
   exact valTo_range hd.2 hd.1
  ·cases hx
 unfold toldF toldW at h
 split at h
 ·split at h
  ·obtain ⟨a1,h1,h⟩:=obm h
   obtain ⟨b1,h2,h⟩:=obm h
   obtain ⟨rfl,rfl⟩ : a1 = a∧b1 = b:=by simpa using h
   have e1:=hn h1;have e2:=hn h2
   omega
  ·cases h
 ·cases h
theorem splitF_mem_size {s sep x : ByteArray} (h : x ∈ splitF s sep) : x.size≤s.size:=by
 unfold splitF at h
 revert h
 generalize Lib.countB s sep = k
 induction k generalizing s with
 | zero=>intro h;rw [List.mem_singleton.1 h];exact Nat.le_refl _
 | succ k ih =>
  intro h
  simp only [Lib.splitB] at h
  split at h
  ·rw [List.mem_singleton.1 h];exact Nat.le_refl _
  ·rcases List.mem_cons.1 h with rfl | h
   ·simp [ByteArray.size_extract];omega
   ·have:=ih h
    simp [ByteArray.size_extract] at this
    omega
theorem splitF_len2 (s sep : ByteArray) (h1 : 1≤sep.size) : (splitF s sep).length≤s.size + 1:=by
 have hl : (splitF s sep).length = Lib.countB s sep + 1:=Lib.splitB_all sep h1 0 _ s rfl
 have:=Lib.countB_le sep h1 s.size s (Nat.le_refl _)
 omega
theorem strs_cell {W : World} {g : Nat} {ws : List ByteArray} (h : W.heap[g]? = some (.cells (ws.map Value.string).toArray 9 (0,0))) (i : Nat) (hi : i < ws.length) : W.cell? ⟨g,i,none⟩ = some (.string (ws.getD i ByteArray.empty)):=by
 rw [blk_cell h i]
 simp [List.getD_eq_getElem?_getD,List.getElem?_eq_getElem hi,hi]
theorem rowsGo_drop {ws : List ByteArray} {n i : Nat} (hi : i < n) (hn : n + 1≤ws.length) : rowsGo (((ws.drop 1).take n).drop i) = (toldF (ws.getD (i + 1) ByteArray.empty) nozzleB).bind fun q=>(rowsGo (((ws.drop 1).take n).drop (i + 1))).bind fun l=>some (⟨q.1,q.2⟩ :: l):=by
 have hl : i < ((ws.drop 1).take n).length:=by simp;omega
 rw [List.drop_eq_getElem_cons hl]
 have e : ((ws.drop 1).take n)[i]'hl = ws.getD (i + 1) ByteArray.empty:=by
  simp [List.getD_eq_getElem?_getD,List.getElem?_eq_getElem (show i + 1 < ws.length by omega),Nat.add_comm]
 rw [e]
 rfl
theorem meas_up {n : Nat} {i : Int} (h0 : 0≤i) (h1 : i < n) : n - (i + 1).toNat < n - i.toNat:=by omega
theorem len_snoc {acc : List S48} {x : S48} {i : Int} (h : (acc.length : Int) = i) : ((acc ++ [x]).length : Int) = i + 1:=by simp;omega
theorem bnd_snoc {acc : List S48} {a b : Int} (h : ∀ z ∈ acc,0≤z.f0∧z.f0≤1000∧0≤z.f1∧z.f1≤1000) (hq : 0≤a∧a≤999∧0≤b∧b≤999) : ∀ z ∈ acc ++ [(⟨a,b⟩ : S48)],0≤z.f0∧z.f0≤1000∧0≤z.f1∧z.f1≤1000:=fun z hz=>(List.mem_append.1 hz).elim (h z) (fun e=>by rw [List.mem_singleton.1 e];dsimp only;omega)
theorem own_neP {α : Type} {k : Kd α} {e : Nat} {W : World} {base : Nat} {ok : Nat→Prop} {v : Value} {xs : List α} {g t : Nat} {cs : Array Value} (h : Kd.R k e W base ok v xs) (hb : W.heap[g]? = some (.cells cs t (0,0))) (ht : ∀ q,q ∈ e :: k.E→q ≠ t) : some g ≠ v.ownBlock:=by
 intro he
 obtain ⟨_,_,_,q,hq,cells,hc⟩:=(Kd.R_bound h).1 g he.symm
 rw [hb] at hc
 injection hc with hc
 injection hc with _ h2 _
 exact ht q hq h2.symm
theorem own_apartP {α β : Type} {k : Kd α} {k2 : Kd β} {e e2 : Nat} {W : World} {base base2 : Nat} {ok ok2 : Nat→Prop} {v v2 : Value} {xs : List α} {ys : List β} (h : Kd.R k e W base ok v xs) (h2 : Kd.R k2 e2 W base2 ok2 v2 ys) (ht : ∀ q,q ∈ e :: k.E→∀ q2,q2 ∈ e2 :: k2.E→q ≠ q2) : ∀ j,v.ownBlock = some j→some j ≠ v2.ownBlock:=by
 intro j hj he
 obtain ⟨_,_,_,q,hq,cells,hc⟩:=(Kd.R_bound h).1 j hj
 obtain ⟨_,_,_,q2,hq2,cells2,hc2⟩:=(Kd.R_bound h2).1 j he.symm
 rw [hc] at hc2
 injection hc2 with hc2
 injection hc2 with _ h3 _
 exact ht q hq q2 hq2 h3
theorem ca_parsed.calls (A0 : Option Addr) (c0 : Nat) (l0 : List S126) (d : Int) (s : ByteArray) (w : World) (hr0 : Kd.C k126 w A0 l0.length l0) (hc0 : l0.length≤c0) (hl0 : l0.length < 5864062014805) (hs : s.size≤1000) (hg : GV w) :
 Calls Tryz.prog 92 #[.agg #[.slice A0 l0.length c0,.int .i64 d],.string s] w (ParsedPost (parsedF s) l0 d w):=by
 have hus:=Tryz.underlying9
 have hut:=Tryz.underlying24
 have hub:=Tryz.underlying27
 have huz:=Tryz.underlying48
 have HG:=am hg
 have HS:=am hs
 have HR0:=am hr0
 have HC0:=am hc0
 have HL0:=am hl0
 have hl0m:=Kd.C_max hr0
 have HB:=am (Below.refl w.heap.size w)
 have HCL:=am (show sl_Clone_R.f l0 = some l0 from if_pos hl0)
 clear hg hs hr0 hc0 hl0
 obtain ⟨ws,hws⟩ : ∃ ws,splitF s nlB = ws:=⟨_,rfl⟩
 have HF:=am (show parsedF s = parsedW s ws by rw [← hws];rfl)
 have hwl0:=splitF_len2 s nlB (by decide)
 rw [hws] at hwl0
 have HWL:=am (show ws.length≤1001 by have:=HS.out;omega)
 have hwl : ws.length≤9223372036854775807:=by have:=HWL.out;omega
 clear hwl0
 have HSZ:=am (show ∀ i,i < ws.length→(ws.getD i ByteArray.empty).size < 4294967281 by intro i hi;have h:=splitF_mem_size (s:=s) (sep:=nlB) (x:=ws.getD i ByteArray.empty) (by rw [hws,List.getD_eq_getElem?_getD,List.getElem?_eq_getElem hi];simp);have:=HS.out;omega)
 have HCS:=am (fun W hb=>split_calls s nlB W (by have:=HS.out;omega) (by decide) (HG.out.below (w':=W) hb))
 rw [hws] at HCS
 clear hws
 by_cases hl : 3≤ws.length
 case neg =>
  have hd : decide ((3 : Int)≤(ws.length : Int)) = false:=decide_eq_false (by omega)
  have HR:=am (show parsedF s = none by rw [HF.out];exact if_neg hl)
  clear hl HF
  go_enter Tryz.func92,Tryz.ntmps92
  go_wp2_with (first | ((refine gate_dst (N:=2) rfl ?_);(try (refine gate_guard (by rfl) ?_;dsimp only));refine box_event rfl (N:=2) rfl (cs:=#[.slice A0 l0.length c0,.int .i64 d]) (t:=24) ?hr ?_;(case hr=>go_simp;try rfl);intro gt hg_ w1 hbox hb;have Ggt:=am (show w.heap.size≤gt by have:=HB.out.size;omega);clear hg_;have Bgt:=am hbox;clear hbox;replace HB:=(bmv HB hb);clear hb;(try clear hcgt_0 hfgt_0 hcgt_1 hfgt_1);have hcgt_0:=cO1 Bgt.out;have hfgt_0:=blk_frozen Bgt.out 0;have hcgt_1 : w1.cell? ⟨gt,1,none⟩ = some (.int .i64 d):=(blk_cell Bgt.out 1).trans rfl;have hfgt_1:=blk_frozen Bgt.out 1) | ((refine gate_dst (N:=4) rfl ?_);(try (refine gate_guard (by rfl) ?_;dsimp only));refine box_event rfl (N:=4) rfl (cs:=#[.slice none 0 0,.int .i64 0,.slice none 0 0,.int .i64 0,.int .i64 0]) (t:=27) ?hr ?_;(case hr=>go_simp;try rfl);intro gr hg_ w2 hbox hb;have Ggr:=am (show w.heap.size≤gr by have:=HB.out.size;omega);have HNtr:=am (show gt ≠ gr by have:=blk_lt Bgt.out;omega);clear hg_;have Bgr:=am hbox;clear hbox;replace HB:=(bmv HB hb);replace Bgt:=(kmv hb Bgt);clear hb;(try clear hcgr_0 hfgr_0 hcgr_1 hfgr_1 hcgr_2 hfgr_2 hcgr_3 hfgr_3 hcgr_4 hfgr_4);have hcgr_0:=cO1 Bgr.out;have hfgr_0:=blk_frozen Bgr.out 0;have hcgr_1 : w2.cell? ⟨gr,1,none⟩ = some (.int .i64 0):=(blk_cell Bgr.out 1).trans rfl;have hfgr_1:=blk_frozen Bgr.out 1;have hcgr_2 : w2.cell? ⟨gr,2,none⟩ = some (.slice none 0 0):=(blk_cell Bgr.out 2).trans rfl;have hfgr_2:=blk_frozen Bgr.out 2;have hcgr_3 : w2.cell? ⟨gr,3,none⟩ = some (.int .i64 0):=(blk_cell Bgr.out 3).trans rfl;have hfgr_3:=blk_frozen Bgr.out 3;have hcgr_4 : w2.cell? ⟨gr,4,none⟩ = some (.int .i64 0):=(blk_cell Bgr.out 4).trans rfl;have hfgr_4:=blk_frozen Bgr.out 4) | (go_at_call 121;refine (HCS.out _ HB.out).mono ?_;rintro e w3 ⟨g,rfl,hgg,hbg,hb⟩;replace HB:=(bmv HB hb);replace Bgt:=(kmv hb Bgt);replace Bgr:=(kmv hb Bgr);have Bg:=am hbg;clear hgg hbg hb;(try clear hcgt_0 hfgt_0 hcgt_1 hfgt_1);have hcgt_0:=cO1 Bgt.out;have hfgt_0:=blk_frozen Bgt.out 0;have hcgt_1 : w3.cell? ⟨gt,1,none⟩ = some (.int .i64 d):=(blk_cell Bgt.out 1).trans rfl;have hfgt_1:=blk_frozen Bgt.out 1) | (go_at_call 122;(refine (ca_sure_P.calls false s s _ rfl).mono ?_);rintro e w4 ⟨rfl,hd⟩;have hb:=hd.below;clear hd;replace HB:=(bmv HB hb);replace Bgt:=(kmv hb Bgt);clear hb))
  refine ⟨rfl,?_,HB.out⟩
  rw [HR.out]
  exact ⟨_,rfl⟩
 have hd : decide ((3 : Int)≤(ws.length : Int)) = true:=decide_eq_true (by omega)
 have hlz : (0 : Int) < (ws.length : Int):=by omega
 have HLE:=am hl
 obtain ⟨y0,hy0⟩ : ∃ y,ws.getD 0 ByteArray.empty = y:=⟨_,rfl⟩
 have HY0:=am hy0
 have HZ0:=am (show y0.size < 4294967281 by rw [← hy0];exact HSZ.out 0 (by omega))
 obtain ⟨h0,hh0⟩ : ∃ h0,toldF y0 castleB = h0:=⟨_,rfl⟩
 have HF2:=am (show parsedF s = h0.bind fun h=>(rowsGo ((ws.drop 1).take (ws.length - 3))).bind fun l=>if ca_text.f h.1 h.2 l = s then some (h.1,h.2,l) else none by rw [HF.out,← hh0,← hy0];exact if_pos hl)
 have HH:=am hh0
 clear hl hh0 hy0 HF
 cases h0 with
 | none =>
  have HR:=am (show parsedF s = none from HF2.out)
  clear HF2
  go_enter Tryz.func92,Tryz.ntmps92
  go_wp2_with (first | ((refine gate_dst (N:=2) rfl ?_);(try (refine gate_guard (by rfl) ?_;dsimp only));refine box_event rfl (N:=2) rfl (cs:=#[.slice A0 l0.length c0,.int .i64 d]) (t:=24) ?hr ?_;(case hr=>go_simp;try rfl);intro gt hg_ w1 hbox hb;have Ggt:=am (show w.heap.size≤gt by have:=HB.out.size;omega);clear hg_;have Bgt:=am hbox;clear hbox;replace HB:=(bmv HB hb);clear hb;(try clear hcgt_0 hfgt_0 hcgt_1 hfgt_1);have hcgt_0:=cO1 Bgt.out;have hfgt_0:=blk_frozen Bgt.out 0;have hcgt_1 : w1.cell? ⟨gt,1,none⟩ = some (.int .i64 d):=(blk_cell Bgt.out 1).trans rfl;have hfgt_1:=blk_frozen Bgt.out 1) | ((refine gate_dst (N:=4) rfl ?_);(try (refine gate_guard (by rfl) ?_;dsimp only));refine box_event rfl (N:=4) rfl (cs:=#[.slice none 0 0,.int .i64 0,.slice none 0 0,.int .i64 0,.int .i64 0]) (t:=27) ?hr ?_;(case hr=>go_simp;try rfl);intro gr hg_ w2 hbox hb;have Ggr:=am (show w.heap.size≤gr by have:=HB.out.size;omega);have HNtr:=am (show gt ≠ gr by have:=blk_lt Bgt.out;omega);clear hg_;have Bgr:=am hbox;clear hbox;replace HB:=(bmv HB hb);replace Bgt:=(kmv hb Bgt);clear hb;(try clear hcgr_0 hfgr_0 hcgr_1 hfgr_1 hcgr_2 hfgr_2 hcgr_3 hfgr_3 hcgr_4 hfgr_4);have hcgr_0:=cO1 Bgr.out;have hfgr_0:=blk_frozen Bgr.out 0;have hcgr_1 : w2.cell? ⟨gr,1,none⟩ = some (.int .i64 0):=(blk_cell Bgr.out 1).trans rfl;have hfgr_1:=blk_frozen Bgr.out 1;have hcgr_2 : w2.cell? ⟨gr,2,none⟩ = some (.slice none 0 0):=(blk_cell Bgr.out 2).trans rfl;have hfgr_2:=blk_frozen Bgr.out 2;have hcgr_3 : w2.cell? ⟨gr,3,none⟩ = some (.int .i64 0):=(blk_cell Bgr.out 3).trans rfl;have hfgr_3:=blk_frozen Bgr.out 3;have hcgr_4 : w2.cell? ⟨gr,4,none⟩ = some (.int .i64 0):=(blk_cell Bgr.out 4).trans rfl;have hfgr_4:=blk_frozen Bgr.out 4) | (go_at_call 121;refine (HCS.out _ HB.out).mono ?_;rintro e w3 ⟨g,rfl,hgg,hbg,hb⟩;replace HB:=(bmv HB hb);replace Bgt:=(kmv hb Bgt);replace Bgr:=(kmv hb Bgr);have Bg:=am hbg;clear hgg hbg hb;(try clear hcgt_0 hfgt_0 hcgt_1 hfgt_1);have hcgt_0:=cO1 Bgt.out;have hfgt_0:=blk_frozen Bgt.out 0;have hcgt_1 : w3.cell? ⟨gt,1,none⟩ = some (.int .i64 d):=(blk_cell Bgt.out 1).trans rfl;have hfgt_1:=blk_frozen Bgt.out 1) | (go_at_call 122;(refine (ca_sure.calls true s  _ rfl).mono ?_);rintro e w4 ⟨rfl,hd⟩;have hb:=hd.below;clear hd;replace HB:=(bmv HB hb);replace Bgt:=(kmv hb Bgt);replace Bgr:=(kmv hb Bgr);replace Bg:=(kmv hb Bg);clear hb;have HNgt:=am (blk_ne Bg.out Bgt.out (by decide));(try clear hcgt_0 hfgt_0 hcgt_1 hfgt_1);have hcgt_0:=cO1 Bgt.out;have hfgt_0:=blk_frozen Bgt.out 0;have hcgt_1 : w4.cell? ⟨gt,1,none⟩ = some (.int .i64 d):=(blk_cell Bgt.out 1).trans rfl;have hfgt_1:=blk_frozen Bgt.out 1) | (go_at_call 123;(refine (sl_Clone_R.calls A0 c0 l0 l0 _ (kC HR0.out HB.out) HC0.out HCL.out).mono ?_);rintro e w5 ⟨v5,rfl,hr,hb⟩;obtain ⟨A1,c1,rfl⟩:=Kd.R_slice hr;have ROt:=am (Kd.R_lower hr HB.out.size);clear hr;replace HB:=(bmv HB hb);replace Bgt:=(kmv hb Bgt);replace Bgr:=(kmv hb Bgr);replace Bg:=(kmv hb Bg);clear hb;(try clear hcgt_0 hfgt_0 hcgt_1 hfgt_1);have hcgt_0:=cO1 Bgt.out;have hfgt_0:=blk_frozen Bgt.out 0;have hcgt_1 : w5.cell? ⟨gt,1,none⟩ = some (.int .i64 d):=(blk_cell Bgt.out 1).trans rfl;have hfgt_1:=blk_frozen Bgt.out 1) | ((with_reducible refine gate_store (t:=22) (p:=20) rfl ?_);refine skip_abs (fun W'=>W'.heap[gt]? = some (.cells #[.slice A1 l0.length c1,.int .i64 d] 24 (0,0))∧W'.heap[gr]? = some (.cells #[.slice none 0 0,.int .i64 0,.slice none 0 0,.int .i64 0,.int .i64 0] 27 (0,0))∧W'.heap[g]? = some (.cells (ws.map Value.string).toArray 9 (0,0))∧Kd.R k126 126 W' w.heap.size (fun _=>True) (.slice A1 l0.length c1) l0∧Below w.heap.size w W') ?hg ?hd ?hr ⟨(blk_set Bgt.out 0 _).trans rfl,blk_far Bgr.out HNtr.out.symm _,blk_far Bg.out HNgt.out _,Kd.R_set ROt.out Bgt.out (by decide) 0 _,below_set HB.out Ggt.out⟩ ?_;(case hg=>rfl);(case hd=>rfl);(case hr=>go_simp;try rfl);rintro w6 ⟨k0,k1,k2,k3,k4⟩;clear Bgt Bgr Bg ROt HB;have Bgt:=am k0;have Bgr:=am k1;have Bg:=am k2;have ROt:=am k3;have HB:=am k4;clear k0 k1 k2 k3 k4;(try clear hcgt_0 hfgt_0 hcgt_1 hfgt_1);have hcgt_0:=cO1 Bgt.out;have hfgt_0:=blk_frozen Bgt.out 0;have hcgt_1 : w6.cell? ⟨gt,1,none⟩ = some (.int .i64 d):=(blk_cell Bgt.out 1).trans rfl;have hfgt_1:=blk_frozen Bgt.out 1) | ((refine gate_dst (N:=6) rfl ?_);(try (refine gate_guard (by rfl) ?_;dsimp only));refine box_event rfl (N:=6) rfl (cs:=#[.slice none 0 0,.int .i64 0,.slice none 0 0,.int .i64 0,.int .i64 0]) (t:=27) ?hr ?_;(case hr=>go_simp;try rfl);intro gb hg_ w7 hbox hb;have Ggb:=am (show w.heap.size≤gb by have:=HB.out.size;omega);have HNrb:=am (show gr ≠ gb by have:=blk_lt Bgr.out;omega);have HNgb:=am (show g ≠ gb by have:=blk_lt Bg.out;omega);clear hg_;have Bgb:=am hbox;clear hbox;replace HB:=(bmv HB hb);replace Bgt:=(kmv hb Bgt);replace Bgr:=(kmv hb Bgr);replace Bg:=(kmv hb Bg);replace ROt:=am (Kd.R_below ROt.out hb);clear hb;(try clear hcgb_0 hfgb_0 hcgb_1 hfgb_1 hcgb_2 hfgb_2 hcgb_3 hfgb_3 hcgb_4 hfgb_4);have hcgb_0:=cO1 Bgb.out;have hfgb_0:=blk_frozen Bgb.out 0;have hcgb_1 : w7.cell? ⟨gb,1,none⟩ = some (.int .i64 0):=(blk_cell Bgb.out 1).trans rfl;have hfgb_1:=blk_frozen Bgb.out 1;have hcgb_2 : w7.cell? ⟨gb,2,none⟩ = some (.slice none 0 0):=(blk_cell Bgb.out 2).trans rfl;have hfgb_2:=blk_frozen Bgb.out 2;have hcgb_3 : w7.cell? ⟨gb,3,none⟩ = some (.int .i64 0):=(blk_cell Bgb.out 3).trans rfl;have hfgb_3:=blk_frozen Bgb.out 3;have hcgb_4 : w7.cell? ⟨gb,4,none⟩ = some (.int .i64 0):=(blk_cell Bgb.out 4).trans rfl;have hfgb_4:=blk_frozen Bgb.out 4) | ((with_reducible refine gate_store (t:=27) (p:=6) rfl ?_);refine skip_abs (fun W'=>W'.heap[gb]? = some (.cells #[.slice A1 l0.length c1,.int .i64 d,.slice none 0 0,.int .i64 0,.int .i64 0] 27 (0,0))∧W'.heap[gr]? = some (.cells #[.slice none 0 0,.int .i64 0,.slice none 0 0,.int .i64 0,.int .i64 0] 27 (0,0))∧W'.heap[g]? = some (.cells (ws.map Value.string).toArray 9 (0,0))∧Kd.R k126 126 W' w.heap.size (fun _=>True) (.slice A1 l0.length c1) l0∧Below w.heap.size w W') ?hg ?hd ?hr ⟨(blk_set (blk_set (blk_set (blk_set (blk_set Bgb.out 0 _) 1 _) 2 _) 3 _) 4 _).trans rfl,(blk_far (blk_far (blk_far (blk_far (blk_far Bgr.out HNrb.out _) HNrb.out _) HNrb.out _) HNrb.out _) HNrb.out _),(blk_far (blk_far (blk_far (blk_far (blk_far Bg.out HNgb.out _) HNgb.out _) HNgb.out _) HNgb.out _) HNgb.out _),(Kd.R_set (Kd.R_set (Kd.R_set (Kd.R_set (Kd.R_set ROt.out Bgb.out (by decide) 0 _) (blk_set Bgb.out 0 _) (by decide) 1 _) (blk_set (blk_set Bgb.out 0 _) 1 _) (by decide) 2 _) (blk_set (blk_set (blk_set Bgb.out 0 _) 1 _) 2 _) (by decide) 3 _) (blk_set (blk_set (blk_set (blk_set Bgb.out 0 _) 1 _) 2 _) 3 _) (by decide) 4 _),(below_set (below_set (below_set (below_set (below_set HB.out Ggb.out) Ggb.out) Ggb.out) Ggb.out) Ggb.out)⟩ ?_;(case hg=>rfl);(case hd=>rfl);(case hr=>go_simp;try rfl);rintro w8 ⟨k0,k1,k2,k3,k4⟩;clear Bgb Bgr Bg ROt HB;have Bgb:=am k0;have Bgr:=am k1;have Bg:=am k2;have ROt:=am k3;have HB:=am k4;clear k0 k1 k2 k3 k4;(try clear hcgb_0 hfgb_0 hcgb_1 hfgb_1 hcgb_2 hfgb_2 hcgb_3 hfgb_3 hcgb_4 hfgb_4);have hcgb_0:=cO1 Bgb.out;have hfgb_0:=blk_frozen Bgb.out 0;have hcgb_1 : w8.cell? ⟨gb,1,none⟩ = some (.int .i64 d):=(blk_cell Bgb.out 1).trans rfl;have hfgb_1:=blk_frozen Bgb.out 1;have hcgb_2 : w8.cell? ⟨gb,2,none⟩ = some (.slice none 0 0):=(blk_cell Bgb.out 2).trans rfl;have hfgb_2:=blk_frozen Bgb.out 2;have hcgb_3 : w8.cell? ⟨gb,3,none⟩ = some (.int .i64 0):=(blk_cell Bgb.out 3).trans rfl;have hfgb_3:=blk_frozen Bgb.out 3;have hcgb_4 : w8.cell? ⟨gb,4,none⟩ = some (.int .i64 0):=(blk_cell Bgb.out 4).trans rfl;have hfgb_4:=blk_frozen Bgb.out 4;have hcg0 : w8.cell? ⟨g,0,none⟩ = some (.string y0):=(strs_cell Bg.out 0 (by have:=HLE.out;omega)).trans (by rw [HY0.out])) | (go_at_call 124;(with_reducible refine (told_none (wd:=castleB) words_at0 _ HZ0.out (HG.out.below HB.out) HH.out).mono ?_);rintro e w9 ⟨s_,rfl,hb⟩;replace HB:=(bmv HB hb);replace Bgb:=(kmv hb Bgb);clear hb))
  refine ⟨rfl,?_,HB.out⟩
  rw [HR.out]
  exact ⟨_,rfl⟩
 | some h0 =>
  have HF3:=am (show parsedF s = (rowsGo ((ws.drop 1).take (ws.length - 3))).bind fun l=>if ca_text.f h0.1 h0.2 l = s then some (h0.1,h0.2,l) else none from HF2.out)
  clear HF2
  have HRG:=am (toldF_range HH.out)
  obtain ⟨n,hn⟩ : ∃ n,ws.length = n + 3:=⟨ws.length - 3,by have:=HLE.out;omega⟩
  have hn1 : (n : Int)≤1000:=by have:=HWL.out;omega
  have hw2 : IntKind.i64.wrap ((n : Int) + 3 - 2) = (n : Int) + 1:=(i64_w _).trans (by unfold wrap64;omega)
  have HN:=am hn
  have hd2 : decide ((3 : Int)≤(n : Int) + 3) = true:=decide_eq_true (by omega)
  have hlz2 : (0 : Int) < (n : Int) + 3:=by omega
  go_enter Tryz.func92,Tryz.ntmps92
  go_wp2_with (first | ((refine gate_dst (N:=2) rfl ?_);(try (refine gate_guard (by rfl) ?_;dsimp only));refine box_event rfl (N:=2) rfl (cs:=#[.slice A0 l0.length c0,.int .i64 d]) (t:=24) ?hr ?_;(case hr=>go_simp;try rfl);intro gt hg_ w1 hbox hb;have Ggt:=am (show w.heap.size≤gt by have:=HB.out.size;omega);clear hg_;have Bgt:=am hbox;clear hbox;replace HB:=(bmv HB hb);clear hb;(try clear hcgt_0 hfgt_0 hcgt_1 hfgt_1);have hcgt_0:=cO1 Bgt.out;have hfgt_0:=blk_frozen Bgt.out 0;have hcgt_1 : w1.cell? ⟨gt,1,none⟩ = some (.int .i64 d):=(blk_cell Bgt.out 1).trans rfl;have hfgt_1:=blk_frozen Bgt.out 1) | ((refine gate_dst (N:=4) rfl ?_);(try (refine gate_guard (by rfl) ?_;dsimp only));refine box_event rfl (N:=4) rfl (cs:=#[.slice none 0 0,.int .i64 0,.slice none 0 0,.int .i64 0,.int .i64 0]) (t:=27) ?hr ?_;(case hr=>go_simp;try rfl);intro gr hg_ w2 hbox hb;have Ggr:=am (show w.heap.size≤gr by have:=HB.out.size;omega);have HNtr:=am (show gt ≠ gr by have:=blk_lt Bgt.out;omega);clear hg_;have Bgr:=am hbox;clear hbox;replace HB:=(bmv HB hb);replace Bgt:=(kmv hb Bgt);clear hb;(try clear hcgr_0 hfgr_0 hcgr_1 hfgr_1 hcgr_2 hfgr_2 hcgr_3 hfgr_3 hcgr_4 hfgr_4);have hcgr_0:=cO1 Bgr.out;have hfgr_0:=blk_frozen Bgr.out 0;have hcgr_1 : w2.cell? ⟨gr,1,none⟩ = some (.int .i64 0):=(blk_cell Bgr.out 1).trans rfl;have hfgr_1:=blk_frozen Bgr.out 1;have hcgr_2 : w2.cell? ⟨gr,2,none⟩ = some (.slice none 0 0):=(blk_cell Bgr.out 2).trans rfl;have hfgr_2:=blk_frozen Bgr.out 2;have hcgr_3 : w2.cell? ⟨gr,3,none⟩ = some (.int .i64 0):=(blk_cell Bgr.out 3).trans rfl;have hfgr_3:=blk_frozen Bgr.out 3;have hcgr_4 : w2.cell? ⟨gr,4,none⟩ = some (.int .i64 0):=(blk_cell Bgr.out 4).trans rfl;have hfgr_4:=blk_frozen Bgr.out 4) | (go_at_call 121;refine (HCS.out _ HB.out).mono ?_;rintro e w3 ⟨g,rfl,hgg,hbg,hb⟩;replace HB:=(bmv HB hb);replace Bgt:=(kmv hb Bgt);replace Bgr:=(kmv hb Bgr);have Bg:=am hbg;clear hgg hbg hb;(try clear hcgt_0 hfgt_0 hcgt_1 hfgt_1);have hcgt_0:=cO1 Bgt.out;have hfgt_0:=blk_frozen Bgt.out 0;have hcgt_1 : w3.cell? ⟨gt,1,none⟩ = some (.int .i64 d):=(blk_cell Bgt.out 1).trans rfl;have hfgt_1:=blk_frozen Bgt.out 1) | (go_at_call 122;(refine (ca_sure.calls true s  _ rfl).mono ?_);rintro e w4 ⟨rfl,hd⟩;have hb:=hd.below;clear hd;replace HB:=(bmv HB hb);replace Bgt:=(kmv hb Bgt);replace Bgr:=(kmv hb Bgr);replace Bg:=(kmv hb Bg);clear hb;have HNgt:=am (blk_ne Bg.out Bgt.out (by decide));(try clear hcgt_0 hfgt_0 hcgt_1 hfgt_1);have hcgt_0:=cO1 Bgt.out;have hfgt_0:=blk_frozen Bgt.out 0;have hcgt_1 : w4.cell? ⟨gt,1,none⟩ = some (.int .i64 d):=(blk_cell Bgt.out 1).trans rfl;have hfgt_1:=blk_frozen Bgt.out 1) | (go_at_call 123;(refine (sl_Clone_R.calls A0 c0 l0 l0 _ (kC HR0.out HB.out) HC0.out HCL.out).mono ?_);rintro e w5 ⟨v5,rfl,hr,hb⟩;obtain ⟨A1,c1,rfl⟩:=Kd.R_slice hr;have ROt:=am (Kd.R_lower hr HB.out.size);clear hr;replace HB:=(bmv HB hb);replace Bgt:=(kmv hb Bgt);replace Bgr:=(kmv hb Bgr);replace Bg:=(kmv hb Bg);clear hb;(try clear hcgt_0 hfgt_0 hcgt_1 hfgt_1);have hcgt_0:=cO1 Bgt.out;have hfgt_0:=blk_frozen Bgt.out 0;have hcgt_1 : w5.cell? ⟨gt,1,none⟩ = some (.int .i64 d):=(blk_cell Bgt.out 1).trans rfl;have hfgt_1:=blk_frozen Bgt.out 1) | ((with_reducible refine gate_store (t:=22) (p:=20) rfl ?_);refine skip_abs (fun W'=>W'.heap[gt]? = some (.cells #[.slice A1 l0.length c1,.int .i64 d] 24 (0,0))∧W'.heap[gr]? = some (.cells #[.slice none 0 0,.int .i64 0,.slice none 0 0,.int .i64 0,.int .i64 0] 27 (0,0))∧W'.heap[g]? = some (.cells (ws.map Value.string).toArray 9 (0,0))∧Kd.R k126 126 W' w.heap.size (fun _=>True) (.slice A1 l0.length c1) l0∧Below w.heap.size w W') ?hg ?hd ?hr ⟨(blk_set Bgt.out 0 _).trans rfl,blk_far Bgr.out HNtr.out.symm _,blk_far Bg.out HNgt.out _,Kd.R_set ROt.out Bgt.out (by decide) 0 _,below_set HB.out Ggt.out⟩ ?_;(case hg=>rfl);(case hd=>rfl);(case hr=>go_simp;try rfl);rintro w6 ⟨k0,k1,k2,k3,k4⟩;clear Bgt Bgr Bg ROt HB;have Bgt:=am k0;have Bgr:=am k1;have Bg:=am k2;have ROt:=am k3;have HB:=am k4;clear k0 k1 k2 k3 k4;(try clear hcgt_0 hfgt_0 hcgt_1 hfgt_1);have hcgt_0:=cO1 Bgt.out;have hfgt_0:=blk_frozen Bgt.out 0;have hcgt_1 : w6.cell? ⟨gt,1,none⟩ = some (.int .i64 d):=(blk_cell Bgt.out 1).trans rfl;have hfgt_1:=blk_frozen Bgt.out 1) | ((refine gate_dst (N:=6) rfl ?_);(try (refine gate_guard (by rfl) ?_;dsimp only));refine box_event rfl (N:=6) rfl (cs:=#[.slice none 0 0,.int .i64 0,.slice none 0 0,.int .i64 0,.int .i64 0]) (t:=27) ?hr ?_;(case hr=>go_simp;try rfl);intro gb hg_ w7 hbox hb;have Ggb:=am (show w.heap.size≤gb by have:=HB.out.size;omega);have HNrb:=am (show gr ≠ gb by have:=blk_lt Bgr.out;omega);have HNgb:=am (show g ≠ gb by have:=blk_lt Bg.out;omega);clear hg_;have Bgb:=am hbox;clear hbox;replace HB:=(bmv HB hb);replace Bgt:=(kmv hb Bgt);replace Bgr:=(kmv hb Bgr);replace Bg:=(kmv hb Bg);replace ROt:=am (Kd.R_below ROt.out hb);clear hb;(try clear hcgb_0 hfgb_0 hcgb_1 hfgb_1 hcgb_2 hfgb_2 hcgb_3 hfgb_3 hcgb_4 hfgb_4);have hcgb_0:=cO1 Bgb.out;have hfgb_0:=blk_frozen Bgb.out 0;have hcgb_1 : w7.cell? ⟨gb,1,none⟩ = some (.int .i64 0):=(blk_cell Bgb.out 1).trans rfl;have hfgb_1:=blk_frozen Bgb.out 1;have hcgb_2 : w7.cell? ⟨gb,2,none⟩ = some (.slice none 0 0):=(blk_cell Bgb.out 2).trans rfl;have hfgb_2:=blk_frozen Bgb.out 2;have hcgb_3 : w7.cell? ⟨gb,3,none⟩ = some (.int .i64 0):=(blk_cell Bgb.out 3).trans rfl;have hfgb_3:=blk_frozen Bgb.out 3;have hcgb_4 : w7.cell? ⟨gb,4,none⟩ = some (.int .i64 0):=(blk_cell Bgb.out 4).trans rfl;have hfgb_4:=blk_frozen Bgb.out 4) | ((with_reducible refine gate_store (t:=27) (p:=6) rfl ?_);refine skip_abs (fun W'=>W'.heap[gb]? = some (.cells #[.slice A1 l0.length c1,.int .i64 d,.slice none 0 0,.int .i64 0,.int .i64 0] 27 (0,0))∧W'.heap[gr]? = some (.cells #[.slice none 0 0,.int .i64 0,.slice none 0 0,.int .i64 0,.int .i64 0] 27 (0,0))∧W'.heap[g]? = some (.cells (ws.map Value.string).toArray 9 (0,0))∧Kd.R k126 126 W' w.heap.size (fun _=>True) (.slice A1 l0.length c1) l0∧Below w.heap.size w W') ?hg ?hd ?hr ⟨(blk_set (blk_set (blk_set (blk_set (blk_set Bgb.out 0 _) 1 _) 2 _) 3 _) 4 _).trans rfl,(blk_far (blk_far (blk_far (blk_far (blk_far Bgr.out HNrb.out _) HNrb.out _) HNrb.out _) HNrb.out _) HNrb.out _),(blk_far (blk_far (blk_far (blk_far (blk_far Bg.out HNgb.out _) HNgb.out _) HNgb.out _) HNgb.out _) HNgb.out _),(Kd.R_set (Kd.R_set (Kd.R_set (Kd.R_set (Kd.R_set ROt.out Bgb.out (by decide) 0 _) (blk_set Bgb.out 0 _) (by decide) 1 _) (blk_set (blk_set Bgb.out 0 _) 1 _) (by decide) 2 _) (blk_set (blk_set (blk_set Bgb.out 0 _) 1 _) 2 _) (by decide) 3 _) (blk_set (blk_set (blk_set (blk_set Bgb.out 0 _) 1 _) 2 _) 3 _) (by decide) 4 _),(below_set (below_set (below_set (below_set (below_set HB.out Ggb.out) Ggb.out) Ggb.out) Ggb.out) Ggb.out)⟩ ?_;(case hg=>rfl);(case hd=>rfl);(case hr=>go_simp;try rfl);rintro w8 ⟨k0,k1,k2,k3,k4⟩;clear Bgb Bgr Bg ROt HB;have Bgb:=am k0;have Bgr:=am k1;have Bg:=am k2;have ROt:=am k3;have HB:=am k4;clear k0 k1 k2 k3 k4;(try clear hcgb_0 hfgb_0 hcgb_1 hfgb_1 hcgb_2 hfgb_2 hcgb_3 hfgb_3 hcgb_4 hfgb_4);have hcgb_0:=cO1 Bgb.out;have hfgb_0:=blk_frozen Bgb.out 0;have hcgb_1 : w8.cell? ⟨gb,1,none⟩ = some (.int .i64 d):=(blk_cell Bgb.out 1).trans rfl;have hfgb_1:=blk_frozen Bgb.out 1;have hcgb_2 : w8.cell? ⟨gb,2,none⟩ = some (.slice none 0 0):=(blk_cell Bgb.out 2).trans rfl;have hfgb_2:=blk_frozen Bgb.out 2;have hcgb_3 : w8.cell? ⟨gb,3,none⟩ = some (.int .i64 0):=(blk_cell Bgb.out 3).trans rfl;have hfgb_3:=blk_frozen Bgb.out 3;have hcgb_4 : w8.cell? ⟨gb,4,none⟩ = some (.int .i64 0):=(blk_cell Bgb.out 4).trans rfl;have hfgb_4:=blk_frozen Bgb.out 4;have hcg0 : w8.cell? ⟨g,0,none⟩ = some (.string y0):=(strs_cell Bg.out 0 (by have:=HLE.out;omega)).trans (by rw [HY0.out])) | (go_at_call 124;(with_reducible refine (told_some (wd:=castleB) words_at0 _ HZ0.out (HG.out.below HB.out) HH.out).mono ?_);rintro e w9 ⟨rfl,hb⟩;replace HB:=(bmv HB hb);replace Bgb:=(kmv hb Bgb);replace Bgr:=(kmv hb Bgr);replace Bg:=(kmv hb Bg);replace ROt:=am (Kd.R_below ROt.out hb);clear hb;(try clear hcgb_0 hfgb_0 hcgb_1 hfgb_1 hcgb_2 hfgb_2 hcgb_3 hfgb_3 hcgb_4 hfgb_4);have hcgb_0:=cO1 Bgb.out;have hfgb_0:=blk_frozen Bgb.out 0;have hcgb_1 : w9.cell? ⟨gb,1,none⟩ = some (.int .i64 d):=(blk_cell Bgb.out 1).trans rfl;have hfgb_1:=blk_frozen Bgb.out 1;have hcgb_2 : w9.cell? ⟨gb,2,none⟩ = some (.slice none 0 0):=(blk_cell Bgb.out 2).trans rfl;have hfgb_2:=blk_frozen Bgb.out 2;have hcgb_3 : w9.cell? ⟨gb,3,none⟩ = some (.int .i64 0):=(blk_cell Bgb.out 3).trans rfl;have hfgb_3:=blk_frozen Bgb.out 3;have hcgb_4 : w9.cell? ⟨gb,4,none⟩ = some (.int .i64 0):=(blk_cell Bgb.out 4).trans rfl;have hfgb_4:=blk_frozen Bgb.out 4) | ((with_reducible refine gate_store (t:=3) (p:=30) rfl ?_);refine skip_abs (fun W'=>W'.heap[gb]? = some (.cells #[.slice A1 l0.length c1,.int .i64 d,.slice none 0 0,.int .i64 h0.1,.int .i64 0] 27 (0,0))∧W'.heap[gr]? = some (.cells #[.slice none 0 0,.int .i64 0,.slice none 0 0,.int .i64 0,.int .i64 0] 27 (0,0))∧W'.heap[g]? = some (.cells (ws.map Value.string).toArray 9 (0,0))∧Kd.R k126 126 W' w.heap.size (fun _=>True) (.slice A1 l0.length c1) l0∧Below w.heap.size w W') ?hg ?hd ?hr ⟨(blk_set Bgb.out 3 _).trans rfl,blk_far Bgr.out HNrb.out _,blk_far Bg.out HNgb.out _,Kd.R_set ROt.out Bgb.out (by decide) 3 _,below_set HB.out Ggb.out⟩ ?_;(case hg=>rfl);(case hd=>rfl);(case hr=>go_simp;try rfl);rintro w10 ⟨k0,k1,k2,k3,k4⟩;clear Bgb Bgr Bg ROt HB;have Bgb:=am k0;have Bgr:=am k1;have Bg:=am k2;have ROt:=am k3;have HB:=am k4;clear k0 k1 k2 k3 k4;(try clear hcgb_0 hfgb_0 hcgb_1 hfgb_1 hcgb_2 hfgb_2 hcgb_3 hfgb_3 hcgb_4 hfgb_4);have hcgb_0:=cO1 Bgb.out;have hfgb_0:=blk_frozen Bgb.out 0;have hcgb_1 : w10.cell? ⟨gb,1,none⟩ = some (.int .i64 d):=(blk_cell Bgb.out 1).trans rfl;have hfgb_1:=blk_frozen Bgb.out 1;have hcgb_2 : w10.cell? ⟨gb,2,none⟩ = some (.slice none 0 0):=(blk_cell Bgb.out 2).trans rfl;have hfgb_2:=blk_frozen Bgb.out 2;have hcgb_3 : w10.cell? ⟨gb,3,none⟩ = some (.int .i64 h0.1):=(blk_cell Bgb.out 3).trans rfl;have hfgb_3:=blk_frozen Bgb.out 3;have hcgb_4 : w10.cell? ⟨gb,4,none⟩ = some (.int .i64 0):=(blk_cell Bgb.out 4).trans rfl;have hfgb_4:=blk_frozen Bgb.out 4) | ((with_reducible refine gate_store (t:=3) (p:=31) rfl ?_);refine skip_abs (fun W'=>W'.heap[gb]? = some (.cells #[.slice A1 l0.length c1,.int .i64 d,.slice none 0 0,.int .i64 h0.1,.int .i64 h0.2] 27 (0,0))∧W'.heap[gr]? = some (.cells #[.slice none 0 0,.int .i64 0,.slice none 0 0,.int .i64 0,.int .i64 0] 27 (0,0))∧W'.heap[g]? = some (.cells (ws.map Value.string).toArray 9 (0,0))∧Kd.R k126 126 W' w.heap.size (fun _=>True) (.slice A1 l0.length c1) l0∧Below w.heap.size w W') ?hg ?hd ?hr ⟨(blk_set Bgb.out 4 _).trans rfl,blk_far Bgr.out HNrb.out _,blk_far Bg.out HNgb.out _,Kd.R_set ROt.out Bgb.out (by decide) 4 _,below_set HB.out Ggb.out⟩ ?_;(case hg=>rfl);(case hd=>rfl);(case hr=>go_simp;try rfl);rintro w11 ⟨k0,k1,k2,k3,k4⟩;clear Bgb Bgr Bg ROt HB;have Bgb:=am k0;have Bgr:=am k1;have Bg:=am k2;have ROt:=am k3;have HB:=am k4;clear k0 k1 k2 k3 k4;(try clear hcgb_0 hfgb_0 hcgb_1 hfgb_1 hcgb_2 hfgb_2 hcgb_3 hfgb_3 hcgb_4 hfgb_4);have hcgb_0:=cO1 Bgb.out;have hfgb_0:=blk_frozen Bgb.out 0;have hcgb_1 : w11.cell? ⟨gb,1,none⟩ = some (.int .i64 d):=(blk_cell Bgb.out 1).trans rfl;have hfgb_1:=blk_frozen Bgb.out 1;have hcgb_2 : w11.cell? ⟨gb,2,none⟩ = some (.slice none 0 0):=(blk_cell Bgb.out 2).trans rfl;have hfgb_2:=blk_frozen Bgb.out 2;have hcgb_3 : w11.cell? ⟨gb,3,none⟩ = some (.int .i64 h0.1):=(blk_cell Bgb.out 3).trans rfl;have hfgb_3:=blk_frozen Bgb.out 3;have hcgb_4 : w11.cell? ⟨gb,4,none⟩ = some (.int .i64 h0.2):=(blk_cell Bgb.out 4).trans rfl;have hfgb_4:=blk_frozen Bgb.out 4))
  clear hcg0 hw2
  have RNn:=am (Kd.R_nil k48 48 w11 w.heap.size (fun _=>True))
  have HQ:=am (show (rowsGo (((ws.drop 1).take n).drop (0 : Int).toNat)).bind (fun l=>if ca_text.f h0.1 h0.2 ([] ++ l) = s then some (h0.1,h0.2,[] ++ l) else none) = parsedF s by have h:=HF3.out;rw [HN.out] at h;exact h.symm)
  have hnw : n + 1≤ws.length:=by omega
  have HNW:=am hnw
  clear hnw hn
  go_loopw [38] (fun v38 W'=>∃ (i : Int) (vn : Value) (acc : List S48),0≤i∧i≤n∧v38 = .int .i64 i∧Aside0 ((rowsGo (((ws.drop 1).take n).drop i.toNat)).bind (fun l=>if ca_text.f h0.1 h0.2 (acc ++ l) = s then some (h0.1,h0.2,acc ++ l) else none) = parsedF s)∧Aside0 ((acc.length : Int) = i)∧Aside0 (∀ z ∈ acc,0≤z.f0∧z.f0≤1000∧0≤z.f1∧z.f1≤1000)∧Aside0 (W'.heap[gb]? = some (.cells #[.slice A1 l0.length c1,.int .i64 d,vn,.int .i64 h0.1,.int .i64 h0.2] 27 (0,0)))∧Aside0 (W'.heap[gr]? = some (.cells #[.slice none 0 0,.int .i64 0,.slice none 0 0,.int .i64 0,.int .i64 0] 27 (0,0)))∧Aside0 (W'.heap[g]? = some (.cells (ws.map Value.string).toArray 9 (0,0)))∧Aside0 (Kd.R k126 126 W' w.heap.size (fun _=>True) (.slice A1 l0.length c1) l0)∧Aside0 (Kd.R k48 48 W' w.heap.size (fun _=>True) vn acc)∧Aside0 (Below w.heap.size w W')) (fun v38 _=>n - (intOf v38).toNat)
  case atStart=>exact ⟨0,_,[],by omega,by omega,rfl,HQ,⟨rfl⟩,⟨fun z hz=>by cases hz⟩,Bgb,Bgr,Bg,ROt,RNn,HB⟩
  case round =>
   clear HQ Bgb Bgr Bg ROt RNn HB
   (try clear hcgb_0 hfgb_0 hcgb_1 hfgb_1 hcgb_2 hfgb_2 hcgb_3 hfgb_3 hcgb_4 hfgb_4)
   obtain ⟨i,vn,acc,p1,hi,rfl,HQ,HAL,HAB,Bgb,Bgr,Bg,ROt,RNn,HB⟩:=hrel
   generalize wr = W1 at *
   by_cases hlt : i < (n : Int)
   case neg =>
    obtain rfl : i = (n : Int):=by omega
    have hq:=HQ.out
    rw [List.drop_of_length_le (by simp;omega)] at hq
    have HQ2:=am (show (if ca_text.f h0.1 h0.2 acc = s then some (h0.1,h0.2,acc) else none) = parsedF s by have h:=hq;simp only [rowsGo,Option.bind_some,List.append_nil] at h;exact h)
    clear hq HQ
    obtain ⟨A2,c2,rfl,hle2,hC2⟩:=Kd.R_reads RNn.out
    have HC2:=am hC2
    have HL2:=am hle2
    clear hC2 hle2
    have HTX:=am (ca_text.calls A1 l0.length c1 d A2 c2 acc h0.1 h0.2 W1 HC2.out (HG.out.below HB.out) (by have:=HAL.out;omega) (by have:=HRG.out;omega) HAB.out)
    obtain ⟨txt,htxt⟩ : ∃ x,ca_text.f h0.1 h0.2 acc = x:=⟨_,rfl⟩
    rw [htxt] at HTX HQ2
    clear htxt
    (try clear hcgb_0 hfgb_0 hcgb_1 hfgb_1 hcgb_2 hfgb_2 hcgb_3 hfgb_3 hcgb_4 hfgb_4);have hcgb_0 : W1.cell? ⟨gb,0,none⟩ = some (.slice A1 l0.length c1):=(blk_cell Bgb.out 0).trans rfl;have hfgb_0:=blk_frozen Bgb.out 0;have hcgb_1 : W1.cell? ⟨gb,1,none⟩ = some (.int .i64 d):=(blk_cell Bgb.out 1).trans rfl;have hfgb_1:=blk_frozen Bgb.out 1;have hcgb_2 : W1.cell? ⟨gb,2,none⟩ = some (.slice A2 acc.length c2):=(blk_cell Bgb.out 2).trans rfl;have hfgb_2:=blk_frozen Bgb.out 2;have hcgb_3 : W1.cell? ⟨gb,3,none⟩ = some (.int .i64 h0.1):=(blk_cell Bgb.out 3).trans rfl;have hfgb_3:=blk_frozen Bgb.out 3;have hcgb_4 : W1.cell? ⟨gb,4,none⟩ = some (.int .i64 h0.2):=(blk_cell Bgb.out 4).trans rfl;have hfgb_4:=blk_frozen Bgb.out 4
    have HX1:=am (Kd.R_reads' ROt.out)
    by_cases heq : txt = s
    case neg =>
     have hqe:=bl_false heq
     have HR:=am (show parsedF s = none by rw [← HQ2.out];exact if_neg heq)
     clear heq
     go_wp2_with (first | (go_at_call 89;(with_reducible refine HTX.out.mono ?_);rintro e w12 ⟨rfl,hb⟩;replace HB:=(bmv HB hb);replace Bgb:=(kmv hb Bgb);replace Bgr:=(kmv hb Bgr);replace ROt:=am (Kd.R_below ROt.out hb);replace RNn:=am (Kd.R_below RNn.out hb);clear hb) | (go_at_call 122;(refine (ca_sure_P.calls false s s _ rfl).mono ?_);rintro e w13 ⟨rfl,hd⟩;have hb:=hd.below;clear hd;replace HB:=(bmv HB hb);replace Bgb:=(kmv hb Bgb);clear hb))
     refine ⟨rfl,?_,HB.out⟩
     rw [HR.out]
     exact ⟨_,rfl⟩
    have hqe:=bl_true heq
    have HR:=am (show parsedF s = some (h0.1,h0.2,acc) by rw [← HQ2.out];exact if_pos heq)
    clear heq
    go_wp2_with (first | (go_at_call 89;(with_reducible refine HTX.out.mono ?_);rintro e w12 ⟨rfl,hb⟩;replace HB:=(bmv HB hb);replace Bgb:=(kmv hb Bgb);replace Bgr:=(kmv hb Bgr);replace ROt:=am (Kd.R_below ROt.out hb);replace RNn:=am (Kd.R_below RNn.out hb);clear hb) | (go_at_call 122;(refine (ca_sure.calls true s  _ rfl).mono ?_);rintro e w13 ⟨rfl,hd⟩;have hb:=hd.below;clear hd;replace HB:=(bmv HB hb);replace Bgb:=(kmv hb Bgb);replace Bgr:=(kmv hb Bgr);replace ROt:=am (Kd.R_below ROt.out hb);replace RNn:=am (Kd.R_below RNn.out hb);clear hb;(try clear hcgb_0 hfgb_0 hcgb_1 hfgb_1 hcgb_2 hfgb_2 hcgb_3 hfgb_3 hcgb_4 hfgb_4);have hcgb_0:=cO1 Bgb.out;have hfgb_0:=blk_frozen Bgb.out 0;have hcgb_1 : w13.cell? ⟨gb,1,none⟩ = some (.int .i64 d):=(blk_cell Bgb.out 1).trans rfl;have hfgb_1:=blk_frozen Bgb.out 1;have hcgb_2 : w13.cell? ⟨gb,2,none⟩ = some (.slice A2 acc.length c2):=(blk_cell Bgb.out 2).trans rfl;have hfgb_2:=blk_frozen Bgb.out 2;have hcgb_3 : w13.cell? ⟨gb,3,none⟩ = some (.int .i64 h0.1):=(blk_cell Bgb.out 3).trans rfl;have hfgb_3:=blk_frozen Bgb.out 3;have hcgb_4 : w13.cell? ⟨gb,4,none⟩ = some (.int .i64 h0.2):=(blk_cell Bgb.out 4).trans rfl;have hfgb_4:=blk_frozen Bgb.out 4;(try clear hcgr_0 hfgr_0 hcgr_1 hfgr_1 hcgr_2 hfgr_2 hcgr_3 hfgr_3 hcgr_4 hfgr_4);have hcgr_0:=cO1 Bgr.out;have hfgr_0:=blk_frozen Bgr.out 0;have hcgr_1 : w13.cell? ⟨gr,1,none⟩ = some (.int .i64 0):=(blk_cell Bgr.out 1).trans rfl;have hfgr_1:=blk_frozen Bgr.out 1;have hcgr_2 : w13.cell? ⟨gr,2,none⟩ = some (.slice none 0 0):=(blk_cell Bgr.out 2).trans rfl;have hfgr_2:=blk_frozen Bgr.out 2;have hcgr_3 : w13.cell? ⟨gr,3,none⟩ = some (.int .i64 0):=(blk_cell Bgr.out 3).trans rfl;have hfgr_3:=blk_frozen Bgr.out 3;have hcgr_4 : w13.cell? ⟨gr,4,none⟩ = some (.int .i64 0):=(blk_cell Bgr.out 4).trans rfl;have hfgr_4:=blk_frozen Bgr.out 4))
    refine bodyPost_ret (results_cell_row rfl _ _ gr 27 #[.slice A1 l0.length c1,.int .i64 d,.slice A2 acc.length c2,.int .i64 h0.1,.int .i64 h0.2] (0,0) _ rfl ((blk_set (blk_set (blk_set (blk_set (blk_set Bgr.out 0 _) 1 _) 2 _) 3 _) 4 _).trans rfl) Tryz.underlying27 rfl (by kernel_rfl)) rfl ?_
    refine ⟨?_,(below_set (below_set (below_set (below_set (below_set HB.out Ggr.out) Ggr.out) Ggr.out) Ggr.out) Ggr.out)⟩
    rw [HR.out]
    exact ⟨A1,c1,A2,c2,rfl,(Kd.R_set (Kd.R_set (Kd.R_set (Kd.R_set (Kd.R_set ROt.out Bgr.out (by decide) 0 (.slice A1 l0.length c1)) (blk_set Bgr.out 0 (.slice A1 l0.length c1)) (by decide) 1 (.int .i64 d)) (blk_set (blk_set Bgr.out 0 (.slice A1 l0.length c1)) 1 (.int .i64 d)) (by decide) 2 (.slice A2 acc.length c2)) (blk_set (blk_set (blk_set Bgr.out 0 (.slice A1 l0.length c1)) 1 (.int .i64 d)) 2 (.slice A2 acc.length c2)) (by decide) 3 (.int .i64 h0.1)) (blk_set (blk_set (blk_set (blk_set Bgr.out 0 (.slice A1 l0.length c1)) 1 (.int .i64 d)) 2 (.slice A2 acc.length c2)) 3 (.int .i64 h0.1)) (by decide) 4 (.int .i64 h0.2)),(Kd.R_set (Kd.R_set (Kd.R_set (Kd.R_set (Kd.R_set RNn.out Bgr.out (by decide) 0 (.slice A1 l0.length c1)) (blk_set Bgr.out 0 (.slice A1 l0.length c1)) (by decide) 1 (.int .i64 d)) (blk_set (blk_set Bgr.out 0 (.slice A1 l0.length c1)) 1 (.int .i64 d)) (by decide) 2 (.slice A2 acc.length c2)) (blk_set (blk_set (blk_set Bgr.out 0 (.slice A1 l0.length c1)) 1 (.int .i64 d)) 2 (.slice A2 acc.length c2)) (by decide) 3 (.int .i64 h0.1)) (blk_set (blk_set (blk_set (blk_set Bgr.out 0 (.slice A1 l0.length c1)) 1 (.int .i64 d)) 2 (.slice A2 acc.length c2)) 3 (.int .i64 h0.1)) (by decide) 4 (.int .i64 h0.2))⟩
   obtain ⟨y,hy⟩ : ∃ y,ws.getD (i.toNat + 1) ByteArray.empty = y:=⟨_,rfl⟩
   have hq:=HQ.out
   rw [rowsGo_drop (by omega) HNW.out,hy] at hq
   have HY:=am (show y.size < 4294967281 by rw [← hy];exact HSZ.out _ (by have:=HNW.out;omega))
   have hcy : W1.cell? ⟨g,i.toNat + 1,none⟩ = some (.string y):=(strs_cell Bg.out (i.toNat + 1) (by have:=HNW.out;omega)).trans (by rw [hy])
   have hcy2 : W1.cell? ⟨g,1 + i.toNat,none⟩ = some (.string y):=by rw [Nat.add_comm];exact hcy
   clear hy HQ
   obtain ⟨q,hqt⟩ : ∃ q,toldF y nozzleB = q:=⟨_,rfl⟩
   rw [hqt] at hq
   have HT:=am hqt
   clear hqt
   cases q with
   | none =>
    have HR:=am (show parsedF s = none from hq.symm)
    clear hq
    go_wp2_with (first | ((refine gate_dst (N:=9) rfl ?_);(try (refine gate_guard (by rfl) ?_;dsimp only));refine box_event rfl (N:=9) rfl (cs:=#[.int .i64 0,.int .i64 0]) (t:=48) ?hr ?_;(case hr=>go_simp;try rfl);intro gn hg_ w12 hbox hb;have Ggn:=am (show w.heap.size≤gn by have:=HB.out.size;omega);replace RNn:=am (Kd.R_mono (Kd.R_bound RNn.out) (fun k hk=>show k ≠ gn from fun e_=>by have:=hk.2.2.1;omega));have HNbn:=am (show gb ≠ gn by have:=blk_lt Bgb.out;omega);have HNrn:=am (show gr ≠ gn by have:=blk_lt Bgr.out;omega);have HNgn:=am (show g ≠ gn by have:=blk_lt Bg.out;omega);clear hg_;have Bgn:=am hbox;clear hbox;replace HB:=(bmv HB hb);replace Bgb:=(kmv hb Bgb);replace Bgr:=(kmv hb Bgr);replace Bg:=(kmv hb Bg);replace ROt:=am (Kd.R_below ROt.out hb);replace RNn:=am (Kd.R_below RNn.out hb);clear hb;(try clear hcgn_0 hfgn_0 hcgn_1 hfgn_1);have hcgn_0:=cO1 Bgn.out;have hfgn_0:=blk_frozen Bgn.out 0;have hcgn_1 : w12.cell? ⟨gn,1,none⟩ = some (.int .i64 0):=(blk_cell Bgn.out 1).trans rfl;have hfgn_1:=blk_frozen Bgn.out 1) | (go_at_call 124;(with_reducible refine (told_none (wd:=nozzleB) words_at1 _ HY.out (HG.out.below HB.out) HT.out).mono ?_);rintro e w13 ⟨s_,rfl,hb⟩;replace HB:=(bmv HB hb);replace Bgb:=(kmv hb Bgb);replace Bgr:=(kmv hb Bgr);replace Bg:=(kmv hb Bg);replace Bgn:=(kmv hb Bgn);replace ROt:=am (Kd.R_below ROt.out hb);replace RNn:=am (Kd.R_below RNn.out hb);clear hb))
    refine ⟨rfl,?_,HB.out⟩
    rw [HR.out]
    exact ⟨_,rfl⟩
   | some q =>
    have HRQ:=am (toldF_range HT.out)
    have HAL16:=am (show (acc.length + 1) * 16≤140737488355328 by have:=HAL.out;omega)
    have HQ:=am (show (rowsGo (((ws.drop 1).take n).drop (i + 1).toNat)).bind (fun l=>if ca_text.f h0.1 h0.2 (acc ++ [⟨q.1,q.2⟩] ++ l) = s then some (h0.1,h0.2,acc ++ [⟨q.1,q.2⟩] ++ l) else none) = parsedF s by rw [show (i + 1).toNat = i.toNat + 1 by omega];rw [← hq];simp only [Option.bind_some];cases rowsGo (((ws.drop 1).take n).drop (i.toNat + 1)) with
    | none=>rfl
    | some l=>simp [List.append_assoc])
    clear hq
    go_wp2_with (first | ((refine gate_dst (N:=9) rfl ?_);(try (refine gate_guard (by rfl) ?_;dsimp only));refine box_event rfl (N:=9) rfl (cs:=#[.int .i64 0,.int .i64 0]) (t:=48) ?hr ?_;(case hr=>go_simp;try rfl);intro gn hg_ w12 hbox hb;have Ggn:=am (show w.heap.size≤gn by have:=HB.out.size;omega);replace RNn:=am (Kd.R_mono (Kd.R_bound RNn.out) (fun k hk=>show k ≠ gn from fun e_=>by have:=hk.2.2.1;omega));have HNbn:=am (show gb ≠ gn by have:=blk_lt Bgb.out;omega);have HNrn:=am (show gr ≠ gn by have:=blk_lt Bgr.out;omega);have HNgn:=am (show g ≠ gn by have:=blk_lt Bg.out;omega);clear hg_;have Bgn:=am hbox;clear hbox;replace HB:=(bmv HB hb);replace Bgb:=(kmv hb Bgb);replace Bgr:=(kmv hb Bgr);replace Bg:=(kmv hb Bg);replace ROt:=am (Kd.R_below ROt.out hb);replace RNn:=am (Kd.R_below RNn.out hb);clear hb;(try clear hcgn_0 hfgn_0 hcgn_1 hfgn_1);have hcgn_0:=cO1 Bgn.out;have hfgn_0:=blk_frozen Bgn.out 0;have hcgn_1 : w12.cell? ⟨gn,1,none⟩ = some (.int .i64 0):=(blk_cell Bgn.out 1).trans rfl;have hfgn_1:=blk_frozen Bgn.out 1) | (go_at_call 124;(with_reducible refine (told_some (wd:=nozzleB) words_at1 _ HY.out (HG.out.below HB.out) HT.out).mono ?_);rintro e w13 ⟨rfl,hb⟩;replace HB:=(bmv HB hb);replace Bgb:=(kmv hb Bgb);replace Bgr:=(kmv hb Bgr);replace Bg:=(kmv hb Bg);replace Bgn:=(kmv hb Bgn);replace ROt:=am (Kd.R_below ROt.out hb);replace RNn:=am (Kd.R_below RNn.out hb);clear hb;(try clear hcgn_0 hfgn_0 hcgn_1 hfgn_1);have hcgn_0:=cO1 Bgn.out;have hfgn_0:=blk_frozen Bgn.out 0;have hcgn_1 : w13.cell? ⟨gn,1,none⟩ = some (.int .i64 0):=(blk_cell Bgn.out 1).trans rfl;have hfgn_1:=blk_frozen Bgn.out 1) | ((with_reducible refine gate_store (t:=3) (p:=47) rfl ?_);refine skip_abs (fun W'=>W'.heap[gn]? = some (.cells #[.int .i64 q.1,.int .i64 0] 48 (0,0))∧W'.heap[gb]? = some (.cells #[.slice A1 l0.length c1,.int .i64 d,vn,.int .i64 h0.1,.int .i64 h0.2] 27 (0,0))∧W'.heap[gr]? = some (.cells #[.slice none 0 0,.int .i64 0,.slice none 0 0,.int .i64 0,.int .i64 0] 27 (0,0))∧W'.heap[g]? = some (.cells (ws.map Value.string).toArray 9 (0,0))∧Kd.R k126 126 W' w.heap.size (fun _=>True) (.slice A1 l0.length c1) l0∧Kd.R k48 48 W' w.heap.size (fun k=>k ≠ gn) vn acc∧Below w.heap.size w W') ?hg ?hd ?hr ⟨(blk_set Bgn.out 0 _).trans rfl,blk_far Bgb.out HNbn.out _,blk_far Bgr.out HNrn.out _,blk_far Bg.out HNgn.out _,Kd.R_set ROt.out Bgn.out (by decide) 0 _,Kd.R_far (p:=⟨gn,0,none⟩) RNn.out (fun k hk=>hk) _,below_set HB.out Ggn.out⟩ ?_;(case hg=>rfl);(case hd=>rfl);(case hr=>go_simp;try rfl);rintro w14 ⟨k0,k1,k2,k3,k4,k5,k6⟩;clear Bgn Bgb Bgr Bg ROt RNn HB;have Bgn:=am k0;have Bgb:=am k1;have Bgr:=am k2;have Bg:=am k3;have ROt:=am k4;have RNn:=am k5;have HB:=am k6;clear k0 k1 k2 k3 k4 k5 k6;(try clear hcgn_0 hfgn_0 hcgn_1 hfgn_1);have hcgn_0:=cO1 Bgn.out;have hfgn_0:=blk_frozen Bgn.out 0;have hcgn_1 : w14.cell? ⟨gn,1,none⟩ = some (.int .i64 0):=(blk_cell Bgn.out 1).trans rfl;have hfgn_1:=blk_frozen Bgn.out 1) | ((with_reducible refine gate_store (t:=3) (p:=48) rfl ?_);refine skip_abs (fun W'=>W'.heap[gn]? = some (.cells #[.int .i64 q.1,.int .i64 q.2] 48 (0,0))∧W'.heap[gb]? = some (.cells #[.slice A1 l0.length c1,.int .i64 d,vn,.int .i64 h0.1,.int .i64 h0.2] 27 (0,0))∧W'.heap[gr]? = some (.cells #[.slice none 0 0,.int .i64 0,.slice none 0 0,.int .i64 0,.int .i64 0] 27 (0,0))∧W'.heap[g]? = some (.cells (ws.map Value.string).toArray 9 (0,0))∧Kd.R k126 126 W' w.heap.size (fun _=>True) (.slice A1 l0.length c1) l0∧Kd.R k48 48 W' w.heap.size (fun k=>k ≠ gn) vn acc∧Below w.heap.size w W') ?hg ?hd ?hr ⟨(blk_set Bgn.out 1 _).trans rfl,blk_far Bgb.out HNbn.out _,blk_far Bgr.out HNrn.out _,blk_far Bg.out HNgn.out _,Kd.R_set ROt.out Bgn.out (by decide) 1 _,Kd.R_far (p:=⟨gn,1,none⟩) RNn.out (fun k hk=>hk) _,below_set HB.out Ggn.out⟩ ?_;(case hg=>rfl);(case hd=>rfl);(case hr=>go_simp;try rfl);rintro w15 ⟨k0,k1,k2,k3,k4,k5,k6⟩;clear Bgn Bgb Bgr Bg ROt RNn HB;have Bgn:=am k0;have Bgb:=am k1;have Bgr:=am k2;have Bg:=am k3;have ROt:=am k4;have RNn:=am k5;have HB:=am k6;clear k0 k1 k2 k3 k4 k5 k6;(try clear hcgn_0 hfgn_0 hcgn_1 hfgn_1);have hcgn_0:=cO1 Bgn.out;have hfgn_0:=blk_frozen Bgn.out 0;have hcgn_1 : w15.cell? ⟨gn,1,none⟩ = some (.int .i64 q.2):=(blk_cell Bgn.out 1).trans rfl;have hfgn_1:=blk_frozen Bgn.out 1;(try clear hcgb_0 hfgb_0 hcgb_1 hfgb_1 hcgb_2 hfgb_2 hcgb_3 hfgb_3 hcgb_4 hfgb_4);have hcgb_0:=cO1 Bgb.out;have hfgb_0:=blk_frozen Bgb.out 0;have hcgb_1 : w15.cell? ⟨gb,1,none⟩ = some (.int .i64 d):=(blk_cell Bgb.out 1).trans rfl;have hfgb_1:=blk_frozen Bgb.out 1;have hcgb_2 : w15.cell? ⟨gb,2,none⟩ = some (vn):=(blk_cell Bgb.out 2).trans rfl;have hfgb_2:=blk_frozen Bgb.out 2;have hcgb_3 : w15.cell? ⟨gb,3,none⟩ = some (.int .i64 h0.1):=(blk_cell Bgb.out 3).trans rfl;have hfgb_3:=blk_frozen Bgb.out 3;have hcgb_4 : w15.cell? ⟨gb,4,none⟩ = some (.int .i64 h0.2):=(blk_cell Bgb.out 4).trans rfl;have hfgb_4:=blk_frozen Bgb.out 4) | ((with_reducible refine gate_builtin (b:=.append) (xs:=#[.tmp 50,.tmp 52]) rfl ?_);(try (refine gate_guard (by rfl) ?_;dsimp only));at_builtin;refine Kd.R_append k48 (w0:=w) w.heap.size rfl (.tmp 50) (.tmp 52) 25 48 (.agg #[.int .i64 0,.int .i64 0]) 16 rfl Tryz.underlying25 info48 rfl (by decide) (by decide) vn acc ⟨q.1,q.2⟩ [.int .i64 q.1,.int .i64 q.2] (fun k=>k ≠ gn) (fun _=>False) rfl (by simp [Act.eval,World.size_alloc]) (k48_mkM _ _ _ _) (fun _ hk=>hk.elim) (fun k hk e_=>by have:=blk_lt Bgn.out;omega) RNn.out HB.out HB.out.size HAL16.out ?_;intro v1 w1 ho1 hb1 hg1 hat1;obtain ⟨Av,Lv,cv,rfl⟩ : ∃ Av Lv cv,v1 = .slice Av Lv cv:=(by obtain ⟨a_,c_,h_⟩:=Kd.R_slice ho1;exact ⟨a_,_,c_,h_⟩);have n1:=am (blk_grown Bgb.out hg1 (own_neP RNn.out Bgb.out (by decide)));have n2:=am (blk_grown Bgr.out hg1 (own_neP RNn.out Bgr.out (by decide)));have n3:=am (blk_grown Bg.out hg1 (own_neP RNn.out Bg.out (by decide)));have n4:=am (Kd.R_grown2 ROt.out rfl hg1 (own_apartP RNn.out ROt.out (by decide)));clear hg1 hat1 Bgb Bgr Bg ROt RNn HB Bgn;have Bgb:=n1;have Bgr:=n2;have Bg:=n3;have ROt:=n4;have RNn:=am ho1;have HB:=am hb1;clear n1 n2 n3 n4 ho1 hb1;(try clear hcgn_0 hcgn_1 hfgn_0 hfgn_1);(try clear hcgb_0 hfgb_0 hcgb_1 hfgb_1 hcgb_2 hfgb_2 hcgb_3 hfgb_3 hcgb_4 hfgb_4);have hcgb_0:=cO1 Bgb.out;have hfgb_0:=blk_frozen Bgb.out 0;have hcgb_1 : w1.cell? ⟨gb,1,none⟩ = some (.int .i64 d):=(blk_cell Bgb.out 1).trans rfl;have hfgb_1:=blk_frozen Bgb.out 1;have hcgb_2 : w1.cell? ⟨gb,2,none⟩ = some (vn):=(blk_cell Bgb.out 2).trans rfl;have hfgb_2:=blk_frozen Bgb.out 2;have hcgb_3 : w1.cell? ⟨gb,3,none⟩ = some (.int .i64 h0.1):=(blk_cell Bgb.out 3).trans rfl;have hfgb_3:=blk_frozen Bgb.out 3;have hcgb_4 : w1.cell? ⟨gb,4,none⟩ = some (.int .i64 h0.2):=(blk_cell Bgb.out 4).trans rfl;have hfgb_4:=blk_frozen Bgb.out 4) | ((with_reducible refine gate_store (t:=25) (p:=54) rfl ?_);refine skip_abs (fun W'=>W'.heap[gb]? = some (.cells #[.slice A1 l0.length c1,.int .i64 d,.slice Av Lv cv,.int .i64 h0.1,.int .i64 h0.2] 27 (0,0))∧W'.heap[gr]? = some (.cells #[.slice none 0 0,.int .i64 0,.slice none 0 0,.int .i64 0,.int .i64 0] 27 (0,0))∧W'.heap[g]? = some (.cells (ws.map Value.string).toArray 9 (0,0))∧Kd.R k126 126 W' w.heap.size (fun _=>True) (.slice A1 l0.length c1) l0∧Kd.R k48 48 W' w.heap.size (fun k=>k ≠ gn) (.slice Av Lv cv) (acc ++ [⟨q.1,q.2⟩])∧Below w.heap.size w W') ?hg ?hd ?hr ⟨(blk_set Bgb.out 2 _).trans rfl,blk_far Bgr.out HNrb.out _,blk_far Bg.out HNgb.out _,Kd.R_set ROt.out Bgb.out (by decide) 2 _,Kd.R_set RNn.out Bgb.out (by decide) 2 _,below_set HB.out Ggb.out⟩ ?_;(case hg=>rfl);(case hd=>rfl);(case hr=>go_simp;try rfl);rintro w16 ⟨k0,k1,k2,k3,k4,k5⟩;clear Bgb Bgr Bg ROt RNn HB;have Bgb:=am k0;have Bgr:=am k1;have Bg:=am k2;have ROt:=am k3;have RNn:=am k4;have HB:=am k5;clear k0 k1 k2 k3 k4 k5;(try clear hcgb_0 hfgb_0 hcgb_1 hfgb_1 hcgb_2 hfgb_2 hcgb_3 hfgb_3 hcgb_4 hfgb_4)))
    go_roundw
    case rel =>
     refine ⟨i + 1,.slice Av Lv cv,acc ++ [⟨q.1,q.2⟩],?_,?_,?_,?_,?_,?_,?_,?_,?_,?_,?_,?_⟩
     ·exact Int.add_nonneg p1 (by decide)
     ·exact hlt
     ·go_num
     ·exact HQ
     ·exact ⟨len_snoc HAL.out⟩
     ·exact ⟨bnd_snoc HAB.out HRQ.out⟩
     ·exact Bgb
     ·exact Bgr
     ·exact Bg
     ·exact ROt
     ·exact ⟨Kd.R_mono RNn.out (fun _ _=>trivial)⟩
     ·exact HB
    exact meas_up p1 hlt
theorem catch_idle (p : Addr) (w : World) :
 CallsD Tryz.prog 120 #[.pointer (some p)] .returning w fun e u' w'=>e = .returned (.tuple #[])∧u' = .returning∧w' = w:=by
 refine callsD_of_wpS Tryz.func120 rfl fun c₀ cs hu=>?_
 apply wpS_seq
 apply wpS_region
 simp [wpOpsS,go_sem,recoverD,hu,Tryz.ntmps120,Exit.thenS]
 refine wpS_of_wp ?_
 simp only [List.size_toArray,List.length_cons,List.length_nil,Nat.reduceAdd,Nat.reduceSub,Array.replicate_succ,Array.replicate_zero,List.push_toArray,List.append_toArray,List.nil_append,List.cons_append,List.setIfInBounds_toArray,List.set_cons_zero,List.set_cons_succ]
 go_wp2
 cases c₀
 simp_all [bodyPostS,results,Tryz.results120]
theorem catch_text (p : Addr) (x : Int) (s : ByteArray) (older : List PanicEntry) (w : World) (hc : w.cell? p = some (.int .i64 x)) (hz : w.frozen? p = false) :
 CallsD Tryz.prog 120 #[.pointer (some p)] (.panicking ({ v:=.iface 167 (.agg #[.string s]),recovered:=false } :: older)) w fun e u' w'=>e = .returned (.tuple #[])∧u' = .panicking ({ v:=.iface 167 (.agg #[.string s]),recovered:=true } :: older)∧w' = (w.alloc (.cells #[.string s] 167)).setCell p (.int .i64 4):=by
 have hta : ∀ (v : Value) (W : World),(Instr.typeAssert (.iface 167 v) 20 165 true).run Tryz.prog W = .ok (.tuple #[.agg #[.int .i64 0,.int .i64 0],.bool false]) W:=fun v W=>by kernel_rfl
 have htb : ∀ (v : Value) (W : World),(Instr.typeAssert (.iface 167 v) 20 167 true).run Tryz.prog W = .ok (.tuple #[v,.bool true]) W:=fun v W=>by kernel_rfl
 have huT:=Tryz.underlying167
 have hc2 : (w.alloc (.cells #[.string s] 167)).cell? p = some (.int .i64 x):=pw_cell_below (below_alloc (Below.refl _ w) _) hc
 have hz2 : (w.alloc (.cells #[.string s] 167)).frozen? p = false:=((below_alloc (Below.refl w.heap.size w) _).frozen (World.block_lt_of_cell? w p hc)).trans hz
 refine callsD_of_wpS Tryz.func120 rfl fun c₀ cs hu=>?_
 apply wpS_seq
 apply wpS_region
 simp [wpOpsS,go_sem,recoverD,hu,Tryz.ntmps120,Exit.thenS]
 refine wpS_of_wp ?_
 simp only [List.size_toArray,List.length_cons,List.length_nil,Nat.reduceAdd,Nat.reduceSub,Array.replicate_succ,Array.replicate_zero,List.push_toArray,List.append_toArray,List.nil_append,List.cons_append,List.setIfInBounds_toArray,List.set_cons_zero,List.set_cons_succ]
 go_wp2
 cases c₀
 simp_all [bodyPostS,results,Tryz.results120]
theorem attempt_Read_ok (g1 g2 g3 : Nat) (I : World→Prop) (w : World)
 (hX : Calls Tryz.prog 91 #[.pointer (some ⟨g1,0,none⟩),.pointer (some ⟨g2,0,none⟩),.pointer (some ⟨g3,0,none⟩)] (w.alloc (.cells #[.int .i64 0] 33)) fun e W'=>e = .returned (.tuple #[])∧I W') (hI : ∀ W',I W'→W'.cell? ⟨w.heap.size,0,none⟩ = some (.int .i64 0)∧W'.frozen? ⟨w.heap.size,0,none⟩ = false) :
 Calls Tryz.prog 90 #[.func (.func 91) #[] #[.pointer (some ⟨g1,0,none⟩),.pointer (some ⟨g2,0,none⟩),.pointer (some ⟨g3,0,none⟩)]] w fun e w'=>e = .returned (.int .i64 0)∧∃ W',I W'∧w' = W'.setCell ⟨w.heap.size,0,none⟩ (.int .i64 0):=by
 have hmf : ∀ (fn : Fn) (first cap : Array Value) (w : World),(Instr.makeFunc fn first cap).run Tryz.prog w = .ok (.func fn first cap) w:=fun _ _ _ _=>rfl
 have HX:=Lib.hid hX
 have HI:=Lib.hid hI
 clear hX hI
 go_enter_defers Tryz.func90,Tryz.ntmps90
 go_wp2_with (go_at_call 91;refine (HX.out).mono ?_;rintro e W1 ⟨rfl,hi⟩;have hc0:=(HI.out _ hi).1;have hz0:=(HI.out _ hi).2)
 refine leaves_cons (f:=120) (args:=#[.pointer (some ⟨w.heap.size,0,none⟩)]) (by simp) (by simp [go_sem]) ?_
 refine (catch_idle ⟨w.heap.size,0,none⟩ _).mono ?_
 rintro e u' w'' ⟨rfl,rfl,rfl⟩
 refine ⟨.int .i64 0,?_,rfl,W1,hi,rfl⟩
 simp [settle,results,Tryz.results90,go_sem,hc0,hz0]
theorem attempt_Read_text (g1 g2 g3 : Nat)  (I : World→Prop) (w : World)
 (hX : Calls Tryz.prog 91 #[.pointer (some ⟨g1,0,none⟩),.pointer (some ⟨g2,0,none⟩),.pointer (some ⟨g3,0,none⟩)] (w.alloc (.cells #[.int .i64 0] 33)) fun e W'=>∃ s,e = .panicked [{ v:=.iface 167 (.agg #[.string s]),recovered:=false }]∧I W') (hI : ∀ W',I W'→W'.cell? ⟨w.heap.size,0,none⟩ = some (.int .i64 0)∧W'.frozen? ⟨w.heap.size,0,none⟩ = false) :
 Calls Tryz.prog 90 #[.func (.func 91) #[] #[.pointer (some ⟨g1,0,none⟩),.pointer (some ⟨g2,0,none⟩),.pointer (some ⟨g3,0,none⟩)]] w fun e w'=>e = .returned (.int .i64 4)∧∃ s W',I W'∧w' = (W'.alloc (.cells #[.string s] 167)).setCell ⟨w.heap.size,0,none⟩ (.int .i64 4):=by
 have hmf : ∀ (fn : Fn) (first cap : Array Value) (w : World),(Instr.makeFunc fn first cap).run Tryz.prog w = .ok (.func fn first cap) w:=fun _ _ _ _=>rfl
 have HX:=Lib.hid hX
 have HI:=Lib.hid hI
 clear hX hI
 go_enter_defers Tryz.func90,Tryz.ntmps90
 go_wp2_with (go_at_call 91;refine (HX.out).mono ?_;rintro e W1 ⟨s,rfl,hi⟩;have hc0:=(HI.out _ hi).1;have hz0:=(HI.out _ hi).2)
 refine leaves_cons (f:=120) (args:=#[.pointer (some ⟨w.heap.size,0,none⟩)]) (by simp) (by simp [go_sem]) ?_
 refine (catch_text ⟨w.heap.size,0,none⟩ 0 s [] _ hc0 hz0).mono ?_
 rintro e u' w'' ⟨rfl,rfl,rfl⟩
 refine ⟨.int .i64 4,?_,rfl,s,W1,hi,rfl⟩
 have hc2 : (W1.alloc (.cells #[.string s] 167)).cell? ⟨w.heap.size,0,none⟩ = some (.int .i64 0):=pw_cell_below (below_alloc (Below.refl _ W1) _) hc0
 simp [settle,results,Tryz.results90,go_sem]
 rw [World.cell?_setCell_same' _ _ _ (by rw [hc2];rfl)]
def ReadI (w0 : World) (gx gr ge : Nat) (l0 : List S126) (d : Int) (l : List S48) (we sp : Int) (W' : World) : Prop:=∃ A1 c1 A2 c2,W'.heap[gx]? = some (.cells #[.slice A1 l0.length c1,.int .i64 d,.slice A2 l.length c2,.int .i64 we,.int .i64 sp] 27 (0,0))∧W'.heap[gr]? = some (.cells #[.slice none 0 0,.int .i64 0,.slice none 0 0,.int .i64 0,.int .i64 0] 27 (0,0))∧W'.heap[ge]? = some (.cells #[.int .i64 0] 33 (0,0))∧Kd.R k126 126 W' w0.heap.size (fun _=>True) (.slice A1 l0.length c1) l0∧Kd.R k48 48 W' w0.heap.size (fun _=>True) (.slice A2 l.length c2) l∧Below w0.heap.size w0 W'
def ReadN (w0 : World) (gr ge : Nat) (W' : World) : Prop:=W'.heap[gr]? = some (.cells #[.slice none 0 0,.int .i64 0,.slice none 0 0,.int .i64 0,.int .i64 0] 27 (0,0))∧W'.heap[ge]? = some (.cells #[.int .i64 0] 33 (0,0))∧Below w0.heap.size w0 W'
theorem Read1_ok (w0 W : World) (gt gs gx gr ge : Nat) (A0 : Option Addr) (c0 : Nat) (l0 : List S126) (d : Int) (s : ByteArray) (hB : Below w0.heap.size w0 W) (hgx : w0.heap.size≤gx) (hne1 : gr ≠ gx) (bt : W.heap[gt]? = some (.cells #[.slice A0 l0.length c0,.int .i64 d] 24 (0,0))) (bs : W.heap[gs]? = some (.cells #[.string s] 9 (0,0))) (bx : W.heap[gx]? = some (.cells #[.slice none 0 0,.int .i64 0,.slice none 0 0,.int .i64 0,.int .i64 0] 27 (0,0))) (br : W.heap[gr]? = some (.cells #[.slice none 0 0,.int .i64 0,.slice none 0 0,.int .i64 0,.int .i64 0] 27 (0,0))) (be : W.heap[ge]? = some (.cells #[.int .i64 0] 33 (0,0))) (hr0 : Kd.C k126 W A0 l0.length l0) (hc0 : l0.length≤c0) (hl0 : l0.length < 5864062014805) (hs : s.size≤1000) (hg : GV W) (we sp : Int) (l : List S48) (hp : parsedF s = some (we,sp,l)) :
 Calls Tryz.prog 91 #[.pointer (some ⟨gt,0,none⟩),.pointer (some ⟨gs,0,none⟩),.pointer (some ⟨gx,0,none⟩)] W fun e W'=>e = .returned (.tuple #[])∧ReadI w0 gx gr ge l0 d l we sp W':=by
 obtain ⟨hct0,hct1⟩:=cO2 bt
 have hcs:=cO1 bs
 have HC:=am (ca_parsed.calls A0 c0 l0 d s W hr0 hc0 hl0 hs hg)
 have HP:=am hp
 have HBX:=am bx
 have HBR:=am br
 have HBE:=am be
 have HB:=am hB
 have HGX:=am hgx
 have HN1:=am hne1
 have hu:=Tryz.underlying27
 have hut:=Tryz.underlying24
 clear bt bs bx br be hr0 hc0 hl0 hs hg hp hB hgx hne1
 go_enter Tryz.func91,Tryz.ntmps91
 go_wp2_with (go_at_call 92;refine (HC.out).mono ?_;rintro e w2 hpost;unfold ParsedPost at hpost;rw [HP.out] at hpost;obtain ⟨⟨A1,c1,A2,c2,rfl,hr1,hr2⟩,hb⟩:=hpost;have n1:=(kmv hb HBX);have n2:=(kmv hb HBR);have n3:=(kmv hb HBE);have R1:=am (Kd.R_lower hr1 HB.out.size);have R2:=am (Kd.R_lower hr2 HB.out.size);have n4:=(bmv HB hb);clear hb hr1 hr2 HBX HBR HBE HB;have hcx0:=cO1 n1.out;have hfx0:=blk_frozen n1.out 0;have hcx1 : w2.cell? ⟨gx,1,none⟩ = some (.int .i64 0):=(blk_cell n1.out 1).trans rfl;have hfx1:=blk_frozen n1.out 1;have hcx2 : w2.cell? ⟨gx,2,none⟩ = some (.slice none 0 0):=(blk_cell n1.out 2).trans rfl;have hfx2:=blk_frozen n1.out 2;have hcx3 : w2.cell? ⟨gx,3,none⟩ = some (.int .i64 0):=(blk_cell n1.out 3).trans rfl;have hfx3:=blk_frozen n1.out 3;have hcx4 : w2.cell? ⟨gx,4,none⟩ = some (.int .i64 0):=(blk_cell n1.out 4).trans rfl;have hfx4:=blk_frozen n1.out 4)
 go_end0
 exact ⟨rfl,A1,c1,A2,c2,(blk_set (blk_set (blk_set (blk_set (blk_set n1.out 0 _) 1 _) 2 _) 3 _) 4 _).trans rfl,(blk_far (blk_far (blk_far (blk_far (blk_far n2.out HN1.out _) HN1.out _) HN1.out _) HN1.out _) HN1.out _),(blk_far (blk_far (blk_far (blk_far (blk_far n3.out (blk_ne n3.out n1.out (by decide)) _) (blk_ne n3.out n1.out (by decide)) _) (blk_ne n3.out n1.out (by decide)) _) (blk_ne n3.out n1.out (by decide)) _) (blk_ne n3.out n1.out (by decide)) _),(Kd.R_set (Kd.R_set (Kd.R_set (Kd.R_set (Kd.R_set R1.out n1.out (by decide) 0 (.slice A1 l0.length c1)) (blk_set n1.out 0 (.slice A1 l0.length c1)) (by decide) 1 (.int .i64 d)) (blk_set (blk_set n1.out 0 (.slice A1 l0.length c1)) 1 (.int .i64 d)) (by decide) 2 (.slice A2 l.length c2)) (blk_set (blk_set (blk_set n1.out 0 (.slice A1 l0.length c1)) 1 (.int .i64 d)) 2 (.slice A2 l.length c2)) (by decide) 3 (.int .i64 we)) (blk_set (blk_set (blk_set (blk_set n1.out 0 (.slice A1 l0.length c1)) 1 (.int .i64 d)) 2 (.slice A2 l.length c2)) 3 (.int .i64 we)) (by decide) 4 (.int .i64 sp)),(Kd.R_set (Kd.R_set (Kd.R_set (Kd.R_set (Kd.R_set R2.out n1.out (by decide) 0 (.slice A1 l0.length c1)) (blk_set n1.out 0 (.slice A1 l0.length c1)) (by decide) 1 (.int .i64 d)) (blk_set (blk_set n1.out 0 (.slice A1 l0.length c1)) 1 (.int .i64 d)) (by decide) 2 (.slice A2 l.length c2)) (blk_set (blk_set (blk_set n1.out 0 (.slice A1 l0.length c1)) 1 (.int .i64 d)) 2 (.slice A2 l.length c2)) (by decide) 3 (.int .i64 we)) (blk_set (blk_set (blk_set (blk_set n1.out 0 (.slice A1 l0.length c1)) 1 (.int .i64 d)) 2 (.slice A2 l.length c2)) 3 (.int .i64 we)) (by decide) 4 (.int .i64 sp)),(below_set (below_set (below_set (below_set (below_set n4.out HGX.out) HGX.out) HGX.out) HGX.out) HGX.out)⟩
theorem Read1_no (w0 W : World) (gt gs gx gr ge : Nat) (A0 : Option Addr) (c0 : Nat) (l0 : List S126) (d : Int) (s : ByteArray) (hB : Below w0.heap.size w0 W) (hgx : w0.heap.size≤gx) (hne1 : gr ≠ gx) (bt : W.heap[gt]? = some (.cells #[.slice A0 l0.length c0,.int .i64 d] 24 (0,0))) (bs : W.heap[gs]? = some (.cells #[.string s] 9 (0,0))) (bx : W.heap[gx]? = some (.cells #[.slice none 0 0,.int .i64 0,.slice none 0 0,.int .i64 0,.int .i64 0] 27 (0,0))) (br : W.heap[gr]? = some (.cells #[.slice none 0 0,.int .i64 0,.slice none 0 0,.int .i64 0,.int .i64 0] 27 (0,0))) (be : W.heap[ge]? = some (.cells #[.int .i64 0] 33 (0,0))) (hr0 : Kd.C k126 W A0 l0.length l0) (hc0 : l0.length≤c0) (hl0 : l0.length < 5864062014805) (hs : s.size≤1000) (hg : GV W) (hp : parsedF s = none) :
 Calls Tryz.prog 91 #[.pointer (some ⟨gt,0,none⟩),.pointer (some ⟨gs,0,none⟩),.pointer (some ⟨gx,0,none⟩)] W fun e W'=>∃ s',e = .panicked [{ v:=.iface 167 (.agg #[.string s']),recovered:=false }]∧ReadN w0 gr ge W':=by
 obtain ⟨hct0,hct1⟩:=cO2 bt
 have hcs:=cO1 bs
 have HC:=am (ca_parsed.calls A0 c0 l0 d s W hr0 hc0 hl0 hs hg)
 have HP:=am hp
 have HBX:=am bx
 have HBR:=am br
 have HBE:=am be
 have HB:=am hB
 have HGX:=am hgx
 have HN1:=am hne1
 have hu:=Tryz.underlying27
 have hut:=Tryz.underlying24
 clear bt bs bx br be hr0 hc0 hl0 hs hg hp hB hgx hne1
 go_enter Tryz.func91,Tryz.ntmps91
 go_wp2_with (go_at_call 92;refine (HC.out).mono ?_;rintro e w2 hpost;unfold ParsedPost at hpost;rw [HP.out] at hpost;obtain ⟨⟨s',rfl⟩,hb⟩:=hpost;have n2:=(kmv hb HBR);have n3:=(kmv hb HBE);have n4:=(bmv HB hb);clear hb)
 exact ⟨rfl,s',rfl,n2.out,n3.out,n4.out⟩
end Go.Proofs.YtnnmnhpeblhiiaaGreatDoor.C

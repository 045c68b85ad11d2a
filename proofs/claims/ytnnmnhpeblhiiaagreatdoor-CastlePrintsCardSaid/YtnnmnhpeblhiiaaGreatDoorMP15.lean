/- A part of the proof: the walks of the functions that it reaches. TIGHT. -/
import Derived.Test.YtnnmnhpeblhiiaaGreatDoorMP14
import Derived.Deep.RegionHeld3
import Derived.WalkSpells
import Derived.Lib.SliceRun
set_option linter.unusedVariables false
set_option linter.unusedSimpArgs false
namespace Go.Proofs.YtnnmnhpeblhiiaaGreatDoor.C
open Go.RowKit Go.Proofs.YtnnmnhpeblhiiaaGreatDoorW.PrintWords Go.Proofs.YtnnmnhpeblhiiaaGreatDoorW.PrintLast Go.Proofs.YtnnmnhpeblhiiaaGreatDoorW.PrintMore
set_option linter.unusedVariables false
set_option linter.unusedSimpArgs false
set_option maxHeartbeats 16000000
set_option maxRecDepth 100000
theorem ca_told.calls (line wd : ByteArray) (kind : Int) (hki : ∀ W,(Instr.index 158 (.agg #[.string castleB,.string nozzleB]) (.int .i64 kind)).run Tryz.prog W = .ok (.string wd) W) (w : World) (hs : line.size < 4294967281) (hg : GV w) :
 Calls Tryz.prog 124 #[.string line,.int .i64 kind] w (ToldPost (toldF line wd) w) := by
 have hu := Tryz.underlying9
 have hk7 := nums_at0
 have hk8 := nums_at1
 have HG := Aside0.mk hg
 have HS := Aside0.mk hs
 have HB := Aside0.mk (Below.refl w.heap.size w)
 clear hg hs
 obtain ⟨ws,hws⟩ : ∃ ws,splitF line spB = ws := ⟨_,rfl⟩
 have HF := Aside0.mk (show toldF line wd = toldW wd ws by rw [← hws];rfl)
 have hwl0 := splitF_len line spB (by decide) HS.out
 rw [hws] at hwl0
 have hwl : ws.length ≤ 9223372036854775807 := Nat.le_trans hwl0 (by decide)
 clear hwl0
 have HC := Aside0.mk (split_calls line spB w HS.out (by decide) HG.out)
 rw [hws] at HC
 clear hws
 by_cases hl : ws.length = 3
 case neg =>
  have hd : (((ws.length : Nat) : Int) == 3) = false := by simp;omega
  have HR := Aside0.mk (show toldF line wd = none by rw [HF.out];exact toldW_len hl)
  clear hl HF
  go_enter Tryz.func124,Tryz.ntmps124
  go_wp2_with (go_at_call 121;refine HC.out.mono ?_;rintro e w1 ⟨g,rfl,hgg,hbg,hb⟩;have n_ := Aside0.mk (below_then HB.out HB.out.size hb);clear HB;have HB := n_;clear n_;have HGG := Aside0.mk hgg;have BG := Aside0.mk hbg;clear hgg hbg hb)
  refine start_ (n := 14) (S := fun W => True ∧ True) (ds := []) (ba 14 0) (by kernel_rfl) rfl rfl ⟨trivial,trivial⟩ (fun hHeld => ?_)
  have n_ := Aside0.mk (below_drew1 HB.out)
  clear HB
  have HB := n_
  clear n_
  have n_ := Aside0.mk (blk_drew BG.out)
  clear BG
  have BG := n_
  clear n_
  generalize w1.drew = wd1 at BG HB hHeld ⊢
  refine pure_ (i := 0) (N := some 14) (v := ?_) (a' := ?_) (ba 14 1) rfl rfl (by kernel_rfl) (fun _ _ _ h => h) (Or.inl ⟨by rfl,?_⟩) ?_ ?_
  rotate_left
  · intro w'
    go_simp
    with_reducible rfl
  rotate_left
  · simp only [Act.put,List.setIfInBounds_toArray,List.set_cons_zero,List.set_cons_succ,i64_w,i32_w]
    rfl
  refine pure_ (i := 1) (N := some 15) (v := ?_) (a' := ?_) (ba 14 3) rfl rfl (by kernel_rfl) (fun _ _ _ h => h) (Or.inl ⟨by rfl,?_⟩) ?_ ?_
  rotate_left
  · intro w'
    go_simp
    with_reducible rfl
  rotate_left
  · simp only [Act.put,List.setIfInBounds_toArray,List.set_cons_zero,List.set_cons_succ,i64_w,i32_w]
    rfl
  refine pure_ (i := 2) (N := some 16) (v := ?_) (a' := ?_) (ba 14 7) rfl rfl (by kernel_rfl) (fun _ _ _ h => h) (Or.inl ⟨by rfl,?_⟩) ?_ ?_
  rotate_left
  · intro w'
    go_simp
    with_reducible rfl
  rotate_left
  · simp only [Act.put,List.setIfInBounds_toArray,List.set_cons_zero,List.set_cons_succ,i64_w,i32_w]
    rfl
  refine pure_ (i := 3) (N := some 17) (v := ?_) (a' := ?_) (ba 14 15) rfl rfl (by kernel_rfl) (fun _ _ _ h => h) (Or.inl ⟨by rfl,?_⟩) ?_ ?_
  rotate_left
  · intro w'
    go_simp
    with_reducible rfl
  rotate_left
  · simp only [Act.put,List.setIfInBounds_toArray,List.set_cons_zero,List.set_cons_succ,i64_w,i32_w]
    rfl
  refine pure_ (i := 4) (N := some 18) (v := undef) (a' := ?_) (ba 14 31) rfl rfl (by kernel_rfl) (fun _ _ _ h => h) (Or.inr ⟨by rfl,rfl⟩) ?_ ?_
  rotate_left
  · simp only [Act.put,List.setIfInBounds_toArray,List.set_cons_zero,List.set_cons_succ,i64_w,i32_w]
    rfl
  refine pure_ (i := 5) (N := some 19) (v := undef) (a' := ?_) (ba 14 63) rfl rfl (by kernel_rfl) (fun _ _ _ h => h) (Or.inr ⟨by rfl,rfl⟩) ?_ ?_
  rotate_left
  · simp only [Act.put,List.setIfInBounds_toArray,List.set_cons_zero,List.set_cons_succ,i64_w,i32_w]
    rfl
  refine pure_ (i := 6) (N := some 20) (v := undef) (a' := ?_) (ba 14 127) rfl rfl (by kernel_rfl) (fun _ _ _ h => h) (Or.inr ⟨by rfl,rfl⟩) ?_ ?_
  rotate_left
  · simp only [Act.put,List.setIfInBounds_toArray,List.set_cons_zero,List.set_cons_succ,i64_w,i32_w]
    rfl
  refine pure_ (i := 7) (N := some 21) (v := undef) (a' := ?_) (ba 14 255) rfl rfl (by kernel_rfl) (fun _ _ _ h => h) (Or.inr ⟨by rfl,rfl⟩) ?_ ?_
  rotate_left
  · simp only [Act.put,List.setIfInBounds_toArray,List.set_cons_zero,List.set_cons_succ,i64_w,i32_w]
    rfl
  refine pure_ (i := 8) (N := some 22) (v := undef) (a' := ?_) (ba 14 511) rfl rfl (by kernel_rfl) (fun _ _ _ h => h) (Or.inr ⟨by rfl,rfl⟩) ?_ ?_
  rotate_left
  · simp only [Act.put,List.setIfInBounds_toArray,List.set_cons_zero,List.set_cons_succ,i64_w,i32_w]
    rfl
  refine pure_ (i := 9) (N := some 23) (v := undef) (a' := ?_) (ba 14 1023) rfl rfl (by kernel_rfl) (fun _ _ _ h => h) (Or.inr ⟨by rfl,rfl⟩) ?_ ?_
  rotate_left
  · simp only [Act.put,List.setIfInBounds_toArray,List.set_cons_zero,List.set_cons_succ,i64_w,i32_w]
    rfl
  refine pure_ (i := 10) (N := some 24) (v := undef) (a' := ?_) (ba 14 2047) rfl rfl (by kernel_rfl) (fun _ _ _ h => h) (Or.inr ⟨by rfl,rfl⟩) ?_ ?_
  rotate_left
  · simp only [Act.put,List.setIfInBounds_toArray,List.set_cons_zero,List.set_cons_succ,i64_w,i32_w]
    rfl
  refine pure_ (i := 11) (N := some 25) (v := ?_) (a' := ?_) (ba 14 4095) rfl rfl (by kernel_rfl) (fun _ _ _ h => h) (Or.inl ⟨by rfl,?_⟩) ?_ ?_
  rotate_left
  · intro w'
    go_simp
    with_reducible rfl
  rotate_left
  · simp only [Act.put,List.setIfInBounds_toArray,List.set_cons_zero,List.set_cons_succ,i64_w,i32_w]
    rfl
  refine pure_ (i := 12) (N := some 26) (v := ?_) (a' := ?_) (ba 14 8191) rfl rfl (by kernel_rfl) (fun _ _ _ h => h) (Or.inl ⟨by rfl,?_⟩) ?_ ?_
  rotate_left
  · intro w'
    go_simp
    with_reducible rfl
  rotate_left
  · simp only [Act.put,List.setIfInBounds_toArray,List.set_cons_zero,List.set_cons_succ,i64_w,i32_w]
    rfl
  refine one_ (i := 13) (N := some 27) (ba 14 16383) rfl rfl (by kernel_rfl) (by decide) (fun K hK => ?_)
  refine goesP_ Tryz.func122 (by kernel_rfl) rfl #[.bool false,.string line] (by rfl) rfl rfl (by (try simp only [List.map_toArray,List.map_cons,List.map_nil]);first | done | rfl) ?_
  refine (ca_sure_P.calls false line line _ rfl).mono ?_
  rintro e w3 ⟨rfl,hd⟩
  have HB3 := below_then HB.out HB.out.size hd.below
  refine ⟨_,rfl,?_⟩
  refine ⟨rfl,?_,HB3⟩
  rw [HR.out]
  exact ⟨_,rfl⟩
 obtain ⟨w0,w1_,w2_,rfl⟩ : ∃ a b c,ws = [a,b,c] := by match ws,hl with | [a,b,c],_ => exact ⟨a,b,c,rfl⟩
 clear hl hwl
 have HC2 := Aside0.mk (show Calls Tryz.prog 121 #[.string line,.string spB] w fun e w' => ∃ g,e = .returned (.slice (some ⟨g,0,none⟩) 3 3) ∧ w.heap.size ≤ g ∧ w'.heap[g]? = some (.cells #[.string w0,.string w1_,.string w2_] 9 (0,0)) ∧ Below w.heap.size w w' from HC.out)
 clear HC
 by_cases hw : w0 = wd
 case neg =>
  have hq1 := bl_false hw
  have HR := Aside0.mk (show toldF line wd = none by rw [HF.out];exact if_neg hw)
  clear hw HF
  go_enter Tryz.func124,Tryz.ntmps124
  go_wp2_with (go_at_call 121;refine HC2.out.mono ?_;rintro e w1 ⟨g,rfl,hgg,hbg,hb⟩;have n_ := Aside0.mk (below_then HB.out HB.out.size hb);clear HB;have HB := n_;clear n_;have HGG := Aside0.mk hgg;have BG := Aside0.mk hbg;clear hgg hbg hb)
  refine start_ (n := 14) (S := fun W => W.cell? ⟨g,0,none⟩ = some (.string w0) ∧ True) (ds := []) (ba 14 0) (by kernel_rfl) rfl rfl ⟨(blk_cell (blk_drew BG.out) 0).trans rfl,trivial⟩ (fun hHeld => ?_)
  have n_ := Aside0.mk (below_drew1 HB.out)
  clear HB
  have HB := n_
  clear n_
  have n_ := Aside0.mk (blk_drew BG.out)
  clear BG
  have BG := n_
  clear n_
  generalize w1.drew = wd1 at BG HB hHeld ⊢
  refine pure_ (i := 0) (N := some 14) (v := ?_) (a' := ?_) (ba 14 1) rfl rfl (by kernel_rfl) (fun _ _ _ h => h) (Or.inl ⟨by rfl,?_⟩) ?_ ?_
  rotate_left
  · intro w'
    go_simp
    with_reducible rfl
  rotate_left
  · simp only [Act.put,List.setIfInBounds_toArray,List.set_cons_zero,List.set_cons_succ,i64_w,i32_w]
    rfl
  refine pure_ (i := 1) (N := some 15) (v := ?_) (a' := ?_) (ba 14 3) rfl rfl (by kernel_rfl) (fun _ _ _ h => h) (Or.inl ⟨by rfl,?_⟩) ?_ ?_
  rotate_left
  · intro w'
    go_simp
    with_reducible rfl
  rotate_left
  · simp only [Act.put,List.setIfInBounds_toArray,List.set_cons_zero,List.set_cons_succ,i64_w,i32_w]
    rfl
  refine pure_ (i := 2) (N := some 16) (v := ?_) (a' := ?_) (ba 14 7) rfl rfl (by kernel_rfl) (fun _ _ _ h => h) (Or.inl ⟨by rfl,?_⟩) ?_ ?_
  rotate_left
  · intro w'
    go_simp
    with_reducible rfl
  rotate_left
  · simp only [Act.put,List.setIfInBounds_toArray,List.set_cons_zero,List.set_cons_succ,i64_w,i32_w]
    rfl
  refine pure_ (i := 3) (N := some 17) (v := ?_) (a' := ?_) (ba 14 15) rfl rfl (by kernel_rfl) (fun _ _ _ h => h) (Or.inl ⟨by rfl,?_⟩) ?_ ?_
  rotate_left
  · intro w'
    go_simp
    with_reducible rfl
  rotate_left
  · simp only [Act.put,List.setIfInBounds_toArray,List.set_cons_zero,List.set_cons_succ,i64_w,i32_w]
    rfl
  refine pure_ (i := 4) (N := some 18) (v := ?_) (a' := ?_) (ba 14 31) rfl rfl (by kernel_rfl) (fun _ _ _ h => h) (Or.inl ⟨by rfl,?_⟩) ?_ ?_
  rotate_left
  · intro w'
    go_simp
    with_reducible rfl
  rotate_left
  · simp only [Act.put,List.setIfInBounds_toArray,List.set_cons_zero,List.set_cons_succ,i64_w,i32_w]
    rfl
  refine pure_ (i := 5) (N := some 19) (v := ?_) (a' := ?_) (ba 14 63) rfl rfl (by kernel_rfl) (fun _ _ _ h => h) (Or.inl ⟨by rfl,?_⟩) ?_ ?_
  rotate_left
  · intro w'
    go_simp
    with_reducible rfl
  rotate_left
  · simp only [Act.put,List.setIfInBounds_toArray,List.set_cons_zero,List.set_cons_succ,i64_w,i32_w]
    rfl
  refine pure_ (i := 8) (N := some 22) (v := ?_) (a' := ?_) (ba 14 319) rfl rfl (by kernel_rfl) (fun _ _ _ h => h) (Or.inl ⟨by rfl,?_⟩) ?_ ?_
  rotate_left
  · intro w'
    go_simp
    with_reducible rfl
  rotate_left
  · simp only [Act.put,List.setIfInBounds_toArray,List.set_cons_zero,List.set_cons_succ,i64_w,i32_w]
    rfl
  refine pure_ (i := 12) (N := some 26) (v := ?_) (a' := ?_) (ba 14 4415) rfl rfl (by kernel_rfl) (fun _ _ _ h => h) (Or.inl ⟨by rfl,?_⟩) ?_ ?_
  rotate_left
  · intro w'
    go_simp
    with_reducible rfl
  rotate_left
  · simp only [Act.put,List.setIfInBounds_toArray,List.set_cons_zero,List.set_cons_succ,i64_w,i32_w]
    rfl
  refine take_ (i := 6) (N := some 20) (v := ?_) (a' := ?_) (ba 14 4479) rfl rfl (by kernel_rfl) (fun _ _ _ h => h) (Or.inl ⟨by rfl,?_⟩) hHeld ?_ ?_
  rotate_left
  · rintro w' ⟨s0,s1⟩
    go_simp
    with_reducible rfl
  rotate_left
  · simp only [Act.put,List.setIfInBounds_toArray,List.set_cons_zero,List.set_cons_succ,i64_w,i32_w]
    rfl
  refine one_ (i := 7) (N := some 21) (ba 14 4607) rfl rfl (by kernel_rfl) (by decide) (fun K hK => ?_)
  refine goes_ Tryz.func118 (by kernel_rfl) rfl #[] (by rfl) rfl rfl (by (try simp only [List.map_toArray,List.map_cons,List.map_nil]);first | done | rfl) ?_
  refine (ca_words.calls _).mono ?_
  rintro e w2 ⟨rfl,hb⟩
  have n_ := Aside0.mk (below_then HB.out HB.out.size hb);clear HB;have HB := n_;clear n_;have n_ := Aside0.mk (blk_below BG.out hb);clear BG;have BG := n_;clear n_
  clear hb
  refine ⟨_,rfl,?_⟩
  refine hK.out _ _ ⟨(blk_cell BG.out 0).trans rfl,trivial⟩ (fun hHeld => ?_)
  clear hK K
  refine norm_ (a' := ?_) ?_ ?_
  rotate_left
  · show Act.put _ (some 21) _ = _
    simp only [Act.put,List.setIfInBounds_toArray,List.set_cons_zero,List.set_cons_succ,i64_w,i32_w]
    rfl
  refine pure_ (i := 9) (N := some 23) (v := ?_) (a' := ?_) (ba 14 5119) rfl rfl (by kernel_rfl) (fun _ _ _ h => h) (Or.inl ⟨by rfl,?_⟩) ?_ ?_
  rotate_left
  · intro w'
    go_simp
    with_reducible rfl
  rotate_left
  · simp only [Act.put,List.setIfInBounds_toArray,List.set_cons_zero,List.set_cons_succ,i64_w,i32_w]
    rfl
  refine pure_ (i := 10) (N := some 24) (v := ?_) (a' := ?_) (ba 14 6143) rfl rfl (by kernel_rfl) (fun _ _ _ h => h) (Or.inl ⟨by rfl,?_⟩) ?_ ?_
  rotate_left
  · intro w'
    go_simp
    with_reducible rfl
  rotate_left
  · simp only [Act.put,List.setIfInBounds_toArray,List.set_cons_zero,List.set_cons_succ,i64_w,i32_w]
    rfl
  refine pure_ (i := 11) (N := some 25) (v := ?_) (a' := ?_) (ba 14 8191) rfl rfl (by kernel_rfl) (fun _ _ _ h => h) (Or.inl ⟨by rfl,?_⟩) ?_ ?_
  rotate_left
  · intro w'
    go_simp
    with_reducible rfl
  rotate_left
  · simp only [Act.put,List.setIfInBounds_toArray,List.set_cons_zero,List.set_cons_succ,i64_w,i32_w]
    rfl
  refine one_ (i := 13) (N := some 27) (ba 14 16383) rfl rfl (by kernel_rfl) (by decide) (fun K hK => ?_)
  refine goesP_ Tryz.func122 (by kernel_rfl) rfl #[.bool false,.string line] (by rfl) rfl rfl (by (try simp only [List.map_toArray,List.map_cons,List.map_nil]);first | done | rfl) ?_
  refine (ca_sure_P.calls false line line _ rfl).mono ?_
  rintro e w3 ⟨rfl,hd⟩
  have HB3 := below_then HB.out HB.out.size hd.below
  refine ⟨_,rfl,?_⟩
  refine ⟨rfl,?_,HB3⟩
  rw [HR.out]
  exact ⟨_,rfl⟩
 have hq1 := bl_true hw
 have HF2 := Aside0.mk (show toldF line wd = (numF w1_).bind fun a => (numF w2_).bind fun b => some (a,b) by rw [HF.out];exact if_pos hw)
 have HW := Aside0.mk hw
 clear hw HF
 go_enter Tryz.func124,Tryz.ntmps124
 go_wp2_with (go_at_call 121;refine HC2.out.mono ?_;rintro e w1 ⟨g,rfl,hgg,hbg,hb⟩;have n_ := Aside0.mk (below_then HB.out HB.out.size hb);clear HB;have HB := n_;clear n_;have HGG := Aside0.mk hgg;have BG := Aside0.mk hbg;clear hgg hbg hb)
 refine start_ (n := 14) (S := fun W => W.cell? ⟨g,0,none⟩ = some (.string w0) ∧ True) (ds := []) (ba 14 0) (by kernel_rfl) rfl rfl ⟨(blk_cell (blk_drew BG.out) 0).trans rfl,trivial⟩ (fun hHeld => ?_)
 have n_ := Aside0.mk (below_drew1 HB.out)
 clear HB
 have HB := n_
 clear n_
 have n_ := Aside0.mk (blk_drew BG.out)
 clear BG
 have BG := n_
 clear n_
 generalize w1.drew = wd1 at BG HB hHeld ⊢
 refine pure_ (i := 0) (N := some 14) (v := ?_) (a' := ?_) (ba 14 1) rfl rfl (by kernel_rfl) (fun _ _ _ h => h) (Or.inl ⟨by rfl,?_⟩) ?_ ?_
 rotate_left
 · intro w'
   go_simp
   with_reducible rfl
 rotate_left
 · simp only [Act.put,List.setIfInBounds_toArray,List.set_cons_zero,List.set_cons_succ,i64_w,i32_w]
   rfl
 refine pure_ (i := 1) (N := some 15) (v := ?_) (a' := ?_) (ba 14 3) rfl rfl (by kernel_rfl) (fun _ _ _ h => h) (Or.inl ⟨by rfl,?_⟩) ?_ ?_
 rotate_left
 · intro w'
   go_simp
   with_reducible rfl
 rotate_left
 · simp only [Act.put,List.setIfInBounds_toArray,List.set_cons_zero,List.set_cons_succ,i64_w,i32_w]
   rfl
 refine pure_ (i := 2) (N := some 16) (v := ?_) (a' := ?_) (ba 14 7) rfl rfl (by kernel_rfl) (fun _ _ _ h => h) (Or.inl ⟨by rfl,?_⟩) ?_ ?_
 rotate_left
 · intro w'
   go_simp
   with_reducible rfl
 rotate_left
 · simp only [Act.put,List.setIfInBounds_toArray,List.set_cons_zero,List.set_cons_succ,i64_w,i32_w]
   rfl
 refine pure_ (i := 3) (N := some 17) (v := ?_) (a' := ?_) (ba 14 15) rfl rfl (by kernel_rfl) (fun _ _ _ h => h) (Or.inl ⟨by rfl,?_⟩) ?_ ?_
 rotate_left
 · intro w'
   go_simp
   with_reducible rfl
 rotate_left
 · simp only [Act.put,List.setIfInBounds_toArray,List.set_cons_zero,List.set_cons_succ,i64_w,i32_w]
   rfl
 refine pure_ (i := 4) (N := some 18) (v := ?_) (a' := ?_) (ba 14 31) rfl rfl (by kernel_rfl) (fun _ _ _ h => h) (Or.inl ⟨by rfl,?_⟩) ?_ ?_
 rotate_left
 · intro w'
   go_simp
   with_reducible rfl
 rotate_left
 · simp only [Act.put,List.setIfInBounds_toArray,List.set_cons_zero,List.set_cons_succ,i64_w,i32_w]
   rfl
 refine pure_ (i := 5) (N := some 19) (v := ?_) (a' := ?_) (ba 14 63) rfl rfl (by kernel_rfl) (fun _ _ _ h => h) (Or.inl ⟨by rfl,?_⟩) ?_ ?_
 rotate_left
 · intro w'
   go_simp
   with_reducible rfl
 rotate_left
 · simp only [Act.put,List.setIfInBounds_toArray,List.set_cons_zero,List.set_cons_succ,i64_w,i32_w]
   rfl
 refine pure_ (i := 8) (N := some 22) (v := ?_) (a' := ?_) (ba 14 319) rfl rfl (by kernel_rfl) (fun _ _ _ h => h) (Or.inl ⟨by rfl,?_⟩) ?_ ?_
 rotate_left
 · intro w'
   go_simp
   with_reducible rfl
 rotate_left
 · simp only [Act.put,List.setIfInBounds_toArray,List.set_cons_zero,List.set_cons_succ,i64_w,i32_w]
   rfl
 refine pure_ (i := 12) (N := some 26) (v := ?_) (a' := ?_) (ba 14 4415) rfl rfl (by kernel_rfl) (fun _ _ _ h => h) (Or.inl ⟨by rfl,?_⟩) ?_ ?_
 rotate_left
 · intro w'
   go_simp
   with_reducible rfl
 rotate_left
 · simp only [Act.put,List.setIfInBounds_toArray,List.set_cons_zero,List.set_cons_succ,i64_w,i32_w]
   rfl
 refine take_ (i := 6) (N := some 20) (v := ?_) (a' := ?_) (ba 14 4479) rfl rfl (by kernel_rfl) (fun _ _ _ h => h) (Or.inl ⟨by rfl,?_⟩) hHeld ?_ ?_
 rotate_left
 · rintro w' ⟨s0,s1⟩
   go_simp
   with_reducible rfl
 rotate_left
 · simp only [Act.put,List.setIfInBounds_toArray,List.set_cons_zero,List.set_cons_succ,i64_w,i32_w]
   rfl
 refine one_ (i := 7) (N := some 21) (ba 14 4607) rfl rfl (by kernel_rfl) (by decide) (fun K hK => ?_)
 refine goes_ Tryz.func118 (by kernel_rfl) rfl #[] (by rfl) rfl rfl (by (try simp only [List.map_toArray,List.map_cons,List.map_nil]);first | done | rfl) ?_
 refine (ca_words.calls _).mono ?_
 rintro e w2 ⟨rfl,hb⟩
 have n_ := Aside0.mk (below_then HB.out HB.out.size hb);clear HB;have HB := n_;clear n_;have n_ := Aside0.mk (blk_below BG.out hb);clear BG;have BG := n_;clear n_
 clear hb
 refine ⟨_,rfl,?_⟩
 refine hK.out _ _ ⟨(blk_cell BG.out 0).trans rfl,trivial⟩ (fun hHeld => ?_)
 clear hK K
 refine norm_ (a' := ?_) ?_ ?_
 rotate_left
 · show Act.put _ (some 21) _ = _
   simp only [Act.put,List.setIfInBounds_toArray,List.set_cons_zero,List.set_cons_succ,i64_w,i32_w]
   rfl
 refine pure_ (i := 9) (N := some 23) (v := ?_) (a' := ?_) (ba 14 5119) rfl rfl (by kernel_rfl) (fun _ _ _ h => h) (Or.inl ⟨by rfl,?_⟩) ?_ ?_
 rotate_left
 · intro w'
   go_simp
   with_reducible rfl
 rotate_left
 · simp only [Act.put,List.setIfInBounds_toArray,List.set_cons_zero,List.set_cons_succ,i64_w,i32_w]
   rfl
 refine pure_ (i := 10) (N := some 24) (v := ?_) (a' := ?_) (ba 14 6143) rfl rfl (by kernel_rfl) (fun _ _ _ h => h) (Or.inl ⟨by rfl,?_⟩) ?_ ?_
 rotate_left
 · intro w'
   go_simp
   with_reducible rfl
 rotate_left
 · simp only [Act.put,List.setIfInBounds_toArray,List.set_cons_zero,List.set_cons_succ,i64_w,i32_w]
   rfl
 refine pure_ (i := 11) (N := some 25) (v := ?_) (a' := ?_) (ba 14 8191) rfl rfl (by kernel_rfl) (fun _ _ _ h => h) (Or.inl ⟨by rfl,?_⟩) ?_ ?_
 rotate_left
 · intro w'
   go_simp
   with_reducible rfl
 rotate_left
 · simp only [Act.put,List.setIfInBounds_toArray,List.set_cons_zero,List.set_cons_succ,i64_w,i32_w]
   rfl
 refine one_ (i := 13) (N := some 27) (ba 14 16383) rfl rfl (by kernel_rfl) (by decide) (fun K hK => ?_)
 refine goes_ Tryz.func122 (by kernel_rfl) rfl #[.bool true,.string line] (by rfl) rfl rfl (by (try simp only [List.map_toArray,List.map_cons,List.map_nil]);first | done | rfl) ?_
 refine (ca_sure.calls true line _ rfl).mono ?_
 rintro e w3 ⟨rfl,hd⟩
 have hb := hd.below
 clear hd
 have n_ := Aside0.mk (below_then HB.out HB.out.size hb);clear HB;have HB := n_;clear n_;have n_ := Aside0.mk (blk_below BG.out hb);clear BG;have BG := n_;clear n_
 clear hb
 refine ⟨_,rfl,?_⟩
 refine hK.out _ _ ⟨(blk_cell BG.out 0).trans rfl,trivial⟩ (fun hHeld => ?_)
 clear hK K
 refine norm_ (a' := ?_) ?_ ?_
 rotate_left
 · show Act.put _ (some 27) _ = _
   simp only [Act.put,List.setIfInBounds_toArray,List.set_cons_zero,List.set_cons_succ,i64_w,i32_w]
   rfl
 refine done_ (by kernel_rfl) ?_
 go_wp2_with ((with_reducible refine gate_dst (N := 7) rfl ?_);refine box_event ?hg (N := 7) ?hd (cs := #[.int .i64 0,.int .i64 0]) (t := 161) ?hr ?_;(case hd => rfl);(case hg => rfl);(case hr => go_simp;try rfl);intro gl hgl w4 hbox hb;have HGL := Aside0.mk (show w.heap.size ≤ gl by have := HB.out.size;omega);clear hgl;have BL := Aside0.mk hbox;clear hbox;have n_ := Aside0.mk (below_then HB.out HB.out.size hb);clear HB;have HB := n_;clear n_;have n_ := Aside0.mk (blk_below BG.out hb);clear BG;have BG := n_;clear n_;clear hb)
 have HNE := Aside0.mk (blk_ne BG.out BL.out (by decide))
 go_loopw [31] (fun v31 W' => ∃ i l0 l1 : Int,v31 = .int .i64 i ∧ Aside0 ((i = 0 ∧ l0 = 0 ∧ l1 = 0) ∨ (i = 1 ∧ numF w1_ = some l0 ∧ l1 = 0) ∨ (i = 2 ∧ numF w1_ = some l0 ∧ numF w2_ = some l1)) ∧ Aside0 (W'.heap[gl]? = some (.cells #[.int .i64 l0,.int .i64 l1] 161 (0,0))) ∧ Aside0 (W'.heap[g]? = some (.cells #[.string w0,.string w1_,.string w2_] 9 (0,0))) ∧ Aside0 (Below w.heap.size w W')) (fun v31 _ => 2 - (intOf v31).toNat)
 case atStart => exact ⟨0,0,0,rfl,⟨.inl ⟨rfl,rfl,rfl⟩⟩,BL,BG,HB⟩
 case round =>
  clear BL BG HB
  obtain ⟨i,l0,l1,rfl,HST,BL,BG,HB⟩ := hrel
  have hst := HST.out
  clear HST
  generalize wr = W1 at *
  rcases hst with ⟨rfl,rfl,rfl⟩ | ⟨rfl,hn1,rfl⟩ | ⟨rfl,hn1,hn2⟩
  · skip
    have HNN := Aside0.mk (show numF w1_ = none → toldF line wd = none by intro hn;rw [HF2.out];rw [hn];rfl)
    have hcg0 : W1.cell? ⟨g,1,none⟩ = some (.string w1_) := (blk_cell BG.out 1).trans rfl
    have hcg1 : W1.cell? ⟨g,2,none⟩ = some (.string w2_) := (blk_cell BG.out 2).trans rfl
    go_wp2_with ((with_reducible refine gate_dst (N := 37) rfl ?_);refine range_event (x := w1_) rfl rfl rfl hu ?_;intro gi hgi w5 hit hb;have HGI := Aside0.mk (show w.heap.size ≤ gi by have := HB.out.size;omega);clear hgi;have BI := Aside0.mk hit;clear hit;have n_ := Aside0.mk (below_then HB.out HB.out.size hb);clear HB;have HB := n_;clear n_;have n_ := Aside0.mk (blk_below BG.out hb);clear BG;have BG := n_;clear n_;have n_ := Aside0.mk (blk_below BL.out hb);clear BL;have BL := n_;clear n_;clear hb)
    simp only [Act.put,List.setIfInBounds_toArray,List.set_cons_zero,List.set_cons_succ]
    clear hcg0 hcg1
    have HN2 := Aside0.mk (show gl ≠ gi by intro e;have h1 := BL.out;have h2 := BI.out;rw [e,h2] at h1;cases h1)
    have HN3 := Aside0.mk (show g ≠ gi by intro e;have h1 := BG.out;have h2 := BI.out;rw [e,h2] at h1;cases h1)
    go_loopw [38] (fun v38 W' => ∃ pos : Nat,pos ≤ w1_.size ∧ Aside0 (∀ q : Nat,q < pos → 48 ≤ bt w1_ q ∧ bt w1_ q ≤ 57) ∧ Aside0 (w1_.size ≤ 3 ∨ pos = 0) ∧ Aside0 (W'.heap[gi]? = some (.stringIter w1_ pos)) ∧ Aside0 (W'.heap[gl]? = some (.cells #[.int .i64 (valTo w1_ pos),.int .i64 0] 161 (0,0))) ∧ Aside0 (W'.heap[g]? = some (.cells #[.string w0,.string w1_,.string w2_] 9 (0,0))) ∧ Aside0 (Below w.heap.size w W')) (fun _ W' => w1_.size - W'.iterPos gi)
    case atStart => exact ⟨0,Nat.zero_le _,⟨fun q h => absurd h (Nat.not_lt_zero q)⟩,⟨.inr rfl⟩,BI,BL,BG,HB⟩
    case round =>
     clear BI BL BG HB
     obtain ⟨pos,hple,HD0,HD3,BI,BL,BG,HB⟩ := hrel
     have HIP := Aside0.mk (iter_pos BI.out)
     by_cases hpx : pos < w1_.size
     · by_cases hgood : (48 ≤ bt w1_ pos ∧ bt w1_ pos ≤ 57) ∧ w1_.size ≤ 3
       · obtain ⟨hdg,hs3⟩ := hgood
         obtain ⟨c,hdec,hcb,hc48,hc57⟩ := digit_ex hpx hdg
         have HD := Aside0.mk hdec
         have HCB := Aside0.mk hcb
         have HDN := Aside0.mk (digs_snoc HD0.out hdg)
         have HVR := Aside0.mk (valTo_range HD0.out (by omega))
         have HS3 := Aside0.mk hs3
         have hv0 := HVR.out.1
         have hv1 := HVR.out.2
         have hsz3 : decide ((w1_.size : Int) ≤ 3) = true := decide_eq_true (by omega)
         clear hdec hcb hdg hs3
         obtain ⟨v,hv⟩ : ∃ v,valTo w1_ pos = v := ⟨_,rfl⟩
         have HV := Aside0.mk hv
         rw [hv] at BL hv0 hv1
         clear hv
         have hw32 : wrap32 ((c : Int) - 48) = (c : Int) - 48 := by unfold wrap32;omega
         go_wp2_with (first | ((with_reducible refine gate_dst (N := 38) rfl ?_);refine next_event2 (x := w1_) (pos := pos) c 1 rfl rfl rfl BI.out hpx HD.out ?_;intro w5 hw5;have HW5 := Aside0.mk hw5;clear hw5;have n_ := Aside0.mk (iterAt_far (pos' := pos + 1) (x := w1_) HN2.out BL.out);rw [← HW5.out] at n_;clear BL;have BL := n_;clear n_;have n_ := Aside0.mk (iterAt_far (pos' := pos + 1) (x := w1_) HN3.out BG.out);rw [← HW5.out] at n_;clear BG;have BG := n_;clear n_;have n_ := Aside0.mk (iterAt_below (pos' := pos + 1) (x := w1_) HB.out HGI.out);rw [← HW5.out] at n_;clear HB;have HB := n_;clear n_;have n_ := Aside0.mk (iterAt_at (pos' := pos + 1) BI.out);rw [← HW5.out] at n_;clear BI;have BI := n_;clear n_;clear HW5) | (go_at_call 122;(with_reducible refine (ca_sure.calls true w1_  _ rfl).mono ?_);rintro e w6 ⟨rfl,hd⟩;have hb := hd.below;clear hd;have n_ := Aside0.mk (below_then HB.out HB.out.size hb);clear HB;have HB := n_;clear n_;have n_ := Aside0.mk (blk_below BG.out hb);clear BG;have BG := n_;clear n_;have n_ := Aside0.mk (blk_below BL.out hb);clear BL;have BL := n_;clear n_;have n_ := Aside0.mk (blk_below BI.out hb);clear BI;have BI := n_;clear n_;clear hb;(try clear hcl0 hcl1 hfl0 hfl1);have hcl0 : w6.cell? ⟨gl,0,none⟩ = some (.int .i64 v) := (blk_cell BL.out 0).trans rfl;have hcl1 : w6.cell? ⟨gl,1,none⟩ = some (.int .i64 0) := (blk_cell BL.out 1).trans rfl;have hfl0 := blk_frozen BL.out 0;have hfl1 := blk_frozen BL.out 1))
         go_roundw
         case rel => exact ⟨pos + 1,by omega,HDN,⟨.inl HS3.out⟩,⟨set_iter (Ne.symm HN2.out) BI.out⟩,⟨by have h := blk_set BL.out 0 (.int .i64 (valTo w1_ (pos + 1)));rw [show valTo w1_ (pos + 1) = 10 * v + ((c : Int) - 48) by rw [valTo,HV.out,HCB.out]] at *;exact h⟩,⟨blk_far BG.out HNE.out _⟩,⟨below_set HB.out HGL.out⟩⟩
         case measure => rw [iter_pos (set_iter (Ne.symm HN2.out) BI.out),HIP.out];omega
       · have HR := Aside0.mk (HNN.out (digB_false hpx (fun h => hgood ⟨⟨h.1,h.2.1⟩,h.2.2⟩)))
         by_cases hdg : 48 ≤ bt w1_ pos ∧ bt w1_ pos ≤ 57
         · obtain ⟨c,hdec,hcb,hc48,hc57⟩ := digit_ex hpx hdg
           have HD := Aside0.mk hdec
           have hsz3 : decide ((w1_.size : Int) ≤ 3) = false := decide_eq_false (by intro h;exact hgood ⟨hdg,by omega⟩)
           clear hdec hcb hdg hgood
           go_wp2_with (first | ((with_reducible refine gate_dst (N := 38) rfl ?_);refine next_event2 (x := w1_) (pos := pos) c 1 rfl rfl rfl BI.out hpx HD.out ?_;intro w5 hw5;have HW5 := Aside0.mk hw5;clear hw5;have n_ := Aside0.mk (iterAt_far (pos' := pos + 1) (x := w1_) HN2.out BL.out);rw [← HW5.out] at n_;clear BL;have BL := n_;clear n_;have n_ := Aside0.mk (iterAt_far (pos' := pos + 1) (x := w1_) HN3.out BG.out);rw [← HW5.out] at n_;clear BG;have BG := n_;clear n_;have n_ := Aside0.mk (iterAt_below (pos' := pos + 1) (x := w1_) HB.out HGI.out);rw [← HW5.out] at n_;clear HB;have HB := n_;clear n_;have n_ := Aside0.mk (iterAt_at (pos' := pos + 1) BI.out);rw [← HW5.out] at n_;clear BI;have BI := n_;clear n_;clear HW5) | (go_at_call 122;(with_reducible refine (ca_sure_P.calls false w1_ w1_ _ rfl).mono ?_);rintro e w6 ⟨rfl,hd⟩;have hb := hd.below;clear hd;have n_ := Aside0.mk (below_then HB.out HB.out.size hb);clear HB;have HB := n_;clear n_;have n_ := Aside0.mk (blk_below BG.out hb);clear BG;have BG := n_;clear n_;have n_ := Aside0.mk (blk_below BL.out hb);clear BL;have BL := n_;clear n_;have n_ := Aside0.mk (blk_below BI.out hb);clear BI;have BI := n_;clear n_;clear hb))
           refine ⟨rfl,?_,HB.out⟩
           rw [HR.out]
           exact ⟨_,rfl⟩
         · obtain ⟨c,k,hdec,hcn⟩ := digit_not hpx hdg
           have HD := Aside0.mk hdec
           clear hdec hdg hgood
           by_cases hc48 : 48 ≤ (c : Int)
           · have hc57 : ¬ (c : Int) ≤ 57 := fun h => hcn ⟨hc48,h⟩
             have hcd : decide ((c : Int) ≤ 57) = false := decide_eq_false hc57
             clear hcn
             go_wp2_with (first | ((with_reducible refine gate_dst (N := 38) rfl ?_);refine next_event2 (x := w1_) (pos := pos) c k rfl rfl rfl BI.out hpx HD.out ?_;intro w5 hw5;have HW5 := Aside0.mk hw5;clear hw5;have n_ := Aside0.mk (iterAt_far (pos' := pos + k) (x := w1_) HN2.out BL.out);rw [← HW5.out] at n_;clear BL;have BL := n_;clear n_;have n_ := Aside0.mk (iterAt_far (pos' := pos + k) (x := w1_) HN3.out BG.out);rw [← HW5.out] at n_;clear BG;have BG := n_;clear n_;have n_ := Aside0.mk (iterAt_below (pos' := pos + k) (x := w1_) HB.out HGI.out);rw [← HW5.out] at n_;clear HB;have HB := n_;clear n_;have n_ := Aside0.mk (iterAt_at (pos' := pos + k) BI.out);rw [← HW5.out] at n_;clear BI;have BI := n_;clear n_;clear HW5) | (go_at_call 122;(with_reducible refine (ca_sure_P.calls false w1_ w1_ _ rfl).mono ?_);rintro e w6 ⟨rfl,hd⟩;have hb := hd.below;clear hd;have n_ := Aside0.mk (below_then HB.out HB.out.size hb);clear HB;have HB := n_;clear n_;have n_ := Aside0.mk (blk_below BG.out hb);clear BG;have BG := n_;clear n_;have n_ := Aside0.mk (blk_below BL.out hb);clear BL;have BL := n_;clear n_;have n_ := Aside0.mk (blk_below BI.out hb);clear BI;have BI := n_;clear n_;clear hb))
             refine ⟨rfl,?_,HB.out⟩
             rw [HR.out]
             exact ⟨_,rfl⟩
           · have hcd : decide (48 ≤ (c : Int)) = false := decide_eq_false hc48
             clear hcn
             go_wp2_with (first | ((with_reducible refine gate_dst (N := 38) rfl ?_);refine next_event2 (x := w1_) (pos := pos) c k rfl rfl rfl BI.out hpx HD.out ?_;intro w5 hw5;have HW5 := Aside0.mk hw5;clear hw5;have n_ := Aside0.mk (iterAt_far (pos' := pos + k) (x := w1_) HN2.out BL.out);rw [← HW5.out] at n_;clear BL;have BL := n_;clear n_;have n_ := Aside0.mk (iterAt_far (pos' := pos + k) (x := w1_) HN3.out BG.out);rw [← HW5.out] at n_;clear BG;have BG := n_;clear n_;have n_ := Aside0.mk (iterAt_below (pos' := pos + k) (x := w1_) HB.out HGI.out);rw [← HW5.out] at n_;clear HB;have HB := n_;clear n_;have n_ := Aside0.mk (iterAt_at (pos' := pos + k) BI.out);rw [← HW5.out] at n_;clear BI;have BI := n_;clear n_;clear HW5) | (go_at_call 122;(with_reducible refine (ca_sure_P.calls false w1_ w1_ _ rfl).mono ?_);rintro e w6 ⟨rfl,hd⟩;have hb := hd.below;clear hd;have n_ := Aside0.mk (below_then HB.out HB.out.size hb);clear HB;have HB := n_;clear n_;have n_ := Aside0.mk (blk_below BG.out hb);clear BG;have BG := n_;clear n_;have n_ := Aside0.mk (blk_below BL.out hb);clear BL;have BL := n_;clear n_;have n_ := Aside0.mk (blk_below BI.out hb);clear BI;have BI := n_;clear n_;clear hb))
             refine ⟨rfl,?_,HB.out⟩
             rw [HR.out]
             exact ⟨_,rfl⟩
     · obtain rfl : pos = w1_.size := by omega
       by_cases h0 : w1_.size = 0
       · have HR := Aside0.mk (HNN.out (numF_empty h0))
         have hee := str_nil h0
         clear h0
         (try clear hcl0 hcl1 hfl0 hfl1);have hcl0 : wr.cell? ⟨gl,0,none⟩ = some (.int .i64 (valTo w1_ w1_.size)) := (blk_cell BL.out 0).trans rfl;have hcl1 : wr.cell? ⟨gl,1,none⟩ = some (.int .i64 0) := (blk_cell BL.out 1).trans rfl;have hfl0 := blk_frozen BL.out 0;have hfl1 := blk_frozen BL.out 1
         go_wp2_with (first | ((with_reducible refine gate_dst (N := 38) rfl ?_);refine next_over (x := w1_) (pos := w1_.size) rfl rfl rfl BI.out hpx ?_) | (go_at_call 122;(with_reducible refine (ca_sure_P.calls false w1_ w1_ _ rfl).mono ?_);rintro e w7 ⟨rfl,hd⟩;have hb := hd.below;clear hd;have n_ := Aside0.mk (below_then HB.out HB.out.size hb);clear HB;have HB := n_;clear n_;have n_ := Aside0.mk (blk_below BG.out hb);clear BG;have BG := n_;clear n_;have n_ := Aside0.mk (blk_below BL.out hb);clear BL;have BL := n_;clear n_;have n_ := Aside0.mk (blk_below BI.out hb);clear BI;have BI := n_;clear n_;clear hb))
         refine ⟨rfl,?_,HB.out⟩
         rw [HR.out]
         exact ⟨_,rfl⟩
       · have hne := str_ne h0
         have HH0 := Aside0.mk h0
         have HS3 := Aside0.mk (show w1_.size ≤ 3 from HD3.out.elim id (fun e => absurd e h0))
         have HVR := Aside0.mk (valTo_range HD0.out HS3.out)
         obtain ⟨v,hv⟩ : ∃ v,valTo w1_ w1_.size = v := ⟨_,rfl⟩
         have HV := Aside0.mk hv
         rw [hv] at BL HVR
         clear hv h0
         (try clear hcl0 hcl1 hfl0 hfl1);have hcl0 : wr.cell? ⟨gl,0,none⟩ = some (.int .i64 v) := (blk_cell BL.out 0).trans rfl;have hcl1 : wr.cell? ⟨gl,1,none⟩ = some (.int .i64 0) := (blk_cell BL.out 1).trans rfl;have hfl0 := blk_frozen BL.out 0;have hfl1 := blk_frozen BL.out 1
         by_cases hit : itB v = w1_
         · have hq9 := bl_true hit
           rw [it_list] at hq9
           have HNF := Aside0.mk (show numF w1_ = some v by have h := numF_some HH0.out HD0.out HS3.out (by rw [HV.out];exact hit);rw [HV.out] at h;exact h)
           clear hit
           go_wp2_with (first | ((with_reducible refine gate_dst (N := 38) rfl ?_);refine next_over (x := w1_) (pos := w1_.size) rfl rfl rfl BI.out hpx ?_) | (go_at_call 119;(with_reducible refine (itoa_calls v (by have := HVR.out;omega) (by have := HVR.out;omega) _ (HG.out.below HB.out)).mono ?_);rintro e w6 ⟨rfl,hb⟩;have n_ := Aside0.mk (below_then HB.out HB.out.size hb);clear HB;have HB := n_;clear n_;have n_ := Aside0.mk (blk_below BG.out hb);clear BG;have BG := n_;clear n_;have n_ := Aside0.mk (blk_below BL.out hb);clear BL;have BL := n_;clear n_;have n_ := Aside0.mk (blk_below BI.out hb);clear BI;have BI := n_;clear n_;clear hb) | (go_at_call 122;(with_reducible refine (ca_sure.calls true w1_  _ rfl).mono ?_);rintro e w7 ⟨rfl,hd⟩;have hb := hd.below;clear hd;have n_ := Aside0.mk (below_then HB.out HB.out.size hb);clear HB;have HB := n_;clear n_;have n_ := Aside0.mk (blk_below BG.out hb);clear BG;have BG := n_;clear n_;have n_ := Aside0.mk (blk_below BL.out hb);clear BL;have BL := n_;clear n_;have n_ := Aside0.mk (blk_below BI.out hb);clear BI;have BI := n_;clear n_;clear hb))
           go_roundw
           case rel => exact ⟨1,v,0,by go_num,⟨.inr (.inl ⟨rfl,HNF.out,rfl⟩)⟩,BL,BG,HB⟩
           case measure => first | (simp [intOf];done) | trivial | omega
         · have hq9 := bl_false hit
           rw [it_list] at hq9
           have HR := Aside0.mk (HNN.out (numF_ne (by rw [HV.out];exact hit)))
           clear hit
           go_wp2_with (first | ((with_reducible refine gate_dst (N := 38) rfl ?_);refine next_over (x := w1_) (pos := w1_.size) rfl rfl rfl BI.out hpx ?_) | (go_at_call 119;(with_reducible refine (itoa_calls v (by have := HVR.out;omega) (by have := HVR.out;omega) _ (HG.out.below HB.out)).mono ?_);rintro e w6 ⟨rfl,hb⟩;have n_ := Aside0.mk (below_then HB.out HB.out.size hb);clear HB;have HB := n_;clear n_;have n_ := Aside0.mk (blk_below BG.out hb);clear BG;have BG := n_;clear n_;have n_ := Aside0.mk (blk_below BL.out hb);clear BL;have BL := n_;clear n_;have n_ := Aside0.mk (blk_below BI.out hb);clear BI;have BI := n_;clear n_;clear hb) | (go_at_call 122;(with_reducible refine (ca_sure_P.calls false w1_ w1_ _ rfl).mono ?_);rintro e w7 ⟨rfl,hd⟩;have hb := hd.below;clear hd;have n_ := Aside0.mk (below_then HB.out HB.out.size hb);clear HB;have HB := n_;clear n_;have n_ := Aside0.mk (blk_below BG.out hb);clear BG;have BG := n_;clear n_;have n_ := Aside0.mk (blk_below BL.out hb);clear BL;have BL := n_;clear n_;have n_ := Aside0.mk (blk_below BI.out hb);clear BI;have BI := n_;clear n_;clear hb))
           refine ⟨rfl,?_,HB.out⟩
           rw [HR.out]
           exact ⟨_,rfl⟩
  · skip
    have HNN := Aside0.mk (show numF w2_ = none → toldF line wd = none by intro hn;rw [HF2.out];rw [hn1,hn];rfl)
    have HN1 := Aside0.mk hn1
    clear hn1
    have hcg0 : W1.cell? ⟨g,1,none⟩ = some (.string w1_) := (blk_cell BG.out 1).trans rfl
    have hcg1 : W1.cell? ⟨g,2,none⟩ = some (.string w2_) := (blk_cell BG.out 2).trans rfl
    go_wp2_with ((with_reducible refine gate_dst (N := 37) rfl ?_);refine range_event (x := w2_) rfl rfl rfl hu ?_;intro gi hgi w5 hit hb;have HGI := Aside0.mk (show w.heap.size ≤ gi by have := HB.out.size;omega);clear hgi;have BI := Aside0.mk hit;clear hit;have n_ := Aside0.mk (below_then HB.out HB.out.size hb);clear HB;have HB := n_;clear n_;have n_ := Aside0.mk (blk_below BG.out hb);clear BG;have BG := n_;clear n_;have n_ := Aside0.mk (blk_below BL.out hb);clear BL;have BL := n_;clear n_;clear hb)
    simp only [Act.put,List.setIfInBounds_toArray,List.set_cons_zero,List.set_cons_succ]
    clear hcg0 hcg1
    have HN2 := Aside0.mk (show gl ≠ gi by intro e;have h1 := BL.out;have h2 := BI.out;rw [e,h2] at h1;cases h1)
    have HN3 := Aside0.mk (show g ≠ gi by intro e;have h1 := BG.out;have h2 := BI.out;rw [e,h2] at h1;cases h1)
    go_loopw [38] (fun v38 W' => ∃ pos : Nat,pos ≤ w2_.size ∧ Aside0 (∀ q : Nat,q < pos → 48 ≤ bt w2_ q ∧ bt w2_ q ≤ 57) ∧ Aside0 (w2_.size ≤ 3 ∨ pos = 0) ∧ Aside0 (W'.heap[gi]? = some (.stringIter w2_ pos)) ∧ Aside0 (W'.heap[gl]? = some (.cells #[.int .i64 l0,.int .i64 (valTo w2_ pos)] 161 (0,0))) ∧ Aside0 (W'.heap[g]? = some (.cells #[.string w0,.string w1_,.string w2_] 9 (0,0))) ∧ Aside0 (Below w.heap.size w W')) (fun _ W' => w2_.size - W'.iterPos gi)
    case atStart => exact ⟨0,Nat.zero_le _,⟨fun q h => absurd h (Nat.not_lt_zero q)⟩,⟨.inr rfl⟩,BI,BL,BG,HB⟩
    case round =>
     clear BI BL BG HB
     obtain ⟨pos,hple,HD0,HD3,BI,BL,BG,HB⟩ := hrel
     have HIP := Aside0.mk (iter_pos BI.out)
     by_cases hpx : pos < w2_.size
     · by_cases hgood : (48 ≤ bt w2_ pos ∧ bt w2_ pos ≤ 57) ∧ w2_.size ≤ 3
       · obtain ⟨hdg,hs3⟩ := hgood
         obtain ⟨c,hdec,hcb,hc48,hc57⟩ := digit_ex hpx hdg
         have HD := Aside0.mk hdec
         have HCB := Aside0.mk hcb
         have HDN := Aside0.mk (digs_snoc HD0.out hdg)
         have HVR := Aside0.mk (valTo_range HD0.out (by omega))
         have HS3 := Aside0.mk hs3
         have hv0 := HVR.out.1
         have hv1 := HVR.out.2
         have hsz3 : decide ((w2_.size : Int) ≤ 3) = true := decide_eq_true (by omega)
         clear hdec hcb hdg hs3
         obtain ⟨v,hv⟩ : ∃ v,valTo w2_ pos = v := ⟨_,rfl⟩
         have HV := Aside0.mk hv
         rw [hv] at BL hv0 hv1
         clear hv
         have hw32 : wrap32 ((c : Int) - 48) = (c : Int) - 48 := by unfold wrap32;omega
         go_wp2_with (first | ((with_reducible refine gate_dst (N := 38) rfl ?_);refine next_event2 (x := w2_) (pos := pos) c 1 rfl rfl rfl BI.out hpx HD.out ?_;intro w5 hw5;have HW5 := Aside0.mk hw5;clear hw5;have n_ := Aside0.mk (iterAt_far (pos' := pos + 1) (x := w2_) HN2.out BL.out);rw [← HW5.out] at n_;clear BL;have BL := n_;clear n_;have n_ := Aside0.mk (iterAt_far (pos' := pos + 1) (x := w2_) HN3.out BG.out);rw [← HW5.out] at n_;clear BG;have BG := n_;clear n_;have n_ := Aside0.mk (iterAt_below (pos' := pos + 1) (x := w2_) HB.out HGI.out);rw [← HW5.out] at n_;clear HB;have HB := n_;clear n_;have n_ := Aside0.mk (iterAt_at (pos' := pos + 1) BI.out);rw [← HW5.out] at n_;clear BI;have BI := n_;clear n_;clear HW5) | (go_at_call 122;(with_reducible refine (ca_sure.calls true w2_  _ rfl).mono ?_);rintro e w6 ⟨rfl,hd⟩;have hb := hd.below;clear hd;have n_ := Aside0.mk (below_then HB.out HB.out.size hb);clear HB;have HB := n_;clear n_;have n_ := Aside0.mk (blk_below BG.out hb);clear BG;have BG := n_;clear n_;have n_ := Aside0.mk (blk_below BL.out hb);clear BL;have BL := n_;clear n_;have n_ := Aside0.mk (blk_below BI.out hb);clear BI;have BI := n_;clear n_;clear hb;(try clear hcl0 hcl1 hfl0 hfl1);have hcl0 : w6.cell? ⟨gl,0,none⟩ = some (.int .i64 l0) := (blk_cell BL.out 0).trans rfl;have hcl1 : w6.cell? ⟨gl,1,none⟩ = some (.int .i64 v) := (blk_cell BL.out 1).trans rfl;have hfl0 := blk_frozen BL.out 0;have hfl1 := blk_frozen BL.out 1))
         go_roundw
         case rel => exact ⟨pos + 1,by omega,HDN,⟨.inl HS3.out⟩,⟨set_iter (Ne.symm HN2.out) BI.out⟩,⟨by have h := blk_set BL.out 1 (.int .i64 (valTo w2_ (pos + 1)));rw [show valTo w2_ (pos + 1) = 10 * v + ((c : Int) - 48) by rw [valTo,HV.out,HCB.out]] at *;exact h⟩,⟨blk_far BG.out HNE.out _⟩,⟨below_set HB.out HGL.out⟩⟩
         case measure => rw [iter_pos (set_iter (Ne.symm HN2.out) BI.out),HIP.out];omega
       · have HR := Aside0.mk (HNN.out (digB_false hpx (fun h => hgood ⟨⟨h.1,h.2.1⟩,h.2.2⟩)))
         by_cases hdg : 48 ≤ bt w2_ pos ∧ bt w2_ pos ≤ 57
         · obtain ⟨c,hdec,hcb,hc48,hc57⟩ := digit_ex hpx hdg
           have HD := Aside0.mk hdec
           have hsz3 : decide ((w2_.size : Int) ≤ 3) = false := decide_eq_false (by intro h;exact hgood ⟨hdg,by omega⟩)
           clear hdec hcb hdg hgood
           go_wp2_with (first | ((with_reducible refine gate_dst (N := 38) rfl ?_);refine next_event2 (x := w2_) (pos := pos) c 1 rfl rfl rfl BI.out hpx HD.out ?_;intro w5 hw5;have HW5 := Aside0.mk hw5;clear hw5;have n_ := Aside0.mk (iterAt_far (pos' := pos + 1) (x := w2_) HN2.out BL.out);rw [← HW5.out] at n_;clear BL;have BL := n_;clear n_;have n_ := Aside0.mk (iterAt_far (pos' := pos + 1) (x := w2_) HN3.out BG.out);rw [← HW5.out] at n_;clear BG;have BG := n_;clear n_;have n_ := Aside0.mk (iterAt_below (pos' := pos + 1) (x := w2_) HB.out HGI.out);rw [← HW5.out] at n_;clear HB;have HB := n_;clear n_;have n_ := Aside0.mk (iterAt_at (pos' := pos + 1) BI.out);rw [← HW5.out] at n_;clear BI;have BI := n_;clear n_;clear HW5) | (go_at_call 122;(with_reducible refine (ca_sure_P.calls false w2_ w2_ _ rfl).mono ?_);rintro e w6 ⟨rfl,hd⟩;have hb := hd.below;clear hd;have n_ := Aside0.mk (below_then HB.out HB.out.size hb);clear HB;have HB := n_;clear n_;have n_ := Aside0.mk (blk_below BG.out hb);clear BG;have BG := n_;clear n_;have n_ := Aside0.mk (blk_below BL.out hb);clear BL;have BL := n_;clear n_;have n_ := Aside0.mk (blk_below BI.out hb);clear BI;have BI := n_;clear n_;clear hb))
           refine ⟨rfl,?_,HB.out⟩
           rw [HR.out]
           exact ⟨_,rfl⟩
         · obtain ⟨c,k,hdec,hcn⟩ := digit_not hpx hdg
           have HD := Aside0.mk hdec
           clear hdec hdg hgood
           by_cases hc48 : 48 ≤ (c : Int)
           · have hc57 : ¬ (c : Int) ≤ 57 := fun h => hcn ⟨hc48,h⟩
             have hcd : decide ((c : Int) ≤ 57) = false := decide_eq_false hc57
             clear hcn
             go_wp2_with (first | ((with_reducible refine gate_dst (N := 38) rfl ?_);refine next_event2 (x := w2_) (pos := pos) c k rfl rfl rfl BI.out hpx HD.out ?_;intro w5 hw5;have HW5 := Aside0.mk hw5;clear hw5;have n_ := Aside0.mk (iterAt_far (pos' := pos + k) (x := w2_) HN2.out BL.out);rw [← HW5.out] at n_;clear BL;have BL := n_;clear n_;have n_ := Aside0.mk (iterAt_far (pos' := pos + k) (x := w2_) HN3.out BG.out);rw [← HW5.out] at n_;clear BG;have BG := n_;clear n_;have n_ := Aside0.mk (iterAt_below (pos' := pos + k) (x := w2_) HB.out HGI.out);rw [← HW5.out] at n_;clear HB;have HB := n_;clear n_;have n_ := Aside0.mk (iterAt_at (pos' := pos + k) BI.out);rw [← HW5.out] at n_;clear BI;have BI := n_;clear n_;clear HW5) | (go_at_call 122;(with_reducible refine (ca_sure_P.calls false w2_ w2_ _ rfl).mono ?_);rintro e w6 ⟨rfl,hd⟩;have hb := hd.below;clear hd;have n_ := Aside0.mk (below_then HB.out HB.out.size hb);clear HB;have HB := n_;clear n_;have n_ := Aside0.mk (blk_below BG.out hb);clear BG;have BG := n_;clear n_;have n_ := Aside0.mk (blk_below BL.out hb);clear BL;have BL := n_;clear n_;have n_ := Aside0.mk (blk_below BI.out hb);clear BI;have BI := n_;clear n_;clear hb))
             refine ⟨rfl,?_,HB.out⟩
             rw [HR.out]
             exact ⟨_,rfl⟩
           · have hcd : decide (48 ≤ (c : Int)) = false := decide_eq_false hc48
             clear hcn
             go_wp2_with (first | ((with_reducible refine gate_dst (N := 38) rfl ?_);refine next_event2 (x := w2_) (pos := pos) c k rfl rfl rfl BI.out hpx HD.out ?_;intro w5 hw5;have HW5 := Aside0.mk hw5;clear hw5;have n_ := Aside0.mk (iterAt_far (pos' := pos + k) (x := w2_) HN2.out BL.out);rw [← HW5.out] at n_;clear BL;have BL := n_;clear n_;have n_ := Aside0.mk (iterAt_far (pos' := pos + k) (x := w2_) HN3.out BG.out);rw [← HW5.out] at n_;clear BG;have BG := n_;clear n_;have n_ := Aside0.mk (iterAt_below (pos' := pos + k) (x := w2_) HB.out HGI.out);rw [← HW5.out] at n_;clear HB;have HB := n_;clear n_;have n_ := Aside0.mk (iterAt_at (pos' := pos + k) BI.out);rw [← HW5.out] at n_;clear BI;have BI := n_;clear n_;clear HW5) | (go_at_call 122;(with_reducible refine (ca_sure_P.calls false w2_ w2_ _ rfl).mono ?_);rintro e w6 ⟨rfl,hd⟩;have hb := hd.below;clear hd;have n_ := Aside0.mk (below_then HB.out HB.out.size hb);clear HB;have HB := n_;clear n_;have n_ := Aside0.mk (blk_below BG.out hb);clear BG;have BG := n_;clear n_;have n_ := Aside0.mk (blk_below BL.out hb);clear BL;have BL := n_;clear n_;have n_ := Aside0.mk (blk_below BI.out hb);clear BI;have BI := n_;clear n_;clear hb))
             refine ⟨rfl,?_,HB.out⟩
             rw [HR.out]
             exact ⟨_,rfl⟩
     · obtain rfl : pos = w2_.size := by omega
       by_cases h0 : w2_.size = 0
       · have HR := Aside0.mk (HNN.out (numF_empty h0))
         have hee := str_nil h0
         clear h0
         (try clear hcl0 hcl1 hfl0 hfl1);have hcl0 : wr.cell? ⟨gl,0,none⟩ = some (.int .i64 l0) := (blk_cell BL.out 0).trans rfl;have hcl1 : wr.cell? ⟨gl,1,none⟩ = some (.int .i64 (valTo w2_ w2_.size)) := (blk_cell BL.out 1).trans rfl;have hfl0 := blk_frozen BL.out 0;have hfl1 := blk_frozen BL.out 1
         go_wp2_with (first | ((with_reducible refine gate_dst (N := 38) rfl ?_);refine next_over (x := w2_) (pos := w2_.size) rfl rfl rfl BI.out hpx ?_) | (go_at_call 122;(with_reducible refine (ca_sure_P.calls false w2_ w2_ _ rfl).mono ?_);rintro e w7 ⟨rfl,hd⟩;have hb := hd.below;clear hd;have n_ := Aside0.mk (below_then HB.out HB.out.size hb);clear HB;have HB := n_;clear n_;have n_ := Aside0.mk (blk_below BG.out hb);clear BG;have BG := n_;clear n_;have n_ := Aside0.mk (blk_below BL.out hb);clear BL;have BL := n_;clear n_;have n_ := Aside0.mk (blk_below BI.out hb);clear BI;have BI := n_;clear n_;clear hb))
         refine ⟨rfl,?_,HB.out⟩
         rw [HR.out]
         exact ⟨_,rfl⟩
       · have hne := str_ne h0
         have HH0 := Aside0.mk h0
         have HS3 := Aside0.mk (show w2_.size ≤ 3 from HD3.out.elim id (fun e => absurd e h0))
         have HVR := Aside0.mk (valTo_range HD0.out HS3.out)
         obtain ⟨v,hv⟩ : ∃ v,valTo w2_ w2_.size = v := ⟨_,rfl⟩
         have HV := Aside0.mk hv
         rw [hv] at BL HVR
         clear hv h0
         (try clear hcl0 hcl1 hfl0 hfl1);have hcl0 : wr.cell? ⟨gl,0,none⟩ = some (.int .i64 l0) := (blk_cell BL.out 0).trans rfl;have hcl1 : wr.cell? ⟨gl,1,none⟩ = some (.int .i64 v) := (blk_cell BL.out 1).trans rfl;have hfl0 := blk_frozen BL.out 0;have hfl1 := blk_frozen BL.out 1
         by_cases hit : itB v = w2_
         · have hq9 := bl_true hit
           rw [it_list] at hq9
           have HNF := Aside0.mk (show numF w2_ = some v by have h := numF_some HH0.out HD0.out HS3.out (by rw [HV.out];exact hit);rw [HV.out] at h;exact h)
           clear hit
           go_wp2_with (first | ((with_reducible refine gate_dst (N := 38) rfl ?_);refine next_over (x := w2_) (pos := w2_.size) rfl rfl rfl BI.out hpx ?_) | (go_at_call 119;(with_reducible refine (itoa_calls v (by have := HVR.out;omega) (by have := HVR.out;omega) _ (HG.out.below HB.out)).mono ?_);rintro e w6 ⟨rfl,hb⟩;have n_ := Aside0.mk (below_then HB.out HB.out.size hb);clear HB;have HB := n_;clear n_;have n_ := Aside0.mk (blk_below BG.out hb);clear BG;have BG := n_;clear n_;have n_ := Aside0.mk (blk_below BL.out hb);clear BL;have BL := n_;clear n_;have n_ := Aside0.mk (blk_below BI.out hb);clear BI;have BI := n_;clear n_;clear hb) | (go_at_call 122;(with_reducible refine (ca_sure.calls true w2_  _ rfl).mono ?_);rintro e w7 ⟨rfl,hd⟩;have hb := hd.below;clear hd;have n_ := Aside0.mk (below_then HB.out HB.out.size hb);clear HB;have HB := n_;clear n_;have n_ := Aside0.mk (blk_below BG.out hb);clear BG;have BG := n_;clear n_;have n_ := Aside0.mk (blk_below BL.out hb);clear BL;have BL := n_;clear n_;have n_ := Aside0.mk (blk_below BI.out hb);clear BI;have BI := n_;clear n_;clear hb))
           go_roundw
           case rel => exact ⟨2,l0,v,by go_num,⟨.inr (.inr ⟨rfl,HN1.out,HNF.out⟩)⟩,BL,BG,HB⟩
           case measure => first | (simp [intOf];done) | trivial | omega
         · have hq9 := bl_false hit
           rw [it_list] at hq9
           have HR := Aside0.mk (HNN.out (numF_ne (by rw [HV.out];exact hit)))
           clear hit
           go_wp2_with (first | ((with_reducible refine gate_dst (N := 38) rfl ?_);refine next_over (x := w2_) (pos := w2_.size) rfl rfl rfl BI.out hpx ?_) | (go_at_call 119;(with_reducible refine (itoa_calls v (by have := HVR.out;omega) (by have := HVR.out;omega) _ (HG.out.below HB.out)).mono ?_);rintro e w6 ⟨rfl,hb⟩;have n_ := Aside0.mk (below_then HB.out HB.out.size hb);clear HB;have HB := n_;clear n_;have n_ := Aside0.mk (blk_below BG.out hb);clear BG;have BG := n_;clear n_;have n_ := Aside0.mk (blk_below BL.out hb);clear BL;have BL := n_;clear n_;have n_ := Aside0.mk (blk_below BI.out hb);clear BI;have BI := n_;clear n_;clear hb) | (go_at_call 122;(with_reducible refine (ca_sure_P.calls false w2_ w2_ _ rfl).mono ?_);rintro e w7 ⟨rfl,hd⟩;have hb := hd.below;clear hd;have n_ := Aside0.mk (below_then HB.out HB.out.size hb);clear HB;have HB := n_;clear n_;have n_ := Aside0.mk (blk_below BG.out hb);clear BG;have BG := n_;clear n_;have n_ := Aside0.mk (blk_below BL.out hb);clear BL;have BL := n_;clear n_;have n_ := Aside0.mk (blk_below BI.out hb);clear BI;have BI := n_;clear n_;clear hb))
           refine ⟨rfl,?_,HB.out⟩
           rw [HR.out]
           exact ⟨_,rfl⟩
  · have HR := Aside0.mk (show toldF line wd = some (l0,l1) by rw [HF2.out,hn1,hn2];rfl)
    clear hn1 hn2
    (try clear hcl0 hcl1 hfl0 hfl1);have hcl0 : W1.cell? ⟨gl,0,none⟩ = some (.int .i64 l0) := (blk_cell BL.out 0).trans rfl;have hcl1 : W1.cell? ⟨gl,1,none⟩ = some (.int .i64 l1) := (blk_cell BL.out 1).trans rfl;have hfl0 := blk_frozen BL.out 0;have hfl1 := blk_frozen BL.out 1
    go_wp2
    go_quiet (fail)
    go_wp2
    go_ret2
    refine ⟨?_,by repeat (first | exact HB.out | apply below_drew1 | apply pw_below_drewN)⟩
    rw [HR.out]
    rfl
theorem infoC_int : (Tryz.prog.info? 3).map (fun i => (i.zero,i.size,i.bytes)) = some (some (.int .i64 0),1,8) := by kernel_rfl
def sl_Clone_int.f (l0 : List Int) : Option (List Int) := if l0.length < 17592186044416 then some l0 else none
theorem sl_Clone_int.calls (A0 : Option Addr) (c0 : Nat) (l0 : List Int) (r : List Int) (w : World) (hr0 : Kd.C (Kd.int .i64) w A0 l0.length l0) (hc0 : l0.length ≤ c0) (h : sl_Clone_int.f l0 = some r) :
 Calls Tryz.prog 108 #[.slice A0 l0.length c0] w fun e w' => ∃ v0_ : Value,e = .returned v0_ ∧ Kd.R (Kd.int .i64) 3 w' w.heap.size (fun _ => True) v0_ r ∧ Below w.heap.size w w' := by
 unfold sl_Clone_int.f at h
 by_cases hl : l0.length < 17592186044416
 case neg =>
  rw [if_neg hl] at h;cases h
 rw [if_pos hl] at h
 obtain rfl := Option.some.inj h
 clear h
 have hq : ∀ (W : World) (a : Option Addr) (n c : Nat),(binOp .eql 28 (.slice a n c) (.slice none 0 0)).run Tryz.prog W = .ok (.bool a.isNone) W := fun W a n c => Lib.run_eql_slice_nil W 28 3 a n c 0 0 Tryz.underlying28
 cases A0 with
 | none =>
  have hn : l0 = [] := by
   rcases Nat.eq_zero_or_pos l0.length with h0 | h0
   · exact List.eq_nil_of_length_eq_zero h0
   · obtain ⟨ad,e,_⟩ := hr0.2.2 h0;cases e
  subst hn
  clear hr0 hc0 hl
  go_enter Tryz.func108,Tryz.ntmps108
  go_wp2
  go_ret
  exact ⟨_,rfl,Kd.R_nil _ _ _ _ _,Below.refl _ _⟩
 | some ad =>
  have HR := am (kC hr0 (below_alloc (Below.refl _ w) (.cells #[] 3)))
  have HL := am hl
  clear hr0 hc0 hl
  have HO := am (show Kd.R (Kd.int .i64) 3 (w.alloc (.cells #[] 3)) w.heap.size (fun _ => True) (.slice (some ⟨w.heap.size,0,none⟩) 0 0) [] from ⟨fun _ _ => trivial,[],by simpa using World.ownsRow_lit (base := w.heap.size) (e := 3) (size := ((Kd.int .i64)).sz) w #[] 0 (Nat.le_refl _) (by simp [maxLen]) (by simp),Reps.none _ _⟩)
  go_enter Tryz.func108,Tryz.ntmps108
  go_wp2_with ((with_reducible refine gate_builtin (b := .append) (xs := #[.tmp 5,.tmp 6]) rfl ?_);at_builtin;refine Kd.R_append_rows (Kd.int .i64) (Rr := ((Kd.int .i64)).K (w.alloc (.cells #[] 3))) (w0 := w) w.heap.size rfl (.tmp 5) (.tmp 6) 28 3 (.int .i64 0) 8 rfl Tryz.underlying28 infoC_int rfl (by decide) (by omega) (.slice (some ⟨w.heap.size,0,none⟩) 0 0) [] l0 (some ad) l0.length c0 (fun _ => True) (fun _ => False) rfl rfl HO.out HR.out (fun _ _ hk => hk) (fun _ h => h.elim) (fun _ _ => trivial) (below_alloc (Below.refl _ w) _) (by simp) (by have := HL.out;simp;omega) ?_;intro v1 w1 ho hb hg hat)
  go_ret
  exact ⟨v1,rfl,ho,hb⟩
theorem infoC_R : (Tryz.prog.info? 126).map (fun i => (i.zero,i.size,i.bytes)) = some (some (.agg #[.int .i64 0,.int .i64 0,.int .i64 0]),3,24) := by kernel_rfl
def sl_Clone_R.f (l0 : List S126) : Option (List S126) := if l0.length < 5864062014805 then some l0 else none
theorem sl_Clone_R.calls (A0 : Option Addr) (c0 : Nat) (l0 : List S126) (r : List S126) (w : World) (hr0 : Kd.C k126 w A0 l0.length l0) (hc0 : l0.length ≤ c0) (h : sl_Clone_R.f l0 = some r) :
 Calls Tryz.prog 123 #[.slice A0 l0.length c0] w fun e w' => ∃ v0_ : Value,e = .returned v0_ ∧ Kd.R k126 126 w' w.heap.size (fun _ => True) v0_ r ∧ Below w.heap.size w w' := by
 unfold sl_Clone_R.f at h
 by_cases hl : l0.length < 5864062014805
 case neg =>
  rw [if_neg hl] at h;cases h
 rw [if_pos hl] at h
 obtain rfl := Option.some.inj h
 clear h
 have hq : ∀ (W : World) (a : Option Addr) (n c : Nat),(binOp .eql 22 (.slice a n c) (.slice none 0 0)).run Tryz.prog W = .ok (.bool a.isNone) W := fun W a n c => Lib.run_eql_slice_nil W 22 126 a n c 0 0 Tryz.underlying22
 cases A0 with
 | none =>
  have hn : l0 = [] := by
   rcases Nat.eq_zero_or_pos l0.length with h0 | h0
   · exact List.eq_nil_of_length_eq_zero h0
   · obtain ⟨ad,e,_⟩ := hr0.2.2 h0;cases e
  subst hn
  clear hr0 hc0 hl
  go_enter Tryz.func123,Tryz.ntmps123
  go_wp2
  go_ret
  exact ⟨_,rfl,Kd.R_nil _ _ _ _ _,Below.refl _ _⟩
 | some ad =>
  have HR := am (kC hr0 (below_alloc (Below.refl _ w) (.cells #[] 126)))
  have HL := am hl
  clear hr0 hc0 hl
  have HO := am (show Kd.R k126 126 (w.alloc (.cells #[] 126)) w.heap.size (fun _ => True) (.slice (some ⟨w.heap.size,0,none⟩) 0 0) [] from ⟨fun _ _ => trivial,[],by simpa using World.ownsRow_lit (base := w.heap.size) (e := 126) (size := (k126).sz) w #[] 0 (Nat.le_refl _) (by simp [maxLen]) (by simp),Reps.none _ _⟩)
  go_enter Tryz.func123,Tryz.ntmps123
  go_wp2_with ((with_reducible refine gate_builtin (b := .append) (xs := #[.tmp 5,.tmp 6]) rfl ?_);at_builtin;refine Kd.R_append_rows k126 (Rr := (k126).K (w.alloc (.cells #[] 126))) (w0 := w) w.heap.size rfl (.tmp 5) (.tmp 6) 22 126 (.agg #[.int .i64 0,.int .i64 0,.int .i64 0]) 24 rfl Tryz.underlying22 infoC_R rfl (by decide) (by omega) (.slice (some ⟨w.heap.size,0,none⟩) 0 0) [] l0 (some ad) l0.length c0 (fun _ => True) (fun _ => False) rfl rfl HO.out HR.out (fun x cs hk => by rw [k126_open hk];exact k126_mkM _ _ _ x) (fun _ h => h.elim) (fun _ _ => trivial) (below_alloc (Below.refl _ w) _) (by simp) (by have := HL.out;simp;omega) ?_;intro v1 w1 ho hb hg hat)
  go_ret
  exact ⟨v1,rfl,ho,hb⟩
theorem told_some {line wd : ByteArray} {kind a b : Int} (hki : ∀ W,(Instr.index 158 (.agg #[.string castleB,.string nozzleB]) (.int .i64 kind)).run Tryz.prog W = .ok (.string wd) W) (w : World) (hs : line.size < 4294967281) (hg : GV w) (h : toldF line wd = some (a,b)) :
 Calls Tryz.prog 124 #[.string line,.int .i64 kind] w fun e w' => e = .returned (.tuple #[.int .i64 a,.int .i64 b]) ∧ Below w.heap.size w w' :=
 (ca_told.calls line wd kind hki w hs hg).mono fun e w' hp => by rw [h] at hp;exact hp
theorem told_none {line wd : ByteArray} {kind : Int} (hki : ∀ W,(Instr.index 158 (.agg #[.string castleB,.string nozzleB]) (.int .i64 kind)).run Tryz.prog W = .ok (.string wd) W) (w : World) (hs : line.size < 4294967281) (hg : GV w) (h : toldF line wd = none) :
 Calls Tryz.prog 124 #[.string line,.int .i64 kind] w fun e w' => ∃ s,e = .panicked [{ v := .iface 167 (.agg #[.string s]),recovered := false }] ∧ Below w.heap.size w w' :=
 (ca_told.calls line wd kind hki w hs hg).mono fun e w' hp => by rw [h] at hp;obtain ⟨⟨s,h1⟩,h2⟩ := hp;exact ⟨s,h1,h2⟩
def rowsGo : List ByteArray → Option (List S48)
 | [] => some []
 | x :: xs => (toldF x nozzleB).bind fun q => (rowsGo xs).bind fun l => some (⟨q.1,q.2⟩ :: l)
def parsedW (s : ByteArray) (ws : List ByteArray) : Option (Int × Int × List S48) :=
 if 3 ≤ ws.length then (toldF (ws.getD 0 ByteArray.empty) castleB).bind fun h => (rowsGo ((ws.drop 1).take (ws.length - 3))).bind fun l => if ca_text.f h.1 h.2 l = s then some (h.1,h.2,l) else none else none
def parsedF (s : ByteArray) : Option (Int × Int × List S48) := parsedW s (splitF s nlB)
def ParsedPost (r : Option (Int × Int × List S48)) (l0 : List S126) (d : Int) (w : World) (e : Ending) (w' : World) : Prop := (match r with
 | some x => ∃ A1 c1 A2 c2,e = .returned (.agg #[.slice A1 l0.length c1,.int .i64 d,.slice A2 x.2.2.length c2,.int .i64 x.1,.int .i64 x.2.1]) ∧ Kd.R k126 126 w' w.heap.size (fun _ => True) (.slice A1 l0.length c1) l0 ∧ Kd.R k48 48 w' w.heap.size (fun _ => True) (.slice A2 x.2.2.length c2) x.2.2
 | none => ∃ s,e = .panicked [{ v := .iface 167 (.agg #[.string s]),recovered := false }]) ∧ Below w.heap.size w w'
theorem toldF_range {line wd : ByteArray} {a b : Int} (h : toldF line wd = some (a,b)) : 0 ≤ a ∧ a ≤ 999 ∧ 0 ≤ b ∧ b ≤ 999 := by
 have hn : ∀ {x : ByteArray} {v : Int},numF x = some v → 0 ≤ v ∧ v ≤ 999 := by
  intro x v hx
  unfold numF at hx
  split at hx
  · rename_i hc
    obtain rfl := Option.some.inj hx
    have hd := hc.2.1
    unfold digB at hd
    simp only [Bool.and_eq_true,decide_eq_true_eq,List.all_eq_true,List.mem_range] at hd
    exact valTo_range hd.2 hd.1
  · cases hx
 unfold toldF toldW at h
 split at h
 · split at h
   · obtain ⟨a1,h1,h⟩ := obm h
     obtain ⟨b1,h2,h⟩ := obm h
     obtain ⟨rfl,rfl⟩ : a1 = a ∧ b1 = b := by simpa using h
     have e1 := hn h1;have e2 := hn h2
     omega
   · cases h
 · cases h
theorem splitF_mem_size {s sep x : ByteArray} (h : x ∈ splitF s sep) : x.size ≤ s.size := by
 unfold splitF at h
 revert h
 generalize Lib.countB s sep = k
 induction k generalizing s with
 | zero => intro h;rw [List.mem_singleton.1 h];exact Nat.le_refl _
 | succ k ih =>
  intro h
  simp only [Lib.splitB] at h
  split at h
  · rw [List.mem_singleton.1 h];exact Nat.le_refl _
  · rcases List.mem_cons.1 h with rfl | h
    · simp [ByteArray.size_extract];omega
    · have := ih h
      simp [ByteArray.size_extract] at this
      omega
theorem splitF_len2 (s sep : ByteArray) (h1 : 1 ≤ sep.size) : (splitF s sep).length ≤ s.size + 1 := by
 have hl : (splitF s sep).length = Lib.countB s sep + 1 := Lib.splitB_all sep h1 0 _ s rfl
 have := Lib.countB_le sep h1 s.size s (Nat.le_refl _)
 omega
end Go.Proofs.YtnnmnhpeblhiiaaGreatDoor.C

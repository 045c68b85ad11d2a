/- A part of the proof: the walks of the functions that it reaches. TIGHT. -/
import Derived.Test.YtclkbedbocnpkaaGreatDoorMSho10
set_option linter.unusedVariables false
set_option linter.unusedSimpArgs false
namespace Go.Proofs.YtclkbedbocnpkaaGreatDoor.C
open Go Go.Abs Go.RowKit
set_option linter.unusedVariables false
set_option linter.unusedSimpArgs false
set_option maxHeartbeats 16000000
set_option maxRecDepth 100000
abbrev I (n : Int) : AV:=.int .i64 n
abbrev U : AV:=.tup []
abbrev L {α : Type} : T4 α:=.leaf
abbrev N {α : Type} (v : α) (a b c d : T4 α) : T4 α:=.node v a b c d
abbrev N0 {α : Type} (v : α) : T4 α:=.node v .leaf .leaf .leaf .leaf
abbrev N1 {α : Type} (v : α) (a : T4 α) : T4 α:=.node v a .leaf .leaf .leaf
abbrev N2 {α : Type} (v : α) (a : T4 α) : T4 α:=.node v .leaf a .leaf .leaf
abbrev N3 {α : Type} (v : α) (a : T4 α) : T4 α:=.node v .leaf .leaf a .leaf
abbrev N4 {α : Type} (v : α) (a : T4 α) : T4 α:=.node v .leaf .leaf .leaf a
noncomputable def knownCall : CallF:=fCall Tryz.prog Go.Proofs.YtclkbedbocnpkaaGreatDoor.C.gateHook 100000 60
noncomputable def kt0 : FT:=ofL []
noncomputable def kg0 : Sg:=sgOf ⟨.leaf,0,[]⟩
noncomputable def kt1 : FT:=(N U (N U L (N1 U (N0 (I 0))) (N (.bool true) (N0 (I 0)) L L L) L) (N U L (N1 U (N0 (I 0))) (N (I 2) (N0 (.bool false)) L L L) L) (N U L (N (I 60) (N0 (I 0)) L L L) (N0 (I 3)) L) (N2 U (N (.opn 1095 4) (N0 (I 0)) L L L)))
noncomputable def kg1 : Sg:=sgOf ⟨(N none (N (some (.cells 37 none [(I 100),(I 120),(I 0),(I 0),(I 0),(I 0),(I 0),(I 0),(I 40),(I 0),(I 0),(I 50)])) L L (N2 none (N0 (some (.cells 65 none [(I 0),(I 1),(I 100),(.bool true),(I 0),(I 1),(I 95),(.bool true),(I 1),(I 2),(I 50),(.bool false),(I 1),(I 3),(I 60),(.bool true),(I 2),(I 3),(I 30),(.bool true)])))) (N none (N1 none (N4 none (N0 (some (.cells 3 none [(I 0),(I 3)]))))) (N none (N2 none (N0 (some (.cells 37 none [(I 80),(I 120),(I 0),(I 0),(I 0),(I 0),(I 0),(I 0),(I 40),(I 0),(I 0),(I 50)])))) L L (N1 none (N0 (some (.cells 65 none [(I 0),(I 1),(I 100),(.bool true),(I 0),(I 1),(I 95),(.bool true),(I 1),(I 2),(I 50),(.bool false),(I 1),(I 3),(I 60),(.bool true),(I 2),(I 3),(I 30),(.bool true)]))))) L L)) (N (some (.cells 65 none [(I 0),(I 1),(I 100),(.bool true),(I 0),(I 1),(I 95),(.bool true),(I 1),(I 2),(I 50),(.bool false),(I 1),(I 3),(I 60),(.bool true),(I 2),(I 3),(I 30),(.bool true)])) L L L (N2 none (N none (N2 none (N0 (some (.cells 65 none [(I 0),(I 1),(I 100),(.bool true),(I 0),(I 1),(I 95),(.bool true),(I 1),(I 2),(I 50),(.bool false),(I 1),(I 3),(I 60),(.bool true),(I 2),(I 3),(I 30),(.bool true)])))) L L (N1 none (N0 (some (.cells 3 none [(I 0),(I 3)]))))))) (N (some (.cells 3 none [(I 0),(I 3)])) (N4 none (N4 none (N3 none (N0 (some (.cells 3 (some 1) [(I 0),(I 1),(I 2),(I 3)])))))) L (N none (N1 none (N4 none (N0 (some (.cells 37 none [(I 100),(I 120),(I 0),(I 0),(I 0),(I 0),(I 0),(I 0),(I 40),(I 0),(I 0),(I 50)]))))) (N0 (some (.cells 3 none [(I 0),(I 3)]))) L L) (N2 none (N4 none (N1 none (N0 (some (.cells 3 none [(I 90),(I 0),(I 40),(I 50),(I 0)]))))))) (N none L (N2 none (N0 (some (.cells 37 none [(I 80),(I 120),(I 0),(I 0),(I 0),(I 0),(I 0),(I 0),(I 40),(I 0),(I 0),(I 50)])))) (N none (N1 none (N4 none (N0 (some (.cells 65 none [(I 0),(I 1),(I 100),(.bool true),(I 0),(I 1),(I 95),(.bool true),(I 1),(I 2),(I 50),(.bool false),(I 1),(I 3),(I 60),(.bool true),(I 2),(I 3),(I 30),(.bool true)]))))) (N4 none (N1 none (N0 (some (.cells 37 none [(I 100),(I 120),(I 0),(I 0),(I 0),(I 0),(I 0),(I 0),(I 40),(I 0),(I 0),(I 50)]))))) L L) (N2 none (N1 none (N2 none (N0 (some (.cells 3 none [(I 0),(I 3)])))))))),1989,[1121,1120,1119,1095,628,626,625,563,562,561,560,47,45,44,3,2,1]⟩
noncomputable def kt2 : FT:=(N U (N U (N (.opn 3553 2) (N0 (I 0)) L L L) (N (.opn 2262 1) (N0 (I 0)) L L L) (N (.bool true) (N0 (I 0)) L L L) L) (N U (N1 U (N0 (I 0))) (N (.opn 2094 2) (N0 (I 0)) L L L) (N (I 2) (N0 (.bool false)) L L L) L) (N U (N (.opn 2840 2) (N0 (I 0)) L L L) (N (I 60) (N0 (I 0)) L L L) (N0 (I 3)) L) (N (I 4) (N (.opn 2511 2) (N0 (I 0)) L L L) (N (.opn 1095 4) (N0 (I 0)) L L L) L (N0 (I 0))))
noncomputable def kg2 : Sg:=sgOf ⟨(N none (N (some (.cells 37 none [(I 100),(I 120),(I 0),(I 0),(I 0),(I 0),(I 0),(I 0),(I 40),(I 0),(I 0),(I 50)])) (N2 none (N3 none (N1 none (N2 none (N0 (some (.cells 37 none [(I 100),(I 120),(I 0),(I 0),(I 0),(I 0),(I 0),(I 0),(I 40),(I 0),(I 0),(I 50)]))))))) (N4 none (N4 none (N4 none (N2 none (N0 (some (.cells 3 (some 1) [(I 1),(I 3)]))))))) (N2 none (N0 (some (.cells 65 none [(I 0),(I 1),(I 100),(.bool true),(I 0),(I 1),(I 95),(.bool true),(I 1),(I 2),(I 50),(.bool false),(I 1),(I 3),(I 60),(.bool true),(I 2),(I 3),(I 30),(.bool true)])))) (N none (N none (N4 none (N0 (some (.cells 3 none [(I 0),(I 3)])))) L (N1 none (N3 none (N0 (some (.cells 26 (some 1) [(.opn 3401 2),(.opn 3551 2)]))))) L) (N none (N2 none (N0 (some (.cells 37 none [(I 80),(I 120),(I 0),(I 0),(I 0),(I 0),(I 0),(I 0),(I 40),(I 0),(I 0),(I 50)])))) L L (N none (N0 (some (.cells 65 none [(I 0),(I 1),(I 100),(.bool true),(I 0),(I 1),(I 95),(.bool true),(I 1),(I 2),(I 50),(.bool false),(I 1),(I 3),(I 60),(.bool true),(I 2),(I 3),(I 30),(.bool true)]))) (N2 none (N0 (some (.cells 65 none [(I 0),(I 1),(I 100),(.bool true),(I 0),(I 1),(I 95),(.bool true),(I 1),(I 2),(I 50),(.bool false),(I 1),(I 3),(I 60),(.bool true),(I 2),(I 3),(I 30),(.bool true)])))) (N1 none (N0 (some (.cells 65 none [(I 0),(I 1),(I 100),(.bool true),(I 0),(I 1),(I 95),(.bool true),(I 1),(I 2),(I 50),(.bool false),(I 1),(I 3),(I 60),(.bool true),(I 2),(I 3),(I 30),(.bool true)])))) L)) (N3 none (N4 none (N1 none (N0 (some (.cells 3 none [(I 0)])))))) L)) (N (some (.cells 65 none [(I 0),(I 1),(I 100),(.bool true),(I 0),(I 1),(I 95),(.bool true),(I 1),(I 2),(I 50),(.bool false),(I 1),(I 3),(I 60),(.bool true),(I 2),(I 3),(I 30),(.bool true)])) (N none (N3 none (N4 none (N1 none (N0 (some (.cells 3 (some 1) [(I 3)])))))) (N3 none (N1 none (N2 none (N0 (some (.cells 65 none [(I 0),(I 1),(I 100),(.bool true),(I 0),(I 1),(I 95),(.bool true),(I 1),(I 2),(I 50),(.bool false),(I 1),(I 3),(I 60),(.bool true),(I 2),(I 3),(I 30),(.bool true)])))))) L (N2 none (N3 none (N1 none (N0 (some (.cells 37 none [(I 100),(I 120),(I 0),(I 0),(I 0),(I 0),(I 0),(I 0),(I 40),(I 0),(I 0),(I 50)]))))))) L (N none L (N4 none (N3 none (N1 none (N0 (some (.cells 3 (some 1) [(I 0),(I 3)])))))) (N3 none (N4 none (N1 none (N0 (some (.cells 37 none [(I 100),(I 120),(I 0),(I 0),(I 0),(I 0),(I 0),(I 0),(I 40),(I 0),(I 0),(I 50)])))))) L) (N2 none (N none (N2 none (N0 (some (.cells 65 none [(I 0),(I 1),(I 100),(.bool true),(I 0),(I 1),(I 95),(.bool true),(I 1),(I 2),(I 50),(.bool false),(I 1),(I 3),(I 60),(.bool true),(I 2),(I 3),(I 30),(.bool true)])))) L L (N none (N0 (some (.cells 3 none [(I 0),(I 3)]))) (N2 none (N0 (some (.cells 3 none [(I 0),(I 3)])))) L L)))) (N (some (.cells 3 none [(I 0),(I 3)])) (N none L (N3 none (N1 none (N2 none (N0 (some (.cells 3 none [(I 0),(I 1)])))))) L (N none L (N3 none (N1 none (N0 (some (.cells 65 none [(I 0),(I 1),(I 100),(.bool true),(I 0),(I 1),(I 95),(.bool true),(I 1),(I 2),(I 50),(.bool false),(I 1),(I 3),(I 60),(.bool true),(I 2),(I 3),(I 30),(.bool true)]))))) L (N3 none (N0 (some (.cells 3 (some 1) [(I 0),(I 1),(I 2),(I 3)])))))) L (N none (N none (N4 none (N0 (some (.cells 37 none [(I 100),(I 120),(I 0),(I 0),(I 0),(I 0),(I 0),(I 0),(I 40),(I 0),(I 0),(I 50)])))) L (N1 none (N3 none (N0 (some (.cells 3 (some 1) [(I 0),(I 3)]))))) L) (N0 (some (.cells 3 none [(I 0),(I 3)]))) (N3 none (N4 none (N1 none (N0 (some (.cells 65 none [(I 0),(I 1),(I 100),(.bool true),(I 0),(I 1),(I 95),(.bool true),(I 1),(I 2),(I 50),(.bool false),(I 1),(I 3),(I 60),(.bool true),(I 2),(I 3),(I 30),(.bool true)])))))) (N2 none (N1 none (N2 none (N0 (some (.cells 3 (some 1) [(I 0),(I 1)]))))))) (N2 none (N4 none (N none (N0 (some (.cells 3 none [(I 90),(I 0),(I 40),(I 50),(I 0)]))) (N2 none (N0 (some (.cells 3 none [(I 0),(I 1)])))) L L)))) (N none (N1 none (N4 none (N2 none (N2 none (N0 (some (.cells 3 (some 1) [(I 1),(I 2)]))))))) (N2 none (N0 (some (.cells 37 none [(I 80),(I 120),(I 0),(I 0),(I 0),(I 0),(I 0),(I 0),(I 40),(I 0),(I 0),(I 50)])))) (N none (N1 none (N4 none (N0 (some (.cells 65 none [(I 0),(I 1),(I 100),(.bool true),(I 0),(I 1),(I 95),(.bool true),(I 1),(I 2),(I 50),(.bool false),(I 1),(I 3),(I 60),(.bool true),(I 2),(I 3),(I 30),(.bool true)]))))) (N4 none (N none (N0 (some (.cells 37 none [(I 100),(I 120),(I 0),(I 0),(I 0),(I 0),(I 0),(I 0),(I 40),(I 0),(I 0),(I 50)]))) (N2 none (N0 (some (.cells 37 none [(I 100),(I 120),(I 0),(I 0),(I 0),(I 0),(I 0),(I 0),(I 40),(I 0),(I 0),(I 50)])))) (N1 none (N0 (some (.cells 37 none [(I 100),(I 120),(I 0),(I 0),(I 0),(I 0),(I 0),(I 0),(I 40),(I 0),(I 0),(I 50)])))) L)) (N3 none (N4 none (N1 none (N0 (some (.cells 3 none [(I 0),(I 3)])))))) L) (N2 none (N1 none (N2 none (N0 (some (.cells 3 none [(I 0),(I 3)])))))))),3554,[3551,3401,3553,2867,2866,2865,2864,2840,2535,2534,2533,2511,2305,2304,2303,2302,2262,2097,2096,2094,1991,1990,1121,1120,1119,1095,628,626,625,563,562,561,560,47,45,44,3,2,1]⟩
noncomputable def kt3 : FT:=(N (.ptr 4157 0) (N U (N (.opn 3553 2) (N0 (I 0)) L L L) (N (.opn 2262 1) (N0 (I 0)) L L L) (N (.bool true) (N0 (I 0)) L L L) (N0 (I 0))) (N (.opn 4049 3) (N1 U (N0 (I 0))) (N (.opn 2094 2) (N0 (I 0)) L L L) (N (I 2) (N0 (.bool false)) L L L) (N0 (I 0))) (N (.opn 3710 2) (N (.opn 2840 2) (N0 (I 0)) L L L) (N (I 60) (N0 (I 0)) L L L) (N0 (I 3)) (N0 (I 0))) (N (I 4) (N (.opn 2511 2) (N0 (I 0)) L L L) (N (.opn 1095 4) (N0 (I 0)) L L L) (N0 (.bool false)) (N0 (I 0))))
noncomputable def kg3 : Sg:=sgOf ⟨(N none (N (some (.cells 37 none [(I 100),(I 120),(I 0),(I 0),(I 0),(I 0),(I 0),(I 0),(I 40),(I 0),(I 0),(I 50)])) (N2 none (N none L (N2 none (N3 none (N0 (some (.cells 3 none [(I 0),(I 1),(I 4)]))))) (N1 none (N none L (N0 (some (.cells 37 none [(I 100),(I 120),(I 0),(I 0),(I 0),(I 0),(I 0),(I 0),(I 40),(I 0),(I 0),(I 50)]))) (N0 (some (.cells 3 none [(I 0),(I 1),(I 4)]))) L)) L)) (N4 none (N4 none (N4 none (N2 none (N0 (some (.cells 3 (some 1) [(I 1),(I 3)]))))))) (N none L (N0 (some (.cells 65 none [(I 0),(I 1),(I 100),(.bool true),(I 0),(I 1),(I 95),(.bool true),(I 1),(I 2),(I 50),(.bool false),(I 1),(I 3),(I 60),(.bool true),(I 2),(I 3),(I 30),(.bool true)]))) (N4 none (N3 none (N3 none (N0 (some (.cells 25 none [(.opn 4115 2),(.opn 4126 1)])))))) L) (N none (N none (N4 none (N0 (some (.cells 3 none [(I 0),(I 3)])))) L (N1 none (N3 none (N0 (some (.cells 26 (some 1) [(.opn 3401 2),(.opn 3551 2)]))))) L) (N none (N2 none (N0 (some (.cells 37 none [(I 80),(I 120),(I 0),(I 0),(I 0),(I 0),(I 0),(I 0),(I 40),(I 0),(I 0),(I 50)])))) L L (N none (N0 (some (.cells 65 none [(I 0),(I 1),(I 100),(.bool true),(I 0),(I 1),(I 95),(.bool true),(I 1),(I 2),(I 50),(.bool false),(I 1),(I 3),(I 60),(.bool true),(I 2),(I 3),(I 30),(.bool true)]))) (N2 none (N0 (some (.cells 65 none [(I 0),(I 1),(I 100),(.bool true),(I 0),(I 1),(I 95),(.bool true),(I 1),(I 2),(I 50),(.bool false),(I 1),(I 3),(I 60),(.bool true),(I 2),(I 3),(I 30),(.bool true)])))) (N1 none (N0 (some (.cells 65 none [(I 0),(I 1),(I 100),(.bool true),(I 0),(I 1),(I 95),(.bool true),(I 1),(I 2),(I 50),(.bool false),(I 1),(I 3),(I 60),(.bool true),(I 2),(I 3),(I 30),(.bool true)])))) L)) (N3 none (N4 none (N1 none (N0 (some (.cells 3 none [(I 0)])))))) (N2 none (N3 none (N3 none (N0 (some (.cells 3 (some 1) [(I 0),(I 1),(I 0)])))))))) (N (some (.cells 65 none [(I 0),(I 1),(I 100),(.bool true),(I 0),(I 1),(I 95),(.bool true),(I 1),(I 2),(I 50),(.bool false),(I 1),(I 3),(I 60),(.bool true),(I 2),(I 3),(I 30),(.bool true)])) (N none (N3 none (N4 none (N1 none (N0 (some (.cells 3 (some 1) [(I 3)])))))) (N3 none (N1 none (N2 none (N0 (some (.cells 65 none [(I 0),(I 1),(I 100),(.bool true),(I 0),(I 1),(I 95),(.bool true),(I 1),(I 2),(I 50),(.bool false),(I 1),(I 3),(I 60),(.bool true),(I 2),(I 3),(I 30),(.bool true)])))))) L (N2 none (N3 none (N1 none (N0 (some (.cells 37 none [(I 100),(I 120),(I 0),(I 0),(I 0),(I 0),(I 0),(I 0),(I 40),(I 0),(I 0),(I 50)]))))))) L (N none (N4 none (N3 none (N3 none (N0 (some (.cells 65 (some 4) [(I 0),(I 1),(I 4),(.bool true)])))))) (N4 none (N3 none (N1 none (N0 (some (.cells 3 (some 1) [(I 0),(I 3)])))))) (N none (N2 none (N3 none (N0 (some (.cells 3 (some 1) [(I 0),(I 4)]))))) L (N4 none (N1 none (N0 (some (.cells 37 none [(I 100),(I 120),(I 0),(I 0),(I 0),(I 0),(I 0),(I 0),(I 40),(I 0),(I 0),(I 50)]))))) L) L) (N2 none (N none (N2 none (N0 (some (.cells 65 none [(I 0),(I 1),(I 100),(.bool true),(I 0),(I 1),(I 95),(.bool true),(I 1),(I 2),(I 50),(.bool false),(I 1),(I 3),(I 60),(.bool true),(I 2),(I 3),(I 30),(.bool true)])))) L L (N none (N0 (some (.cells 3 none [(I 0),(I 3)]))) (N2 none (N0 (some (.cells 3 none [(I 0),(I 3)])))) L L)))) (N (some (.cells 3 none [(I 0),(I 3)])) (N none L (N3 none (N1 none (N2 none (N0 (some (.cells 3 none [(I 0),(I 1)])))))) L (N none L (N3 none (N1 none (N0 (some (.cells 65 none [(I 0),(I 1),(I 100),(.bool true),(I 0),(I 1),(I 95),(.bool true),(I 1),(I 2),(I 50),(.bool false),(I 1),(I 3),(I 60),(.bool true),(I 2),(I 3),(I 30),(.bool true)]))))) L (N3 none (N0 (some (.cells 3 (some 1) [(I 0),(I 1),(I 2),(I 3)])))))) L (N none (N none (N4 none (N0 (some (.cells 37 none [(I 100),(I 120),(I 0),(I 0),(I 0),(I 0),(I 0),(I 0),(I 40),(I 0),(I 0),(I 50)])))) L (N1 none (N3 none (N0 (some (.cells 3 (some 1) [(I 0),(I 3)]))))) L) (N0 (some (.cells 3 none [(I 0),(I 3)]))) (N3 none (N4 none (N1 none (N0 (some (.cells 65 none [(I 0),(I 1),(I 100),(.bool true),(I 0),(I 1),(I 95),(.bool true),(I 1),(I 2),(I 50),(.bool false),(I 1),(I 3),(I 60),(.bool true),(I 2),(I 3),(I 30),(.bool true)])))))) (N2 none (N1 none (N2 none (N0 (some (.cells 3 (some 1) [(I 0),(I 1)]))))))) (N none (N none L (N2 none (N3 none (N0 (some (.cells 37 none [(I 100),(I 120),(I 0),(I 0),(I 0),(I 0),(I 0),(I 0),(I 40),(I 0),(I 0),(I 50)]))))) (N1 none (N3 none (N0 (some (.cells 37 none [(I 100),(I 120),(I 0),(I 0),(I 0),(I 0),(I 0),(I 0),(I 40),(I 0),(I 0),(I 50)]))))) L) (N4 none (N none (N0 (some (.cells 3 none [(I 90),(I 0),(I 40),(I 50),(I 0)]))) (N2 none (N0 (some (.cells 3 none [(I 0),(I 1)])))) L L)) L (N3 none (N3 none (N3 none (N0 (some (.cells 37 (some 3) [(I 5),(I 5),(I 0),(I 0),(I 0),(I 3)])))))))) (N none (N1 none (N4 none (N2 none (N2 none (N0 (some (.cells 3 (some 1) [(I 1),(I 2)]))))))) (N2 none (N0 (some (.cells 37 none [(I 80),(I 120),(I 0),(I 0),(I 0),(I 0),(I 0),(I 0),(I 40),(I 0),(I 0),(I 50)])))) (N none (N1 none (N4 none (N0 (some (.cells 65 none [(I 0),(I 1),(I 100),(.bool true),(I 0),(I 1),(I 95),(.bool true),(I 1),(I 2),(I 50),(.bool false),(I 1),(I 3),(I 60),(.bool true),(I 2),(I 3),(I 30),(.bool true)]))))) (N4 none (N none (N0 (some (.cells 37 none [(I 100),(I 120),(I 0),(I 0),(I 0),(I 0),(I 0),(I 0),(I 40),(I 0),(I 0),(I 50)]))) (N2 none (N0 (some (.cells 37 none [(I 100),(I 120),(I 0),(I 0),(I 0),(I 0),(I 0),(I 0),(I 40),(I 0),(I 0),(I 50)])))) (N1 none (N0 (some (.cells 37 none [(I 100),(I 120),(I 0),(I 0),(I 0),(I 0),(I 0),(I 0),(I 40),(I 0),(I 0),(I 50)])))) L)) (N3 none (N4 none (N1 none (N0 (some (.cells 3 none [(I 0),(I 3)])))))) L) (N none (N none L (N2 none (N3 none (N0 (some (.cells 65 none [(I 0),(I 1),(I 100),(.bool true),(I 0),(I 1),(I 95),(.bool true),(I 1),(I 2),(I 50),(.bool false),(I 1),(I 3),(I 60),(.bool true),(I 2),(I 3),(I 30),(.bool true)]))))) (N1 none (N3 none (N0 (some (.cells 65 none [(I 0),(I 1),(I 100),(.bool true),(I 0),(I 1),(I 95),(.bool true),(I 1),(I 2),(I 50),(.bool false),(I 1),(I 3),(I 60),(.bool true),(I 2),(I 3),(I 30),(.bool true)]))))) L) (N1 none (N2 none (N0 (some (.cells 3 none [(I 0),(I 3)]))))) L L))),4158,[4157,4157,4126,4115,4049,3749,3748,3747,3710,3557,3556,3555,3551,3401,3553,2867,2866,2865,2864,2840,2535,2534,2533,2511,2305,2304,2303,2302,2262,2097,2096,2094,1991,1990,1121,1120,1119,1095,628,626,625,563,562,561,560,47,45,44,3,2,1]⟩
theorem ks0 : ((kcOf Tryz.prog 15).drop 0).seqs 6 = true:=by kernel_rfl
theorem kr0 (kx : KX) (k : KT) : warm 1 (runKX 100000 (((kcOf Tryz.prog 15).drop 0).take 6) ⟨Tryz.prog,knownCall,kx⟩ kt0 kg0 k) = k kt1 kg1:=by kernel_rfl
theorem ks1 : ((kcOf Tryz.prog 15).drop 6).seqs 5 = true:=by kernel_rfl
theorem kr1 (kx : KX) (k : KT) : warm 32 (runKX 99994 (((kcOf Tryz.prog 15).drop 6).take 5) ⟨Tryz.prog,knownCall,kx⟩ kt1 kg1 k) = k kt2 kg2:=by kernel_rfl
theorem ks2 : ((kcOf Tryz.prog 15).drop 11).seqs 4 = true:=by kernel_rfl
theorem kr2 (kx : KX) (k : KT) : warm 56 (runKX 99989 (((kcOf Tryz.prog 15).drop 11).take 4) ⟨Tryz.prog,knownCall,kx⟩ kt2 kg2 k) = k kt3 kg3:=by kernel_rfl
theorem klast : okTrue (warm 65 (from_ Tryz.prog knownCall 15 15 99985 kt3 kg3)) = true:=by kernel_rfl
theorem known_run : okTrue (runF Tryz.prog Go.Proofs.YtclkbedbocnpkaaGreatDoor.C.gateHook 100000 60 15 []) = true:=by
 rw [runF_from]
 rw [show from_ Tryz.prog (fCall Tryz.prog Go.Proofs.YtclkbedbocnpkaaGreatDoor.C.gateHook 100000 60) 15 0 100000 (ofL []) (sgOf ⟨.leaf,0,[]⟩) = from_ Tryz.prog knownCall 15 0 100000 kt0 kg0 from rfl]
 rw [show from_ Tryz.prog knownCall 15 0 100000 kt0 kg0 = from_ Tryz.prog knownCall 15 6 99994 kt1 kg1 from from_step (K:=99993) (m:=6) ks0 fun kx k=>(warm_eq 1 _).symm.trans (kr0 kx k)]
 rw [show from_ Tryz.prog knownCall 15 6 99994 kt1 kg1 = from_ Tryz.prog knownCall 15 11 99989 kt2 kg2 from from_step (K:=99988) (m:=5) ks1 fun kx k=>(warm_eq 32 _).symm.trans (kr1 kx k)]
 rw [show from_ Tryz.prog knownCall 15 11 99989 kt2 kg2 = from_ Tryz.prog knownCall 15 15 99985 kt3 kg3 from from_step (K:=99984) (m:=4) ks2 fun kx k=>(warm_eq 56 _).symm.trans (kr2 kx k)]
 exact (congrArg okTrue (warm_eq 65 _)).symm.trans klast
end Go.Proofs.YtclkbedbocnpkaaGreatDoor.C
namespace Go.Proofs.YtclkbedbocnpkaaGreatDoor.C
open Go Go.RowKit Go.Abs
set_option linter.unusedVariables false
set_option linter.unusedSimpArgs false
set_option maxHeartbeats 16000000
set_option maxRecDepth 100000
def l8_known.f : Option Bool:=some true
theorem l8_known.calls (r : Bool) (w : World) (h : l8_known.f = some r) : Calls Tryz.prog 15 #[] w fun e w'=>e = .returned (.bool r)∧Below w.heap.size w w':=by
 cases h
 exact calls_true gateHook_ok known_run w
theorem known_true : l8_known.f = some true:=by simp [l8_known.f]
end Go.Proofs.YtclkbedbocnpkaaGreatDoor.C
namespace Go.Proofs.YtclkbedbocnpkaaGreatDoor.C
open Go.RowKit Go.Proofs.YtclkbedbocnpkaaGreatDoorW.PrintWords Go.Proofs.YtclkbedbocnpkaaGreatDoorW.PrintLast Go.Proofs.YtclkbedbocnpkaaGreatDoorW.PrintMore
set_option linter.unusedVariables false
set_option linter.unusedSimpArgs false
set_option maxHeartbeats 16000000
set_option maxRecDepth 100000
def ga_Cut.j0 : Nat→List Int→Bool→List (S37)→List (S65)→Option (List Int × Int)
 | 0,_,_,_,_=>none
 | k + 1,x1,x16,x161000,x161001=>if x16 = true then (some (([] : List Int),2)) else ((gs_cut.f k x161000 x161001 x1 0).bind fun bt163=>(if bt163.2 = true then (some (bt163.1,0)) else (some (([] : List Int),5))))
def ga_Cut.f (k : Nat) (l0_0 : List (S37)) (l0_1 : List (S65)) (l1 : List Int) : Option (List Int × Int):=(ga_isNet.f k l0_0 l0_1).bind fun t161=>(if t161 = true then ((ga_areGates.f k l0_0 l0_1 l1).bind fun t162=>(ga_Cut.j0 k l1 (!t162) l0_0 l0_1)) else (ga_Cut.j0 k l1 true l0_0 l0_1))
theorem ga_Cut.calls (k : Nat) (A0_0 : Option Addr) (c0_0 : Nat) (l0_0 : List (S37)) (A0_1 : Option Addr) (c0_1 : Nat) (l0_1 : List (S65)) (A1 : Option Addr) (c1 : Nat) (l1 : List Int) (r1 : List Int) (r2 : Int) (w : World) (hr0_0 : Kd.C k37 w A0_0 l0_0.length l0_0) (hc0_0 : l0_0.length≤c0_0) (hr0_1 : Kd.C k65 w A0_1 l0_1.length l0_1) (hc0_1 : l0_1.length≤c0_1) (hr1 : Kd.C (Kd.int .i64) w A1 l1.length l1) (hc1 : l1.length≤c1) (h : ga_Cut.f k l0_0 l0_1 l1 = some (r1,r2)) :
 Calls Tryz.prog 23 #[.agg #[.slice A0_0 l0_0.length c0_0,.slice A0_1 l0_1.length c0_1],.slice A1 l1.length c1] w fun e w'=>∃ v0_ : Value,e = .returned (.tuple #[v0_,.int .i64 r2])∧Kd.R (Kd.int .i64) 3 w' w.heap.size (fun _=>True) v0_ r1∧Below w.heap.size w w':=by
 have hu25:=Tryz.underlying25
 have hu80:=Tryz.underlying80
 have HR0_0:=am hr0_0
 have HC0_0:=am hc0_0
 clear hr0_0 hc0_0
 have HR0_1:=am hr0_1
 have HC0_1:=am hc0_1
 clear hr0_1 hc0_1
 have HR1:=am hr1
 have HC1:=am hc1
 clear hr1 hc1
 have HB:=am (Below.refl w.heap.size w)
 have H : ((ga_isNet.f k l0_0 l0_1).bind fun t161=>(if t161 = true then ((ga_areGates.f k l0_0 l0_1 l1).bind fun t162=>(ga_Cut.j0 k l1 (!t162) l0_0 l0_1)) else (ga_Cut.j0 k l1 true l0_0 l0_1))) = some (r1,r2):=h
 clear h
 have HC3:=am H
 clear H
 go_enter Tryz.func23,Tryz.ntmps23
 go_upto_region 1 with (first | ((refine ga_dst (N:=2) rfl ?_);refine box_event rfl (N:=2) rfl (cs:=#[.slice A0_0 l0_0.length c0_0,.slice A0_1 l0_1.length c0_1]) (t:=25) ?hr ?_;(case hr=>go_simp;try rfl);intro gb160 hg w4 hbox hb;have BK160:=am (hbox);have GW160:=am (ge_new (HB.out) hg);have GE160:=am (ge_new (HB.out) hg);replace HB:=am (below_step (HB.out) hb);clear hb hbox hg))
 (try simp only [Act.put,List.setIfInBounds_toArray,List.set_cons_zero,List.set_cons_succ])
 go_cut [16] (fun v16 wc=>∃ (kq : Nat) (x16_2 : Bool),v16 = .bool x16_2∧Aside0 (ga_Cut.j0 kq l1 x16_2 l0_0 l0_1 = some (r1,r2))∧Aside0 (kq≤k)∧Aside0 (wc.heap[gb160]? = some (.cells #[(.slice A0_0 l0_0.length c0_0),(.slice A0_1 l0_1.length c0_1)] 25 (0,0)))∧Aside0 (Below w.heap.size w wc))
 case first =>
  have H:=HC3.out
  clear HC3
  replace H:=obm H
  obtain ⟨t161,A50,H⟩:=H
  replace H : (if t161 = true then ((ga_areGates.f k l0_0 l0_1 l1).bind fun t162=>(ga_Cut.j0 k l1 (!t162) l0_0 l0_1)) else (ga_Cut.j0 k l1 true l0_0 l0_1)) = some (r1,r2):=H
  have A5:=am A50
  clear A50
  by_cases c6 : t161 = true
  case neg =>
   replace c6:=Bool.eq_false_iff.mpr c6
   subst c6
   replace H : (ga_Cut.j0 k l1 true l0_0 l0_1) = some (r1,r2):=by rw [if_neg (show ¬ (false = true) by decide)] at H;exact H
   replace H':=am H
   obtain ⟨hcz12_0,hcz12_1⟩:=cO2 BK160.out
   go_wp2_with (first | ((with_reducible refine ga_callee (f:=55) rfl ?_);refine goesL_ (some 9) rfl rfl Tryz.func55 (by kernel_rfl) rfl #[.agg #[.slice A0_0 l0_0.length c0_0,.slice A0_1 l0_1.length c0_1]] rfl (by (try simp only [List.map_toArray,List.map_cons,List.map_nil]);first | done | rfl | (simp only [List.length_drop,List.length_take];rfl)) ?_;(refine (ga_isNet.calls k _ _ l0_0 _ _ l0_1 false _ ?side1 ?side2 ?side3 ?side4 A5.out).mono ?_);(case side1=>exact kC HR0_0.out HB.out);(case side2=>exact HC0_0.out);(case side3=>exact kC HR0_1.out HB.out);(case side4=>exact HC0_1.out);rintro e w13 ⟨rfl,hb⟩;refine ⟨_,rfl,?_⟩;replace BK160:=(kmv hb BK160);replace HB:=am (below_step (HB.out) hb);(try clear hb);(try clear hb2);(try clear hk);(try clear hi)))
   go_meet
   case rel=>exact ⟨_,(true),(by first | rfl | (simp;done) | (simp [*];done)),H',⟨by first | omega | exact Nat.le_refl _⟩,⟨BK160.out⟩,⟨HB.out⟩⟩
  subst c6
  replace H : ((ga_areGates.f k l0_0 l0_1 l1).bind fun t162=>(ga_Cut.j0 k l1 (!t162) l0_0 l0_1)) = some (r1,r2):=by rw [if_pos rfl] at H;exact H
  replace H:=obm H
  obtain ⟨t162,A70,H⟩:=H
  replace H : (ga_Cut.j0 k l1 (!t162) l0_0 l0_1) = some (r1,r2):=H
  have A7:=am A70
  clear A70
  replace H':=am H
  obtain ⟨hcz8_0,hcz8_1⟩:=cO2 BK160.out
  go_wp2_with (first | ((with_reducible refine ga_callee (f:=55) rfl ?_);refine goesL_ (some 9) rfl rfl Tryz.func55 (by kernel_rfl) rfl #[.agg #[.slice A0_0 l0_0.length c0_0,.slice A0_1 l0_1.length c0_1]] rfl (by (try simp only [List.map_toArray,List.map_cons,List.map_nil]);first | done | rfl | (simp only [List.length_drop,List.length_take];rfl)) ?_;(refine (ga_isNet.calls k _ _ l0_0 _ _ l0_1 true _ ?side1 ?side2 ?side3 ?side4 A5.out).mono ?_);(case side1=>exact kC HR0_0.out HB.out);(case side2=>exact HC0_0.out);(case side3=>exact kC HR0_1.out HB.out);(case side4=>exact HC0_1.out);rintro e w9 ⟨rfl,hb⟩;refine ⟨_,rfl,?_⟩;replace BK160:=(kmv hb BK160);replace HB:=am (below_step (HB.out) hb);(try clear hb);(try clear hb2);(try clear hk);(try clear hi);obtain ⟨hcz10_0,hcz10_1⟩:=cO2 BK160.out) | (go_at_call 56;(refine (ga_areGates.calls k _ _ l0_0 _ _ l0_1 _ _ l1 t162 _ ?side1 ?side2 ?side3 ?side4 ?side5 ?side6 A7.out).mono ?_);(case side1=>exact kC HR0_0.out HB.out);(case side2=>exact HC0_0.out);(case side3=>exact kC HR0_1.out HB.out);(case side4=>exact HC0_1.out);(case side5=>exact kC HR1.out HB.out);(case side6=>exact HC1.out);rintro e w11 ⟨rfl,hb⟩;replace BK160:=(kmv hb BK160);replace HB:=am (below_step (HB.out) hb);(try clear hb);(try clear hb2);(try clear hk);(try clear hi)))
  go_meet
  case rel=>exact ⟨_,(!t162),(by first | rfl | (simp;done) | (simp [*];done)),H',⟨by first | omega | exact Nat.le_refl _⟩,⟨BK160.out⟩,⟨HB.out⟩⟩
 case rest =>
  clear HC3
  obtain ⟨kq,x16_2,rfl,HA,HJ2,BK160,HB⟩:=hcut
  cases kq with
  | zero=>exact absurd HA.out (by simp [ga_Cut.j0])
  | succ kj2 =>
   have H:=HA.out
   clear HA
   simp only [ga_Cut.j0] at H
   by_cases c14 : x16_2 = true
   ·subst c14
    replace H : (some (([] : List Int),2)) = some (r1,r2):=by rw [if_pos rfl] at H;exact H
    simp only [Option.some.injEq,Prod.mk.injEq] at H
    obtain ⟨rfl,rfl⟩:=H
    go_wp2
    go_ret2
    exact ⟨_,by first | rfl | (simp [*]<;>rfl),by first | exact Kd.R_nil _ _ _ _ _ | exact Kd.N_nil _ _ _ _ _ | exact Kd.V_nil _ _ _ _ _ | exact Kd.Q_nil _ _ _ _ _ | exact Kd.S_nil _ _ _ _ _,HB.out⟩
   ·replace c14:=Bool.eq_false_iff.mpr c14
    subst c14
    replace H : ((gs_cut.f kj2 l0_0 l0_1 l1 0).bind fun bt163=>(if bt163.2 = true then (some (bt163.1,0)) else (some (([] : List Int),5)))) = some (r1,r2):=by rw [if_neg (show ¬ (false = true) by decide)] at H;exact H
    replace H:=obm H
    obtain ⟨⟨t163,t166⟩,A150,H⟩:=H
    replace H : (if t166 = true then (some (t163,0)) else (some (([] : List Int),5))) = some (r1,r2):=H
    have A15:=am A150
    clear A150
    by_cases c16 : t166 = true
    ·subst c16
     replace H : (some (t163,0)) = some (r1,r2):=by rw [if_pos rfl] at H;exact H
     simp only [Option.some.injEq,Prod.mk.injEq] at H
     obtain ⟨rfl,rfl⟩:=H
     obtain ⟨hcz17_0,hcz17_1⟩:=cO2 BK160.out
     go_wp2_with (first | ((with_reducible refine ga_callee (f:=66) rfl ?_);refine goesL_ (some 21) rfl rfl Tryz.func66 (by kernel_rfl) rfl #[.agg #[.slice A0_0 l0_0.length c0_0,.slice A0_1 l0_1.length c0_1,.slice A1 l1.length c1],.int .i64 0] rfl (by (try simp only [List.map_toArray,List.map_cons,List.map_nil]);first | done | rfl | (simp only [List.length_drop,List.length_take];rfl)) ?_;(refine (gs_cut.calls kj2 _ _ l0_0 _ _ l0_1 _ _ l1 0 t163 true _ ?side1 ?side2 ?side3 ?side4 ?side5 ?side6 A15.out).mono ?_);(case side1=>exact kC HR0_0.out HB.out);(case side2=>exact HC0_0.out);(case side3=>exact kC HR0_1.out HB.out);(case side4=>exact HC0_1.out);(case side5=>exact kC HR1.out HB.out);(case side6=>exact HC1.out);rintro e w18 ⟨v164,rfl,ho0,hb⟩;refine ⟨_,rfl,?_⟩;have HO165:=am (Kd.R_lower ho0 (below_size (HB.out)));replace BK160:=(kmv hb BK160);replace HB:=am (below_step (HB.out) hb);(try clear hb);(try clear hb2);(try clear hk);(try clear hi);(try clear ho0)))
     go_ret2
     exact ⟨_,by first | rfl | (simp [*]<;>rfl),by (with_reducible repeat (first | apply Kd.R_alloc | apply Kd.R_drewN | apply Kd.R_drew));exact HO165.out,HB.out⟩
    ·replace c16:=Bool.eq_false_iff.mpr c16
     subst c16
     replace H : (some (([] : List Int),5)) = some (r1,r2):=by rw [if_neg (show ¬ (false = true) by decide)] at H;exact H
     simp only [Option.some.injEq,Prod.mk.injEq] at H
     obtain ⟨rfl,rfl⟩:=H
     obtain ⟨hcz19_0,hcz19_1⟩:=cO2 BK160.out
     go_wp2_with (first | ((with_reducible refine ga_callee (f:=66) rfl ?_);refine goesL_ (some 21) rfl rfl Tryz.func66 (by kernel_rfl) rfl #[.agg #[.slice A0_0 l0_0.length c0_0,.slice A0_1 l0_1.length c0_1,.slice A1 l1.length c1],.int .i64 0] rfl (by (try simp only [List.map_toArray,List.map_cons,List.map_nil]);first | done | rfl | (simp only [List.length_drop,List.length_take];rfl)) ?_;(refine (gs_cut.calls kj2 _ _ l0_0 _ _ l0_1 _ _ l1 0 t163 false _ ?side1 ?side2 ?side3 ?side4 ?side5 ?side6 A15.out).mono ?_);(case side1=>exact kC HR0_0.out HB.out);(case side2=>exact HC0_0.out);(case side3=>exact kC HR0_1.out HB.out);(case side4=>exact HC0_1.out);(case side5=>exact kC HR1.out HB.out);(case side6=>exact HC1.out);rintro e w20 ⟨v164,rfl,ho0,hb⟩;refine ⟨_,rfl,?_⟩;have HO165:=am (Kd.R_lower ho0 (below_size (HB.out)));replace BK160:=(kmv hb BK160);replace HB:=am (below_step (HB.out) hb);(try clear hb);(try clear hb2);(try clear hk);(try clear hi);(try clear ho0)))
     go_ret2
     exact ⟨_,by first | rfl | (simp [*]<;>rfl),by first | exact Kd.R_nil _ _ _ _ _ | exact Kd.N_nil _ _ _ _ _ | exact Kd.V_nil _ _ _ _ _ | exact Kd.Q_nil _ _ _ _ _ | exact Kd.S_nil _ _ _ _ _,HB.out⟩
set_option linter.unusedSimpArgs false
set_option linter.unusedSimpArgs false
set_option linter.unusedSimpArgs false
set_option linter.unusedSimpArgs false
set_option linter.unusedSimpArgs false
set_option linter.unusedSimpArgs false
end Go.Proofs.YtclkbedbocnpkaaGreatDoor.C
namespace Go.Proofs.YtclkbedbocnpkaaGreatDoor.C
open Go Go.RowKit Go.Proofs.YtclkbedbocnpkaaGreatDoorW.PrintWords Go.Proofs.YtclkbedbocnpkaaGreatDoorW.PrintLast Go.Proofs.YtclkbedbocnpkaaGreatDoorW.PrintMore
set_option linter.unusedVariables false
set_option linter.unusedSimpArgs false
set_option maxHeartbeats 16000000
set_option maxRecDepth 100000
section
variable {pts : List Pt} {ch : List Ch}
theorem cutS_ok (h : netS pts ch = true) {op : List Int} {hi : Bool} {S : List Int} (hS : cutS pts ch op hi = some S) : okPts pts.length S:=by
 obtain ⟨h1,h2,h3,h4,_⟩:=netS_iff.1 h
 exact ok_shortest (by omega) (List.mem_of_find?_eq_some hS)
def openS (pts : List Pt) (ch : List Ch) (op : List Int) : Bool:=netS pts ch && someS ch op
theorem gCut_eq (hp : pts.length≤1000) (hc : ch.length≤1000) {op : List Int} (ho : op.length≤20) {k : Nat} (hk : 1100≤k) :
 ga_Cut.f k pts ch op = some (if openS pts ch op = true then (match cutS pts ch op false with | some S=>(S,(0 : Int)) | none=>(([] : List Int),(5 : Int))) else (([] : List Int),(2 : Int))):=by
 obtain ⟨k,rfl⟩ : ∃ m,k = m + 1:=⟨k - 1,by omega⟩
 unfold ga_Cut.f openS
 rw [isNet_eq hp hc (by omega)]
 simp only [Option.bind_some]
 cases hn : netS pts ch with
 | false=>simp [ga_Cut.j0]
 | true =>
  rw [if_pos rfl,areGates_eq hc (by omega) (by omega)]
  simp only [Option.bind_some,ga_Cut.j0]
  cases hs : someS ch op with
  | false=>simp
  | true =>
   rw [if_neg (by simp),cut0_eq hn ho (by omega),if_pos (by simp)]
   cases cutS pts ch op false<;>rfl
theorem shortB_iff : shortB pts ch = true↔pts.length≤9∧ch.length≤13:=decide_eq_true_iff
end
end Go.Proofs.YtclkbedbocnpkaaGreatDoor.C
namespace Go.Proofs.YtclkbedbocnpkaaGreatDoor.C
open Go.RowKit Go.Proofs.YtclkbedbocnpkaaGreatDoorW.PrintWords Go.Proofs.YtclkbedbocnpkaaGreatDoorW.PrintLast Go.Proofs.YtclkbedbocnpkaaGreatDoorW.PrintMore
set_option linter.unusedVariables false
set_option linter.unusedSimpArgs false
set_option maxHeartbeats 16000000
set_option maxRecDepth 100000
set_option linter.unusedSimpArgs false
set_option linter.unusedSimpArgs false
set_option linter.unusedSimpArgs false
set_option linter.unusedSimpArgs false
set_option linter.unusedSimpArgs false
set_option linter.unusedSimpArgs false
end Go.Proofs.YtclkbedbocnpkaaGreatDoor.C
namespace Go.Proofs.YtclkbedbocnpkaaGreatDoor.C
open Go Go.RowKit Go.Proofs.YtclkbedbocnpkaaGreatDoorW.PrintWords Go.Proofs.YtclkbedbocnpkaaGreatDoorW.PrintLast Go.Proofs.YtclkbedbocnpkaaGreatDoorW.PrintMore
set_option linter.unusedVariables false
set_option linter.unusedSimpArgs false
set_option maxHeartbeats 16000000
set_option maxRecDepth 100000
section
variable {pts : List Pt} {ch : List Ch}
end
end Go.Proofs.YtclkbedbocnpkaaGreatDoor.C
namespace Go.Proofs.YtclkbedbocnpkaaGreatDoor.C
open Go.RowKit Go.Proofs.YtclkbedbocnpkaaGreatDoorW.PrintWords Go.Proofs.YtclkbedbocnpkaaGreatDoorW.PrintLast Go.Proofs.YtclkbedbocnpkaaGreatDoorW.PrintMore
set_option linter.unusedVariables false
set_option linter.unusedSimpArgs false
set_option maxHeartbeats 16000000
set_option maxRecDepth 100000
def ga_Feeds_1.f (a0 : Int) : Option (Bool):=(ga_isCups.f a0).bind fun t736=>(some (!t736))
theorem ga_Feeds_1.calls (a0 : Int) (r : Bool) (w : World) (h : ga_Feeds_1.f a0 = some r) :
 Calls Tryz.prog 58 #[.int .i64 a0] w fun e w'=>e = .returned (.bool r)∧Drawn0 w w':=by
 have H : ((ga_isCups.f a0).bind fun t736=>(some (!t736))) = some r:=h
 clear h
 replace H:=obm H
 obtain ⟨t736,A20,H⟩:=H
 replace H : (some (!t736)) = some r:=H
 have A2:=am A20
 clear A20
 obtain rfl:=Option.some.inj H
 go_enter Tryz.func58,Tryz.ntmps58
 go_wp2_with (first | ((with_reducible refine ga_callee (f:=59) rfl ?_);refine goesL_ (some 4) rfl rfl Tryz.func59 (by kernel_rfl) rfl #[.int .i64 a0] rfl (by (try simp only [List.map_toArray,List.map_cons,List.map_nil]);first | done | rfl | (simp only [List.length_drop,List.length_take];rfl)) ?_;(refine (ga_isCups.calls a0 t736 _ A2.out).mono ?_);rintro e w' ⟨rfl,⟨nd,rfl⟩⟩;refine ⟨_,rfl,?_⟩))
 go_ret
 exact ⟨by first | rfl | (simp;done) | (simp [*];done),by repeat (first | exact Drawn0.refl _ | apply Drawn0.step)⟩
def Pred_Feeds1 (q : Int→Option Bool) (w : World) (xs : List Int) : Prop:=∀ (x : Int) (b : Bool) (W : World) ,x ∈ xs→q x = some b→Below w.heap.size w W→
 Calls Tryz.prog 58 #[.int .i64 x] W fun e W'=>e = .returned (.bool b)∧Below W.heap.size W W'
theorem idx_Feeds1 (q : Int→Option Bool) (A : Option Addr) (c : Nat) (xs : List Int) (r : Int) (w : World) (hr : Kd.C (Kd.int .i64) w A xs.length xs) (hp : Pred_Feeds1 q w xs) (h : idxM q xs 0 = some r) :
 Calls Tryz.prog 104 #[.slice A xs.length c,.func (.func 58) #[] #[]] w fun e w'=>e = .returned (.int .i64 r)∧Below w.heap.size w w':=by
 have HR:=Aside0.mk hr
 have HP:=Aside0.mk hp
 have HQ:=Aside0.mk (show idxM q (xs.drop (0 : Int).toNat) 0 = some r from h)
 have hm : xs.length≤9223372036854775807:=Kd.C_max hr
 clear hr hp h
 go_enter Tryz.func104,Tryz.ntmps104
 go_wp2
 go_loopw [5,8] (fun v5 v8 w'=>∃ i : Int,0≤i∧i≤xs.length∧v8 = .int .i64 i∧Aside0 (idxM q (xs.drop i.toNat) i = some r)∧Aside0 (Below w.heap.size w w')) (fun _ v8 _=>xs.length - (intOf v8).toNat)
 case atStart=>exact ⟨0,by omega,by omega,rfl,HQ,⟨Below.refl _ _⟩⟩
 case round =>
  clear HQ
  obtain ⟨i,p1,hi,rfl,HQ,HB⟩:=hrel
  by_cases hlt : i < (xs.length : Int)
  ·obtain ⟨ad,e1,hx0⟩:=Kd.at_int HR.out i p1 hlt
   cases e1
   replace hx0:=(HB.out.cell (wbl hx0)).trans hx0
   rcases idxM_step (0 : Int) p1 hlt HQ.out with ⟨hq,he⟩ | ⟨hq,hn⟩
   ·have H1:=Aside0.mk hq
    have X1:=Aside0.mk (getD_mem (0 : Int) p1 hlt)
    have H2:=Aside0.mk he
    clear hq he
    go_wp2_with (go_at_call 58;refine (HP.out (xs.getD i.toNat (0 : Int)) _ _ X1.out H1.out HB.out).mono ?_;rintro e W' ⟨rfl,hb⟩)
    go_ret
    exact ⟨ret_int_eq H2.out,below_then HB.out HB.out.size hb⟩
   ·have H1:=Aside0.mk hq
    have X1:=Aside0.mk (getD_mem (0 : Int) p1 hlt)
    have H2:=Aside0.mk hn
    clear hq hn
    go_wp2_with (go_at_call 58;refine (HP.out (xs.getD i.toNat (0 : Int)) _ _ X1.out H1.out HB.out).mono ?_;rintro e W' ⟨rfl,hb⟩)
    go_roundw
    case rel=>exact ⟨i + 1,by omega,by omega,by go_num,H2,⟨below_then HB.out HB.out.size hb⟩⟩
    case measure=>simp [intOf];omega
  ·go_wp2
   go_ret
   exact ⟨ret_int_eq (idxM_end (by omega) HQ.out),HB.out⟩
theorem any_Feeds1 (q : Int→Option Bool) (A : Option Addr) (c : Nat) (xs : List Int) (r : Bool) (w : World) (hr : Kd.C (Kd.int .i64) w A xs.length xs) (hp : Pred_Feeds1 q w xs) (h : anyM q xs = some r) :
 Calls Tryz.prog 57 #[.slice A xs.length c,.func (.func 58) #[] #[]] w fun e w'=>e = .returned (.bool r)∧Below w.heap.size w w':=by
 obtain ⟨j,hj,hd⟩:=idxM_of_anyM q xs 0 r (by omega) h
 have H1:=Aside0.mk hj
 have H2:=Aside0.mk hd
 have HR:=Aside0.mk hr
 have HP:=Aside0.mk hp
 clear hr hp h hj hd
 go_enter Tryz.func57,Tryz.ntmps57
 go_wp2_with (go_at_call 104;refine (idx_Feeds1 q _ _ xs j _ HR.out HP.out H1.out).mono ?_;rintro e W' ⟨rfl,hb⟩)
 go_ret
 exact ⟨ret_bool_eq H2.out,hb⟩
def cf_Feeds1.f (l0 : List Int) : Option Bool:=anyM ga_Feeds_1.f l0
theorem cf_Feeds1.calls (A0 : Option Addr) (c0 : Nat) (l0 : List Int) (r : Bool) (w : World) (hr0 : Kd.C (Kd.int .i64) w A0 l0.length l0) (hc0 : l0.length≤c0) (h : cf_Feeds1.f l0 = some r) :
 Calls Tryz.prog 57 #[.slice A0 l0.length c0,.func (.func 58) #[] #[]] w fun e w'=>e = .returned (.bool r)∧Below w.heap.size w w':=
 any_Feeds1 ga_Feeds_1.f A0 c0 l0 r w hr0 (fun x b W hx hq hb=>(ga_Feeds_1.calls _ b W hq).mono fun e W' ⟨he,hd⟩=>⟨he,hd.below⟩) h
def ga_Feeds_2.f (a0 : Int) : Option (Bool):=some (decide (a0 < 0))
theorem ga_Feeds_2.calls (a0 : Int) (r : Bool) (w : World) (h : ga_Feeds_2.f a0 = some r) :
 Calls Tryz.prog 61 #[.int .i64 a0] w fun e w'=>e = .returned (.bool r)∧Drawn0 w w':=by
 have H : (some (decide (a0 < 0))) = some r:=h
 clear h
 obtain rfl:=Option.some.inj H
 go_enter Tryz.func61,Tryz.ntmps61
 go_wp2
 go_ret
 exact ⟨by first | rfl | (simp;done) | (simp [*];done),by repeat (first | exact Drawn0.refl _ | apply Drawn0.step)⟩
def Pred_Feeds2 (q : Int→Option Bool) (w : World) (xs : List Int) : Prop:=∀ (x : Int) (b : Bool) (W : World) ,x ∈ xs→q x = some b→Below w.heap.size w W→
 Calls Tryz.prog 61 #[.int .i64 x] W fun e W'=>e = .returned (.bool b)∧Below W.heap.size W W'
theorem idx_Feeds2 (q : Int→Option Bool) (A : Option Addr) (c : Nat) (xs : List Int) (r : Int) (w : World) (hr : Kd.C (Kd.int .i64) w A xs.length xs) (hp : Pred_Feeds2 q w xs) (h : idxM q xs 0 = some r) :
 Calls Tryz.prog 104 #[.slice A xs.length c,.func (.func 61) #[] #[]] w fun e w'=>e = .returned (.int .i64 r)∧Below w.heap.size w w':=by
 have HR:=Aside0.mk hr
 have HP:=Aside0.mk hp
 have HQ:=Aside0.mk (show idxM q (xs.drop (0 : Int).toNat) 0 = some r from h)
 have hm : xs.length≤9223372036854775807:=Kd.C_max hr
 clear hr hp h
 go_enter Tryz.func104,Tryz.ntmps104
 go_wp2
 go_loopw [5,8] (fun v5 v8 w'=>∃ i : Int,0≤i∧i≤xs.length∧v8 = .int .i64 i∧Aside0 (idxM q (xs.drop i.toNat) i = some r)∧Aside0 (Below w.heap.size w w')) (fun _ v8 _=>xs.length - (intOf v8).toNat)
 case atStart=>exact ⟨0,by omega,by omega,rfl,HQ,⟨Below.refl _ _⟩⟩
 case round =>
  clear HQ
  obtain ⟨i,p1,hi,rfl,HQ,HB⟩:=hrel
  by_cases hlt : i < (xs.length : Int)
  ·obtain ⟨ad,e1,hx0⟩:=Kd.at_int HR.out i p1 hlt
   cases e1
   replace hx0:=(HB.out.cell (wbl hx0)).trans hx0
   rcases idxM_step (0 : Int) p1 hlt HQ.out with ⟨hq,he⟩ | ⟨hq,hn⟩
   ·have H1:=Aside0.mk hq
    have X1:=Aside0.mk (getD_mem (0 : Int) p1 hlt)
    have H2:=Aside0.mk he
    clear hq he
    go_wp2_with (go_at_call 61;refine (HP.out (xs.getD i.toNat (0 : Int)) _ _ X1.out H1.out HB.out).mono ?_;rintro e W' ⟨rfl,hb⟩)
    go_ret
    exact ⟨ret_int_eq H2.out,below_then HB.out HB.out.size hb⟩
   ·have H1:=Aside0.mk hq
    have X1:=Aside0.mk (getD_mem (0 : Int) p1 hlt)
    have H2:=Aside0.mk hn
    clear hq hn
    go_wp2_with (go_at_call 61;refine (HP.out (xs.getD i.toNat (0 : Int)) _ _ X1.out H1.out HB.out).mono ?_;rintro e W' ⟨rfl,hb⟩)
    go_roundw
    case rel=>exact ⟨i + 1,by omega,by omega,by go_num,H2,⟨below_then HB.out HB.out.size hb⟩⟩
    case measure=>simp [intOf];omega
  ·go_wp2
   go_ret
   exact ⟨ret_int_eq (idxM_end (by omega) HQ.out),HB.out⟩
theorem any_Feeds2 (q : Int→Option Bool) (A : Option Addr) (c : Nat) (xs : List Int) (r : Bool) (w : World) (hr : Kd.C (Kd.int .i64) w A xs.length xs) (hp : Pred_Feeds2 q w xs) (h : anyM q xs = some r) :
 Calls Tryz.prog 57 #[.slice A xs.length c,.func (.func 61) #[] #[]] w fun e w'=>e = .returned (.bool r)∧Below w.heap.size w w':=by
 obtain ⟨j,hj,hd⟩:=idxM_of_anyM q xs 0 r (by omega) h
 have H1:=Aside0.mk hj
 have H2:=Aside0.mk hd
 have HR:=Aside0.mk hr
 have HP:=Aside0.mk hp
 clear hr hp h hj hd
 go_enter Tryz.func57,Tryz.ntmps57
 go_wp2_with (go_at_call 104;refine (idx_Feeds2 q _ _ xs j _ HR.out HP.out H1.out).mono ?_;rintro e W' ⟨rfl,hb⟩)
 go_ret
 exact ⟨ret_bool_eq H2.out,hb⟩
def cf_Feeds2.f (l0 : List Int) : Option Bool:=anyM ga_Feeds_2.f l0
theorem cf_Feeds2.calls (A0 : Option Addr) (c0 : Nat) (l0 : List Int) (r : Bool) (w : World) (hr0 : Kd.C (Kd.int .i64) w A0 l0.length l0) (hc0 : l0.length≤c0) (h : cf_Feeds2.f l0 = some r) :
 Calls Tryz.prog 57 #[.slice A0 l0.length c0,.func (.func 61) #[] #[]] w fun e w'=>e = .returned (.bool r)∧Below w.heap.size w w':=
 any_Feeds2 ga_Feeds_2.f A0 c0 l0 r w hr0 (fun x b W hx hq hb=>(ga_Feeds_2.calls _ b W hq).mono fun e W' ⟨he,hd⟩=>⟨he,hd.below⟩) h
mutual
def ga_Feeds.j0 : Nat→List Int→List Int→Bool→List (S37)→List (S65)→Option (Bool × Int)
 | 0,_,_,_,_,_=>none
 | k + 1,x1,x2,x34,x122000,x122001=>if x34 = true then (some (false,2)) else (if 0≤(x122000.length : Int) then (if ((x122000.length : Int) : Int).toNat≤35184372088832 then (ga_Feeds.l0 k x2 (List.replicate ((x122000.length : Int) : Int).toNat 0) x122000 (x122000.length : Int) 0 x122000 x122001 x122000 x122001 x1) else (none)) else (none))
def ga_Feeds.l0 : Nat→List Int→List Int→List (S37)→Int→Int→List (S37)→List (S65)→List (S37)→List (S65)→List Int→Option (Bool × Int)
 | 0,_,_,_,_,_,_,_,_,_,_=>none
 | k + 1,x2,x9,x43,x44,x45,x122000,x122001,x126000,x126001,x126002=>if x45 < x44 then (if 0≤x45 then (if x45 < (x43.length : Int) then (if x45 < (x9.length : Int) then (ga_Feeds.l0 k x2 (x9.set (x45 : Int).toNat (wrap64 (((rd_T37 x43 x45).f0.f0) - ((rd_T37 x43 x45).f1)))) x43 x44 (wrap64 (x45 + 1)) x122000 x122001 x126000 x126001 x126002) else (none)) else (none)) else (none)) else (ga_Feeds.l1 k x2 x9 x122001 (x122001.length : Int) 0 x126000 x126001 x126002)
def ga_Feeds.l1 : Nat→List Int→List Int→List (S65)→Int→Int→List (S37)→List (S65)→List Int→Option (Bool × Int)
 | 0,_,_,_,_,_,_,_,_=>none
 | k + 1,x2,x9,x61,x62,x63,x126000,x126001,x126002=>if x63 < x62 then (if 0≤x63 then (if x63 < (x61.length : Int) then (if x63 < (x2.length : Int) then ((gs_carries.f k x126000 x126001 x126002 x63).bind fun t135=>(if (rd x2 x63) > t135 then (some (false,0)) else (if 0≤((rd_T65 x61 x63).f0) then (if ((rd_T65 x61 x63).f0) < (x9.length : Int) then ((some (x9.set (((rd_T65 x61 x63).f0) : Int).toNat (wrap64 ((rd x9 ((rd_T65 x61 x63).f0)) - (rd x2 x63))) : List Int)).bind fun y138=>(if 0≤((rd_T65 x61 x63).f1) then (if ((rd_T65 x61 x63).f1) < (x9.length : Int) then (ga_Feeds.l1 k x2 (y138.set (((rd_T65 x61 x63).f1) : Int).toNat (wrap64 ((rd y138 ((rd_T65 x61 x63).f1)) + (rd x2 x63)))) x61 x62 (wrap64 (x63 + 1)) x126000 x126001 x126002) else (none)) else (none))) else (none)) else (none)))) else (none)) else (none)) else (none)) else ((cf_Feeds2.f x9).bind fun t142=>(some (!t142,0)))
end
def ga_Feeds.f (k : Nat) (l0_0 : List (S37)) (l0_1 : List (S65)) (l1 : List Int) (l2 : List Int) : Option (Bool × Int):=(ga_isNet.f k l0_0 l0_1).bind fun t122=>(if t122 = true then ((ga_areGates.f k l0_0 l0_1 l1).bind fun t123=>(if t123 = true then (if (l2.length : Int) = (l0_1.length : Int) then ((cf_Feeds1.f l2).bind fun t124=>(ga_Feeds.j0 k l1 l2 t124 l0_0 l0_1)) else (ga_Feeds.j0 k l1 l2 true l0_0 l0_1)) else (ga_Feeds.j0 k l1 l2 true l0_0 l0_1))) else (ga_Feeds.j0 k l1 l2 true l0_0 l0_1))
def ga_Feeds.T13 : Bool × List (List Nat × List Nat):=(true,[([],[]),([],[]),([0,1],[0,1]),([2],[2]),([],[]),([],[]),([4,5],[4,5]),([3,6],[3,6])])
def ga_Feeds.B13 : List Nat:=[0,0,3,7,0,0,48,127]
theorem ga_Feeds.tab13 : rtab .any (opsOf Tryz.f16 13) = ga_Feeds.T13:=by kernel_rfl
theorem ga_Feeds.bits13 : waitsOk ga_Feeds.T13.2 ga_Feeds.B13 = true:=by kernel_rfl
def ga_Feeds.T15 : Bool × List (List Nat × List Nat):=(true,[([],[]),([],[]),([1],[1]),([0,2],[0,2]),([3],[3]),([],[]),([],[]),([5,6],[5,6]),([7],[7]),([4,8],[4,8]),([0,2,0,1,2,3,4,5,6,7,8,9],[0,2]),([10,9,0,1,2,3,4,5,6,7,8,9],[9,10])])
def ga_Feeds.B15 : List Nat:=[0,0,2,7,15,0,0,96,224,511,1023,2047]
theorem ga_Feeds.tab15 : rtab .any (opsOf Tryz.f16 15) = ga_Feeds.T15:=by kernel_rfl
theorem ga_Feeds.bits15 : waitsOk ga_Feeds.T15.2 ga_Feeds.B15 = true:=by kernel_rfl
def ga_Feeds.T16 : Bool × List (List Nat × List Nat):=(true,[([],[]),([],[]),([1],[1]),([0,2],[0,2]),([3],[3]),([],[]),([],[]),([5,6],[5,6]),([7],[7]),([4,8],[4,8]),([0,2,0,1,2,3,4,5,6,7,8,9],[0,2]),([10,9,0,1,2,3,4,5,6,7,8,9],[9,10])])
def ga_Feeds.B16 : List Nat:=[0,0,2,7,15,0,0,96,224,511,1023,2047]
theorem ga_Feeds.tab16 : rtab .any (opsOf Tryz.f16 16) = ga_Feeds.T16:=by kernel_rfl
theorem ga_Feeds.bits16 : waitsOk ga_Feeds.T16.2 ga_Feeds.B16 = true:=by kernel_rfl
theorem ga_Feeds.calls (k : Nat) (A0_0 : Option Addr) (c0_0 : Nat) (l0_0 : List (S37)) (A0_1 : Option Addr) (c0_1 : Nat) (l0_1 : List (S65)) (A1 : Option Addr) (c1 : Nat) (l1 : List Int) (A2 : Option Addr) (c2 : Nat) (l2 : List Int) (r1 : Bool) (r2 : Int) (w : World) (hr0_0 : Kd.C k37 w A0_0 l0_0.length l0_0) (hc0_0 : l0_0.length≤c0_0) (hr0_1 : Kd.C k65 w A0_1 l0_1.length l0_1) (hc0_1 : l0_1.length≤c0_1) (hr1 : Kd.C (Kd.int .i64) w A1 l1.length l1) (hc1 : l1.length≤c1) (hr2 : Kd.C (Kd.int .i64) w A2 l2.length l2) (hc2 : l2.length≤c2) (h : ga_Feeds.f k l0_0 l0_1 l1 l2 = some (r1,r2)) :
 Calls Tryz.prog 16 #[.agg #[.slice A0_0 l0_0.length c0_0,.slice A0_1 l0_1.length c0_1],.slice A1 l1.length c1,.slice A2 l2.length c2] w fun e w'=>e = .returned (.tuple #[.bool r1,.int .i64 r2])∧Below w.heap.size w w':=by
 have hu25:=Tryz.underlying25
 have hu80:=Tryz.underlying80
 have hu37:=Tryz.underlying37
 have hu65:=Tryz.underlying65
 have HR0_0:=am hr0_0
 have HC0_0:=am hc0_0
 clear hr0_0 hc0_0
 have HR0_1:=am hr0_1
 have HC0_1:=am hc0_1
 clear hr0_1 hc0_1
 have HR1:=am hr1
 have HC1:=am hc1
 clear hr1 hc1
 have HR2:=am hr2
 have HC2:=am hc2
 clear hr2 hc2
 have HB:=am (Below.refl w.heap.size w)
 have H : ((ga_isNet.f k l0_0 l0_1).bind fun t122=>(if t122 = true then ((ga_areGates.f k l0_0 l0_1 l1).bind fun t123=>(if t123 = true then (if (l2.length : Int) = (l0_1.length : Int) then ((cf_Feeds1.f l2).bind fun t124=>(ga_Feeds.j0 k l1 l2 t124 l0_0 l0_1)) else (ga_Feeds.j0 k l1 l2 true l0_0 l0_1)) else (ga_Feeds.j0 k l1 l2 true l0_0 l0_1))) else (ga_Feeds.j0 k l1 l2 true l0_0 l0_1))) = some (r1,r2):=h
 clear h
 have HC4:=am H
 clear H
 go_enter Tryz.func16,Tryz.ntmps16
 go_upto_region 1 with (first | ((refine ga_dst (N:=3) rfl ?_);(try (refine ga_guard (by rfl) ?_;dsimp only));refine box_event rfl (N:=3) rfl (cs:=#[.slice A0_0 l0_0.length c0_0,.slice A0_1 l0_1.length c0_1]) (t:=25) ?hr ?_;(case hr=>go_simp;try rfl);intro gb121 hg w5 hbox hb;have BK121:=am (hbox);have GW121:=am (ge_new (HB.out) hg);have GE121:=am (ge_new (HB.out) hg);replace HB:=am (below_step (HB.out) hb);clear hb hbox hg))
 (try simp only [Act.put,List.setIfInBounds_toArray,List.set_cons_zero,List.set_cons_succ])
 go_cut [34] (fun v34 wc=>∃ (kq : Nat) (x34_3 : Bool),v34 = .bool x34_3∧Aside0 (ga_Feeds.j0 kq l1 l2 x34_3 l0_0 l0_1 = some (r1,r2))∧Aside0 (kq≤k)∧Aside0 (wc.heap[gb121]? = some (.cells #[(.slice A0_0 l0_0.length c0_0),(.slice A0_1 l0_1.length c0_1)] 25 (0,0)))∧Aside0 (Below w.heap.size w wc))
 case first =>
  have H:=HC4.out
  clear HC4
  replace H:=obm H
  obtain ⟨t122,A60,H⟩:=H
  replace H : (if t122 = true then ((ga_areGates.f k l0_0 l0_1 l1).bind fun t123=>(if t123 = true then (if (l2.length : Int) = (l0_1.length : Int) then ((cf_Feeds1.f l2).bind fun t124=>(ga_Feeds.j0 k l1 l2 t124 l0_0 l0_1)) else (ga_Feeds.j0 k l1 l2 true l0_0 l0_1)) else (ga_Feeds.j0 k l1 l2 true l0_0 l0_1))) else (ga_Feeds.j0 k l1 l2 true l0_0 l0_1)) = some (r1,r2):=H
  have A6:=am A60
  clear A60
  by_cases c7 : t122 = true
  case neg =>
   replace c7:=Bool.eq_false_iff.mpr c7
   subst c7
   replace H : (ga_Feeds.j0 k l1 l2 true l0_0 l0_1) = some (r1,r2):=by rw [if_neg (show ¬ (false = true) by decide)] at H;exact H
   replace H':=am H
   obtain ⟨hcz27_0,hcz27_1⟩:=cO2 BK121.out
   go_wp2_with (first | ((with_reducible refine ga_callee (f:=55) rfl ?_);refine goesL_ (some 15) rfl rfl Tryz.func55 (by kernel_rfl) rfl #[.agg #[.slice A0_0 l0_0.length c0_0,.slice A0_1 l0_1.length c0_1]] rfl (by (try simp only [List.map_toArray,List.map_cons,List.map_nil]);first | done | rfl | (simp only [List.length_drop,List.length_take];rfl)) ?_;(refine (ga_isNet.calls k _ _ l0_0 _ _ l0_1 false _ ?side1 ?side2 ?side3 ?side4 A6.out).mono ?_);(case side1=>exact kC HR0_0.out HB.out);(case side2=>exact HC0_0.out);(case side3=>exact kC HR0_1.out HB.out);(case side4=>exact HC0_1.out);rintro e w28 ⟨rfl,hb⟩;refine ⟨_,rfl,?_⟩;replace BK121:=(kmv hb BK121);replace HB:=am (below_step (HB.out) hb);(try clear hb);(try clear hb2);(try clear hk);(try clear hi)))
   go_meet
   case rel=>exact ⟨_,(true),(by first | rfl | (simp;done) | (simp [*];done)),H',⟨by first | omega | exact Nat.le_refl _⟩,⟨BK121.out⟩,⟨HB.out⟩⟩
  subst c7
  replace H : ((ga_areGates.f k l0_0 l0_1 l1).bind fun t123=>(if t123 = true then (if (l2.length : Int) = (l0_1.length : Int) then ((cf_Feeds1.f l2).bind fun t124=>(ga_Feeds.j0 k l1 l2 t124 l0_0 l0_1)) else (ga_Feeds.j0 k l1 l2 true l0_0 l0_1)) else (ga_Feeds.j0 k l1 l2 true l0_0 l0_1))) = some (r1,r2):=by rw [if_pos rfl] at H;exact H
  replace H:=obm H
  obtain ⟨t123,A80,H⟩:=H
  replace H : (if t123 = true then (if (l2.length : Int) = (l0_1.length : Int) then ((cf_Feeds1.f l2).bind fun t124=>(ga_Feeds.j0 k l1 l2 t124 l0_0 l0_1)) else (ga_Feeds.j0 k l1 l2 true l0_0 l0_1)) else (ga_Feeds.j0 k l1 l2 true l0_0 l0_1)) = some (r1,r2):=H
  have A8:=am A80
  clear A80
  by_cases c9 : t123 = true
  case neg =>
   replace c9:=Bool.eq_false_iff.mpr c9
   subst c9
   replace H : (ga_Feeds.j0 k l1 l2 true l0_0 l0_1) = some (r1,r2):=by rw [if_neg (show ¬ (false = true) by decide)] at H;exact H
   replace H':=am H
   obtain ⟨hcz23_0,hcz23_1⟩:=cO2 BK121.out
   go_wp2_with (first | ((with_reducible refine ga_callee (f:=55) rfl ?_);refine goesL_ (some 15) rfl rfl Tryz.func55 (by kernel_rfl) rfl #[.agg #[.slice A0_0 l0_0.length c0_0,.slice A0_1 l0_1.length c0_1]] rfl (by (try simp only [List.map_toArray,List.map_cons,List.map_nil]);first | done | rfl | (simp only [List.length_drop,List.length_take];rfl)) ?_;(refine (ga_isNet.calls k _ _ l0_0 _ _ l0_1 true _ ?side1 ?side2 ?side3 ?side4 A6.out).mono ?_);(case side1=>exact kC HR0_0.out HB.out);(case side2=>exact HC0_0.out);(case side3=>exact kC HR0_1.out HB.out);(case side4=>exact HC0_1.out);rintro e w24 ⟨rfl,hb⟩;refine ⟨_,rfl,?_⟩;replace BK121:=(kmv hb BK121);replace HB:=am (below_step (HB.out) hb);(try clear hb);(try clear hb2);(try clear hk);(try clear hi);obtain ⟨hcz25_0,hcz25_1⟩:=cO2 BK121.out) | (go_at_call 56;(refine (ga_areGates.calls k _ _ l0_0 _ _ l0_1 _ _ l1 false _ ?side1 ?side2 ?side3 ?side4 ?side5 ?side6 A8.out).mono ?_);(case side1=>exact kC HR0_0.out HB.out);(case side2=>exact HC0_0.out);(case side3=>exact kC HR0_1.out HB.out);(case side4=>exact HC0_1.out);(case side5=>exact kC HR1.out HB.out);(case side6=>exact HC1.out);rintro e w26 ⟨rfl,hb⟩;replace BK121:=(kmv hb BK121);replace HB:=am (below_step (HB.out) hb);(try clear hb);(try clear hb2);(try clear hk);(try clear hi)))
   go_meet
   case rel=>exact ⟨_,(true),(by first | rfl | (simp;done) | (simp [*];done)),H',⟨by first | omega | exact Nat.le_refl _⟩,⟨BK121.out⟩,⟨HB.out⟩⟩
  subst c9
  replace H : (if (l2.length : Int) = (l0_1.length : Int) then ((cf_Feeds1.f l2).bind fun t124=>(ga_Feeds.j0 k l1 l2 t124 l0_0 l0_1)) else (ga_Feeds.j0 k l1 l2 true l0_0 l0_1)) = some (r1,r2):=by rw [if_pos rfl] at H;exact H
  by_cases c10 : (l2.length : Int) = (l0_1.length : Int)
  case neg =>
   rw [if_neg c10] at H
   have c10b0 : ((l2.length : Int) == (l0_1.length : Int)) = false:=beq_eq_false_iff_ne.mpr c10
   have c10b1 : ((l2.length : Int) != (l0_1.length : Int)) = true:=bne_iff_ne.mpr c10
   have c10b2 : (l2.length == l0_1.length) = false:=by first | simpa using c10 | (simp at c10 ⊢;omega)
   (first | rw [c10b0] | (simp only [i64_w,i32_w];rw [c10b0]) | skip)
   replace H':=am H
   obtain ⟨hcz18_0,hcz18_1⟩:=cO2 BK121.out
   go_wp2_with (first | ((with_reducible refine ga_callee (f:=55) rfl ?_);refine goesL_ (some 15) rfl rfl Tryz.func55 (by kernel_rfl) rfl #[.agg #[.slice A0_0 l0_0.length c0_0,.slice A0_1 l0_1.length c0_1]] rfl (by (try simp only [List.map_toArray,List.map_cons,List.map_nil]);first | done | rfl | (simp only [List.length_drop,List.length_take];rfl)) ?_;(refine (ga_isNet.calls k _ _ l0_0 _ _ l0_1 true _ ?side1 ?side2 ?side3 ?side4 A6.out).mono ?_);(case side1=>exact kC HR0_0.out HB.out);(case side2=>exact HC0_0.out);(case side3=>exact kC HR0_1.out HB.out);(case side4=>exact HC0_1.out);rintro e w19 ⟨rfl,hb⟩;refine ⟨_,rfl,?_⟩;replace BK121:=(kmv hb BK121);replace HB:=am (below_step (HB.out) hb);(try clear hb);(try clear hb2);(try clear hk);(try clear hi);obtain ⟨hcz20_0,hcz20_1⟩:=cO2 BK121.out) | (go_at_call 56;(refine (ga_areGates.calls k _ _ l0_0 _ _ l0_1 _ _ l1 true _ ?side1 ?side2 ?side3 ?side4 ?side5 ?side6 A8.out).mono ?_);(case side1=>exact kC HR0_0.out HB.out);(case side2=>exact HC0_0.out);(case side3=>exact kC HR0_1.out HB.out);(case side4=>exact HC0_1.out);(case side5=>exact kC HR1.out HB.out);(case side6=>exact HC1.out);rintro e w21 ⟨rfl,hb⟩;replace BK121:=(kmv hb BK121);replace HB:=am (below_step (HB.out) hb);(try clear hb);(try clear hb2);(try clear hk);(try clear hi);obtain ⟨hcz22_0,hcz22_1⟩:=cO2 BK121.out))
   go_meet
   case rel=>exact ⟨_,(true),(by first | rfl | (simp;done) | (simp [*];done)),H',⟨by first | omega | exact Nat.le_refl _⟩,⟨BK121.out⟩,⟨HB.out⟩⟩
  rw [if_pos c10] at H
  have c10b0 : ((l2.length : Int) == (l0_1.length : Int)) = true:=beq_iff_eq.mpr c10
  have c10b1 : ((l2.length : Int) != (l0_1.length : Int)) = false:=bne_eq_false_iff_eq.mpr c10
  have c10b2 : (l2.length == l0_1.length) = true:=by first | simpa using c10 | (simp at c10 ⊢;omega)
  clear c10
  (first | rw [c10b0] | (simp only [i64_w,i32_w];rw [c10b0]) | skip)
  replace H:=obm H
  obtain ⟨t124,A110,H⟩:=H
  replace H : (ga_Feeds.j0 k l1 l2 t124 l0_0 l0_1) = some (r1,r2):=H
  have A11:=am A110
  clear A110
  replace H':=am H
  obtain ⟨hcz12_0,hcz12_1⟩:=cO2 BK121.out
  go_wp2_with (first | ((with_reducible refine ga_callee (f:=55) rfl ?_);refine goesL_ (some 15) rfl rfl Tryz.func55 (by kernel_rfl) rfl #[.agg #[.slice A0_0 l0_0.length c0_0,.slice A0_1 l0_1.length c0_1]] rfl (by (try simp only [List.map_toArray,List.map_cons,List.map_nil]);first | done | rfl | (simp only [List.length_drop,List.length_take];rfl)) ?_;(refine (ga_isNet.calls k _ _ l0_0 _ _ l0_1 true _ ?side1 ?side2 ?side3 ?side4 A6.out).mono ?_);(case side1=>exact kC HR0_0.out HB.out);(case side2=>exact HC0_0.out);(case side3=>exact kC HR0_1.out HB.out);(case side4=>exact HC0_1.out);rintro e w13 ⟨rfl,hb⟩;refine ⟨_,rfl,?_⟩;replace BK121:=(kmv hb BK121);replace HB:=am (below_step (HB.out) hb);(try clear hb);(try clear hb2);(try clear hk);(try clear hi);obtain ⟨hcz14_0,hcz14_1⟩:=cO2 BK121.out) | (go_at_call 56;(refine (ga_areGates.calls k _ _ l0_0 _ _ l0_1 _ _ l1 true _ ?side1 ?side2 ?side3 ?side4 ?side5 ?side6 A8.out).mono ?_);(case side1=>exact kC HR0_0.out HB.out);(case side2=>exact HC0_0.out);(case side3=>exact kC HR0_1.out HB.out);(case side4=>exact HC0_1.out);(case side5=>exact kC HR1.out HB.out);(case side6=>exact HC1.out);rintro e w15 ⟨rfl,hb⟩;replace BK121:=(kmv hb BK121);replace HB:=am (below_step (HB.out) hb);(try clear hb);(try clear hb2);(try clear hk);(try clear hi);obtain ⟨hcz16_0,hcz16_1⟩:=cO2 BK121.out) | (go_at_call 57;(refine (cf_Feeds1.calls _ _ l2  t124 _ ?side1 ?side2 A11.out).mono ?_);(case side1=>exact kC HR2.out HB.out);(case side2=>exact HC2.out);rintro e w17 ⟨rfl,hb⟩;replace BK121:=(kmv hb BK121);replace HB:=am (below_step (HB.out) hb);(try clear hb);(try clear hb2);(try clear hk);(try clear hi)))
  go_meet
  case rel=>exact ⟨_,(t124),(by first | rfl | (simp;done) | (simp [*];done)),H',⟨by first | omega | exact Nat.le_refl _⟩,⟨BK121.out⟩,⟨HB.out⟩⟩
 case rest =>
  clear HC4
  obtain ⟨kq,x34_3,rfl,HA,HJ3,BK121,HB⟩:=hcut
  cases kq with
  | zero=>exact absurd HA.out (by simp [ga_Feeds.j0])
  | succ kj3 =>
   have H:=HA.out
   clear HA
   simp only [ga_Feeds.j0] at H
   by_cases c29 : x34_3 = true
   ·subst c29
    replace H : (some (false,2)) = some (r1,r2):=by rw [if_pos rfl] at H;exact H
    simp only [Option.some.injEq,Prod.mk.injEq] at H
    obtain ⟨rfl,rfl⟩:=H
    go_wp2
    go_ret2
    exact ⟨by first | rfl | (simp [*]<;>rfl),HB.out⟩
   ·replace c29:=Bool.eq_false_iff.mpr c29
    subst c29
    replace H : (if 0≤(l0_0.length : Int) then (if ((l0_0.length : Int) : Int).toNat≤35184372088832 then (ga_Feeds.l0 kj3 l2 (List.replicate ((l0_0.length : Int) : Int).toNat 0) l0_0 (l0_0.length : Int) 0 l0_0 l0_1 l0_0 l0_1 l1) else (none)) else (none)) = some (r1,r2):=by rw [if_neg (show ¬ (false = true) by decide)] at H;exact H
    by_cases c30 : 0≤(l0_0.length : Int)
    case neg =>
     rw [if_neg c30] at H
     exact absurd H (by simp)
    rw [if_pos c30] at H
    have c30b0:=eq_true c30
    have c30b1 : decide (0≤(l0_0.length : Int)) = true:=decide_eq_true c30
    clear c30
    by_cases c31 : ((l0_0.length : Int) : Int).toNat≤35184372088832
    case neg =>
     rw [if_neg c31] at H
     exact absurd H (by simp)
    rw [if_pos c31] at H
    have c31b0:=eq_true c31
    have c31b1 : decide (((l0_0.length : Int) : Int).toNat≤35184372088832) = true:=decide_eq_true c31
    clear c31
    obtain ⟨y126,hy126⟩ : ∃ y_ : List Int,y_ = (List.replicate ((l0_0.length : Int) : Int).toNat 0):=⟨_,rfl⟩
    replace H : (ga_Feeds.l0 kj3 l2 y126 l0_0 (l0_0.length : Int) 0 l0_0 l0_1 l0_0 l0_1 l1) = some (r1,r2):=by first | (rw [hy126];with_reducible exact H) | (have H2_:=(Option.bind_some _ _).symm.trans H;rw [hy126];with_reducible exact H2_) | (have H2_:=(Option.bind_some _ _).symm.trans H;with_reducible exact H2_) | with_reducible exact H | (rw [hy126];exact H) | exact H
    have Ny126:=am hy126
    clear hy126
    replace H':=am H
    obtain ⟨hcz32_0,hcz32_1⟩:=cO2 BK121.out
    go_wp2_with (first | ((refine ga_dst (N:=8) rfl ?_);(try (refine ga_guard (by rfl) ?_;dsimp only));refine box_event rfl (N:=8) rfl (cs:=#[.slice none 0 0,.slice none 0 0,.slice none 0 0]) (t:=80) ?hr ?_;(case hr=>go_simp;try rfl);intro gb125 hg w33 hbox hb;have BK125:=am (hbox);have GW125:=am (ge_new (HB.out) hg);have GE125:=am (ge_new (HB.out) hg);have NB121_125:=am (ne_new BK121.out hg);have NB125_121:=am (ne_new2 BK121.out hg);replace BK121:=(kmv hb BK121);replace HB:=am (below_step (HB.out) hb);clear hb hbox hg;have hnb34:=NB125_121.out;have hnc34:=NB121_125.out;obtain ⟨hcz35_0,hcz35_1,hcz35_2⟩:=cO3 BK125.out;have hfz35_0:=blk_frozen BK125.out 0;have hfz35_1:=blk_frozen BK125.out 1;have hfz35_2:=blk_frozen BK125.out 2;obtain ⟨hcz36_0,hcz36_1⟩:=cO2 BK121.out) | ((refine ga_dst (N:=41) rfl ?_);(try (refine ga_guard (by rfl) ?_;dsimp only));refine Kd.R_make (Kd.int .i64) _ 3 rfl (N:=41) rfl 26 _ _ rfl (l0_0.length : Int) rfl rfl Tryz.underlying26 (.int .i64 0) 8 info3 rfl (by decide) (by omega) 0 (ok:=fun _=>True) (okp:=fun _=>True) rfl (fun _ hk=>hk) trivial (of_decide_eq_true (by assumption)) (Nat.le_trans (Nat.mul_le_mul_right _ (of_decide_eq_true (by assumption) : (l0_0.length : Int).toNat≤35184372088832)) (by omega)) (Below.refl _ _) (Nat.le_refl _) ?_;intro v127 w37 ho38 hb hg_ hnew_;clear hg_ hnew_;(first | rw [← Ny126.out] at ho38 | (simp only [Int.reduceToNat] at ho38;rw [← Ny126.out] at ho38));have HO128:=am (Kd.R_lower ho38 (below_size (by repeat (first | (with_reducible first | exact HB.out | refine below_set ?_ (Aside0.out (by assumption)) | apply below_alloc | apply pw_below_drewN) | exact HB.out))));replace BK121:=am (blk_below (blk_far (blk_far (blk_far BK121.out NB121_125.out _) NB121_125.out _) NB121_125.out _) hb);replace BK125:=am (blk_below (blk_put (cs:=#[.slice A0_0 l0_0.length c0_0,.slice A0_1 l0_1.length c0_1,.slice none 0 0]) (blk_put (cs:=#[.slice A0_0 l0_0.length c0_0,.slice none 0 0,.slice none 0 0]) (blk_put (cs:=#[.slice none 0 0,.slice none 0 0,.slice none 0 0]) BK125.out 0 _ rfl) 1 _ rfl) 2 _ rfl) hb);replace HB:=am (below_step (by repeat (first | (with_reducible first | exact HB.out | refine below_set ?_ (Aside0.out (by assumption)) | apply below_alloc | apply pw_below_drewN) | exact HB.out)) hb);clear hb ho38;obtain ⟨hcz39_0,hcz39_1⟩:=cO2 BK121.out))
    go_loopg [45] kj3 (fun kq v45 w'=>∃ (x9_2 : List Int) (x45_2 : Int),v45 = .int .i64 x45_2∧Aside0 (ga_Feeds.l0 kq l2 x9_2 l0_0 (l0_0.length : Int) x45_2 l0_0 l0_1 l0_0 l0_1 l1 = some (r1,r2))∧Aside0 (kq≤kj3)∧Aside0 (Kd.R (Kd.int .i64) 3 w' w.heap.size (fun _=>True) v127 x9_2)∧Aside0 (w'.heap[gb121]? = some (.cells #[(.slice A0_0 l0_0.length c0_0),(.slice A0_1 l0_1.length c0_1)] 25 (0,0)))∧Aside0 (w'.heap[gb125]? = some (.cells #[(.slice A0_0 l0_0.length c0_0),(.slice A0_1 l0_1.length c0_1),(.slice A1 l1.length c1)] 80 (0,0)))∧Aside0 (Below w.heap.size w w'))
    case atStart=>exact ⟨(y126),(0),(by first | rfl | (simp;done) | (simp [*];done)),H',⟨Nat.le_refl _⟩,⟨by (with_reducible repeat (first | apply Kd.R_alloc | apply Kd.R_drewN | apply Kd.R_drew));exact HO128.out⟩,⟨BK121.out⟩,⟨BK125.out⟩,⟨HB.out⟩⟩
    case round =>
     clear H'
     obtain ⟨x9_2,x45_2,rfl,HA,HK2,HO_9,BK121,BK125,HB⟩:=hrel
     cases gk with
     | zero=>exact absurd HA.out (by simp [ga_Feeds.l0])
     | succ k2 =>
      have H:=HA.out
      clear HA
      simp only [ga_Feeds.l0] at H
      by_cases c40 : x45_2 < (l0_0.length : Int)
      ·rw [if_pos c40] at H
       have c40b0 : decide (x45_2 < (l0_0.length : Int)) = true:=decide_eq_true c40
       clear c40
       by_cases c41 : 0≤x45_2
       case neg =>
        rw [if_neg c41] at H
        exact absurd H (by simp)
       rw [if_pos c41] at H
       have c41b0 : decide (0≤x45_2) = true:=decide_eq_true c41
       clear c41
       by_cases c42 : x45_2 < (l0_0.length : Int)
       case neg =>
        rw [if_neg c42] at H
        exact absurd H (by simp)
       rw [if_pos c42] at H
       have c42b0 : decide (x45_2 < (l0_0.length : Int)) = true:=decide_eq_true c42
       clear c42
       by_cases c43 : x45_2 < (x9_2.length : Int)
       case neg =>
        rw [if_neg c43] at H
        exact absurd H (by simp)
       rw [if_pos c43] at H
       have c43b0 : decide (x45_2 < (x9_2.length : Int)) = true:=decide_eq_true c43
       clear c43
       obtain ⟨y131,hy131⟩ : ∃ y_ : List Int,y_ = (x9_2.set (x45_2 : Int).toNat (wrap64 (((rd_T37 l0_0 x45_2).f0.f0) - ((rd_T37 l0_0 x45_2).f1)))):=⟨_,rfl⟩
       replace H : (ga_Feeds.l0 k2 l2 y131 l0_0 (l0_0.length : Int) (wrap64 (x45_2 + 1)) l0_0 l0_1 l0_0 l0_1 l1) = some (r1,r2):=by first | (rw [hy131];with_reducible exact H) | (have H2_:=(Option.bind_some _ _).symm.trans H;rw [hy131];with_reducible exact H2_) | (have H2_:=(Option.bind_some _ _).symm.trans H;with_reducible exact H2_) | with_reducible exact H | (rw [hy131];exact H) | exact H
       have Ny131:=am hy131
       clear hy131
       replace H':=am H
       have p129 : 0≤(x45_2 : Int):=of_decide_eq_true (by assumption)
       have q129 : x45_2 < (l0_0.length : Int):=of_decide_eq_true (by assumption)
       obtain ⟨ad129,e129,hx129_0,hx129_1,hx129_2⟩:=at_T37 HR0_0.out x45_2 p129 q129
       cases e129
       replace hx129_0:=(HB.out.cell (wbl hx129_0)).trans hx129_0
       replace hx129_1:=(HB.out.cell (wbl hx129_1)).trans hx129_1
       replace hx129_2:=(HB.out.cell (wbl hx129_2)).trans hx129_2
       replace p129:=eq_true p129
       replace q129:=eq_true q129
       go_wp2_with (first | ((refine ga_dst (N:=11) rfl ?_);(try (refine ga_guard (by rfl) ?_;dsimp only));refine box_event rfl (N:=11) rfl (cs:=#[.int .i64 0,.int .i64 0,.int .i64 0]) (t:=37) ?hr ?_;(case hr=>go_simp;try rfl);intro gb130 hg w45 hbox hb;have BK130:=am (hbox);have GW130:=am (ge_new (HB.out) hg);have GE130:=am (ge_new (HB.out) hg);have NB121_130:=am (ne_new BK121.out hg);have NB130_121:=am (ne_new2 BK121.out hg);have NB125_130:=am (ne_new BK125.out hg);have NB130_125:=am (ne_new2 BK125.out hg);replace HO_9:=am (Kd.R_below HO_9.out hb);replace BK121:=(kmv hb BK121);replace BK125:=(kmv hb BK125);replace HB:=am (below_step (HB.out) hb);clear hb hbox hg;have hnb46:=NB130_121.out;have hnc46:=NB121_130.out;have hnb47:=NB130_125.out;have hnc47:=NB125_130.out;obtain ⟨hcz48_0,hcz48_1,hcz48_2⟩:=cO3 BK130.out;have hfz48_0:=blk_frozen BK130.out 0;have hfz48_1:=blk_frozen BK130.out 1;have hfz48_2:=blk_frozen BK130.out 2) | ((with_reducible refine ga_store (t:=37) (p:=11) rfl ?_);refine store_event (t:=37) (p:=11) (v:=?vo_w49) (w1:=(((w45.setCell ⟨gb130,0,none⟩ (.int .i64 ((rd_T37 l0_0 x45_2).f0.f0))).setCell ⟨gb130,1,none⟩ (.int .i64 ((rd_T37 l0_0 x45_2).f0.f1))).setCell ⟨gb130,2,none⟩ (.int .i64 ((rd_T37 l0_0 x45_2).f1)))) ?hg ?ho ?hn ?hr ?_;(case ho=>rfl);(case hg=>rfl);(case hn=>rfl);(case hr=>go_simp;try rfl);intro w49 hw;have n0_ : Aside0 (Kd.R (Kd.int .i64) 3 w49 w.heap.size (fun _=>True) v127 x9_2):=⟨(by rw [hw];exact (Kd.R_mono (Kd.R_far (p:=⟨gb130,2,none⟩) (Kd.R_far (p:=⟨gb130,1,none⟩) (Kd.R_far (p:=⟨gb130,0,none⟩) (Kd.R_types HO_9.out BK130.out (by decide)) (fun _ hk=>hk.2) (.int .i64 ((rd_T37 l0_0 x45_2).f0.f0))) (fun _ hk=>hk.2) (.int .i64 ((rd_T37 l0_0 x45_2).f0.f1))) (fun _ hk=>hk.2) (.int .i64 ((rd_T37 l0_0 x45_2).f1))) (fun _ hk=>trivial)))⟩;have n1_ : Aside0 (w49.heap[gb121]? = some (.cells #[.slice (some ad129) l0_0.length c0_0,.slice A0_1 l0_1.length c0_1] 25 (0,0))):=⟨(by rw [hw];exact (blk_far (blk_far (blk_far BK121.out NB121_130.out _) NB121_130.out _) NB121_130.out _))⟩;have n2_ : Aside0 (w49.heap[gb125]? = some (.cells #[.slice (some ad129) l0_0.length c0_0,.slice A0_1 l0_1.length c0_1,.slice A1 l1.length c1] 80 (0,0))):=⟨(by rw [hw];exact (blk_far (blk_far (blk_far BK125.out NB125_130.out _) NB125_130.out _) NB125_130.out _))⟩;have n3_ : Aside0 (w49.heap[gb130]? = some (.cells #[.int .i64 ((rd_T37 l0_0 x45_2).f0.f0),.int .i64 ((rd_T37 l0_0 x45_2).f0.f1),.int .i64 ((rd_T37 l0_0 x45_2).f1)] 37 (0,0))):=⟨(by rw [hw];exact (blk_put (cs:=#[.int .i64 ((rd_T37 l0_0 x45_2).f0.f0),.int .i64 ((rd_T37 l0_0 x45_2).f0.f1),.int .i64 0]) (blk_put (cs:=#[.int .i64 ((rd_T37 l0_0 x45_2).f0.f0),.int .i64 0,.int .i64 0]) (blk_put (cs:=#[.int .i64 0,.int .i64 0,.int .i64 0]) BK130.out 0 _ rfl) 1 _ rfl) 2 _ rfl))⟩;have n4_ : Aside0 (Below w.heap.size w w49):=⟨(by rw [hw];exact (by repeat (first | (with_reducible first | exact HB.out | refine below_set ?_ (Aside0.out (by assumption)) | apply below_alloc | apply pw_below_drewN) | exact HB.out)))⟩;clear hw;clear HO_9;clear BK121;clear BK125;clear BK130;clear HB;have HO_9:=n0_;have BK121:=n1_;have BK125:=n2_;have BK130:=n3_;have HB:=n4_;clear n0_ n1_ n2_ n3_ n4_;obtain ⟨hcz50_0,hcz50_1,hcz50_2⟩:=cO3 BK130.out;have hfz50_0:=blk_frozen BK130.out 0;have hfz50_1:=blk_frozen BK130.out 1;have hfz50_2:=blk_frozen BK130.out 2;have p44 : 0≤(x45_2 : Int):=of_decide_eq_true (by assumption);have q44 : (x45_2 : Int) < ((x9_2.length : Int) : Int):=of_decide_eq_true (by assumption);obtain ⟨go44,co44,eo44,gb44,gl44,cl44,HG44⟩:=Kd.R_form HO_9.out (by omega);(first | cases eo44 | (injection eo44 with ea_ en_ ec_;(first | subst ea_ | (injection ea_ with ea_;subst ea_));subst ec_;clear en_));have GB44:=am gb44;have GG44:=am HG44;clear gb44 gl44 HG44;obtain ⟨hx44_0,hf44_0⟩:=Kd.R_celln 0 HO_9.out (x45_2 : Int) p44 q44;replace p44:=eq_true p44;replace q44:=eq_true q44;obtain ⟨hy51_,hz51_⟩:=Kd.R_celln 0 HO_9.out (x45_2 : Int) (of_decide_eq_true (by assumption)) (of_decide_eq_true (by assumption));have HP51:=Kd.R_putg HO_9.out (x45_2 : Int) (wrap64 (((rd_T37 l0_0 x45_2).f0.f0) - ((rd_T37 l0_0 x45_2).f1)))) | ((with_reducible refine ga_store (t:=3) (p:=58) rfl ?_);refine store_event (t:=3) (p:=58) (v:=?vo_w52) (w1:=(w49.setCell ⟨go44,(x45_2 : Int).toNat,none⟩ (.int .i64 (wrap64 (((rd_T37 l0_0 x45_2).f0.f0) - ((rd_T37 l0_0 x45_2).f1)))))) ?hg ?ho ?hn ?hr ?_;(case ho=>rfl);(case hg=>rfl);(case hn=>rfl);(case hr=>go_simp;try rfl);intro w52 hw;have hg : w49.grownBy w52 (some go44):=(by rw [hw];exact HP51.2);have hp_ : Kd.R (Kd.int .i64) 3 w52 w.heap.size (fun _=>True) (.slice (some ⟨go44,0,none⟩) x9_2.length co44) y131:=(by rw [hw,Ny131.out];exact HP51.1);clear HP51;have n0_:=am (hp_);have n1_:=am (blk_grown (g:=gb121) (o:=.cells #[.slice (some ad129) l0_0.length c0_0,.slice A0_1 l0_1.length c0_1] 25 (0,0)) BK121.out hg (Kd.R_ne HO_9.out BK121.out (by decide)));have n2_:=am (blk_grown (g:=gb125) (o:=.cells #[.slice (some ad129) l0_0.length c0_0,.slice A0_1 l0_1.length c0_1,.slice A1 l1.length c1] 80 (0,0)) BK125.out hg (Kd.R_ne HO_9.out BK125.out (by decide)));have n3_:=am (blk_grown (g:=gb130) (o:=.cells #[.int .i64 ((rd_T37 l0_0 x45_2).f0.f0),.int .i64 ((rd_T37 l0_0 x45_2).f0.f1),.int .i64 ((rd_T37 l0_0 x45_2).f1)] 37 (0,0)) BK130.out hg (Kd.R_ne HO_9.out BK130.out (by decide)));have n4_:=am ((by rw [hw];exact below_set (HB.out) GB44.out : Below w.heap.size w w52));clear HO_9;clear BK121;clear BK125;clear BK130;clear HB;have HO_9:=n0_;have BK121:=n1_;have BK125:=n2_;have BK130:=n3_;have HB:=n4_;clear n0_ n1_ n2_ n3_ n4_;clear hg hw hp_))
       go_roundg k2
       case measure=>have:=HJ3.out;have:=HK2.out;omega
       case rel=>exact ⟨(y131),(wrap64 (x45_2 + 1)),(by first | rfl | (simp;done) | (simp [*];done)),H',⟨by have:=HJ3.out;have:=HK2.out;omega⟩,⟨by (with_reducible repeat (first | apply Kd.R_alloc | apply Kd.R_drewN | apply Kd.R_drew));exact HO_9.out⟩,⟨BK121.out⟩,⟨BK125.out⟩,⟨HB.out⟩⟩
      ·rw [if_neg c40] at H
       have c40b0 : decide (x45_2 < (l0_0.length : Int)) = false:=decide_eq_false c40
       clear c40
       replace H':=am H
       have hnb53:=NB121_125.out
       have hnc53:=NB125_121.out
       obtain ⟨hcz54_0,hcz54_1⟩:=cO2 BK121.out
       go_wp2
       go_loopg [63] k2 (fun kq v63 w'=>∃ (x9_3 : List Int) (x63_3 : Int),v63 = .int .i64 x63_3∧Aside0 (ga_Feeds.l1 kq l2 x9_3 l0_1 (l0_1.length : Int) x63_3 l0_0 l0_1 l1 = some (r1,r2))∧Aside0 (kq≤k2)∧Aside0 (Kd.R (Kd.int .i64) 3 w' w.heap.size (fun _=>True) v127 x9_3)∧Aside0 (w'.heap[gb121]? = some (.cells #[(.slice A0_0 l0_0.length c0_0),(.slice A0_1 l0_1.length c0_1)] 25 (0,0)))∧Aside0 (w'.heap[gb125]? = some (.cells #[(.slice A0_0 l0_0.length c0_0),(.slice A0_1 l0_1.length c0_1),(.slice A1 l1.length c1)] 80 (0,0)))∧Aside0 (Below w.heap.size w w'))
       case atStart=>exact ⟨(x9_2),(0),(by first | rfl | (simp;done) | (simp [*];done)),H',⟨Nat.le_refl _⟩,⟨by (with_reducible repeat (first | apply Kd.R_alloc | apply Kd.R_drewN | apply Kd.R_drew));exact HO_9.out⟩,⟨BK121.out⟩,⟨BK125.out⟩,⟨HB.out⟩⟩
       case round =>
        clear H'
        obtain ⟨x9_3,x63_3,rfl,HA,HK3,HO_9,BK121,BK125,HB⟩:=hrel
        cases gk with
        | zero=>exact absurd HA.out (by simp [ga_Feeds.l1])
        | succ k3 =>
         have H:=HA.out
         clear HA
         simp only [ga_Feeds.l1] at H
         by_cases c55 : x63_3 < (l0_1.length : Int)
         case neg =>
          rw [if_neg c55] at H
          have c55b0 : decide (x63_3 < (l0_1.length : Int)) = false:=decide_eq_false c55
          clear c55
          replace H:=obm H
          obtain ⟨t142,A870,H⟩:=H
          replace H : (some (!t142,0)) = some (r1,r2):=H
          have A87:=am A870
          clear A870
          simp only [Option.some.injEq,Prod.mk.injEq] at H
          obtain ⟨rfl,rfl⟩:=H
          obtain ⟨Ao88,co88,eo88⟩:=Kd.R_slice HO_9.out
          subst eo88
          go_wp2_with (first | ((with_reducible refine ga_callee (f:=57) rfl ?_);refine goesL_ (some 100) rfl rfl Tryz.func57 (by kernel_rfl) rfl #[.slice Ao88 x9_3.length co88,.func (.func 61) #[] #[]] rfl (by (try simp only [List.map_toArray,List.map_cons,List.map_nil]);first | done | rfl | (simp only [List.length_drop,List.length_take];rfl)) ?_;(refine (cf_Feeds2.calls _ _ x9_3  t142 _ ?side1 ?side2 A87.out).mono ?_);(case side1=>repeat (first | exact (Kd.R_reads' HO_9.out).2.2 | (with_reducible refine Kd.C_alloc ?_ _) | (with_reducible refine Kd.C_drewN ?_ _) | (with_reducible refine Kd.C_drew ?_)));(case side2=>exact (Kd.R_reads' HO_9.out).2.1);rintro e w89 ⟨rfl,hb⟩;refine ⟨_,rfl,?_⟩;replace HO_9:=am (Kd.R_below HO_9.out hb);replace BK121:=(kmv hb BK121);replace BK125:=(kmv hb BK125);replace HB:=am (below_step (HB.out) hb);(try clear hb);(try clear hb2);(try clear hk);(try clear hi)))
          go_ret2
          exact ⟨by first | rfl | (simp [*]<;>rfl),HB.out⟩
         rw [if_pos c55] at H
         have c55b0 : decide (x63_3 < (l0_1.length : Int)) = true:=decide_eq_true c55
         clear c55
         by_cases c56 : 0≤x63_3
         case neg =>
          rw [if_neg c56] at H
          exact absurd H (by simp)
         rw [if_pos c56] at H
         have c56b0 : decide (0≤x63_3) = true:=decide_eq_true c56
         clear c56
         by_cases c57 : x63_3 < (l0_1.length : Int)
         case neg =>
          rw [if_neg c57] at H
          exact absurd H (by simp)
         rw [if_pos c57] at H
         have c57b0 : decide (x63_3 < (l0_1.length : Int)) = true:=decide_eq_true c57
         clear c57
         by_cases c58 : x63_3 < (l2.length : Int)
         case neg =>
          rw [if_neg c58] at H
          exact absurd H (by simp)
         rw [if_pos c58] at H
         have c58b0 : decide (x63_3 < (l2.length : Int)) = true:=decide_eq_true c58
         clear c58
         replace H:=obm H
         obtain ⟨t135,A590,H⟩:=H
         replace H : (if (rd l2 x63_3) > t135 then (some (false,0)) else (if 0≤((rd_T65 l0_1 x63_3).f0) then (if ((rd_T65 l0_1 x63_3).f0) < (x9_3.length : Int) then ((some (x9_3.set (((rd_T65 l0_1 x63_3).f0) : Int).toNat (wrap64 ((rd x9_3 ((rd_T65 l0_1 x63_3).f0)) - (rd l2 x63_3))) : List Int)).bind fun y138=>(if 0≤((rd_T65 l0_1 x63_3).f1) then (if ((rd_T65 l0_1 x63_3).f1) < (x9_3.length : Int) then (ga_Feeds.l1 k3 l2 (y138.set (((rd_T65 l0_1 x63_3).f1) : Int).toNat (wrap64 ((rd y138 ((rd_T65 l0_1 x63_3).f1)) + (rd l2 x63_3)))) l0_1 (l0_1.length : Int) (wrap64 (x63_3 + 1)) l0_0 l0_1 l1) else (none)) else (none))) else (none)) else (none))) = some (r1,r2):=H
         have A59:=am A590
         clear A590
         by_cases c60 : (rd l2 x63_3) > t135
         ·rw [if_pos c60] at H
          have c60b0 : decide (t135 < (rd l2 x63_3)) = true:=decide_eq_true c60
          clear c60
          simp only [Option.some.injEq,Prod.mk.injEq] at H
          obtain ⟨rfl,rfl⟩:=H
          have p132 : 0≤(x63_3 : Int):=of_decide_eq_true (by assumption)
          have q132 : x63_3 < (l0_1.length : Int):=of_decide_eq_true (by assumption)
          obtain ⟨ad132,e132,hx132_0,hx132_1,hx132_2,hx132_3⟩:=at_T65 HR0_1.out x63_3 p132 q132
          cases e132
          replace hx132_0:=(HB.out.cell (wbl hx132_0)).trans hx132_0
          replace hx132_1:=(HB.out.cell (wbl hx132_1)).trans hx132_1
          replace hx132_2:=(HB.out.cell (wbl hx132_2)).trans hx132_2
          replace hx132_3:=(HB.out.cell (wbl hx132_3)).trans hx132_3
          replace p132:=eq_true p132
          replace q132:=eq_true q132
          try go_wp2_with (first | ((refine ga_dst (N:=13) rfl ?_);(try (refine ga_guard (by rfl) ?_;dsimp only));refine box_event rfl (N:=13) rfl (cs:=#[.int .i64 0,.int .i64 0,.int .i64 0,.bool false]) (t:=65) ?hr ?_;(case hr=>go_simp;try rfl);intro gb133 hg w61 hbox hb;have BK133:=am (hbox);have GW133:=am (ge_new (HB.out) hg);have GE133:=am (ge_new (HB.out) hg);have NB121_133:=am (ne_new BK121.out hg);have NB133_121:=am (ne_new2 BK121.out hg);have NB125_133:=am (ne_new BK125.out hg);have NB133_125:=am (ne_new2 BK125.out hg);replace HO_9:=am (Kd.R_below HO_9.out hb);replace BK121:=(kmv hb BK121);replace BK125:=(kmv hb BK125);replace HB:=am (below_step (HB.out) hb);clear hb hbox hg;have hnb62:=NB133_121.out;have hnc62:=NB121_133.out;have hnb63:=NB133_125.out;have hnc63:=NB125_133.out;obtain ⟨hcz64_0,hcz64_1,hcz64_2,hcz64_3⟩:=cO4 BK133.out;have hfz64_0:=blk_frozen BK133.out 0;have hfz64_1:=blk_frozen BK133.out 1;have hfz64_2:=blk_frozen BK133.out 2;have hfz64_3:=blk_frozen BK133.out 3))
          have n0_ : Aside0 (Kd.R (Kd.int .i64) 3 ((((w61.setCell ⟨gb133,0,none⟩ (.int .i64 ((rd_T65 l0_1 x63_3).f0))).setCell ⟨gb133,1,none⟩ (.int .i64 ((rd_T65 l0_1 x63_3).f1))).setCell ⟨gb133,2,none⟩ (.int .i64 ((rd_T65 l0_1 x63_3).f2))).setCell ⟨gb133,3,none⟩ (.bool ((rd_T65 l0_1 x63_3).f3))) w.heap.size (fun _=>True) v127 x9_3):=⟨by (with_reducible repeat (first | apply Kd.R_alloc | apply Kd.R_drewN | apply Kd.R_drew));exact Kd.R_mono (Kd.R_far (p:=⟨gb133,3,none⟩) (Kd.R_far (p:=⟨gb133,2,none⟩) (Kd.R_far (p:=⟨gb133,1,none⟩) (Kd.R_far (p:=⟨gb133,0,none⟩) (Kd.R_types HO_9.out BK133.out (by decide)) (fun _ hk=>hk.2) (.int .i64 ((rd_T65 l0_1 x63_3).f0))) (fun _ hk=>hk.2) (.int .i64 ((rd_T65 l0_1 x63_3).f1))) (fun _ hk=>hk.2) (.int .i64 ((rd_T65 l0_1 x63_3).f2))) (fun _ hk=>hk.2) (.bool ((rd_T65 l0_1 x63_3).f3))) (fun _ hk=>trivial)⟩
          have n1_ : Aside0 (((((w61.setCell ⟨gb133,0,none⟩ (.int .i64 ((rd_T65 l0_1 x63_3).f0))).setCell ⟨gb133,1,none⟩ (.int .i64 ((rd_T65 l0_1 x63_3).f1))).setCell ⟨gb133,2,none⟩ (.int .i64 ((rd_T65 l0_1 x63_3).f2))).setCell ⟨gb133,3,none⟩ (.bool ((rd_T65 l0_1 x63_3).f3))).heap[gb121]? = some (.cells #[.slice A0_0 l0_0.length c0_0,.slice (some ad132) l0_1.length c0_1] 25 (0,0))):=⟨(blk_far (blk_far (blk_far (blk_far BK121.out NB121_133.out _) NB121_133.out _) NB121_133.out _) NB121_133.out _)⟩
          have n2_ : Aside0 (((((w61.setCell ⟨gb133,0,none⟩ (.int .i64 ((rd_T65 l0_1 x63_3).f0))).setCell ⟨gb133,1,none⟩ (.int .i64 ((rd_T65 l0_1 x63_3).f1))).setCell ⟨gb133,2,none⟩ (.int .i64 ((rd_T65 l0_1 x63_3).f2))).setCell ⟨gb133,3,none⟩ (.bool ((rd_T65 l0_1 x63_3).f3))).heap[gb125]? = some (.cells #[.slice A0_0 l0_0.length c0_0,.slice (some ad132) l0_1.length c0_1,.slice A1 l1.length c1] 80 (0,0))):=⟨(blk_far (blk_far (blk_far (blk_far BK125.out NB125_133.out _) NB125_133.out _) NB125_133.out _) NB125_133.out _)⟩
          have n3_ : Aside0 (((((w61.setCell ⟨gb133,0,none⟩ (.int .i64 ((rd_T65 l0_1 x63_3).f0))).setCell ⟨gb133,1,none⟩ (.int .i64 ((rd_T65 l0_1 x63_3).f1))).setCell ⟨gb133,2,none⟩ (.int .i64 ((rd_T65 l0_1 x63_3).f2))).setCell ⟨gb133,3,none⟩ (.bool ((rd_T65 l0_1 x63_3).f3))).heap[gb133]? = some (.cells #[.int .i64 ((rd_T65 l0_1 x63_3).f0),.int .i64 ((rd_T65 l0_1 x63_3).f1),.int .i64 ((rd_T65 l0_1 x63_3).f2),.bool ((rd_T65 l0_1 x63_3).f3)] 65 (0,0))):=⟨(blk_put (cs:=#[.int .i64 ((rd_T65 l0_1 x63_3).f0),.int .i64 ((rd_T65 l0_1 x63_3).f1),.int .i64 ((rd_T65 l0_1 x63_3).f2),.bool false]) (blk_put (cs:=#[.int .i64 ((rd_T65 l0_1 x63_3).f0),.int .i64 ((rd_T65 l0_1 x63_3).f1),.int .i64 0,.bool false]) (blk_put (cs:=#[.int .i64 ((rd_T65 l0_1 x63_3).f0),.int .i64 0,.int .i64 0,.bool false]) (blk_put (cs:=#[.int .i64 0,.int .i64 0,.int .i64 0,.bool false]) BK133.out 0 _ rfl) 1 _ rfl) 2 _ rfl) 3 _ rfl)⟩
          have n4_ : Aside0 (Below w.heap.size w ((((w61.setCell ⟨gb133,0,none⟩ (.int .i64 ((rd_T65 l0_1 x63_3).f0))).setCell ⟨gb133,1,none⟩ (.int .i64 ((rd_T65 l0_1 x63_3).f1))).setCell ⟨gb133,2,none⟩ (.int .i64 ((rd_T65 l0_1 x63_3).f2))).setCell ⟨gb133,3,none⟩ (.bool ((rd_T65 l0_1 x63_3).f3)))):=⟨by repeat (first | (with_reducible first | exact HB.out | refine below_set ?_ (Aside0.out (by assumption)) | apply below_alloc | apply pw_below_drewN) | exact HB.out)⟩
          (try clear HO_9)
          (try clear BK121)
          (try clear BK125)
          (try clear BK133)
          (try clear HB)
          generalize ((((w61.setCell ⟨gb133,0,none⟩ (.int .i64 ((rd_T65 l0_1 x63_3).f0))).setCell ⟨gb133,1,none⟩ (.int .i64 ((rd_T65 l0_1 x63_3).f1))).setCell ⟨gb133,2,none⟩ (.int .i64 ((rd_T65 l0_1 x63_3).f2))).setCell ⟨gb133,3,none⟩ (.bool ((rd_T65 l0_1 x63_3).f3))) = w65 at n0_ n1_ n2_ n3_ n4_ ⊢
          have HO_9:=n0_
          have BK121:=n1_
          have BK125:=n2_
          have BK133:=n3_
          have HB:=n4_
          clear n0_ n1_ n2_ n3_ n4_
          replace HO_9:=am (Kd.R_drew HO_9.out)
          replace BK121:=am (blk_drew BK121.out)
          replace BK125:=am (blk_drew BK125.out)
          replace BK133:=am (blk_drew BK133.out)
          replace HB:=am (below_drew1 HB.out)
          have p134 : 0≤(x63_3 : Int):=of_decide_eq_true (by assumption)
          have q134 : x63_3 < (l2.length : Int):=of_decide_eq_true (by assumption)
          obtain ⟨ad134,e134,hx134_0⟩:=Kd.at_int HR2.out x63_3 p134 q134
          have hw134_0:=hx134_0
          cases e134
          replace hx134_0:=(HB.out.cell (wbl hx134_0)).trans hx134_0
          replace p134:=eq_true p134
          replace q134:=eq_true q134
          refine start_ (n:=8) (S:=fun w'=>w'.cell? ⟨gb125,0,none⟩ = some (.slice A0_0 l0_0.length c0_0)∧w'.cell? ⟨gb125,1,none⟩ = some (.slice (some ad132) l0_1.length c0_1)∧w'.cell? ⟨gb125,2,none⟩ = some (.slice A1 l1.length c1)∧w'.cell? (ad134.add (x63_3).toNat) = some (.int .i64 (rd l2 x63_3))) (ds:=[]) (ba 8 0) (by kernel_rfl) rfl rfl ⟨(blk_cell BK125.out 0).trans rfl,(blk_cell BK125.out 1).trans rfl,(blk_cell BK125.out 2).trans rfl,((HB.out.cell (wbl hw134_0)).trans hw134_0)⟩ (fun hHeld=>?_);refine with_tabW ga_Feeds.tab13 ga_Feeds.bits13 (fun HT_ HW_=>?_)
          generalize w65.drew = w66 at HO_9 BK121 BK125 BK133 HB hx134_0 hHeld ⊢
          refine pure_ (i:=0) (N:=some 68) (v:=?_) (a':=?_) (ba 8 1) rfl rfl (any_of HT_.out (by kernel_rfl)) (fun _ _ _ h=>h) (Or.inl ⟨by rfl,?_⟩) ?_ ?_
          rotate_left
          ·intro w'
           go_simp
           with_reducible rfl
          rotate_left
          ·simp only [Act.put,NRM]
           rfl
          refine pure_ (i:=1) (N:=some 69) (v:=?_) (a':=?_) (ba 8 3) rfl rfl (any_of HT_.out (by kernel_rfl)) (fun _ _ _ h=>h) (Or.inl ⟨by rfl,?_⟩) ?_ ?_
          rotate_left
          ·intro w'
           go_simp
           with_reducible rfl
          rotate_left
          ·simp only [Act.put,NRM]
           rfl
          refine pure_ (i:=2) (N:=some 70) (v:=?_) (a':=?_) (ba 8 7) rfl rfl (any_of HT_.out (by kernel_rfl)) (fun _ _ _ h=>h) (Or.inl ⟨by rfl,?_⟩) ?_ ?_
          rotate_left
          ·intro w'
           go_simp
           with_reducible rfl
          rotate_left
          ·simp only [Act.put,NRM]
           rfl
          refine pure_ (i:=5) (N:=some 73) (v:=?_) (a':=?_) (ba 8 39) rfl rfl (any_of HT_.out (by kernel_rfl)) (fun _ _ _ h=>h) (Or.inl ⟨by rfl,?_⟩) ?_ ?_
          rotate_left
          ·intro w'
           go_simp
           with_reducible rfl
          rotate_left
          ·simp only [Act.put,NRM]
           rfl
          refine take_ (i:=3) (N:=some 71) (v:=?_) (a':=?_) (ba 8 47) rfl rfl (take_ofW HT_.out HW_.out (by kernel_rfl)) (fun _ _ _ h=>h) (Or.inl ⟨by rfl,?_⟩) hHeld ?_ ?_
          rotate_left
          ·rintro w' ⟨s0,s1,s2,s3⟩
           go_simp
           with_reducible rfl
          rotate_left
          ·simp only [Act.put,NRM]
           rfl
          refine take_ (i:=4) (N:=some 72) (v:=?_) (a':=?_) (ba 8 63) rfl rfl (take_ofW HT_.out HW_.out (by kernel_rfl)) (fun _ _ _ h=>h) (Or.inl ⟨by rfl,?_⟩) hHeld ?_ ?_
          rotate_left
          ·rintro w' ⟨s0,s1,s2,s3⟩
           go_simp
           with_reducible rfl
          rotate_left
          ·simp only [Act.put,NRM]
           rfl
          refine one_ (i:=6) (N:=some 74) (ba 8 127) rfl rfl (one_of HT_.out (by kernel_rfl)) (by decide) (fun K hK=>?_)
          refine goes_ Tryz.func60 (by kernel_rfl) rfl #[.agg #[.slice A0_0 l0_0.length c0_0,.slice (some ad132) l0_1.length c0_1,.slice A1 l1.length c1],.int .i64 x63_3] (by rfl) rfl rfl (by (try simp only [List.map_toArray,List.map_cons,List.map_nil]);first | done | rfl | (simp only [List.length_drop,List.length_take];rfl)) ?_
          with_reducible refine (gs_carries.calls k3 _ _ l0_0 _ _ l0_1 _ _ l1 x63_3 t135 _ ?side1 ?side2 ?side3 ?side4 ?side5 ?side6 A59.out).mono ?_
          (case side1=>exact kC HR0_0.out HB.out)
          (case side2=>exact HC0_0.out)
          (case side3=>exact kC HR0_1.out HB.out)
          (case side4=>exact HC0_1.out)
          (case side5=>exact kC HR1.out HB.out)
          (case side6=>exact HC1.out)
          rintro e w67 ⟨rfl,hb⟩
          refine ⟨_,rfl,?_⟩
          replace HO_9:=am (Kd.R_below HO_9.out hb)
          replace BK121:=(kmv hb BK121)
          replace BK125:=(kmv hb BK125)
          replace BK133:=(kmv hb BK133)
          replace HB:=am (below_step (HB.out) hb)
          (try clear hb)
          (try clear hb2)
          (try clear hk)
          (try clear hi)
          refine hK.out _ _ ⟨(blk_cell BK125.out 0).trans rfl,(blk_cell BK125.out 1).trans rfl,(blk_cell BK125.out 2).trans rfl,((HB.out.cell (wbl hw134_0)).trans hw134_0)⟩ (fun hHeld=>?_)
          clear hK K
          refine norm_ (a':=?_) ?_ ?_
          rotate_left
          ·show Act.put _ (some 74) _ = _
           simp only [Act.put,NRM]
           rfl
          refine pure_ (i:=7) (N:=some 75) (v:=?_) (a':=?_) (ba 8 255) rfl rfl (any_of HT_.out (by kernel_rfl)) (fun _ _ _ h=>h) (Or.inl ⟨by rfl,?_⟩) ?_ ?_
          rotate_left
          ·intro w'
           go_simp
           with_reducible rfl
          rotate_left
          ·simp only [Act.put,NRM]
           rfl
          refine done_ (done_of HT_.out (by kernel_rfl)) ?_
          try go_wp2
          go_ret2
          exact ⟨by first | rfl | (simp [*]<;>rfl),HB.out⟩
         ·rw [if_neg c60] at H
          have c60b0 : decide (t135 < (rd l2 x63_3)) = false:=decide_eq_false c60
          clear c60
          by_cases c68 : 0≤((rd_T65 l0_1 x63_3).f0)
          case neg =>
           rw [if_neg c68] at H
           exact absurd H (by simp)
          rw [if_pos c68] at H
          have c68b0 : decide (0≤((rd_T65 l0_1 x63_3).f0)) = true:=decide_eq_true c68
          clear c68
          by_cases c69 : ((rd_T65 l0_1 x63_3).f0) < (x9_3.length : Int)
          case neg =>
           rw [if_neg c69] at H
           exact absurd H (by simp)
          rw [if_pos c69] at H
          have c69b0 : decide (((rd_T65 l0_1 x63_3).f0) < (x9_3.length : Int)) = true:=decide_eq_true c69
          clear c69
          obtain ⟨y138,hy138⟩ : ∃ y_ : List Int,y_ = (x9_3.set (((rd_T65 l0_1 x63_3).f0) : Int).toNat (wrap64 ((rd x9_3 ((rd_T65 l0_1 x63_3).f0)) - (rd l2 x63_3)))):=⟨_,rfl⟩
          replace H : (if 0≤((rd_T65 l0_1 x63_3).f1) then (if ((rd_T65 l0_1 x63_3).f1) < (x9_3.length : Int) then (ga_Feeds.l1 k3 l2 (y138.set (((rd_T65 l0_1 x63_3).f1) : Int).toNat (wrap64 ((rd y138 ((rd_T65 l0_1 x63_3).f1)) + (rd l2 x63_3)))) l0_1 (l0_1.length : Int) (wrap64 (x63_3 + 1)) l0_0 l0_1 l1) else (none)) else (none)) = some (r1,r2):=by first | (rw [hy138];with_reducible exact H) | (have H2_:=(Option.bind_some _ _).symm.trans H;rw [hy138];with_reducible exact H2_) | (have H2_:=(Option.bind_some _ _).symm.trans H;with_reducible exact H2_) | with_reducible exact H | (rw [hy138];exact H) | exact H
          have Ny138:=am hy138
          clear hy138
          by_cases c71 : 0≤((rd_T65 l0_1 x63_3).f1)
          case neg =>
           rw [if_neg c71] at H
           exact absurd H (by simp)
          rw [if_pos c71] at H
          have c71b0 : decide (0≤((rd_T65 l0_1 x63_3).f1)) = true:=decide_eq_true c71
          clear c71
          by_cases c72 : ((rd_T65 l0_1 x63_3).f1) < (x9_3.length : Int)
          case neg =>
           rw [if_neg c72] at H
           exact absurd H (by simp)
          rw [if_pos c72] at H
          have c72b0 : decide (((rd_T65 l0_1 x63_3).f1) < (x9_3.length : Int)) = true:=decide_eq_true c72
          clear c72
          obtain ⟨y141,hy141⟩ : ∃ y_ : List Int,y_ = (y138.set (((rd_T65 l0_1 x63_3).f1) : Int).toNat (wrap64 ((rd y138 ((rd_T65 l0_1 x63_3).f1)) + (rd l2 x63_3)))):=⟨_,rfl⟩
          replace H : (ga_Feeds.l1 k3 l2 y141 l0_1 (l0_1.length : Int) (wrap64 (x63_3 + 1)) l0_0 l0_1 l1) = some (r1,r2):=by first | (rw [hy141];with_reducible exact H) | (have H2_:=(Option.bind_some _ _).symm.trans H;rw [hy141];with_reducible exact H2_) | (have H2_:=(Option.bind_some _ _).symm.trans H;with_reducible exact H2_) | with_reducible exact H | (rw [hy141];exact H) | exact H
          have Ny141:=am hy141
          clear hy141
          replace H':=am H
          have p132 : 0≤(x63_3 : Int):=of_decide_eq_true (by assumption)
          have q132 : x63_3 < (l0_1.length : Int):=of_decide_eq_true (by assumption)
          obtain ⟨ad132,e132,hx132_0,hx132_1,hx132_2,hx132_3⟩:=at_T65 HR0_1.out x63_3 p132 q132
          cases e132
          replace hx132_0:=(HB.out.cell (wbl hx132_0)).trans hx132_0
          replace hx132_1:=(HB.out.cell (wbl hx132_1)).trans hx132_1
          replace hx132_2:=(HB.out.cell (wbl hx132_2)).trans hx132_2
          replace hx132_3:=(HB.out.cell (wbl hx132_3)).trans hx132_3
          replace p132:=eq_true p132
          replace q132:=eq_true q132
          try go_wp2_with (first | ((refine ga_dst (N:=13) rfl ?_);(try (refine ga_guard (by rfl) ?_;dsimp only));refine box_event rfl (N:=13) rfl (cs:=#[.int .i64 0,.int .i64 0,.int .i64 0,.bool false]) (t:=65) ?hr ?_;(case hr=>go_simp;try rfl);intro gb133 hg w74 hbox hb;have BK133:=am (hbox);have GW133:=am (ge_new (HB.out) hg);have GE133:=am (ge_new (HB.out) hg);have NB121_133:=am (ne_new BK121.out hg);have NB133_121:=am (ne_new2 BK121.out hg);have NB125_133:=am (ne_new BK125.out hg);have NB133_125:=am (ne_new2 BK125.out hg);replace HO_9:=am (Kd.R_below HO_9.out hb);replace BK121:=(kmv hb BK121);replace BK125:=(kmv hb BK125);replace HB:=am (below_step (HB.out) hb);clear hb hbox hg;have hnb75:=NB133_121.out;have hnc75:=NB121_133.out;have hnb76:=NB133_125.out;have hnc76:=NB125_133.out;obtain ⟨hcz77_0,hcz77_1,hcz77_2,hcz77_3⟩:=cO4 BK133.out;have hfz77_0:=blk_frozen BK133.out 0;have hfz77_1:=blk_frozen BK133.out 1;have hfz77_2:=blk_frozen BK133.out 2;have hfz77_3:=blk_frozen BK133.out 3))
          have n0_ : Aside0 (Kd.R (Kd.int .i64) 3 ((((w74.setCell ⟨gb133,0,none⟩ (.int .i64 ((rd_T65 l0_1 x63_3).f0))).setCell ⟨gb133,1,none⟩ (.int .i64 ((rd_T65 l0_1 x63_3).f1))).setCell ⟨gb133,2,none⟩ (.int .i64 ((rd_T65 l0_1 x63_3).f2))).setCell ⟨gb133,3,none⟩ (.bool ((rd_T65 l0_1 x63_3).f3))) w.heap.size (fun _=>True) v127 x9_3):=⟨by (with_reducible repeat (first | apply Kd.R_alloc | apply Kd.R_drewN | apply Kd.R_drew));exact Kd.R_mono (Kd.R_far (p:=⟨gb133,3,none⟩) (Kd.R_far (p:=⟨gb133,2,none⟩) (Kd.R_far (p:=⟨gb133,1,none⟩) (Kd.R_far (p:=⟨gb133,0,none⟩) (Kd.R_types HO_9.out BK133.out (by decide)) (fun _ hk=>hk.2) (.int .i64 ((rd_T65 l0_1 x63_3).f0))) (fun _ hk=>hk.2) (.int .i64 ((rd_T65 l0_1 x63_3).f1))) (fun _ hk=>hk.2) (.int .i64 ((rd_T65 l0_1 x63_3).f2))) (fun _ hk=>hk.2) (.bool ((rd_T65 l0_1 x63_3).f3))) (fun _ hk=>trivial)⟩
          have n1_ : Aside0 (((((w74.setCell ⟨gb133,0,none⟩ (.int .i64 ((rd_T65 l0_1 x63_3).f0))).setCell ⟨gb133,1,none⟩ (.int .i64 ((rd_T65 l0_1 x63_3).f1))).setCell ⟨gb133,2,none⟩ (.int .i64 ((rd_T65 l0_1 x63_3).f2))).setCell ⟨gb133,3,none⟩ (.bool ((rd_T65 l0_1 x63_3).f3))).heap[gb121]? = some (.cells #[.slice A0_0 l0_0.length c0_0,.slice (some ad132) l0_1.length c0_1] 25 (0,0))):=⟨(blk_far (blk_far (blk_far (blk_far BK121.out NB121_133.out _) NB121_133.out _) NB121_133.out _) NB121_133.out _)⟩
          have n2_ : Aside0 (((((w74.setCell ⟨gb133,0,none⟩ (.int .i64 ((rd_T65 l0_1 x63_3).f0))).setCell ⟨gb133,1,none⟩ (.int .i64 ((rd_T65 l0_1 x63_3).f1))).setCell ⟨gb133,2,none⟩ (.int .i64 ((rd_T65 l0_1 x63_3).f2))).setCell ⟨gb133,3,none⟩ (.bool ((rd_T65 l0_1 x63_3).f3))).heap[gb125]? = some (.cells #[.slice A0_0 l0_0.length c0_0,.slice (some ad132) l0_1.length c0_1,.slice A1 l1.length c1] 80 (0,0))):=⟨(blk_far (blk_far (blk_far (blk_far BK125.out NB125_133.out _) NB125_133.out _) NB125_133.out _) NB125_133.out _)⟩
          have n3_ : Aside0 (((((w74.setCell ⟨gb133,0,none⟩ (.int .i64 ((rd_T65 l0_1 x63_3).f0))).setCell ⟨gb133,1,none⟩ (.int .i64 ((rd_T65 l0_1 x63_3).f1))).setCell ⟨gb133,2,none⟩ (.int .i64 ((rd_T65 l0_1 x63_3).f2))).setCell ⟨gb133,3,none⟩ (.bool ((rd_T65 l0_1 x63_3).f3))).heap[gb133]? = some (.cells #[.int .i64 ((rd_T65 l0_1 x63_3).f0),.int .i64 ((rd_T65 l0_1 x63_3).f1),.int .i64 ((rd_T65 l0_1 x63_3).f2),.bool ((rd_T65 l0_1 x63_3).f3)] 65 (0,0))):=⟨(blk_put (cs:=#[.int .i64 ((rd_T65 l0_1 x63_3).f0),.int .i64 ((rd_T65 l0_1 x63_3).f1),.int .i64 ((rd_T65 l0_1 x63_3).f2),.bool false]) (blk_put (cs:=#[.int .i64 ((rd_T65 l0_1 x63_3).f0),.int .i64 ((rd_T65 l0_1 x63_3).f1),.int .i64 0,.bool false]) (blk_put (cs:=#[.int .i64 ((rd_T65 l0_1 x63_3).f0),.int .i64 0,.int .i64 0,.bool false]) (blk_put (cs:=#[.int .i64 0,.int .i64 0,.int .i64 0,.bool false]) BK133.out 0 _ rfl) 1 _ rfl) 2 _ rfl) 3 _ rfl)⟩
          have n4_ : Aside0 (Below w.heap.size w ((((w74.setCell ⟨gb133,0,none⟩ (.int .i64 ((rd_T65 l0_1 x63_3).f0))).setCell ⟨gb133,1,none⟩ (.int .i64 ((rd_T65 l0_1 x63_3).f1))).setCell ⟨gb133,2,none⟩ (.int .i64 ((rd_T65 l0_1 x63_3).f2))).setCell ⟨gb133,3,none⟩ (.bool ((rd_T65 l0_1 x63_3).f3)))):=⟨by repeat (first | (with_reducible first | exact HB.out | refine below_set ?_ (Aside0.out (by assumption)) | apply below_alloc | apply pw_below_drewN) | exact HB.out)⟩
          (try clear HO_9)
          (try clear BK121)
          (try clear BK125)
          (try clear BK133)
          (try clear HB)
          generalize ((((w74.setCell ⟨gb133,0,none⟩ (.int .i64 ((rd_T65 l0_1 x63_3).f0))).setCell ⟨gb133,1,none⟩ (.int .i64 ((rd_T65 l0_1 x63_3).f1))).setCell ⟨gb133,2,none⟩ (.int .i64 ((rd_T65 l0_1 x63_3).f2))).setCell ⟨gb133,3,none⟩ (.bool ((rd_T65 l0_1 x63_3).f3))) = w78 at n0_ n1_ n2_ n3_ n4_ ⊢
          have HO_9:=n0_
          have BK121:=n1_
          have BK125:=n2_
          have BK133:=n3_
          have HB:=n4_
          clear n0_ n1_ n2_ n3_ n4_
          replace HO_9:=am (Kd.R_drew HO_9.out)
          replace BK121:=am (blk_drew BK121.out)
          replace BK125:=am (blk_drew BK125.out)
          replace BK133:=am (blk_drew BK133.out)
          replace HB:=am (below_drew1 HB.out)
          have p134 : 0≤(x63_3 : Int):=of_decide_eq_true (by assumption)
          have q134 : x63_3 < (l2.length : Int):=of_decide_eq_true (by assumption)
          obtain ⟨ad134,e134,hx134_0⟩:=Kd.at_int HR2.out x63_3 p134 q134
          have hw134_0:=hx134_0
          cases e134
          replace hx134_0:=(HB.out.cell (wbl hx134_0)).trans hx134_0
          replace p134:=eq_true p134
          replace q134:=eq_true q134
          refine start_ (n:=8) (S:=fun w'=>w'.cell? ⟨gb125,0,none⟩ = some (.slice A0_0 l0_0.length c0_0)∧w'.cell? ⟨gb125,1,none⟩ = some (.slice (some ad132) l0_1.length c0_1)∧w'.cell? ⟨gb125,2,none⟩ = some (.slice A1 l1.length c1)∧w'.cell? (ad134.add (x63_3).toNat) = some (.int .i64 (rd l2 x63_3))) (ds:=[]) (ba 8 0) (by kernel_rfl) rfl rfl ⟨(blk_cell BK125.out 0).trans rfl,(blk_cell BK125.out 1).trans rfl,(blk_cell BK125.out 2).trans rfl,((HB.out.cell (wbl hw134_0)).trans hw134_0)⟩ (fun hHeld=>?_);refine with_tabW ga_Feeds.tab13 ga_Feeds.bits13 (fun HT_ HW_=>?_)
          generalize w78.drew = w79 at HO_9 BK121 BK125 BK133 HB hx134_0 hHeld ⊢
          refine pure_ (i:=0) (N:=some 68) (v:=?_) (a':=?_) (ba 8 1) rfl rfl (any_of HT_.out (by kernel_rfl)) (fun _ _ _ h=>h) (Or.inl ⟨by rfl,?_⟩) ?_ ?_
          rotate_left
          ·intro w'
           go_simp
           with_reducible rfl
          rotate_left
          ·simp only [Act.put,NRM]
           rfl
          refine pure_ (i:=1) (N:=some 69) (v:=?_) (a':=?_) (ba 8 3) rfl rfl (any_of HT_.out (by kernel_rfl)) (fun _ _ _ h=>h) (Or.inl ⟨by rfl,?_⟩) ?_ ?_
          rotate_left
          ·intro w'
           go_simp
           with_reducible rfl
          rotate_left
          ·simp only [Act.put,NRM]
           rfl
          refine pure_ (i:=2) (N:=some 70) (v:=?_) (a':=?_) (ba 8 7) rfl rfl (any_of HT_.out (by kernel_rfl)) (fun _ _ _ h=>h) (Or.inl ⟨by rfl,?_⟩) ?_ ?_
          rotate_left
          ·intro w'
           go_simp
           with_reducible rfl
          rotate_left
          ·simp only [Act.put,NRM]
           rfl
          refine pure_ (i:=5) (N:=some 73) (v:=?_) (a':=?_) (ba 8 39) rfl rfl (any_of HT_.out (by kernel_rfl)) (fun _ _ _ h=>h) (Or.inl ⟨by rfl,?_⟩) ?_ ?_
          rotate_left
          ·intro w'
           go_simp
           with_reducible rfl
          rotate_left
          ·simp only [Act.put,NRM]
           rfl
          refine take_ (i:=3) (N:=some 71) (v:=?_) (a':=?_) (ba 8 47) rfl rfl (take_ofW HT_.out HW_.out (by kernel_rfl)) (fun _ _ _ h=>h) (Or.inl ⟨by rfl,?_⟩) hHeld ?_ ?_
          rotate_left
          ·rintro w' ⟨s0,s1,s2,s3⟩
           go_simp
           with_reducible rfl
          rotate_left
          ·simp only [Act.put,NRM]
           rfl
          refine take_ (i:=4) (N:=some 72) (v:=?_) (a':=?_) (ba 8 63) rfl rfl (take_ofW HT_.out HW_.out (by kernel_rfl)) (fun _ _ _ h=>h) (Or.inl ⟨by rfl,?_⟩) hHeld ?_ ?_
          rotate_left
          ·rintro w' ⟨s0,s1,s2,s3⟩
           go_simp
           with_reducible rfl
          rotate_left
          ·simp only [Act.put,NRM]
           rfl
          refine one_ (i:=6) (N:=some 74) (ba 8 127) rfl rfl (one_of HT_.out (by kernel_rfl)) (by decide) (fun K hK=>?_)
          refine goes_ Tryz.func60 (by kernel_rfl) rfl #[.agg #[.slice A0_0 l0_0.length c0_0,.slice (some ad132) l0_1.length c0_1,.slice A1 l1.length c1],.int .i64 x63_3] (by rfl) rfl rfl (by (try simp only [List.map_toArray,List.map_cons,List.map_nil]);first | done | rfl | (simp only [List.length_drop,List.length_take];rfl)) ?_
          with_reducible refine (gs_carries.calls k3 _ _ l0_0 _ _ l0_1 _ _ l1 x63_3 t135 _ ?side1 ?side2 ?side3 ?side4 ?side5 ?side6 A59.out).mono ?_
          (case side1=>exact kC HR0_0.out HB.out)
          (case side2=>exact HC0_0.out)
          (case side3=>exact kC HR0_1.out HB.out)
          (case side4=>exact HC0_1.out)
          (case side5=>exact kC HR1.out HB.out)
          (case side6=>exact HC1.out)
          rintro e w80 ⟨rfl,hb⟩
          refine ⟨_,rfl,?_⟩
          replace HO_9:=am (Kd.R_below HO_9.out hb)
          replace BK121:=(kmv hb BK121)
          replace BK125:=(kmv hb BK125)
          replace BK133:=(kmv hb BK133)
          replace HB:=am (below_step (HB.out) hb)
          (try clear hb)
          (try clear hb2)
          (try clear hk)
          (try clear hi)
          refine hK.out _ _ ⟨(blk_cell BK125.out 0).trans rfl,(blk_cell BK125.out 1).trans rfl,(blk_cell BK125.out 2).trans rfl,((HB.out.cell (wbl hw134_0)).trans hw134_0)⟩ (fun hHeld=>?_)
          clear hK K
          refine norm_ (a':=?_) ?_ ?_
          rotate_left
          ·show Act.put _ (some 74) _ = _
           simp only [Act.put,NRM]
           rfl
          refine pure_ (i:=7) (N:=some 75) (v:=?_) (a':=?_) (ba 8 255) rfl rfl (any_of HT_.out (by kernel_rfl)) (fun _ _ _ h=>h) (Or.inl ⟨by rfl,?_⟩) ?_ ?_
          rotate_left
          ·intro w'
           go_simp
           with_reducible rfl
          rotate_left
          ·simp only [Act.put,NRM]
           rfl
          refine done_ (done_of HT_.out (by kernel_rfl)) ?_
          try go_wp2
          replace HO_9:=am (Kd.R_drew HO_9.out)
          replace BK121:=am (blk_drew BK121.out)
          replace BK125:=am (blk_drew BK125.out)
          replace BK133:=am (blk_drew BK133.out)
          replace HB:=am (below_drew1 HB.out)
          obtain ⟨Ao82,co82,eo82⟩:=Kd.R_slice HO_9.out
          (first | subst eo82 | (injection eo82 with f1_ f2_ f3_;have f4_:=f1_.symm;have f5_:=f3_.symm;clear f1_ f2_ f3_;subst f4_;subst f5_))
          have p136 : 0≤(((rd_T65 l0_1 x63_3).f0) : Int):=of_decide_eq_true (by assumption)
          have q136 : ((rd_T65 l0_1 x63_3).f0) < (x9_3.length : Int):=of_decide_eq_true (by assumption)
          obtain ⟨ad136,e136,hx136_0⟩:=Kd.at_int (Kd.R_reads' HO_9.out).2.2 ((rd_T65 l0_1 x63_3).f0) p136 q136
          cases e136
          replace p136:=eq_true p136
          replace q136:=eq_true q136
          have p137 : 0≤(x63_3 : Int):=of_decide_eq_true (by assumption)
          have q137 : x63_3 < (l2.length : Int):=of_decide_eq_true (by assumption)
          obtain ⟨ad137,e137,hx137_0⟩:=Kd.at_int HR2.out x63_3 p137 q137
          have hw137_0:=hx137_0
          obtain rfl : ad134 = ad137:=(by injection e137)
          replace hx137_0:=(HB.out.cell (wbl hx137_0)).trans hx137_0
          replace p137:=eq_true p137
          replace q137:=eq_true q137
          have p70 : 0≤(((rd_T65 l0_1 x63_3).f0) : Int):=of_decide_eq_true (by assumption)
          have q70 : (((rd_T65 l0_1 x63_3).f0) : Int) < ((x9_3.length : Int) : Int):=of_decide_eq_true (by assumption)
          obtain ⟨go70,co70,eo70,gb70,gl70,cl70,HG70⟩:=Kd.R_form HO_9.out (by omega)
          (first | cases eo70 | (injection eo70 with ea_ en_ ec_;(first | subst ea_ | (injection ea_ with ea_;subst ea_));subst ec_;clear en_))
          have GB70:=am gb70
          have GG70:=am HG70
          clear gb70 gl70 HG70
          (first | simp only [add_plain] at hx136_0 | skip)
          obtain ⟨hx70_0,hf70_0⟩:=Kd.R_celln 0 HO_9.out (((rd_T65 l0_1 x63_3).f0) : Int) p70 q70
          replace p70:=eq_true p70
          replace q70:=eq_true q70
          have HP83:=Kd.R_putn HO_9.out (((rd_T65 l0_1 x63_3).f0) : Int) (wrap64 ((rd x9_3 ((rd_T65 l0_1 x63_3).f0)) - (rd l2 x63_3)))
          rw [← Ny138.out] at HP83
          have HQ83:=am HP83
          clear HP83
          refine start_ (n:=12) (S:=fun w'=>w'.cell? ⟨gb133,0,none⟩ = some (.int .i64 ((rd_T65 l0_1 x63_3).f0))∧w'.cell? ⟨gb133,1,none⟩ = some (.int .i64 ((rd_T65 l0_1 x63_3).f1))∧w'.cell? ⟨gb133,2,none⟩ = some (.int .i64 ((rd_T65 l0_1 x63_3).f2))∧w'.cell? ⟨gb133,3,none⟩ = some (.bool ((rd_T65 l0_1 x63_3).f3))∧w'.cell? (⟨go70,((rd_T65 l0_1 x63_3).f0).toNat,none⟩) = some (.int .i64 (rd x9_3 ((rd_T65 l0_1 x63_3).f0)))∧w'.cell? (ad134.add (x63_3).toNat) = some (.int .i64 (rd l2 x63_3))) (ds:=[11]) (ba 12 0) (by kernel_rfl) rfl rfl ⟨(blk_cell BK133.out 0).trans rfl,(blk_cell BK133.out 1).trans rfl,(blk_cell BK133.out 2).trans rfl,(blk_cell BK133.out 3).trans rfl,hx136_0,((HB.out.cell (wbl hw137_0)).trans hw137_0)⟩ (fun hHeld=>?_);refine with_tabW ga_Feeds.tab15 ga_Feeds.bits15 (fun HT_ HW_=>?_)
          generalize w80.drew = w81 at HO_9 BK121 BK125 BK133 HB GG70 HQ83 hf70_0 hx136_0 hx137_0 hx70_0 hHeld ⊢
          refine pure_ (i:=0) (N:=some 76) (v:=?_) (a':=?_) (ba 12 1) rfl rfl (any_of HT_.out (by kernel_rfl)) (fun _ _ _ h=>h) (Or.inl ⟨by rfl,?_⟩) ?_ ?_
          rotate_left
          ·intro w'
           go_simp
           with_reducible rfl
          rotate_left
          ·simp only [Act.put,NRM]
           rfl
          refine pure_ (i:=1) (N:=some 77) (v:=?_) (a':=?_) (ba 12 3) rfl rfl (any_of HT_.out (by kernel_rfl)) (fun _ _ _ h=>h) (Or.inl ⟨by rfl,?_⟩) ?_ ?_
          rotate_left
          ·intro w'
           go_simp
           with_reducible rfl
          rotate_left
          ·simp only [Act.put,NRM]
           rfl
          refine pure_ (i:=5) (N:=some 81) (v:=?_) (a':=?_) (ba 12 35) rfl rfl (any_of HT_.out (by kernel_rfl)) (fun _ _ _ h=>h) (Or.inl ⟨by rfl,?_⟩) ?_ ?_
          rotate_left
          ·intro w'
           go_simp
           with_reducible rfl
          rotate_left
          ·simp only [Act.put,NRM]
           rfl
          refine pure_ (i:=6) (N:=some 82) (v:=?_) (a':=?_) (ba 12 99) rfl rfl (any_of HT_.out (by kernel_rfl)) (fun _ _ _ h=>h) (Or.inl ⟨by rfl,?_⟩) ?_ ?_
          rotate_left
          ·intro w'
           go_simp
           with_reducible rfl
          rotate_left
          ·simp only [Act.put,NRM]
           rfl
          refine pure_ (i:=7) (N:=some 83) (v:=?_) (a':=?_) (ba 12 227) rfl rfl (any_of HT_.out (by kernel_rfl)) (fun _ _ _ h=>h) (Or.inl ⟨by rfl,?_⟩) ?_ ?_
          rotate_left
          ·intro w'
           go_simp
           with_reducible rfl
          rotate_left
          ·simp only [Act.put,NRM]
           rfl
          refine take_ (i:=2) (N:=some 78) (v:=?_) (a':=?_) (ba 12 231) rfl rfl (take_ofW HT_.out HW_.out (by kernel_rfl)) (fun _ _ _ h=>h) (Or.inl ⟨by rfl,?_⟩) hHeld ?_ ?_
          rotate_left
          ·rintro w' ⟨s0,s1,s2,s3,s4,s5⟩
           go_simp
           with_reducible rfl
          rotate_left
          ·simp only [Act.put,NRM]
           rfl
          refine pure_ (i:=3) (N:=some 79) (v:=?_) (a':=?_) (ba 12 239) rfl rfl (any_of HT_.out (by kernel_rfl)) (fun _ _ _ h=>h) (Or.inl ⟨by rfl,?_⟩) ?_ ?_
          rotate_left
          ·intro w'
           go_simp
           with_reducible rfl
          rotate_left
          ·simp only [Act.put,NRM]
           rfl
          refine take_ (i:=4) (N:=some 80) (v:=?_) (a':=?_) (ba 12 255) rfl rfl (take_ofW HT_.out HW_.out (by kernel_rfl)) (fun _ _ _ h=>h) (Or.inl ⟨by rfl,?_⟩) hHeld ?_ ?_
          rotate_left
          ·rintro w' ⟨s0,s1,s2,s3,s4,s5⟩
           go_simp
           with_reducible rfl
          rotate_left
          ·simp only [Act.put,NRM]
           rfl
          refine take_ (i:=8) (N:=some 84) (v:=?_) (a':=?_) (ba 12 511) rfl rfl (take_ofW HT_.out HW_.out (by kernel_rfl)) (fun _ _ _ h=>h) (Or.inl ⟨by rfl,?_⟩) hHeld ?_ ?_
          rotate_left
          ·rintro w' ⟨s0,s1,s2,s3,s4,s5⟩
           go_simp
           with_reducible rfl
          rotate_left
          ·simp only [Act.put,NRM]
           rfl
          refine pure_ (i:=9) (N:=some 85) (v:=?_) (a':=?_) (ba 12 1023) rfl rfl (any_of HT_.out (by kernel_rfl)) (fun _ _ _ h=>h) (Or.inl ⟨by rfl,?_⟩) ?_ ?_
          rotate_left
          ·intro w'
           go_simp
           with_reducible rfl
          rotate_left
          ·simp only [Act.put,NRM]
           rfl
          refine pure_ (i:=10) (N:=some 86) (v:=?_) (a':=?_) (ba 12 2047) rfl rfl (any_of HT_.out (by kernel_rfl)) (fun _ _ _ h=>h) (Or.inl ⟨by rfl,?_⟩) ?_ ?_
          rotate_left
          ·intro w'
           go_simp
           with_reducible rfl
          rotate_left
          ·simp only [Act.put,NRM]
           rfl
          refine last_ (i:=11) (N:=none) (ba 12 4095) rfl rfl (one_of HT_.out (by kernel_rfl)) (by decide) (fun K hK=>?_)
          refine skip_ (w1:=?_) (by rfl) rfl ?_ ?_
          rotate_left
          ·go_simp
           rfl
          refine hK.out _ _ ?_
          clear hK K
          refine done_ (done_of HT_.out (by kernel_rfl)) ?_
          try go_wp2
          have n0_ : Aside0 (Kd.R (Kd.int .i64) 3 (w81.setCell ⟨go70,(((rd_T65 l0_1 x63_3).f0) : Int).toNat,none⟩ (.int .i64 (wrap64 ((rd x9_3 ((rd_T65 l0_1 x63_3).f0)) - (rd l2 x63_3))))) w.heap.size (fun _=>True) (.slice (some ⟨go70,0,none⟩) x9_3.length co82) y138):=⟨by (with_reducible repeat (first | apply Kd.R_alloc | apply Kd.R_drewN | apply Kd.R_drew));exact HQ83.out⟩
          have n1_ : Aside0 ((w81.setCell ⟨go70,(((rd_T65 l0_1 x63_3).f0) : Int).toNat,none⟩ (.int .i64 (wrap64 ((rd x9_3 ((rd_T65 l0_1 x63_3).f0)) - (rd l2 x63_3))))).heap[gb121]? = some (.cells #[.slice A0_0 l0_0.length c0_0,.slice (some ad132) l0_1.length c0_1] 25 (0,0))):=⟨(blk_far BK121.out (by have h_:=Kd.R_ne HO_9.out BK121.out (by decide);intro e_;exact h_ (by rw [e_];rfl)) _)⟩
          have n2_ : Aside0 ((w81.setCell ⟨go70,(((rd_T65 l0_1 x63_3).f0) : Int).toNat,none⟩ (.int .i64 (wrap64 ((rd x9_3 ((rd_T65 l0_1 x63_3).f0)) - (rd l2 x63_3))))).heap[gb125]? = some (.cells #[.slice A0_0 l0_0.length c0_0,.slice (some ad132) l0_1.length c0_1,.slice A1 l1.length c1] 80 (0,0))):=⟨(blk_far BK125.out (by have h_:=Kd.R_ne HO_9.out BK125.out (by decide);intro e_;exact h_ (by rw [e_];rfl)) _)⟩
          have n3_ : Aside0 ((w81.setCell ⟨go70,(((rd_T65 l0_1 x63_3).f0) : Int).toNat,none⟩ (.int .i64 (wrap64 ((rd x9_3 ((rd_T65 l0_1 x63_3).f0)) - (rd l2 x63_3))))).heap[gb133]? = some (.cells #[.int .i64 ((rd_T65 l0_1 x63_3).f0),.int .i64 ((rd_T65 l0_1 x63_3).f1),.int .i64 ((rd_T65 l0_1 x63_3).f2),.bool ((rd_T65 l0_1 x63_3).f3)] 65 (0,0))):=⟨(blk_far BK133.out (by have h_:=Kd.R_ne HO_9.out BK133.out (by decide);intro e_;exact h_ (by rw [e_];rfl)) _)⟩
          have n4_ : Aside0 (Below w.heap.size w (w81.setCell ⟨go70,(((rd_T65 l0_1 x63_3).f0) : Int).toNat,none⟩ (.int .i64 (wrap64 ((rd x9_3 ((rd_T65 l0_1 x63_3).f0)) - (rd l2 x63_3)))))):=⟨by repeat (first | (with_reducible first | exact HB.out | refine below_set ?_ (Aside0.out (by assumption)) | apply below_alloc | apply pw_below_drewN) | exact HB.out)⟩
          (try clear HO_9)
          (try clear BK121)
          (try clear BK125)
          (try clear BK133)
          (try clear HB)
          generalize (w81.setCell ⟨go70,(((rd_T65 l0_1 x63_3).f0) : Int).toNat,none⟩ (.int .i64 (wrap64 ((rd x9_3 ((rd_T65 l0_1 x63_3).f0)) - (rd l2 x63_3))))) = w84 at n0_ n1_ n2_ n3_ n4_ ⊢
          have HO_9:=n0_
          have BK121:=n1_
          have BK125:=n2_
          have BK133:=n3_
          have HB:=n4_
          clear n0_ n1_ n2_ n3_ n4_
          replace HO_9:=am (Kd.R_drew HO_9.out)
          replace BK121:=am (blk_drew BK121.out)
          replace BK125:=am (blk_drew BK125.out)
          replace BK133:=am (blk_drew BK133.out)
          replace HB:=am (below_drew1 HB.out)
          have p139 : 0≤(((rd_T65 l0_1 x63_3).f1) : Int):=of_decide_eq_true (by assumption)
          have q139 : ((rd_T65 l0_1 x63_3).f1) < (y138.length : Int):=(by have h_ : (((rd_T65 l0_1 x63_3).f1) : Int) < ((x9_3.length : Int) : Int):=of_decide_eq_true (by assumption);first | (have e_:=(Kd.R_reads' HO_9.out).1;omega) | simpa only [Ny138.out,List.length_set] using h_)
          have ql139 : ((((rd_T65 l0_1 x63_3).f1) : Int) < ((x9_3.length : Int) : Int)) = True:=eq_true (of_decide_eq_true (by assumption))
          obtain ⟨ad139,e139,hx139_0⟩:=Kd.at_int (Kd.R_reads' HO_9.out).2.2 ((rd_T65 l0_1 x63_3).f1) p139 q139
          obtain rfl : (⟨go70,0,none⟩ : Addr) = ad139:=(by injection e139)
          (first | simp only [add_plain] at hx139_0 | simp only [add_at] at hx139_0 | simp only [Addr.add,Nat.zero_add] at hx139_0 | skip)
          replace p139:=eq_true p139
          replace q139:=eq_true q139
          have p140 : 0≤(x63_3 : Int):=of_decide_eq_true (by assumption)
          have q140 : x63_3 < (l2.length : Int):=of_decide_eq_true (by assumption)
          obtain ⟨ad140,e140,hx140_0⟩:=Kd.at_int HR2.out x63_3 p140 q140
          have hw140_0:=hx140_0
          obtain rfl : ad134 = ad140:=(by injection e140)
          replace hx140_0:=(HB.out.cell (wbl hx140_0)).trans hx140_0
          replace p140:=eq_true p140
          replace q140:=eq_true q140
          have p73 : 0≤(((rd_T65 l0_1 x63_3).f1) : Int):=of_decide_eq_true (by assumption)
          have q73 : (((rd_T65 l0_1 x63_3).f1) : Int) < ((x9_3.length : Int) : Int):=of_decide_eq_true (by assumption)
          obtain ⟨hx73_0,hf73_0⟩:=Kd.R_celln 0 HO_9.out (((rd_T65 l0_1 x63_3).f1) : Int) p73 q73
          replace p73:=eq_true p73
          replace q73:=eq_true q73
          have HP86:=Kd.R_putn HO_9.out (((rd_T65 l0_1 x63_3).f1) : Int) (wrap64 ((rd y138 ((rd_T65 l0_1 x63_3).f1)) + (rd l2 x63_3)))
          rw [← Ny141.out] at HP86
          have HQ86:=am HP86
          clear HP86
          refine start_ (n:=12) (S:=fun w'=>w'.cell? ⟨gb133,0,none⟩ = some (.int .i64 ((rd_T65 l0_1 x63_3).f0))∧w'.cell? ⟨gb133,1,none⟩ = some (.int .i64 ((rd_T65 l0_1 x63_3).f1))∧w'.cell? ⟨gb133,2,none⟩ = some (.int .i64 ((rd_T65 l0_1 x63_3).f2))∧w'.cell? ⟨gb133,3,none⟩ = some (.bool ((rd_T65 l0_1 x63_3).f3))∧w'.cell? ⟨go70,(((rd_T65 l0_1 x63_3).f1)).toNat,none⟩ = some (.int .i64 (rd y138 ((rd_T65 l0_1 x63_3).f1)))∧w'.cell? (ad134.add (x63_3).toNat) = some (.int .i64 (rd l2 x63_3))) (ds:=[11]) (ba 12 0) (by kernel_rfl) rfl rfl ⟨(blk_cell BK133.out 0).trans rfl,(blk_cell BK133.out 1).trans rfl,(blk_cell BK133.out 2).trans rfl,(blk_cell BK133.out 3).trans rfl,hx139_0,((HB.out.cell (wbl hw140_0)).trans hw140_0)⟩ (fun hHeld=>?_);refine with_tabW ga_Feeds.tab16 ga_Feeds.bits16 (fun HT_ HW_=>?_)
          generalize w84.drew = w85 at HO_9 BK121 BK125 BK133 HB HQ83 HQ86 hf73_0 hx139_0 hx140_0 hx73_0 hHeld ⊢
          refine pure_ (i:=0) (N:=some 87) (v:=?_) (a':=?_) (ba 12 1) rfl rfl (any_of HT_.out (by kernel_rfl)) (fun _ _ _ h=>h) (Or.inl ⟨by rfl,?_⟩) ?_ ?_
          rotate_left
          ·intro w'
           go_simp
           with_reducible rfl
          rotate_left
          ·simp only [Act.put,NRM]
           rfl
          refine pure_ (i:=1) (N:=some 88) (v:=?_) (a':=?_) (ba 12 3) rfl rfl (any_of HT_.out (by kernel_rfl)) (fun _ _ _ h=>h) (Or.inl ⟨by rfl,?_⟩) ?_ ?_
          rotate_left
          ·intro w'
           go_simp
           with_reducible rfl
          rotate_left
          ·simp only [Act.put,NRM]
           rfl
          refine pure_ (i:=5) (N:=some 92) (v:=?_) (a':=?_) (ba 12 35) rfl rfl (any_of HT_.out (by kernel_rfl)) (fun _ _ _ h=>h) (Or.inl ⟨by rfl,?_⟩) ?_ ?_
          rotate_left
          ·intro w'
           go_simp
           with_reducible rfl
          rotate_left
          ·simp only [Act.put,NRM]
           rfl
          refine pure_ (i:=6) (N:=some 93) (v:=?_) (a':=?_) (ba 12 99) rfl rfl (any_of HT_.out (by kernel_rfl)) (fun _ _ _ h=>h) (Or.inl ⟨by rfl,?_⟩) ?_ ?_
          rotate_left
          ·intro w'
           go_simp
           with_reducible rfl
          rotate_left
          ·simp only [Act.put,NRM]
           rfl
          refine pure_ (i:=7) (N:=some 94) (v:=?_) (a':=?_) (ba 12 227) rfl rfl (any_of HT_.out (by kernel_rfl)) (fun _ _ _ h=>h) (Or.inl ⟨by rfl,?_⟩) ?_ ?_
          rotate_left
          ·intro w'
           go_simp
           with_reducible rfl
          rotate_left
          ·simp only [Act.put,NRM]
           rfl
          refine take_ (i:=2) (N:=some 89) (v:=?_) (a':=?_) (ba 12 231) rfl rfl (take_ofW HT_.out HW_.out (by kernel_rfl)) (fun _ _ _ h=>h) (Or.inl ⟨by rfl,?_⟩) hHeld ?_ ?_
          rotate_left
          ·rintro w' ⟨s0,s1,s2,s3,s4,s5⟩
           go_simp
           with_reducible rfl
          rotate_left
          ·simp only [Act.put,NRM]
           rfl
          refine pure_ (i:=3) (N:=some 90) (v:=?_) (a':=?_) (ba 12 239) rfl rfl (any_of HT_.out (by kernel_rfl)) (fun _ _ _ h=>h) (Or.inl ⟨by rfl,?_⟩) ?_ ?_
          rotate_left
          ·intro w'
           go_simp
           with_reducible rfl
          rotate_left
          ·simp only [Act.put,NRM]
           rfl
          refine take_ (i:=4) (N:=some 91) (v:=?_) (a':=?_) (ba 12 255) rfl rfl (take_ofW HT_.out HW_.out (by kernel_rfl)) (fun _ _ _ h=>h) (Or.inl ⟨by rfl,?_⟩) hHeld ?_ ?_
          rotate_left
          ·rintro w' ⟨s0,s1,s2,s3,s4,s5⟩
           go_simp
           with_reducible rfl
          rotate_left
          ·simp only [Act.put,NRM]
           rfl
          refine take_ (i:=8) (N:=some 95) (v:=?_) (a':=?_) (ba 12 511) rfl rfl (take_ofW HT_.out HW_.out (by kernel_rfl)) (fun _ _ _ h=>h) (Or.inl ⟨by rfl,?_⟩) hHeld ?_ ?_
          rotate_left
          ·rintro w' ⟨s0,s1,s2,s3,s4,s5⟩
           go_simp
           with_reducible rfl
          rotate_left
          ·simp only [Act.put,NRM]
           rfl
          refine pure_ (i:=9) (N:=some 96) (v:=?_) (a':=?_) (ba 12 1023) rfl rfl (any_of HT_.out (by kernel_rfl)) (fun _ _ _ h=>h) (Or.inl ⟨by rfl,?_⟩) ?_ ?_
          rotate_left
          ·intro w'
           go_simp
           with_reducible rfl
          rotate_left
          ·simp only [Act.put,NRM]
           rfl
          refine pure_ (i:=10) (N:=some 97) (v:=?_) (a':=?_) (ba 12 2047) rfl rfl (any_of HT_.out (by kernel_rfl)) (fun _ _ _ h=>h) (Or.inl ⟨by rfl,?_⟩) ?_ ?_
          rotate_left
          ·intro w'
           go_simp
           with_reducible rfl
          rotate_left
          ·simp only [Act.put,NRM]
           rfl
          refine last_ (i:=11) (N:=none) (ba 12 4095) rfl rfl (one_of HT_.out (by kernel_rfl)) (by decide) (fun K hK=>?_)
          refine skip_ (w1:=?_) (by rfl) rfl ?_ ?_
          rotate_left
          ·go_simp
           rfl
          refine hK.out _ _ ?_
          clear hK K
          refine done_ (done_of HT_.out (by kernel_rfl)) ?_
          try go_wp2
          go_roundg k3
          case measure=>have:=HJ3.out;have:=HK2.out;have:=HK3.out;omega
          case rel=>exact ⟨(y141),(wrap64 (x63_3 + 1)),(by first | rfl | (simp;done) | (simp [*];done)),H',⟨by have:=HJ3.out;have:=HK2.out;have:=HK3.out;omega⟩,⟨by (with_reducible repeat (first | apply Kd.R_alloc | apply Kd.R_drewN | apply Kd.R_drew));exact HQ86.out⟩,⟨(blk_far BK121.out (by have h_:=Kd.R_ne HO_9.out BK121.out (by decide);intro e_;exact h_ (by rw [e_];rfl)) _)⟩,⟨(blk_far BK125.out (by have h_:=Kd.R_ne HO_9.out BK125.out (by decide);intro e_;exact h_ (by rw [e_];rfl)) _)⟩,⟨by repeat (first | (with_reducible first | exact HB.out | refine below_set ?_ (Aside0.out (by assumption)) | apply below_alloc | apply pw_below_drewN) | exact HB.out)⟩⟩
end Go.Proofs.YtclkbedbocnpkaaGreatDoor.C

-- Written by a program of our own (wip/tools/xprint.py) for this claim; Lean checks it.
import Derived.Test.YtlpjooijkeadbaaPHx0
import Derived.Test.YtlpjooijkeadbaaPHx3
import Derived.Test.YtlpjooijkeadbaaPHx4
import Derived.Test.YtlpjooijkeadbaaPHx5
import Derived.Test.YtlpjooijkeadbaaPHx7
import Derived.Test.YtlpjooijkeadbaaPHx8
import Derived.Test.YtlpjooijkeadbaaPHx9
import Derived.Test.YtlpjooijkeadbaaPHx12
import Derived.Test.YtlpjooijkeadbaaPHx14
import Derived.Test.YtlpjooijkeadbaaPHx15
import Derived.Test.YtlpjooijkeadbaaPHx16
import Derived.Test.YtlpjooijkeadbaaKC
namespace Go.Proofs.Ytlpjooijkeadbaa.PH
open Go.RowKit Go.Proofs.YtlpjooijkeadbaaK Go.Proofs.YtlpjooijkeadbaaW.PrintWords Go.Proofs.YtlpjooijkeadbaaW.PrintLast Go.Proofs.YtlpjooijkeadbaaW.PrintMore
attribute [local go_sem] max2_int min2_int max_two min_two max_three min_three max_four min_four   -- for this text's walks alone
set_option linter.unusedVariables false
set_option linter.unusedSimpArgs false

attribute [local go_sem high] eqA28
set_option maxHeartbeats 8000000 in
set_option maxRecDepth 100000 in
theorem laws_FnSnailsHidden.r8 (k : Nat) (A0 : Option Addr) (c0 : Nat) (l0 : List Int) (A1 : Option Addr) (c1 : Nat) (l1 : List Int) (r : Bool) (w : World) (t762 t763 : Int) (t768 t773 : Bool) (nd gb1 gb2 gb3 : Nat) (u62 u63 u64 u65 u66 u67 u68 u69 u70 u71 u72 u73 u74 u75 u76 u77 u78 u79 u80 u81 u82 u83 u84 u85 u86 u87 u88 u89 u90 u91 u92 u93 u94 : Value) (kj7 : Nat) (HJ7 : Aside0 (kj7 + 1 ≤ k)) (u12 u13 u14 u15 u16 u17 u18 u19 u20 u21 u23 u24 u25 u95 u96 u97 u98 u99 u100 u101 u102 u103 u104 u105 u106 u107 u108 u109 u110 u111 u112 u113 u114 u115 u116 u117 u118 u119 u120 u121 u122 u123 u124 u125 u126 u127 u128 u129 u130 u131 u132 u133 u134 u135 u136 u137 u138 u139 u140 u141 u142 u143 u144 u145 u146 u147 u148 u149 u150 u151 u152 u153 u154 u155 u156 u157 u158 u159 u160 u161 u162 u163 u164 u165 u166 u167 u168 u169 u170 u171 u172 u173 u174 u175 u176 u177 u178 u179 u180 u181 u182 u183 u184 u185 u186 u187 u188 u189 u190 u191 u192 u193 u194 u195 u196 u197 : Value) (kj31 : Nat) (HJ31 : Aside0 (kj31 + 1 ≤ kj7)) (t798 t803 t805 t806 : Bool) (gb5 gb6 gb7 : Nat) (u198 u199 u200 u201 u202 u203 u204 u205 u206 u207 u208 u209 u210 u211 u212 u213 u214 u215 u216 u217 u218 u219 u220 u221 u222 u223 u224 u225 u226 u227 u228 u229 u230 u231 u232 : Value) (kj168 : Nat) (HJ168 : Aside0 (kj168 + 1 ≤ kj31)) (u4 u33 u34 u35 u36 u37 u38 u233 u234 u235 u236 u237 u238 u239 u240 u241 u242 u243 u244 u245 u246 u247 u248 u249 u250 u251 u252 u253 u254 u255 u256 u257 u258 u259 u260 u261 u262 u263 u264 u265 u266 u267 u268 u269 u270 u271 u272 u273 u274 u275 u276 u277 u278 u279 : Value) (kj207 : Nat) (HJ207 : Aside0 (kj207 + 1 ≤ kj168)) (t821 : List S28) (t824 t825 t826 : Int) (t829 : List S28) (t832 : Bool) (t834 : List S28) (t837 : Bool) (t839 : List S28) (t842 : Int) (t844 : List S28) (t847 : Bool) (t849 : List S28) (t852 : Bool) (t854 t855 t856 t857 t858 : Int) (t861 t862 t863 t864 : Bool) (t865 t866 t867 : Int) (HC296 : Aside0 ((if ((t829, t832).snd != (t834, t837).snd) = true then j6 kj207 (t829, t832).snd (t839, t842).snd (t844, t847).snd true (t821, t824, t825, t826).fst (t821, t824, t825, t826).snd.fst (t821, t824, t825, t826).snd.snd.fst (t821, t824, t825, t826).snd.snd.snd (t829, t832).fst (t839, t842).fst (t844, t847).fst else (laws_qClues.f kj207 (t829, t832).fst (t834, t837).fst).bind fun t869 => if t869 = true then if ((t844, t847).snd != (t849, t852).snd) = true then j6 kj207 (t829, t832).snd (t839, t842).snd (t844, t847).snd true (t821, t824, t825, t826).fst (t821, t824, t825, t826).snd.fst (t821, t824, t825, t826).snd.snd.fst (t821, t824, t825, t826).snd.snd.snd (t829, t832).fst (t839, t842).fst (t844, t847).fst else (laws_qClues.f kj207 (t844, t847).fst (t849, t852).fst).bind fun t870 => if t870 = true then if ((t861, t862).snd != (t863, t864).snd) = true then j6 kj207 (t829, t832).snd (t839, t842).snd (t844, t847).snd true (t821, t824, t825, t826).fst (t821, t824, t825, t826).snd.fst (t821, t824, t825, t826).snd.snd.fst (t821, t824, t825, t826).snd.snd.snd (t829, t832).fst (t839, t842).fst (t844, t847).fst else if ((t861, t862).fst != (t863, t864).fst) = true then j6 kj207 (t829, t832).snd (t839, t842).snd (t844, t847).snd true (t821, t824, t825, t826).fst (t821, t824, t825, t826).snd.fst (t821, t824, t825, t826).snd.snd.fst (t821, t824, t825, t826).snd.snd.snd (t829, t832).fst (t839, t842).fst (t844, t847).fst else (impl_IsClue.f (t865, t866, t867).fst (t865, t866, t867).snd.fst (t865, t866, t867).snd.snd).bind fun t871 => (spec_IsClue.f (t865, t866, t867).fst (t865, t866, t867).snd.fst (t865, t866, t867).snd.snd).bind fun t872 => if (t871 != t872) = true then j6 kj207 (t829, t832).snd (t839, t842).snd (t844, t847).snd true (t821, t824, t825, t826).fst (t821, t824, t825, t826).snd.fst (t821, t824, t825, t826).snd.snd.fst (t821, t824, t825, t826).snd.snd.snd (t829, t832).fst (t839, t842).fst (t844, t847).fst else if (t861, t862).snd = true then (impl_IsClue.f (t854, t855, t856, t857, t858).fst (t854, t855, t856, t857, t858).snd.fst (t854, t855, t856, t857, t858).snd.snd.fst).bind fun t873 => j6 kj207 (t829, t832).snd (t839, t842).snd (t844, t847).snd (!t873) (t821, t824, t825, t826).fst (t821, t824, t825, t826).snd.fst (t821, t824, t825, t826).snd.snd.fst (t821, t824, t825, t826).snd.snd.snd (t829, t832).fst (t839, t842).fst (t844, t847).fst else j6 kj207 (t829, t832).snd (t839, t842).snd (t844, t847).snd false (t821, t824, t825, t826).fst (t821, t824, t825, t826).snd.fst (t821, t824, t825, t826).snd.snd.fst (t821, t824, t825, t826).snd.snd.snd (t829, t832).fst (t839, t842).fst (t844, t847).fst else j6 kj207 (t829, t832).snd (t839, t842).snd (t844, t847).snd true (t821, t824, t825, t826).fst (t821, t824, t825, t826).snd.fst (t821, t824, t825, t826).snd.snd.fst (t821, t824, t825, t826).snd.snd.snd (t829, t832).fst (t839, t842).fst (t844, t847).fst else j6 kj207 (t829, t832).snd (t839, t842).snd (t844, t847).snd true (t821, t824, t825, t826).fst (t821, t824, t825, t826).snd.fst (t821, t824, t825, t826).snd.snd.fst (t821, t824, t825, t826).snd.snd.snd (t829, t832).fst (t839, t842).fst (t844, t847).fst) = some r)) (Qz1 : Exit → Act → World → Prop) (hQz1 : Qz1 = bodyPost Try.prog Try.f4 fun e w' => e = Ending.returned (Value.bool r) ∧ Below w.heap.size w w') (gb8 : Nat) (GW8 : Aside0 (w.heap.size ≤ gb8)) (GE8 : Aside0 (w.heap.size ≤ gb8)) (gb9 : Nat) (GW9 : Aside0 (w.heap.size ≤ gb9)) (GE9 : Aside0 (w.heap.size ≤ gb9)) (NB8_9 : Aside0 (gb8 ≠ gb9)) (NB9_8 : Aside0 (gb9 ≠ gb8)) (Ao300 : Option Addr) (co300 gb10 : Nat) (GW10 : Aside0 (w.heap.size ≤ gb10)) (GE10 : Aside0 (w.heap.size ≤ gb10)) (NB8_10 : Aside0 (gb8 ≠ gb10)) (NB10_8 : Aside0 (gb10 ≠ gb8)) (NB9_10 : Aside0 (gb9 ≠ gb10)) (NB10_9 : Aside0 (gb10 ≠ gb9)) (Ao306 : Option Addr) (co306 gb11 : Nat) (GW11 : Aside0 (w.heap.size ≤ gb11)) (GE11 : Aside0 (w.heap.size ≤ gb11)) (NB8_11 : Aside0 (gb8 ≠ gb11)) (NB11_8 : Aside0 (gb11 ≠ gb8)) (NB9_11 : Aside0 (gb9 ≠ gb11)) (NB11_9 : Aside0 (gb11 ≠ gb9)) (NB10_11 : Aside0 (gb10 ≠ gb11)) (NB11_10 : Aside0 (gb11 ≠ gb10)) (Ao314 : Option Addr) (co314 gb12 : Nat) (GW12 : Aside0 (w.heap.size ≤ gb12)) (GE12 : Aside0 (w.heap.size ≤ gb12)) (NB8_12 : Aside0 (gb8 ≠ gb12)) (NB12_8 : Aside0 (gb12 ≠ gb8)) (NB9_12 : Aside0 (gb9 ≠ gb12)) (NB12_9 : Aside0 (gb12 ≠ gb9)) (NB10_12 : Aside0 (gb10 ≠ gb12)) (NB12_10 : Aside0 (gb12 ≠ gb10)) (NB11_12 : Aside0 (gb11 ≠ gb12)) (NB12_11 : Aside0 (gb12 ≠ gb11)) (Ao321 : Option Addr) (co321 gb13 : Nat) (GW13 : Aside0 (w.heap.size ≤ gb13)) (GE13 : Aside0 (w.heap.size ≤ gb13)) (NB8_13 : Aside0 (gb8 ≠ gb13)) (NB13_8 : Aside0 (gb13 ≠ gb8)) (NB9_13 : Aside0 (gb9 ≠ gb13)) (NB13_9 : Aside0 (gb13 ≠ gb9)) (NB10_13 : Aside0 (gb10 ≠ gb13)) (NB13_10 : Aside0 (gb13 ≠ gb10)) (NB11_13 : Aside0 (gb11 ≠ gb13)) (NB13_11 : Aside0 (gb13 ≠ gb11)) (NB12_13 : Aside0 (gb12 ≠ gb13)) (NB13_12 : Aside0 (gb13 ≠ gb12)) (Ao329 : Option Addr) (co329 gb14 : Nat) (GW14 : Aside0 (w.heap.size ≤ gb14)) (GE14 : Aside0 (w.heap.size ≤ gb14)) (NB8_14 : Aside0 (gb8 ≠ gb14)) (NB14_8 : Aside0 (gb14 ≠ gb8)) (NB9_14 : Aside0 (gb9 ≠ gb14)) (NB14_9 : Aside0 (gb14 ≠ gb9)) (NB10_14 : Aside0 (gb10 ≠ gb14)) (NB14_10 : Aside0 (gb14 ≠ gb10)) (NB11_14 : Aside0 (gb11 ≠ gb14)) (NB14_11 : Aside0 (gb14 ≠ gb11)) (NB12_14 : Aside0 (gb12 ≠ gb14)) (NB14_12 : Aside0 (gb14 ≠ gb12)) (NB13_14 : Aside0 (gb13 ≠ gb14)) (NB14_13 : Aside0 (gb14 ≠ gb13)) (Ao339 : Option Addr) (co339 gb15 : Nat) (GW15 : Aside0 (w.heap.size ≤ gb15)) (GE15 : Aside0 (w.heap.size ≤ gb15)) (NB8_15 : Aside0 (gb8 ≠ gb15)) (NB15_8 : Aside0 (gb15 ≠ gb8)) (NB9_15 : Aside0 (gb9 ≠ gb15)) (NB15_9 : Aside0 (gb15 ≠ gb9)) (NB10_15 : Aside0 (gb10 ≠ gb15)) (NB15_10 : Aside0 (gb15 ≠ gb10)) (NB11_15 : Aside0 (gb11 ≠ gb15)) (NB15_11 : Aside0 (gb15 ≠ gb11)) (NB12_15 : Aside0 (gb12 ≠ gb15)) (NB15_12 : Aside0 (gb15 ≠ gb12)) (NB13_15 : Aside0 (gb13 ≠ gb15)) (NB15_13 : Aside0 (gb15 ≠ gb13)) (NB14_15 : Aside0 (gb14 ≠ gb15)) (NB15_14 : Aside0 (gb15 ≠ gb14)) (gb16 : Nat) (GW16 : Aside0 (w.heap.size ≤ gb16)) (GE16 : Aside0 (w.heap.size ≤ gb16)) (NB8_16 : Aside0 (gb8 ≠ gb16)) (NB16_8 : Aside0 (gb16 ≠ gb8)) (NB9_16 : Aside0 (gb9 ≠ gb16)) (NB16_9 : Aside0 (gb16 ≠ gb9)) (NB10_16 : Aside0 (gb10 ≠ gb16)) (NB16_10 : Aside0 (gb16 ≠ gb10)) (NB11_16 : Aside0 (gb11 ≠ gb16)) (NB16_11 : Aside0 (gb16 ≠ gb11)) (NB12_16 : Aside0 (gb12 ≠ gb16)) (NB16_12 : Aside0 (gb16 ≠ gb12)) (NB13_16 : Aside0 (gb13 ≠ gb16)) (NB16_13 : Aside0 (gb16 ≠ gb13)) (NB14_16 : Aside0 (gb14 ≠ gb16)) (NB16_14 : Aside0 (gb16 ≠ gb14)) (NB15_16 : Aside0 (gb15 ≠ gb16)) (NB16_15 : Aside0 (gb16 ≠ gb15)) (gb17 : Nat) (w372 : World) (BK17 : Aside0 (w372.heap[gb17]? = some (Obj.cells #[Value.int IntKind.i64 0, Value.int IntKind.i64 0, Value.int IntKind.i64 0] 28))) (GW17 : Aside0 (w.heap.size ≤ gb17)) (GE17 : Aside0 (w.heap.size ≤ gb17)) (HB : Aside0 (Below w.heap.size w w372)) (HO823 : Aside0 (k28.R 28 w372 w.heap.size (fun k => (((((((True ∧ k ≠ gb9) ∧ some k ≠ (Value.slice Ao306 t829.length co306).ownBlock) ∧ some k ≠ (Value.slice Ao314 t834.length co314).ownBlock) ∧ some k ≠ (Value.slice Ao321 t839.length co321).ownBlock) ∧ some k ≠ (Value.slice Ao329 t844.length co329).ownBlock) ∧ some k ≠ (Value.slice Ao339 t849.length co339).ownBlock) ∧ k ≠ gb15) ∧ k ≠ gb17) (Value.slice Ao300 t821.length co300) t821)) (HO831 : Aside0 (k28.R 28 w372 w.heap.size (fun k => (((((((True ∧ some k ≠ (Value.slice Ao300 t821.length co300).ownBlock) ∧ k ≠ gb9) ∧ some k ≠ (Value.slice Ao314 t834.length co314).ownBlock) ∧ some k ≠ (Value.slice Ao321 t839.length co321).ownBlock) ∧ some k ≠ (Value.slice Ao329 t844.length co329).ownBlock) ∧ some k ≠ (Value.slice Ao339 t849.length co339).ownBlock) ∧ k ≠ gb15) ∧ k ≠ gb17) (Value.slice Ao306 t829.length co306) t829)) (HO836 : Aside0 (k28.R 28 w372 w.heap.size (fun k => (((((((True ∧ some k ≠ (Value.slice Ao300 t821.length co300).ownBlock) ∧ some k ≠ (Value.slice Ao306 t829.length co306).ownBlock) ∧ k ≠ gb9) ∧ some k ≠ (Value.slice Ao321 t839.length co321).ownBlock) ∧ some k ≠ (Value.slice Ao329 t844.length co329).ownBlock) ∧ some k ≠ (Value.slice Ao339 t849.length co339).ownBlock) ∧ k ≠ gb15) ∧ k ≠ gb17) (Value.slice Ao314 t834.length co314) t834)) (HO841 : Aside0 (k28.R 28 w372 w.heap.size (fun k => (((((((True ∧ some k ≠ (Value.slice Ao300 t821.length co300).ownBlock) ∧ some k ≠ (Value.slice Ao306 t829.length co306).ownBlock) ∧ some k ≠ (Value.slice Ao314 t834.length co314).ownBlock) ∧ k ≠ gb9) ∧ some k ≠ (Value.slice Ao329 t844.length co329).ownBlock) ∧ some k ≠ (Value.slice Ao339 t849.length co339).ownBlock) ∧ k ≠ gb15) ∧ k ≠ gb17) (Value.slice Ao321 t839.length co321) t839)) (HO846 : Aside0 (k28.R 28 w372 w.heap.size (fun k => (((((((True ∧ some k ≠ (Value.slice Ao300 t821.length co300).ownBlock) ∧ some k ≠ (Value.slice Ao306 t829.length co306).ownBlock) ∧ some k ≠ (Value.slice Ao314 t834.length co314).ownBlock) ∧ some k ≠ (Value.slice Ao321 t839.length co321).ownBlock) ∧ k ≠ gb9) ∧ some k ≠ (Value.slice Ao339 t849.length co339).ownBlock) ∧ k ≠ gb15) ∧ k ≠ gb17) (Value.slice Ao329 t844.length co329) t844)) (HO851 : Aside0 (k28.R 28 w372 w.heap.size (fun k => (((((((True ∧ some k ≠ (Value.slice Ao300 t821.length co300).ownBlock) ∧ some k ≠ (Value.slice Ao306 t829.length co306).ownBlock) ∧ some k ≠ (Value.slice Ao314 t834.length co314).ownBlock) ∧ some k ≠ (Value.slice Ao321 t839.length co321).ownBlock) ∧ some k ≠ (Value.slice Ao329 t844.length co329).ownBlock) ∧ k ≠ gb9) ∧ k ≠ gb15) ∧ k ≠ gb17) (Value.slice Ao339 t849.length co339) t849)) (NB8_17 : Aside0 (gb8 ≠ gb17)) (NB17_8 : Aside0 (gb17 ≠ gb8)) (NB9_17 : Aside0 (gb9 ≠ gb17)) (NB17_9 : Aside0 (gb17 ≠ gb9)) (NB10_17 : Aside0 (gb10 ≠ gb17)) (NB17_10 : Aside0 (gb17 ≠ gb10)) (NB11_17 : Aside0 (gb11 ≠ gb17)) (NB17_11 : Aside0 (gb17 ≠ gb11)) (NB12_17 : Aside0 (gb12 ≠ gb17)) (NB17_12 : Aside0 (gb17 ≠ gb12)) (NB13_17 : Aside0 (gb13 ≠ gb17)) (NB17_13 : Aside0 (gb17 ≠ gb13)) (NB14_17 : Aside0 (gb14 ≠ gb17)) (NB17_14 : Aside0 (gb17 ≠ gb14)) (NB15_17 : Aside0 (gb15 ≠ gb17)) (NB17_15 : Aside0 (gb17 ≠ gb15)) (BK8 : Aside0 (w372.heap[gb8]? = some (Obj.cells #[Value.slice Ao300 t821.length co300] 26))) (BK9 : Aside0 (w372.heap[gb9]? = some (Obj.cells #[Value.int IntKind.i64 t824, Value.int IntKind.i64 t825, Value.int IntKind.i64 t826] 28))) (BK10 : Aside0 (w372.heap[gb10]? = some (Obj.cells #[Value.slice Ao306 t829.length co306] 26))) (BK11 : Aside0 (w372.heap[gb11]? = some (Obj.cells #[Value.slice Ao314 t834.length co314] 26))) (BK12 : Aside0 (w372.heap[gb12]? = some (Obj.cells #[Value.slice Ao321 t839.length co321] 26))) (BK13 : Aside0 (w372.heap[gb13]? = some (Obj.cells #[Value.slice Ao329 t844.length co329] 26))) (BK14 : Aside0 (w372.heap[gb14]? = some (Obj.cells #[Value.slice Ao339 t849.length co339] 26))) (BK15 : Aside0 (w372.heap[gb15]? = some (Obj.cells #[Value.int IntKind.i64 t854, Value.int IntKind.i64 t855, Value.int IntKind.i64 t856] 28))) (NB16_17 : Aside0 (gb16 ≠ gb17)) (NB17_16 : Aside0 (gb17 ≠ gb16)) (BK16 : Aside0 (w372.heap[gb16]? = some (Obj.cells #[Value.int IntKind.i64 t857, Value.int IntKind.i64 t858] 23))) (Kz2 : Act → World → Prop) (az3 : ∀ (a : Act) (w : World), Code.wp Try.prog (cAt [1, 1, 1, 1, 1, 1, 1, 1, 1, 1, 1, 1, 1, 1, 1, 1, 1, 1, 1, 1, 1, 1, 1, 1] Try.f4) Qz1 a w → Kz2 a w) (Kz4 : Act → World → Prop) (az5 : ∀ (a : Act) (w : World), Code.wp Try.prog (cAt [1, 1, 1, 1, 1, 1, 1, 1, 1, 1, 1, 1, 1, 1, 1, 1, 1, 1, 1, 1, 1, 1, 1, 0, 1] Try.f4) (Exit.then Kz2 Qz1) a w → Kz4 a w) (Jz6 : Act → World → Prop) (Kz7 : Act → World → Prop) (az8 : ∀ (a' : Act) (w' : World), (∃ u280 u281 u282 u283 u284 u285 u286 u287 u288 u289 u290 u291 u292 u293 u294 u295 u296 u297 u298 u299 u300 u301 u302 u303 u304 u305 u306 u307 u308 u309 u310 u311 u312 u313 u314 u315 u316 u317 u318 u319 u320 u321 u322 u323 u324 u325 u326 u327 u328 u329 u330 u331 u332 u333 u334 u335 u336 u337 u338 u339 u340 u341 u342 u343 u344 u345 u346 u347 u348 u349 u350 u351 u352 u353 u354 u355 u356 u357 u358 u359 u360 u361 u362 u363 u364 u365 u366 u367 u368 u369 u370 u371 u372 u373 u374 u375 u376 u377 u378 u379 u380 u381, (∃ kq x381_295, u381 = Value.bool x381_295 ∧ Aside0 (j6 kq t832 t842 t847 x381_295 t821 t824 t825 t826 t829 t839 t844 = some r) ∧ Aside0 (kq ≤ kj207) ∧ Aside0 (k28.R 28 w' w.heap.size (fun k_ => some k_ ≠ (Value.slice Ao306 t829.length co306).ownBlock ∧ some k_ ≠ (Value.slice Ao321 t839.length co321).ownBlock ∧ some k_ ≠ (Value.slice Ao329 t844.length co329).ownBlock ∧ k_ ≠ gb9) (Value.slice Ao300 t821.length co300) t821) ∧ Aside0 (k28.R 28 w' w.heap.size (fun k_ => some k_ ≠ (Value.slice Ao300 t821.length co300).ownBlock ∧ some k_ ≠ (Value.slice Ao321 t839.length co321).ownBlock ∧ some k_ ≠ (Value.slice Ao329 t844.length co329).ownBlock ∧ k_ ≠ gb9) (Value.slice Ao306 t829.length co306) t829) ∧ Aside0 (k28.R 28 w' w.heap.size (fun k_ => some k_ ≠ (Value.slice Ao300 t821.length co300).ownBlock ∧ some k_ ≠ (Value.slice Ao306 t829.length co306).ownBlock ∧ some k_ ≠ (Value.slice Ao329 t844.length co329).ownBlock ∧ k_ ≠ gb9) (Value.slice Ao321 t839.length co321) t839) ∧ Aside0 (k28.R 28 w' w.heap.size (fun k_ => some k_ ≠ (Value.slice Ao300 t821.length co300).ownBlock ∧ some k_ ≠ (Value.slice Ao306 t829.length co306).ownBlock ∧ some k_ ≠ (Value.slice Ao321 t839.length co321).ownBlock ∧ k_ ≠ gb9) (Value.slice Ao329 t844.length co329) t844) ∧ Aside0 (w'.heap[gb8]? = some (Obj.cells #[Value.slice Ao300 t821.length co300] 26)) ∧ Aside0 (w'.heap[gb9]? = some (Obj.cells #[Value.int IntKind.i64 t824, Value.int IntKind.i64 t825, Value.int IntKind.i64 t826] 28)) ∧ Aside0 (w'.heap[gb10]? = some (Obj.cells #[Value.slice Ao306 t829.length co306] 26)) ∧ Aside0 (w'.heap[gb12]? = some (Obj.cells #[Value.slice Ao321 t839.length co321] 26)) ∧ Aside0 (w'.heap[gb13]? = some (Obj.cells #[Value.slice Ao329 t844.length co329] 26)) ∧ Aside0 (Below w.heap.size w w')) ∧ a' = { tmps := #[Value.slice A0 l0.length c0, Value.slice A1 l1.length c1, undef, undef, u4, Value.pointer (some { block := gb1, off := 0 }), Value.int IntKind.i64 t762, Value.int IntKind.i64 t763, Value.pointer (some { block := gb2, off := 0 }), Value.bool t768, Value.pointer (some { block := gb3, off := 0 }), Value.bool t773, u12, u13, u14, u15, u16, u17, u18, u19, u20, u21, undef, u23, u24, u25, Value.pointer (some { block := gb5, off := 0 }), Value.pointer (some { block := gb6, off := 0 }), Value.bool t798, Value.pointer (some { block := gb7, off := 0 }), Value.bool t803, Value.bool t805, Value.bool t806, u33, u34, u35, u36, u37, u38, Value.pointer (some { block := gb8, off := 0 }), Value.pointer (some { block := gb9, off := 0 }), Value.pointer (some { block := gb10, off := 0 }), Value.bool t832, Value.pointer (some { block := gb11, off := 0 }), Value.bool t837, Value.pointer (some { block := gb12, off := 0 }), Value.int IntKind.i64 t842, Value.pointer (some { block := gb13, off := 0 }), Value.bool t847, Value.pointer (some { block := gb14, off := 0 }), Value.bool t852, Value.pointer (some { block := gb15, off := 0 }), Value.pointer (some { block := gb16, off := 0 }), Value.bool t861, Value.bool t862, Value.bool t863, Value.bool t864, Value.pointer (some { block := gb17, off := 0 }), undef, undef, undef, undef, u62, u63, u64, u65, u66, u67, u68, u69, u70, u71, u72, u73, u74, u75, u76, u77, u78, u79, u80, u81, u82, u83, u84, u85, u86, u87, u88, u89, u90, u91, u92, u93, u94, u95, u96, u97, u98, u99, u100, u101, u102, u103, u104, u105, u106, u107, u108, u109, u110, u111, u112, u113, u114, u115, u116, u117, u118, u119, u120, u121, u122, u123, u124, u125, u126, u127, u128, u129, u130, u131, u132, u133, u134, u135, u136, u137, u138, u139, u140, u141, u142, u143, u144, u145, u146, u147, u148, u149, u150, u151, u152, u153, u154, u155, u156, u157, u158, u159, u160, u161, u162, u163, u164, u165, u166, u167, u168, u169, u170, u171, u172, u173, u174, u175, u176, u177, u178, u179, u180, u181, u182, u183, u184, u185, u186, u187, u188, u189, u190, u191, u192, u193, u194, u195, u196, u197, u198, u199, u200, u201, u202, u203, u204, u205, u206, u207, u208, u209, u210, u211, u212, u213, u214, u215, u216, u217, u218, u219, u220, u221, u222, u223, u224, u225, u226, u227, u228, u229, u230, u231, u232, u233, u234, u235, u236, u237, u238, u239, u240, u241, u242, u243, u244, u245, u246, u247, u248, u249, u250, u251, u252, u253, u254, u255, u256, u257, u258, u259, u260, u261, u262, u263, u264, u265, u266, u267, u268, u269, u270, u271, u272, u273, u274, u275, u276, u277, u278, u279, u280, u281, u282, u283, u284, u285, u286, u287, u288, u289, u290, u291, u292, u293, u294, u295, u296, u297, u298, u299, u300, u301, u302, u303, u304, u305, u306, u307, u308, u309, u310, u311, u312, u313, u314, u315, u316, u317, u318, u319, u320, u321, u322, u323, u324, u325, u326, u327, u328, u329, u330, u331, u332, u333, u334, u335, u336, u337, u338, u339, u340, u341, u342, u343, u344, u345, u346, u347, u348, u349, u350, u351, u352, u353, u354, u355, u356, u357, u358, u359, u360, u361, u362, u363, u364, u365, u366, u367, u368, u369, u370, u371, u372, u373, u374, u375, u376, u377, u378, u379, u380, u381, undef, undef, undef, undef, undef, undef, undef, undef, undef, undef, undef, undef, undef, undef, undef, undef, undef, undef, undef, undef, undef, undef, undef, undef, undef, undef, undef, undef, undef, undef, undef, undef, undef, undef, undef, undef, undef, undef, undef, undef, undef, undef, undef, undef, undef, undef, undef, undef, undef, undef, undef, undef, undef, undef, undef, undef, undef], defers := [] }) → Jz6 a' w') (az9 : ∀ (a' : Act) (w' : World), Met Jz6 a' w' → Kz7 a' w') :
    Code.wp Try.prog (cAt [1, 1, 1, 1, 1, 1, 1, 1, 1, 1, 1, 1, 1, 1, 1, 1, 1, 1, 1, 1, 1, 1, 1, 0, 0] Try.f4) (Exit.then Kz7 (Exit.then Kz2 Qz1)) { tmps := #[Value.slice A0 l0.length c0, Value.slice A1 l1.length c1, undef, undef, u4, Value.pointer (some { block := gb1, off := 0 }), Value.int IntKind.i64 t762, Value.int IntKind.i64 t763, Value.pointer (some { block := gb2, off := 0 }), Value.bool t768, Value.pointer (some { block := gb3, off := 0 }), Value.bool t773, u12, u13, u14, u15, u16, u17, u18, u19, u20, u21, undef, u23, u24, u25, Value.pointer (some { block := gb5, off := 0 }), Value.pointer (some { block := gb6, off := 0 }), Value.bool t798, Value.pointer (some { block := gb7, off := 0 }), Value.bool t803, Value.bool t805, Value.bool t806, u33, u34, u35, u36, u37, u38, Value.pointer (some { block := gb8, off := 0 }), Value.pointer (some { block := gb9, off := 0 }), Value.pointer (some { block := gb10, off := 0 }), Value.bool t832, Value.pointer (some { block := gb11, off := 0 }), Value.bool t837, Value.pointer (some { block := gb12, off := 0 }), Value.int IntKind.i64 t842, Value.pointer (some { block := gb13, off := 0 }), Value.bool t847, Value.pointer (some { block := gb14, off := 0 }), Value.bool t852, Value.pointer (some { block := gb15, off := 0 }), Value.pointer (some { block := gb16, off := 0 }), Value.bool t861, Value.bool t862, Value.bool t863, Value.bool t864, Value.pointer (some { block := gb17, off := 0 }), undef, undef, undef, undef, u62, u63, u64, u65, u66, u67, u68, u69, u70, u71, u72, u73, u74, u75, u76, u77, u78, u79, u80, u81, u82, u83, u84, u85, u86, u87, u88, u89, u90, u91, u92, u93, u94, u95, u96, u97, u98, u99, u100, u101, u102, u103, u104, u105, u106, u107, u108, u109, u110, u111, u112, u113, u114, u115, u116, u117, u118, u119, u120, u121, u122, u123, u124, u125, u126, u127, u128, u129, u130, u131, u132, u133, u134, u135, u136, u137, u138, u139, u140, u141, u142, u143, u144, u145, u146, u147, u148, u149, u150, u151, u152, u153, u154, u155, u156, u157, u158, u159, u160, u161, u162, u163, u164, u165, u166, u167, u168, u169, u170, u171, u172, u173, u174, u175, u176, u177, u178, u179, u180, u181, u182, u183, u184, u185, u186, u187, u188, u189, u190, u191, u192, u193, u194, u195, u196, u197, u198, u199, u200, u201, u202, u203, u204, u205, u206, u207, u208, u209, u210, u211, u212, u213, u214, u215, u216, u217, u218, u219, u220, u221, u222, u223, u224, u225, u226, u227, u228, u229, u230, u231, u232, u233, u234, u235, u236, u237, u238, u239, u240, u241, u242, u243, u244, u245, u246, u247, u248, u249, u250, u251, u252, u253, u254, u255, u256, u257, u258, u259, u260, u261, u262, u263, u264, u265, u266, u267, u268, u269, u270, u271, u272, u273, u274, u275, u276, u277, u278, u279, Value.tuple #[Value.agg #[Value.slice Ao300 t821.length co300], Value.agg #[Value.int IntKind.i64 t824, Value.int IntKind.i64 t825, Value.int IntKind.i64 t826]], Value.slice A1 l1.length c1, Value.tuple #[Value.agg #[Value.slice Ao300 t821.length co300], Value.agg #[Value.int IntKind.i64 t824, Value.int IntKind.i64 t825, Value.int IntKind.i64 t826]], Value.agg #[Value.slice Ao300 t821.length co300], Value.agg #[Value.int IntKind.i64 t824, Value.int IntKind.i64 t825, Value.int IntKind.i64 t826], Value.tuple #[Value.agg #[Value.slice Ao306 t829.length co306], Value.bool t832], Value.agg #[Value.slice Ao300 t821.length co300], Value.agg #[Value.int IntKind.i64 t824, Value.int IntKind.i64 t825, Value.int IntKind.i64 t826], Value.tuple #[Value.agg #[Value.slice Ao306 t829.length co306], Value.bool t832], Value.agg #[Value.slice Ao306 t829.length co306], Value.bool t832, Value.tuple #[Value.agg #[Value.slice Ao314 t834.length co314], Value.bool t837], Value.agg #[Value.slice Ao300 t821.length co300], Value.agg #[Value.int IntKind.i64 t824, Value.int IntKind.i64 t825, Value.int IntKind.i64 t826], Value.tuple #[Value.agg #[Value.slice Ao314 t834.length co314], Value.bool t837], Value.agg #[Value.slice Ao314 t834.length co314], Value.bool t837, Value.tuple #[Value.agg #[Value.slice Ao321 t839.length co321], Value.int IntKind.i64 t842], Value.slice A1 l1.length c1, Value.tuple #[Value.agg #[Value.slice Ao321 t839.length co321], Value.int IntKind.i64 t842], Value.agg #[Value.slice Ao321 t839.length co321], Value.int IntKind.i64 t842, Value.tuple #[Value.agg #[Value.slice Ao329 t844.length co329], Value.bool t847], Value.agg #[Value.slice Ao321 t839.length co321], Value.int IntKind.i64 t842, Value.tuple #[Value.agg #[Value.slice Ao329 t844.length co329], Value.bool t847], Value.agg #[Value.slice Ao329 t844.length co329], Value.bool t847, Value.tuple #[Value.agg #[Value.slice Ao339 t849.length co339], Value.bool t852], Value.agg #[Value.slice Ao321 t839.length co321], Value.int IntKind.i64 t842, Value.tuple #[Value.agg #[Value.slice Ao339 t849.length co339], Value.bool t852], Value.agg #[Value.slice Ao339 t849.length co339], Value.bool t852, Value.tuple #[Value.agg #[Value.int IntKind.i64 t854, Value.int IntKind.i64 t855, Value.int IntKind.i64 t856], Value.agg #[Value.int IntKind.i64 t857, Value.int IntKind.i64 t858]], Value.slice A1 l1.length c1, Value.tuple #[Value.agg #[Value.int IntKind.i64 t854, Value.int IntKind.i64 t855, Value.int IntKind.i64 t856], Value.agg #[Value.int IntKind.i64 t857, Value.int IntKind.i64 t858]], Value.agg #[Value.int IntKind.i64 t854, Value.int IntKind.i64 t855, Value.int IntKind.i64 t856], Value.agg #[Value.int IntKind.i64 t857, Value.int IntKind.i64 t858], Value.tuple #[Value.bool t861, Value.bool t862], Value.agg #[Value.int IntKind.i64 t854, Value.int IntKind.i64 t855, Value.int IntKind.i64 t856], Value.agg #[Value.int IntKind.i64 t857, Value.int IntKind.i64 t858], Value.tuple #[Value.bool t861, Value.bool t862], Value.bool t861, Value.bool t862, Value.tuple #[Value.bool t863, Value.bool t864], Value.agg #[Value.int IntKind.i64 t854, Value.int IntKind.i64 t855, Value.int IntKind.i64 t856], Value.agg #[Value.int IntKind.i64 t857, Value.int IntKind.i64 t858], Value.tuple #[Value.bool t863, Value.bool t864], Value.bool t863, Value.bool t864, Value.slice A1 l1.length c1, Value.agg #[Value.int IntKind.i64 t865, Value.int IntKind.i64 t866, Value.int IntKind.i64 t867], undef, undef, undef, undef, undef, undef, undef, undef, undef, undef, undef, undef, undef, undef, undef, undef, undef, undef, undef, undef, undef, undef, undef, undef, undef, undef, undef, undef, undef, undef, undef, undef, undef, undef, undef, undef, undef, undef, undef, undef, undef, undef, undef, undef, undef, undef, undef, undef, undef, undef, undef, undef, undef, undef, undef, undef, undef, undef, undef, undef, undef, undef, undef, undef, undef, undef, undef, undef, undef, undef, undef, undef, undef, undef, undef, undef, undef, undef, undef, undef, undef, undef, undef, undef, undef, undef, undef, undef, undef, undef, undef, undef, undef, undef, undef, undef, undef, undef, undef, undef, undef, undef, undef, undef, undef, undef], defers := [] } (((w372.setCell { block := gb17, off := 0 } (Value.int IntKind.i64 t865)).setCell { block := gb17, off := 1 } (Value.int IntKind.i64 t866)).setCell { block := gb17, off := 2 } (Value.int IntKind.i64 t867))  := by
 subst hQz1
 (try dsimp only)
 conv at az3 => ext a w; lhs; arg 2; whnf
 conv at az5 => ext a w; lhs; arg 2; whnf
 conv => arg 2; whnf
 have H := HC296.out
 clear HC296
 have H' := Aside0.mk H
 clear H
 try go_wp2
 have n0_ : Aside0 (Kd.R k28 28 (((w372.setCell ⟨gb17, 0, none⟩ (.int .i64 t865)).setCell ⟨gb17, 1, none⟩ (.int .i64 t866)).setCell ⟨gb17, 2, none⟩ (.int .i64 t867)) w.heap.size (fun k_ => some k_ ≠ (.slice Ao306 t829.length co306 : Value).ownBlock ∧ some k_ ≠ (.slice Ao314 t834.length co314 : Value).ownBlock ∧ some k_ ≠ (.slice Ao321 t839.length co321 : Value).ownBlock ∧ some k_ ≠ (.slice Ao329 t844.length co329 : Value).ownBlock ∧ some k_ ≠ (.slice Ao339 t849.length co339 : Value).ownBlock ∧ k_ ≠ gb9 ∧ k_ ≠ gb15 ∧ k_ ≠ gb17) (.slice Ao300 t821.length co300) t821) := ⟨by (with_reducible repeat (first | apply Kd.R_alloc | apply Kd.R_drewN | apply Kd.R_drew)); exact Kd.R_mono (Kd.R_far (p := ⟨gb17, 2, none⟩) (Kd.R_far (p := ⟨gb17, 1, none⟩) (Kd.R_far (p := ⟨gb17, 0, none⟩) (Kd.R_mono HO823.out (fun k_ hk => (⟨hk, hk.2⟩ : _ ∧ k_ ≠ gb17))) (fun _ hk => hk.2) (.int .i64 t865)) (fun _ hk => hk.2) (.int .i64 t866)) (fun _ hk => hk.2) (.int .i64 t867)) (fun _ hk => ⟨hk.1.1.1.1.1.1.1.2, ⟨hk.1.1.1.1.1.1.2, ⟨hk.1.1.1.1.1.2, ⟨hk.1.1.1.1.2, ⟨hk.1.1.1.2, ⟨hk.1.1.1.1.1.1.1.1.2, ⟨hk.1.1.2, hk.1.2⟩⟩⟩⟩⟩⟩⟩)⟩
 have n1_ : Aside0 (Kd.R k28 28 (((w372.setCell ⟨gb17, 0, none⟩ (.int .i64 t865)).setCell ⟨gb17, 1, none⟩ (.int .i64 t866)).setCell ⟨gb17, 2, none⟩ (.int .i64 t867)) w.heap.size (fun k_ => some k_ ≠ (.slice Ao300 t821.length co300 : Value).ownBlock ∧ some k_ ≠ (.slice Ao314 t834.length co314 : Value).ownBlock ∧ some k_ ≠ (.slice Ao321 t839.length co321 : Value).ownBlock ∧ some k_ ≠ (.slice Ao329 t844.length co329 : Value).ownBlock ∧ some k_ ≠ (.slice Ao339 t849.length co339 : Value).ownBlock ∧ k_ ≠ gb9 ∧ k_ ≠ gb15 ∧ k_ ≠ gb17) (.slice Ao306 t829.length co306) t829) := ⟨by (with_reducible repeat (first | apply Kd.R_alloc | apply Kd.R_drewN | apply Kd.R_drew)); exact Kd.R_mono (Kd.R_far (p := ⟨gb17, 2, none⟩) (Kd.R_far (p := ⟨gb17, 1, none⟩) (Kd.R_far (p := ⟨gb17, 0, none⟩) (Kd.R_mono HO831.out (fun k_ hk => (⟨hk, hk.2⟩ : _ ∧ k_ ≠ gb17))) (fun _ hk => hk.2) (.int .i64 t865)) (fun _ hk => hk.2) (.int .i64 t866)) (fun _ hk => hk.2) (.int .i64 t867)) (fun _ hk => ⟨hk.1.1.1.1.1.1.1.1.2, ⟨hk.1.1.1.1.1.1.2, ⟨hk.1.1.1.1.1.2, ⟨hk.1.1.1.1.2, ⟨hk.1.1.1.2, ⟨hk.1.1.1.1.1.1.1.2, ⟨hk.1.1.2, hk.1.2⟩⟩⟩⟩⟩⟩⟩)⟩
 have n2_ : Aside0 (Kd.R k28 28 (((w372.setCell ⟨gb17, 0, none⟩ (.int .i64 t865)).setCell ⟨gb17, 1, none⟩ (.int .i64 t866)).setCell ⟨gb17, 2, none⟩ (.int .i64 t867)) w.heap.size (fun k_ => some k_ ≠ (.slice Ao300 t821.length co300 : Value).ownBlock ∧ some k_ ≠ (.slice Ao306 t829.length co306 : Value).ownBlock ∧ some k_ ≠ (.slice Ao321 t839.length co321 : Value).ownBlock ∧ some k_ ≠ (.slice Ao329 t844.length co329 : Value).ownBlock ∧ some k_ ≠ (.slice Ao339 t849.length co339 : Value).ownBlock ∧ k_ ≠ gb9 ∧ k_ ≠ gb15 ∧ k_ ≠ gb17) (.slice Ao314 t834.length co314) t834) := ⟨by (with_reducible repeat (first | apply Kd.R_alloc | apply Kd.R_drewN | apply Kd.R_drew)); exact Kd.R_mono (Kd.R_far (p := ⟨gb17, 2, none⟩) (Kd.R_far (p := ⟨gb17, 1, none⟩) (Kd.R_far (p := ⟨gb17, 0, none⟩) (Kd.R_mono HO836.out (fun k_ hk => (⟨hk, hk.2⟩ : _ ∧ k_ ≠ gb17))) (fun _ hk => hk.2) (.int .i64 t865)) (fun _ hk => hk.2) (.int .i64 t866)) (fun _ hk => hk.2) (.int .i64 t867)) (fun _ hk => ⟨hk.1.1.1.1.1.1.1.1.2, ⟨hk.1.1.1.1.1.1.1.2, ⟨hk.1.1.1.1.1.2, ⟨hk.1.1.1.1.2, ⟨hk.1.1.1.2, ⟨hk.1.1.1.1.1.1.2, ⟨hk.1.1.2, hk.1.2⟩⟩⟩⟩⟩⟩⟩)⟩
 have n3_ : Aside0 (Kd.R k28 28 (((w372.setCell ⟨gb17, 0, none⟩ (.int .i64 t865)).setCell ⟨gb17, 1, none⟩ (.int .i64 t866)).setCell ⟨gb17, 2, none⟩ (.int .i64 t867)) w.heap.size (fun k_ => some k_ ≠ (.slice Ao300 t821.length co300 : Value).ownBlock ∧ some k_ ≠ (.slice Ao306 t829.length co306 : Value).ownBlock ∧ some k_ ≠ (.slice Ao314 t834.length co314 : Value).ownBlock ∧ some k_ ≠ (.slice Ao329 t844.length co329 : Value).ownBlock ∧ some k_ ≠ (.slice Ao339 t849.length co339 : Value).ownBlock ∧ k_ ≠ gb9 ∧ k_ ≠ gb15 ∧ k_ ≠ gb17) (.slice Ao321 t839.length co321) t839) := ⟨by (with_reducible repeat (first | apply Kd.R_alloc | apply Kd.R_drewN | apply Kd.R_drew)); exact Kd.R_mono (Kd.R_far (p := ⟨gb17, 2, none⟩) (Kd.R_far (p := ⟨gb17, 1, none⟩) (Kd.R_far (p := ⟨gb17, 0, none⟩) (Kd.R_mono HO841.out (fun k_ hk => (⟨hk, hk.2⟩ : _ ∧ k_ ≠ gb17))) (fun _ hk => hk.2) (.int .i64 t865)) (fun _ hk => hk.2) (.int .i64 t866)) (fun _ hk => hk.2) (.int .i64 t867)) (fun _ hk => ⟨hk.1.1.1.1.1.1.1.1.2, ⟨hk.1.1.1.1.1.1.1.2, ⟨hk.1.1.1.1.1.1.2, ⟨hk.1.1.1.1.2, ⟨hk.1.1.1.2, ⟨hk.1.1.1.1.1.2, ⟨hk.1.1.2, hk.1.2⟩⟩⟩⟩⟩⟩⟩)⟩
 have n4_ : Aside0 (Kd.R k28 28 (((w372.setCell ⟨gb17, 0, none⟩ (.int .i64 t865)).setCell ⟨gb17, 1, none⟩ (.int .i64 t866)).setCell ⟨gb17, 2, none⟩ (.int .i64 t867)) w.heap.size (fun k_ => some k_ ≠ (.slice Ao300 t821.length co300 : Value).ownBlock ∧ some k_ ≠ (.slice Ao306 t829.length co306 : Value).ownBlock ∧ some k_ ≠ (.slice Ao314 t834.length co314 : Value).ownBlock ∧ some k_ ≠ (.slice Ao321 t839.length co321 : Value).ownBlock ∧ some k_ ≠ (.slice Ao339 t849.length co339 : Value).ownBlock ∧ k_ ≠ gb9 ∧ k_ ≠ gb15 ∧ k_ ≠ gb17) (.slice Ao329 t844.length co329) t844) := ⟨by (with_reducible repeat (first | apply Kd.R_alloc | apply Kd.R_drewN | apply Kd.R_drew)); exact Kd.R_mono (Kd.R_far (p := ⟨gb17, 2, none⟩) (Kd.R_far (p := ⟨gb17, 1, none⟩) (Kd.R_far (p := ⟨gb17, 0, none⟩) (Kd.R_mono HO846.out (fun k_ hk => (⟨hk, hk.2⟩ : _ ∧ k_ ≠ gb17))) (fun _ hk => hk.2) (.int .i64 t865)) (fun _ hk => hk.2) (.int .i64 t866)) (fun _ hk => hk.2) (.int .i64 t867)) (fun _ hk => ⟨hk.1.1.1.1.1.1.1.1.2, ⟨hk.1.1.1.1.1.1.1.2, ⟨hk.1.1.1.1.1.1.2, ⟨hk.1.1.1.1.1.2, ⟨hk.1.1.1.2, ⟨hk.1.1.1.1.2, ⟨hk.1.1.2, hk.1.2⟩⟩⟩⟩⟩⟩⟩)⟩
 have n5_ : Aside0 (Kd.R k28 28 (((w372.setCell ⟨gb17, 0, none⟩ (.int .i64 t865)).setCell ⟨gb17, 1, none⟩ (.int .i64 t866)).setCell ⟨gb17, 2, none⟩ (.int .i64 t867)) w.heap.size (fun k_ => some k_ ≠ (.slice Ao300 t821.length co300 : Value).ownBlock ∧ some k_ ≠ (.slice Ao306 t829.length co306 : Value).ownBlock ∧ some k_ ≠ (.slice Ao314 t834.length co314 : Value).ownBlock ∧ some k_ ≠ (.slice Ao321 t839.length co321 : Value).ownBlock ∧ some k_ ≠ (.slice Ao329 t844.length co329 : Value).ownBlock ∧ k_ ≠ gb9 ∧ k_ ≠ gb15 ∧ k_ ≠ gb17) (.slice Ao339 t849.length co339) t849) := ⟨by (with_reducible repeat (first | apply Kd.R_alloc | apply Kd.R_drewN | apply Kd.R_drew)); exact Kd.R_mono (Kd.R_far (p := ⟨gb17, 2, none⟩) (Kd.R_far (p := ⟨gb17, 1, none⟩) (Kd.R_far (p := ⟨gb17, 0, none⟩) (Kd.R_mono HO851.out (fun k_ hk => (⟨hk, hk.2⟩ : _ ∧ k_ ≠ gb17))) (fun _ hk => hk.2) (.int .i64 t865)) (fun _ hk => hk.2) (.int .i64 t866)) (fun _ hk => hk.2) (.int .i64 t867)) (fun _ hk => ⟨hk.1.1.1.1.1.1.1.1.2, ⟨hk.1.1.1.1.1.1.1.2, ⟨hk.1.1.1.1.1.1.2, ⟨hk.1.1.1.1.1.2, ⟨hk.1.1.1.1.2, ⟨hk.1.1.1.2, ⟨hk.1.1.2, hk.1.2⟩⟩⟩⟩⟩⟩⟩)⟩
 have n6_ : Aside0 ((((w372.setCell ⟨gb17, 0, none⟩ (.int .i64 t865)).setCell ⟨gb17, 1, none⟩ (.int .i64 t866)).setCell ⟨gb17, 2, none⟩ (.int .i64 t867)).heap[gb8]? = some (.cells #[.slice Ao300 t821.length co300] 26 (0, 0))) := ⟨bt BK8⟩
 have n7_ : Aside0 ((((w372.setCell ⟨gb17, 0, none⟩ (.int .i64 t865)).setCell ⟨gb17, 1, none⟩ (.int .i64 t866)).setCell ⟨gb17, 2, none⟩ (.int .i64 t867)).heap[gb9]? = some (.cells #[.int .i64 t824, .int .i64 t825, .int .i64 t826] 28 (0, 0))) := ⟨bt BK9⟩
 have n8_ : Aside0 ((((w372.setCell ⟨gb17, 0, none⟩ (.int .i64 t865)).setCell ⟨gb17, 1, none⟩ (.int .i64 t866)).setCell ⟨gb17, 2, none⟩ (.int .i64 t867)).heap[gb10]? = some (.cells #[.slice Ao306 t829.length co306] 26 (0, 0))) := ⟨bt BK10⟩
 have n9_ : Aside0 ((((w372.setCell ⟨gb17, 0, none⟩ (.int .i64 t865)).setCell ⟨gb17, 1, none⟩ (.int .i64 t866)).setCell ⟨gb17, 2, none⟩ (.int .i64 t867)).heap[gb11]? = some (.cells #[.slice Ao314 t834.length co314] 26 (0, 0))) := ⟨bt BK11⟩
 have n10_ : Aside0 ((((w372.setCell ⟨gb17, 0, none⟩ (.int .i64 t865)).setCell ⟨gb17, 1, none⟩ (.int .i64 t866)).setCell ⟨gb17, 2, none⟩ (.int .i64 t867)).heap[gb12]? = some (.cells #[.slice Ao321 t839.length co321] 26 (0, 0))) := ⟨bt BK12⟩
 have n11_ : Aside0 ((((w372.setCell ⟨gb17, 0, none⟩ (.int .i64 t865)).setCell ⟨gb17, 1, none⟩ (.int .i64 t866)).setCell ⟨gb17, 2, none⟩ (.int .i64 t867)).heap[gb13]? = some (.cells #[.slice Ao329 t844.length co329] 26 (0, 0))) := ⟨bt BK13⟩
 have n12_ : Aside0 ((((w372.setCell ⟨gb17, 0, none⟩ (.int .i64 t865)).setCell ⟨gb17, 1, none⟩ (.int .i64 t866)).setCell ⟨gb17, 2, none⟩ (.int .i64 t867)).heap[gb14]? = some (.cells #[.slice Ao339 t849.length co339] 26 (0, 0))) := ⟨bt BK14⟩
 have n13_ : Aside0 ((((w372.setCell ⟨gb17, 0, none⟩ (.int .i64 t865)).setCell ⟨gb17, 1, none⟩ (.int .i64 t866)).setCell ⟨gb17, 2, none⟩ (.int .i64 t867)).heap[gb15]? = some (.cells #[.int .i64 t854, .int .i64 t855, .int .i64 t856] 28 (0, 0))) := ⟨bt BK15⟩
 have n14_ : Aside0 ((((w372.setCell ⟨gb17, 0, none⟩ (.int .i64 t865)).setCell ⟨gb17, 1, none⟩ (.int .i64 t866)).setCell ⟨gb17, 2, none⟩ (.int .i64 t867)).heap[gb16]? = some (.cells #[.int .i64 t857, .int .i64 t858] 23 (0, 0))) := ⟨bt BK16⟩
 have n15_ : Aside0 ((((w372.setCell ⟨gb17, 0, none⟩ (.int .i64 t865)).setCell ⟨gb17, 1, none⟩ (.int .i64 t866)).setCell ⟨gb17, 2, none⟩ (.int .i64 t867)).heap[gb17]? = some (.cells #[.int .i64 t865, .int .i64 t866, .int .i64 t867] 28 (0, 0))) := ⟨bt BK17⟩
 have n16_ : Aside0 (Below w.heap.size w (((w372.setCell ⟨gb17, 0, none⟩ (.int .i64 t865)).setCell ⟨gb17, 1, none⟩ (.int .i64 t866)).setCell ⟨gb17, 2, none⟩ (.int .i64 t867))) := ⟨bw HB⟩
 (try clear HO823)
 (try clear HO831)
 (try clear HO836)
 (try clear HO841)
 (try clear HO846)
 (try clear HO851)
 (try clear BK8)
 (try clear BK9)
 (try clear BK10)
 (try clear BK11)
 (try clear BK12)
 (try clear BK13)
 (try clear BK14)
 (try clear BK15)
 (try clear BK16)
 (try clear BK17)
 (try clear HB)
 have H := H'.out
 clear H'
 replace H := iteC H; rcases H with ⟨c383, H⟩ | ⟨c383, H⟩
 ·
  have c383b0 : (t832 != t837) = true := c383
  (try (have c383b1 : decide (t832 = t837) = false := by simpa using c383))
  (try (have c383b2 : (t832 == t837) = false := by simpa using c383))
  (try (have c383b3 : ¬ (t832 = t837) := by simpa using c383))
  clear c383
  (first | rw [c383b0] | (simp only [i64_w, i32_w]; rw [c383b0]) | skip)
  have H' := Aside0.mk H
  clear H
  generalize (((w372.setCell ⟨gb17, 0, none⟩ (.int .i64 t865)).setCell ⟨gb17, 1, none⟩ (.int .i64 t866)).setCell ⟨gb17, 2, none⟩ (.int .i64 t867)) = w384 at n0_ n1_ n2_ n3_ n4_ n5_ n6_ n7_ n8_ n9_ n10_ n11_ n12_ n13_ n14_ n15_ n16_ ⊢
  have HO823 := n0_
  have HO831 := n1_
  have HO836 := n2_
  have HO841 := n3_
  have HO846 := n4_
  have HO851 := n5_
  have BK8 := n6_
  have BK9 := n7_
  have BK10 := n8_
  have BK11 := n9_
  have BK12 := n10_
  have BK13 := n11_
  have BK14 := n12_
  have BK15 := n13_
  have BK16 := n14_
  have BK17 := n15_
  have HB := n16_
  clear n0_ n1_ n2_ n3_ n4_ n5_ n6_ n7_ n8_ n9_ n10_ n11_ n12_ n13_ n14_ n15_ n16_
  replace HO823 := od HO823
  replace HO831 := od HO831
  replace HO836 := od HO836
  replace HO841 := od HO841
  replace HO846 := od HO846
  replace HO851 := od HO851
  refine md8 BK8 BK9 BK10 BK11 BK12 BK13 BK14 BK15 ?_
  clear BK8 BK9 BK10 BK11 BK12 BK13 BK14 BK15
  intro BK8 BK9 BK10 BK11 BK12 BK13 BK14 BK15
  refine md2 BK16 BK17 ?_
  clear BK16 BK17
  intro BK16 BK17
  replace HB := Aside0.mk (below_drew1 HB.out)
  refine startK 49 (S := fun w' => True) (ds := []) laws_FnSnailsHidden.tab45 laws_FnSnailsHidden.bits45 (hS := trivial) (h := fun hHeld HT_ HW_ => ?_)
  generalize w384.drew = w385 at HO823 HO831 HO836 HO841 HO846 HO851 BK8 BK9 BK10 BK11 BK12 BK13 BK14 BK15 BK16 BK17 HB hHeld ⊢
  refine pureK HT_ 0 (some 333) ?_
  refine pureK HT_ 1 (some 334) ?_
  refine pureK HT_ 2 (some 335) ?_
  refine pureK HT_ 3 (some 336) ?_
  refine offK HT_ 4 (some 337) ?_
  refine offK HT_ 5 (some 338) ?_
  refine offK HT_ 6 (some 339) ?_
  refine offK HT_ 7 (some 340) ?_
  refine offK HT_ 8 (some 341) ?_
  refine offK HT_ 9 (some 342) ?_
  refine pureK HT_ 10 (some 343) ?_
  refine pureK HT_ 11 (some 344) ?_
  refine offK HT_ 12 (some 345) ?_
  refine offK HT_ 13 (some 346) ?_
  refine offK HT_ 14 (some 347) ?_
  refine pureK HT_ 15 (some 348) ?_
  refine pureK HT_ 16 (some 349) ?_
  refine offK HT_ 17 (some 350) ?_
  refine offK HT_ 18 (some 351) ?_
  refine offK HT_ 19 (some 352) ?_
  refine offK HT_ 20 (some 353) ?_
  refine offK HT_ 21 (some 354) ?_
  refine offK HT_ 22 (some 355) ?_
  refine pureK HT_ 23 (some 356) ?_
  refine pureK HT_ 24 (some 357) ?_
  refine offK HT_ 25 (some 358) ?_
  refine offK HT_ 26 (some 359) ?_
  refine offK HT_ 27 (some 360) ?_
  refine pureK HT_ 28 (some 361) ?_
  refine pureK HT_ 29 (some 362) ?_
  refine offK HT_ 30 (some 363) ?_
  refine offK HT_ 31 (some 364) ?_
  refine offK HT_ 32 (some 365) ?_
  refine pureK HT_ 33 (some 366) ?_
  refine pureK HT_ 34 (some 367) ?_
  refine offK HT_ 35 (some 368) ?_
  refine offK HT_ 36 (some 369) ?_
  refine offK HT_ 37 (some 370) ?_
  refine offK HT_ 38 (some 371) ?_
  refine offK HT_ 39 (some 372) ?_
  refine pureK HT_ 40 (some 373) ?_
  refine pureK HT_ 41 (some 374) ?_
  refine offK HT_ 42 (some 375) ?_
  refine offK HT_ 43 (some 376) ?_
  refine offK HT_ 44 (some 377) ?_
  refine offK HT_ 45 (some 378) ?_
  refine offK HT_ 46 (some 379) ?_
  refine offK HT_ 47 (some 380) ?_
  refine pureK HT_ 48 (some 381) ?_
  refine done_ (done_of HT_.out (by kernel_rfl)) ?_
  try go_wp2
  go_meet
  case rel => exact ⟨_, (true), (by first | rfl | (simp; done) | (simp [*]; done)), H', ⟨by have := HJ7.out; have := HJ31.out; have := HJ168.out; have := HJ207.out; first | omega | exact Nat.le_refl _⟩, ⟨by (with_reducible repeat (first | apply Kd.R_alloc | apply Kd.R_drewN | apply Kd.R_drew)); exact Kd.R_mono HO823.out (fun _ hk => ⟨hk.1, ⟨hk.2.2.1, ⟨hk.2.2.2.1, hk.2.2.2.2.2.1⟩⟩⟩)⟩, ⟨by (with_reducible repeat (first | apply Kd.R_alloc | apply Kd.R_drewN | apply Kd.R_drew)); exact Kd.R_mono HO831.out (fun _ hk => ⟨hk.1, ⟨hk.2.2.1, ⟨hk.2.2.2.1, hk.2.2.2.2.2.1⟩⟩⟩)⟩, ⟨by (with_reducible repeat (first | apply Kd.R_alloc | apply Kd.R_drewN | apply Kd.R_drew)); exact Kd.R_mono HO841.out (fun _ hk => ⟨hk.1, ⟨hk.2.1, ⟨hk.2.2.2.1, hk.2.2.2.2.2.1⟩⟩⟩)⟩, ⟨by (with_reducible repeat (first | apply Kd.R_alloc | apply Kd.R_drewN | apply Kd.R_drew)); exact Kd.R_mono HO846.out (fun _ hk => ⟨hk.1, ⟨hk.2.1, ⟨hk.2.2.2.1, hk.2.2.2.2.2.1⟩⟩⟩)⟩, ⟨bk BK8⟩, ⟨bk BK9⟩, ⟨bk BK10⟩, ⟨bk BK12⟩, ⟨bk BK13⟩, ⟨bw HB⟩⟩
 have c383b0 : (t832 != t837) = false := by simpa using c383
 (try (have c383b1 : decide (t832 = t837) = true := by simpa using c383))
 (try (have c383b2 : (t832 == t837) = true := by simpa using c383))
 clear c383
 (first | rw [c383b0] | (simp only [i64_w, i32_w]; rw [c383b0]) | skip)
 replace H := bindS H; obtain ⟨t869, A386, H⟩ := H
 have H' := Aside0.mk H
 clear H
 have H := H'.out
 clear H'
 replace H := iteB H; rcases H with ⟨rfl, H⟩ | ⟨rfl, H⟩
 rotate_left
 ·
  have H' := Aside0.mk H
  clear H
  generalize (((w372.setCell ⟨gb17, 0, none⟩ (.int .i64 t865)).setCell ⟨gb17, 1, none⟩ (.int .i64 t866)).setCell ⟨gb17, 2, none⟩ (.int .i64 t867)) = w419 at n0_ n1_ n2_ n3_ n4_ n5_ n6_ n7_ n8_ n9_ n10_ n11_ n12_ n13_ n14_ n15_ n16_ ⊢
  have HO823 := n0_
  have HO831 := n1_
  have HO836 := n2_
  have HO841 := n3_
  have HO846 := n4_
  have HO851 := n5_
  have BK8 := n6_
  have BK9 := n7_
  have BK10 := n8_
  have BK11 := n9_
  have BK12 := n10_
  have BK13 := n11_
  have BK14 := n12_
  have BK15 := n13_
  have BK16 := n14_
  have BK17 := n15_
  have HB := n16_
  clear n0_ n1_ n2_ n3_ n4_ n5_ n6_ n7_ n8_ n9_ n10_ n11_ n12_ n13_ n14_ n15_ n16_
  replace HO823 := od HO823
  replace HO831 := od HO831
  replace HO836 := od HO836
  replace HO841 := od HO841
  replace HO846 := od HO846
  replace HO851 := od HO851
  refine md8 BK8 BK9 BK10 BK11 BK12 BK13 BK14 BK15 ?_
  clear BK8 BK9 BK10 BK11 BK12 BK13 BK14 BK15
  intro BK8 BK9 BK10 BK11 BK12 BK13 BK14 BK15
  refine md2 BK16 BK17 ?_
  clear BK16 BK17
  intro BK16 BK17
  replace HB := Aside0.mk (below_drew1 HB.out)
  refine startK 49 (S := fun w' => w'.cell? ⟨gb10, 0, none⟩ = some (.slice Ao306 t829.length co306) ∧ w'.cell? ⟨gb11, 0, none⟩ = some (.slice Ao314 t834.length co314)) (ds := []) laws_FnSnailsHidden.tab45 laws_FnSnailsHidden.bits45 (hS := ⟨bc BK10 0, bc BK11 0⟩) (h := fun hHeld HT_ HW_ => ?_)
  generalize w419.drew = w420 at HO823 HO831 HO836 HO841 HO846 HO851 BK8 BK9 BK10 BK11 BK12 BK13 BK14 BK15 BK16 BK17 HB hHeld ⊢
  refine pureK HT_ 0 (some 333) ?_
  refine pureK HT_ 1 (some 334) ?_
  refine pureK HT_ 2 (some 335) ?_
  refine pureK HT_ 3 (some 336) ?_
  refine pureK HT_ 4 (some 337) ?_
  refine pureK HT_ 6 (some 339) ?_
  refine takeK HT_ HW_ hHeld 5 (some 338) ?_
  refine takeK HT_ HW_ hHeld 7 (some 340) ?_
  refine oneK HT_ 8 (some 341) (fun K hK => ?_)
  refine goes_ Try.func7 (by kernel_rfl) rfl #[.slice Ao306 t829.length co306, .slice Ao314 t834.length co314] (by rfl) rfl rfl argR ?_
  with_reducible refine (laws_qClues.calls kj207 _ _ t829 _ _ t834 false _ ?side1 ?side2 ?side3 ?side4 A386.out).mono ?_
  (case side1 => exact rs HO831)
  (case side2 => exact rl HO831)
  (case side3 => exact rs HO836)
  (case side4 => exact rl HO836)
  rintro e w' ⟨rfl, ⟨nd, rfl⟩⟩
  refine ⟨_, rfl, ?_⟩
  refine hK.out _ _ ⟨bc BK10 0, bc BK11 0⟩ (fun hHeld => ?_)
  clear hK K
  refine normK (N := some 341) (h := ?_)
  refine pureK HT_ 9 (some 342) ?_
  refine pureK HT_ 10 (some 343) ?_
  refine pureK HT_ 11 (some 344) ?_
  refine offK HT_ 12 (some 345) ?_
  refine offK HT_ 13 (some 346) ?_
  refine offK HT_ 14 (some 347) ?_
  refine pureK HT_ 15 (some 348) ?_
  refine pureK HT_ 16 (some 349) ?_
  refine offK HT_ 17 (some 350) ?_
  refine offK HT_ 18 (some 351) ?_
  refine offK HT_ 19 (some 352) ?_
  refine offK HT_ 20 (some 353) ?_
  refine offK HT_ 21 (some 354) ?_
  refine offK HT_ 22 (some 355) ?_
  refine pureK HT_ 23 (some 356) ?_
  refine pureK HT_ 24 (some 357) ?_
  refine offK HT_ 25 (some 358) ?_
  refine offK HT_ 26 (some 359) ?_
  refine offK HT_ 27 (some 360) ?_
  refine pureK HT_ 28 (some 361) ?_
  refine pureK HT_ 29 (some 362) ?_
  refine offK HT_ 30 (some 363) ?_
  refine offK HT_ 31 (some 364) ?_
  refine offK HT_ 32 (some 365) ?_
  refine pureK HT_ 33 (some 366) ?_
  refine pureK HT_ 34 (some 367) ?_
  refine offK HT_ 35 (some 368) ?_
  refine offK HT_ 36 (some 369) ?_
  refine offK HT_ 37 (some 370) ?_
  refine offK HT_ 38 (some 371) ?_
  refine offK HT_ 39 (some 372) ?_
  refine pureK HT_ 40 (some 373) ?_
  refine pureK HT_ 41 (some 374) ?_
  refine offK HT_ 42 (some 375) ?_
  refine offK HT_ 43 (some 376) ?_
  refine offK HT_ 44 (some 377) ?_
  refine offK HT_ 45 (some 378) ?_
  refine offK HT_ 46 (some 379) ?_
  refine offK HT_ 47 (some 380) ?_
  refine pureK HT_ 48 (some 381) ?_
  refine done_ (done_of HT_.out (by kernel_rfl)) ?_
  try go_wp2
  go_meet
  case rel => exact ⟨_, (true), (by first | rfl | (simp; done) | (simp [*]; done)), H', ⟨by have := HJ7.out; have := HJ31.out; have := HJ168.out; have := HJ207.out; first | omega | exact Nat.le_refl _⟩, ⟨by (with_reducible repeat (first | apply Kd.R_alloc | apply Kd.R_drewN | apply Kd.R_drew)); exact Kd.R_mono HO823.out (fun _ hk => ⟨hk.1, ⟨hk.2.2.1, ⟨hk.2.2.2.1, hk.2.2.2.2.2.1⟩⟩⟩)⟩, ⟨by (with_reducible repeat (first | apply Kd.R_alloc | apply Kd.R_drewN | apply Kd.R_drew)); exact Kd.R_mono HO831.out (fun _ hk => ⟨hk.1, ⟨hk.2.2.1, ⟨hk.2.2.2.1, hk.2.2.2.2.2.1⟩⟩⟩)⟩, ⟨by (with_reducible repeat (first | apply Kd.R_alloc | apply Kd.R_drewN | apply Kd.R_drew)); exact Kd.R_mono HO841.out (fun _ hk => ⟨hk.1, ⟨hk.2.1, ⟨hk.2.2.2.1, hk.2.2.2.2.2.1⟩⟩⟩)⟩, ⟨by (with_reducible repeat (first | apply Kd.R_alloc | apply Kd.R_drewN | apply Kd.R_drew)); exact Kd.R_mono HO846.out (fun _ hk => ⟨hk.1, ⟨hk.2.1, ⟨hk.2.2.2.1, hk.2.2.2.2.2.1⟩⟩⟩)⟩, ⟨bk BK8⟩, ⟨bk BK9⟩, ⟨bk BK10⟩, ⟨bk BK12⟩, ⟨bk BK13⟩, ⟨bw HB⟩⟩
 have H' := Aside0.mk H
 clear H
 have H := H'.out
 clear H'
 replace H := iteC H; rcases H with ⟨c388, H⟩ | ⟨c388, H⟩
 ·
  have c388b0 : (t847 != t852) = true := c388
  (try (have c388b1 : decide (t847 = t852) = false := by simpa using c388))
  (try (have c388b2 : (t847 == t852) = false := by simpa using c388))
  (try (have c388b3 : ¬ (t847 = t852) := by simpa using c388))
  clear c388
  have H' := Aside0.mk H
  clear H
  generalize (((w372.setCell ⟨gb17, 0, none⟩ (.int .i64 t865)).setCell ⟨gb17, 1, none⟩ (.int .i64 t866)).setCell ⟨gb17, 2, none⟩ (.int .i64 t867)) = w389 at n0_ n1_ n2_ n3_ n4_ n5_ n6_ n7_ n8_ n9_ n10_ n11_ n12_ n13_ n14_ n15_ n16_ ⊢
  have HO823 := n0_
  have HO831 := n1_
  have HO836 := n2_
  have HO841 := n3_
  have HO846 := n4_
  have HO851 := n5_
  have BK8 := n6_
  have BK9 := n7_
  have BK10 := n8_
  have BK11 := n9_
  have BK12 := n10_
  have BK13 := n11_
  have BK14 := n12_
  have BK15 := n13_
  have BK16 := n14_
  have BK17 := n15_
  have HB := n16_
  clear n0_ n1_ n2_ n3_ n4_ n5_ n6_ n7_ n8_ n9_ n10_ n11_ n12_ n13_ n14_ n15_ n16_
  replace HO823 := od HO823
  replace HO831 := od HO831
  replace HO836 := od HO836
  replace HO841 := od HO841
  replace HO846 := od HO846
  replace HO851 := od HO851
  refine md8 BK8 BK9 BK10 BK11 BK12 BK13 BK14 BK15 ?_
  clear BK8 BK9 BK10 BK11 BK12 BK13 BK14 BK15
  intro BK8 BK9 BK10 BK11 BK12 BK13 BK14 BK15
  refine md2 BK16 BK17 ?_
  clear BK16 BK17
  intro BK16 BK17
  replace HB := Aside0.mk (below_drew1 HB.out)
  refine startK 49 (S := fun w' => w'.cell? ⟨gb10, 0, none⟩ = some (.slice Ao306 t829.length co306) ∧ w'.cell? ⟨gb11, 0, none⟩ = some (.slice Ao314 t834.length co314)) (ds := []) laws_FnSnailsHidden.tab45 laws_FnSnailsHidden.bits45 (hS := ⟨bc BK10 0, bc BK11 0⟩) (h := fun hHeld HT_ HW_ => ?_)
  generalize w389.drew = w390 at HO823 HO831 HO836 HO841 HO846 HO851 BK8 BK9 BK10 BK11 BK12 BK13 BK14 BK15 BK16 BK17 HB hHeld ⊢
  refine pureK HT_ 0 (some 333) ?_
  refine pureK HT_ 1 (some 334) ?_
  refine pureK HT_ 2 (some 335) ?_
  refine pureK HT_ 3 (some 336) ?_
  refine pureK HT_ 4 (some 337) ?_
  refine pureK HT_ 6 (some 339) ?_
  refine takeK HT_ HW_ hHeld 5 (some 338) ?_
  refine takeK HT_ HW_ hHeld 7 (some 340) ?_
  refine oneK HT_ 8 (some 341) (fun K hK => ?_)
  refine goes_ Try.func7 (by kernel_rfl) rfl #[.slice Ao306 t829.length co306, .slice Ao314 t834.length co314] (by rfl) rfl rfl argR ?_
  with_reducible refine (laws_qClues.calls kj207 _ _ t829 _ _ t834 true _ ?side1 ?side2 ?side3 ?side4 A386.out).mono ?_
  (case side1 => exact rs HO831)
  (case side2 => exact rl HO831)
  (case side3 => exact rs HO836)
  (case side4 => exact rl HO836)
  rintro e w' ⟨rfl, ⟨nd, rfl⟩⟩
  refine ⟨_, rfl, ?_⟩
  refine hK.out _ _ ⟨bc BK10 0, bc BK11 0⟩ (fun hHeld => ?_)
  clear hK K
  refine normK (N := some 341) (h := ?_)
  refine pureK HT_ 9 (some 342) ?_
  refine pureK HT_ 10 (some 343) ?_
  refine pureK HT_ 11 (some 344) ?_
  refine pureK HT_ 12 (some 345) ?_
  refine pureK HT_ 13 (some 346) ?_
  refine pureK HT_ 14 (some 347) ?_
  refine pureK HT_ 15 (some 348) ?_
  refine pureK HT_ 16 (some 349) ?_
  refine offK HT_ 17 (some 350) ?_
  refine offK HT_ 18 (some 351) ?_
  refine offK HT_ 19 (some 352) ?_
  refine offK HT_ 20 (some 353) ?_
  refine offK HT_ 21 (some 354) ?_
  refine offK HT_ 22 (some 355) ?_
  refine pureK HT_ 23 (some 356) ?_
  refine pureK HT_ 24 (some 357) ?_
  refine offK HT_ 25 (some 358) ?_
  refine offK HT_ 26 (some 359) ?_
  refine offK HT_ 27 (some 360) ?_
  refine pureK HT_ 28 (some 361) ?_
  refine pureK HT_ 29 (some 362) ?_
  refine offK HT_ 30 (some 363) ?_
  refine offK HT_ 31 (some 364) ?_
  refine offK HT_ 32 (some 365) ?_
  refine pureK HT_ 33 (some 366) ?_
  refine pureK HT_ 34 (some 367) ?_
  refine offK HT_ 35 (some 368) ?_
  refine offK HT_ 36 (some 369) ?_
  refine offK HT_ 37 (some 370) ?_
  refine offK HT_ 38 (some 371) ?_
  refine offK HT_ 39 (some 372) ?_
  refine pureK HT_ 40 (some 373) ?_
  refine pureK HT_ 41 (some 374) ?_
  refine offK HT_ 42 (some 375) ?_
  refine offK HT_ 43 (some 376) ?_
  refine offK HT_ 44 (some 377) ?_
  refine offK HT_ 45 (some 378) ?_
  refine offK HT_ 46 (some 379) ?_
  refine offK HT_ 47 (some 380) ?_
  refine pureK HT_ 48 (some 381) ?_
  refine done_ (done_of HT_.out (by kernel_rfl)) ?_
  try go_wp2
  go_meet
  case rel => exact ⟨_, (true), (by first | rfl | (simp; done) | (simp [*]; done)), H', ⟨by have := HJ7.out; have := HJ31.out; have := HJ168.out; have := HJ207.out; first | omega | exact Nat.le_refl _⟩, ⟨by (with_reducible repeat (first | apply Kd.R_alloc | apply Kd.R_drewN | apply Kd.R_drew)); exact Kd.R_mono HO823.out (fun _ hk => ⟨hk.1, ⟨hk.2.2.1, ⟨hk.2.2.2.1, hk.2.2.2.2.2.1⟩⟩⟩)⟩, ⟨by (with_reducible repeat (first | apply Kd.R_alloc | apply Kd.R_drewN | apply Kd.R_drew)); exact Kd.R_mono HO831.out (fun _ hk => ⟨hk.1, ⟨hk.2.2.1, ⟨hk.2.2.2.1, hk.2.2.2.2.2.1⟩⟩⟩)⟩, ⟨by (with_reducible repeat (first | apply Kd.R_alloc | apply Kd.R_drewN | apply Kd.R_drew)); exact Kd.R_mono HO841.out (fun _ hk => ⟨hk.1, ⟨hk.2.1, ⟨hk.2.2.2.1, hk.2.2.2.2.2.1⟩⟩⟩)⟩, ⟨by (with_reducible repeat (first | apply Kd.R_alloc | apply Kd.R_drewN | apply Kd.R_drew)); exact Kd.R_mono HO846.out (fun _ hk => ⟨hk.1, ⟨hk.2.1, ⟨hk.2.2.2.1, hk.2.2.2.2.2.1⟩⟩⟩)⟩, ⟨bk BK8⟩, ⟨bk BK9⟩, ⟨bk BK10⟩, ⟨bk BK12⟩, ⟨bk BK13⟩, ⟨bw HB⟩⟩
 have c388b0 : (t847 != t852) = false := by simpa using c388
 (try (have c388b1 : decide (t847 = t852) = true := by simpa using c388))
 (try (have c388b2 : (t847 == t852) = true := by simpa using c388))
 clear c388
 replace H := bindS H; obtain ⟨t870, A391, H⟩ := H
 have H' := Aside0.mk H
 clear H
 have H := H'.out
 clear H'
 replace H := iteB H; rcases H with ⟨rfl, H⟩ | ⟨rfl, H⟩
 rotate_left
 ·
  have H' := Aside0.mk H
  clear H
  generalize (((w372.setCell ⟨gb17, 0, none⟩ (.int .i64 t865)).setCell ⟨gb17, 1, none⟩ (.int .i64 t866)).setCell ⟨gb17, 2, none⟩ (.int .i64 t867)) = w417 at n0_ n1_ n2_ n3_ n4_ n5_ n6_ n7_ n8_ n9_ n10_ n11_ n12_ n13_ n14_ n15_ n16_ ⊢
  have HO823 := n0_
  have HO831 := n1_
  have HO836 := n2_
  have HO841 := n3_
  have HO846 := n4_
  have HO851 := n5_
  have BK8 := n6_
  have BK9 := n7_
  have BK10 := n8_
  have BK11 := n9_
  have BK12 := n10_
  have BK13 := n11_
  have BK14 := n12_
  have BK15 := n13_
  have BK16 := n14_
  have BK17 := n15_
  have HB := n16_
  clear n0_ n1_ n2_ n3_ n4_ n5_ n6_ n7_ n8_ n9_ n10_ n11_ n12_ n13_ n14_ n15_ n16_
  replace HO823 := od HO823
  replace HO831 := od HO831
  replace HO836 := od HO836
  replace HO841 := od HO841
  replace HO846 := od HO846
  replace HO851 := od HO851
  refine md8 BK8 BK9 BK10 BK11 BK12 BK13 BK14 BK15 ?_
  clear BK8 BK9 BK10 BK11 BK12 BK13 BK14 BK15
  intro BK8 BK9 BK10 BK11 BK12 BK13 BK14 BK15
  refine md2 BK16 BK17 ?_
  clear BK16 BK17
  intro BK16 BK17
  replace HB := Aside0.mk (below_drew1 HB.out)
  refine startK 49 (S := fun w' => w'.cell? ⟨gb10, 0, none⟩ = some (.slice Ao306 t829.length co306) ∧ w'.cell? ⟨gb11, 0, none⟩ = some (.slice Ao314 t834.length co314) ∧ w'.cell? ⟨gb13, 0, none⟩ = some (.slice Ao329 t844.length co329) ∧ w'.cell? ⟨gb14, 0, none⟩ = some (.slice Ao339 t849.length co339)) (ds := []) laws_FnSnailsHidden.tab45 laws_FnSnailsHidden.bits45 (hS := ⟨bc BK10 0, bc BK11 0, bc BK13 0, bc BK14 0⟩) (h := fun hHeld HT_ HW_ => ?_)
  generalize w417.drew = w418 at HO823 HO831 HO836 HO841 HO846 HO851 BK8 BK9 BK10 BK11 BK12 BK13 BK14 BK15 BK16 BK17 HB hHeld ⊢
  refine pureK HT_ 0 (some 333) ?_
  refine pureK HT_ 1 (some 334) ?_
  refine pureK HT_ 2 (some 335) ?_
  refine pureK HT_ 3 (some 336) ?_
  refine pureK HT_ 4 (some 337) ?_
  refine pureK HT_ 6 (some 339) ?_
  refine takeK HT_ HW_ hHeld 5 (some 338) ?_
  refine takeK HT_ HW_ hHeld 7 (some 340) ?_
  refine oneK HT_ 8 (some 341) (fun K hK => ?_)
  refine goes_ Try.func7 (by kernel_rfl) rfl #[.slice Ao306 t829.length co306, .slice Ao314 t834.length co314] (by rfl) rfl rfl argR ?_
  with_reducible refine (laws_qClues.calls kj207 _ _ t829 _ _ t834 true _ ?side1 ?side2 ?side3 ?side4 A386.out).mono ?_
  (case side1 => exact rs HO831)
  (case side2 => exact rl HO831)
  (case side3 => exact rs HO836)
  (case side4 => exact rl HO836)
  rintro e w' ⟨rfl, ⟨nd, rfl⟩⟩
  refine ⟨_, rfl, ?_⟩
  refine hK.out _ _ ⟨bc BK10 0, bc BK11 0, bc BK13 0, bc BK14 0⟩ (fun hHeld => ?_)
  clear hK K
  refine normK (N := some 341) (h := ?_)
  refine pureK HT_ 9 (some 342) ?_
  refine pureK HT_ 10 (some 343) ?_
  refine pureK HT_ 11 (some 344) ?_
  refine pureK HT_ 12 (some 345) ?_
  refine pureK HT_ 13 (some 346) ?_
  refine pureK HT_ 14 (some 347) ?_
  refine pureK HT_ 15 (some 348) ?_
  refine pureK HT_ 16 (some 349) ?_
  refine pureK HT_ 17 (some 350) ?_
  refine pureK HT_ 19 (some 352) ?_
  refine takeK HT_ HW_ hHeld 18 (some 351) ?_
  refine takeK HT_ HW_ hHeld 20 (some 353) ?_
  refine oneK HT_ 21 (some 354) (fun K hK => ?_)
  refine goes_ Try.func7 (by kernel_rfl) rfl #[.slice Ao329 t844.length co329, .slice Ao339 t849.length co339] (by rfl) rfl rfl argR ?_
  with_reducible refine (laws_qClues.calls kj207 _ _ t844 _ _ t849 false _ ?side1 ?side2 ?side3 ?side4 A391.out).mono ?_
  (case side1 => exact rs HO846)
  (case side2 => exact rl HO846)
  (case side3 => exact rs HO851)
  (case side4 => exact rl HO851)
  rintro e w' ⟨rfl, ⟨nd, rfl⟩⟩
  refine ⟨_, rfl, ?_⟩
  refine hK.out _ _ ⟨bc BK10 0, bc BK11 0, bc BK13 0, bc BK14 0⟩ (fun hHeld => ?_)
  clear hK K
  refine normK (N := some 354) (h := ?_)
  refine pureK HT_ 22 (some 355) ?_
  refine pureK HT_ 23 (some 356) ?_
  refine pureK HT_ 24 (some 357) ?_
  refine offK HT_ 25 (some 358) ?_
  refine offK HT_ 26 (some 359) ?_
  refine offK HT_ 27 (some 360) ?_
  refine pureK HT_ 28 (some 361) ?_
  refine pureK HT_ 29 (some 362) ?_
  refine offK HT_ 30 (some 363) ?_
  refine offK HT_ 31 (some 364) ?_
  refine offK HT_ 32 (some 365) ?_
  refine pureK HT_ 33 (some 366) ?_
  refine pureK HT_ 34 (some 367) ?_
  refine offK HT_ 35 (some 368) ?_
  refine offK HT_ 36 (some 369) ?_
  refine offK HT_ 37 (some 370) ?_
  refine offK HT_ 38 (some 371) ?_
  refine offK HT_ 39 (some 372) ?_
  refine pureK HT_ 40 (some 373) ?_
  refine pureK HT_ 41 (some 374) ?_
  refine offK HT_ 42 (some 375) ?_
  refine offK HT_ 43 (some 376) ?_
  refine offK HT_ 44 (some 377) ?_
  refine offK HT_ 45 (some 378) ?_
  refine offK HT_ 46 (some 379) ?_
  refine offK HT_ 47 (some 380) ?_
  refine pureK HT_ 48 (some 381) ?_
  refine done_ (done_of HT_.out (by kernel_rfl)) ?_
  try go_wp2
  go_meet
  case rel => exact ⟨_, (true), (by first | rfl | (simp; done) | (simp [*]; done)), H', ⟨by have := HJ7.out; have := HJ31.out; have := HJ168.out; have := HJ207.out; first | omega | exact Nat.le_refl _⟩, ⟨by (with_reducible repeat (first | apply Kd.R_alloc | apply Kd.R_drewN | apply Kd.R_drew)); exact Kd.R_mono HO823.out (fun _ hk => ⟨hk.1, ⟨hk.2.2.1, ⟨hk.2.2.2.1, hk.2.2.2.2.2.1⟩⟩⟩)⟩, ⟨by (with_reducible repeat (first | apply Kd.R_alloc | apply Kd.R_drewN | apply Kd.R_drew)); exact Kd.R_mono HO831.out (fun _ hk => ⟨hk.1, ⟨hk.2.2.1, ⟨hk.2.2.2.1, hk.2.2.2.2.2.1⟩⟩⟩)⟩, ⟨by (with_reducible repeat (first | apply Kd.R_alloc | apply Kd.R_drewN | apply Kd.R_drew)); exact Kd.R_mono HO841.out (fun _ hk => ⟨hk.1, ⟨hk.2.1, ⟨hk.2.2.2.1, hk.2.2.2.2.2.1⟩⟩⟩)⟩, ⟨by (with_reducible repeat (first | apply Kd.R_alloc | apply Kd.R_drewN | apply Kd.R_drew)); exact Kd.R_mono HO846.out (fun _ hk => ⟨hk.1, ⟨hk.2.1, ⟨hk.2.2.2.1, hk.2.2.2.2.2.1⟩⟩⟩)⟩, ⟨bk BK8⟩, ⟨bk BK9⟩, ⟨bk BK10⟩, ⟨bk BK12⟩, ⟨bk BK13⟩, ⟨bw HB⟩⟩
 have H' := Aside0.mk H
 clear H
 have H := H'.out
 clear H'
 replace H := iteC H; rcases H with ⟨c393, H⟩ | ⟨c393, H⟩
 ·
  have c393b0 : (t862 != t864) = true := c393
  (try (have c393b1 : decide (t862 = t864) = false := by simpa using c393))
  (try (have c393b2 : (t862 == t864) = false := by simpa using c393))
  (try (have c393b3 : ¬ (t862 = t864) := by simpa using c393))
  clear c393
  have H' := Aside0.mk H
  clear H
  generalize (((w372.setCell ⟨gb17, 0, none⟩ (.int .i64 t865)).setCell ⟨gb17, 1, none⟩ (.int .i64 t866)).setCell ⟨gb17, 2, none⟩ (.int .i64 t867)) = w394 at n0_ n1_ n2_ n3_ n4_ n5_ n6_ n7_ n8_ n9_ n10_ n11_ n12_ n13_ n14_ n15_ n16_ ⊢
  have HO823 := n0_
  have HO831 := n1_
  have HO836 := n2_
  have HO841 := n3_
  have HO846 := n4_
  have HO851 := n5_
  have BK8 := n6_
  have BK9 := n7_
  have BK10 := n8_
  have BK11 := n9_
  have BK12 := n10_
  have BK13 := n11_
  have BK14 := n12_
  have BK15 := n13_
  have BK16 := n14_
  have BK17 := n15_
  have HB := n16_
  clear n0_ n1_ n2_ n3_ n4_ n5_ n6_ n7_ n8_ n9_ n10_ n11_ n12_ n13_ n14_ n15_ n16_
  replace HO823 := od HO823
  replace HO831 := od HO831
  replace HO836 := od HO836
  replace HO841 := od HO841
  replace HO846 := od HO846
  replace HO851 := od HO851
  refine md8 BK8 BK9 BK10 BK11 BK12 BK13 BK14 BK15 ?_
  clear BK8 BK9 BK10 BK11 BK12 BK13 BK14 BK15
  intro BK8 BK9 BK10 BK11 BK12 BK13 BK14 BK15
  refine md2 BK16 BK17 ?_
  clear BK16 BK17
  intro BK16 BK17
  replace HB := Aside0.mk (below_drew1 HB.out)
  refine startK 49 (S := fun w' => w'.cell? ⟨gb10, 0, none⟩ = some (.slice Ao306 t829.length co306) ∧ w'.cell? ⟨gb11, 0, none⟩ = some (.slice Ao314 t834.length co314) ∧ w'.cell? ⟨gb13, 0, none⟩ = some (.slice Ao329 t844.length co329) ∧ w'.cell? ⟨gb14, 0, none⟩ = some (.slice Ao339 t849.length co339)) (ds := []) laws_FnSnailsHidden.tab45 laws_FnSnailsHidden.bits45 (hS := ⟨bc BK10 0, bc BK11 0, bc BK13 0, bc BK14 0⟩) (h := fun hHeld HT_ HW_ => ?_)
  generalize w394.drew = w395 at HO823 HO831 HO836 HO841 HO846 HO851 BK8 BK9 BK10 BK11 BK12 BK13 BK14 BK15 BK16 BK17 HB hHeld ⊢
  refine pureK HT_ 0 (some 333) ?_
  refine pureK HT_ 1 (some 334) ?_
  refine pureK HT_ 2 (some 335) ?_
  refine pureK HT_ 3 (some 336) ?_
  refine pureK HT_ 4 (some 337) ?_
  refine pureK HT_ 6 (some 339) ?_
  refine takeK HT_ HW_ hHeld 5 (some 338) ?_
  refine takeK HT_ HW_ hHeld 7 (some 340) ?_
  refine oneK HT_ 8 (some 341) (fun K hK => ?_)
  refine goes_ Try.func7 (by kernel_rfl) rfl #[.slice Ao306 t829.length co306, .slice Ao314 t834.length co314] (by rfl) rfl rfl argR ?_
  with_reducible refine (laws_qClues.calls kj207 _ _ t829 _ _ t834 true _ ?side1 ?side2 ?side3 ?side4 A386.out).mono ?_
  (case side1 => exact rs HO831)
  (case side2 => exact rl HO831)
  (case side3 => exact rs HO836)
  (case side4 => exact rl HO836)
  rintro e w' ⟨rfl, ⟨nd, rfl⟩⟩
  refine ⟨_, rfl, ?_⟩
  refine hK.out _ _ ⟨bc BK10 0, bc BK11 0, bc BK13 0, bc BK14 0⟩ (fun hHeld => ?_)
  clear hK K
  refine normK (N := some 341) (h := ?_)
  refine pureK HT_ 9 (some 342) ?_
  refine pureK HT_ 10 (some 343) ?_
  refine pureK HT_ 11 (some 344) ?_
  refine pureK HT_ 12 (some 345) ?_
  refine pureK HT_ 13 (some 346) ?_
  refine pureK HT_ 14 (some 347) ?_
  refine pureK HT_ 15 (some 348) ?_
  refine pureK HT_ 16 (some 349) ?_
  refine pureK HT_ 17 (some 350) ?_
  refine pureK HT_ 19 (some 352) ?_
  refine takeK HT_ HW_ hHeld 18 (some 351) ?_
  refine takeK HT_ HW_ hHeld 20 (some 353) ?_
  refine oneK HT_ 21 (some 354) (fun K hK => ?_)
  refine goes_ Try.func7 (by kernel_rfl) rfl #[.slice Ao329 t844.length co329, .slice Ao339 t849.length co339] (by rfl) rfl rfl argR ?_
  with_reducible refine (laws_qClues.calls kj207 _ _ t844 _ _ t849 true _ ?side1 ?side2 ?side3 ?side4 A391.out).mono ?_
  (case side1 => exact rs HO846)
  (case side2 => exact rl HO846)
  (case side3 => exact rs HO851)
  (case side4 => exact rl HO851)
  rintro e w' ⟨rfl, ⟨nd, rfl⟩⟩
  refine ⟨_, rfl, ?_⟩
  refine hK.out _ _ ⟨bc BK10 0, bc BK11 0, bc BK13 0, bc BK14 0⟩ (fun hHeld => ?_)
  clear hK K
  refine normK (N := some 354) (h := ?_)
  refine pureK HT_ 22 (some 355) ?_
  refine pureK HT_ 23 (some 356) ?_
  refine pureK HT_ 24 (some 357) ?_
  refine pureK HT_ 25 (some 358) ?_
  refine pureK HT_ 26 (some 359) ?_
  refine pureK HT_ 27 (some 360) ?_
  refine pureK HT_ 28 (some 361) ?_
  refine pureK HT_ 29 (some 362) ?_
  refine offK HT_ 30 (some 363) ?_
  refine offK HT_ 31 (some 364) ?_
  refine offK HT_ 32 (some 365) ?_
  refine pureK HT_ 33 (some 366) ?_
  refine pureK HT_ 34 (some 367) ?_
  refine offK HT_ 35 (some 368) ?_
  refine offK HT_ 36 (some 369) ?_
  refine offK HT_ 37 (some 370) ?_
  refine offK HT_ 38 (some 371) ?_
  refine offK HT_ 39 (some 372) ?_
  refine pureK HT_ 40 (some 373) ?_
  refine pureK HT_ 41 (some 374) ?_
  refine offK HT_ 42 (some 375) ?_
  refine offK HT_ 43 (some 376) ?_
  refine offK HT_ 44 (some 377) ?_
  refine offK HT_ 45 (some 378) ?_
  refine offK HT_ 46 (some 379) ?_
  refine offK HT_ 47 (some 380) ?_
  refine pureK HT_ 48 (some 381) ?_
  refine done_ (done_of HT_.out (by kernel_rfl)) ?_
  try go_wp2
  go_meet
  case rel => exact ⟨_, (true), (by first | rfl | (simp; done) | (simp [*]; done)), H', ⟨by have := HJ7.out; have := HJ31.out; have := HJ168.out; have := HJ207.out; first | omega | exact Nat.le_refl _⟩, ⟨by (with_reducible repeat (first | apply Kd.R_alloc | apply Kd.R_drewN | apply Kd.R_drew)); exact Kd.R_mono HO823.out (fun _ hk => ⟨hk.1, ⟨hk.2.2.1, ⟨hk.2.2.2.1, hk.2.2.2.2.2.1⟩⟩⟩)⟩, ⟨by (with_reducible repeat (first | apply Kd.R_alloc | apply Kd.R_drewN | apply Kd.R_drew)); exact Kd.R_mono HO831.out (fun _ hk => ⟨hk.1, ⟨hk.2.2.1, ⟨hk.2.2.2.1, hk.2.2.2.2.2.1⟩⟩⟩)⟩, ⟨by (with_reducible repeat (first | apply Kd.R_alloc | apply Kd.R_drewN | apply Kd.R_drew)); exact Kd.R_mono HO841.out (fun _ hk => ⟨hk.1, ⟨hk.2.1, ⟨hk.2.2.2.1, hk.2.2.2.2.2.1⟩⟩⟩)⟩, ⟨by (with_reducible repeat (first | apply Kd.R_alloc | apply Kd.R_drewN | apply Kd.R_drew)); exact Kd.R_mono HO846.out (fun _ hk => ⟨hk.1, ⟨hk.2.1, ⟨hk.2.2.2.1, hk.2.2.2.2.2.1⟩⟩⟩)⟩, ⟨bk BK8⟩, ⟨bk BK9⟩, ⟨bk BK10⟩, ⟨bk BK12⟩, ⟨bk BK13⟩, ⟨bw HB⟩⟩
 have c393b0 : (t862 != t864) = false := by simpa using c393
 (try (have c393b1 : decide (t862 = t864) = true := by simpa using c393))
 (try (have c393b2 : (t862 == t864) = true := by simpa using c393))
 clear c393
 have H' := Aside0.mk H
 clear H
 have H := H'.out
 clear H'
 replace H := iteC H; rcases H with ⟨c396, H⟩ | ⟨c396, H⟩
 ·
  have c396b0 : (t861 != t863) = true := c396
  (try (have c396b1 : decide (t861 = t863) = false := by simpa using c396))
  (try (have c396b2 : (t861 == t863) = false := by simpa using c396))
  (try (have c396b3 : ¬ (t861 = t863) := by simpa using c396))
  clear c396
  have H' := Aside0.mk H
  clear H
  generalize (((w372.setCell ⟨gb17, 0, none⟩ (.int .i64 t865)).setCell ⟨gb17, 1, none⟩ (.int .i64 t866)).setCell ⟨gb17, 2, none⟩ (.int .i64 t867)) = w397 at n0_ n1_ n2_ n3_ n4_ n5_ n6_ n7_ n8_ n9_ n10_ n11_ n12_ n13_ n14_ n15_ n16_ ⊢
  have HO823 := n0_
  have HO831 := n1_
  have HO836 := n2_
  have HO841 := n3_
  have HO846 := n4_
  have HO851 := n5_
  have BK8 := n6_
  have BK9 := n7_
  have BK10 := n8_
  have BK11 := n9_
  have BK12 := n10_
  have BK13 := n11_
  have BK14 := n12_
  have BK15 := n13_
  have BK16 := n14_
  have BK17 := n15_
  have HB := n16_
  clear n0_ n1_ n2_ n3_ n4_ n5_ n6_ n7_ n8_ n9_ n10_ n11_ n12_ n13_ n14_ n15_ n16_
  replace HO823 := od HO823
  replace HO831 := od HO831
  replace HO836 := od HO836
  replace HO841 := od HO841
  replace HO846 := od HO846
  replace HO851 := od HO851
  refine md8 BK8 BK9 BK10 BK11 BK12 BK13 BK14 BK15 ?_
  clear BK8 BK9 BK10 BK11 BK12 BK13 BK14 BK15
  intro BK8 BK9 BK10 BK11 BK12 BK13 BK14 BK15
  refine md2 BK16 BK17 ?_
  clear BK16 BK17
  intro BK16 BK17
  replace HB := Aside0.mk (below_drew1 HB.out)
  refine startK 49 (S := fun w' => w'.cell? ⟨gb10, 0, none⟩ = some (.slice Ao306 t829.length co306) ∧ w'.cell? ⟨gb11, 0, none⟩ = some (.slice Ao314 t834.length co314) ∧ w'.cell? ⟨gb13, 0, none⟩ = some (.slice Ao329 t844.length co329) ∧ w'.cell? ⟨gb14, 0, none⟩ = some (.slice Ao339 t849.length co339)) (ds := []) laws_FnSnailsHidden.tab45 laws_FnSnailsHidden.bits45 (hS := ⟨bc BK10 0, bc BK11 0, bc BK13 0, bc BK14 0⟩) (h := fun hHeld HT_ HW_ => ?_)
  generalize w397.drew = w398 at HO823 HO831 HO836 HO841 HO846 HO851 BK8 BK9 BK10 BK11 BK12 BK13 BK14 BK15 BK16 BK17 HB hHeld ⊢
  refine pureK HT_ 0 (some 333) ?_
  refine pureK HT_ 1 (some 334) ?_
  refine pureK HT_ 2 (some 335) ?_
  refine pureK HT_ 3 (some 336) ?_
  refine pureK HT_ 4 (some 337) ?_
  refine pureK HT_ 6 (some 339) ?_
  refine takeK HT_ HW_ hHeld 5 (some 338) ?_
  refine takeK HT_ HW_ hHeld 7 (some 340) ?_
  refine oneK HT_ 8 (some 341) (fun K hK => ?_)
  refine goes_ Try.func7 (by kernel_rfl) rfl #[.slice Ao306 t829.length co306, .slice Ao314 t834.length co314] (by rfl) rfl rfl argR ?_
  with_reducible refine (laws_qClues.calls kj207 _ _ t829 _ _ t834 true _ ?side1 ?side2 ?side3 ?side4 A386.out).mono ?_
  (case side1 => exact rs HO831)
  (case side2 => exact rl HO831)
  (case side3 => exact rs HO836)
  (case side4 => exact rl HO836)
  rintro e w' ⟨rfl, ⟨nd, rfl⟩⟩
  refine ⟨_, rfl, ?_⟩
  refine hK.out _ _ ⟨bc BK10 0, bc BK11 0, bc BK13 0, bc BK14 0⟩ (fun hHeld => ?_)
  clear hK K
  refine normK (N := some 341) (h := ?_)
  refine pureK HT_ 9 (some 342) ?_
  refine pureK HT_ 10 (some 343) ?_
  refine pureK HT_ 11 (some 344) ?_
  refine pureK HT_ 12 (some 345) ?_
  refine pureK HT_ 13 (some 346) ?_
  refine pureK HT_ 14 (some 347) ?_
  refine pureK HT_ 15 (some 348) ?_
  refine pureK HT_ 16 (some 349) ?_
  refine pureK HT_ 17 (some 350) ?_
  refine pureK HT_ 19 (some 352) ?_
  refine takeK HT_ HW_ hHeld 18 (some 351) ?_
  refine takeK HT_ HW_ hHeld 20 (some 353) ?_
  refine oneK HT_ 21 (some 354) (fun K hK => ?_)
  refine goes_ Try.func7 (by kernel_rfl) rfl #[.slice Ao329 t844.length co329, .slice Ao339 t849.length co339] (by rfl) rfl rfl argR ?_
  with_reducible refine (laws_qClues.calls kj207 _ _ t844 _ _ t849 true _ ?side1 ?side2 ?side3 ?side4 A391.out).mono ?_
  (case side1 => exact rs HO846)
  (case side2 => exact rl HO846)
  (case side3 => exact rs HO851)
  (case side4 => exact rl HO851)
  rintro e w' ⟨rfl, ⟨nd, rfl⟩⟩
  refine ⟨_, rfl, ?_⟩
  refine hK.out _ _ ⟨bc BK10 0, bc BK11 0, bc BK13 0, bc BK14 0⟩ (fun hHeld => ?_)
  clear hK K
  refine normK (N := some 354) (h := ?_)
  refine pureK HT_ 22 (some 355) ?_
  refine pureK HT_ 23 (some 356) ?_
  refine pureK HT_ 24 (some 357) ?_
  refine pureK HT_ 25 (some 358) ?_
  refine pureK HT_ 26 (some 359) ?_
  refine pureK HT_ 27 (some 360) ?_
  refine pureK HT_ 28 (some 361) ?_
  refine pureK HT_ 29 (some 362) ?_
  refine pureK HT_ 30 (some 363) ?_
  refine pureK HT_ 31 (some 364) ?_
  refine pureK HT_ 32 (some 365) ?_
  refine pureK HT_ 33 (some 366) ?_
  refine pureK HT_ 34 (some 367) ?_
  refine offK HT_ 35 (some 368) ?_
  refine offK HT_ 36 (some 369) ?_
  refine offK HT_ 37 (some 370) ?_
  refine offK HT_ 38 (some 371) ?_
  refine offK HT_ 39 (some 372) ?_
  refine pureK HT_ 40 (some 373) ?_
  refine pureK HT_ 41 (some 374) ?_
  refine offK HT_ 42 (some 375) ?_
  refine offK HT_ 43 (some 376) ?_
  refine offK HT_ 44 (some 377) ?_
  refine offK HT_ 45 (some 378) ?_
  refine offK HT_ 46 (some 379) ?_
  refine offK HT_ 47 (some 380) ?_
  refine pureK HT_ 48 (some 381) ?_
  refine done_ (done_of HT_.out (by kernel_rfl)) ?_
  try go_wp2
  go_meet
  case rel => exact ⟨_, (true), (by first | rfl | (simp; done) | (simp [*]; done)), H', ⟨by have := HJ7.out; have := HJ31.out; have := HJ168.out; have := HJ207.out; first | omega | exact Nat.le_refl _⟩, ⟨by (with_reducible repeat (first | apply Kd.R_alloc | apply Kd.R_drewN | apply Kd.R_drew)); exact Kd.R_mono HO823.out (fun _ hk => ⟨hk.1, ⟨hk.2.2.1, ⟨hk.2.2.2.1, hk.2.2.2.2.2.1⟩⟩⟩)⟩, ⟨by (with_reducible repeat (first | apply Kd.R_alloc | apply Kd.R_drewN | apply Kd.R_drew)); exact Kd.R_mono HO831.out (fun _ hk => ⟨hk.1, ⟨hk.2.2.1, ⟨hk.2.2.2.1, hk.2.2.2.2.2.1⟩⟩⟩)⟩, ⟨by (with_reducible repeat (first | apply Kd.R_alloc | apply Kd.R_drewN | apply Kd.R_drew)); exact Kd.R_mono HO841.out (fun _ hk => ⟨hk.1, ⟨hk.2.1, ⟨hk.2.2.2.1, hk.2.2.2.2.2.1⟩⟩⟩)⟩, ⟨by (with_reducible repeat (first | apply Kd.R_alloc | apply Kd.R_drewN | apply Kd.R_drew)); exact Kd.R_mono HO846.out (fun _ hk => ⟨hk.1, ⟨hk.2.1, ⟨hk.2.2.2.1, hk.2.2.2.2.2.1⟩⟩⟩)⟩, ⟨bk BK8⟩, ⟨bk BK9⟩, ⟨bk BK10⟩, ⟨bk BK12⟩, ⟨bk BK13⟩, ⟨bw HB⟩⟩
 have c396b0 : (t861 != t863) = false := by simpa using c396
 (try (have c396b1 : decide (t861 = t863) = true := by simpa using c396))
 (try (have c396b2 : (t861 == t863) = true := by simpa using c396))
 clear c396
 replace H := bindS H; obtain ⟨t871, A399, H⟩ := H
 replace H := bindS H; obtain ⟨t872, A400, H⟩ := H
 have H' := Aside0.mk H
 clear H
 have H := H'.out
 clear H'
 replace H := iteC H; rcases H with ⟨c401, H⟩ | ⟨c401, H⟩
 ·
  have c401b0 : (t871 != t872) = true := c401
  (try (have c401b1 : decide (t871 = t872) = false := by simpa using c401))
  (try (have c401b2 : (t871 == t872) = false := by simpa using c401))
  (try (have c401b3 : ¬ (t871 = t872) := by simpa using c401))
  clear c401
  have H' := Aside0.mk H
  clear H
  generalize (((w372.setCell ⟨gb17, 0, none⟩ (.int .i64 t865)).setCell ⟨gb17, 1, none⟩ (.int .i64 t866)).setCell ⟨gb17, 2, none⟩ (.int .i64 t867)) = w402 at n0_ n1_ n2_ n3_ n4_ n5_ n6_ n7_ n8_ n9_ n10_ n11_ n12_ n13_ n14_ n15_ n16_ ⊢
  have HO823 := n0_
  have HO831 := n1_
  have HO836 := n2_
  have HO841 := n3_
  have HO846 := n4_
  have HO851 := n5_
  have BK8 := n6_
  have BK9 := n7_
  have BK10 := n8_
  have BK11 := n9_
  have BK12 := n10_
  have BK13 := n11_
  have BK14 := n12_
  have BK15 := n13_
  have BK16 := n14_
  have BK17 := n15_
  have HB := n16_
  clear n0_ n1_ n2_ n3_ n4_ n5_ n6_ n7_ n8_ n9_ n10_ n11_ n12_ n13_ n14_ n15_ n16_
  replace HO823 := od HO823
  replace HO831 := od HO831
  replace HO836 := od HO836
  replace HO841 := od HO841
  replace HO846 := od HO846
  replace HO851 := od HO851
  refine md8 BK8 BK9 BK10 BK11 BK12 BK13 BK14 BK15 ?_
  clear BK8 BK9 BK10 BK11 BK12 BK13 BK14 BK15
  intro BK8 BK9 BK10 BK11 BK12 BK13 BK14 BK15
  refine md2 BK16 BK17 ?_
  clear BK16 BK17
  intro BK16 BK17
  replace HB := Aside0.mk (below_drew1 HB.out)
  refine startK 49 (S := fun w' => w'.cell? ⟨gb10, 0, none⟩ = some (.slice Ao306 t829.length co306) ∧ w'.cell? ⟨gb11, 0, none⟩ = some (.slice Ao314 t834.length co314) ∧ w'.cell? ⟨gb13, 0, none⟩ = some (.slice Ao329 t844.length co329) ∧ w'.cell? ⟨gb14, 0, none⟩ = some (.slice Ao339 t849.length co339) ∧ w'.cell? ⟨gb17, 0, none⟩ = some (.int .i64 t865) ∧ w'.cell? ⟨gb17, 1, none⟩ = some (.int .i64 t866) ∧ w'.cell? ⟨gb17, 2, none⟩ = some (.int .i64 t867)) (ds := []) laws_FnSnailsHidden.tab45 laws_FnSnailsHidden.bits45 (hS := ⟨bc BK10 0, bc BK11 0, bc BK13 0, bc BK14 0, bc BK17 0, bc BK17 1, bc BK17 2⟩) (h := fun hHeld HT_ HW_ => ?_)
  generalize w402.drew = w403 at HO823 HO831 HO836 HO841 HO846 HO851 BK8 BK9 BK10 BK11 BK12 BK13 BK14 BK15 BK16 BK17 HB hHeld ⊢
  refine pureK HT_ 0 (some 333) ?_
  refine pureK HT_ 1 (some 334) ?_
  refine pureK HT_ 2 (some 335) ?_
  refine pureK HT_ 3 (some 336) ?_
  refine pureK HT_ 4 (some 337) ?_
  refine pureK HT_ 6 (some 339) ?_
  refine takeK HT_ HW_ hHeld 5 (some 338) ?_
  refine takeK HT_ HW_ hHeld 7 (some 340) ?_
  refine oneK HT_ 8 (some 341) (fun K hK => ?_)
  refine goes_ Try.func7 (by kernel_rfl) rfl #[.slice Ao306 t829.length co306, .slice Ao314 t834.length co314] (by rfl) rfl rfl argR ?_
  with_reducible refine (laws_qClues.calls kj207 _ _ t829 _ _ t834 true _ ?side1 ?side2 ?side3 ?side4 A386.out).mono ?_
  (case side1 => exact rs HO831)
  (case side2 => exact rl HO831)
  (case side3 => exact rs HO836)
  (case side4 => exact rl HO836)
  rintro e w' ⟨rfl, ⟨nd, rfl⟩⟩
  refine ⟨_, rfl, ?_⟩
  refine hK.out _ _ ⟨bc BK10 0, bc BK11 0, bc BK13 0, bc BK14 0, bc BK17 0, bc BK17 1, bc BK17 2⟩ (fun hHeld => ?_)
  clear hK K
  refine normK (N := some 341) (h := ?_)
  refine pureK HT_ 9 (some 342) ?_
  refine pureK HT_ 10 (some 343) ?_
  refine pureK HT_ 11 (some 344) ?_
  refine pureK HT_ 12 (some 345) ?_
  refine pureK HT_ 13 (some 346) ?_
  refine pureK HT_ 14 (some 347) ?_
  refine pureK HT_ 15 (some 348) ?_
  refine pureK HT_ 16 (some 349) ?_
  refine pureK HT_ 17 (some 350) ?_
  refine pureK HT_ 19 (some 352) ?_
  refine takeK HT_ HW_ hHeld 18 (some 351) ?_
  refine takeK HT_ HW_ hHeld 20 (some 353) ?_
  refine oneK HT_ 21 (some 354) (fun K hK => ?_)
  refine goes_ Try.func7 (by kernel_rfl) rfl #[.slice Ao329 t844.length co329, .slice Ao339 t849.length co339] (by rfl) rfl rfl argR ?_
  with_reducible refine (laws_qClues.calls kj207 _ _ t844 _ _ t849 true _ ?side1 ?side2 ?side3 ?side4 A391.out).mono ?_
  (case side1 => exact rs HO846)
  (case side2 => exact rl HO846)
  (case side3 => exact rs HO851)
  (case side4 => exact rl HO851)
  rintro e w' ⟨rfl, ⟨nd, rfl⟩⟩
  refine ⟨_, rfl, ?_⟩
  refine hK.out _ _ ⟨bc BK10 0, bc BK11 0, bc BK13 0, bc BK14 0, bc BK17 0, bc BK17 1, bc BK17 2⟩ (fun hHeld => ?_)
  clear hK K
  refine normK (N := some 354) (h := ?_)
  refine pureK HT_ 22 (some 355) ?_
  refine pureK HT_ 23 (some 356) ?_
  refine pureK HT_ 24 (some 357) ?_
  refine pureK HT_ 25 (some 358) ?_
  refine pureK HT_ 26 (some 359) ?_
  refine pureK HT_ 27 (some 360) ?_
  refine pureK HT_ 28 (some 361) ?_
  refine pureK HT_ 29 (some 362) ?_
  refine pureK HT_ 30 (some 363) ?_
  refine pureK HT_ 31 (some 364) ?_
  refine pureK HT_ 32 (some 365) ?_
  refine pureK HT_ 33 (some 366) ?_
  refine pureK HT_ 34 (some 367) ?_
  refine takeK HT_ HW_ hHeld 35 (some 368) ?_
  refine takeK HT_ HW_ hHeld 37 (some 370) ?_
  refine oneK HT_ 36 (some 369) (fun K hK => ?_)
  refine goes_ Try.func23 (by kernel_rfl) rfl #[.agg #[.int .i64 t865, .int .i64 t866, .int .i64 t867]] (by rfl) rfl rfl argR ?_
  with_reducible refine (impl_IsClue.calls t865 t866 t867 t871 _ A399.out).mono ?_
  rintro e w404 ⟨rfl, hb⟩
  refine ⟨_, rfl, ?_⟩
  replace HO823 := ko HO823 hb
  replace HO831 := ko HO831 hb
  replace HO836 := ko HO836 hb
  replace HO841 := ko HO841 hb
  replace HO846 := ko HO846 hb
  replace HO851 := ko HO851 hb
  refine mv8 hb BK8 BK9 BK10 BK11 BK12 BK13 BK14 BK15 ?_
  clear BK8 BK9 BK10 BK11 BK12 BK13 BK14 BK15
  intro BK8 BK9 BK10 BK11 BK12 BK13 BK14 BK15
  refine mv2 hb BK16 BK17 ?_
  clear BK16 BK17
  intro BK16 BK17
  replace HB := kw HB hb
  (try clear hb)
  (try clear hb2)
  (try clear hk)
  (try clear hi)
  refine hK.out _ _ ⟨bc BK10 0, bc BK11 0, bc BK13 0, bc BK14 0, bc BK17 0, bc BK17 1, bc BK17 2⟩ (fun hHeld => ?_)
  clear hK K
  refine normK (N := some 369) (h := ?_)
  refine oneK HT_ 38 (some 371) (fun K hK => ?_)
  refine goes_ Try.func24 (by kernel_rfl) rfl #[.agg #[.int .i64 t865, .int .i64 t866, .int .i64 t867]] (by rfl) rfl rfl argR ?_
  with_reducible refine (spec_IsClue.calls t865 t866 t867 t872 _ A400.out).mono ?_
  rintro e w405 ⟨rfl, hb⟩
  refine ⟨_, rfl, ?_⟩
  replace HO823 := ko HO823 hb
  replace HO831 := ko HO831 hb
  replace HO836 := ko HO836 hb
  replace HO841 := ko HO841 hb
  replace HO846 := ko HO846 hb
  replace HO851 := ko HO851 hb
  refine mv8 hb BK8 BK9 BK10 BK11 BK12 BK13 BK14 BK15 ?_
  clear BK8 BK9 BK10 BK11 BK12 BK13 BK14 BK15
  intro BK8 BK9 BK10 BK11 BK12 BK13 BK14 BK15
  refine mv2 hb BK16 BK17 ?_
  clear BK16 BK17
  intro BK16 BK17
  replace HB := kw HB hb
  (try clear hb)
  (try clear hb2)
  (try clear hk)
  (try clear hi)
  refine hK.out _ _ ⟨bc BK10 0, bc BK11 0, bc BK13 0, bc BK14 0, bc BK17 0, bc BK17 1, bc BK17 2⟩ (fun hHeld => ?_)
  clear hK K
  refine normK (N := some 371) (h := ?_)
  refine pureK HT_ 39 (some 372) ?_
  refine pureK HT_ 40 (some 373) ?_
  refine pureK HT_ 41 (some 374) ?_
  refine offK HT_ 42 (some 375) ?_
  refine offK HT_ 43 (some 376) ?_
  refine offK HT_ 44 (some 377) ?_
  refine offK HT_ 45 (some 378) ?_
  refine offK HT_ 46 (some 379) ?_
  refine offK HT_ 47 (some 380) ?_
  refine pureK HT_ 48 (some 381) ?_
  refine done_ (done_of HT_.out (by kernel_rfl)) ?_
  try go_wp2
  go_meet
  case rel => exact ⟨_, (true), (by first | rfl | (simp; done) | (simp [*]; done)), H', ⟨by have := HJ7.out; have := HJ31.out; have := HJ168.out; have := HJ207.out; first | omega | exact Nat.le_refl _⟩, ⟨by (with_reducible repeat (first | apply Kd.R_alloc | apply Kd.R_drewN | apply Kd.R_drew)); exact Kd.R_mono HO823.out (fun _ hk => ⟨hk.1, ⟨hk.2.2.1, ⟨hk.2.2.2.1, hk.2.2.2.2.2.1⟩⟩⟩)⟩, ⟨by (with_reducible repeat (first | apply Kd.R_alloc | apply Kd.R_drewN | apply Kd.R_drew)); exact Kd.R_mono HO831.out (fun _ hk => ⟨hk.1, ⟨hk.2.2.1, ⟨hk.2.2.2.1, hk.2.2.2.2.2.1⟩⟩⟩)⟩, ⟨by (with_reducible repeat (first | apply Kd.R_alloc | apply Kd.R_drewN | apply Kd.R_drew)); exact Kd.R_mono HO841.out (fun _ hk => ⟨hk.1, ⟨hk.2.1, ⟨hk.2.2.2.1, hk.2.2.2.2.2.1⟩⟩⟩)⟩, ⟨by (with_reducible repeat (first | apply Kd.R_alloc | apply Kd.R_drewN | apply Kd.R_drew)); exact Kd.R_mono HO846.out (fun _ hk => ⟨hk.1, ⟨hk.2.1, ⟨hk.2.2.2.1, hk.2.2.2.2.2.1⟩⟩⟩)⟩, ⟨bk BK8⟩, ⟨bk BK9⟩, ⟨bk BK10⟩, ⟨bk BK12⟩, ⟨bk BK13⟩, ⟨bw HB⟩⟩
 have c401b0 : (t871 != t872) = false := by simpa using c401
 (try (have c401b1 : decide (t871 = t872) = true := by simpa using c401))
 (try (have c401b2 : (t871 == t872) = true := by simpa using c401))
 clear c401
 have H' := Aside0.mk H
 clear H
 have H := H'.out
 clear H'
 replace H := iteB H; rcases H with ⟨rfl, H⟩ | ⟨rfl, H⟩
 rotate_left
 ·
  have H' := Aside0.mk H
  clear H
  generalize (((w372.setCell ⟨gb17, 0, none⟩ (.int .i64 t865)).setCell ⟨gb17, 1, none⟩ (.int .i64 t866)).setCell ⟨gb17, 2, none⟩ (.int .i64 t867)) = w413 at n0_ n1_ n2_ n3_ n4_ n5_ n6_ n7_ n8_ n9_ n10_ n11_ n12_ n13_ n14_ n15_ n16_ ⊢
  have HO823 := n0_
  have HO831 := n1_
  have HO836 := n2_
  have HO841 := n3_
  have HO846 := n4_
  have HO851 := n5_
  have BK8 := n6_
  have BK9 := n7_
  have BK10 := n8_
  have BK11 := n9_
  have BK12 := n10_
  have BK13 := n11_
  have BK14 := n12_
  have BK15 := n13_
  have BK16 := n14_
  have BK17 := n15_
  have HB := n16_
  clear n0_ n1_ n2_ n3_ n4_ n5_ n6_ n7_ n8_ n9_ n10_ n11_ n12_ n13_ n14_ n15_ n16_
  replace HO823 := od HO823
  replace HO831 := od HO831
  replace HO836 := od HO836
  replace HO841 := od HO841
  replace HO846 := od HO846
  replace HO851 := od HO851
  refine md8 BK8 BK9 BK10 BK11 BK12 BK13 BK14 BK15 ?_
  clear BK8 BK9 BK10 BK11 BK12 BK13 BK14 BK15
  intro BK8 BK9 BK10 BK11 BK12 BK13 BK14 BK15
  refine md2 BK16 BK17 ?_
  clear BK16 BK17
  intro BK16 BK17
  replace HB := Aside0.mk (below_drew1 HB.out)
  refine startK 49 (S := fun w' => w'.cell? ⟨gb10, 0, none⟩ = some (.slice Ao306 t829.length co306) ∧ w'.cell? ⟨gb11, 0, none⟩ = some (.slice Ao314 t834.length co314) ∧ w'.cell? ⟨gb13, 0, none⟩ = some (.slice Ao329 t844.length co329) ∧ w'.cell? ⟨gb14, 0, none⟩ = some (.slice Ao339 t849.length co339) ∧ w'.cell? ⟨gb17, 0, none⟩ = some (.int .i64 t865) ∧ w'.cell? ⟨gb17, 1, none⟩ = some (.int .i64 t866) ∧ w'.cell? ⟨gb17, 2, none⟩ = some (.int .i64 t867)) (ds := []) laws_FnSnailsHidden.tab45 laws_FnSnailsHidden.bits45 (hS := ⟨bc BK10 0, bc BK11 0, bc BK13 0, bc BK14 0, bc BK17 0, bc BK17 1, bc BK17 2⟩) (h := fun hHeld HT_ HW_ => ?_)
  generalize w413.drew = w414 at HO823 HO831 HO836 HO841 HO846 HO851 BK8 BK9 BK10 BK11 BK12 BK13 BK14 BK15 BK16 BK17 HB hHeld ⊢
  refine pureK HT_ 0 (some 333) ?_
  refine pureK HT_ 1 (some 334) ?_
  refine pureK HT_ 2 (some 335) ?_
  refine pureK HT_ 3 (some 336) ?_
  refine pureK HT_ 4 (some 337) ?_
  refine pureK HT_ 6 (some 339) ?_
  refine takeK HT_ HW_ hHeld 5 (some 338) ?_
  refine takeK HT_ HW_ hHeld 7 (some 340) ?_
  refine oneK HT_ 8 (some 341) (fun K hK => ?_)
  refine goes_ Try.func7 (by kernel_rfl) rfl #[.slice Ao306 t829.length co306, .slice Ao314 t834.length co314] (by rfl) rfl rfl argR ?_
  with_reducible refine (laws_qClues.calls kj207 _ _ t829 _ _ t834 true _ ?side1 ?side2 ?side3 ?side4 A386.out).mono ?_
  (case side1 => exact rs HO831)
  (case side2 => exact rl HO831)
  (case side3 => exact rs HO836)
  (case side4 => exact rl HO836)
  rintro e w' ⟨rfl, ⟨nd, rfl⟩⟩
  refine ⟨_, rfl, ?_⟩
  refine hK.out _ _ ⟨bc BK10 0, bc BK11 0, bc BK13 0, bc BK14 0, bc BK17 0, bc BK17 1, bc BK17 2⟩ (fun hHeld => ?_)
  clear hK K
  refine normK (N := some 341) (h := ?_)
  refine pureK HT_ 9 (some 342) ?_
  refine pureK HT_ 10 (some 343) ?_
  refine pureK HT_ 11 (some 344) ?_
  refine pureK HT_ 12 (some 345) ?_
  refine pureK HT_ 13 (some 346) ?_
  refine pureK HT_ 14 (some 347) ?_
  refine pureK HT_ 15 (some 348) ?_
  refine pureK HT_ 16 (some 349) ?_
  refine pureK HT_ 17 (some 350) ?_
  refine pureK HT_ 19 (some 352) ?_
  refine takeK HT_ HW_ hHeld 18 (some 351) ?_
  refine takeK HT_ HW_ hHeld 20 (some 353) ?_
  refine oneK HT_ 21 (some 354) (fun K hK => ?_)
  refine goes_ Try.func7 (by kernel_rfl) rfl #[.slice Ao329 t844.length co329, .slice Ao339 t849.length co339] (by rfl) rfl rfl argR ?_
  with_reducible refine (laws_qClues.calls kj207 _ _ t844 _ _ t849 true _ ?side1 ?side2 ?side3 ?side4 A391.out).mono ?_
  (case side1 => exact rs HO846)
  (case side2 => exact rl HO846)
  (case side3 => exact rs HO851)
  (case side4 => exact rl HO851)
  rintro e w' ⟨rfl, ⟨nd, rfl⟩⟩
  refine ⟨_, rfl, ?_⟩
  refine hK.out _ _ ⟨bc BK10 0, bc BK11 0, bc BK13 0, bc BK14 0, bc BK17 0, bc BK17 1, bc BK17 2⟩ (fun hHeld => ?_)
  clear hK K
  refine normK (N := some 354) (h := ?_)
  refine pureK HT_ 22 (some 355) ?_
  refine pureK HT_ 23 (some 356) ?_
  refine pureK HT_ 24 (some 357) ?_
  refine pureK HT_ 25 (some 358) ?_
  refine pureK HT_ 26 (some 359) ?_
  refine pureK HT_ 27 (some 360) ?_
  refine pureK HT_ 28 (some 361) ?_
  refine pureK HT_ 29 (some 362) ?_
  refine pureK HT_ 30 (some 363) ?_
  refine pureK HT_ 31 (some 364) ?_
  refine pureK HT_ 32 (some 365) ?_
  refine pureK HT_ 33 (some 366) ?_
  refine pureK HT_ 34 (some 367) ?_
  refine takeK HT_ HW_ hHeld 35 (some 368) ?_
  refine takeK HT_ HW_ hHeld 37 (some 370) ?_
  refine oneK HT_ 36 (some 369) (fun K hK => ?_)
  refine goes_ Try.func23 (by kernel_rfl) rfl #[.agg #[.int .i64 t865, .int .i64 t866, .int .i64 t867]] (by rfl) rfl rfl argR ?_
  with_reducible refine (impl_IsClue.calls t865 t866 t867 t871 _ A399.out).mono ?_
  rintro e w415 ⟨rfl, hb⟩
  refine ⟨_, rfl, ?_⟩
  replace HO823 := ko HO823 hb
  replace HO831 := ko HO831 hb
  replace HO836 := ko HO836 hb
  replace HO841 := ko HO841 hb
  replace HO846 := ko HO846 hb
  replace HO851 := ko HO851 hb
  refine mv8 hb BK8 BK9 BK10 BK11 BK12 BK13 BK14 BK15 ?_
  clear BK8 BK9 BK10 BK11 BK12 BK13 BK14 BK15
  intro BK8 BK9 BK10 BK11 BK12 BK13 BK14 BK15
  refine mv2 hb BK16 BK17 ?_
  clear BK16 BK17
  intro BK16 BK17
  replace HB := kw HB hb
  (try clear hb)
  (try clear hb2)
  (try clear hk)
  (try clear hi)
  refine hK.out _ _ ⟨bc BK10 0, bc BK11 0, bc BK13 0, bc BK14 0, bc BK17 0, bc BK17 1, bc BK17 2⟩ (fun hHeld => ?_)
  clear hK K
  refine normK (N := some 369) (h := ?_)
  refine oneK HT_ 38 (some 371) (fun K hK => ?_)
  refine goes_ Try.func24 (by kernel_rfl) rfl #[.agg #[.int .i64 t865, .int .i64 t866, .int .i64 t867]] (by rfl) rfl rfl argR ?_
  with_reducible refine (spec_IsClue.calls t865 t866 t867 t872 _ A400.out).mono ?_
  rintro e w416 ⟨rfl, hb⟩
  refine ⟨_, rfl, ?_⟩
  replace HO823 := ko HO823 hb
  replace HO831 := ko HO831 hb
  replace HO836 := ko HO836 hb
  replace HO841 := ko HO841 hb
  replace HO846 := ko HO846 hb
  replace HO851 := ko HO851 hb
  refine mv8 hb BK8 BK9 BK10 BK11 BK12 BK13 BK14 BK15 ?_
  clear BK8 BK9 BK10 BK11 BK12 BK13 BK14 BK15
  intro BK8 BK9 BK10 BK11 BK12 BK13 BK14 BK15
  refine mv2 hb BK16 BK17 ?_
  clear BK16 BK17
  intro BK16 BK17
  replace HB := kw HB hb
  (try clear hb)
  (try clear hb2)
  (try clear hk)
  (try clear hi)
  refine hK.out _ _ ⟨bc BK10 0, bc BK11 0, bc BK13 0, bc BK14 0, bc BK17 0, bc BK17 1, bc BK17 2⟩ (fun hHeld => ?_)
  clear hK K
  refine normK (N := some 371) (h := ?_)
  refine pureK HT_ 39 (some 372) ?_
  refine pureK HT_ 40 (some 373) ?_
  refine pureK HT_ 41 (some 374) ?_
  refine pureK HT_ 42 (some 375) ?_
  refine pureK HT_ 43 (some 376) ?_
  refine offK HT_ 44 (some 377) ?_
  refine offK HT_ 45 (some 378) ?_
  refine offK HT_ 46 (some 379) ?_
  refine pureK HT_ 47 (some 380) ?_
  refine pureK HT_ 48 (some 381) ?_
  refine done_ (done_of HT_.out (by kernel_rfl)) ?_
  try go_wp2
  go_meet
  case rel => exact ⟨_, (false), (by first | rfl | (simp; done) | (simp [*]; done)), H', ⟨by have := HJ7.out; have := HJ31.out; have := HJ168.out; have := HJ207.out; first | omega | exact Nat.le_refl _⟩, ⟨by (with_reducible repeat (first | apply Kd.R_alloc | apply Kd.R_drewN | apply Kd.R_drew)); exact Kd.R_mono HO823.out (fun _ hk => ⟨hk.1, ⟨hk.2.2.1, ⟨hk.2.2.2.1, hk.2.2.2.2.2.1⟩⟩⟩)⟩, ⟨by (with_reducible repeat (first | apply Kd.R_alloc | apply Kd.R_drewN | apply Kd.R_drew)); exact Kd.R_mono HO831.out (fun _ hk => ⟨hk.1, ⟨hk.2.2.1, ⟨hk.2.2.2.1, hk.2.2.2.2.2.1⟩⟩⟩)⟩, ⟨by (with_reducible repeat (first | apply Kd.R_alloc | apply Kd.R_drewN | apply Kd.R_drew)); exact Kd.R_mono HO841.out (fun _ hk => ⟨hk.1, ⟨hk.2.1, ⟨hk.2.2.2.1, hk.2.2.2.2.2.1⟩⟩⟩)⟩, ⟨by (with_reducible repeat (first | apply Kd.R_alloc | apply Kd.R_drewN | apply Kd.R_drew)); exact Kd.R_mono HO846.out (fun _ hk => ⟨hk.1, ⟨hk.2.1, ⟨hk.2.2.2.1, hk.2.2.2.2.2.1⟩⟩⟩)⟩, ⟨bk BK8⟩, ⟨bk BK9⟩, ⟨bk BK10⟩, ⟨bk BK12⟩, ⟨bk BK13⟩, ⟨bw HB⟩⟩
 replace H := bindS H; obtain ⟨t873, A407, H⟩ := H
 have H' := Aside0.mk H
 clear H
 generalize (((w372.setCell ⟨gb17, 0, none⟩ (.int .i64 t865)).setCell ⟨gb17, 1, none⟩ (.int .i64 t866)).setCell ⟨gb17, 2, none⟩ (.int .i64 t867)) = w408 at n0_ n1_ n2_ n3_ n4_ n5_ n6_ n7_ n8_ n9_ n10_ n11_ n12_ n13_ n14_ n15_ n16_ ⊢
 have HO823 := n0_
 have HO831 := n1_
 have HO836 := n2_
 have HO841 := n3_
 have HO846 := n4_
 have HO851 := n5_
 have BK8 := n6_
 have BK9 := n7_
 have BK10 := n8_
 have BK11 := n9_
 have BK12 := n10_
 have BK13 := n11_
 have BK14 := n12_
 have BK15 := n13_
 have BK16 := n14_
 have BK17 := n15_
 have HB := n16_
 clear n0_ n1_ n2_ n3_ n4_ n5_ n6_ n7_ n8_ n9_ n10_ n11_ n12_ n13_ n14_ n15_ n16_
 replace HO823 := od HO823
 replace HO831 := od HO831
 replace HO836 := od HO836
 replace HO841 := od HO841
 replace HO846 := od HO846
 replace HO851 := od HO851
 refine md8 BK8 BK9 BK10 BK11 BK12 BK13 BK14 BK15 ?_
 clear BK8 BK9 BK10 BK11 BK12 BK13 BK14 BK15
 intro BK8 BK9 BK10 BK11 BK12 BK13 BK14 BK15
 refine md2 BK16 BK17 ?_
 clear BK16 BK17
 intro BK16 BK17
 replace HB := Aside0.mk (below_drew1 HB.out)
 refine startK 49 (S := fun w' => w'.cell? ⟨gb10, 0, none⟩ = some (.slice Ao306 t829.length co306) ∧ w'.cell? ⟨gb11, 0, none⟩ = some (.slice Ao314 t834.length co314) ∧ w'.cell? ⟨gb13, 0, none⟩ = some (.slice Ao329 t844.length co329) ∧ w'.cell? ⟨gb14, 0, none⟩ = some (.slice Ao339 t849.length co339) ∧ w'.cell? ⟨gb17, 0, none⟩ = some (.int .i64 t865) ∧ w'.cell? ⟨gb17, 1, none⟩ = some (.int .i64 t866) ∧ w'.cell? ⟨gb17, 2, none⟩ = some (.int .i64 t867) ∧ w'.cell? ⟨gb15, 0, none⟩ = some (.int .i64 t854) ∧ w'.cell? ⟨gb15, 1, none⟩ = some (.int .i64 t855) ∧ w'.cell? ⟨gb15, 2, none⟩ = some (.int .i64 t856)) (ds := []) laws_FnSnailsHidden.tab45 laws_FnSnailsHidden.bits45 (hS := ⟨bc BK10 0, bc BK11 0, bc BK13 0, bc BK14 0, bc BK17 0, bc BK17 1, bc BK17 2, bc BK15 0, bc BK15 1, bc BK15 2⟩) (h := fun hHeld HT_ HW_ => ?_)
 generalize w408.drew = w409 at HO823 HO831 HO836 HO841 HO846 HO851 BK8 BK9 BK10 BK11 BK12 BK13 BK14 BK15 BK16 BK17 HB hHeld ⊢
 refine pureK HT_ 0 (some 333) ?_
 refine pureK HT_ 1 (some 334) ?_
 refine pureK HT_ 2 (some 335) ?_
 refine pureK HT_ 3 (some 336) ?_
 refine pureK HT_ 4 (some 337) ?_
 refine pureK HT_ 6 (some 339) ?_
 refine takeK HT_ HW_ hHeld 5 (some 338) ?_
 refine takeK HT_ HW_ hHeld 7 (some 340) ?_
 refine oneK HT_ 8 (some 341) (fun K hK => ?_)
 refine goes_ Try.func7 (by kernel_rfl) rfl #[.slice Ao306 t829.length co306, .slice Ao314 t834.length co314] (by rfl) rfl rfl argR ?_
 with_reducible refine (laws_qClues.calls kj207 _ _ t829 _ _ t834 true _ ?side1 ?side2 ?side3 ?side4 A386.out).mono ?_
 (case side1 => exact rs HO831)
 (case side2 => exact rl HO831)
 (case side3 => exact rs HO836)
 (case side4 => exact rl HO836)
 rintro e w' ⟨rfl, ⟨nd, rfl⟩⟩
 refine ⟨_, rfl, ?_⟩
 refine hK.out _ _ ⟨bc BK10 0, bc BK11 0, bc BK13 0, bc BK14 0, bc BK17 0, bc BK17 1, bc BK17 2, bc BK15 0, bc BK15 1, bc BK15 2⟩ (fun hHeld => ?_)
 clear hK K
 refine normK (N := some 341) (h := ?_)
 refine pureK HT_ 9 (some 342) ?_
 refine pureK HT_ 10 (some 343) ?_
 refine pureK HT_ 11 (some 344) ?_
 refine pureK HT_ 12 (some 345) ?_
 refine pureK HT_ 13 (some 346) ?_
 refine pureK HT_ 14 (some 347) ?_
 refine pureK HT_ 15 (some 348) ?_
 refine pureK HT_ 16 (some 349) ?_
 refine pureK HT_ 17 (some 350) ?_
 refine pureK HT_ 19 (some 352) ?_
 refine takeK HT_ HW_ hHeld 18 (some 351) ?_
 refine takeK HT_ HW_ hHeld 20 (some 353) ?_
 refine oneK HT_ 21 (some 354) (fun K hK => ?_)
 refine goes_ Try.func7 (by kernel_rfl) rfl #[.slice Ao329 t844.length co329, .slice Ao339 t849.length co339] (by rfl) rfl rfl argR ?_
 with_reducible refine (laws_qClues.calls kj207 _ _ t844 _ _ t849 true _ ?side1 ?side2 ?side3 ?side4 A391.out).mono ?_
 (case side1 => exact rs HO846)
 (case side2 => exact rl HO846)
 (case side3 => exact rs HO851)
 (case side4 => exact rl HO851)
 rintro e w' ⟨rfl, ⟨nd, rfl⟩⟩
 refine ⟨_, rfl, ?_⟩
 refine hK.out _ _ ⟨bc BK10 0, bc BK11 0, bc BK13 0, bc BK14 0, bc BK17 0, bc BK17 1, bc BK17 2, bc BK15 0, bc BK15 1, bc BK15 2⟩ (fun hHeld => ?_)
 clear hK K
 refine normK (N := some 354) (h := ?_)
 refine pureK HT_ 22 (some 355) ?_
 refine pureK HT_ 23 (some 356) ?_
 refine pureK HT_ 24 (some 357) ?_
 refine pureK HT_ 25 (some 358) ?_
 refine pureK HT_ 26 (some 359) ?_
 refine pureK HT_ 27 (some 360) ?_
 refine pureK HT_ 28 (some 361) ?_
 refine pureK HT_ 29 (some 362) ?_
 refine pureK HT_ 30 (some 363) ?_
 refine pureK HT_ 31 (some 364) ?_
 refine pureK HT_ 32 (some 365) ?_
 refine pureK HT_ 33 (some 366) ?_
 refine pureK HT_ 34 (some 367) ?_
 refine takeK HT_ HW_ hHeld 35 (some 368) ?_
 refine takeK HT_ HW_ hHeld 37 (some 370) ?_
 refine oneK HT_ 36 (some 369) (fun K hK => ?_)
 refine goes_ Try.func23 (by kernel_rfl) rfl #[.agg #[.int .i64 t865, .int .i64 t866, .int .i64 t867]] (by rfl) rfl rfl argR ?_
 with_reducible refine (impl_IsClue.calls t865 t866 t867 t871 _ A399.out).mono ?_
 rintro e w410 ⟨rfl, hb⟩
 refine ⟨_, rfl, ?_⟩
 replace HO823 := ko HO823 hb
 replace HO831 := ko HO831 hb
 replace HO836 := ko HO836 hb
 replace HO841 := ko HO841 hb
 replace HO846 := ko HO846 hb
 replace HO851 := ko HO851 hb
 refine mv8 hb BK8 BK9 BK10 BK11 BK12 BK13 BK14 BK15 ?_
 clear BK8 BK9 BK10 BK11 BK12 BK13 BK14 BK15
 intro BK8 BK9 BK10 BK11 BK12 BK13 BK14 BK15
 refine mv2 hb BK16 BK17 ?_
 clear BK16 BK17
 intro BK16 BK17
 replace HB := kw HB hb
 (try clear hb)
 (try clear hb2)
 (try clear hk)
 (try clear hi)
 refine hK.out _ _ ⟨bc BK10 0, bc BK11 0, bc BK13 0, bc BK14 0, bc BK17 0, bc BK17 1, bc BK17 2, bc BK15 0, bc BK15 1, bc BK15 2⟩ (fun hHeld => ?_)
 clear hK K
 refine normK (N := some 369) (h := ?_)
 refine oneK HT_ 38 (some 371) (fun K hK => ?_)
 refine goes_ Try.func24 (by kernel_rfl) rfl #[.agg #[.int .i64 t865, .int .i64 t866, .int .i64 t867]] (by rfl) rfl rfl argR ?_
 with_reducible refine (spec_IsClue.calls t865 t866 t867 t872 _ A400.out).mono ?_
 rintro e w411 ⟨rfl, hb⟩
 refine ⟨_, rfl, ?_⟩
 replace HO823 := ko HO823 hb
 replace HO831 := ko HO831 hb
 replace HO836 := ko HO836 hb
 replace HO841 := ko HO841 hb
 replace HO846 := ko HO846 hb
 replace HO851 := ko HO851 hb
 refine mv8 hb BK8 BK9 BK10 BK11 BK12 BK13 BK14 BK15 ?_
 clear BK8 BK9 BK10 BK11 BK12 BK13 BK14 BK15
 intro BK8 BK9 BK10 BK11 BK12 BK13 BK14 BK15
 refine mv2 hb BK16 BK17 ?_
 clear BK16 BK17
 intro BK16 BK17
 replace HB := kw HB hb
 (try clear hb)
 (try clear hb2)
 (try clear hk)
 (try clear hi)
 refine hK.out _ _ ⟨bc BK10 0, bc BK11 0, bc BK13 0, bc BK14 0, bc BK17 0, bc BK17 1, bc BK17 2, bc BK15 0, bc BK15 1, bc BK15 2⟩ (fun hHeld => ?_)
 clear hK K
 refine normK (N := some 371) (h := ?_)
 refine pureK HT_ 39 (some 372) ?_
 refine pureK HT_ 40 (some 373) ?_
 refine pureK HT_ 41 (some 374) ?_
 refine pureK HT_ 42 (some 375) ?_
 refine pureK HT_ 43 (some 376) ?_
 refine takeK HT_ HW_ hHeld 44 (some 377) ?_
 refine oneK HT_ 45 (some 378) (fun K hK => ?_)
 refine goes_ Try.func23 (by kernel_rfl) rfl #[.agg #[.int .i64 t854, .int .i64 t855, .int .i64 t856]] (by rfl) rfl rfl argR ?_
 with_reducible refine (impl_IsClue.calls t854 t855 t856 t873 _ A407.out).mono ?_
 rintro e w412 ⟨rfl, hb⟩
 refine ⟨_, rfl, ?_⟩
 replace HO823 := ko HO823 hb
 replace HO831 := ko HO831 hb
 replace HO836 := ko HO836 hb
 replace HO841 := ko HO841 hb
 replace HO846 := ko HO846 hb
 replace HO851 := ko HO851 hb
 refine mv8 hb BK8 BK9 BK10 BK11 BK12 BK13 BK14 BK15 ?_
 clear BK8 BK9 BK10 BK11 BK12 BK13 BK14 BK15
 intro BK8 BK9 BK10 BK11 BK12 BK13 BK14 BK15
 refine mv2 hb BK16 BK17 ?_
 clear BK16 BK17
 intro BK16 BK17
 replace HB := kw HB hb
 (try clear hb)
 (try clear hb2)
 (try clear hk)
 (try clear hi)
 refine hK.out _ _ ⟨bc BK10 0, bc BK11 0, bc BK13 0, bc BK14 0, bc BK17 0, bc BK17 1, bc BK17 2, bc BK15 0, bc BK15 1, bc BK15 2⟩ (fun hHeld => ?_)
 clear hK K
 refine normK (N := some 378) (h := ?_)
 refine pureK HT_ 46 (some 379) ?_
 refine pureK HT_ 47 (some 380) ?_
 refine pureK HT_ 48 (some 381) ?_
 refine done_ (done_of HT_.out (by kernel_rfl)) ?_
 try go_wp2
 go_meet
 case rel => exact ⟨_, (!t873), (by first | rfl | (simp; done) | (simp [*]; done)), H', ⟨by have := HJ7.out; have := HJ31.out; have := HJ168.out; have := HJ207.out; first | omega | exact Nat.le_refl _⟩, ⟨by (with_reducible repeat (first | apply Kd.R_alloc | apply Kd.R_drewN | apply Kd.R_drew)); exact Kd.R_mono HO823.out (fun _ hk => ⟨hk.1, ⟨hk.2.2.1, ⟨hk.2.2.2.1, hk.2.2.2.2.2.1⟩⟩⟩)⟩, ⟨by (with_reducible repeat (first | apply Kd.R_alloc | apply Kd.R_drewN | apply Kd.R_drew)); exact Kd.R_mono HO831.out (fun _ hk => ⟨hk.1, ⟨hk.2.2.1, ⟨hk.2.2.2.1, hk.2.2.2.2.2.1⟩⟩⟩)⟩, ⟨by (with_reducible repeat (first | apply Kd.R_alloc | apply Kd.R_drewN | apply Kd.R_drew)); exact Kd.R_mono HO841.out (fun _ hk => ⟨hk.1, ⟨hk.2.1, ⟨hk.2.2.2.1, hk.2.2.2.2.2.1⟩⟩⟩)⟩, ⟨by (with_reducible repeat (first | apply Kd.R_alloc | apply Kd.R_drewN | apply Kd.R_drew)); exact Kd.R_mono HO846.out (fun _ hk => ⟨hk.1, ⟨hk.2.1, ⟨hk.2.2.2.1, hk.2.2.2.2.2.1⟩⟩⟩)⟩, ⟨bk BK8⟩, ⟨bk BK9⟩, ⟨bk BK10⟩, ⟨bk BK12⟩, ⟨bk BK13⟩, ⟨bw HB⟩⟩

end Go.Proofs.Ytlpjooijkeadbaa.PH

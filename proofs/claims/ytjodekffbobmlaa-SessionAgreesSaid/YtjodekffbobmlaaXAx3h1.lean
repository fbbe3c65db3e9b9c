/- Go functions of this seat as Lean functions, with proofs that the calls come to them. (Written by xprint.py, a program of this session, over the kit's print.) -/
import Derived.Test.YtjodekffbobmlaaXAx0
import Derived.Test.YtjodekffbobmlaaXAx1
import Derived.Test.YtjodekffbobmlaaXAx2
import Derived.Test.YtjodekffbobmlaaXAx3d
import Derived.Test.YtjodekffbobmlaaXAh
namespace Go.Proofs.Ytjodekffbobmlaa.XA
open Go.RowKit Go.Proofs.YtjodekffbobmlaaW.PrintWords Go.Proofs.YtjodekffbobmlaaW.PrintLast Go.Proofs.YtjodekffbobmlaaW.PrintMore
attribute [local go_sem] max2_int min2_int max_two min_two max_three min_three max_four min_four   -- for this text's walks alone
set_option linter.unusedVariables false
set_option linter.unusedSimpArgs false
open List renaming setIfInBounds_toArray → xA, set_cons_zero → xB, set_cons_succ → xC
open Go.Proofs.YtjodekffbobmlaaW.PrintWords renaming blk_drewN → bN, blk_drew → bD, blk_alloc → bA, below_set → bS, blk_frozen → bF, blk_cell → bC, cell_far → cF, blk_far → bZ, blk_below → bB, pw_below_drewN → bwN, below_drew1 → bw1, below_alloc → bwA
open Go.Proofs.YtjodekffbobmlaaW.PrintZ
open Bool renaming true → T,false → F

/-! ### half1: a part of YtjodekffbobmlaaXAx3 -/
set_option maxHeartbeats 8000000 in
set_option maxRecDepth 100000 in
theorem half1 : ∀ (k : Nat) (a0_0 a0_1 : Int) (A1 : Option Go.Addr) (c1 : Nat) (l1 : List S33) (r : Bool) (w : World), Try.prog.underlying 23 = Option.some (Go.TypeDesc.array 2 22) → Try.prog.underlying 27 = Option.some (Go.TypeDesc.array 2 26) → Try.prog.underlying 26 = Option.some (Go.TypeDesc.struct #[{ name := "Mine", type := 22, offset := 0, embedded := Bool.false, tag := "", pkgPath := "", byteOffset := 0 }, { name := "Peer", type := 22, offset := 1, embedded := Bool.false, tag := "", pkgPath := "", byteOffset := 8 }, { name := "Up", type := 4, offset := 2, embedded := Bool.false, tag := "", pkgPath := "", byteOffset := 16 }, { name := "Silent", type := 3, offset := 3, embedded := Bool.false, tag := "", pkgPath := "", byteOffset := 24 }]) → Try.prog.underlying 33 = Option.some (Go.TypeDesc.struct #[{ name := "End", type := 3, offset := 0, embedded := Bool.false, tag := "", pkgPath := "", byteOffset := 0 }, { name := "Do", type := 3, offset := 1, embedded := Bool.false, tag := "", pkgPath := "", byteOffset := 8 }, { name := "I", type := 3, offset := 2, embedded := Bool.false, tag := "", pkgPath := "", byteOffset := 16 }, { name := "Life", type := 3, offset := 3, embedded := Bool.false, tag := "", pkgPath := "", byteOffset := 24 }]) → Try.prog.underlying 50 = Option.some (Go.TypeDesc.struct #[{ name := "from", type := 3, offset := 0, embedded := Bool.false, tag := "", pkgPath := "beacon/beaconlaw12", byteOffset := 0 }, { name := "nonce", type := 22, offset := 1, embedded := Bool.false, tag := "", pkgPath := "beacon/beaconlaw12", byteOffset := 8 }, { name := "echo", type := 22, offset := 2, embedded := Bool.false, tag := "", pkgPath := "beacon/beaconlaw12", byteOffset := 16 }]) → Aside0 (k33.C w A1 l1.length l1) → Aside0 (l1.length ≤ c1) → Aside0 (r = Bool.true) → let xx1 := Go.bodyPost Try.prog Try.f5 fun (e : Go.Ending) (w' : World) => e = Go.Ending.returned (Value.bool r) ∧ Below w.heap.size w w'; ∀ (G149 : Nat) (w3 : World), Aside0 (w.heap.size ≤ G149) → Aside0 (w.heap.size ≤ G149) → ∀ (G150 : Nat) (w4 : World), Aside0 (w4.heap[G150]? = Option.some (Go.Obj.cells #[Value.int IntKind.u64 0, Value.int IntKind.u64 0, Value.bool Bool.false, Value.int IntKind.i64 0, Value.int IntKind.u64 0, Value.int IntKind.u64 0, Value.bool Bool.false, Value.int IntKind.i64 0] 27)) → Aside0 (w.heap.size ≤ G150) → Aside0 (w.heap.size ≤ G150) → Aside0 (Below w.heap.size w w4) → Aside0 (G149 ≠ G150) → Aside0 (G150 ≠ G149) → Aside0 (w4.heap[G149]? = Option.some (Go.Obj.cells #[Value.int IntKind.u64 a0_0, Value.int IntKind.u64 a0_1] 23)) → ∀ (xx5 : Act → World → Prop) (xx6 : World) (xx7 u7 u8 u21 u22 u23 u24 u25 u26 u27 u28 u29 u30 u31 u32 u33 u34 u35 u36 u37 u38 u39 u40 u41 u42 u43 : Go.Value) (xx8 : Nat → Act → World → Prop) (xx9 : Act → World → Prop), (∀ (k_1 : Nat) (a' : Act) (w' : World), (∃ (u4 : Go.Value), ∃ (u6 : Go.Value), ∃ (u7 : Go.Value), ∃ (u8 : Go.Value), ∃ (u21 : Go.Value), ∃ (u22 : Go.Value), ∃ (u23 : Go.Value), ∃ (u24 : Go.Value), ∃ (u25 : Go.Value), ∃ (u26 : Go.Value), ∃ (u27 : Go.Value), ∃ (u28 : Go.Value), ∃ (u29 : Go.Value), ∃ (u30 : Go.Value), ∃ (u31 : Go.Value), ∃ (u32 : Go.Value), ∃ (u33 : Go.Value), ∃ (u34 : Go.Value), ∃ (u35 : Go.Value), ∃ (u36 : Go.Value), ∃ (u37 : Go.Value), ∃ (u38 : Go.Value), ∃ (u39 : Go.Value), ∃ (u40 : Go.Value), ∃ (u41 : Go.Value), ∃ (u42 : Go.Value), ∃ (u43 : Go.Value), (∃ (x6_1 : Int), ∃ (x151000_1 : Int), ∃ (x151001_1 : Int), ∃ (x151002_1 : Bool), ∃ (x151003_1 : Int), ∃ (x151004_1 : Int), ∃ (x151005_1 : Int), ∃ (x151006_1 : Bool), ∃ (x151007_1 : Int), u6 = Value.int IntKind.i64 x6_1 ∧ Aside0 (beaconlaw12_SessionAgrees.l0 k_1 l1 x6_1 a0_0 a0_1 x151000_1 x151001_1 x151002_1 x151003_1 x151004_1 x151005_1 x151006_1 x151007_1 = Option.some r) ∧ Aside0 (k_1 ≤ k) ∧ Aside0 (w'.heap[G149]? = Option.some (Go.Obj.cells #[Value.int IntKind.u64 a0_0, Value.int IntKind.u64 a0_1] 23)) ∧ Aside0 (w'.heap[G150]? = Option.some (Go.Obj.cells #[Value.int IntKind.u64 x151000_1, Value.int IntKind.u64 x151001_1, Value.bool x151002_1, Value.int IntKind.i64 x151003_1, Value.int IntKind.u64 x151004_1, Value.int IntKind.u64 x151005_1, Value.bool x151006_1, Value.int IntKind.i64 x151007_1] 27)) ∧ Aside0 (Below w.heap.size w w')) ∧ a' = { tmps := #[Value.agg #[Value.int IntKind.u64 a0_0, Value.int IntKind.u64 a0_1], Value.slice A1 l1.length c1, Value.pointer (Option.some { block := G149, off := 0 }), Go.undef, u4, Value.pointer (Option.some { block := G150, off := 0 }), u6, u7, u8, Go.undef, Go.undef, Go.undef, Go.undef, Go.undef, Go.undef, Go.undef, Go.undef, Go.undef, Go.undef, Go.undef, Go.undef, u21, u22, u23, u24, u25, u26, u27, u28, u29, u30, u31, u32, u33, u34, u35, u36, u37, u38, u39, u40, u41, u42, u43, Go.undef, Go.undef, Go.undef, Go.undef, Go.undef, Go.undef, Go.undef, Go.undef, Go.undef, Go.undef, Go.undef, Go.undef, Go.undef, Go.undef, Go.undef, Go.undef, Go.undef, Go.undef, Go.undef, Go.undef, Go.undef, Go.undef, Go.undef, Go.undef, Go.undef, Go.undef, Go.undef, Go.undef, Go.undef, Go.undef, Go.undef, Go.undef, Go.undef, Go.undef, Go.undef, Go.undef, Go.undef, Go.undef, Go.undef, Go.undef, Go.undef, Go.undef, Go.undef, Go.undef, Go.undef, Go.undef, Go.undef, Go.undef, Go.undef, Go.undef, Go.undef, Go.undef, Go.undef, Go.undef, Go.undef, Go.undef, Go.undef, Go.undef, Go.undef, Go.undef, Go.undef, Go.undef, Go.undef, Go.undef, Go.undef, Go.undef, Go.undef, Go.undef, Go.undef, Go.undef, Go.undef, Go.undef, Go.undef, Go.undef, Go.undef, Go.undef, Go.undef, Go.undef, Go.undef, Go.undef, Go.undef, Go.undef, Go.undef, Go.undef, Go.undef, Go.undef, Go.undef, Go.undef, Go.undef, Go.undef, Go.undef, Go.undef, Go.undef, Go.undef, Go.undef, Go.undef, Go.undef, Go.undef, Go.undef, Go.undef, Go.undef, Go.undef, Go.undef, Go.undef, Go.undef, Go.undef, Go.undef, Go.undef, Go.undef, Go.undef, Go.undef, Go.undef, Go.undef, Go.undef, Go.undef, Go.undef, Go.undef, Go.undef, Go.undef, Go.undef, Go.undef, Go.undef, Go.undef, Go.undef, Go.undef, Go.undef, Go.undef, Go.undef, Go.undef, Go.undef, Go.undef, Go.undef, Go.undef, Go.undef, Go.undef, Go.undef, Go.undef, Go.undef, Go.undef, Go.undef, Go.undef, Go.undef, Go.undef, Go.undef, Go.undef, Go.undef, Go.undef, Go.undef, Go.undef, Go.undef, Go.undef, Go.undef, Go.undef, Go.undef, Go.undef, Go.undef, Go.undef, Go.undef, Go.undef, Go.undef, Go.undef, Go.undef], defers := [] }) → xx8 k_1 a' w') → ∀ (x6_1 x151000_1 x151001_1 : Int) (x151002_1 : Bool) (x151003_1 x151004_1 x151005_1 : Int) (x151006_1 : Bool) (x151007_1 : Int), Aside0 (xx6.heap[G149]? = Option.some (Go.Obj.cells #[Value.int IntKind.u64 a0_0, Value.int IntKind.u64 a0_1] 23)) → Aside0 (xx6.heap[G150]? = Option.some (Go.Obj.cells #[Value.int IntKind.u64 x151000_1, Value.int IntKind.u64 x151001_1, Value.bool x151002_1, Value.int IntKind.i64 x151003_1, Value.int IntKind.u64 x151004_1, Value.int IntKind.u64 x151005_1, Value.bool x151006_1, Value.int IntKind.i64 x151007_1] 27)) → Aside0 (Below w.heap.size w xx6) → ∀ (k1 : Nat), (∀ (a' : Act) (w' : World), Handed xx8 (k1 + 1) a' w' → xx9 a' w') → Aside0 (k1 + 1 ≤ k) → Decidable.decide (x6_1 < 2) = Bool.false → ∀ (xx15 : Act → World → Prop), (∀ (a : Act) (w : World), Code.wp Try.prog (CODEAT Try.f5 [1, 1, 0, 1, 0, 0, 1]) (Exit.then xx9 (Exit.inBlock 0 (Exit.then xx5 xx1))) a w → xx15 a w) → ∀ (xx17 : Act → World → Prop), (∀ (a : Act) (w : World), Code.wp Try.prog (CODEAT Try.f5 [1, 1, 1, 1, 1]) xx1 a w → xx17 a w) → ∀ (wr : World) (u4 u9 u11 u12 u13 u14 u15 u16 u17 u18 u19 u20 u44 u45 u46 u47 u48 u49 u50 u51 u52 u53 u54 u55 u56 u57 u58 u59 u60 u61 u62 u63 u64 u65 u66 u67 u68 u69 u70 u71 u72 u73 u74 u75 u76 u77 u78 u79 u80 u81 u82 u83 u84 u85 u86 u87 u88 u89 u90 u91 u92 u93 u94 u95 u96 u97 u98 u99 u100 u101 u102 u103 u104 u105 u106 u107 u108 u109 u110 u111 u112 u113 u114 u115 u116 u117 u118 u119 u120 u121 u122 u123 u124 u125 u126 u127 u128 u129 u130 u131 u132 u133 u134 u135 u136 u137 u138 u139 u140 u141 u142 u143 u144 u145 u146 u147 u148 u149 u150 u151 u152 u153 u154 u155 u156 u157 u158 u159 u160 u161 u162 u163 u164 u165 u166 u167 u168 u169 u170 u171 u172 u173 u174 u175 u176 u177 u178 u179 u180 u181 u182 u183 u184 u185 u186 u187 u188 u189 u190 u191 u192 u193 u194 u195 u196 u197 u198 u199 u200 u201 u202 u203 u204 : Go.Value) (xx19 : Nat → Act → World → Prop) (xx20 : Act → World → Prop), (∀ (k : Nat) (a' : Act) (w' : World), (∃ (u4 : Go.Value), ∃ (u9 : Go.Value), ∃ (u10 : Go.Value), ∃ (u11 : Go.Value), ∃ (u12 : Go.Value), ∃ (u13 : Go.Value), ∃ (u14 : Go.Value), ∃ (u15 : Go.Value), ∃ (u16 : Go.Value), ∃ (u17 : Go.Value), ∃ (u18 : Go.Value), ∃ (u19 : Go.Value), ∃ (u20 : Go.Value), ∃ (u44 : Go.Value), ∃ (u45 : Go.Value), ∃ (u46 : Go.Value), ∃ (u47 : Go.Value), ∃ (u48 : Go.Value), ∃ (u49 : Go.Value), ∃ (u50 : Go.Value), ∃ (u51 : Go.Value), ∃ (u52 : Go.Value), ∃ (u53 : Go.Value), ∃ (u54 : Go.Value), ∃ (u55 : Go.Value), ∃ (u56 : Go.Value), ∃ (u57 : Go.Value), ∃ (u58 : Go.Value), ∃ (u59 : Go.Value), ∃ (u60 : Go.Value), ∃ (u61 : Go.Value), ∃ (u62 : Go.Value), ∃ (u63 : Go.Value), ∃ (u64 : Go.Value), ∃ (u65 : Go.Value), ∃ (u66 : Go.Value), ∃ (u67 : Go.Value), ∃ (u68 : Go.Value), ∃ (u69 : Go.Value), ∃ (u70 : Go.Value), ∃ (u71 : Go.Value), ∃ (u72 : Go.Value), ∃ (u73 : Go.Value), ∃ (u74 : Go.Value), ∃ (u75 : Go.Value), ∃ (u76 : Go.Value), ∃ (u77 : Go.Value), ∃ (u78 : Go.Value), ∃ (u79 : Go.Value), ∃ (u80 : Go.Value), ∃ (u81 : Go.Value), ∃ (u82 : Go.Value), ∃ (u83 : Go.Value), ∃ (u84 : Go.Value), ∃ (u85 : Go.Value), ∃ (u86 : Go.Value), ∃ (u87 : Go.Value), ∃ (u88 : Go.Value), ∃ (u89 : Go.Value), ∃ (u90 : Go.Value), ∃ (u91 : Go.Value), ∃ (u92 : Go.Value), ∃ (u93 : Go.Value), ∃ (u94 : Go.Value), ∃ (u95 : Go.Value), ∃ (u96 : Go.Value), ∃ (u97 : Go.Value), ∃ (u98 : Go.Value), ∃ (u99 : Go.Value), ∃ (u100 : Go.Value), ∃ (u101 : Go.Value), ∃ (u102 : Go.Value), ∃ (u103 : Go.Value), ∃ (u104 : Go.Value), ∃ (u105 : Go.Value), ∃ (u106 : Go.Value), ∃ (u107 : Go.Value), ∃ (u108 : Go.Value), ∃ (u109 : Go.Value), ∃ (u110 : Go.Value), ∃ (u111 : Go.Value), ∃ (u112 : Go.Value), ∃ (u113 : Go.Value), ∃ (u114 : Go.Value), ∃ (u115 : Go.Value), ∃ (u116 : Go.Value), ∃ (u117 : Go.Value), ∃ (u118 : Go.Value), ∃ (u119 : Go.Value), ∃ (u120 : Go.Value), ∃ (u121 : Go.Value), ∃ (u122 : Go.Value), ∃ (u123 : Go.Value), ∃ (u124 : Go.Value), ∃ (u125 : Go.Value), ∃ (u126 : Go.Value), ∃ (u127 : Go.Value), ∃ (u128 : Go.Value), ∃ (u129 : Go.Value), ∃ (u130 : Go.Value), ∃ (u131 : Go.Value), ∃ (u132 : Go.Value), ∃ (u133 : Go.Value), ∃ (u134 : Go.Value), ∃ (u135 : Go.Value), ∃ (u136 : Go.Value), ∃ (u137 : Go.Value), ∃ (u138 : Go.Value), ∃ (u139 : Go.Value), ∃ (u140 : Go.Value), ∃ (u141 : Go.Value), ∃ (u142 : Go.Value), ∃ (u143 : Go.Value), ∃ (u144 : Go.Value), ∃ (u145 : Go.Value), ∃ (u146 : Go.Value), ∃ (u147 : Go.Value), ∃ (u148 : Go.Value), ∃ (u149 : Go.Value), ∃ (u150 : Go.Value), ∃ (u151 : Go.Value), ∃ (u152 : Go.Value), ∃ (u153 : Go.Value), ∃ (u154 : Go.Value), ∃ (u155 : Go.Value), ∃ (u156 : Go.Value), ∃ (u157 : Go.Value), ∃ (u158 : Go.Value), ∃ (u159 : Go.Value), ∃ (u160 : Go.Value), ∃ (u161 : Go.Value), ∃ (u162 : Go.Value), ∃ (u163 : Go.Value), ∃ (u164 : Go.Value), ∃ (u165 : Go.Value), ∃ (u166 : Go.Value), ∃ (u167 : Go.Value), ∃ (u168 : Go.Value), ∃ (u169 : Go.Value), ∃ (u170 : Go.Value), ∃ (u171 : Go.Value), ∃ (u172 : Go.Value), ∃ (u173 : Go.Value), ∃ (u174 : Go.Value), ∃ (u175 : Go.Value), ∃ (u176 : Go.Value), ∃ (u177 : Go.Value), ∃ (u178 : Go.Value), ∃ (u179 : Go.Value), ∃ (u180 : Go.Value), ∃ (u181 : Go.Value), ∃ (u182 : Go.Value), ∃ (u183 : Go.Value), ∃ (u184 : Go.Value), ∃ (u185 : Go.Value), ∃ (u186 : Go.Value), ∃ (u187 : Go.Value), ∃ (u188 : Go.Value), ∃ (u189 : Go.Value), ∃ (u190 : Go.Value), ∃ (u191 : Go.Value), ∃ (u192 : Go.Value), ∃ (u193 : Go.Value), ∃ (u194 : Go.Value), ∃ (u195 : Go.Value), ∃ (u196 : Go.Value), ∃ (u197 : Go.Value), ∃ (u198 : Go.Value), ∃ (u199 : Go.Value), ∃ (u200 : Go.Value), ∃ (u201 : Go.Value), ∃ (u202 : Go.Value), ∃ (u203 : Go.Value), ∃ (u204 : Go.Value), (∃ (x9_2 : List S50), ∃ (x10_2 : Int), ∃ (x151000_2 : Int), ∃ (x151001_2 : Int), ∃ (x151002_2 : Bool), ∃ (x151003_2 : Int), ∃ (x151004_2 : Int), ∃ (x151005_2 : Int), ∃ (x151006_2 : Bool), ∃ (x151007_2 : Int), u10 = Value.int IntKind.i64 x10_2 ∧ Aside0 (beaconlaw12_SessionAgrees.l1 k l1 x9_2 x10_2 x151000_2 x151001_2 x151002_2 x151003_2 x151004_2 x151005_2 x151006_2 x151007_2 = Option.some r) ∧ Aside0 (k ≤ k1) ∧ Aside0 (k50.R 50 w' w.heap.size (fun (x : Nat) => True) u9 x9_2) ∧ Aside0 (w'.heap[G149]? = Option.some (Go.Obj.cells #[Value.int IntKind.u64 a0_0, Value.int IntKind.u64 a0_1] 23)) ∧ Aside0 (w'.heap[G150]? = Option.some (Go.Obj.cells #[Value.int IntKind.u64 x151000_2, Value.int IntKind.u64 x151001_2, Value.bool x151002_2, Value.int IntKind.i64 x151003_2, Value.int IntKind.u64 x151004_2, Value.int IntKind.u64 x151005_2, Value.bool x151006_2, Value.int IntKind.i64 x151007_2] 27)) ∧ Aside0 (Below w.heap.size w w')) ∧ a' = { tmps := #[Value.agg #[Value.int IntKind.u64 a0_0, Value.int IntKind.u64 a0_1], Value.slice A1 l1.length c1, Value.pointer (Option.some { block := G149, off := 0 }), Go.undef, u4, Value.pointer (Option.some { block := G150, off := 0 }), Value.int IntKind.i64 x6_1, u7, u8, u9, u10, u11, u12, u13, u14, u15, u16, u17, u18, u19, u20, Value.int IntKind.i64 x6_1, Value.bool Bool.false, u23, u24, u25, u26, u27, u28, u29, u30, u31, u32, u33, u34, u35, u36, u37, u38, u39, u40, u41, u42, u43, u44, u45, u46, u47, u48, u49, u50, u51, u52, u53, u54, u55, u56, u57, u58, u59, u60, u61, u62, u63, u64, u65, u66, u67, u68, u69, u70, u71, u72, u73, u74, u75, u76, u77, u78, u79, u80, u81, u82, u83, u84, u85, u86, u87, u88, u89, u90, u91, u92, u93, u94, u95, u96, u97, u98, u99, u100, u101, u102, u103, u104, u105, u106, u107, u108, u109, u110, u111, u112, u113, u114, u115, u116, u117, u118, u119, u120, u121, u122, u123, u124, u125, u126, u127, u128, u129, u130, u131, u132, u133, u134, u135, u136, u137, u138, u139, u140, u141, u142, u143, u144, u145, u146, u147, u148, u149, u150, u151, u152, u153, u154, u155, u156, u157, u158, u159, u160, u161, u162, u163, u164, u165, u166, u167, u168, u169, u170, u171, u172, u173, u174, u175, u176, u177, u178, u179, u180, u181, u182, u183, u184, u185, u186, u187, u188, u189, u190, u191, u192, u193, u194, u195, u196, u197, u198, u199, u200, u201, u202, u203, u204, Go.undef], defers := [] }) → xx19 k a' w') → ∀ (x9_2 : List S50) (x10_2 x151000_2 x151001_2 : Int) (x151002_2 : Bool) (x151003_2 x151004_2 x151005_2 : Int) (x151006_2 : Bool) (x151007_2 : Int), Aside0 (k50.R 50 wr w.heap.size (fun (x : Nat) => True) u9 x9_2) → Aside0 (wr.heap[G149]? = Option.some (Go.Obj.cells #[Value.int IntKind.u64 a0_0, Value.int IntKind.u64 a0_1] 23)) → Aside0 (wr.heap[G150]? = Option.some (Go.Obj.cells #[Value.int IntKind.u64 x151000_2, Value.int IntKind.u64 x151001_2, Value.bool x151002_2, Value.int IntKind.i64 x151003_2, Value.int IntKind.u64 x151004_2, Value.int IntKind.u64 x151005_2, Value.bool x151006_2, Value.int IntKind.i64 x151007_2] 27)) → Aside0 (Below w.heap.size w wr) → ∀ (k2 : Nat), (∀ (a' : Act) (w' : World), Handed xx19 (k2 + 1) a' w' → xx20 a' w') → Aside0 (k2 + 1 ≤ k1) → (if (rd_T33 l1 x10_2).f1 = 0 then (session_Hello.f x151004_2 x151005_2 x151006_2 x151007_2).bind fun (bt227 : Int × Int) => if x9_2.length < 5864062014805 then beaconlaw12_SessionAgrees.j13 k2 l1 (x9_2 ++ [{ f0 := 1, f1 := bt227.fst, f2 := bt227.snd }]) x10_2 1 x151000_2 x151001_2 x151002_2 x151003_2 x151004_2 x151005_2 x151006_2 x151007_2 x151004_2 x151005_2 x151006_2 x151007_2 else Option.none else if (rd_T33 l1 x10_2).f1 = 1 then beaconlaw12_SessionAgrees.j9 k2 l1 x9_2 x10_2 1 (rd_T33 l1 x10_2).f1 ((rd_T33 l1 x10_2).f1 == 1) x151000_2 x151001_2 x151002_2 x151003_2 x151004_2 x151005_2 x151006_2 x151007_2 (rd_T33 l1 x10_2).f0 (rd_T33 l1 x10_2).f1 (rd_T33 l1 x10_2).f2 (rd_T33 l1 x10_2).f3 x151004_2 x151005_2 x151006_2 x151007_2 else beaconlaw12_SessionAgrees.j9 k2 l1 x9_2 x10_2 1 (rd_T33 l1 x10_2).f1 ((rd_T33 l1 x10_2).f1 == 2) x151000_2 x151001_2 x151002_2 x151003_2 x151004_2 x151005_2 x151006_2 x151007_2 (rd_T33 l1 x10_2).f0 (rd_T33 l1 x10_2).f1 (rd_T33 l1 x10_2).f2 (rd_T33 l1 x10_2).f3 x151004_2 x151005_2 x151006_2 x151007_2) = Option.some r → Decidable.decide (x10_2 < ↑l1.length) = Bool.true → Decidable.decide (0 ≤ x10_2) = Bool.true → ¬Go.bits Go.BinOp.and IntKind.i64 (rd_T33 l1 x10_2).f0 1 = 0 → (Go.bits Go.BinOp.and IntKind.i64 (rd_T33 l1 x10_2).f0 1 == 0) = Bool.false → (Go.bits Go.BinOp.and IntKind.i64 (rd_T33 l1 x10_2).f0 1 != 0) = Bool.true → Go.bits Go.BinOp.and IntKind.i64 (rd_T33 l1 x10_2).f0 1 = 1 → Code.wp Try.prog (CODEAT Try.f5 [1, 1, 1, 1, 0, 1, 0, 0]) (Exit.then xx20 (Exit.inBlock 2 (Exit.then xx17 xx1))) { tmps := #[Value.agg #[Value.int IntKind.u64 a0_0, Value.int IntKind.u64 a0_1], Value.slice A1 l1.length c1, Value.pointer (Option.some { block := G149, off := 0 }), Go.undef, u4, Value.pointer (Option.some { block := G150, off := 0 }), Value.int IntKind.i64 x6_1, u7, u8, u9, Value.int IntKind.i64 x10_2, u11, u12, u13, u14, u15, u16, u17, u18, u19, u20, Value.int IntKind.i64 x6_1, Value.bool Bool.false, u23, u24, u25, u26, u27, u28, u29, u30, u31, u32, u33, u34, u35, u36, u37, u38, u39, u40, u41, u42, u43, u44, u45, u46, u47, u48, u49, u50, u51, u52, u53, u54, u55, u56, u57, u58, u59, u60, u61, u62, u63, u64, u65, u66, u67, u68, u69, u70, u71, u72, u73, u74, u75, u76, u77, u78, u79, u80, u81, u82, u83, u84, u85, u86, u87, u88, u89, u90, u91, u92, u93, u94, u95, u96, u97, u98, u99, u100, u101, u102, u103, u104, u105, u106, u107, u108, u109, u110, u111, u112, u113, u114, u115, u116, u117, u118, u119, u120, u121, u122, u123, u124, u125, u126, u127, u128, u129, u130, u131, u132, u133, u134, u135, u136, u137, u138, u139, u140, u141, u142, u143, u144, u145, u146, u147, u148, u149, u150, u151, u152, u153, u154, u155, u156, u157, u158, u159, u160, u161, u162, u163, u164, u165, u166, u167, u168, u169, u170, u171, u172, u173, u174, u175, u176, u177, u178, u179, u180, u181, u182, u183, u184, u185, u186, u187, u188, u189, u190, u191, u192, u193, u194, u195, u196, u197, u198, u199, u200, u201, u202, u203, u204, Go.undef], defers := [] } wr := by
 intro k a0_0 a0_1 A1 c1 l1 r w hu23 hu27 hu26 hu33 hu50 HR1 HC1 HR_ xx1 G149 w3 GW149 GE149 G150 w4 xx2 GW150 GE150 xx3 NB149_150 NB150_149 xx4 xx5 xx6 xx7 u7 u8 u21 u22 u23 u24 u25 u26 u27 u28 u29 u30 u31 u32 u33 u34 u35 u36 u37 u38 u39 u40 u41 u42 u43 xx8 xx9 xx10 x6_1 x151000_1 x151001_1 x151002_1 x151003_1 x151004_1 x151005_1 x151006_1 x151007_1 xx11 xx12 xx13 k1 xx14 HK1 c5b0 xx15 xx16 xx17 xx18 wr u4 u9 u11 u12 u13 u14 u15 u16 u17 u18 u19 u20 u44 u45 u46 u47 u48 u49 u50 u51 u52 u53 u54 u55 u56 u57 u58 u59 u60 u61 u62 u63 u64 u65 u66 u67 u68 u69 u70 u71 u72 u73 u74 u75 u76 u77 u78 u79 u80 u81 u82 u83 u84 u85 u86 u87 u88 u89 u90 u91 u92 u93 u94 u95 u96 u97 u98 u99 u100 u101 u102 u103 u104 u105 u106 u107 u108 u109 u110 u111 u112 u113 u114 u115 u116 u117 u118 u119 u120 u121 u122 u123 u124 u125 u126 u127 u128 u129 u130 u131 u132 u133 u134 u135 u136 u137 u138 u139 u140 u141 u142 u143 u144 u145 u146 u147 u148 u149 u150 u151 u152 u153 u154 u155 u156 u157 u158 u159 u160 u161 u162 u163 u164 u165 u166 u167 u168 u169 u170 u171 u172 u173 u174 u175 u176 u177 u178 u179 u180 u181 u182 u183 u184 u185 u186 u187 u188 u189 u190 u191 u192 u193 u194 u195 u196 u197 u198 u199 u200 u201 u202 u203 u204 xx19 xx20 xx21 x9_2 x10_2 x151000_2 x151001_2 x151002_2 x151003_2 x151004_2 x151005_2 x151006_2 x151007_2 HO_9 K149 K150 HB k2 xx22 HK2 H c58b0 c59b0 c60 c60b0 c60b1 c466
 (conv => arg 2; whnf)
 have c466b0 : ((Go.bits .and .i64 ((rd_T33 l1 x10_2).f0) 1) == 1) = true:=beq_iff_eq.mpr c466
 have c466b1 : ((Go.bits .and .i64 ((rd_T33 l1 x10_2).f0) 1) != 1) = false:=bne_eq_false_iff_eq.mpr c466
 have HC467:=zA H
 clear H
 have p165 : 0 ≤ (x10_2 : Int):=zd
 have q165 : x10_2 < (l1.length : Int):=zd
 obtain ⟨ad165,e165,hx165_0,hx165_1,hx165_2,hx165_3⟩:=at_T33 HR1.out x10_2 p165 q165
 cases e165
 replace hx165_0:=zh HB hx165_0
 replace hx165_1:=zh HB hx165_1
 replace hx165_2:=zh HB hx165_2
 replace hx165_3:=zh HB hx165_3
 replace p165:=eq_true p165
 replace q165:=eq_true q165
 go_upto_block 4 with (first|((with_reducible refine gate_dst (N:=11) rfl ?_);(try (refine gate_guard (by rfl) ?_;dsimp only));refine zb (N:=11) (cs:=#[.int .i64 0,.int .i64 0,.int .i64 0,.int .i64 0]) (t:=33) ?_;intro G166 hg w468 hbox hb;replace HO_9:=zRb HO_9 hb;have K166:=zA (hbox);have GW166:=zN HB hg;have GE166:=zN HB hg;replace HB:=zS HB hb;have NB149_166:=zL K149 hg;have NB166_149:=zG K149 hg;replace K149:=zB K149 hb;have NB150_166:=zL K150 hg;have NB166_150:=zG K150 hg;replace K150:=zB K150 hb;clear hb hbox hg;have:=NB166_149.1;have:=NB149_166.1;have:=NB166_150.1;have:=NB150_166.1;obtain ⟨hcz471_0,hcz471_1,hcz471_2,hcz471_3,hfz471_0,hfz471_1,hfz471_2,hfz471_3⟩:=zc4 K166)|((with_reducible refine gate_store (t:=33) (p:=11) rfl ?_);refine store_event (t:=33) (p:=11) (v:=?vo_w472) (w1:=((((w468.setCell ⟨G166,0,none⟩ (.int .i64 ((rd_T33 l1 x10_2).f0))).setCell ⟨G166,1,none⟩ (.int .i64 ((rd_T33 l1 x10_2).f1))).setCell ⟨G166,2,none⟩ (.int .i64 ((rd_T33 l1 x10_2).f2))).setCell ⟨G166,3,none⟩ (.int .i64 ((rd_T33 l1 x10_2).f3)))) ?hg ?ho ?hn ?hr ?_;(case ho => rfl);(case hg => rfl);(case hn => rfl);(case hr => first|(go_simp;done)|(go_simp;rfl));intro w472 hw;replace HO_9 : Aside0 (Kd.R k50 50 w472 w.heap.size (fun _ => True) u9 x9_2):=⟨(by rw [hw];exact (zRf HO_9 K166 (fun _ hk => trivial)))⟩;replace K149:=zV hw K149;replace K150:=zV hw K150;replace K166:=zVp hw (.cells #[.int .i64 ((rd_T33 l1 x10_2).f0),.int .i64 ((rd_T33 l1 x10_2).f1),.int .i64 ((rd_T33 l1 x10_2).f2),.int .i64 ((rd_T33 l1 x10_2).f3)] 33 (0,0)) K166;replace HB:=zU hw HB;clear hw;obtain ⟨hcz473_0,hcz473_1,hcz473_2,hcz473_3,hfz473_0,hfz473_1,hfz473_2,hfz473_3⟩:=zc4 K166;have:=NB150_149.1;have:=NB149_150.1;obtain ⟨hcz475_0,hcz475_1,hcz475_2,hcz475_3,hcz475_4,hcz475_5,hcz475_6,hcz475_7,hfz475_0,hfz475_1,hfz475_2,hfz475_3,hfz475_4,hfz475_5,hfz475_6,hfz475_7⟩:=zc8 K150)|((with_reducible refine gate_dst (N:=13) rfl ?_);(try (refine gate_guard (by rfl) ?_;dsimp only));refine zb (N:=13) (cs:=#[.int .u64 0,.int .u64 0,.bool false,.int .i64 0]) (t:=26) ?_;intro G226 hg w476 hbox hb;replace HO_9:=zRb HO_9 hb;have K226:=zA (hbox);have GW226:=zN HB hg;have GE226:=zN HB hg;replace HB:=zS HB hb;have NB149_226:=zL K149 hg;have NB226_149:=zG K149 hg;replace K149:=zB K149 hb;have NB150_226:=zL K150 hg;have NB226_150:=zG K150 hg;replace K150:=zB K150 hb;have NB166_226:=zL K166 hg;have NB226_166:=zG K166 hg;replace K166:=zB K166 hb;clear hb hbox hg;have:=NB226_149.1;have:=NB149_226.1;have:=NB226_150.1;have:=NB150_226.1;have:=NB226_166.1;have:=NB166_226.1;obtain ⟨hcz480_0,hcz480_1,hcz480_2,hcz480_3,hfz480_0,hfz480_1,hfz480_2,hfz480_3⟩:=zc4 K226)|((with_reducible refine gate_store (t:=26) (p:=13) rfl ?_);refine store_event (t:=26) (p:=13) (v:=?vo_w481) (w1:=((((w476.setCell ⟨G226,0,none⟩ (.int .u64 x151004_2)).setCell ⟨G226,1,none⟩ (.int .u64 x151005_2)).setCell ⟨G226,2,none⟩ (.bool x151006_2)).setCell ⟨G226,3,none⟩ (.int .i64 x151007_2))) ?hg ?ho ?hn ?hr ?_;(case ho => rfl);(case hg => rfl);(case hn => rfl);(case hr => first|(go_simp;done)|(go_simp;rfl));intro w481 hw;replace HO_9 : Aside0 (Kd.R k50 50 w481 w.heap.size (fun _ => True) u9 x9_2):=⟨(by rw [hw];exact (zRf HO_9 K226 (fun _ hk => trivial)))⟩;replace K149:=zV hw K149;replace K150:=zV hw K150;replace K166:=zV hw K166;replace K226:=zVp hw (.cells #[.int .u64 x151004_2,.int .u64 x151005_2,.bool x151006_2,.int .i64 x151007_2] 26 (0,0)) K226;replace HB:=zU hw HB;clear hw;obtain ⟨hcz482_0,hcz482_1,hcz482_2,hcz482_3,hfz482_0,hfz482_1,hfz482_2,hfz482_3⟩:=zc4 K166))
 (try simp only [Act.put,xA,xB,xC])
 go_cut [9] (fun v9 wc => ∃ (kq : Nat) (x9_466 : List (S50)) (x151000_466 : Int) (x151001_466 : Int) (x151002_466 : Bool) (x151003_466 : Int) (x151004_466 : Int) (x151005_466 : Int) (x151006_466 : Bool) (x151007_466 : Int),Aside0 (beaconlaw12_SessionAgrees.j13 kq l1 x9_466 x10_2 1 x151000_466 x151001_466 x151002_466 x151003_466 x151004_466 x151005_466 x151006_466 x151007_466 x151004_2 x151005_2 x151006_2 x151007_2 = some r) ∧ Aside0 (kq ≤ k2) ∧ Aside0 (Kd.R k50 50 wc w.heap.size (fun _ => True) v9 x9_466) ∧ Aside0 (wc.heap[G149]? = some (.cells #[.int .u64 a0_0,.int .u64 a0_1] 23 (0,0))) ∧ Aside0 (wc.heap[G150]? = some (.cells #[.int .u64 x151000_466,.int .u64 x151001_466,.bool x151002_466,.int .i64 x151003_466,.int .u64 x151004_466,.int .u64 x151005_466,.bool x151006_466,.int .i64 x151007_466] 27 (0,0))) ∧ Aside0 (wc.heap[G166]? = some (.cells #[.int .i64 ((rd_T33 l1 x10_2).f0),.int .i64 ((rd_T33 l1 x10_2).f1),.int .i64 ((rd_T33 l1 x10_2).f2),.int .i64 ((rd_T33 l1 x10_2).f3)] 33 (0,0))) ∧ Aside0 (wc.heap[G226]? = some (.cells #[.int .u64 x151004_2,.int .u64 x151005_2,.bool x151006_2,.int .i64 x151007_2] 26 (0,0))) ∧ Aside0 (Below w.heap.size w wc))
 case first =>
  have H:=HC467.out
  clear HC467
  by_cases c483 : ((rd_T33 l1 x10_2).f1) = 0
  ·rw [if_pos c483] at H
   have c483b0 : (((rd_T33 l1 x10_2).f1) == 0) = true:=beq_iff_eq.mpr c483
   have c483b1 : (((rd_T33 l1 x10_2).f1) != 0) = false:=bne_eq_false_iff_eq.mpr c483
   clear c483
   (first|rw [c483b0]|(simp only [i64_w,i32_w];rw [c483b0])|skip)
   replace H:=Option.bind_eq_some_iff.mp H
   obtain ⟨⟨t227,t228⟩,A4840,H⟩:=H
   (try dsimp only at H)
   have A484:=zA A4840
   clear A4840
   by_cases c485 : x9_2.length < 5864062014805
   ·rw [if_pos c485] at H
    have LMc485:=zA c485
    clear c485
    obtain ⟨y229,hy229⟩ : ∃ y_ : List (S50),y_ = (x9_2 ++ [(⟨1,t227,t228⟩ : S50)]):=⟨_,rfl⟩
    replace H : (beaconlaw12_SessionAgrees.j13 k2 l1 y229 x10_2 1 x151000_2 x151001_2 x151002_2 x151003_2 x151004_2 x151005_2 x151006_2 x151007_2 x151004_2 x151005_2 x151006_2 x151007_2) = some r:=by first|(rw [hy229];with_reducible exact H)|(have H2_:=(Option.bind_some _ _).symm.trans H;rw [hy229];with_reducible exact H2_)|(have H2_:=(Option.bind_some _ _).symm.trans H;with_reducible exact H2_)|with_reducible exact H|(rw [hy229];exact H)|exact H
    have Ny229:=zA hy229
    clear hy229
    have H':=zA H
    clear H
    have:=NB150_149.1
    have:=NB149_150.1
    have:=NB150_166.1
    have:=NB166_150.1
    have:=NB150_226.1
    have:=NB226_150.1
    obtain ⟨hcz489_0,hcz489_1,hcz489_2,hcz489_3,hcz489_4,hcz489_5,hcz489_6,hcz489_7,hfz489_0,hfz489_1,hfz489_2,hfz489_3,hfz489_4,hfz489_5,hfz489_6,hfz489_7⟩:=zc8 K150
    as_aux_lemma =>
     go_wp2_with (first|((with_reducible refine gate_callee (f:=9) rfl ?_);refine zg (some 68) Try.func9 #[.agg #[.int .u64 x151004_2,.int .u64 x151005_2,.bool x151006_2,.int .i64 x151007_2]] ?_;(with_reducible refine (session_Hello.calls x151004_2 x151005_2 x151006_2 x151007_2 t227 t228 _ A484.out).mono ?_);rintro e w490 ⟨rfl,hb⟩;refine ⟨_,rfl,?_⟩;replace HO_9:=zRb HO_9 hb;replace K149:=zB K149 hb;replace K150:=zB K150 hb;replace K166:=zB K166 hb;replace K226:=zB K226 hb;replace HB:=zS HB hb;(try clear hb))|((with_reducible refine gate_builtin (b:=.append) (xs:=#[.tmp 71,.tmp 76]) rfl ?_);(try (refine gate_guard (by rfl) ?_;dsimp only));at_builtin;refine Kd.R_append k50 (w0:=w) w.heap.size rfl (.tmp 71) (.tmp 76) 48 50 (.agg #[(.int .i64 0),(.int .u64 0),(.int .u64 0)]) 24 rfl Try.underlying48 info50 rfl (by decide) (by omega) u9 x9_2 (⟨1,t227,t228⟩ : S50) [.int .i64 1,.int .u64 t227,.int .u64 t228] (fun _ => True) (fun _ => False) rfl rfl ?aP (fun _ hk => hk.elim) ?aF ?aO ?aB ?aS ?aL ?_;(case aP => exact k50_mkM _ _ _ (⟨1,t227,t228⟩ : S50));(case aB => exact (zH HB));(case aF => exact (fun _ _ => trivial));(case aO => exact (zR HO_9));(case aS => exact (zW HB));(case aL => have:=LMc485.out;omega);intro v230 w491 ho hb hg hat;rw [← Ny229.out] at ho;replace K149:=zA (blk_grown (g:=G149) (z1 K149.1) hg (Kd.R_ne HO_9.out K149.1 (by decide)));replace K150:=zA (blk_grown (g:=G150) (z1 K150.1) hg (Kd.R_ne HO_9.out K150.1 (by decide)));replace K166:=zA (blk_grown (g:=G166) (z1 K166.1) hg (Kd.R_ne HO_9.out K166.1 (by decide)));replace K226:=zA (blk_grown (g:=G226) (z1 K226.1) hg (Kd.R_ne HO_9.out K226.1 (by decide)));replace HB:=zA (hb);have HO231:=zA (ho);clear HO_9;clear ho hb hg hat))
     go_meet
     case rel => exact ⟨_,(y229),(x151000_2),(x151001_2),(x151002_2),(x151003_2),(x151004_2),(x151005_2),(x151006_2),(x151007_2),H',⟨by have:=HK1.out;have:=HK2.out;first|omega|exact Nat.le_refl _⟩,⟨zR HO231⟩,⟨z1 K149.1⟩,⟨z1 K150.1⟩,⟨z1 K166.1⟩,⟨z1 K226.1⟩,⟨zH HB⟩⟩
   rw [if_neg c485] at H
   exact absurd H (by simp)
  rw [if_neg c483] at H
  have c483b0 : (((rd_T33 l1 x10_2).f1) == 0) = false:=beq_eq_false_iff_ne.mpr c483
  have c483b1 : (((rd_T33 l1 x10_2).f1) != 0) = true:=bne_iff_ne.mpr c483
  (first|rw [c483b0]|(simp only [i64_w,i32_w];rw [c483b0])|skip)
  have HC492:=zA H
  clear H
  go_upto_if 78 with (fail)
  go_cut [78] (fun v78 wc => ∃ (kq : Nat) (x78_491 : Bool),v78 = .bool x78_491 ∧ Aside0 (beaconlaw12_SessionAgrees.j9 kq l1 x9_2 x10_2 1 ((rd_T33 l1 x10_2).f1) x78_491 x151000_2 x151001_2 x151002_2 x151003_2 x151004_2 x151005_2 x151006_2 x151007_2 ((rd_T33 l1 x10_2).f0) ((rd_T33 l1 x10_2).f1) ((rd_T33 l1 x10_2).f2) ((rd_T33 l1 x10_2).f3) x151004_2 x151005_2 x151006_2 x151007_2 = some r) ∧ Aside0 (kq ≤ k2) ∧ Aside0 (Kd.R k50 50 wc w.heap.size (fun _ => True) u9 x9_2) ∧ Aside0 (wc.heap[G149]? = some (.cells #[.int .u64 a0_0,.int .u64 a0_1] 23 (0,0))) ∧ Aside0 (wc.heap[G150]? = some (.cells #[.int .u64 x151000_2,.int .u64 x151001_2,.bool x151002_2,.int .i64 x151003_2,.int .u64 x151004_2,.int .u64 x151005_2,.bool x151006_2,.int .i64 x151007_2] 27 (0,0))) ∧ Aside0 (wc.heap[G166]? = some (.cells #[.int .i64 ((rd_T33 l1 x10_2).f0),.int .i64 ((rd_T33 l1 x10_2).f1),.int .i64 ((rd_T33 l1 x10_2).f2),.int .i64 ((rd_T33 l1 x10_2).f3)] 33 (0,0))) ∧ Aside0 (wc.heap[G226]? = some (.cells #[.int .u64 x151004_2,.int .u64 x151005_2,.bool x151006_2,.int .i64 x151007_2] 26 (0,0))) ∧ Aside0 (Below w.heap.size w wc))
  case first =>
   have H:=HC492.out
   clear HC492
   by_cases c493 : ((rd_T33 l1 x10_2).f1) = 1
   ·rw [if_pos c493] at H
    have c493b0 : (((rd_T33 l1 x10_2).f1) == 1) = true:=beq_iff_eq.mpr c493
    have c493b1 : (((rd_T33 l1 x10_2).f1) != 1) = false:=bne_eq_false_iff_eq.mpr c493
    clear c493
    (first|rw [c493b0]|(simp only [i64_w,i32_w];rw [c493b0])|skip)
    have H':=zA H
    clear H
    as_aux_lemma =>
     go_wp2
     go_meet
     case rel => exact ⟨_,((((rd_T33 l1 x10_2).f1) == 1)),ze,H',⟨by have:=HK1.out;have:=HK2.out;first|omega|exact Nat.le_refl _⟩,⟨zR HO_9⟩,⟨z1 K149.1⟩,⟨z1 K150.1⟩,⟨z1 K166.1⟩,⟨z1 K226.1⟩,⟨zH HB⟩⟩
   rw [if_neg c493] at H
   have c493b0 : (((rd_T33 l1 x10_2).f1) == 1) = false:=beq_eq_false_iff_ne.mpr c493
   have c493b1 : (((rd_T33 l1 x10_2).f1) != 1) = true:=bne_iff_ne.mpr c493
   (first|rw [c493b0]|(simp only [i64_w,i32_w];rw [c493b0])|skip)
   have H':=zA H
   clear H
   as_aux_lemma =>
    go_wp2
    go_meet
    case rel => exact ⟨_,((((rd_T33 l1 x10_2).f1) == 2)),ze,H',⟨by have:=HK1.out;have:=HK2.out;first|omega|exact Nat.le_refl _⟩,⟨zR HO_9⟩,⟨z1 K149.1⟩,⟨z1 K150.1⟩,⟨z1 K166.1⟩,⟨z1 K226.1⟩,⟨zH HB⟩⟩
  clear HC492
  try clear c60;try clear c60b0;try clear c60b1;try clear p165;try clear q165;try clear c466;try clear c466b0;try clear c466b1;try clear c483;try clear c483b0;try clear c483b1;try clear hcz471_0;try clear hcz471_1;try clear hcz471_2;try clear hcz471_3;try clear hcz473_0;try clear hcz473_1;try clear hcz473_2;try clear hcz473_3;try clear hcz475_0;try clear hcz475_1;try clear hcz475_2;try clear hcz475_3;try clear hcz475_4;try clear hcz475_5;try clear hcz475_6;try clear hcz475_7;try clear hcz480_0;try clear hcz480_1;try clear hcz480_2;try clear hcz480_3;try clear hcz482_0;try clear hcz482_1;try clear hcz482_2;try clear hcz482_3;try clear hfz471_0;try clear hfz471_1;try clear hfz471_2;try clear hfz471_3;try clear hfz473_0;try clear hfz473_1;try clear hfz473_2;try clear hfz473_3;try clear hfz475_0;try clear hfz475_1;try clear hfz475_2;try clear hfz475_3;try clear hfz475_4;try clear hfz475_5;try clear hfz475_6;try clear hfz475_7;try clear hfz480_0;try clear hfz480_1;try clear hfz480_2;try clear hfz480_3;try clear hfz482_0;try clear hfz482_1;try clear hfz482_2;try clear hfz482_3;try clear hx165_0;try clear hx165_1;try clear hx165_2;try clear hx165_3
  obtain ⟨kq,x78_491,rfl,HA,HJ491,HO_9,K149,K150,K166,K226,HB⟩:=hcut
  cases kq with
  | zero => exact absurd HA.out (by simp [beaconlaw12_SessionAgrees.j9])
  | succ kj491 => ?_
  have H:=HA.out
  clear HA
  simp only [beaconlaw12_SessionAgrees.j9] at H
  by_cases c494 : x78_491 = true
  ·subst c494
   rw [if_pos rfl] at H
   have HC495:=zA H
   clear H
   go_upto_region 22 with (fail)
   go_cut [100] (fun v100 wc => ∃ (kq : Nat) (x100_494 : Bool),v100 = .bool x100_494 ∧ Aside0 (beaconlaw12_SessionAgrees.j10 kq l1 x9_2 x10_2 1 x100_494 x151000_2 x151001_2 x151002_2 x151003_2 x151004_2 x151005_2 x151006_2 x151007_2 ((rd_T33 l1 x10_2).f0) ((rd_T33 l1 x10_2).f1) ((rd_T33 l1 x10_2).f2) ((rd_T33 l1 x10_2).f3) x151004_2 x151005_2 x151006_2 x151007_2 = some r) ∧ Aside0 (kq ≤ kj491) ∧ Aside0 (Kd.R k50 50 wc w.heap.size (fun _ => True) u9 x9_2) ∧ Aside0 (wc.heap[G149]? = some (.cells #[.int .u64 a0_0,.int .u64 a0_1] 23 (0,0))) ∧ Aside0 (wc.heap[G150]? = some (.cells #[.int .u64 x151000_2,.int .u64 x151001_2,.bool x151002_2,.int .i64 x151003_2,.int .u64 x151004_2,.int .u64 x151005_2,.bool x151006_2,.int .i64 x151007_2] 27 (0,0))) ∧ Aside0 (wc.heap[G166]? = some (.cells #[.int .i64 ((rd_T33 l1 x10_2).f0),.int .i64 ((rd_T33 l1 x10_2).f1),.int .i64 ((rd_T33 l1 x10_2).f2),.int .i64 ((rd_T33 l1 x10_2).f3)] 33 (0,0))) ∧ Aside0 (wc.heap[G226]? = some (.cells #[.int .u64 x151004_2,.int .u64 x151005_2,.bool x151006_2,.int .i64 x151007_2] 26 (0,0))) ∧ Aside0 (Below w.heap.size w wc))
   case first =>
    have H:=HC495.out
    clear HC495
    by_cases c496 : ((rd_T33 l1 x10_2).f2) < 0
    ·rw [if_pos c496] at H
     have c496b0 : decide (((rd_T33 l1 x10_2).f2) < 0) = true:=decide_eq_true c496
     clear c496
     (first|rw [c496b0]|(simp only [i64_w,i32_w];rw [c496b0])|skip)
     have H':=zA H
     clear H
     have:=NB166_149.1
     have:=NB149_166.1
     have:=NB166_150.1
     have:=NB150_166.1
     have:=NB166_226.1
     have:=NB226_166.1
     obtain ⟨hcz500_0,hcz500_1,hcz500_2,hcz500_3,hfz500_0,hfz500_1,hfz500_2,hfz500_3⟩:=zc4 K166
     as_aux_lemma =>
      go_wp2
      go_meet
      case rel => exact ⟨_,(true),ze,H',⟨by have:=HK1.out;have:=HK2.out;have:=HJ491.out;first|omega|exact Nat.le_refl _⟩,⟨zR HO_9⟩,⟨z1 K149.1⟩,⟨z1 K150.1⟩,⟨z1 K166.1⟩,⟨z1 K226.1⟩,⟨zH HB⟩⟩
    rw [if_neg c496] at H
    have c496b0 : decide (((rd_T33 l1 x10_2).f2) < 0) = false:=decide_eq_false c496
    clear c496
    (first|rw [c496b0]|(simp only [i64_w,i32_w];rw [c496b0])|skip)
    by_cases c501 : ((rd_T33 l1 x10_2).f2) ≥ (x9_2.length : Int)
    ·rw [if_pos c501] at H
     have c501b0 : decide ((x9_2.length : Int) ≤ ((rd_T33 l1 x10_2).f2)) = true:=decide_eq_true c501
     clear c501
     have H':=zA H
     clear H
     have:=NB166_149.1
     have:=NB149_166.1
     have:=NB166_150.1
     have:=NB150_166.1
     have:=NB166_226.1
     have:=NB226_166.1
     obtain ⟨hcz505_0,hcz505_1,hcz505_2,hcz505_3,hfz505_0,hfz505_1,hfz505_2,hfz505_3⟩:=zc4 K166
     obtain ⟨Ao506,co506,eo506⟩:=Kd.R_slice HO_9.out
     subst eo506
     as_aux_lemma =>
      go_wp2
      go_meet
      case rel => exact ⟨_,(true),ze,H',⟨by have:=HK1.out;have:=HK2.out;have:=HJ491.out;first|omega|exact Nat.le_refl _⟩,⟨zR HO_9⟩,⟨z1 K149.1⟩,⟨z1 K150.1⟩,⟨z1 K166.1⟩,⟨z1 K226.1⟩,⟨zH HB⟩⟩
    rw [if_neg c501] at H
    have c501b0 : decide ((x9_2.length : Int) ≤ ((rd_T33 l1 x10_2).f2)) = false:=decide_eq_false c501
    clear c501
    by_cases c507 : 0 ≤ ((rd_T33 l1 x10_2).f2)
    ·rw [if_pos c507] at H
     have c507b0 : decide (0 ≤ ((rd_T33 l1 x10_2).f2)) = true:=decide_eq_true c507
     clear c507
     by_cases c508 : ((rd_T33 l1 x10_2).f2) < (x9_2.length : Int)
     ·rw [if_pos c508] at H
      have c508b0 : decide (((rd_T33 l1 x10_2).f2) < (x9_2.length : Int)) = true:=decide_eq_true c508
      clear c508
      have H':=zA H
      clear H
      have:=NB166_149.1
      have:=NB149_166.1
      have:=NB166_150.1
      have:=NB150_166.1
      have:=NB166_226.1
      have:=NB226_166.1
      obtain ⟨hcz512_0,hcz512_1,hcz512_2,hcz512_3,hfz512_0,hfz512_1,hfz512_2,hfz512_3⟩:=zc4 K166
      obtain ⟨Ao513,co513,eo513⟩:=Kd.R_slice HO_9.out
      subst eo513
      have p232 : 0 ≤ (((rd_T33 l1 x10_2).f2) : Int):=zd
      have q232 : ((rd_T33 l1 x10_2).f2) < (x9_2.length : Int):=zd
      obtain ⟨ad232,e232,hx232_0,hx232_1,hx232_2⟩:=at_T50 (Kd.R_reads' HO_9.out).2.2 ((rd_T33 l1 x10_2).f2) p232 q232
      cases e232
      replace p232:=eq_true p232
      replace q232:=eq_true q232
      as_aux_lemma =>
       go_wp2
       go_meet
       case rel => exact ⟨_,((((rd_T50 x9_2 ((rd_T33 l1 x10_2).f2)).f0) == 1)),ze,H',⟨by have:=HK1.out;have:=HK2.out;have:=HJ491.out;first|omega|exact Nat.le_refl _⟩,⟨zR HO_9⟩,⟨z1 K149.1⟩,⟨z1 K150.1⟩,⟨z1 K166.1⟩,⟨z1 K226.1⟩,⟨zH HB⟩⟩
     rw [if_neg c508] at H
     exact absurd H (by simp)
    rw [if_neg c507] at H
    exact absurd H (by simp)
   clear HC495
   try clear c5;try clear p165;try clear q165;try clear c466;try clear c466b0;try clear c466b1;try clear c483;try clear c483b0;try clear c483b1;try clear c494;try clear hcz471_0;try clear hcz471_1;try clear hcz471_2;try clear hcz471_3;try clear hcz473_0;try clear hcz473_1;try clear hcz473_2;try clear hcz473_3;try clear hcz475_0;try clear hcz475_1;try clear hcz475_2;try clear hcz475_3;try clear hcz475_4;try clear hcz475_5;try clear hcz475_6;try clear hcz475_7;try clear hcz480_0;try clear hcz480_1;try clear hcz480_2;try clear hcz480_3;try clear hcz482_0;try clear hcz482_1;try clear hcz482_2;try clear hcz482_3;try clear hfz471_0;try clear hfz471_1;try clear hfz471_2;try clear hfz471_3;try clear hfz473_0;try clear hfz473_1;try clear hfz473_2;try clear hfz473_3;try clear hfz475_0;try clear hfz475_1;try clear hfz475_2;try clear hfz475_3;try clear hfz475_4;try clear hfz475_5;try clear hfz475_6;try clear hfz475_7;try clear hfz480_0;try clear hfz480_1;try clear hfz480_2;try clear hfz480_3;try clear hfz482_0;try clear hfz482_1;try clear hfz482_2;try clear hfz482_3;try clear hx165_0;try clear hx165_1;try clear hx165_2;try clear hx165_3
   obtain ⟨kq,x100_494,rfl,HA,HJ494,HO_9,K149,K150,K166,K226,HB⟩:=hcut
   cases kq with
   | zero => exact absurd HA.out (by simp [beaconlaw12_SessionAgrees.j10])
   | succ kj494 => ?_
   have H:=HA.out
   clear HA
   simp only [beaconlaw12_SessionAgrees.j10] at H
   by_cases c514 : x100_494 = true
   ·subst c514
    rw [if_pos rfl] at H
    have H':=zA H
    clear H
    as_aux_lemma =>
     go_wp2
     go_roundg kj494
     case measure => have:=HK1.out;have:=HK2.out;have:=HJ491.out;have:=HJ494.out;omega
     case rel => exact ⟨(x9_2),(wrap64 (x10_2 + 1)),(x151000_2),(x151001_2),(x151002_2),(x151003_2),(x151004_2),(x151005_2),(x151006_2),(x151007_2),ze,H',⟨by have:=HK1.out;have:=HK2.out;have:=HJ491.out;have:=HJ494.out;omega⟩,⟨zR HO_9⟩,⟨z1 K149.1⟩,⟨z1 K150.1⟩,⟨zH HB⟩⟩
   replace c514:=Bool.eq_false_iff.mpr c514
   subst c514
   rw [if_neg (show ¬ (false = true) by decide)] at H
   by_cases c515 : 0 ≤ ((rd_T33 l1 x10_2).f2)
   ·rw [if_pos c515] at H
    have c515b0 : decide (0 ≤ ((rd_T33 l1 x10_2).f2)) = true:=decide_eq_true c515
    clear c515
    by_cases c516 : ((rd_T33 l1 x10_2).f2) < (x9_2.length : Int)
    ·rw [if_pos c516] at H
     have c516b0 : decide (((rd_T33 l1 x10_2).f2) < (x9_2.length : Int)) = true:=decide_eq_true c516
     clear c516
     by_cases c517 : ((rd_T33 l1 x10_2).f1) = 1
     ·rw [if_pos c517] at H
      have c517b0 : (((rd_T33 l1 x10_2).f1) == 1) = true:=beq_iff_eq.mpr c517
      have c517b1 : (((rd_T33 l1 x10_2).f1) != 1) = false:=bne_eq_false_iff_eq.mpr c517
      clear c517
      by_cases c518 : (1 : Int) = 0
      ·exact absurd c518 (by decide)
      first|rw [if_neg c518] at H|rw [if_neg not_false] at H
      by_cases c539 : (1 : Int) = 1
      ·first|rw [if_pos c539] at H|rw [if_pos trivial] at H
       replace H:=Option.bind_eq_some_iff.mp H
       obtain ⟨⟨t241,t242,t243,t244,t245,t246⟩,A5400,H⟩:=H
       (try dsimp only at H)
       have A540:=zA A5400
       clear A5400
       have H':=zA H
       clear H
       have:=NB166_149.1
       have:=NB149_166.1
       have:=NB166_150.1
       have:=NB150_166.1
       have:=NB166_226.1
       have:=NB226_166.1
       obtain ⟨hcz544_0,hcz544_1,hcz544_2,hcz544_3,hfz544_0,hfz544_1,hfz544_2,hfz544_3⟩:=zc4 K166
       obtain ⟨Ao545,co545,eo545⟩:=Kd.R_slice HO_9.out
       subst eo545
       have p233 : 0 ≤ (((rd_T33 l1 x10_2).f2) : Int):=zd
       have q233 : ((rd_T33 l1 x10_2).f2) < (x9_2.length : Int):=zd
       obtain ⟨ad233,e233,hx233_0,hx233_1,hx233_2⟩:=at_T50 (Kd.R_reads' HO_9.out).2.2 ((rd_T33 l1 x10_2).f2) p233 q233
       cases e233
       replace p233:=eq_true p233
       replace q233:=eq_true q233
       as_aux_lemma =>
        try go_wp2_with (first|((with_reducible refine gate_dst (N:=16) rfl ?_);(try (refine gate_guard (by rfl) ?_;dsimp only));refine zb (N:=16) (cs:=#[.int .i64 0,.int .u64 0,.int .u64 0]) (t:=50) ?_;intro G234 hg w546 hbox hb;replace HO_9:=zA (Kd.R_below (Kd.R_elderB (zR HO_9) G234 (Nat.le_of_eq hg.symm)) hb);have K234:=zA (hbox);have GW234:=zN HB hg;have GE234:=zN HB hg;replace HB:=zS HB hb;have NB149_234:=zL K149 hg;have NB234_149:=zG K149 hg;replace K149:=zB K149 hb;have NB150_234:=zL K150 hg;have NB234_150:=zG K150 hg;replace K150:=zB K150 hb;have NB166_234:=zL K166 hg;have NB234_166:=zG K166 hg;replace K166:=zB K166 hb;have NB226_234:=zL K226 hg;have NB234_226:=zG K226 hg;replace K226:=zB K226 hb;clear hb hbox hg;have:=NB234_149.1;have:=NB149_234.1;have:=NB234_150.1;have:=NB150_234.1;have:=NB234_166.1;have:=NB166_234.1;have:=NB234_226.1;have:=NB226_234.1;obtain ⟨hcz551_0,hcz551_1,hcz551_2,hfz551_0,hfz551_1,hfz551_2⟩:=zc3 K234)|((with_reducible refine gate_store (t:=50) (p:=16) rfl ?_);refine store_event (t:=50) (p:=16) (v:=?vo_w552) (w1:=(((w546.setCell ⟨G234,0,none⟩ (.int .i64 ((rd_T50 x9_2 ((rd_T33 l1 x10_2).f2)).f0))).setCell ⟨G234,1,none⟩ (.int .u64 ((rd_T50 x9_2 ((rd_T33 l1 x10_2).f2)).f1))).setCell ⟨G234,2,none⟩ (.int .u64 ((rd_T50 x9_2 ((rd_T33 l1 x10_2).f2)).f2)))) ?hg ?ho ?hn ?hr ?_;(case ho => rfl);(case hg => rfl);(case hn => rfl);(case hr => first|(go_simp;done)|(go_simp;rfl));intro w552 hw;replace HO_9 : Aside0 (Kd.R k50 50 w552 w.heap.size (fun k_ => k_ ≠ G234) (.slice (some ad233) x9_2.length co545) x9_2):=⟨(by rw [hw];exact (by (with_reducible repeat (first|apply Kd.R_alloc|apply Kd.R_drewN|apply Kd.R_drew));exact Kd.R_mono (Kd.R_far (p:=⟨G234,2,none⟩) (Kd.R_far (p:=⟨G234,1,none⟩) (Kd.R_far (p:=⟨G234,0,none⟩) (Kd.R_mono HO_9.out (fun k_ hk => (⟨hk,hk.2⟩ : _ ∧ k_ ≠ G234))) (fun _ hk => hk.2) (.int .i64 ((rd_T50 x9_2 ((rd_T33 l1 x10_2).f2)).f0))) (fun _ hk => hk.2) (.int .u64 ((rd_T50 x9_2 ((rd_T33 l1 x10_2).f2)).f1))) (fun _ hk => hk.2) (.int .u64 ((rd_T50 x9_2 ((rd_T33 l1 x10_2).f2)).f2))) (fun _ hk => hk.1.2)))⟩;replace K149:=zV hw K149;replace K150:=zV hw K150;replace K166:=zV hw K166;replace K226:=zV hw K226;replace K234:=zVp hw (.cells #[.int .i64 ((rd_T50 x9_2 ((rd_T33 l1 x10_2).f2)).f0),.int .u64 ((rd_T50 x9_2 ((rd_T33 l1 x10_2).f2)).f1),.int .u64 ((rd_T50 x9_2 ((rd_T33 l1 x10_2).f2)).f2)] 50 (0,0)) K234;replace HB:=zU hw HB;clear hw;obtain ⟨hcz553_0,hcz553_1,hcz553_2,hcz553_3,hfz553_0,hfz553_1,hfz553_2,hfz553_3⟩:=zc4 K166))
        replace HO_9:=zA (Kd.R_drew HO_9.out)
        replace K149:=zA (bD K149.1)
        replace K150:=zA (bD K150.1)
        replace K166:=zA (bD K166.1)
        replace K226:=zA (bD K226.1)
        replace K234:=zA (bD K234.1)
        replace HB:=zA (bw1 HB.1)
        refine start_ (n:=15) (S:=fun w' => w'.cell? ⟨G150,0,none⟩ = some (.int .u64 x151000_2) ∧ w'.cell? ⟨G150,1,none⟩ = some (.int .u64 x151001_2) ∧ w'.cell? ⟨G150,2,none⟩ = some (.bool x151002_2) ∧ w'.cell? ⟨G150,3,none⟩ = some (.int .i64 x151003_2) ∧ w'.cell? ⟨G150,4,none⟩ = some (.int .u64 x151004_2) ∧ w'.cell? ⟨G150,5,none⟩ = some (.int .u64 x151005_2) ∧ w'.cell? ⟨G150,6,none⟩ = some (.bool x151006_2) ∧ w'.cell? ⟨G150,7,none⟩ = some (.int .i64 x151007_2) ∧ w'.cell? ⟨G234,0,none⟩ = some (.int .i64 ((rd_T50 x9_2 ((rd_T33 l1 x10_2).f2)).f0)) ∧ w'.cell? ⟨G234,1,none⟩ = some (.int .u64 ((rd_T50 x9_2 ((rd_T33 l1 x10_2).f2)).f1)) ∧ w'.cell? ⟨G234,2,none⟩ = some (.int .u64 ((rd_T50 x9_2 ((rd_T33 l1 x10_2).f2)).f2))) (ds:=[14]) #[F,F,F,F,F,F,F,F,F,F,F,F,F,F,F] (by kernel_rfl) rfl rfl ⟨zk K150 0,zk K150 1,zk K150 2,zk K150 3,zk K150 4,zk K150 5,zk K150 6,zk K150 7,zk K234 0,zk K234 1,zk K234 2⟩ (fun hHeld => ?_);refine with_tabW beaconlaw12_SessionAgrees.tab25 beaconlaw12_SessionAgrees.bits25 (fun HT_ HW_ => ?_)
        generalize w552.drew = w554 at HO_9 K149 K150 K166 K226 K234 HB hHeld ⊢
        refine pz 0 110 #[T,F,F,F,F,F,F,F,F,F,F,F,F,F,F] HT_.1 ?_
        refine pz 1 111 #[T,T,F,F,F,F,F,F,F,F,F,F,F,F,F] HT_.1 ?_
        refine pz 2 112 #[T,T,T,F,F,F,F,F,F,F,F,F,F,F,F] HT_.1 ?_
        refine pz 4 114 #[T,T,T,F,T,F,F,F,F,F,F,F,F,F,F] HT_.1 ?_
        refine pz 6 116 #[T,T,T,F,T,F,T,F,F,F,F,F,F,F,F] HT_.1 ?_
        refine tz 3 113 #[T,T,T,T,T,F,T,F,F,F,F,F,F,F,F] HT_.1 HW_.1 hHeld ?_
        refine tz 5 115 #[T,T,T,T,T,T,T,F,F,F,F,F,F,F,F] HT_.1 HW_.1 hHeld ?_
        refine tz 7 117 #[T,T,T,T,T,T,T,T,F,F,F,F,F,F,F] HT_.1 HW_.1 hHeld ?_
        refine one_ (i:=8) (N:=some 118) #[T,T,T,T,T,T,T,T,T,F,F,F,F,F,F] rfl rfl (one_of HT_.out (by kernel_rfl)) (by decide) (fun K hK => ?_)
        refine zo_ Try.func10 #[.agg #[.int .u64 x151004_2,.int .u64 x151005_2,.bool x151006_2,.int .i64 x151007_2],.int .u64 ((rd_T50 x9_2 ((rd_T33 l1 x10_2).f2)).f1),.int .u64 ((rd_T50 x9_2 ((rd_T33 l1 x10_2).f2)).f2)] ?_
        with_reducible refine (session_Hear.calls kj494 x151004_2 x151005_2 x151006_2 x151007_2 ((rd_T50 x9_2 ((rd_T33 l1 x10_2).f2)).f1) ((rd_T50 x9_2 ((rd_T33 l1 x10_2).f2)).f2) t241 t242 t243 t244 t245 t246 _ A540.out).mono ?_
        rintro e w555 ⟨rfl,hb⟩
        refine ⟨_,rfl,?_⟩
        replace HO_9:=zRb HO_9 hb
        replace K149:=zB K149 hb
        replace K150:=zB K150 hb
        replace K166:=zB K166 hb
        replace K226:=zB K226 hb
        replace K234:=zB K234 hb
        replace HB:=zS HB hb
        (try clear hb)
        (try clear hb2)
        (try clear hk)
        (try clear hi)
        refine hK.out _ _ ⟨zk K150 0,zk K150 1,zk K150 2,zk K150 3,zk K150 4,zk K150 5,zk K150 6,zk K150 7,zk K234 0,zk K234 1,zk K234 2⟩ (fun hHeld => ?_)
        clear hK K
        refine nz 118 ?_
        refine pz 9 109 #[T,T,T,T,T,T,T,T,T,T,F,F,F,F,F] HT_.1 ?_
        refine pz 10 119 #[T,T,T,T,T,T,T,T,T,T,T,F,F,F,F] HT_.1 ?_
        refine pz 11 120 #[T,T,T,T,T,T,T,T,T,T,T,T,F,F,F] HT_.1 ?_
        refine pz 12 121 #[T,T,T,T,T,T,T,T,T,T,T,T,T,F,F] HT_.1 ?_
        refine pz 13 122 #[T,T,T,T,T,T,T,T,T,T,T,T,T,T,F] HT_.1 ?_
        refine last_ (i:=14) (N:=none) #[T,T,T,T,T,T,T,T,T,T,T,T,T,T,T] rfl rfl (one_of HT_.out (by kernel_rfl)) (by decide) (fun K hK => ?_)
        have hs556 : w555.cell? ⟨G150,4,none⟩ = some (.int .u64 x151004_2):=zk K150 4
        have hfs556:=bF K150.1 4
        have:=NB149_150.1
        have:=NB226_150.1
        have:=NB234_150.1
        have:=NB150_149.1
        have:=NB150_226.1
        have:=NB150_234.1
        have hs557 : w555.cell? ⟨G150,5,none⟩ = some (.int .u64 x151005_2):=zk K150 5
        have hfs557:=bF K150.1 5
        have hs558 : w555.cell? ⟨G150,6,none⟩ = some (.bool x151006_2):=zk K150 6
        have hfs558:=bF K150.1 6
        have hs559 : w555.cell? ⟨G150,7,none⟩ = some (.int .i64 x151007_2):=zk K150 7
        have hfs559:=bF K150.1 7
        refine sz ?_
        refine hK.out _ _ ?_
        clear hK K
        refine done_ (done_of HT_.out (by kernel_rfl)) ?_
        try go_wp2
        go_meet
        case rel => exact ⟨_,(x9_2),(x151000_2),(x151001_2),(x151002_2),(x151003_2),(t241),(t242),(t243),(t244),H',⟨by have:=HK1.out;have:=HK2.out;have:=HJ491.out;have:=HJ494.out;first|omega|exact Nat.le_refl _⟩,⟨zRf HO_9 K150 (fun _ hk => trivial)⟩,⟨zf K149⟩,⟨zF K150⟩,⟨zf K166⟩,⟨zf K226⟩,⟨zH HB⟩⟩
      exact absurd rfl c539
     rw [if_neg c517] at H
     have c517b0 : (((rd_T33 l1 x10_2).f1) == 1) = false:=beq_eq_false_iff_ne.mpr c517
     have c517b1 : (((rd_T33 l1 x10_2).f1) != 1) = true:=bne_iff_ne.mpr c517
     by_cases c560 : (1 : Int) = 0
     ·exact absurd c560 (by decide)
     first|rw [if_neg c560] at H|rw [if_neg not_false] at H
     by_cases c619 : (1 : Int) = 1
     ·first|rw [if_pos c619] at H|rw [if_pos trivial] at H
      replace H:=Option.bind_eq_some_iff.mp H
      obtain ⟨⟨t254,t255,t256,t257,t258,t259⟩,A6200,H⟩:=H
      (try dsimp only at H)
      have A620:=zA A6200
      clear A6200
      have HC621:=zA H
      clear H
      have:=NB166_149.1
      have:=NB149_166.1
      have:=NB166_150.1
      have:=NB150_166.1
      have:=NB166_226.1
      have:=NB226_166.1
      obtain ⟨hcz625_0,hcz625_1,hcz625_2,hcz625_3,hfz625_0,hfz625_1,hfz625_2,hfz625_3⟩:=zc4 K166
      obtain ⟨Ao626,co626,eo626⟩:=Kd.R_slice HO_9.out
      subst eo626
      have p233 : 0 ≤ (((rd_T33 l1 x10_2).f2) : Int):=zd
      have q233 : ((rd_T33 l1 x10_2).f2) < (x9_2.length : Int):=zd
      obtain ⟨ad233,e233,hx233_0,hx233_1,hx233_2⟩:=at_T50 (Kd.R_reads' HO_9.out).2.2 ((rd_T33 l1 x10_2).f2) p233 q233
      cases e233
      replace p233:=eq_true p233
      replace q233:=eq_true q233
      try go_wp2_with (first|((with_reducible refine gate_dst (N:=16) rfl ?_);(try (refine gate_guard (by rfl) ?_;dsimp only));refine zb (N:=16) (cs:=#[.int .i64 0,.int .u64 0,.int .u64 0]) (t:=50) ?_;intro G234 hg w627 hbox hb;replace HO_9:=zA (Kd.R_below (Kd.R_elderB (zR HO_9) G234 (Nat.le_of_eq hg.symm)) hb);have K234:=zA (hbox);have GW234:=zN HB hg;have GE234:=zN HB hg;replace HB:=zS HB hb;have NB149_234:=zL K149 hg;have NB234_149:=zG K149 hg;replace K149:=zB K149 hb;have NB150_234:=zL K150 hg;have NB234_150:=zG K150 hg;replace K150:=zB K150 hb;have NB166_234:=zL K166 hg;have NB234_166:=zG K166 hg;replace K166:=zB K166 hb;have NB226_234:=zL K226 hg;have NB234_226:=zG K226 hg;replace K226:=zB K226 hb;clear hb hbox hg;have:=NB234_149.1;have:=NB149_234.1;have:=NB234_150.1;have:=NB150_234.1;have:=NB234_166.1;have:=NB166_234.1;have:=NB234_226.1;have:=NB226_234.1;obtain ⟨hcz632_0,hcz632_1,hcz632_2,hfz632_0,hfz632_1,hfz632_2⟩:=zc3 K234)|((with_reducible refine gate_store (t:=50) (p:=16) rfl ?_);refine store_event (t:=50) (p:=16) (v:=?vo_w633) (w1:=(((w627.setCell ⟨G234,0,none⟩ (.int .i64 ((rd_T50 x9_2 ((rd_T33 l1 x10_2).f2)).f0))).setCell ⟨G234,1,none⟩ (.int .u64 ((rd_T50 x9_2 ((rd_T33 l1 x10_2).f2)).f1))).setCell ⟨G234,2,none⟩ (.int .u64 ((rd_T50 x9_2 ((rd_T33 l1 x10_2).f2)).f2)))) ?hg ?ho ?hn ?hr ?_;(case ho => rfl);(case hg => rfl);(case hn => rfl);(case hr => first|(go_simp;done)|(go_simp;rfl));intro w633 hw;replace HO_9 : Aside0 (Kd.R k50 50 w633 w.heap.size (fun k_ => k_ ≠ G234) (.slice (some ad233) x9_2.length co626) x9_2):=⟨(by rw [hw];exact (by (with_reducible repeat (first|apply Kd.R_alloc|apply Kd.R_drewN|apply Kd.R_drew));exact Kd.R_mono (Kd.R_far (p:=⟨G234,2,none⟩) (Kd.R_far (p:=⟨G234,1,none⟩) (Kd.R_far (p:=⟨G234,0,none⟩) (Kd.R_mono HO_9.out (fun k_ hk => (⟨hk,hk.2⟩ : _ ∧ k_ ≠ G234))) (fun _ hk => hk.2) (.int .i64 ((rd_T50 x9_2 ((rd_T33 l1 x10_2).f2)).f0))) (fun _ hk => hk.2) (.int .u64 ((rd_T50 x9_2 ((rd_T33 l1 x10_2).f2)).f1))) (fun _ hk => hk.2) (.int .u64 ((rd_T50 x9_2 ((rd_T33 l1 x10_2).f2)).f2))) (fun _ hk => hk.1.2)))⟩;replace K149:=zV hw K149;replace K150:=zV hw K150;replace K166:=zV hw K166;replace K226:=zV hw K226;replace K234:=zVp hw (.cells #[.int .i64 ((rd_T50 x9_2 ((rd_T33 l1 x10_2).f2)).f0),.int .u64 ((rd_T50 x9_2 ((rd_T33 l1 x10_2).f2)).f1),.int .u64 ((rd_T50 x9_2 ((rd_T33 l1 x10_2).f2)).f2)] 50 (0,0)) K234;replace HB:=zU hw HB;clear hw;obtain ⟨hcz634_0,hcz634_1,hcz634_2,hcz634_3,hfz634_0,hfz634_1,hfz634_2,hfz634_3⟩:=zc4 K166))
      replace HO_9:=zA (Kd.R_drew HO_9.out)
      replace K149:=zA (bD K149.1)
      replace K150:=zA (bD K150.1)
      replace K166:=zA (bD K166.1)
      replace K226:=zA (bD K226.1)
      replace K234:=zA (bD K234.1)
      replace HB:=zA (bw1 HB.1)
      refine start_ (n:=16) (S:=fun w' => w'.cell? ⟨G150,0,none⟩ = some (.int .u64 x151000_2) ∧ w'.cell? ⟨G150,1,none⟩ = some (.int .u64 x151001_2) ∧ w'.cell? ⟨G150,2,none⟩ = some (.bool x151002_2) ∧ w'.cell? ⟨G150,3,none⟩ = some (.int .i64 x151003_2) ∧ w'.cell? ⟨G150,4,none⟩ = some (.int .u64 x151004_2) ∧ w'.cell? ⟨G150,5,none⟩ = some (.int .u64 x151005_2) ∧ w'.cell? ⟨G150,6,none⟩ = some (.bool x151006_2) ∧ w'.cell? ⟨G150,7,none⟩ = some (.int .i64 x151007_2) ∧ w'.cell? ⟨G234,0,none⟩ = some (.int .i64 ((rd_T50 x9_2 ((rd_T33 l1 x10_2).f2)).f0)) ∧ w'.cell? ⟨G234,1,none⟩ = some (.int .u64 ((rd_T50 x9_2 ((rd_T33 l1 x10_2).f2)).f1)) ∧ w'.cell? ⟨G234,2,none⟩ = some (.int .u64 ((rd_T50 x9_2 ((rd_T33 l1 x10_2).f2)).f2))) (ds:=[]) #[F,F,F,F,F,F,F,F,F,F,F,F,F,F,F,F] (by kernel_rfl) rfl rfl ⟨zk K150 0,zk K150 1,zk K150 2,zk K150 3,zk K150 4,zk K150 5,zk K150 6,zk K150 7,zk K234 0,zk K234 1,zk K234 2⟩ (fun hHeld => ?_);refine with_tabW beaconlaw12_SessionAgrees.tab26 beaconlaw12_SessionAgrees.bits26 (fun HT_ HW_ => ?_)
      generalize w633.drew = w635 at HO_9 K149 K150 K166 K226 K234 HB hHeld ⊢
      refine pz 0 124 #[T,F,F,F,F,F,F,F,F,F,F,F,F,F,F,F] HT_.1 ?_
      refine pz 1 125 #[T,T,F,F,F,F,F,F,F,F,F,F,F,F,F,F] HT_.1 ?_
      refine pz 3 127 #[T,T,F,T,F,F,F,F,F,F,F,F,F,F,F,F] HT_.1 ?_
      refine pz 5 129 #[T,T,F,T,F,T,F,F,F,F,F,F,F,F,F,F] HT_.1 ?_
      refine tz 2 126 #[T,T,T,T,F,T,F,F,F,F,F,F,F,F,F,F] HT_.1 HW_.1 hHeld ?_
      refine tz 4 128 #[T,T,T,T,T,T,F,F,F,F,F,F,F,F,F,F] HT_.1 HW_.1 hHeld ?_
      refine tz 6 130 #[T,T,T,T,T,T,T,F,F,F,F,F,F,F,F,F] HT_.1 HW_.1 hHeld ?_
      refine join_ (σ:=Nat) 3 #[T,T,T,T,T,T,T,T,T,T,T,T,T,F,F,F] (fun s_ => [(131,.tuple #[.agg #[.int .u64 t254,.int .u64 t255,.bool t256,.int .i64 t257],.bool t258,.bool t259]),(17,.pointer (some ⟨s_,0,none⟩)),(123,.tuple #[.agg #[.int .u64 t254,.int .u64 t255,.bool t256,.int .i64 t257],.bool t258,.bool t259]),(132,.agg #[.int .u64 t254,.int .u64 t255,.bool t256,.int .i64 t257]),(133,.bool t258),(134,.bool t259)]) (fun s_ w' => (w'.cell? ⟨G150,0,none⟩ = some (.int .u64 x151000_2) ∧ w'.cell? ⟨G150,1,none⟩ = some (.int .u64 x151001_2) ∧ w'.cell? ⟨G150,2,none⟩ = some (.bool x151002_2) ∧ w'.cell? ⟨G150,3,none⟩ = some (.int .i64 x151003_2) ∧ w'.cell? ⟨G150,4,none⟩ = some (.int .u64 x151004_2) ∧ w'.cell? ⟨G150,5,none⟩ = some (.int .u64 x151005_2) ∧ w'.cell? ⟨G150,6,none⟩ = some (.bool x151006_2) ∧ w'.cell? ⟨G150,7,none⟩ = some (.int .i64 x151007_2) ∧ w'.cell? ⟨G234,0,none⟩ = some (.int .i64 ((rd_T50 x9_2 ((rd_T33 l1 x10_2).f2)).f0)) ∧ w'.cell? ⟨G234,1,none⟩ = some (.int .u64 ((rd_T50 x9_2 ((rd_T33 l1 x10_2).f2)).f1)) ∧ w'.cell? ⟨G234,2,none⟩ = some (.int .u64 ((rd_T50 x9_2 ((rd_T33 l1 x10_2).f2)).f2))) ∧ (Kd.R k50 50 w' w.heap.size (fun k_ => k_ ≠ G234) (.slice (some ad233) x9_2.length co626) x9_2) ∧ (w'.heap[G149]? = some (.cells #[.int .u64 a0_0,.int .u64 a0_1] 23 (0,0))) ∧ (w'.heap[G150]? = some (.cells #[.int .u64 x151000_2,.int .u64 x151001_2,.bool x151002_2,.int .i64 x151003_2,.int .u64 x151004_2,.int .u64 x151005_2,.bool x151006_2,.int .i64 x151007_2] 27 (0,0))) ∧ (w'.heap[G166]? = some (.cells #[.int .i64 ((rd_T33 l1 x10_2).f0),.int .i64 ((rd_T33 l1 x10_2).f1),.int .i64 ((rd_T33 l1 x10_2).f2),.int .i64 ((rd_T33 l1 x10_2).f3)] 33 (0,0))) ∧ (w'.heap[G226]? = some (.cells #[.int .u64 x151004_2,.int .u64 x151005_2,.bool x151006_2,.int .i64 x151007_2] 26 (0,0))) ∧ (w'.heap[G234]? = some (.cells #[.int .i64 ((rd_T50 x9_2 ((rd_T33 l1 x10_2).f2)).f0),.int .u64 ((rd_T50 x9_2 ((rd_T33 l1 x10_2).f2)).f1),.int .u64 ((rd_T50 x9_2 ((rd_T33 l1 x10_2).f2)).f2)] 50 (0,0))) ∧ (w'.heap[s_]? = some (.cells #[.int .u64 0,.int .u64 0,.bool false,.int .i64 0] 26 (0,0))) ∧ (w.heap.size ≤ s_) ∧ (w.heap.size ≤ s_) ∧ (G149 ≠ s_) ∧ (s_ ≠ G149) ∧ (G150 ≠ s_) ∧ (s_ ≠ G150) ∧ (G166 ≠ s_) ∧ (s_ ≠ G166) ∧ (G226 ≠ s_) ∧ (s_ ≠ G226) ∧ (G234 ≠ s_) ∧ (s_ ≠ G234) ∧ (Below w.heap.size w w')) ?_ ?_
      rotate_left
      ·intro hCont
       refine two_ (i:=7) (j:=12) (Ni:=some 131) (Nj:=some 17) #[T,T,T,T,T,T,T,T,F,F,F,F,F,F,F,F] #[T,T,T,T,T,T,T,F,F,F,F,F,T,F,F,F] rfl rfl rfl rfl (two_of HT_.out (by kernel_rfl)) (by decide) (by decide) (fun K hK => ?_) (fun K hK => ?_)
       ·skip
        refine zo_ Try.func15 #[.agg #[.int .u64 x151004_2,.int .u64 x151005_2,.bool x151006_2,.int .i64 x151007_2],.int .u64 ((rd_T50 x9_2 ((rd_T33 l1 x10_2).f2)).f1),.int .u64 ((rd_T50 x9_2 ((rd_T33 l1 x10_2).f2)).f2)] ?_
        with_reducible refine (session_Accept.calls kj494 x151004_2 x151005_2 x151006_2 x151007_2 ((rd_T50 x9_2 ((rd_T33 l1 x10_2).f2)).f1) ((rd_T50 x9_2 ((rd_T33 l1 x10_2).f2)).f2) t254 t255 t256 t257 t258 t259 _ A620.out).mono ?_
        rintro e w636 ⟨rfl,hb⟩
        refine ⟨_,rfl,?_⟩
        replace HO_9:=zRb HO_9 hb
        replace K149:=zB K149 hb
        replace K150:=zB K150 hb
        replace K166:=zB K166 hb
        replace K226:=zB K226 hb
        replace K234:=zB K234 hb
        replace HB:=zS HB hb
        (try clear hb)
        (try clear hb2)
        (try clear hk)
        (try clear hi)
        refine hK.out _ _ ⟨zk K150 0,zk K150 1,zk K150 2,zk K150 3,zk K150 4,zk K150 5,zk K150 6,zk K150 7,zk K234 0,zk K234 1,zk K234 2⟩ (fun hHeld => ?_)
        clear hK K
        refine nz 131 ?_
        refine pz 8 123 #[T,T,T,T,T,T,T,T,T,F,F,F,F,F,F,F] HT_.1 ?_
        refine pz 9 132 #[T,T,T,T,T,T,T,T,T,T,F,F,F,F,F,F] HT_.1 ?_
        refine pz 10 133 #[T,T,T,T,T,T,T,T,T,T,T,F,F,F,F,F] HT_.1 ?_
        refine pz 11 134 #[T,T,T,T,T,T,T,T,T,T,T,T,F,F,F,F] HT_.1 ?_
        refine one_ (i:=12) (N:=some 17) #[T,T,T,T,T,T,T,T,T,T,T,T,T,F,F,F] rfl rfl (one_of HT_.out (by kernel_rfl)) (by decide) (fun K hK => ?_)
        refine zs_ (N:=17) (cs:=#[.int .u64 0,.int .u64 0,.bool false,.int .i64 0]) (t:=26) ?_
        intro G260 hg w637 hbox hb
        replace HO_9:=zRb HO_9 hb
        have K260:=zA (hbox)
        have GW260:=zN HB hg
        have GE260:=zN HB hg
        replace HB:=zS HB hb
        have NB149_260:=zL K149 hg
        have NB260_149:=zG K149 hg
        replace K149:=zB K149 hb
        have NB150_260:=zL K150 hg
        have NB260_150:=zG K150 hg
        replace K150:=zB K150 hb
        have NB166_260:=zL K166 hg
        have NB260_166:=zG K166 hg
        replace K166:=zB K166 hb
        have NB226_260:=zL K226 hg
        have NB260_226:=zG K226 hg
        replace K226:=zB K226 hb
        have NB234_260:=zL K234 hg
        have NB260_234:=zG K234 hg
        replace K234:=zB K234 hb
        clear hb hbox hg
        refine hK.out _ _ ⟨zk K150 0,zk K150 1,zk K150 2,zk K150 3,zk K150 4,zk K150 5,zk K150 6,zk K150 7,zk K234 0,zk K234 1,zk K234 2⟩ (fun hHeld => ?_)
        clear hK K
        refine nz 17 ?_
        exact norm_ (by simp only [putAll,Act.put,xA,xB,xC]) (hCont (G260) _ ⟨hHeld,(zR HO_9),(z1 K149.1),(z1 K150.1),(z1 K166.1),(z1 K226.1),(z1 K234.1),(z1 K260.1),GW260.1,GE260.1,NB149_260.1,NB260_149.1,NB150_260.1,NB260_150.1,NB166_260.1,NB260_166.1,NB226_260.1,NB260_226.1,NB234_260.1,NB260_234.1,(zH HB)⟩)
       skip
       refine zs_ (N:=17) (cs:=#[.int .u64 0,.int .u64 0,.bool false,.int .i64 0]) (t:=26) ?_
       intro G260 hg w636 hbox hb
       replace HO_9:=zRb HO_9 hb
       have K260:=zA (hbox)
       have GW260:=zN HB hg
       have GE260:=zN HB hg
       replace HB:=zS HB hb
       have NB149_260:=zL K149 hg
       have NB260_149:=zG K149 hg
       replace K149:=zB K149 hb
       have NB150_260:=zL K150 hg
       have NB260_150:=zG K150 hg
       replace K150:=zB K150 hb
       have NB166_260:=zL K166 hg
       have NB260_166:=zG K166 hg
       replace K166:=zB K166 hb
       have NB226_260:=zL K226 hg
       have NB260_226:=zG K226 hg
       replace K226:=zB K226 hb
       have NB234_260:=zL K234 hg
       have NB260_234:=zG K234 hg
       replace K234:=zB K234 hb
       clear hb hbox hg
       refine hK.out _ _ ⟨zk K150 0,zk K150 1,zk K150 2,zk K150 3,zk K150 4,zk K150 5,zk K150 6,zk K150 7,zk K234 0,zk K234 1,zk K234 2⟩ (fun hHeld => ?_)
       clear hK K
       refine nz 17 ?_
       refine one_ (i:=7) (N:=some 131) #[T,T,T,T,T,T,T,T,F,F,F,F,T,F,F,F] rfl rfl (one_of HT_.out (by kernel_rfl)) (by decide) (fun K hK => ?_)
       refine zo_ Try.func15 #[.agg #[.int .u64 x151004_2,.int .u64 x151005_2,.bool x151006_2,.int .i64 x151007_2],.int .u64 ((rd_T50 x9_2 ((rd_T33 l1 x10_2).f2)).f1),.int .u64 ((rd_T50 x9_2 ((rd_T33 l1 x10_2).f2)).f2)] ?_
       with_reducible refine (session_Accept.calls kj494 x151004_2 x151005_2 x151006_2 x151007_2 ((rd_T50 x9_2 ((rd_T33 l1 x10_2).f2)).f1) ((rd_T50 x9_2 ((rd_T33 l1 x10_2).f2)).f2) t254 t255 t256 t257 t258 t259 _ A620.out).mono ?_
       rintro e w637 ⟨rfl,hb⟩
       refine ⟨_,rfl,?_⟩
       replace HO_9:=zRb HO_9 hb
       replace K149:=zB K149 hb
       replace K150:=zB K150 hb
       replace K166:=zB K166 hb
       replace K226:=zB K226 hb
       replace K234:=zB K234 hb
       replace K260:=zB K260 hb
       replace HB:=zS HB hb
       (try clear hb)
       (try clear hb2)
       (try clear hk)
       (try clear hi)
       refine hK.out _ _ ⟨zk K150 0,zk K150 1,zk K150 2,zk K150 3,zk K150 4,zk K150 5,zk K150 6,zk K150 7,zk K234 0,zk K234 1,zk K234 2⟩ (fun hHeld => ?_)
       clear hK K
       refine nz 131 ?_
       refine pz 8 123 #[T,T,T,T,T,T,T,T,T,F,F,F,T,F,F,F] HT_.1 ?_
       refine pz 9 132 #[T,T,T,T,T,T,T,T,T,T,F,F,T,F,F,F] HT_.1 ?_
       refine pz 10 133 #[T,T,T,T,T,T,T,T,T,T,T,F,T,F,F,F] HT_.1 ?_
       refine pz 11 134 #[T,T,T,T,T,T,T,T,T,T,T,T,T,F,F,F] HT_.1 ?_
       exact norm_ (by simp only [putAll,Act.put,xA,xB,xC]) (hCont (G260) _ ⟨hHeld,(zR HO_9),(z1 K149.1),(z1 K150.1),(z1 K166.1),(z1 K226.1),(z1 K234.1),(z1 K260.1),GW260.1,GE260.1,NB149_260.1,NB260_149.1,NB150_260.1,NB260_150.1,NB166_260.1,NB260_166.1,NB226_260.1,NB260_226.1,NB234_260.1,NB260_234.1,(zH HB)⟩)
      rintro G260 w638 ⟨hS_,h0_,h1_,h2_,h3_,h4_,h5_,h6_,h7_,h8_,h9_,h10_,h11_,h12_,h13_,h14_,h15_,h16_,h17_,h18_,h19_⟩
      replace HO_9 : Aside0 (Kd.R k50 50 w638 w.heap.size (fun k_ => k_ ≠ G234) (.slice (some ad233) x9_2.length co626) x9_2):=⟨h0_⟩
      replace K149 : Aside0 (w638.heap[G149]? = some (.cells #[.int .u64 a0_0,.int .u64 a0_1] 23 (0,0))):=⟨h1_⟩
      replace K150 : Aside0 (w638.heap[G150]? = some (.cells #[.int .u64 x151000_2,.int .u64 x151001_2,.bool x151002_2,.int .i64 x151003_2,.int .u64 x151004_2,.int .u64 x151005_2,.bool x151006_2,.int .i64 x151007_2] 27 (0,0))):=⟨h2_⟩
      replace K166 : Aside0 (w638.heap[G166]? = some (.cells #[.int .i64 ((rd_T33 l1 x10_2).f0),.int .i64 ((rd_T33 l1 x10_2).f1),.int .i64 ((rd_T33 l1 x10_2).f2),.int .i64 ((rd_T33 l1 x10_2).f3)] 33 (0,0))):=⟨h3_⟩
      replace K226 : Aside0 (w638.heap[G226]? = some (.cells #[.int .u64 x151004_2,.int .u64 x151005_2,.bool x151006_2,.int .i64 x151007_2] 26 (0,0))):=⟨h4_⟩
      replace K234 : Aside0 (w638.heap[G234]? = some (.cells #[.int .i64 ((rd_T50 x9_2 ((rd_T33 l1 x10_2).f2)).f0),.int .u64 ((rd_T50 x9_2 ((rd_T33 l1 x10_2).f2)).f1),.int .u64 ((rd_T50 x9_2 ((rd_T33 l1 x10_2).f2)).f2)] 50 (0,0))):=⟨h5_⟩
      have K260 : Aside0 (w638.heap[G260]? = some (.cells #[.int .u64 0,.int .u64 0,.bool false,.int .i64 0] 26 (0,0))):=⟨h6_⟩
      have GW260 : Aside0 (w.heap.size ≤ G260):=⟨h7_⟩
      have GE260 : Aside0 (w.heap.size ≤ G260):=⟨h8_⟩
      have NB149_260 : Aside0 (G149 ≠ G260):=⟨h9_⟩
      have NB260_149 : Aside0 (G260 ≠ G149):=⟨h10_⟩
      have NB150_260 : Aside0 (G150 ≠ G260):=⟨h11_⟩
      have NB260_150 : Aside0 (G260 ≠ G150):=⟨h12_⟩
      have NB166_260 : Aside0 (G166 ≠ G260):=⟨h13_⟩
      have NB260_166 : Aside0 (G260 ≠ G166):=⟨h14_⟩
      have NB226_260 : Aside0 (G226 ≠ G260):=⟨h15_⟩
      have NB260_226 : Aside0 (G260 ≠ G226):=⟨h16_⟩
      have NB234_260 : Aside0 (G234 ≠ G260):=⟨h17_⟩
      have NB260_234 : Aside0 (G260 ≠ G234):=⟨h18_⟩
      replace HB : Aside0 (Below w.heap.size w w638):=⟨h19_⟩
      clear h0_ h10_ h11_ h12_ h13_ h14_ h15_ h16_ h17_ h18_ h19_ h1_ h2_ h3_ h4_ h5_ h6_ h7_ h8_ h9_
      have hHeld : w638.cell? ⟨G150,0,none⟩ = some (.int .u64 x151000_2) ∧ w638.cell? ⟨G150,1,none⟩ = some (.int .u64 x151001_2) ∧ w638.cell? ⟨G150,2,none⟩ = some (.bool x151002_2) ∧ w638.cell? ⟨G150,3,none⟩ = some (.int .i64 x151003_2) ∧ w638.cell? ⟨G150,4,none⟩ = some (.int .u64 x151004_2) ∧ w638.cell? ⟨G150,5,none⟩ = some (.int .u64 x151005_2) ∧ w638.cell? ⟨G150,6,none⟩ = some (.bool x151006_2) ∧ w638.cell? ⟨G150,7,none⟩ = some (.int .i64 x151007_2) ∧ w638.cell? ⟨G234,0,none⟩ = some (.int .i64 ((rd_T50 x9_2 ((rd_T33 l1 x10_2).f2)).f0)) ∧ w638.cell? ⟨G234,1,none⟩ = some (.int .u64 ((rd_T50 x9_2 ((rd_T33 l1 x10_2).f2)).f1)) ∧ w638.cell? ⟨G234,2,none⟩ = some (.int .u64 ((rd_T50 x9_2 ((rd_T33 l1 x10_2).f2)).f2)):=hS_
      refine norm_ (a':=?_) ?_ ?_
      rotate_left
      ·simp only [putAll,Act.put,xA,xB,xC]
       rfl
      refine one_ (i:=13) (N:=none) #[T,T,T,T,T,T,T,T,T,T,T,T,T,T,F,F] rfl rfl (one_of HT_.out (by kernel_rfl)) (by decide) (fun K hK => ?_)
      have hs639 : w638.cell? ⟨G260,0,none⟩ = some (.int .u64 0):=zk K260 0
      have hfs639:=bF K260.1 0
      have:=NB149_260.1
      have:=NB150_260.1
      have:=NB166_260.1
      have:=NB226_260.1
      have:=NB234_260.1
      have:=NB260_149.1
      have:=NB260_150.1
      have:=NB260_166.1
      have:=NB260_226.1
      have:=NB260_234.1
      have hs640 : w638.cell? ⟨G260,1,none⟩ = some (.int .u64 0):=zk K260 1
      have hfs640:=bF K260.1 1
      have hs641 : w638.cell? ⟨G260,2,none⟩ = some (.bool false):=zk K260 2
      have hfs641:=bF K260.1 2
      have hs642 : w638.cell? ⟨G260,3,none⟩ = some (.int .i64 0):=zk K260 3
      have hfs642:=bF K260.1 3
      refine sz ?_
      refine hK.out _ _ ⟨(zx (hHeld.1) NB150_260.1),(zx (hHeld.2.1) NB150_260.1),(zx (hHeld.2.2.1) NB150_260.1),(zx (hHeld.2.2.2.1) NB150_260.1),(zx (hHeld.2.2.2.2.1) NB150_260.1),(zx (hHeld.2.2.2.2.2.1) NB150_260.1),(zx (hHeld.2.2.2.2.2.2.1) NB150_260.1),(zx (hHeld.2.2.2.2.2.2.2.1) NB150_260.1),(zx (hHeld.2.2.2.2.2.2.2.2.1) NB234_260.1),(zx (hHeld.2.2.2.2.2.2.2.2.2.1) NB234_260.1),(zx (hHeld.2.2.2.2.2.2.2.2.2.2) NB234_260.1)⟩ (fun hHeld => ?_)
      clear hK K
      refine pz 14 18 #[T,T,T,T,T,T,T,T,T,T,T,T,T,T,T,F] HT_.1 ?_
      refine pz 15 19 #[T,T,T,T,T,T,T,T,T,T,T,T,T,T,T,T] HT_.1 ?_
      refine done_ (done_of HT_.out (by kernel_rfl)) ?_
      obtain ⟨hcz648_0,hcz648_1,hcz648_2,hcz648_3,hfz648_0,hfz648_1,hfz648_2,hfz648_3⟩:=zc4 K260
      have:=NB150_149.1
      have:=NB149_150.1
      have:=NB150_226.1
      have:=NB226_150.1
      obtain ⟨hcz651_0,hcz651_1,hcz651_2,hcz651_3,hcz651_4,hcz651_5,hcz651_6,hcz651_7,hfz651_0,hfz651_1,hfz651_2,hfz651_3,hfz651_4,hfz651_5,hfz651_6,hfz651_7⟩:=zc8 K150
      go_upto_region 28 with (first|((with_reducible refine gate_store (t:=26) (p:=137) rfl ?_);refine store_event (t:=26) (p:=137) (v:=?vo_w652) (w1:=((((((((w638.setCell ⟨G260,0,none⟩ (.int .u64 t254)).setCell ⟨G260,1,none⟩ (.int .u64 t255)).setCell ⟨G260,2,none⟩ (.bool t256)).setCell ⟨G260,3,none⟩ (.int .i64 t257)).setCell ⟨G150,4,none⟩ (.int .u64 t254)).setCell ⟨G150,5,none⟩ (.int .u64 t255)).setCell ⟨G150,6,none⟩ (.bool t256)).setCell ⟨G150,7,none⟩ (.int .i64 t257))) ?hg ?ho ?hn ?hr ?_;(case ho => rfl);(case hg => rfl);(case hn => rfl);(case hr => first|(go_simp;done)|(go_simp;rfl));intro w652 hw;replace HO_9 : Aside0 (Kd.R k50 50 w652 w.heap.size (fun k_ => k_ ≠ G234) (.slice (some ad233) x9_2.length co626) x9_2):=⟨(by rw [hw];exact (by (with_reducible repeat (first|apply Kd.R_alloc|apply Kd.R_drewN|apply Kd.R_drew));exact Kd.R_mono (Kd.R_far (p:=⟨G150,7,none⟩) (Kd.R_far (p:=⟨G150,6,none⟩) (Kd.R_far (p:=⟨G150,5,none⟩) (Kd.R_far (p:=⟨G150,4,none⟩) (Kd.R_far (p:=⟨G260,3,none⟩) (Kd.R_far (p:=⟨G260,2,none⟩) (Kd.R_far (p:=⟨G260,1,none⟩) (Kd.R_far (p:=⟨G260,0,none⟩) (Kd.R_types (Kd.R_types HO_9.out K260.1 (by decide)) K150.1 (by decide)) (fun _ hk => hk.1.2) (.int .u64 t254)) (fun _ hk => hk.1.2) (.int .u64 t255)) (fun _ hk => hk.1.2) (.bool t256)) (fun _ hk => hk.1.2) (.int .i64 t257)) (fun _ hk => hk.2) (.int .u64 t254)) (fun _ hk => hk.2) (.int .u64 t255)) (fun _ hk => hk.2) (.bool t256)) (fun _ hk => hk.2) (.int .i64 t257)) (fun _ hk => hk.1.1)))⟩;replace K149:=zV hw K149;replace K150:=zVp hw (.cells #[.int .u64 x151000_2,.int .u64 x151001_2,.bool x151002_2,.int .i64 x151003_2,.int .u64 t254,.int .u64 t255,.bool t256,.int .i64 t257] 27 (0,0)) K150;replace K166:=zV hw K166;replace K226:=zV hw K226;replace K234:=zV hw K234;replace K260:=zVp hw (.cells #[.int .u64 t254,.int .u64 t255,.bool t256,.int .i64 t257] 26 (0,0)) K260;replace HB:=zU hw HB;clear hw))
      (try simp only [Act.put,xA,xB,xC])
      go_cut [152] (fun v152 wc => ∃ (kq : Nat) (x152_620 : Bool),v152 = .bool x152_620 ∧ Aside0 (beaconlaw12_SessionAgrees.j12 kq l1 x9_2 x10_2 1 x152_620 x151000_2 x151001_2 x151002_2 x151003_2 t254 t255 t256 t257 x151004_2 x151005_2 x151006_2 x151007_2 = some r) ∧ Aside0 (kq ≤ kj494) ∧ Aside0 (Kd.R k50 50 wc w.heap.size (fun k_ => k_ ≠ G234) (.slice (some ad233) x9_2.length co626) x9_2) ∧ Aside0 (wc.heap[G149]? = some (.cells #[.int .u64 a0_0,.int .u64 a0_1] 23 (0,0))) ∧ Aside0 (wc.heap[G150]? = some (.cells #[.int .u64 x151000_2,.int .u64 x151001_2,.bool x151002_2,.int .i64 x151003_2,.int .u64 t254,.int .u64 t255,.bool t256,.int .i64 t257] 27 (0,0))) ∧ Aside0 (wc.heap[G166]? = some (.cells #[.int .i64 ((rd_T33 l1 x10_2).f0),.int .i64 ((rd_T33 l1 x10_2).f1),.int .i64 ((rd_T33 l1 x10_2).f2),.int .i64 ((rd_T33 l1 x10_2).f3)] 33 (0,0))) ∧ Aside0 (wc.heap[G226]? = some (.cells #[.int .u64 x151004_2,.int .u64 x151005_2,.bool x151006_2,.int .i64 x151007_2] 26 (0,0))) ∧ Aside0 (wc.heap[G234]? = some (.cells #[.int .i64 ((rd_T50 x9_2 ((rd_T33 l1 x10_2).f2)).f0),.int .u64 ((rd_T50 x9_2 ((rd_T33 l1 x10_2).f2)).f1),.int .u64 ((rd_T50 x9_2 ((rd_T33 l1 x10_2).f2)).f2)] 50 (0,0))) ∧ Aside0 (wc.heap[G260]? = some (.cells #[.int .u64 t254,.int .u64 t255,.bool t256,.int .i64 t257] 26 (0,0))) ∧ Aside0 (Below w.heap.size w wc))
      case first =>
       have H:=HC621.out
       clear HC621
       by_cases c653 : t258 = true
       ·subst c653
        rw [if_pos rfl] at H
        by_cases c654 : ((rd_T50 x9_2 ((rd_T33 l1 x10_2).f2)).f1) = x151005_2
        ·rw [if_pos c654] at H
         have c654b0 : (((rd_T50 x9_2 ((rd_T33 l1 x10_2).f2)).f1) == x151005_2) = true:=beq_iff_eq.mpr c654
         have c654b1 : (((rd_T50 x9_2 ((rd_T33 l1 x10_2).f2)).f1) != x151005_2) = false:=bne_eq_false_iff_eq.mpr c654
         clear c654
         (first|rw [c654b0]|(simp only [i64_w,i32_w];rw [c654b0])|skip)
         have H':=zA H
         clear H
         have:=NB234_149.1
         have:=NB149_234.1
         have:=NB234_150.1
         have:=NB150_234.1
         have:=NB234_166.1
         have:=NB166_234.1
         have:=NB234_226.1
         have:=NB226_234.1
         obtain ⟨hcz660_0,hcz660_1,hcz660_2,hfz660_0,hfz660_1,hfz660_2⟩:=zc3 K234
         have:=NB226_149.1
         have:=NB149_226.1
         obtain ⟨hcz665_0,hcz665_1,hcz665_2,hcz665_3,hfz665_0,hfz665_1,hfz665_2,hfz665_3⟩:=zc4 K226
         as_aux_lemma =>
          go_wp2
          go_meet
          case rel => exact ⟨_,((((rd_T50 x9_2 ((rd_T33 l1 x10_2).f2)).f2) != x151004_2)),ze,H',⟨by have:=HK1.out;have:=HK2.out;have:=HJ491.out;have:=HJ494.out;first|omega|exact Nat.le_refl _⟩,⟨zR HO_9⟩,⟨z1 K149.1⟩,⟨z1 K150.1⟩,⟨z1 K166.1⟩,⟨z1 K226.1⟩,⟨z1 K234.1⟩,⟨z1 K260.1⟩,⟨zH HB⟩⟩
        rw [if_neg c654] at H
        have c654b0 : (((rd_T50 x9_2 ((rd_T33 l1 x10_2).f2)).f1) == x151005_2) = false:=beq_eq_false_iff_ne.mpr c654
        have c654b1 : (((rd_T50 x9_2 ((rd_T33 l1 x10_2).f2)).f1) != x151005_2) = true:=bne_iff_ne.mpr c654
        (first|rw [c654b0]|(simp only [i64_w,i32_w];rw [c654b0])|skip)
        have H':=zA H
        clear H
        have:=NB234_149.1
        have:=NB149_234.1
        have:=NB234_150.1
        have:=NB150_234.1
        have:=NB234_166.1
        have:=NB166_234.1
        have:=NB234_226.1
        have:=NB226_234.1
        obtain ⟨hcz671_0,hcz671_1,hcz671_2,hfz671_0,hfz671_1,hfz671_2⟩:=zc3 K234
        have:=NB226_149.1
        have:=NB149_226.1
        obtain ⟨hcz676_0,hcz676_1,hcz676_2,hcz676_3,hfz676_0,hfz676_1,hfz676_2,hfz676_3⟩:=zc4 K226
        as_aux_lemma =>
         go_wp2
         go_meet
         case rel => exact ⟨_,(true),ze,H',⟨by have:=HK1.out;have:=HK2.out;have:=HJ491.out;have:=HJ494.out;first|omega|exact Nat.le_refl _⟩,⟨zR HO_9⟩,⟨z1 K149.1⟩,⟨z1 K150.1⟩,⟨z1 K166.1⟩,⟨z1 K226.1⟩,⟨z1 K234.1⟩,⟨z1 K260.1⟩,⟨zH HB⟩⟩
       replace c653:=Bool.eq_false_iff.mpr c653
       subst c653
       rw [if_neg (show ¬ (false = true) by decide)] at H
       have H':=zA H
       clear H
       as_aux_lemma =>
        go_wp2
        go_meet
        case rel => exact ⟨_,(false),ze,H',⟨by have:=HK1.out;have:=HK2.out;have:=HJ491.out;have:=HJ494.out;first|omega|exact Nat.le_refl _⟩,⟨zR HO_9⟩,⟨z1 K149.1⟩,⟨z1 K150.1⟩,⟨z1 K166.1⟩,⟨z1 K226.1⟩,⟨z1 K234.1⟩,⟨z1 K260.1⟩,⟨zH HB⟩⟩
      clear HC621
      try clear c1;try clear hcz648_0;try clear hcz648_1;try clear hcz648_2;try clear hcz648_3;try clear hcz651_0;try clear hcz651_1;try clear hcz651_2;try clear hcz651_3;try clear hcz651_4;try clear hcz651_5;try clear hcz651_6;try clear hcz651_7;try clear hfz648_0;try clear hfz648_1;try clear hfz648_2;try clear hfz648_3;try clear hfz651_0;try clear hfz651_1;try clear hfz651_2;try clear hfz651_3;try clear hfz651_4;try clear hfz651_5;try clear hfz651_6;try clear hfz651_7
      obtain ⟨kq,x152_620,rfl,HA,HJ620,HO_9,K149,K150,K166,K226,K234,K260,HB⟩:=hcut
      cases kq with
      | zero => exact absurd HA.out (by simp [beaconlaw12_SessionAgrees.j12])
      | succ kj620 => ?_
      have H:=HA.out
      clear HA
      simp only [beaconlaw12_SessionAgrees.j12] at H
      by_cases c677 : x152_620 = true
      ·subst c677
       rw [if_pos rfl] at H
       exact absurd ((Option.some.inj H).trans HR_.out) (by decide)
      replace c677:=Bool.eq_false_iff.mpr c677
      subst c677
      rw [if_neg (show ¬ (false = true) by decide)] at H
      have H':=zA H
      clear H
      as_aux_lemma =>
       go_wp2
       go_meet
       case rel => exact ⟨_,(x9_2),(x151000_2),(x151001_2),(x151002_2),(x151003_2),(t254),(t255),(t256),(t257),H',⟨by have:=HK1.out;have:=HK2.out;have:=HJ491.out;have:=HJ494.out;have:=HJ620.out;first|omega|exact Nat.le_refl _⟩,⟨by (with_reducible repeat (first|apply Kd.R_alloc|apply Kd.R_drewN|apply Kd.R_drew));exact Kd.R_mono HO_9.out (fun _ hk => trivial)⟩,⟨z1 K149.1⟩,⟨z1 K150.1⟩,⟨z1 K166.1⟩,⟨z1 K226.1⟩,⟨zH HB⟩⟩
     exact absurd rfl c619
    rw [if_neg c516] at H
    exact absurd H (by simp)
   rw [if_neg c515] at H
   exact absurd H (by simp)
  replace c494:=Bool.eq_false_iff.mpr c494
  subst c494
  rw [if_neg (show ¬ (false = true) by decide)] at H
  by_cases c678 : ((rd_T33 l1 x10_2).f1) = 3
  ·rw [if_pos c678] at H
   have c678b0 : (((rd_T33 l1 x10_2).f1) == 3) = true:=beq_iff_eq.mpr c678
   have c678b1 : (((rd_T33 l1 x10_2).f1) != 3) = false:=bne_eq_false_iff_eq.mpr c678
   clear c678
   by_cases c679 : (1 : Int) = 0
   ·exact absurd c679 (by decide)
   first|rw [if_neg c679] at H|rw [if_neg not_false] at H
   by_cases c687 : (1 : Int) = 1
   ·first|rw [if_pos c687] at H|rw [if_pos trivial] at H
    replace H:=Option.bind_eq_some_iff.mp H
    obtain ⟨⟨t266,t267,t268,t269,t270⟩,A6880,H⟩:=H
    (try dsimp only at H)
    have A688:=zA A6880
    clear A6880
    have H':=zA H
    clear H
    as_aux_lemma =>
     try go_wp2
     replace HO_9:=zA (Kd.R_drew HO_9.out)
     replace K149:=zA (bD K149.1)
     replace K150:=zA (bD K150.1)
     replace K166:=zA (bD K166.1)
     replace K226:=zA (bD K226.1)
     replace HB:=zA (bw1 HB.1)
     refine start_ (n:=12) (S:=fun w' => w'.cell? ⟨G150,0,none⟩ = some (.int .u64 x151000_2) ∧ w'.cell? ⟨G150,1,none⟩ = some (.int .u64 x151001_2) ∧ w'.cell? ⟨G150,2,none⟩ = some (.bool x151002_2) ∧ w'.cell? ⟨G150,3,none⟩ = some (.int .i64 x151003_2) ∧ w'.cell? ⟨G150,4,none⟩ = some (.int .u64 x151004_2) ∧ w'.cell? ⟨G150,5,none⟩ = some (.int .u64 x151005_2) ∧ w'.cell? ⟨G150,6,none⟩ = some (.bool x151006_2) ∧ w'.cell? ⟨G150,7,none⟩ = some (.int .i64 x151007_2) ∧ w'.cell? ⟨G166,0,none⟩ = some (.int .i64 ((rd_T33 l1 x10_2).f0)) ∧ w'.cell? ⟨G166,1,none⟩ = some (.int .i64 ((rd_T33 l1 x10_2).f1)) ∧ w'.cell? ⟨G166,2,none⟩ = some (.int .i64 ((rd_T33 l1 x10_2).f2)) ∧ w'.cell? ⟨G166,3,none⟩ = some (.int .i64 ((rd_T33 l1 x10_2).f3))) (ds:=[11]) #[F,F,F,F,F,F,F,F,F,F,F,F] (by kernel_rfl) rfl rfl ⟨zk K150 0,zk K150 1,zk K150 2,zk K150 3,zk K150 4,zk K150 5,zk K150 6,zk K150 7,zk K166 0,zk K166 1,zk K166 2,zk K166 3⟩ (fun hHeld => ?_);refine with_tabW beaconlaw12_SessionAgrees.tab31 beaconlaw12_SessionAgrees.bits31 (fun HT_ HW_ => ?_)
     generalize wc.drew = w689 at HO_9 K149 K150 K166 K226 HB hHeld ⊢
     refine pz 0 156 #[T,F,F,F,F,F,F,F,F,F,F,F] HT_.1 ?_
     refine pz 1 157 #[T,T,F,F,F,F,F,F,F,F,F,F] HT_.1 ?_
     refine pz 2 158 #[T,T,T,F,F,F,F,F,F,F,F,F] HT_.1 ?_
     refine pz 4 160 #[T,T,T,F,T,F,F,F,F,F,F,F] HT_.1 ?_
     refine tz 3 159 #[T,T,T,T,T,F,F,F,F,F,F,F] HT_.1 HW_.1 hHeld ?_
     refine tz 5 161 #[T,T,T,T,T,T,F,F,F,F,F,F] HT_.1 HW_.1 hHeld ?_
     refine one_ (i:=6) (N:=some 162) #[T,T,T,T,T,T,T,F,F,F,F,F] rfl rfl (one_of HT_.out (by kernel_rfl)) (by decide) (fun K hK => ?_)
     refine zo_ Try.func11 #[.agg #[.int .u64 x151004_2,.int .u64 x151005_2,.bool x151006_2,.int .i64 x151007_2],.int .i64 ((rd_T33 l1 x10_2).f3)] ?_
     with_reducible refine (session_Tick.calls kj491 x151004_2 x151005_2 x151006_2 x151007_2 ((rd_T33 l1 x10_2).f3) t266 t267 t268 t269 t270 _ A688.out).mono ?_
     rintro e w690 ⟨rfl,hb⟩
     refine ⟨_,rfl,?_⟩
     replace HO_9:=zRb HO_9 hb
     replace K149:=zB K149 hb
     replace K150:=zB K150 hb
     replace K166:=zB K166 hb
     replace K226:=zB K226 hb
     replace HB:=zS HB hb
     (try clear hb)
     (try clear hb2)
     (try clear hk)
     (try clear hi)
     refine hK.out _ _ ⟨zk K150 0,zk K150 1,zk K150 2,zk K150 3,zk K150 4,zk K150 5,zk K150 6,zk K150 7,zk K166 0,zk K166 1,zk K166 2,zk K166 3⟩ (fun hHeld => ?_)
     clear hK K
     refine nz 162 ?_
     refine pz 7 155 #[T,T,T,T,T,T,T,T,F,F,F,F] HT_.1 ?_
     refine pz 8 163 #[T,T,T,T,T,T,T,T,T,F,F,F] HT_.1 ?_
     refine pz 9 164 #[T,T,T,T,T,T,T,T,T,T,F,F] HT_.1 ?_
     refine pz 10 165 #[T,T,T,T,T,T,T,T,T,T,T,F] HT_.1 ?_
     refine last_ (i:=11) (N:=none) #[T,T,T,T,T,T,T,T,T,T,T,T] rfl rfl (one_of HT_.out (by kernel_rfl)) (by decide) (fun K hK => ?_)
     have hs691 : w690.cell? ⟨G150,4,none⟩ = some (.int .u64 x151004_2):=zk K150 4
     have hfs691:=bF K150.1 4
     have:=NB149_150.1
     have:=NB166_150.1
     have:=NB226_150.1
     have:=NB150_149.1
     have:=NB150_166.1
     have:=NB150_226.1
     have hs692 : w690.cell? ⟨G150,5,none⟩ = some (.int .u64 x151005_2):=zk K150 5
     have hfs692:=bF K150.1 5
     have hs693 : w690.cell? ⟨G150,6,none⟩ = some (.bool x151006_2):=zk K150 6
     have hfs693:=bF K150.1 6
     have hs694 : w690.cell? ⟨G150,7,none⟩ = some (.int .i64 x151007_2):=zk K150 7
     have hfs694:=bF K150.1 7
     refine sz ?_
     refine hK.out _ _ ?_
     clear hK K
     refine done_ (done_of HT_.out (by kernel_rfl)) ?_
     try go_wp2
     go_meet
     case rel => exact ⟨_,(x9_2),(x151000_2),(x151001_2),(x151002_2),(x151003_2),(t266),(t267),(t268),(t269),H',⟨by have:=HK1.out;have:=HK2.out;have:=HJ491.out;first|omega|exact Nat.le_refl _⟩,⟨zRf HO_9 K150 (fun _ hk => trivial)⟩,⟨zf K149⟩,⟨zF K150⟩,⟨zf K166⟩,⟨zf K226⟩,⟨zH HB⟩⟩
   exact absurd rfl c687
  rw [if_neg c678] at H
  have c678b0 : (((rd_T33 l1 x10_2).f1) == 3) = false:=beq_eq_false_iff_ne.mpr c678
  have c678b1 : (((rd_T33 l1 x10_2).f1) != 3) = true:=bne_iff_ne.mpr c678
  by_cases c695 : ((rd_T33 l1 x10_2).f1) = 4
  ·rw [if_pos c695] at H
   have c695b0 : (((rd_T33 l1 x10_2).f1) == 4) = true:=beq_iff_eq.mpr c695
   have c695b1 : (((rd_T33 l1 x10_2).f1) != 4) = false:=bne_eq_false_iff_eq.mpr c695
   clear c695
   by_cases c696 : (1 : Int) = 0
   ·exact absurd c696 (by decide)
   first|rw [if_neg c696] at H|rw [if_neg not_false] at H
   by_cases c705 : (1 : Int) = 1
   ·first|rw [if_pos c705] at H|rw [if_pos trivial] at H
    replace H:=Option.bind_eq_some_iff.mp H
    obtain ⟨⟨t275,t276,t277,t278⟩,A7060,H⟩:=H
    (try dsimp only at H)
    have A706:=zA A7060
    clear A7060
    have H':=zA H
    clear H
    have:=NB150_149.1
    have:=NB149_150.1
    have:=NB150_166.1
    have:=NB166_150.1
    have:=NB150_226.1
    have:=NB226_150.1
    obtain ⟨hcz710_0,hcz710_1,hcz710_2,hcz710_3,hcz710_4,hcz710_5,hcz710_6,hcz710_7,hfz710_0,hfz710_1,hfz710_2,hfz710_3,hfz710_4,hfz710_5,hfz710_6,hfz710_7⟩:=zc8 K150
    as_aux_lemma =>
     go_wp2_with (first|((with_reducible refine gate_callee (f:=12) rfl ?_);refine zg (some 172) Try.func12 #[.agg #[.int .u64 x151004_2,.int .u64 x151005_2,.bool x151006_2,.int .i64 x151007_2]] ?_;(with_reducible refine (session_Down.calls x151004_2 x151005_2 x151006_2 x151007_2 t275 t276 t277 t278 _ A706.out).mono ?_);rintro e w711 ⟨rfl,hb⟩;refine ⟨_,rfl,?_⟩;replace HO_9:=zRb HO_9 hb;replace K149:=zB K149 hb;replace K150:=zB K150 hb;replace K166:=zB K166 hb;replace K226:=zB K226 hb;replace HB:=zS HB hb;(try clear hb);obtain ⟨hcz712_0,hcz712_1,hcz712_2,hcz712_3,hcz712_4,hcz712_5,hcz712_6,hcz712_7,hfz712_0,hfz712_1,hfz712_2,hfz712_3,hfz712_4,hfz712_5,hfz712_6,hfz712_7⟩:=zc8 K150)|((with_reducible refine gate_store (t:=26) (p:=173) rfl ?_);refine store_event (t:=26) (p:=173) (v:=?vo_w713) (w1:=((((w711.setCell ⟨G150,4,none⟩ (.int .u64 t275)).setCell ⟨G150,5,none⟩ (.int .u64 t276)).setCell ⟨G150,6,none⟩ (.bool t277)).setCell ⟨G150,7,none⟩ (.int .i64 t278))) ?hg ?ho ?hn ?hr ?_;(case ho => rfl);(case hg => rfl);(case hn => rfl);(case hr => first|(go_simp;done)|(go_simp;rfl));intro w713 hw;replace HO_9 : Aside0 (Kd.R k50 50 w713 w.heap.size (fun _ => True) u9 x9_2):=⟨(by rw [hw];exact (zRf HO_9 K150 (fun _ hk => trivial)))⟩;replace K149:=zV hw K149;replace K150:=zVp hw (.cells #[.int .u64 x151000_2,.int .u64 x151001_2,.bool x151002_2,.int .i64 x151003_2,.int .u64 t275,.int .u64 t276,.bool t277,.int .i64 t278] 27 (0,0)) K150;replace K166:=zV hw K166;replace K226:=zV hw K226;replace HB:=zU hw HB;clear hw))
     go_meet
     case rel => exact ⟨_,(x9_2),(x151000_2),(x151001_2),(x151002_2),(x151003_2),(t275),(t276),(t277),(t278),H',⟨by have:=HK1.out;have:=HK2.out;have:=HJ491.out;first|omega|exact Nat.le_refl _⟩,⟨zR HO_9⟩,⟨z1 K149.1⟩,⟨z1 K150.1⟩,⟨z1 K166.1⟩,⟨z1 K226.1⟩,⟨zH HB⟩⟩
   exact absurd rfl c705
  rw [if_neg c695] at H
  have c695b0 : (((rd_T33 l1 x10_2).f1) == 4) = false:=beq_eq_false_iff_ne.mpr c695
  have c695b1 : (((rd_T33 l1 x10_2).f1) != 4) = true:=bne_iff_ne.mpr c695
  have H':=zA H
  clear H
  as_aux_lemma =>
   go_wp2
   go_meet
   case rel => exact ⟨_,(x9_2),(x151000_2),(x151001_2),(x151002_2),(x151003_2),(x151004_2),(x151005_2),(x151006_2),(x151007_2),H',⟨by have:=HK1.out;have:=HK2.out;have:=HJ491.out;first|omega|exact Nat.le_refl _⟩,⟨zR HO_9⟩,⟨z1 K149.1⟩,⟨z1 K150.1⟩,⟨z1 K166.1⟩,⟨z1 K226.1⟩,⟨zH HB⟩⟩
 clear HC467
 try clear c1;try clear c5
 obtain ⟨kq,x9_466,x151000_466,x151001_466,x151002_466,x151003_466,x151004_466,x151005_466,x151006_466,x151007_466,HA,HJ466,HO_9,K149,K150,K166,K226,HB⟩:=hcut
 cases kq with
 | zero => exact absurd HA.out (by simp [beaconlaw12_SessionAgrees.j13])
 | succ kj466 => ?_
 have H:=HA.out
 clear HA
 simp only [beaconlaw12_SessionAgrees.j13] at H
 by_cases c714 : (1 : Int) = 0
 ·exact absurd c714 (by decide)
 first|rw [if_neg c714] at H|rw [if_neg not_false] at H
 by_cases c793 : (1 : Int) = 1
 ·first|rw [if_pos c793] at H|rw [if_pos trivial] at H
  have HC794:=zA H
  clear H
  have:=NB150_149.1
  have:=NB149_150.1
  have:=NB150_166.1
  have:=NB166_150.1
  have:=NB150_226.1
  have:=NB226_150.1
  obtain ⟨hcz798_0,hcz798_1,hcz798_2,hcz798_3,hcz798_4,hcz798_5,hcz798_6,hcz798_7,hfz798_0,hfz798_1,hfz798_2,hfz798_3,hfz798_4,hfz798_5,hfz798_6,hfz798_7⟩:=zc8 K150
  go_upto_region 35 with (first|((with_reducible refine gate_dst (N:=20) rfl ?_);(try (refine gate_guard (by rfl) ?_;dsimp only));refine zb (N:=20) (cs:=#[.int .u64 0,.int .u64 0,.bool false,.int .i64 0]) (t:=26) ?_;intro G282 hg w799 hbox hb;replace HO_9:=zRb HO_9 hb;have K282:=zA (hbox);have GW282:=zN HB hg;have GE282:=zN HB hg;replace HB:=zS HB hb;have NB149_282:=zL K149 hg;have NB282_149:=zG K149 hg;replace K149:=zB K149 hb;have NB150_282:=zL K150 hg;have NB282_150:=zG K150 hg;replace K150:=zB K150 hb;have NB166_282:=zL K166 hg;have NB282_166:=zG K166 hg;replace K166:=zB K166 hb;have NB226_282:=zL K226 hg;have NB282_226:=zG K226 hg;replace K226:=zB K226 hb;clear hb hbox hg;have:=NB282_149.1;have:=NB149_282.1;have:=NB282_150.1;have:=NB150_282.1;have:=NB282_166.1;have:=NB166_282.1;have:=NB282_226.1;have:=NB226_282.1;obtain ⟨hcz804_0,hcz804_1,hcz804_2,hcz804_3,hfz804_0,hfz804_1,hfz804_2,hfz804_3⟩:=zc4 K282)|((with_reducible refine gate_store (t:=26) (p:=20) rfl ?_);refine store_event (t:=26) (p:=20) (v:=?vo_w805) (w1:=((((w799.setCell ⟨G282,0,none⟩ (.int .u64 x151004_466)).setCell ⟨G282,1,none⟩ (.int .u64 x151005_466)).setCell ⟨G282,2,none⟩ (.bool x151006_466)).setCell ⟨G282,3,none⟩ (.int .i64 x151007_466))) ?hg ?ho ?hn ?hr ?_;(case ho => rfl);(case hg => rfl);(case hn => rfl);(case hr => first|(go_simp;done)|(go_simp;rfl));intro w805 hw;replace HO_9 : Aside0 (Kd.R k50 50 w805 w.heap.size (fun _ => True) u9 x9_466):=⟨(by rw [hw];exact (zRf HO_9 K282 (fun _ hk => trivial)))⟩;replace K149:=zV hw K149;replace K150:=zV hw K150;replace K166:=zV hw K166;replace K226:=zV hw K226;replace K282:=zVp hw (.cells #[.int .u64 x151004_466,.int .u64 x151005_466,.bool x151006_466,.int .i64 x151007_466] 26 (0,0)) K282;replace HB:=zU hw HB;clear hw))
  (try simp only [Act.put,xA,xB,xC])
  go_cut [204] (fun v204 wc => ∃ (kq : Nat) (x204_793 : Bool),v204 = .bool x204_793 ∧ Aside0 (beaconlaw12_SessionAgrees.j15 kq l1 x9_466 x10_2 x204_793 x151000_466 x151001_466 x151002_466 x151003_466 x151004_466 x151005_466 x151006_466 x151007_466 = some r) ∧ Aside0 (kq ≤ kj466) ∧ Aside0 (Kd.R k50 50 wc w.heap.size (fun _ => True) u9 x9_466) ∧ Aside0 (wc.heap[G149]? = some (.cells #[.int .u64 a0_0,.int .u64 a0_1] 23 (0,0))) ∧ Aside0 (wc.heap[G150]? = some (.cells #[.int .u64 x151000_466,.int .u64 x151001_466,.bool x151002_466,.int .i64 x151003_466,.int .u64 x151004_466,.int .u64 x151005_466,.bool x151006_466,.int .i64 x151007_466] 27 (0,0))) ∧ Aside0 (wc.heap[G166]? = some (.cells #[.int .i64 ((rd_T33 l1 x10_2).f0),.int .i64 ((rd_T33 l1 x10_2).f1),.int .i64 ((rd_T33 l1 x10_2).f2),.int .i64 ((rd_T33 l1 x10_2).f3)] 33 (0,0))) ∧ Aside0 (wc.heap[G226]? = some (.cells #[.int .u64 x151004_2,.int .u64 x151005_2,.bool x151006_2,.int .i64 x151007_2] 26 (0,0))) ∧ Aside0 (wc.heap[G282]? = some (.cells #[.int .u64 x151004_466,.int .u64 x151005_466,.bool x151006_466,.int .i64 x151007_466] 26 (0,0))) ∧ Aside0 (Below w.heap.size w wc))
  case first =>
   have H:=HC794.out
   clear HC794
   by_cases c806 : x151004_466 < x151004_2
   ·rw [if_pos c806] at H
    have c806b0 : decide (x151004_466 < x151004_2) = true:=decide_eq_true c806
    clear c806
    (first|rw [c806b0]|(simp only [i64_w,i32_w];rw [c806b0])|skip)
    have H':=zA H
    clear H
    have:=NB282_149.1
    have:=NB149_282.1
    have:=NB282_150.1
    have:=NB150_282.1
    have:=NB282_166.1
    have:=NB166_282.1
    have:=NB282_226.1
    have:=NB226_282.1
    obtain ⟨hcz811_0,hcz811_1,hcz811_2,hcz811_3,hfz811_0,hfz811_1,hfz811_2,hfz811_3⟩:=zc4 K282
    have:=NB226_149.1
    have:=NB149_226.1
    have:=NB226_166.1
    have:=NB166_226.1
    obtain ⟨hcz815_0,hcz815_1,hcz815_2,hcz815_3,hfz815_0,hfz815_1,hfz815_2,hfz815_3⟩:=zc4 K226
    as_aux_lemma =>
     go_wp2
     go_meet
     case rel => exact ⟨_,(true),ze,H',⟨by have:=HK1.out;have:=HK2.out;have:=HJ466.out;first|omega|exact Nat.le_refl _⟩,⟨zR HO_9⟩,⟨z1 K149.1⟩,⟨z1 K150.1⟩,⟨z1 K166.1⟩,⟨z1 K226.1⟩,⟨z1 K282.1⟩,⟨zH HB⟩⟩
   rw [if_neg c806] at H
   have c806b0 : decide (x151004_466 < x151004_2) = false:=decide_eq_false c806
   clear c806
   (first|rw [c806b0]|(simp only [i64_w,i32_w];rw [c806b0])|skip)
   by_cases c816 : x151005_466 < x151005_2
   ·rw [if_pos c816] at H
    have c816b0 : decide (x151005_466 < x151005_2) = true:=decide_eq_true c816
    clear c816
    by_cases c817 : x151005_466 = 0
    ·rw [if_pos c817] at H
     have c817b0 : (x151005_466 == 0) = true:=beq_iff_eq.mpr c817
     have c817b1 : (x151005_466 != 0) = false:=bne_eq_false_iff_eq.mpr c817
     clear c817
     by_cases c818 : x151006_466 = true
     ·subst c818
      rw [if_pos rfl] at H
      replace H:=Option.bind_eq_some_iff.mp H
      obtain ⟨t283,A8190,H⟩:=H
      (try dsimp only at H)
      have A819:=zA A8190
      clear A8190
      have H':=zA H
      clear H
      have:=NB282_149.1
      have:=NB149_282.1
      have:=NB282_150.1
      have:=NB150_282.1
      have:=NB282_166.1
      have:=NB166_282.1
      have:=NB282_226.1
      have:=NB226_282.1
      obtain ⟨hcz824_0,hcz824_1,hcz824_2,hcz824_3,hfz824_0,hfz824_1,hfz824_2,hfz824_3⟩:=zc4 K282
      have:=NB226_149.1
      have:=NB149_226.1
      have:=NB226_166.1
      have:=NB166_226.1
      obtain ⟨hcz828_0,hcz828_1,hcz828_2,hcz828_3,hfz828_0,hfz828_1,hfz828_2,hfz828_3⟩:=zc4 K226
      obtain ⟨Ao829,co829,eo829⟩:=Kd.R_slice HO_9.out
      subst eo829
      as_aux_lemma =>
       go_wp2_with (first|(go_at_call 21;(with_reducible refine (beaconlaw12_heard.calls kj466 _ _ x9_466 1 x151004_466 x151005_466 true x151007_466 t283 _ ?side1 ?side2 A819.out).mono ?_);(case side1 => exact zC ((Kd.R_reads' HO_9.out).2.2));(case side2 => exact (Kd.R_reads' HO_9.out).2.1);rintro e w830 ⟨rfl,hb⟩;replace HO_9:=zRb HO_9 hb;replace K149:=zB K149 hb;replace K150:=zB K150 hb;replace K166:=zB K166 hb;replace K226:=zB K226 hb;replace K282:=zB K282 hb;replace HB:=zS HB hb;(try clear hb)))
       go_meet
       case rel => exact ⟨_,(!t283),ze,H',⟨by have:=HK1.out;have:=HK2.out;have:=HJ466.out;first|omega|exact Nat.le_refl _⟩,⟨zR HO_9⟩,⟨z1 K149.1⟩,⟨z1 K150.1⟩,⟨z1 K166.1⟩,⟨z1 K226.1⟩,⟨z1 K282.1⟩,⟨zH HB⟩⟩
     replace c818:=Bool.eq_false_iff.mpr c818
     subst c818
     rw [if_neg (show ¬ (false = true) by decide)] at H
     have H':=zA H
     clear H
     have:=NB282_149.1
     have:=NB149_282.1
     have:=NB282_150.1
     have:=NB150_282.1
     have:=NB282_166.1
     have:=NB166_282.1
     have:=NB282_226.1
     have:=NB226_282.1
     obtain ⟨hcz835_0,hcz835_1,hcz835_2,hcz835_3,hfz835_0,hfz835_1,hfz835_2,hfz835_3⟩:=zc4 K282
     have:=NB226_149.1
     have:=NB149_226.1
     have:=NB226_166.1
     have:=NB166_226.1
     obtain ⟨hcz839_0,hcz839_1,hcz839_2,hcz839_3,hfz839_0,hfz839_1,hfz839_2,hfz839_3⟩:=zc4 K226
     as_aux_lemma =>
      go_wp2
      go_meet
      case rel => exact ⟨_,(false),ze,H',⟨by have:=HK1.out;have:=HK2.out;have:=HJ466.out;first|omega|exact Nat.le_refl _⟩,⟨zR HO_9⟩,⟨z1 K149.1⟩,⟨z1 K150.1⟩,⟨z1 K166.1⟩,⟨z1 K226.1⟩,⟨z1 K282.1⟩,⟨zH HB⟩⟩
    rw [if_neg c817] at H
    have c817b0 : (x151005_466 == 0) = false:=beq_eq_false_iff_ne.mpr c817
    have c817b1 : (x151005_466 != 0) = true:=bne_iff_ne.mpr c817
    have H':=zA H
    clear H
    have:=NB282_149.1
    have:=NB149_282.1
    have:=NB282_150.1
    have:=NB150_282.1
    have:=NB282_166.1
    have:=NB166_282.1
    have:=NB282_226.1
    have:=NB226_282.1
    obtain ⟨hcz844_0,hcz844_1,hcz844_2,hcz844_3,hfz844_0,hfz844_1,hfz844_2,hfz844_3⟩:=zc4 K282
    have:=NB226_149.1
    have:=NB149_226.1
    have:=NB226_166.1
    have:=NB166_226.1
    obtain ⟨hcz848_0,hcz848_1,hcz848_2,hcz848_3,hfz848_0,hfz848_1,hfz848_2,hfz848_3⟩:=zc4 K226
    as_aux_lemma =>
     go_wp2
     go_meet
     case rel => exact ⟨_,(true),ze,H',⟨by have:=HK1.out;have:=HK2.out;have:=HJ466.out;first|omega|exact Nat.le_refl _⟩,⟨zR HO_9⟩,⟨z1 K149.1⟩,⟨z1 K150.1⟩,⟨z1 K166.1⟩,⟨z1 K226.1⟩,⟨z1 K282.1⟩,⟨zH HB⟩⟩
   rw [if_neg c816] at H
   have c816b0 : decide (x151005_466 < x151005_2) = false:=decide_eq_false c816
   clear c816
   by_cases c849 : x151006_466 = true
   ·subst c849
    rw [if_pos rfl] at H
    replace H:=Option.bind_eq_some_iff.mp H
    obtain ⟨t284,A8500,H⟩:=H
    (try dsimp only at H)
    have A850:=zA A8500
    clear A8500
    have H':=zA H
    clear H
    have:=NB282_149.1
    have:=NB149_282.1
    have:=NB282_150.1
    have:=NB150_282.1
    have:=NB282_166.1
    have:=NB166_282.1
    have:=NB282_226.1
    have:=NB226_282.1
    obtain ⟨hcz855_0,hcz855_1,hcz855_2,hcz855_3,hfz855_0,hfz855_1,hfz855_2,hfz855_3⟩:=zc4 K282
    have:=NB226_149.1
    have:=NB149_226.1
    have:=NB226_166.1
    have:=NB166_226.1
    obtain ⟨hcz859_0,hcz859_1,hcz859_2,hcz859_3,hfz859_0,hfz859_1,hfz859_2,hfz859_3⟩:=zc4 K226
    obtain ⟨Ao860,co860,eo860⟩:=Kd.R_slice HO_9.out
    subst eo860
    as_aux_lemma =>
     go_wp2_with (first|(go_at_call 21;(with_reducible refine (beaconlaw12_heard.calls kj466 _ _ x9_466 1 x151004_466 x151005_466 true x151007_466 t284 _ ?side1 ?side2 A850.out).mono ?_);(case side1 => exact zC ((Kd.R_reads' HO_9.out).2.2));(case side2 => exact (Kd.R_reads' HO_9.out).2.1);rintro e w861 ⟨rfl,hb⟩;replace HO_9:=zRb HO_9 hb;replace K149:=zB K149 hb;replace K150:=zB K150 hb;replace K166:=zB K166 hb;replace K226:=zB K226 hb;replace K282:=zB K282 hb;replace HB:=zS HB hb;(try clear hb)))
     go_meet
     case rel => exact ⟨_,(!t284),ze,H',⟨by have:=HK1.out;have:=HK2.out;have:=HJ466.out;first|omega|exact Nat.le_refl _⟩,⟨zR HO_9⟩,⟨z1 K149.1⟩,⟨z1 K150.1⟩,⟨z1 K166.1⟩,⟨z1 K226.1⟩,⟨z1 K282.1⟩,⟨zH HB⟩⟩
   replace c849:=Bool.eq_false_iff.mpr c849
   subst c849
   rw [if_neg (show ¬ (false = true) by decide)] at H
   have H':=zA H
   clear H
   have:=NB282_149.1
   have:=NB149_282.1
   have:=NB282_150.1
   have:=NB150_282.1
   have:=NB282_166.1
   have:=NB166_282.1
   have:=NB282_226.1
   have:=NB226_282.1
   obtain ⟨hcz866_0,hcz866_1,hcz866_2,hcz866_3,hfz866_0,hfz866_1,hfz866_2,hfz866_3⟩:=zc4 K282
   have:=NB226_149.1
   have:=NB149_226.1
   have:=NB226_166.1
   have:=NB166_226.1
   obtain ⟨hcz870_0,hcz870_1,hcz870_2,hcz870_3,hfz870_0,hfz870_1,hfz870_2,hfz870_3⟩:=zc4 K226
   as_aux_lemma =>
    go_wp2
    go_meet
    case rel => exact ⟨_,(false),ze,H',⟨by have:=HK1.out;have:=HK2.out;have:=HJ466.out;first|omega|exact Nat.le_refl _⟩,⟨zR HO_9⟩,⟨z1 K149.1⟩,⟨z1 K150.1⟩,⟨z1 K166.1⟩,⟨z1 K226.1⟩,⟨z1 K282.1⟩,⟨zH HB⟩⟩
  clear HC794
  try clear c714;try clear c793;try clear hcz798_0;try clear hcz798_1;try clear hcz798_2;try clear hcz798_3;try clear hcz798_4;try clear hcz798_5;try clear hcz798_6;try clear hcz798_7;try clear hcz804_0;try clear hcz804_1;try clear hcz804_2;try clear hcz804_3;try clear hfz798_0;try clear hfz798_1;try clear hfz798_2;try clear hfz798_3;try clear hfz798_4;try clear hfz798_5;try clear hfz798_6;try clear hfz798_7;try clear hfz804_0;try clear hfz804_1;try clear hfz804_2;try clear hfz804_3
  obtain ⟨kq,x204_793,rfl,HA,HJ793,HO_9,K149,K150,K166,K226,K282,HB⟩:=hcut
  cases kq with
  | zero => exact absurd HA.out (by simp [beaconlaw12_SessionAgrees.j15])
  | succ kj793 => ?_
  have H:=HA.out
  clear HA
  simp only [beaconlaw12_SessionAgrees.j15] at H
  by_cases c871 : x204_793 = true
  ·subst c871
   rw [if_pos rfl] at H
   exact absurd ((Option.some.inj H).trans HR_.out) (by decide)
  replace c871:=Bool.eq_false_iff.mpr c871
  subst c871
  rw [if_neg (show ¬ (false = true) by decide)] at H
  have H':=zA H
  clear H
  as_aux_lemma =>
   go_wp2
   go_roundg kj793
   case measure => have:=HK1.out;have:=HK2.out;have:=HJ466.out;have:=HJ793.out;omega
   case rel => exact ⟨(x9_466),(wrap64 (x10_2 + 1)),(x151000_466),(x151001_466),(x151002_466),(x151003_466),(x151004_466),(x151005_466),(x151006_466),(x151007_466),ze,H',⟨by have:=HK1.out;have:=HK2.out;have:=HJ466.out;have:=HJ793.out;omega⟩,⟨zR HO_9⟩,⟨z1 K149.1⟩,⟨z1 K150.1⟩,⟨zH HB⟩⟩
 exact absurd rfl c793
end Go.Proofs.Ytjodekffbobmlaa.XA

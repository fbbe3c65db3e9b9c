/- Go functions of this seat as Lean functions, with proofs that the calls come to them. (Written by xprint.py, a program of this session, over the kit's print.) -/
import Derived.Test.YtjodekffbobmlaaXAx0
import Derived.Test.YtjodekffbobmlaaXAx1
import Derived.Test.YtjodekffbobmlaaXAx2
import Derived.Test.YtjodekffbobmlaaXAx3d
import Derived.Test.YtjodekffbobmlaaXAh
namespace Go.Proofs.Ytjodekffbobmlaa.XA
open Go.RowKit Go.Proofs.YtjodekffbobmlaaW.PrintWords Go.Proofs.YtjodekffbobmlaaW.PrintLast Go.Proofs.YtjodekffbobmlaaW.PrintMore
attribute [local go_sem] max2_int min2_int max_two min_two max_three min_three max_four min_four   -- for this text's walks alone
set_option linter.unusedVariables false
set_option linter.unusedSimpArgs false
open List renaming setIfInBounds_toArray → xA, set_cons_zero → xB, set_cons_succ → xC
open Go.Proofs.YtjodekffbobmlaaW.PrintWords renaming blk_drewN → bN, blk_drew → bD, blk_alloc → bA, below_set → bS, blk_frozen → bF, blk_cell → bC, cell_far → cF, blk_far → bZ, blk_below → bB, pw_below_drewN → bwN, below_drew1 → bw1, below_alloc → bwA
open Go.Proofs.YtjodekffbobmlaaW.PrintZ
open Bool renaming true → T,false → F

/-! ### half0: a part of YtjodekffbobmlaaXAx3 -/
set_option maxHeartbeats 8000000 in
set_option maxRecDepth 100000 in
theorem half0 : ∀ (k : Nat) (a0_0 a0_1 : Int) (A1 : Option Go.Addr) (c1 : Nat) (l1 : List S33) (r : Bool) (w : World), Try.prog.underlying 23 = Option.some (Go.TypeDesc.array 2 22) → Try.prog.underlying 27 = Option.some (Go.TypeDesc.array 2 26) → Try.prog.underlying 26 = Option.some (Go.TypeDesc.struct #[{ name := "Mine", type := 22, offset := 0, embedded := Bool.false, tag := "", pkgPath := "", byteOffset := 0 }, { name := "Peer", type := 22, offset := 1, embedded := Bool.false, tag := "", pkgPath := "", byteOffset := 8 }, { name := "Up", type := 4, offset := 2, embedded := Bool.false, tag := "", pkgPath := "", byteOffset := 16 }, { name := "Silent", type := 3, offset := 3, embedded := Bool.false, tag := "", pkgPath := "", byteOffset := 24 }]) → Try.prog.underlying 33 = Option.some (Go.TypeDesc.struct #[{ name := "End", type := 3, offset := 0, embedded := Bool.false, tag := "", pkgPath := "", byteOffset := 0 }, { name := "Do", type := 3, offset := 1, embedded := Bool.false, tag := "", pkgPath := "", byteOffset := 8 }, { name := "I", type := 3, offset := 2, embedded := Bool.false, tag := "", pkgPath := "", byteOffset := 16 }, { name := "Life", type := 3, offset := 3, embedded := Bool.false, tag := "", pkgPath := "", byteOffset := 24 }]) → Try.prog.underlying 50 = Option.some (Go.TypeDesc.struct #[{ name := "from", type := 3, offset := 0, embedded := Bool.false, tag := "", pkgPath := "beacon/beaconlaw12", byteOffset := 0 }, { name := "nonce", type := 22, offset := 1, embedded := Bool.false, tag := "", pkgPath := "beacon/beaconlaw12", byteOffset := 8 }, { name := "echo", type := 22, offset := 2, embedded := Bool.false, tag := "", pkgPath := "beacon/beaconlaw12", byteOffset := 16 }]) → Aside0 (k33.C w A1 l1.length l1) → Aside0 (l1.length ≤ c1) → Aside0 (r = Bool.true) → let xx1 := Go.bodyPost Try.prog Try.f5 fun (e : Go.Ending) (w' : World) => e = Go.Ending.returned (Value.bool r) ∧ Below w.heap.size w w'; ∀ (G149 : Nat) (w3 : World), Aside0 (w.heap.size ≤ G149) → Aside0 (w.heap.size ≤ G149) → ∀ (G150 : Nat) (w4 : World), Aside0 (w4.heap[G150]? = Option.some (Go.Obj.cells #[Value.int IntKind.u64 0, Value.int IntKind.u64 0, Value.bool Bool.false, Value.int IntKind.i64 0, Value.int IntKind.u64 0, Value.int IntKind.u64 0, Value.bool Bool.false, Value.int IntKind.i64 0] 27)) → Aside0 (w.heap.size ≤ G150) → Aside0 (w.heap.size ≤ G150) → Aside0 (Below w.heap.size w w4) → Aside0 (G149 ≠ G150) → Aside0 (G150 ≠ G149) → Aside0 (w4.heap[G149]? = Option.some (Go.Obj.cells #[Value.int IntKind.u64 a0_0, Value.int IntKind.u64 a0_1] 23)) → ∀ (xx5 : Act → World → Prop) (xx6 : World) (xx7 u7 u8 u21 u22 u23 u24 u25 u26 u27 u28 u29 u30 u31 u32 u33 u34 u35 u36 u37 u38 u39 u40 u41 u42 u43 : Go.Value) (xx8 : Nat → Act → World → Prop) (xx9 : Act → World → Prop), (∀ (k_1 : Nat) (a' : Act) (w' : World), (∃ (u4 : Go.Value), ∃ (u6 : Go.Value), ∃ (u7 : Go.Value), ∃ (u8 : Go.Value), ∃ (u21 : Go.Value), ∃ (u22 : Go.Value), ∃ (u23 : Go.Value), ∃ (u24 : Go.Value), ∃ (u25 : Go.Value), ∃ (u26 : Go.Value), ∃ (u27 : Go.Value), ∃ (u28 : Go.Value), ∃ (u29 : Go.Value), ∃ (u30 : Go.Value), ∃ (u31 : Go.Value), ∃ (u32 : Go.Value), ∃ (u33 : Go.Value), ∃ (u34 : Go.Value), ∃ (u35 : Go.Value), ∃ (u36 : Go.Value), ∃ (u37 : Go.Value), ∃ (u38 : Go.Value), ∃ (u39 : Go.Value), ∃ (u40 : Go.Value), ∃ (u41 : Go.Value), ∃ (u42 : Go.Value), ∃ (u43 : Go.Value), (∃ (x6_1 : Int), ∃ (x151000_1 : Int), ∃ (x151001_1 : Int), ∃ (x151002_1 : Bool), ∃ (x151003_1 : Int), ∃ (x151004_1 : Int), ∃ (x151005_1 : Int), ∃ (x151006_1 : Bool), ∃ (x151007_1 : Int), u6 = Value.int IntKind.i64 x6_1 ∧ Aside0 (beaconlaw12_SessionAgrees.l0 k_1 l1 x6_1 a0_0 a0_1 x151000_1 x151001_1 x151002_1 x151003_1 x151004_1 x151005_1 x151006_1 x151007_1 = Option.some r) ∧ Aside0 (k_1 ≤ k) ∧ Aside0 (w'.heap[G149]? = Option.some (Go.Obj.cells #[Value.int IntKind.u64 a0_0, Value.int IntKind.u64 a0_1] 23)) ∧ Aside0 (w'.heap[G150]? = Option.some (Go.Obj.cells #[Value.int IntKind.u64 x151000_1, Value.int IntKind.u64 x151001_1, Value.bool x151002_1, Value.int IntKind.i64 x151003_1, Value.int IntKind.u64 x151004_1, Value.int IntKind.u64 x151005_1, Value.bool x151006_1, Value.int IntKind.i64 x151007_1] 27)) ∧ Aside0 (Below w.heap.size w w')) ∧ a' = { tmps := #[Value.agg #[Value.int IntKind.u64 a0_0, Value.int IntKind.u64 a0_1], Value.slice A1 l1.length c1, Value.pointer (Option.some { block := G149, off := 0 }), Go.undef, u4, Value.pointer (Option.some { block := G150, off := 0 }), u6, u7, u8, Go.undef, Go.undef, Go.undef, Go.undef, Go.undef, Go.undef, Go.undef, Go.undef, Go.undef, Go.undef, Go.undef, Go.undef, u21, u22, u23, u24, u25, u26, u27, u28, u29, u30, u31, u32, u33, u34, u35, u36, u37, u38, u39, u40, u41, u42, u43, Go.undef, Go.undef, Go.undef, Go.undef, Go.undef, Go.undef, Go.undef, Go.undef, Go.undef, Go.undef, Go.undef, Go.undef, Go.undef, Go.undef, Go.undef, Go.undef, Go.undef, Go.undef, Go.undef, Go.undef, Go.undef, Go.undef, Go.undef, Go.undef, Go.undef, Go.undef, Go.undef, Go.undef, Go.undef, Go.undef, Go.undef, Go.undef, Go.undef, Go.undef, Go.undef, Go.undef, Go.undef, Go.undef, Go.undef, Go.undef, Go.undef, Go.undef, Go.undef, Go.undef, Go.undef, Go.undef, Go.undef, Go.undef, Go.undef, Go.undef, Go.undef, Go.undef, Go.undef, Go.undef, Go.undef, Go.undef, Go.undef, Go.undef, Go.undef, Go.undef, Go.undef, Go.undef, Go.undef, Go.undef, Go.undef, Go.undef, Go.undef, Go.undef, Go.undef, Go.undef, Go.undef, Go.undef, Go.undef, Go.undef, Go.undef, Go.undef, Go.undef, Go.undef, Go.undef, Go.undef, Go.undef, Go.undef, Go.undef, Go.undef, Go.undef, Go.undef, Go.undef, Go.undef, Go.undef, Go.undef, Go.undef, Go.undef, Go.undef, Go.undef, Go.undef, Go.undef, Go.undef, Go.undef, Go.undef, Go.undef, Go.undef, Go.undef, Go.undef, Go.undef, Go.undef, Go.undef, Go.undef, Go.undef, Go.undef, Go.undef, Go.undef, Go.undef, Go.undef, Go.undef, Go.undef, Go.undef, Go.undef, Go.undef, Go.undef, Go.undef, Go.undef, Go.undef, Go.undef, Go.undef, Go.undef, Go.undef, Go.undef, Go.undef, Go.undef, Go.undef, Go.undef, Go.undef, Go.undef, Go.undef, Go.undef, Go.undef, Go.undef, Go.undef, Go.undef, Go.undef, Go.undef, Go.undef, Go.undef, Go.undef, Go.undef, Go.undef, Go.undef, Go.undef, Go.undef, Go.undef, Go.undef, Go.undef, Go.undef, Go.undef, Go.undef, Go.undef, Go.undef, Go.undef, Go.undef, Go.undef, Go.undef, Go.undef], defers := [] }) → xx8 k_1 a' w') → ∀ (x6_1 x151000_1 x151001_1 : Int) (x151002_1 : Bool) (x151003_1 x151004_1 x151005_1 : Int) (x151006_1 : Bool) (x151007_1 : Int), Aside0 (xx6.heap[G149]? = Option.some (Go.Obj.cells #[Value.int IntKind.u64 a0_0, Value.int IntKind.u64 a0_1] 23)) → Aside0 (xx6.heap[G150]? = Option.some (Go.Obj.cells #[Value.int IntKind.u64 x151000_1, Value.int IntKind.u64 x151001_1, Value.bool x151002_1, Value.int IntKind.i64 x151003_1, Value.int IntKind.u64 x151004_1, Value.int IntKind.u64 x151005_1, Value.bool x151006_1, Value.int IntKind.i64 x151007_1] 27)) → Aside0 (Below w.heap.size w xx6) → ∀ (k1 : Nat), (∀ (a' : Act) (w' : World), Handed xx8 (k1 + 1) a' w' → xx9 a' w') → Aside0 (k1 + 1 ≤ k) → Decidable.decide (x6_1 < 2) = Bool.false → ∀ (xx15 : Act → World → Prop), (∀ (a : Act) (w : World), Code.wp Try.prog (CODEAT Try.f5 [1, 1, 0, 1, 0, 0, 1]) (Exit.then xx9 (Exit.inBlock 0 (Exit.then xx5 xx1))) a w → xx15 a w) → ∀ (xx17 : Act → World → Prop), (∀ (a : Act) (w : World), Code.wp Try.prog (CODEAT Try.f5 [1, 1, 1, 1, 1]) xx1 a w → xx17 a w) → ∀ (wr : World) (u4 u9 u11 u12 u13 u14 u15 u16 u17 u18 u19 u20 u44 u45 u46 u47 u48 u49 u50 u51 u52 u53 u54 u55 u56 u57 u58 u59 u60 u61 u62 u63 u64 u65 u66 u67 u68 u69 u70 u71 u72 u73 u74 u75 u76 u77 u78 u79 u80 u81 u82 u83 u84 u85 u86 u87 u88 u89 u90 u91 u92 u93 u94 u95 u96 u97 u98 u99 u100 u101 u102 u103 u104 u105 u106 u107 u108 u109 u110 u111 u112 u113 u114 u115 u116 u117 u118 u119 u120 u121 u122 u123 u124 u125 u126 u127 u128 u129 u130 u131 u132 u133 u134 u135 u136 u137 u138 u139 u140 u141 u142 u143 u144 u145 u146 u147 u148 u149 u150 u151 u152 u153 u154 u155 u156 u157 u158 u159 u160 u161 u162 u163 u164 u165 u166 u167 u168 u169 u170 u171 u172 u173 u174 u175 u176 u177 u178 u179 u180 u181 u182 u183 u184 u185 u186 u187 u188 u189 u190 u191 u192 u193 u194 u195 u196 u197 u198 u199 u200 u201 u202 u203 u204 : Go.Value) (xx19 : Nat → Act → World → Prop) (xx20 : Act → World → Prop), (∀ (k : Nat) (a' : Act) (w' : World), (∃ (u4 : Go.Value), ∃ (u9 : Go.Value), ∃ (u10 : Go.Value), ∃ (u11 : Go.Value), ∃ (u12 : Go.Value), ∃ (u13 : Go.Value), ∃ (u14 : Go.Value), ∃ (u15 : Go.Value), ∃ (u16 : Go.Value), ∃ (u17 : Go.Value), ∃ (u18 : Go.Value), ∃ (u19 : Go.Value), ∃ (u20 : Go.Value), ∃ (u44 : Go.Value), ∃ (u45 : Go.Value), ∃ (u46 : Go.Value), ∃ (u47 : Go.Value), ∃ (u48 : Go.Value), ∃ (u49 : Go.Value), ∃ (u50 : Go.Value), ∃ (u51 : Go.Value), ∃ (u52 : Go.Value), ∃ (u53 : Go.Value), ∃ (u54 : Go.Value), ∃ (u55 : Go.Value), ∃ (u56 : Go.Value), ∃ (u57 : Go.Value), ∃ (u58 : Go.Value), ∃ (u59 : Go.Value), ∃ (u60 : Go.Value), ∃ (u61 : Go.Value), ∃ (u62 : Go.Value), ∃ (u63 : Go.Value), ∃ (u64 : Go.Value), ∃ (u65 : Go.Value), ∃ (u66 : Go.Value), ∃ (u67 : Go.Value), ∃ (u68 : Go.Value), ∃ (u69 : Go.Value), ∃ (u70 : Go.Value), ∃ (u71 : Go.Value), ∃ (u72 : Go.Value), ∃ (u73 : Go.Value), ∃ (u74 : Go.Value), ∃ (u75 : Go.Value), ∃ (u76 : Go.Value), ∃ (u77 : Go.Value), ∃ (u78 : Go.Value), ∃ (u79 : Go.Value), ∃ (u80 : Go.Value), ∃ (u81 : Go.Value), ∃ (u82 : Go.Value), ∃ (u83 : Go.Value), ∃ (u84 : Go.Value), ∃ (u85 : Go.Value), ∃ (u86 : Go.Value), ∃ (u87 : Go.Value), ∃ (u88 : Go.Value), ∃ (u89 : Go.Value), ∃ (u90 : Go.Value), ∃ (u91 : Go.Value), ∃ (u92 : Go.Value), ∃ (u93 : Go.Value), ∃ (u94 : Go.Value), ∃ (u95 : Go.Value), ∃ (u96 : Go.Value), ∃ (u97 : Go.Value), ∃ (u98 : Go.Value), ∃ (u99 : Go.Value), ∃ (u100 : Go.Value), ∃ (u101 : Go.Value), ∃ (u102 : Go.Value), ∃ (u103 : Go.Value), ∃ (u104 : Go.Value), ∃ (u105 : Go.Value), ∃ (u106 : Go.Value), ∃ (u107 : Go.Value), ∃ (u108 : Go.Value), ∃ (u109 : Go.Value), ∃ (u110 : Go.Value), ∃ (u111 : Go.Value), ∃ (u112 : Go.Value), ∃ (u113 : Go.Value), ∃ (u114 : Go.Value), ∃ (u115 : Go.Value), ∃ (u116 : Go.Value), ∃ (u117 : Go.Value), ∃ (u118 : Go.Value), ∃ (u119 : Go.Value), ∃ (u120 : Go.Value), ∃ (u121 : Go.Value), ∃ (u122 : Go.Value), ∃ (u123 : Go.Value), ∃ (u124 : Go.Value), ∃ (u125 : Go.Value), ∃ (u126 : Go.Value), ∃ (u127 : Go.Value), ∃ (u128 : Go.Value), ∃ (u129 : Go.Value), ∃ (u130 : Go.Value), ∃ (u131 : Go.Value), ∃ (u132 : Go.Value), ∃ (u133 : Go.Value), ∃ (u134 : Go.Value), ∃ (u135 : Go.Value), ∃ (u136 : Go.Value), ∃ (u137 : Go.Value), ∃ (u138 : Go.Value), ∃ (u139 : Go.Value), ∃ (u140 : Go.Value), ∃ (u141 : Go.Value), ∃ (u142 : Go.Value), ∃ (u143 : Go.Value), ∃ (u144 : Go.Value), ∃ (u145 : Go.Value), ∃ (u146 : Go.Value), ∃ (u147 : Go.Value), ∃ (u148 : Go.Value), ∃ (u149 : Go.Value), ∃ (u150 : Go.Value), ∃ (u151 : Go.Value), ∃ (u152 : Go.Value), ∃ (u153 : Go.Value), ∃ (u154 : Go.Value), ∃ (u155 : Go.Value), ∃ (u156 : Go.Value), ∃ (u157 : Go.Value), ∃ (u158 : Go.Value), ∃ (u159 : Go.Value), ∃ (u160 : Go.Value), ∃ (u161 : Go.Value), ∃ (u162 : Go.Value), ∃ (u163 : Go.Value), ∃ (u164 : Go.Value), ∃ (u165 : Go.Value), ∃ (u166 : Go.Value), ∃ (u167 : Go.Value), ∃ (u168 : Go.Value), ∃ (u169 : Go.Value), ∃ (u170 : Go.Value), ∃ (u171 : Go.Value), ∃ (u172 : Go.Value), ∃ (u173 : Go.Value), ∃ (u174 : Go.Value), ∃ (u175 : Go.Value), ∃ (u176 : Go.Value), ∃ (u177 : Go.Value), ∃ (u178 : Go.Value), ∃ (u179 : Go.Value), ∃ (u180 : Go.Value), ∃ (u181 : Go.Value), ∃ (u182 : Go.Value), ∃ (u183 : Go.Value), ∃ (u184 : Go.Value), ∃ (u185 : Go.Value), ∃ (u186 : Go.Value), ∃ (u187 : Go.Value), ∃ (u188 : Go.Value), ∃ (u189 : Go.Value), ∃ (u190 : Go.Value), ∃ (u191 : Go.Value), ∃ (u192 : Go.Value), ∃ (u193 : Go.Value), ∃ (u194 : Go.Value), ∃ (u195 : Go.Value), ∃ (u196 : Go.Value), ∃ (u197 : Go.Value), ∃ (u198 : Go.Value), ∃ (u199 : Go.Value), ∃ (u200 : Go.Value), ∃ (u201 : Go.Value), ∃ (u202 : Go.Value), ∃ (u203 : Go.Value), ∃ (u204 : Go.Value), (∃ (x9_2 : List S50), ∃ (x10_2 : Int), ∃ (x151000_2 : Int), ∃ (x151001_2 : Int), ∃ (x151002_2 : Bool), ∃ (x151003_2 : Int), ∃ (x151004_2 : Int), ∃ (x151005_2 : Int), ∃ (x151006_2 : Bool), ∃ (x151007_2 : Int), u10 = Value.int IntKind.i64 x10_2 ∧ Aside0 (beaconlaw12_SessionAgrees.l1 k l1 x9_2 x10_2 x151000_2 x151001_2 x151002_2 x151003_2 x151004_2 x151005_2 x151006_2 x151007_2 = Option.some r) ∧ Aside0 (k ≤ k1) ∧ Aside0 (k50.R 50 w' w.heap.size (fun (x : Nat) => True) u9 x9_2) ∧ Aside0 (w'.heap[G149]? = Option.some (Go.Obj.cells #[Value.int IntKind.u64 a0_0, Value.int IntKind.u64 a0_1] 23)) ∧ Aside0 (w'.heap[G150]? = Option.some (Go.Obj.cells #[Value.int IntKind.u64 x151000_2, Value.int IntKind.u64 x151001_2, Value.bool x151002_2, Value.int IntKind.i64 x151003_2, Value.int IntKind.u64 x151004_2, Value.int IntKind.u64 x151005_2, Value.bool x151006_2, Value.int IntKind.i64 x151007_2] 27)) ∧ Aside0 (Below w.heap.size w w')) ∧ a' = { tmps := #[Value.agg #[Value.int IntKind.u64 a0_0, Value.int IntKind.u64 a0_1], Value.slice A1 l1.length c1, Value.pointer (Option.some { block := G149, off := 0 }), Go.undef, u4, Value.pointer (Option.some { block := G150, off := 0 }), Value.int IntKind.i64 x6_1, u7, u8, u9, u10, u11, u12, u13, u14, u15, u16, u17, u18, u19, u20, Value.int IntKind.i64 x6_1, Value.bool Bool.false, u23, u24, u25, u26, u27, u28, u29, u30, u31, u32, u33, u34, u35, u36, u37, u38, u39, u40, u41, u42, u43, u44, u45, u46, u47, u48, u49, u50, u51, u52, u53, u54, u55, u56, u57, u58, u59, u60, u61, u62, u63, u64, u65, u66, u67, u68, u69, u70, u71, u72, u73, u74, u75, u76, u77, u78, u79, u80, u81, u82, u83, u84, u85, u86, u87, u88, u89, u90, u91, u92, u93, u94, u95, u96, u97, u98, u99, u100, u101, u102, u103, u104, u105, u106, u107, u108, u109, u110, u111, u112, u113, u114, u115, u116, u117, u118, u119, u120, u121, u122, u123, u124, u125, u126, u127, u128, u129, u130, u131, u132, u133, u134, u135, u136, u137, u138, u139, u140, u141, u142, u143, u144, u145, u146, u147, u148, u149, u150, u151, u152, u153, u154, u155, u156, u157, u158, u159, u160, u161, u162, u163, u164, u165, u166, u167, u168, u169, u170, u171, u172, u173, u174, u175, u176, u177, u178, u179, u180, u181, u182, u183, u184, u185, u186, u187, u188, u189, u190, u191, u192, u193, u194, u195, u196, u197, u198, u199, u200, u201, u202, u203, u204, Go.undef], defers := [] }) → xx19 k a' w') → ∀ (x9_2 : List S50) (x10_2 x151000_2 x151001_2 : Int) (x151002_2 : Bool) (x151003_2 x151004_2 x151005_2 : Int) (x151006_2 : Bool) (x151007_2 : Int), Aside0 (k50.R 50 wr w.heap.size (fun (x : Nat) => True) u9 x9_2) → Aside0 (wr.heap[G149]? = Option.some (Go.Obj.cells #[Value.int IntKind.u64 a0_0, Value.int IntKind.u64 a0_1] 23)) → Aside0 (wr.heap[G150]? = Option.some (Go.Obj.cells #[Value.int IntKind.u64 x151000_2, Value.int IntKind.u64 x151001_2, Value.bool x151002_2, Value.int IntKind.i64 x151003_2, Value.int IntKind.u64 x151004_2, Value.int IntKind.u64 x151005_2, Value.bool x151006_2, Value.int IntKind.i64 x151007_2] 27)) → Aside0 (Below w.heap.size w wr) → ∀ (k2 : Nat), (∀ (a' : Act) (w' : World), Handed xx19 (k2 + 1) a' w' → xx20 a' w') → Aside0 (k2 + 1 ≤ k1) → (if (rd_T33 l1 x10_2).f1 = 0 then (session_Hello.f x151000_2 x151001_2 x151002_2 x151003_2).bind fun (bt168 : Int × Int) => if x9_2.length < 5864062014805 then beaconlaw12_SessionAgrees.j6 k2 l1 (x9_2 ++ [{ f0 := 0, f1 := bt168.fst, f2 := bt168.snd }]) x10_2 0 x151000_2 x151001_2 x151002_2 x151003_2 x151004_2 x151005_2 x151006_2 x151007_2 x151000_2 x151001_2 x151002_2 x151003_2 else Option.none else if (rd_T33 l1 x10_2).f1 = 1 then beaconlaw12_SessionAgrees.j2 k2 l1 x9_2 x10_2 0 (rd_T33 l1 x10_2).f1 ((rd_T33 l1 x10_2).f1 == 1) x151000_2 x151001_2 x151002_2 x151003_2 x151004_2 x151005_2 x151006_2 x151007_2 (rd_T33 l1 x10_2).f0 (rd_T33 l1 x10_2).f1 (rd_T33 l1 x10_2).f2 (rd_T33 l1 x10_2).f3 x151000_2 x151001_2 x151002_2 x151003_2 else beaconlaw12_SessionAgrees.j2 k2 l1 x9_2 x10_2 0 (rd_T33 l1 x10_2).f1 ((rd_T33 l1 x10_2).f1 == 2) x151000_2 x151001_2 x151002_2 x151003_2 x151004_2 x151005_2 x151006_2 x151007_2 (rd_T33 l1 x10_2).f0 (rd_T33 l1 x10_2).f1 (rd_T33 l1 x10_2).f2 (rd_T33 l1 x10_2).f3 x151000_2 x151001_2 x151002_2 x151003_2) = Option.some r → Decidable.decide (x10_2 < ↑l1.length) = Bool.true → Decidable.decide (0 ≤ x10_2) = Bool.true → Go.bits Go.BinOp.and IntKind.i64 (rd_T33 l1 x10_2).f0 1 = 0 → Code.wp Try.prog (CODEAT Try.f5 [1, 1, 1, 1, 0, 1, 0, 0]) (Exit.then xx20 (Exit.inBlock 2 (Exit.then xx17 xx1))) { tmps := #[Value.agg #[Value.int IntKind.u64 a0_0, Value.int IntKind.u64 a0_1], Value.slice A1 l1.length c1, Value.pointer (Option.some { block := G149, off := 0 }), Go.undef, u4, Value.pointer (Option.some { block := G150, off := 0 }), Value.int IntKind.i64 x6_1, u7, u8, u9, Value.int IntKind.i64 x10_2, u11, u12, u13, u14, u15, u16, u17, u18, u19, u20, Value.int IntKind.i64 x6_1, Value.bool Bool.false, u23, u24, u25, u26, u27, u28, u29, u30, u31, u32, u33, u34, u35, u36, u37, u38, u39, u40, u41, u42, u43, u44, u45, u46, u47, u48, u49, u50, u51, u52, u53, u54, u55, u56, u57, u58, u59, u60, u61, u62, u63, u64, u65, u66, u67, u68, u69, u70, u71, u72, u73, u74, u75, u76, u77, u78, u79, u80, u81, u82, u83, u84, u85, u86, u87, u88, u89, u90, u91, u92, u93, u94, u95, u96, u97, u98, u99, u100, u101, u102, u103, u104, u105, u106, u107, u108, u109, u110, u111, u112, u113, u114, u115, u116, u117, u118, u119, u120, u121, u122, u123, u124, u125, u126, u127, u128, u129, u130, u131, u132, u133, u134, u135, u136, u137, u138, u139, u140, u141, u142, u143, u144, u145, u146, u147, u148, u149, u150, u151, u152, u153, u154, u155, u156, u157, u158, u159, u160, u161, u162, u163, u164, u165, u166, u167, u168, u169, u170, u171, u172, u173, u174, u175, u176, u177, u178, u179, u180, u181, u182, u183, u184, u185, u186, u187, u188, u189, u190, u191, u192, u193, u194, u195, u196, u197, u198, u199, u200, u201, u202, u203, u204, Go.undef], defers := [] } wr := by
 intro k a0_0 a0_1 A1 c1 l1 r w hu23 hu27 hu26 hu33 hu50 HR1 HC1 HR_ xx1 G149 w3 GW149 GE149 G150 w4 xx2 GW150 GE150 xx3 NB149_150 NB150_149 xx4 xx5 xx6 xx7 u7 u8 u21 u22 u23 u24 u25 u26 u27 u28 u29 u30 u31 u32 u33 u34 u35 u36 u37 u38 u39 u40 u41 u42 u43 xx8 xx9 xx10 x6_1 x151000_1 x151001_1 x151002_1 x151003_1 x151004_1 x151005_1 x151006_1 x151007_1 xx11 xx12 xx13 k1 xx14 HK1 c5b0 xx15 xx16 xx17 xx18 wr u4 u9 u11 u12 u13 u14 u15 u16 u17 u18 u19 u20 u44 u45 u46 u47 u48 u49 u50 u51 u52 u53 u54 u55 u56 u57 u58 u59 u60 u61 u62 u63 u64 u65 u66 u67 u68 u69 u70 u71 u72 u73 u74 u75 u76 u77 u78 u79 u80 u81 u82 u83 u84 u85 u86 u87 u88 u89 u90 u91 u92 u93 u94 u95 u96 u97 u98 u99 u100 u101 u102 u103 u104 u105 u106 u107 u108 u109 u110 u111 u112 u113 u114 u115 u116 u117 u118 u119 u120 u121 u122 u123 u124 u125 u126 u127 u128 u129 u130 u131 u132 u133 u134 u135 u136 u137 u138 u139 u140 u141 u142 u143 u144 u145 u146 u147 u148 u149 u150 u151 u152 u153 u154 u155 u156 u157 u158 u159 u160 u161 u162 u163 u164 u165 u166 u167 u168 u169 u170 u171 u172 u173 u174 u175 u176 u177 u178 u179 u180 u181 u182 u183 u184 u185 u186 u187 u188 u189 u190 u191 u192 u193 u194 u195 u196 u197 u198 u199 u200 u201 u202 u203 u204 xx19 xx20 xx21 x9_2 x10_2 x151000_2 x151001_2 x151002_2 x151003_2 x151004_2 x151005_2 x151006_2 x151007_2 HO_9 K149 K150 HB k2 xx22 HK2 H c58b0 c59b0 c60
 (conv => arg 2; whnf)
 have c60b0 : ((Go.bits .and .i64 ((rd_T33 l1 x10_2).f0) 1) == 0) = true:=beq_iff_eq.mpr c60
 have c60b1 : ((Go.bits .and .i64 ((rd_T33 l1 x10_2).f0) 1) != 0) = false:=bne_eq_false_iff_eq.mpr c60
 have HC61:=zA H
 clear H
 have p165 : 0 ≤ (x10_2 : Int):=zd
 have q165 : x10_2 < (l1.length : Int):=zd
 obtain ⟨ad165,e165,hx165_0,hx165_1,hx165_2,hx165_3⟩:=at_T33 HR1.out x10_2 p165 q165
 cases e165
 replace hx165_0:=zh HB hx165_0
 replace hx165_1:=zh HB hx165_1
 replace hx165_2:=zh HB hx165_2
 replace hx165_3:=zh HB hx165_3
 replace p165:=eq_true p165
 replace q165:=eq_true q165
 go_upto_block 4 with (first|((with_reducible refine gate_dst (N:=11) rfl ?_);(try (refine gate_guard (by rfl) ?_;dsimp only));refine zb (N:=11) (cs:=#[.int .i64 0,.int .i64 0,.int .i64 0,.int .i64 0]) (t:=33) ?_;intro G166 hg w62 hbox hb;replace HO_9:=zRb HO_9 hb;have K166:=zA (hbox);have GW166:=zN HB hg;have GE166:=zN HB hg;replace HB:=zS HB hb;have NB149_166:=zL K149 hg;have NB166_149:=zG K149 hg;replace K149:=zB K149 hb;have NB150_166:=zL K150 hg;have NB166_150:=zG K150 hg;replace K150:=zB K150 hb;clear hb hbox hg;have:=NB166_149.1;have:=NB149_166.1;have:=NB166_150.1;have:=NB150_166.1;obtain ⟨hcz65_0,hcz65_1,hcz65_2,hcz65_3,hfz65_0,hfz65_1,hfz65_2,hfz65_3⟩:=zc4 K166)|((with_reducible refine gate_store (t:=33) (p:=11) rfl ?_);refine store_event (t:=33) (p:=11) (v:=?vo_w66) (w1:=((((w62.setCell ⟨G166,0,none⟩ (.int .i64 ((rd_T33 l1 x10_2).f0))).setCell ⟨G166,1,none⟩ (.int .i64 ((rd_T33 l1 x10_2).f1))).setCell ⟨G166,2,none⟩ (.int .i64 ((rd_T33 l1 x10_2).f2))).setCell ⟨G166,3,none⟩ (.int .i64 ((rd_T33 l1 x10_2).f3)))) ?hg ?ho ?hn ?hr ?_;(case ho => rfl);(case hg => rfl);(case hn => rfl);(case hr => first|(go_simp;done)|(go_simp;rfl));intro w66 hw;replace HO_9 : Aside0 (Kd.R k50 50 w66 w.heap.size (fun _ => True) u9 x9_2):=⟨(by rw [hw];exact (zRf HO_9 K166 (fun _ hk => trivial)))⟩;replace K149:=zV hw K149;replace K150:=zV hw K150;replace K166:=zVp hw (.cells #[.int .i64 ((rd_T33 l1 x10_2).f0),.int .i64 ((rd_T33 l1 x10_2).f1),.int .i64 ((rd_T33 l1 x10_2).f2),.int .i64 ((rd_T33 l1 x10_2).f3)] 33 (0,0)) K166;replace HB:=zU hw HB;clear hw;obtain ⟨hcz67_0,hcz67_1,hcz67_2,hcz67_3,hfz67_0,hfz67_1,hfz67_2,hfz67_3⟩:=zc4 K166;have:=NB150_149.1;have:=NB149_150.1;obtain ⟨hcz69_0,hcz69_1,hcz69_2,hcz69_3,hcz69_4,hcz69_5,hcz69_6,hcz69_7,hfz69_0,hfz69_1,hfz69_2,hfz69_3,hfz69_4,hfz69_5,hfz69_6,hfz69_7⟩:=zc8 K150)|((with_reducible refine gate_dst (N:=13) rfl ?_);(try (refine gate_guard (by rfl) ?_;dsimp only));refine zb (N:=13) (cs:=#[.int .u64 0,.int .u64 0,.bool false,.int .i64 0]) (t:=26) ?_;intro G167 hg w70 hbox hb;replace HO_9:=zRb HO_9 hb;have K167:=zA (hbox);have GW167:=zN HB hg;have GE167:=zN HB hg;replace HB:=zS HB hb;have NB149_167:=zL K149 hg;have NB167_149:=zG K149 hg;replace K149:=zB K149 hb;have NB150_167:=zL K150 hg;have NB167_150:=zG K150 hg;replace K150:=zB K150 hb;have NB166_167:=zL K166 hg;have NB167_166:=zG K166 hg;replace K166:=zB K166 hb;clear hb hbox hg;have:=NB167_149.1;have:=NB149_167.1;have:=NB167_150.1;have:=NB150_167.1;have:=NB167_166.1;have:=NB166_167.1;obtain ⟨hcz74_0,hcz74_1,hcz74_2,hcz74_3,hfz74_0,hfz74_1,hfz74_2,hfz74_3⟩:=zc4 K167)|((with_reducible refine gate_store (t:=26) (p:=13) rfl ?_);refine store_event (t:=26) (p:=13) (v:=?vo_w75) (w1:=((((w70.setCell ⟨G167,0,none⟩ (.int .u64 x151000_2)).setCell ⟨G167,1,none⟩ (.int .u64 x151001_2)).setCell ⟨G167,2,none⟩ (.bool x151002_2)).setCell ⟨G167,3,none⟩ (.int .i64 x151003_2))) ?hg ?ho ?hn ?hr ?_;(case ho => rfl);(case hg => rfl);(case hn => rfl);(case hr => first|(go_simp;done)|(go_simp;rfl));intro w75 hw;replace HO_9 : Aside0 (Kd.R k50 50 w75 w.heap.size (fun _ => True) u9 x9_2):=⟨(by rw [hw];exact (zRf HO_9 K167 (fun _ hk => trivial)))⟩;replace K149:=zV hw K149;replace K150:=zV hw K150;replace K166:=zV hw K166;replace K167:=zVp hw (.cells #[.int .u64 x151000_2,.int .u64 x151001_2,.bool x151002_2,.int .i64 x151003_2] 26 (0,0)) K167;replace HB:=zU hw HB;clear hw;obtain ⟨hcz76_0,hcz76_1,hcz76_2,hcz76_3,hfz76_0,hfz76_1,hfz76_2,hfz76_3⟩:=zc4 K166))
 (try simp only [Act.put,xA,xB,xC])
 go_cut [9] (fun v9 wc => ∃ (kq : Nat) (x9_60 : List (S50)) (x151000_60 : Int) (x151001_60 : Int) (x151002_60 : Bool) (x151003_60 : Int) (x151004_60 : Int) (x151005_60 : Int) (x151006_60 : Bool) (x151007_60 : Int),Aside0 (beaconlaw12_SessionAgrees.j6 kq l1 x9_60 x10_2 0 x151000_60 x151001_60 x151002_60 x151003_60 x151004_60 x151005_60 x151006_60 x151007_60 x151000_2 x151001_2 x151002_2 x151003_2 = some r) ∧ Aside0 (kq ≤ k2) ∧ Aside0 (Kd.R k50 50 wc w.heap.size (fun _ => True) v9 x9_60) ∧ Aside0 (wc.heap[G149]? = some (.cells #[.int .u64 a0_0,.int .u64 a0_1] 23 (0,0))) ∧ Aside0 (wc.heap[G150]? = some (.cells #[.int .u64 x151000_60,.int .u64 x151001_60,.bool x151002_60,.int .i64 x151003_60,.int .u64 x151004_60,.int .u64 x151005_60,.bool x151006_60,.int .i64 x151007_60] 27 (0,0))) ∧ Aside0 (wc.heap[G166]? = some (.cells #[.int .i64 ((rd_T33 l1 x10_2).f0),.int .i64 ((rd_T33 l1 x10_2).f1),.int .i64 ((rd_T33 l1 x10_2).f2),.int .i64 ((rd_T33 l1 x10_2).f3)] 33 (0,0))) ∧ Aside0 (wc.heap[G167]? = some (.cells #[.int .u64 x151000_2,.int .u64 x151001_2,.bool x151002_2,.int .i64 x151003_2] 26 (0,0))) ∧ Aside0 (Below w.heap.size w wc))
 case first =>
  have H:=HC61.out
  clear HC61
  by_cases c77 : ((rd_T33 l1 x10_2).f1) = 0
  ·rw [if_pos c77] at H
   have c77b0 : (((rd_T33 l1 x10_2).f1) == 0) = true:=beq_iff_eq.mpr c77
   have c77b1 : (((rd_T33 l1 x10_2).f1) != 0) = false:=bne_eq_false_iff_eq.mpr c77
   clear c77
   (first|rw [c77b0]|(simp only [i64_w,i32_w];rw [c77b0])|skip)
   replace H:=Option.bind_eq_some_iff.mp H
   obtain ⟨⟨t168,t169⟩,A780,H⟩:=H
   (try dsimp only at H)
   have A78:=zA A780
   clear A780
   by_cases c79 : x9_2.length < 5864062014805
   ·rw [if_pos c79] at H
    have LMc79:=zA c79
    clear c79
    obtain ⟨y170,hy170⟩ : ∃ y_ : List (S50),y_ = (x9_2 ++ [(⟨0,t168,t169⟩ : S50)]):=⟨_,rfl⟩
    replace H : (beaconlaw12_SessionAgrees.j6 k2 l1 y170 x10_2 0 x151000_2 x151001_2 x151002_2 x151003_2 x151004_2 x151005_2 x151006_2 x151007_2 x151000_2 x151001_2 x151002_2 x151003_2) = some r:=by first|(rw [hy170];with_reducible exact H)|(have H2_:=(Option.bind_some _ _).symm.trans H;rw [hy170];with_reducible exact H2_)|(have H2_:=(Option.bind_some _ _).symm.trans H;with_reducible exact H2_)|with_reducible exact H|(rw [hy170];exact H)|exact H
    have Ny170:=zA hy170
    clear hy170
    have H':=zA H
    clear H
    have:=NB150_149.1
    have:=NB149_150.1
    have:=NB150_166.1
    have:=NB166_150.1
    have:=NB150_167.1
    have:=NB167_150.1
    obtain ⟨hcz83_0,hcz83_1,hcz83_2,hcz83_3,hcz83_4,hcz83_5,hcz83_6,hcz83_7,hfz83_0,hfz83_1,hfz83_2,hfz83_3,hfz83_4,hfz83_5,hfz83_6,hfz83_7⟩:=zc8 K150
    as_aux_lemma =>
     go_wp2_with (first|((with_reducible refine gate_callee (f:=9) rfl ?_);refine zg (some 68) Try.func9 #[.agg #[.int .u64 x151000_2,.int .u64 x151001_2,.bool x151002_2,.int .i64 x151003_2]] ?_;(with_reducible refine (session_Hello.calls x151000_2 x151001_2 x151002_2 x151003_2 t168 t169 _ A78.out).mono ?_);rintro e w84 ⟨rfl,hb⟩;refine ⟨_,rfl,?_⟩;replace HO_9:=zRb HO_9 hb;replace K149:=zB K149 hb;replace K150:=zB K150 hb;replace K166:=zB K166 hb;replace K167:=zB K167 hb;replace HB:=zS HB hb;(try clear hb))|((with_reducible refine gate_builtin (b:=.append) (xs:=#[.tmp 71,.tmp 76]) rfl ?_);(try (refine gate_guard (by rfl) ?_;dsimp only));at_builtin;refine Kd.R_append k50 (w0:=w) w.heap.size rfl (.tmp 71) (.tmp 76) 48 50 (.agg #[(.int .i64 0),(.int .u64 0),(.int .u64 0)]) 24 rfl Try.underlying48 info50 rfl (by decide) (by omega) u9 x9_2 (⟨0,t168,t169⟩ : S50) [.int .i64 0,.int .u64 t168,.int .u64 t169] (fun _ => True) (fun _ => False) rfl rfl ?aP (fun _ hk => hk.elim) ?aF ?aO ?aB ?aS ?aL ?_;(case aP => exact k50_mkM _ _ _ (⟨0,t168,t169⟩ : S50));(case aB => exact (zH HB));(case aF => exact (fun _ _ => trivial));(case aO => exact (zR HO_9));(case aS => exact (zW HB));(case aL => have:=LMc79.out;omega);intro v171 w85 ho hb hg hat;rw [← Ny170.out] at ho;replace K149:=zA (blk_grown (g:=G149) (z1 K149.1) hg (Kd.R_ne HO_9.out K149.1 (by decide)));replace K150:=zA (blk_grown (g:=G150) (z1 K150.1) hg (Kd.R_ne HO_9.out K150.1 (by decide)));replace K166:=zA (blk_grown (g:=G166) (z1 K166.1) hg (Kd.R_ne HO_9.out K166.1 (by decide)));replace K167:=zA (blk_grown (g:=G167) (z1 K167.1) hg (Kd.R_ne HO_9.out K167.1 (by decide)));replace HB:=zA (hb);have HO172:=zA (ho);clear HO_9;clear ho hb hg hat))
     go_meet
     case rel => exact ⟨_,(y170),(x151000_2),(x151001_2),(x151002_2),(x151003_2),(x151004_2),(x151005_2),(x151006_2),(x151007_2),H',⟨by have:=HK1.out;have:=HK2.out;first|omega|exact Nat.le_refl _⟩,⟨zR HO172⟩,⟨z1 K149.1⟩,⟨z1 K150.1⟩,⟨z1 K166.1⟩,⟨z1 K167.1⟩,⟨zH HB⟩⟩
   rw [if_neg c79] at H
   exact absurd H (by simp)
  rw [if_neg c77] at H
  have c77b0 : (((rd_T33 l1 x10_2).f1) == 0) = false:=beq_eq_false_iff_ne.mpr c77
  have c77b1 : (((rd_T33 l1 x10_2).f1) != 0) = true:=bne_iff_ne.mpr c77
  (first|rw [c77b0]|(simp only [i64_w,i32_w];rw [c77b0])|skip)
  have HC86:=zA H
  clear H
  go_upto_if 78 with (fail)
  go_cut [78] (fun v78 wc => ∃ (kq : Nat) (x78_85 : Bool),v78 = .bool x78_85 ∧ Aside0 (beaconlaw12_SessionAgrees.j2 kq l1 x9_2 x10_2 0 ((rd_T33 l1 x10_2).f1) x78_85 x151000_2 x151001_2 x151002_2 x151003_2 x151004_2 x151005_2 x151006_2 x151007_2 ((rd_T33 l1 x10_2).f0) ((rd_T33 l1 x10_2).f1) ((rd_T33 l1 x10_2).f2) ((rd_T33 l1 x10_2).f3) x151000_2 x151001_2 x151002_2 x151003_2 = some r) ∧ Aside0 (kq ≤ k2) ∧ Aside0 (Kd.R k50 50 wc w.heap.size (fun _ => True) u9 x9_2) ∧ Aside0 (wc.heap[G149]? = some (.cells #[.int .u64 a0_0,.int .u64 a0_1] 23 (0,0))) ∧ Aside0 (wc.heap[G150]? = some (.cells #[.int .u64 x151000_2,.int .u64 x151001_2,.bool x151002_2,.int .i64 x151003_2,.int .u64 x151004_2,.int .u64 x151005_2,.bool x151006_2,.int .i64 x151007_2] 27 (0,0))) ∧ Aside0 (wc.heap[G166]? = some (.cells #[.int .i64 ((rd_T33 l1 x10_2).f0),.int .i64 ((rd_T33 l1 x10_2).f1),.int .i64 ((rd_T33 l1 x10_2).f2),.int .i64 ((rd_T33 l1 x10_2).f3)] 33 (0,0))) ∧ Aside0 (wc.heap[G167]? = some (.cells #[.int .u64 x151000_2,.int .u64 x151001_2,.bool x151002_2,.int .i64 x151003_2] 26 (0,0))) ∧ Aside0 (Below w.heap.size w wc))
  case first =>
   have H:=HC86.out
   clear HC86
   by_cases c87 : ((rd_T33 l1 x10_2).f1) = 1
   ·rw [if_pos c87] at H
    have c87b0 : (((rd_T33 l1 x10_2).f1) == 1) = true:=beq_iff_eq.mpr c87
    have c87b1 : (((rd_T33 l1 x10_2).f1) != 1) = false:=bne_eq_false_iff_eq.mpr c87
    clear c87
    (first|rw [c87b0]|(simp only [i64_w,i32_w];rw [c87b0])|skip)
    have H':=zA H
    clear H
    as_aux_lemma =>
     go_wp2
     go_meet
     case rel => exact ⟨_,((((rd_T33 l1 x10_2).f1) == 1)),ze,H',⟨by have:=HK1.out;have:=HK2.out;first|omega|exact Nat.le_refl _⟩,⟨zR HO_9⟩,⟨z1 K149.1⟩,⟨z1 K150.1⟩,⟨z1 K166.1⟩,⟨z1 K167.1⟩,⟨zH HB⟩⟩
   rw [if_neg c87] at H
   have c87b0 : (((rd_T33 l1 x10_2).f1) == 1) = false:=beq_eq_false_iff_ne.mpr c87
   have c87b1 : (((rd_T33 l1 x10_2).f1) != 1) = true:=bne_iff_ne.mpr c87
   (first|rw [c87b0]|(simp only [i64_w,i32_w];rw [c87b0])|skip)
   have H':=zA H
   clear H
   as_aux_lemma =>
    go_wp2
    go_meet
    case rel => exact ⟨_,((((rd_T33 l1 x10_2).f1) == 2)),ze,H',⟨by have:=HK1.out;have:=HK2.out;first|omega|exact Nat.le_refl _⟩,⟨zR HO_9⟩,⟨z1 K149.1⟩,⟨z1 K150.1⟩,⟨z1 K166.1⟩,⟨z1 K167.1⟩,⟨zH HB⟩⟩
  clear HC86
  try clear c1;try clear c5;try clear c5b0;try clear c58;try clear c58b0;try clear c59;try clear c59b0;try clear c60;try clear c60b0;try clear c60b1;try clear c77;try clear c77b0;try clear c77b1;try clear hcz65_0;try clear hcz65_1;try clear hcz65_2;try clear hcz65_3;try clear hcz67_0;try clear hcz67_1;try clear hcz67_2;try clear hcz67_3;try clear hcz69_0;try clear hcz69_1;try clear hcz69_2;try clear hcz69_3;try clear hcz69_4;try clear hcz69_5;try clear hcz69_6;try clear hcz69_7;try clear hcz74_0;try clear hcz74_1;try clear hcz74_2;try clear hcz74_3;try clear hcz76_0;try clear hcz76_1;try clear hcz76_2;try clear hcz76_3;try clear hfz65_0;try clear hfz65_1;try clear hfz65_2;try clear hfz65_3;try clear hfz67_0;try clear hfz67_1;try clear hfz67_2;try clear hfz67_3;try clear hfz69_0;try clear hfz69_1;try clear hfz69_2;try clear hfz69_3;try clear hfz69_4;try clear hfz69_5;try clear hfz69_6;try clear hfz69_7;try clear hfz74_0;try clear hfz74_1;try clear hfz74_2;try clear hfz74_3;try clear hfz76_0;try clear hfz76_1;try clear hfz76_2;try clear hfz76_3;try clear hx165_0;try clear hx165_1;try clear hx165_2;try clear hx165_3;try clear p165;try clear q165
  obtain ⟨kq,x78_85,rfl,HA,HJ85,HO_9,K149,K150,K166,K167,HB⟩:=hcut
  cases kq with
  | zero => exact absurd HA.out (by simp [beaconlaw12_SessionAgrees.j2])
  | succ kj85 => ?_
  have H:=HA.out
  clear HA
  simp only [beaconlaw12_SessionAgrees.j2] at H
  by_cases c88 : x78_85 = true
  ·subst c88
   rw [if_pos rfl] at H
   have HC89:=zA H
   clear H
   go_upto_region 22 with (fail)
   go_cut [100] (fun v100 wc => ∃ (kq : Nat) (x100_88 : Bool),v100 = .bool x100_88 ∧ Aside0 (beaconlaw12_SessionAgrees.j3 kq l1 x9_2 x10_2 0 x100_88 x151000_2 x151001_2 x151002_2 x151003_2 x151004_2 x151005_2 x151006_2 x151007_2 ((rd_T33 l1 x10_2).f0) ((rd_T33 l1 x10_2).f1) ((rd_T33 l1 x10_2).f2) ((rd_T33 l1 x10_2).f3) x151000_2 x151001_2 x151002_2 x151003_2 = some r) ∧ Aside0 (kq ≤ kj85) ∧ Aside0 (Kd.R k50 50 wc w.heap.size (fun _ => True) u9 x9_2) ∧ Aside0 (wc.heap[G149]? = some (.cells #[.int .u64 a0_0,.int .u64 a0_1] 23 (0,0))) ∧ Aside0 (wc.heap[G150]? = some (.cells #[.int .u64 x151000_2,.int .u64 x151001_2,.bool x151002_2,.int .i64 x151003_2,.int .u64 x151004_2,.int .u64 x151005_2,.bool x151006_2,.int .i64 x151007_2] 27 (0,0))) ∧ Aside0 (wc.heap[G166]? = some (.cells #[.int .i64 ((rd_T33 l1 x10_2).f0),.int .i64 ((rd_T33 l1 x10_2).f1),.int .i64 ((rd_T33 l1 x10_2).f2),.int .i64 ((rd_T33 l1 x10_2).f3)] 33 (0,0))) ∧ Aside0 (wc.heap[G167]? = some (.cells #[.int .u64 x151000_2,.int .u64 x151001_2,.bool x151002_2,.int .i64 x151003_2] 26 (0,0))) ∧ Aside0 (Below w.heap.size w wc))
   case first =>
    have H:=HC89.out
    clear HC89
    by_cases c90 : ((rd_T33 l1 x10_2).f2) < 0
    ·rw [if_pos c90] at H
     have c90b0 : decide (((rd_T33 l1 x10_2).f2) < 0) = true:=decide_eq_true c90
     clear c90
     (first|rw [c90b0]|(simp only [i64_w,i32_w];rw [c90b0])|skip)
     have H':=zA H
     clear H
     have:=NB166_149.1
     have:=NB149_166.1
     have:=NB166_150.1
     have:=NB150_166.1
     have:=NB166_167.1
     have:=NB167_166.1
     obtain ⟨hcz94_0,hcz94_1,hcz94_2,hcz94_3,hfz94_0,hfz94_1,hfz94_2,hfz94_3⟩:=zc4 K166
     as_aux_lemma =>
      go_wp2
      go_meet
      case rel => exact ⟨_,(true),ze,H',⟨by have:=HK1.out;have:=HK2.out;have:=HJ85.out;first|omega|exact Nat.le_refl _⟩,⟨zR HO_9⟩,⟨z1 K149.1⟩,⟨z1 K150.1⟩,⟨z1 K166.1⟩,⟨z1 K167.1⟩,⟨zH HB⟩⟩
    rw [if_neg c90] at H
    have c90b0 : decide (((rd_T33 l1 x10_2).f2) < 0) = false:=decide_eq_false c90
    clear c90
    (first|rw [c90b0]|(simp only [i64_w,i32_w];rw [c90b0])|skip)
    by_cases c95 : ((rd_T33 l1 x10_2).f2) ≥ (x9_2.length : Int)
    ·rw [if_pos c95] at H
     have c95b0 : decide ((x9_2.length : Int) ≤ ((rd_T33 l1 x10_2).f2)) = true:=decide_eq_true c95
     clear c95
     have H':=zA H
     clear H
     have:=NB166_149.1
     have:=NB149_166.1
     have:=NB166_150.1
     have:=NB150_166.1
     have:=NB166_167.1
     have:=NB167_166.1
     obtain ⟨hcz99_0,hcz99_1,hcz99_2,hcz99_3,hfz99_0,hfz99_1,hfz99_2,hfz99_3⟩:=zc4 K166
     obtain ⟨Ao100,co100,eo100⟩:=Kd.R_slice HO_9.out
     subst eo100
     as_aux_lemma =>
      go_wp2
      go_meet
      case rel => exact ⟨_,(true),ze,H',⟨by have:=HK1.out;have:=HK2.out;have:=HJ85.out;first|omega|exact Nat.le_refl _⟩,⟨zR HO_9⟩,⟨z1 K149.1⟩,⟨z1 K150.1⟩,⟨z1 K166.1⟩,⟨z1 K167.1⟩,⟨zH HB⟩⟩
    rw [if_neg c95] at H
    have c95b0 : decide ((x9_2.length : Int) ≤ ((rd_T33 l1 x10_2).f2)) = false:=decide_eq_false c95
    clear c95
    by_cases c101 : 0 ≤ ((rd_T33 l1 x10_2).f2)
    ·rw [if_pos c101] at H
     have c101b0 : decide (0 ≤ ((rd_T33 l1 x10_2).f2)) = true:=decide_eq_true c101
     clear c101
     by_cases c102 : ((rd_T33 l1 x10_2).f2) < (x9_2.length : Int)
     ·rw [if_pos c102] at H
      have c102b0 : decide (((rd_T33 l1 x10_2).f2) < (x9_2.length : Int)) = true:=decide_eq_true c102
      clear c102
      have H':=zA H
      clear H
      have:=NB166_149.1
      have:=NB149_166.1
      have:=NB166_150.1
      have:=NB150_166.1
      have:=NB166_167.1
      have:=NB167_166.1
      obtain ⟨hcz106_0,hcz106_1,hcz106_2,hcz106_3,hfz106_0,hfz106_1,hfz106_2,hfz106_3⟩:=zc4 K166
      obtain ⟨Ao107,co107,eo107⟩:=Kd.R_slice HO_9.out
      subst eo107
      have p173 : 0 ≤ (((rd_T33 l1 x10_2).f2) : Int):=zd
      have q173 : ((rd_T33 l1 x10_2).f2) < (x9_2.length : Int):=zd
      obtain ⟨ad173,e173,hx173_0,hx173_1,hx173_2⟩:=at_T50 (Kd.R_reads' HO_9.out).2.2 ((rd_T33 l1 x10_2).f2) p173 q173
      cases e173
      replace p173:=eq_true p173
      replace q173:=eq_true q173
      as_aux_lemma =>
       go_wp2
       go_meet
       case rel => exact ⟨_,((((rd_T50 x9_2 ((rd_T33 l1 x10_2).f2)).f0) == 0)),ze,H',⟨by have:=HK1.out;have:=HK2.out;have:=HJ85.out;first|omega|exact Nat.le_refl _⟩,⟨zR HO_9⟩,⟨z1 K149.1⟩,⟨z1 K150.1⟩,⟨z1 K166.1⟩,⟨z1 K167.1⟩,⟨zH HB⟩⟩
     rw [if_neg c102] at H
     exact absurd H (by simp)
    rw [if_neg c101] at H
    exact absurd H (by simp)
   clear HC89
   try clear c1;try clear c5;try clear c5b0;try clear c58;try clear c58b0;try clear c59;try clear c59b0;try clear c60;try clear c60b0;try clear c60b1;try clear c77;try clear c77b0;try clear c77b1;try clear c88;try clear hcz65_0;try clear hcz65_1;try clear hcz65_2;try clear hcz65_3;try clear hcz67_0;try clear hcz67_1;try clear hcz67_2;try clear hcz67_3;try clear hcz69_0;try clear hcz69_1;try clear hcz69_2;try clear hcz69_3;try clear hcz69_4;try clear hcz69_5;try clear hcz69_6;try clear hcz69_7;try clear hcz74_0;try clear hcz74_1;try clear hcz74_2;try clear hcz74_3;try clear hcz76_0;try clear hcz76_1;try clear hcz76_2;try clear hcz76_3;try clear hfz65_0;try clear hfz65_1;try clear hfz65_2;try clear hfz65_3;try clear hfz67_0;try clear hfz67_1;try clear hfz67_2;try clear hfz67_3;try clear hfz69_0;try clear hfz69_1;try clear hfz69_2;try clear hfz69_3;try clear hfz69_4;try clear hfz69_5;try clear hfz69_6;try clear hfz69_7;try clear hfz74_0;try clear hfz74_1;try clear hfz74_2;try clear hfz74_3;try clear hfz76_0;try clear hfz76_1;try clear hfz76_2;try clear hfz76_3;try clear hx165_0;try clear hx165_1;try clear hx165_2;try clear hx165_3;try clear p165;try clear q165
   obtain ⟨kq,x100_88,rfl,HA,HJ88,HO_9,K149,K150,K166,K167,HB⟩:=hcut
   cases kq with
   | zero => exact absurd HA.out (by simp [beaconlaw12_SessionAgrees.j3])
   | succ kj88 => ?_
   have H:=HA.out
   clear HA
   simp only [beaconlaw12_SessionAgrees.j3] at H
   by_cases c108 : x100_88 = true
   ·subst c108
    rw [if_pos rfl] at H
    have H':=zA H
    clear H
    as_aux_lemma =>
     go_wp2
     go_roundg kj88
     case measure => have:=HK1.out;have:=HK2.out;have:=HJ85.out;have:=HJ88.out;omega
     case rel => exact ⟨(x9_2),(wrap64 (x10_2 + 1)),(x151000_2),(x151001_2),(x151002_2),(x151003_2),(x151004_2),(x151005_2),(x151006_2),(x151007_2),ze,H',⟨by have:=HK1.out;have:=HK2.out;have:=HJ85.out;have:=HJ88.out;omega⟩,⟨zR HO_9⟩,⟨z1 K149.1⟩,⟨z1 K150.1⟩,⟨zH HB⟩⟩
   replace c108:=Bool.eq_false_iff.mpr c108
   subst c108
   rw [if_neg (show ¬ (false = true) by decide)] at H
   by_cases c109 : 0 ≤ ((rd_T33 l1 x10_2).f2)
   ·rw [if_pos c109] at H
    have c109b0 : decide (0 ≤ ((rd_T33 l1 x10_2).f2)) = true:=decide_eq_true c109
    clear c109
    by_cases c110 : ((rd_T33 l1 x10_2).f2) < (x9_2.length : Int)
    ·rw [if_pos c110] at H
     have c110b0 : decide (((rd_T33 l1 x10_2).f2) < (x9_2.length : Int)) = true:=decide_eq_true c110
     clear c110
     by_cases c111 : ((rd_T33 l1 x10_2).f1) = 1
     ·rw [if_pos c111] at H
      have c111b0 : (((rd_T33 l1 x10_2).f1) == 1) = true:=beq_iff_eq.mpr c111
      have c111b1 : (((rd_T33 l1 x10_2).f1) != 1) = false:=bne_eq_false_iff_eq.mpr c111
      clear c111
      by_cases c112 : (0 : Int) = 0
      ·first|rw [if_pos c112] at H|rw [if_pos trivial] at H
       replace H:=Option.bind_eq_some_iff.mp H
       obtain ⟨⟨t176,t177,t178,t179,t180,t181⟩,A1130,H⟩:=H
       (try dsimp only at H)
       have A113:=zA A1130
       clear A1130
       have H':=zA H
       clear H
       have:=NB166_149.1
       have:=NB149_166.1
       have:=NB166_150.1
       have:=NB150_166.1
       have:=NB166_167.1
       have:=NB167_166.1
       obtain ⟨hcz117_0,hcz117_1,hcz117_2,hcz117_3,hfz117_0,hfz117_1,hfz117_2,hfz117_3⟩:=zc4 K166
       obtain ⟨Ao118,co118,eo118⟩:=Kd.R_slice HO_9.out
       subst eo118
       have p174 : 0 ≤ (((rd_T33 l1 x10_2).f2) : Int):=zd
       have q174 : ((rd_T33 l1 x10_2).f2) < (x9_2.length : Int):=zd
       obtain ⟨ad174,e174,hx174_0,hx174_1,hx174_2⟩:=at_T50 (Kd.R_reads' HO_9.out).2.2 ((rd_T33 l1 x10_2).f2) p174 q174
       cases e174
       replace p174:=eq_true p174
       replace q174:=eq_true q174
       as_aux_lemma =>
        try go_wp2_with (first|((with_reducible refine gate_dst (N:=16) rfl ?_);(try (refine gate_guard (by rfl) ?_;dsimp only));refine zb (N:=16) (cs:=#[.int .i64 0,.int .u64 0,.int .u64 0]) (t:=50) ?_;intro G175 hg w119 hbox hb;replace HO_9:=zA (Kd.R_below (Kd.R_elderB (zR HO_9) G175 (Nat.le_of_eq hg.symm)) hb);have K175:=zA (hbox);have GW175:=zN HB hg;have GE175:=zN HB hg;replace HB:=zS HB hb;have NB149_175:=zL K149 hg;have NB175_149:=zG K149 hg;replace K149:=zB K149 hb;have NB150_175:=zL K150 hg;have NB175_150:=zG K150 hg;replace K150:=zB K150 hb;have NB166_175:=zL K166 hg;have NB175_166:=zG K166 hg;replace K166:=zB K166 hb;have NB167_175:=zL K167 hg;have NB175_167:=zG K167 hg;replace K167:=zB K167 hb;clear hb hbox hg;have:=NB175_149.1;have:=NB149_175.1;have:=NB175_150.1;have:=NB150_175.1;have:=NB175_166.1;have:=NB166_175.1;have:=NB175_167.1;have:=NB167_175.1;obtain ⟨hcz124_0,hcz124_1,hcz124_2,hfz124_0,hfz124_1,hfz124_2⟩:=zc3 K175)|((with_reducible refine gate_store (t:=50) (p:=16) rfl ?_);refine store_event (t:=50) (p:=16) (v:=?vo_w125) (w1:=(((w119.setCell ⟨G175,0,none⟩ (.int .i64 ((rd_T50 x9_2 ((rd_T33 l1 x10_2).f2)).f0))).setCell ⟨G175,1,none⟩ (.int .u64 ((rd_T50 x9_2 ((rd_T33 l1 x10_2).f2)).f1))).setCell ⟨G175,2,none⟩ (.int .u64 ((rd_T50 x9_2 ((rd_T33 l1 x10_2).f2)).f2)))) ?hg ?ho ?hn ?hr ?_;(case ho => rfl);(case hg => rfl);(case hn => rfl);(case hr => first|(go_simp;done)|(go_simp;rfl));intro w125 hw;replace HO_9 : Aside0 (Kd.R k50 50 w125 w.heap.size (fun k_ => k_ ≠ G175) (.slice (some ad174) x9_2.length co118) x9_2):=⟨(by rw [hw];exact (by (with_reducible repeat (first|apply Kd.R_alloc|apply Kd.R_drewN|apply Kd.R_drew));exact Kd.R_mono (Kd.R_far (p:=⟨G175,2,none⟩) (Kd.R_far (p:=⟨G175,1,none⟩) (Kd.R_far (p:=⟨G175,0,none⟩) (Kd.R_mono HO_9.out (fun k_ hk => (⟨hk,hk.2⟩ : _ ∧ k_ ≠ G175))) (fun _ hk => hk.2) (.int .i64 ((rd_T50 x9_2 ((rd_T33 l1 x10_2).f2)).f0))) (fun _ hk => hk.2) (.int .u64 ((rd_T50 x9_2 ((rd_T33 l1 x10_2).f2)).f1))) (fun _ hk => hk.2) (.int .u64 ((rd_T50 x9_2 ((rd_T33 l1 x10_2).f2)).f2))) (fun _ hk => hk.1.2)))⟩;replace K149:=zV hw K149;replace K150:=zV hw K150;replace K166:=zV hw K166;replace K167:=zV hw K167;replace K175:=zVp hw (.cells #[.int .i64 ((rd_T50 x9_2 ((rd_T33 l1 x10_2).f2)).f0),.int .u64 ((rd_T50 x9_2 ((rd_T33 l1 x10_2).f2)).f1),.int .u64 ((rd_T50 x9_2 ((rd_T33 l1 x10_2).f2)).f2)] 50 (0,0)) K175;replace HB:=zU hw HB;clear hw;obtain ⟨hcz126_0,hcz126_1,hcz126_2,hcz126_3,hfz126_0,hfz126_1,hfz126_2,hfz126_3⟩:=zc4 K166))
        replace HO_9:=zA (Kd.R_drew HO_9.out)
        replace K149:=zA (bD K149.1)
        replace K150:=zA (bD K150.1)
        replace K166:=zA (bD K166.1)
        replace K167:=zA (bD K167.1)
        replace K175:=zA (bD K175.1)
        replace HB:=zA (bw1 HB.1)
        refine start_ (n:=15) (S:=fun w' => w'.cell? ⟨G150,0,none⟩ = some (.int .u64 x151000_2) ∧ w'.cell? ⟨G150,1,none⟩ = some (.int .u64 x151001_2) ∧ w'.cell? ⟨G150,2,none⟩ = some (.bool x151002_2) ∧ w'.cell? ⟨G150,3,none⟩ = some (.int .i64 x151003_2) ∧ w'.cell? ⟨G150,4,none⟩ = some (.int .u64 x151004_2) ∧ w'.cell? ⟨G150,5,none⟩ = some (.int .u64 x151005_2) ∧ w'.cell? ⟨G150,6,none⟩ = some (.bool x151006_2) ∧ w'.cell? ⟨G150,7,none⟩ = some (.int .i64 x151007_2) ∧ w'.cell? ⟨G175,0,none⟩ = some (.int .i64 ((rd_T50 x9_2 ((rd_T33 l1 x10_2).f2)).f0)) ∧ w'.cell? ⟨G175,1,none⟩ = some (.int .u64 ((rd_T50 x9_2 ((rd_T33 l1 x10_2).f2)).f1)) ∧ w'.cell? ⟨G175,2,none⟩ = some (.int .u64 ((rd_T50 x9_2 ((rd_T33 l1 x10_2).f2)).f2))) (ds:=[14]) #[F,F,F,F,F,F,F,F,F,F,F,F,F,F,F] (by kernel_rfl) rfl rfl ⟨zk K150 0,zk K150 1,zk K150 2,zk K150 3,zk K150 4,zk K150 5,zk K150 6,zk K150 7,zk K175 0,zk K175 1,zk K175 2⟩ (fun hHeld => ?_);refine with_tabW beaconlaw12_SessionAgrees.tab25 beaconlaw12_SessionAgrees.bits25 (fun HT_ HW_ => ?_)
        generalize w125.drew = w127 at HO_9 K149 K150 K166 K167 K175 HB hHeld ⊢
        refine pz 0 110 #[T,F,F,F,F,F,F,F,F,F,F,F,F,F,F] HT_.1 ?_
        refine pz 1 111 #[T,T,F,F,F,F,F,F,F,F,F,F,F,F,F] HT_.1 ?_
        refine pz 2 112 #[T,T,T,F,F,F,F,F,F,F,F,F,F,F,F] HT_.1 ?_
        refine pz 4 114 #[T,T,T,F,T,F,F,F,F,F,F,F,F,F,F] HT_.1 ?_
        refine pz 6 116 #[T,T,T,F,T,F,T,F,F,F,F,F,F,F,F] HT_.1 ?_
        refine tz 3 113 #[T,T,T,T,T,F,T,F,F,F,F,F,F,F,F] HT_.1 HW_.1 hHeld ?_
        refine tz 5 115 #[T,T,T,T,T,T,T,F,F,F,F,F,F,F,F] HT_.1 HW_.1 hHeld ?_
        refine tz 7 117 #[T,T,T,T,T,T,T,T,F,F,F,F,F,F,F] HT_.1 HW_.1 hHeld ?_
        refine one_ (i:=8) (N:=some 118) #[T,T,T,T,T,T,T,T,T,F,F,F,F,F,F] rfl rfl (one_of HT_.out (by kernel_rfl)) (by decide) (fun K hK => ?_)
        refine zo_ Try.func10 #[.agg #[.int .u64 x151000_2,.int .u64 x151001_2,.bool x151002_2,.int .i64 x151003_2],.int .u64 ((rd_T50 x9_2 ((rd_T33 l1 x10_2).f2)).f1),.int .u64 ((rd_T50 x9_2 ((rd_T33 l1 x10_2).f2)).f2)] ?_
        with_reducible refine (session_Hear.calls kj88 x151000_2 x151001_2 x151002_2 x151003_2 ((rd_T50 x9_2 ((rd_T33 l1 x10_2).f2)).f1) ((rd_T50 x9_2 ((rd_T33 l1 x10_2).f2)).f2) t176 t177 t178 t179 t180 t181 _ A113.out).mono ?_
        rintro e w128 ⟨rfl,hb⟩
        refine ⟨_,rfl,?_⟩
        replace HO_9:=zRb HO_9 hb
        replace K149:=zB K149 hb
        replace K150:=zB K150 hb
        replace K166:=zB K166 hb
        replace K167:=zB K167 hb
        replace K175:=zB K175 hb
        replace HB:=zS HB hb
        (try clear hb)
        (try clear hb2)
        (try clear hk)
        (try clear hi)
        refine hK.out _ _ ⟨zk K150 0,zk K150 1,zk K150 2,zk K150 3,zk K150 4,zk K150 5,zk K150 6,zk K150 7,zk K175 0,zk K175 1,zk K175 2⟩ (fun hHeld => ?_)
        clear hK K
        refine nz 118 ?_
        refine pz 9 109 #[T,T,T,T,T,T,T,T,T,T,F,F,F,F,F] HT_.1 ?_
        refine pz 10 119 #[T,T,T,T,T,T,T,T,T,T,T,F,F,F,F] HT_.1 ?_
        refine pz 11 120 #[T,T,T,T,T,T,T,T,T,T,T,T,F,F,F] HT_.1 ?_
        refine pz 12 121 #[T,T,T,T,T,T,T,T,T,T,T,T,T,F,F] HT_.1 ?_
        refine pz 13 122 #[T,T,T,T,T,T,T,T,T,T,T,T,T,T,F] HT_.1 ?_
        refine last_ (i:=14) (N:=none) #[T,T,T,T,T,T,T,T,T,T,T,T,T,T,T] rfl rfl (one_of HT_.out (by kernel_rfl)) (by decide) (fun K hK => ?_)
        have hs129 : w128.cell? ⟨G150,0,none⟩ = some (.int .u64 x151000_2):=zk K150 0
        have hfs129:=bF K150.1 0
        have:=NB149_150.1
        have:=NB167_150.1
        have:=NB175_150.1
        have:=NB150_149.1
        have:=NB150_167.1
        have:=NB150_175.1
        have hs130 : w128.cell? ⟨G150,1,none⟩ = some (.int .u64 x151001_2):=zk K150 1
        have hfs130:=bF K150.1 1
        have hs131 : w128.cell? ⟨G150,2,none⟩ = some (.bool x151002_2):=zk K150 2
        have hfs131:=bF K150.1 2
        have hs132 : w128.cell? ⟨G150,3,none⟩ = some (.int .i64 x151003_2):=zk K150 3
        have hfs132:=bF K150.1 3
        refine sz ?_
        refine hK.out _ _ ?_
        clear hK K
        refine done_ (done_of HT_.out (by kernel_rfl)) ?_
        try go_wp2
        go_meet
        case rel => exact ⟨_,(x9_2),(t176),(t177),(t178),(t179),(x151004_2),(x151005_2),(x151006_2),(x151007_2),H',⟨by have:=HK1.out;have:=HK2.out;have:=HJ85.out;have:=HJ88.out;first|omega|exact Nat.le_refl _⟩,⟨zRf HO_9 K150 (fun _ hk => trivial)⟩,⟨zf K149⟩,⟨zF K150⟩,⟨zf K166⟩,⟨zf K167⟩,⟨zH HB⟩⟩
      exact absurd rfl c112
     rw [if_neg c111] at H
     have c111b0 : (((rd_T33 l1 x10_2).f1) == 1) = false:=beq_eq_false_iff_ne.mpr c111
     have c111b1 : (((rd_T33 l1 x10_2).f1) != 1) = true:=bne_iff_ne.mpr c111
     by_cases c154 : (0 : Int) = 0
     ·first|rw [if_pos c154] at H|rw [if_pos trivial] at H
      replace H:=Option.bind_eq_some_iff.mp H
      obtain ⟨⟨t188,t189,t190,t191,t192,t193⟩,A1550,H⟩:=H
      (try dsimp only at H)
      have A155:=zA A1550
      clear A1550
      have HC156:=zA H
      clear H
      have:=NB166_149.1
      have:=NB149_166.1
      have:=NB166_150.1
      have:=NB150_166.1
      have:=NB166_167.1
      have:=NB167_166.1
      obtain ⟨hcz160_0,hcz160_1,hcz160_2,hcz160_3,hfz160_0,hfz160_1,hfz160_2,hfz160_3⟩:=zc4 K166
      obtain ⟨Ao161,co161,eo161⟩:=Kd.R_slice HO_9.out
      subst eo161
      have p174 : 0 ≤ (((rd_T33 l1 x10_2).f2) : Int):=zd
      have q174 : ((rd_T33 l1 x10_2).f2) < (x9_2.length : Int):=zd
      obtain ⟨ad174,e174,hx174_0,hx174_1,hx174_2⟩:=at_T50 (Kd.R_reads' HO_9.out).2.2 ((rd_T33 l1 x10_2).f2) p174 q174
      cases e174
      replace p174:=eq_true p174
      replace q174:=eq_true q174
      try go_wp2_with (first|((with_reducible refine gate_dst (N:=16) rfl ?_);(try (refine gate_guard (by rfl) ?_;dsimp only));refine zb (N:=16) (cs:=#[.int .i64 0,.int .u64 0,.int .u64 0]) (t:=50) ?_;intro G175 hg w162 hbox hb;replace HO_9:=zA (Kd.R_below (Kd.R_elderB (zR HO_9) G175 (Nat.le_of_eq hg.symm)) hb);have K175:=zA (hbox);have GW175:=zN HB hg;have GE175:=zN HB hg;replace HB:=zS HB hb;have NB149_175:=zL K149 hg;have NB175_149:=zG K149 hg;replace K149:=zB K149 hb;have NB150_175:=zL K150 hg;have NB175_150:=zG K150 hg;replace K150:=zB K150 hb;have NB166_175:=zL K166 hg;have NB175_166:=zG K166 hg;replace K166:=zB K166 hb;have NB167_175:=zL K167 hg;have NB175_167:=zG K167 hg;replace K167:=zB K167 hb;clear hb hbox hg;have:=NB175_149.1;have:=NB149_175.1;have:=NB175_150.1;have:=NB150_175.1;have:=NB175_166.1;have:=NB166_175.1;have:=NB175_167.1;have:=NB167_175.1;obtain ⟨hcz167_0,hcz167_1,hcz167_2,hfz167_0,hfz167_1,hfz167_2⟩:=zc3 K175)|((with_reducible refine gate_store (t:=50) (p:=16) rfl ?_);refine store_event (t:=50) (p:=16) (v:=?vo_w168) (w1:=(((w162.setCell ⟨G175,0,none⟩ (.int .i64 ((rd_T50 x9_2 ((rd_T33 l1 x10_2).f2)).f0))).setCell ⟨G175,1,none⟩ (.int .u64 ((rd_T50 x9_2 ((rd_T33 l1 x10_2).f2)).f1))).setCell ⟨G175,2,none⟩ (.int .u64 ((rd_T50 x9_2 ((rd_T33 l1 x10_2).f2)).f2)))) ?hg ?ho ?hn ?hr ?_;(case ho => rfl);(case hg => rfl);(case hn => rfl);(case hr => first|(go_simp;done)|(go_simp;rfl));intro w168 hw;replace HO_9 : Aside0 (Kd.R k50 50 w168 w.heap.size (fun k_ => k_ ≠ G175) (.slice (some ad174) x9_2.length co161) x9_2):=⟨(by rw [hw];exact (by (with_reducible repeat (first|apply Kd.R_alloc|apply Kd.R_drewN|apply Kd.R_drew));exact Kd.R_mono (Kd.R_far (p:=⟨G175,2,none⟩) (Kd.R_far (p:=⟨G175,1,none⟩) (Kd.R_far (p:=⟨G175,0,none⟩) (Kd.R_mono HO_9.out (fun k_ hk => (⟨hk,hk.2⟩ : _ ∧ k_ ≠ G175))) (fun _ hk => hk.2) (.int .i64 ((rd_T50 x9_2 ((rd_T33 l1 x10_2).f2)).f0))) (fun _ hk => hk.2) (.int .u64 ((rd_T50 x9_2 ((rd_T33 l1 x10_2).f2)).f1))) (fun _ hk => hk.2) (.int .u64 ((rd_T50 x9_2 ((rd_T33 l1 x10_2).f2)).f2))) (fun _ hk => hk.1.2)))⟩;replace K149:=zV hw K149;replace K150:=zV hw K150;replace K166:=zV hw K166;replace K167:=zV hw K167;replace K175:=zVp hw (.cells #[.int .i64 ((rd_T50 x9_2 ((rd_T33 l1 x10_2).f2)).f0),.int .u64 ((rd_T50 x9_2 ((rd_T33 l1 x10_2).f2)).f1),.int .u64 ((rd_T50 x9_2 ((rd_T33 l1 x10_2).f2)).f2)] 50 (0,0)) K175;replace HB:=zU hw HB;clear hw;obtain ⟨hcz169_0,hcz169_1,hcz169_2,hcz169_3,hfz169_0,hfz169_1,hfz169_2,hfz169_3⟩:=zc4 K166))
      replace HO_9:=zA (Kd.R_drew HO_9.out)
      replace K149:=zA (bD K149.1)
      replace K150:=zA (bD K150.1)
      replace K166:=zA (bD K166.1)
      replace K167:=zA (bD K167.1)
      replace K175:=zA (bD K175.1)
      replace HB:=zA (bw1 HB.1)
      refine start_ (n:=16) (S:=fun w' => w'.cell? ⟨G150,0,none⟩ = some (.int .u64 x151000_2) ∧ w'.cell? ⟨G150,1,none⟩ = some (.int .u64 x151001_2) ∧ w'.cell? ⟨G150,2,none⟩ = some (.bool x151002_2) ∧ w'.cell? ⟨G150,3,none⟩ = some (.int .i64 x151003_2) ∧ w'.cell? ⟨G150,4,none⟩ = some (.int .u64 x151004_2) ∧ w'.cell? ⟨G150,5,none⟩ = some (.int .u64 x151005_2) ∧ w'.cell? ⟨G150,6,none⟩ = some (.bool x151006_2) ∧ w'.cell? ⟨G150,7,none⟩ = some (.int .i64 x151007_2) ∧ w'.cell? ⟨G175,0,none⟩ = some (.int .i64 ((rd_T50 x9_2 ((rd_T33 l1 x10_2).f2)).f0)) ∧ w'.cell? ⟨G175,1,none⟩ = some (.int .u64 ((rd_T50 x9_2 ((rd_T33 l1 x10_2).f2)).f1)) ∧ w'.cell? ⟨G175,2,none⟩ = some (.int .u64 ((rd_T50 x9_2 ((rd_T33 l1 x10_2).f2)).f2))) (ds:=[]) #[F,F,F,F,F,F,F,F,F,F,F,F,F,F,F,F] (by kernel_rfl) rfl rfl ⟨zk K150 0,zk K150 1,zk K150 2,zk K150 3,zk K150 4,zk K150 5,zk K150 6,zk K150 7,zk K175 0,zk K175 1,zk K175 2⟩ (fun hHeld => ?_);refine with_tabW beaconlaw12_SessionAgrees.tab26 beaconlaw12_SessionAgrees.bits26 (fun HT_ HW_ => ?_)
      generalize w168.drew = w170 at HO_9 K149 K150 K166 K167 K175 HB hHeld ⊢
      refine pz 0 124 #[T,F,F,F,F,F,F,F,F,F,F,F,F,F,F,F] HT_.1 ?_
      refine pz 1 125 #[T,T,F,F,F,F,F,F,F,F,F,F,F,F,F,F] HT_.1 ?_
      refine pz 3 127 #[T,T,F,T,F,F,F,F,F,F,F,F,F,F,F,F] HT_.1 ?_
      refine pz 5 129 #[T,T,F,T,F,T,F,F,F,F,F,F,F,F,F,F] HT_.1 ?_
      refine tz 2 126 #[T,T,T,T,F,T,F,F,F,F,F,F,F,F,F,F] HT_.1 HW_.1 hHeld ?_
      refine tz 4 128 #[T,T,T,T,T,T,F,F,F,F,F,F,F,F,F,F] HT_.1 HW_.1 hHeld ?_
      refine tz 6 130 #[T,T,T,T,T,T,T,F,F,F,F,F,F,F,F,F] HT_.1 HW_.1 hHeld ?_
      refine join_ (σ:=Nat) 3 #[T,T,T,T,T,T,T,T,T,T,T,T,T,F,F,F] (fun s_ => [(131,.tuple #[.agg #[.int .u64 t188,.int .u64 t189,.bool t190,.int .i64 t191],.bool t192,.bool t193]),(17,.pointer (some ⟨s_,0,none⟩)),(123,.tuple #[.agg #[.int .u64 t188,.int .u64 t189,.bool t190,.int .i64 t191],.bool t192,.bool t193]),(132,.agg #[.int .u64 t188,.int .u64 t189,.bool t190,.int .i64 t191]),(133,.bool t192),(134,.bool t193)]) (fun s_ w' => (w'.cell? ⟨G150,0,none⟩ = some (.int .u64 x151000_2) ∧ w'.cell? ⟨G150,1,none⟩ = some (.int .u64 x151001_2) ∧ w'.cell? ⟨G150,2,none⟩ = some (.bool x151002_2) ∧ w'.cell? ⟨G150,3,none⟩ = some (.int .i64 x151003_2) ∧ w'.cell? ⟨G150,4,none⟩ = some (.int .u64 x151004_2) ∧ w'.cell? ⟨G150,5,none⟩ = some (.int .u64 x151005_2) ∧ w'.cell? ⟨G150,6,none⟩ = some (.bool x151006_2) ∧ w'.cell? ⟨G150,7,none⟩ = some (.int .i64 x151007_2) ∧ w'.cell? ⟨G175,0,none⟩ = some (.int .i64 ((rd_T50 x9_2 ((rd_T33 l1 x10_2).f2)).f0)) ∧ w'.cell? ⟨G175,1,none⟩ = some (.int .u64 ((rd_T50 x9_2 ((rd_T33 l1 x10_2).f2)).f1)) ∧ w'.cell? ⟨G175,2,none⟩ = some (.int .u64 ((rd_T50 x9_2 ((rd_T33 l1 x10_2).f2)).f2))) ∧ (Kd.R k50 50 w' w.heap.size (fun k_ => k_ ≠ G175) (.slice (some ad174) x9_2.length co161) x9_2) ∧ (w'.heap[G149]? = some (.cells #[.int .u64 a0_0,.int .u64 a0_1] 23 (0,0))) ∧ (w'.heap[G150]? = some (.cells #[.int .u64 x151000_2,.int .u64 x151001_2,.bool x151002_2,.int .i64 x151003_2,.int .u64 x151004_2,.int .u64 x151005_2,.bool x151006_2,.int .i64 x151007_2] 27 (0,0))) ∧ (w'.heap[G166]? = some (.cells #[.int .i64 ((rd_T33 l1 x10_2).f0),.int .i64 ((rd_T33 l1 x10_2).f1),.int .i64 ((rd_T33 l1 x10_2).f2),.int .i64 ((rd_T33 l1 x10_2).f3)] 33 (0,0))) ∧ (w'.heap[G167]? = some (.cells #[.int .u64 x151000_2,.int .u64 x151001_2,.bool x151002_2,.int .i64 x151003_2] 26 (0,0))) ∧ (w'.heap[G175]? = some (.cells #[.int .i64 ((rd_T50 x9_2 ((rd_T33 l1 x10_2).f2)).f0),.int .u64 ((rd_T50 x9_2 ((rd_T33 l1 x10_2).f2)).f1),.int .u64 ((rd_T50 x9_2 ((rd_T33 l1 x10_2).f2)).f2)] 50 (0,0))) ∧ (w'.heap[s_]? = some (.cells #[.int .u64 0,.int .u64 0,.bool false,.int .i64 0] 26 (0,0))) ∧ (w.heap.size ≤ s_) ∧ (w.heap.size ≤ s_) ∧ (G149 ≠ s_) ∧ (s_ ≠ G149) ∧ (G150 ≠ s_) ∧ (s_ ≠ G150) ∧ (G166 ≠ s_) ∧ (s_ ≠ G166) ∧ (G167 ≠ s_) ∧ (s_ ≠ G167) ∧ (G175 ≠ s_) ∧ (s_ ≠ G175) ∧ (Below w.heap.size w w')) ?_ ?_
      rotate_left
      ·intro hCont
       refine two_ (i:=7) (j:=12) (Ni:=some 131) (Nj:=some 17) #[T,T,T,T,T,T,T,T,F,F,F,F,F,F,F,F] #[T,T,T,T,T,T,T,F,F,F,F,F,T,F,F,F] rfl rfl rfl rfl (two_of HT_.out (by kernel_rfl)) (by decide) (by decide) (fun K hK => ?_) (fun K hK => ?_)
       ·skip
        refine zo_ Try.func15 #[.agg #[.int .u64 x151000_2,.int .u64 x151001_2,.bool x151002_2,.int .i64 x151003_2],.int .u64 ((rd_T50 x9_2 ((rd_T33 l1 x10_2).f2)).f1),.int .u64 ((rd_T50 x9_2 ((rd_T33 l1 x10_2).f2)).f2)] ?_
        with_reducible refine (session_Accept.calls kj88 x151000_2 x151001_2 x151002_2 x151003_2 ((rd_T50 x9_2 ((rd_T33 l1 x10_2).f2)).f1) ((rd_T50 x9_2 ((rd_T33 l1 x10_2).f2)).f2) t188 t189 t190 t191 t192 t193 _ A155.out).mono ?_
        rintro e w171 ⟨rfl,hb⟩
        refine ⟨_,rfl,?_⟩
        replace HO_9:=zRb HO_9 hb
        replace K149:=zB K149 hb
        replace K150:=zB K150 hb
        replace K166:=zB K166 hb
        replace K167:=zB K167 hb
        replace K175:=zB K175 hb
        replace HB:=zS HB hb
        (try clear hb)
        (try clear hb2)
        (try clear hk)
        (try clear hi)
        refine hK.out _ _ ⟨zk K150 0,zk K150 1,zk K150 2,zk K150 3,zk K150 4,zk K150 5,zk K150 6,zk K150 7,zk K175 0,zk K175 1,zk K175 2⟩ (fun hHeld => ?_)
        clear hK K
        refine nz 131 ?_
        refine pz 8 123 #[T,T,T,T,T,T,T,T,T,F,F,F,F,F,F,F] HT_.1 ?_
        refine pz 9 132 #[T,T,T,T,T,T,T,T,T,T,F,F,F,F,F,F] HT_.1 ?_
        refine pz 10 133 #[T,T,T,T,T,T,T,T,T,T,T,F,F,F,F,F] HT_.1 ?_
        refine pz 11 134 #[T,T,T,T,T,T,T,T,T,T,T,T,F,F,F,F] HT_.1 ?_
        refine one_ (i:=12) (N:=some 17) #[T,T,T,T,T,T,T,T,T,T,T,T,T,F,F,F] rfl rfl (one_of HT_.out (by kernel_rfl)) (by decide) (fun K hK => ?_)
        refine zs_ (N:=17) (cs:=#[.int .u64 0,.int .u64 0,.bool false,.int .i64 0]) (t:=26) ?_
        intro G194 hg w172 hbox hb
        replace HO_9:=zRb HO_9 hb
        have K194:=zA (hbox)
        have GW194:=zN HB hg
        have GE194:=zN HB hg
        replace HB:=zS HB hb
        have NB149_194:=zL K149 hg
        have NB194_149:=zG K149 hg
        replace K149:=zB K149 hb
        have NB150_194:=zL K150 hg
        have NB194_150:=zG K150 hg
        replace K150:=zB K150 hb
        have NB166_194:=zL K166 hg
        have NB194_166:=zG K166 hg
        replace K166:=zB K166 hb
        have NB167_194:=zL K167 hg
        have NB194_167:=zG K167 hg
        replace K167:=zB K167 hb
        have NB175_194:=zL K175 hg
        have NB194_175:=zG K175 hg
        replace K175:=zB K175 hb
        clear hb hbox hg
        refine hK.out _ _ ⟨zk K150 0,zk K150 1,zk K150 2,zk K150 3,zk K150 4,zk K150 5,zk K150 6,zk K150 7,zk K175 0,zk K175 1,zk K175 2⟩ (fun hHeld => ?_)
        clear hK K
        refine nz 17 ?_
        exact norm_ (by simp only [putAll,Act.put,xA,xB,xC]) (hCont (G194) _ ⟨hHeld,(zR HO_9),(z1 K149.1),(z1 K150.1),(z1 K166.1),(z1 K167.1),(z1 K175.1),(z1 K194.1),GW194.1,GE194.1,NB149_194.1,NB194_149.1,NB150_194.1,NB194_150.1,NB166_194.1,NB194_166.1,NB167_194.1,NB194_167.1,NB175_194.1,NB194_175.1,(zH HB)⟩)
       skip
       refine zs_ (N:=17) (cs:=#[.int .u64 0,.int .u64 0,.bool false,.int .i64 0]) (t:=26) ?_
       intro G194 hg w171 hbox hb
       replace HO_9:=zRb HO_9 hb
       have K194:=zA (hbox)
       have GW194:=zN HB hg
       have GE194:=zN HB hg
       replace HB:=zS HB hb
       have NB149_194:=zL K149 hg
       have NB194_149:=zG K149 hg
       replace K149:=zB K149 hb
       have NB150_194:=zL K150 hg
       have NB194_150:=zG K150 hg
       replace K150:=zB K150 hb
       have NB166_194:=zL K166 hg
       have NB194_166:=zG K166 hg
       replace K166:=zB K166 hb
       have NB167_194:=zL K167 hg
       have NB194_167:=zG K167 hg
       replace K167:=zB K167 hb
       have NB175_194:=zL K175 hg
       have NB194_175:=zG K175 hg
       replace K175:=zB K175 hb
       clear hb hbox hg
       refine hK.out _ _ ⟨zk K150 0,zk K150 1,zk K150 2,zk K150 3,zk K150 4,zk K150 5,zk K150 6,zk K150 7,zk K175 0,zk K175 1,zk K175 2⟩ (fun hHeld => ?_)
       clear hK K
       refine nz 17 ?_
       refine one_ (i:=7) (N:=some 131) #[T,T,T,T,T,T,T,T,F,F,F,F,T,F,F,F] rfl rfl (one_of HT_.out (by kernel_rfl)) (by decide) (fun K hK => ?_)
       refine zo_ Try.func15 #[.agg #[.int .u64 x151000_2,.int .u64 x151001_2,.bool x151002_2,.int .i64 x151003_2],.int .u64 ((rd_T50 x9_2 ((rd_T33 l1 x10_2).f2)).f1),.int .u64 ((rd_T50 x9_2 ((rd_T33 l1 x10_2).f2)).f2)] ?_
       with_reducible refine (session_Accept.calls kj88 x151000_2 x151001_2 x151002_2 x151003_2 ((rd_T50 x9_2 ((rd_T33 l1 x10_2).f2)).f1) ((rd_T50 x9_2 ((rd_T33 l1 x10_2).f2)).f2) t188 t189 t190 t191 t192 t193 _ A155.out).mono ?_
       rintro e w172 ⟨rfl,hb⟩
       refine ⟨_,rfl,?_⟩
       replace HO_9:=zRb HO_9 hb
       replace K149:=zB K149 hb
       replace K150:=zB K150 hb
       replace K166:=zB K166 hb
       replace K167:=zB K167 hb
       replace K175:=zB K175 hb
       replace K194:=zB K194 hb
       replace HB:=zS HB hb
       (try clear hb)
       (try clear hb2)
       (try clear hk)
       (try clear hi)
       refine hK.out _ _ ⟨zk K150 0,zk K150 1,zk K150 2,zk K150 3,zk K150 4,zk K150 5,zk K150 6,zk K150 7,zk K175 0,zk K175 1,zk K175 2⟩ (fun hHeld => ?_)
       clear hK K
       refine nz 131 ?_
       refine pz 8 123 #[T,T,T,T,T,T,T,T,T,F,F,F,T,F,F,F] HT_.1 ?_
       refine pz 9 132 #[T,T,T,T,T,T,T,T,T,T,F,F,T,F,F,F] HT_.1 ?_
       refine pz 10 133 #[T,T,T,T,T,T,T,T,T,T,T,F,T,F,F,F] HT_.1 ?_
       refine pz 11 134 #[T,T,T,T,T,T,T,T,T,T,T,T,T,F,F,F] HT_.1 ?_
       exact norm_ (by simp only [putAll,Act.put,xA,xB,xC]) (hCont (G194) _ ⟨hHeld,(zR HO_9),(z1 K149.1),(z1 K150.1),(z1 K166.1),(z1 K167.1),(z1 K175.1),(z1 K194.1),GW194.1,GE194.1,NB149_194.1,NB194_149.1,NB150_194.1,NB194_150.1,NB166_194.1,NB194_166.1,NB167_194.1,NB194_167.1,NB175_194.1,NB194_175.1,(zH HB)⟩)
      rintro G194 w173 ⟨hS_,h0_,h1_,h2_,h3_,h4_,h5_,h6_,h7_,h8_,h9_,h10_,h11_,h12_,h13_,h14_,h15_,h16_,h17_,h18_,h19_⟩
      replace HO_9 : Aside0 (Kd.R k50 50 w173 w.heap.size (fun k_ => k_ ≠ G175) (.slice (some ad174) x9_2.length co161) x9_2):=⟨h0_⟩
      replace K149 : Aside0 (w173.heap[G149]? = some (.cells #[.int .u64 a0_0,.int .u64 a0_1] 23 (0,0))):=⟨h1_⟩
      replace K150 : Aside0 (w173.heap[G150]? = some (.cells #[.int .u64 x151000_2,.int .u64 x151001_2,.bool x151002_2,.int .i64 x151003_2,.int .u64 x151004_2,.int .u64 x151005_2,.bool x151006_2,.int .i64 x151007_2] 27 (0,0))):=⟨h2_⟩
      replace K166 : Aside0 (w173.heap[G166]? = some (.cells #[.int .i64 ((rd_T33 l1 x10_2).f0),.int .i64 ((rd_T33 l1 x10_2).f1),.int .i64 ((rd_T33 l1 x10_2).f2),.int .i64 ((rd_T33 l1 x10_2).f3)] 33 (0,0))):=⟨h3_⟩
      replace K167 : Aside0 (w173.heap[G167]? = some (.cells #[.int .u64 x151000_2,.int .u64 x151001_2,.bool x151002_2,.int .i64 x151003_2] 26 (0,0))):=⟨h4_⟩
      replace K175 : Aside0 (w173.heap[G175]? = some (.cells #[.int .i64 ((rd_T50 x9_2 ((rd_T33 l1 x10_2).f2)).f0),.int .u64 ((rd_T50 x9_2 ((rd_T33 l1 x10_2).f2)).f1),.int .u64 ((rd_T50 x9_2 ((rd_T33 l1 x10_2).f2)).f2)] 50 (0,0))):=⟨h5_⟩
      have K194 : Aside0 (w173.heap[G194]? = some (.cells #[.int .u64 0,.int .u64 0,.bool false,.int .i64 0] 26 (0,0))):=⟨h6_⟩
      have GW194 : Aside0 (w.heap.size ≤ G194):=⟨h7_⟩
      have GE194 : Aside0 (w.heap.size ≤ G194):=⟨h8_⟩
      have NB149_194 : Aside0 (G149 ≠ G194):=⟨h9_⟩
      have NB194_149 : Aside0 (G194 ≠ G149):=⟨h10_⟩
      have NB150_194 : Aside0 (G150 ≠ G194):=⟨h11_⟩
      have NB194_150 : Aside0 (G194 ≠ G150):=⟨h12_⟩
      have NB166_194 : Aside0 (G166 ≠ G194):=⟨h13_⟩
      have NB194_166 : Aside0 (G194 ≠ G166):=⟨h14_⟩
      have NB167_194 : Aside0 (G167 ≠ G194):=⟨h15_⟩
      have NB194_167 : Aside0 (G194 ≠ G167):=⟨h16_⟩
      have NB175_194 : Aside0 (G175 ≠ G194):=⟨h17_⟩
      have NB194_175 : Aside0 (G194 ≠ G175):=⟨h18_⟩
      replace HB : Aside0 (Below w.heap.size w w173):=⟨h19_⟩
      clear h0_ h10_ h11_ h12_ h13_ h14_ h15_ h16_ h17_ h18_ h19_ h1_ h2_ h3_ h4_ h5_ h6_ h7_ h8_ h9_
      have hHeld : w173.cell? ⟨G150,0,none⟩ = some (.int .u64 x151000_2) ∧ w173.cell? ⟨G150,1,none⟩ = some (.int .u64 x151001_2) ∧ w173.cell? ⟨G150,2,none⟩ = some (.bool x151002_2) ∧ w173.cell? ⟨G150,3,none⟩ = some (.int .i64 x151003_2) ∧ w173.cell? ⟨G150,4,none⟩ = some (.int .u64 x151004_2) ∧ w173.cell? ⟨G150,5,none⟩ = some (.int .u64 x151005_2) ∧ w173.cell? ⟨G150,6,none⟩ = some (.bool x151006_2) ∧ w173.cell? ⟨G150,7,none⟩ = some (.int .i64 x151007_2) ∧ w173.cell? ⟨G175,0,none⟩ = some (.int .i64 ((rd_T50 x9_2 ((rd_T33 l1 x10_2).f2)).f0)) ∧ w173.cell? ⟨G175,1,none⟩ = some (.int .u64 ((rd_T50 x9_2 ((rd_T33 l1 x10_2).f2)).f1)) ∧ w173.cell? ⟨G175,2,none⟩ = some (.int .u64 ((rd_T50 x9_2 ((rd_T33 l1 x10_2).f2)).f2)):=hS_
      refine norm_ (a':=?_) ?_ ?_
      rotate_left
      ·simp only [putAll,Act.put,xA,xB,xC]
       rfl
      refine one_ (i:=13) (N:=none) #[T,T,T,T,T,T,T,T,T,T,T,T,T,T,F,F] rfl rfl (one_of HT_.out (by kernel_rfl)) (by decide) (fun K hK => ?_)
      have hs174 : w173.cell? ⟨G194,0,none⟩ = some (.int .u64 0):=zk K194 0
      have hfs174:=bF K194.1 0
      have:=NB149_194.1
      have:=NB150_194.1
      have:=NB166_194.1
      have:=NB167_194.1
      have:=NB175_194.1
      have:=NB194_149.1
      have:=NB194_150.1
      have:=NB194_166.1
      have:=NB194_167.1
      have:=NB194_175.1
      have hs175 : w173.cell? ⟨G194,1,none⟩ = some (.int .u64 0):=zk K194 1
      have hfs175:=bF K194.1 1
      have hs176 : w173.cell? ⟨G194,2,none⟩ = some (.bool false):=zk K194 2
      have hfs176:=bF K194.1 2
      have hs177 : w173.cell? ⟨G194,3,none⟩ = some (.int .i64 0):=zk K194 3
      have hfs177:=bF K194.1 3
      refine sz ?_
      refine hK.out _ _ ⟨(zx (hHeld.1) NB150_194.1),(zx (hHeld.2.1) NB150_194.1),(zx (hHeld.2.2.1) NB150_194.1),(zx (hHeld.2.2.2.1) NB150_194.1),(zx (hHeld.2.2.2.2.1) NB150_194.1),(zx (hHeld.2.2.2.2.2.1) NB150_194.1),(zx (hHeld.2.2.2.2.2.2.1) NB150_194.1),(zx (hHeld.2.2.2.2.2.2.2.1) NB150_194.1),(zx (hHeld.2.2.2.2.2.2.2.2.1) NB175_194.1),(zx (hHeld.2.2.2.2.2.2.2.2.2.1) NB175_194.1),(zx (hHeld.2.2.2.2.2.2.2.2.2.2) NB175_194.1)⟩ (fun hHeld => ?_)
      clear hK K
      refine pz 14 18 #[T,T,T,T,T,T,T,T,T,T,T,T,T,T,T,F] HT_.1 ?_
      refine pz 15 19 #[T,T,T,T,T,T,T,T,T,T,T,T,T,T,T,T] HT_.1 ?_
      refine done_ (done_of HT_.out (by kernel_rfl)) ?_
      obtain ⟨hcz183_0,hcz183_1,hcz183_2,hcz183_3,hfz183_0,hfz183_1,hfz183_2,hfz183_3⟩:=zc4 K194
      have:=NB150_149.1
      have:=NB149_150.1
      have:=NB150_167.1
      have:=NB167_150.1
      obtain ⟨hcz186_0,hcz186_1,hcz186_2,hcz186_3,hcz186_4,hcz186_5,hcz186_6,hcz186_7,hfz186_0,hfz186_1,hfz186_2,hfz186_3,hfz186_4,hfz186_5,hfz186_6,hfz186_7⟩:=zc8 K150
      go_upto_region 28 with (first|((with_reducible refine gate_store (t:=26) (p:=137) rfl ?_);refine store_event (t:=26) (p:=137) (v:=?vo_w187) (w1:=((((((((w173.setCell ⟨G194,0,none⟩ (.int .u64 t188)).setCell ⟨G194,1,none⟩ (.int .u64 t189)).setCell ⟨G194,2,none⟩ (.bool t190)).setCell ⟨G194,3,none⟩ (.int .i64 t191)).setCell ⟨G150,0,none⟩ (.int .u64 t188)).setCell ⟨G150,1,none⟩ (.int .u64 t189)).setCell ⟨G150,2,none⟩ (.bool t190)).setCell ⟨G150,3,none⟩ (.int .i64 t191))) ?hg ?ho ?hn ?hr ?_;(case ho => rfl);(case hg => rfl);(case hn => rfl);(case hr => first|(go_simp;done)|(go_simp;rfl));intro w187 hw;replace HO_9 : Aside0 (Kd.R k50 50 w187 w.heap.size (fun k_ => k_ ≠ G175) (.slice (some ad174) x9_2.length co161) x9_2):=⟨(by rw [hw];exact (by (with_reducible repeat (first|apply Kd.R_alloc|apply Kd.R_drewN|apply Kd.R_drew));exact Kd.R_mono (Kd.R_far (p:=⟨G150,3,none⟩) (Kd.R_far (p:=⟨G150,2,none⟩) (Kd.R_far (p:=⟨G150,1,none⟩) (Kd.R_far (p:=⟨G150,0,none⟩) (Kd.R_far (p:=⟨G194,3,none⟩) (Kd.R_far (p:=⟨G194,2,none⟩) (Kd.R_far (p:=⟨G194,1,none⟩) (Kd.R_far (p:=⟨G194,0,none⟩) (Kd.R_types (Kd.R_types HO_9.out K194.1 (by decide)) K150.1 (by decide)) (fun _ hk => hk.1.2) (.int .u64 t188)) (fun _ hk => hk.1.2) (.int .u64 t189)) (fun _ hk => hk.1.2) (.bool t190)) (fun _ hk => hk.1.2) (.int .i64 t191)) (fun _ hk => hk.2) (.int .u64 t188)) (fun _ hk => hk.2) (.int .u64 t189)) (fun _ hk => hk.2) (.bool t190)) (fun _ hk => hk.2) (.int .i64 t191)) (fun _ hk => hk.1.1)))⟩;replace K149:=zV hw K149;replace K150:=zVp hw (.cells #[.int .u64 t188,.int .u64 t189,.bool t190,.int .i64 t191,.int .u64 x151004_2,.int .u64 x151005_2,.bool x151006_2,.int .i64 x151007_2] 27 (0,0)) K150;replace K166:=zV hw K166;replace K167:=zV hw K167;replace K175:=zV hw K175;replace K194:=zVp hw (.cells #[.int .u64 t188,.int .u64 t189,.bool t190,.int .i64 t191] 26 (0,0)) K194;replace HB:=zU hw HB;clear hw))
      (try simp only [Act.put,xA,xB,xC])
      go_cut [152] (fun v152 wc => ∃ (kq : Nat) (x152_155 : Bool),v152 = .bool x152_155 ∧ Aside0 (beaconlaw12_SessionAgrees.j4 kq l1 x9_2 x10_2 0 x152_155 t188 t189 t190 t191 x151004_2 x151005_2 x151006_2 x151007_2 x151000_2 x151001_2 x151002_2 x151003_2 = some r) ∧ Aside0 (kq ≤ kj88) ∧ Aside0 (Kd.R k50 50 wc w.heap.size (fun k_ => k_ ≠ G175) (.slice (some ad174) x9_2.length co161) x9_2) ∧ Aside0 (wc.heap[G149]? = some (.cells #[.int .u64 a0_0,.int .u64 a0_1] 23 (0,0))) ∧ Aside0 (wc.heap[G150]? = some (.cells #[.int .u64 t188,.int .u64 t189,.bool t190,.int .i64 t191,.int .u64 x151004_2,.int .u64 x151005_2,.bool x151006_2,.int .i64 x151007_2] 27 (0,0))) ∧ Aside0 (wc.heap[G166]? = some (.cells #[.int .i64 ((rd_T33 l1 x10_2).f0),.int .i64 ((rd_T33 l1 x10_2).f1),.int .i64 ((rd_T33 l1 x10_2).f2),.int .i64 ((rd_T33 l1 x10_2).f3)] 33 (0,0))) ∧ Aside0 (wc.heap[G167]? = some (.cells #[.int .u64 x151000_2,.int .u64 x151001_2,.bool x151002_2,.int .i64 x151003_2] 26 (0,0))) ∧ Aside0 (wc.heap[G175]? = some (.cells #[.int .i64 ((rd_T50 x9_2 ((rd_T33 l1 x10_2).f2)).f0),.int .u64 ((rd_T50 x9_2 ((rd_T33 l1 x10_2).f2)).f1),.int .u64 ((rd_T50 x9_2 ((rd_T33 l1 x10_2).f2)).f2)] 50 (0,0))) ∧ Aside0 (wc.heap[G194]? = some (.cells #[.int .u64 t188,.int .u64 t189,.bool t190,.int .i64 t191] 26 (0,0))) ∧ Aside0 (Below w.heap.size w wc))
      case first =>
       have H:=HC156.out
       clear HC156
       by_cases c188 : t192 = true
       ·subst c188
        rw [if_pos rfl] at H
        by_cases c189 : ((rd_T50 x9_2 ((rd_T33 l1 x10_2).f2)).f1) = x151001_2
        ·rw [if_pos c189] at H
         have c189b0 : (((rd_T50 x9_2 ((rd_T33 l1 x10_2).f2)).f1) == x151001_2) = true:=beq_iff_eq.mpr c189
         have c189b1 : (((rd_T50 x9_2 ((rd_T33 l1 x10_2).f2)).f1) != x151001_2) = false:=bne_eq_false_iff_eq.mpr c189
         clear c189
         (first|rw [c189b0]|(simp only [i64_w,i32_w];rw [c189b0])|skip)
         have H':=zA H
         clear H
         have:=NB175_149.1
         have:=NB149_175.1
         have:=NB175_150.1
         have:=NB150_175.1
         have:=NB175_166.1
         have:=NB166_175.1
         have:=NB175_167.1
         have:=NB167_175.1
         obtain ⟨hcz195_0,hcz195_1,hcz195_2,hfz195_0,hfz195_1,hfz195_2⟩:=zc3 K175
         have:=NB167_149.1
         have:=NB149_167.1
         obtain ⟨hcz200_0,hcz200_1,hcz200_2,hcz200_3,hfz200_0,hfz200_1,hfz200_2,hfz200_3⟩:=zc4 K167
         as_aux_lemma =>
          go_wp2
          go_meet
          case rel => exact ⟨_,((((rd_T50 x9_2 ((rd_T33 l1 x10_2).f2)).f2) != x151000_2)),ze,H',⟨by have:=HK1.out;have:=HK2.out;have:=HJ85.out;have:=HJ88.out;first|omega|exact Nat.le_refl _⟩,⟨zR HO_9⟩,⟨z1 K149.1⟩,⟨z1 K150.1⟩,⟨z1 K166.1⟩,⟨z1 K167.1⟩,⟨z1 K175.1⟩,⟨z1 K194.1⟩,⟨zH HB⟩⟩
        rw [if_neg c189] at H
        have c189b0 : (((rd_T50 x9_2 ((rd_T33 l1 x10_2).f2)).f1) == x151001_2) = false:=beq_eq_false_iff_ne.mpr c189
        have c189b1 : (((rd_T50 x9_2 ((rd_T33 l1 x10_2).f2)).f1) != x151001_2) = true:=bne_iff_ne.mpr c189
        (first|rw [c189b0]|(simp only [i64_w,i32_w];rw [c189b0])|skip)
        have H':=zA H
        clear H
        have:=NB175_149.1
        have:=NB149_175.1
        have:=NB175_150.1
        have:=NB150_175.1
        have:=NB175_166.1
        have:=NB166_175.1
        have:=NB175_167.1
        have:=NB167_175.1
        obtain ⟨hcz206_0,hcz206_1,hcz206_2,hfz206_0,hfz206_1,hfz206_2⟩:=zc3 K175
        have:=NB167_149.1
        have:=NB149_167.1
        obtain ⟨hcz211_0,hcz211_1,hcz211_2,hcz211_3,hfz211_0,hfz211_1,hfz211_2,hfz211_3⟩:=zc4 K167
        as_aux_lemma =>
         go_wp2
         go_meet
         case rel => exact ⟨_,(true),ze,H',⟨by have:=HK1.out;have:=HK2.out;have:=HJ85.out;have:=HJ88.out;first|omega|exact Nat.le_refl _⟩,⟨zR HO_9⟩,⟨z1 K149.1⟩,⟨z1 K150.1⟩,⟨z1 K166.1⟩,⟨z1 K167.1⟩,⟨z1 K175.1⟩,⟨z1 K194.1⟩,⟨zH HB⟩⟩
       replace c188:=Bool.eq_false_iff.mpr c188
       subst c188
       rw [if_neg (show ¬ (false = true) by decide)] at H
       have H':=zA H
       clear H
       as_aux_lemma =>
        go_wp2
        go_meet
        case rel => exact ⟨_,(false),ze,H',⟨by have:=HK1.out;have:=HK2.out;have:=HJ85.out;have:=HJ88.out;first|omega|exact Nat.le_refl _⟩,⟨zR HO_9⟩,⟨z1 K149.1⟩,⟨z1 K150.1⟩,⟨z1 K166.1⟩,⟨z1 K167.1⟩,⟨z1 K175.1⟩,⟨z1 K194.1⟩,⟨zH HB⟩⟩
      clear HC156
      try clear c1;try clear hcz183_0;try clear hcz183_1;try clear hcz183_2;try clear hcz183_3;try clear hcz186_0;try clear hcz186_1;try clear hcz186_2;try clear hcz186_3;try clear hcz186_4;try clear hcz186_5;try clear hcz186_6;try clear hcz186_7;try clear hfz183_0;try clear hfz183_1;try clear hfz183_2;try clear hfz183_3;try clear hfz186_0;try clear hfz186_1;try clear hfz186_2;try clear hfz186_3;try clear hfz186_4;try clear hfz186_5;try clear hfz186_6;try clear hfz186_7
      obtain ⟨kq,x152_155,rfl,HA,HJ155,HO_9,K149,K150,K166,K167,K175,K194,HB⟩:=hcut
      cases kq with
      | zero => exact absurd HA.out (by simp [beaconlaw12_SessionAgrees.j4])
      | succ kj155 => ?_
      have H:=HA.out
      clear HA
      simp only [beaconlaw12_SessionAgrees.j4] at H
      by_cases c212 : x152_155 = true
      ·subst c212
       rw [if_pos rfl] at H
       exact absurd ((Option.some.inj H).trans HR_.out) (by decide)
      replace c212:=Bool.eq_false_iff.mpr c212
      subst c212
      rw [if_neg (show ¬ (false = true) by decide)] at H
      have H':=zA H
      clear H
      as_aux_lemma =>
       go_wp2
       go_meet
       case rel => exact ⟨_,(x9_2),(t188),(t189),(t190),(t191),(x151004_2),(x151005_2),(x151006_2),(x151007_2),H',⟨by have:=HK1.out;have:=HK2.out;have:=HJ85.out;have:=HJ88.out;have:=HJ155.out;first|omega|exact Nat.le_refl _⟩,⟨by (with_reducible repeat (first|apply Kd.R_alloc|apply Kd.R_drewN|apply Kd.R_drew));exact Kd.R_mono HO_9.out (fun _ hk => trivial)⟩,⟨z1 K149.1⟩,⟨z1 K150.1⟩,⟨z1 K166.1⟩,⟨z1 K167.1⟩,⟨zH HB⟩⟩
     exact absurd rfl c154
    rw [if_neg c110] at H
    exact absurd H (by simp)
   rw [if_neg c109] at H
   exact absurd H (by simp)
  replace c88:=Bool.eq_false_iff.mpr c88
  subst c88
  rw [if_neg (show ¬ (false = true) by decide)] at H
  by_cases c272 : ((rd_T33 l1 x10_2).f1) = 3
  ·rw [if_pos c272] at H
   have c272b0 : (((rd_T33 l1 x10_2).f1) == 3) = true:=beq_iff_eq.mpr c272
   have c272b1 : (((rd_T33 l1 x10_2).f1) != 3) = false:=bne_eq_false_iff_eq.mpr c272
   clear c272
   by_cases c273 : (0 : Int) = 0
   ·first|rw [if_pos c273] at H|rw [if_pos trivial] at H
    replace H:=Option.bind_eq_some_iff.mp H
    obtain ⟨⟨t202,t203,t204,t205,t206⟩,A2740,H⟩:=H
    (try dsimp only at H)
    have A274:=zA A2740
    clear A2740
    have H':=zA H
    clear H
    as_aux_lemma =>
     try go_wp2
     replace HO_9:=zA (Kd.R_drew HO_9.out)
     replace K149:=zA (bD K149.1)
     replace K150:=zA (bD K150.1)
     replace K166:=zA (bD K166.1)
     replace K167:=zA (bD K167.1)
     replace HB:=zA (bw1 HB.1)
     refine start_ (n:=12) (S:=fun w' => w'.cell? ⟨G150,0,none⟩ = some (.int .u64 x151000_2) ∧ w'.cell? ⟨G150,1,none⟩ = some (.int .u64 x151001_2) ∧ w'.cell? ⟨G150,2,none⟩ = some (.bool x151002_2) ∧ w'.cell? ⟨G150,3,none⟩ = some (.int .i64 x151003_2) ∧ w'.cell? ⟨G150,4,none⟩ = some (.int .u64 x151004_2) ∧ w'.cell? ⟨G150,5,none⟩ = some (.int .u64 x151005_2) ∧ w'.cell? ⟨G150,6,none⟩ = some (.bool x151006_2) ∧ w'.cell? ⟨G150,7,none⟩ = some (.int .i64 x151007_2) ∧ w'.cell? ⟨G166,0,none⟩ = some (.int .i64 ((rd_T33 l1 x10_2).f0)) ∧ w'.cell? ⟨G166,1,none⟩ = some (.int .i64 ((rd_T33 l1 x10_2).f1)) ∧ w'.cell? ⟨G166,2,none⟩ = some (.int .i64 ((rd_T33 l1 x10_2).f2)) ∧ w'.cell? ⟨G166,3,none⟩ = some (.int .i64 ((rd_T33 l1 x10_2).f3))) (ds:=[11]) #[F,F,F,F,F,F,F,F,F,F,F,F] (by kernel_rfl) rfl rfl ⟨zk K150 0,zk K150 1,zk K150 2,zk K150 3,zk K150 4,zk K150 5,zk K150 6,zk K150 7,zk K166 0,zk K166 1,zk K166 2,zk K166 3⟩ (fun hHeld => ?_);refine with_tabW beaconlaw12_SessionAgrees.tab31 beaconlaw12_SessionAgrees.bits31 (fun HT_ HW_ => ?_)
     generalize wc.drew = w275 at HO_9 K149 K150 K166 K167 HB hHeld ⊢
     refine pz 0 156 #[T,F,F,F,F,F,F,F,F,F,F,F] HT_.1 ?_
     refine pz 1 157 #[T,T,F,F,F,F,F,F,F,F,F,F] HT_.1 ?_
     refine pz 2 158 #[T,T,T,F,F,F,F,F,F,F,F,F] HT_.1 ?_
     refine pz 4 160 #[T,T,T,F,T,F,F,F,F,F,F,F] HT_.1 ?_
     refine tz 3 159 #[T,T,T,T,T,F,F,F,F,F,F,F] HT_.1 HW_.1 hHeld ?_
     refine tz 5 161 #[T,T,T,T,T,T,F,F,F,F,F,F] HT_.1 HW_.1 hHeld ?_
     refine one_ (i:=6) (N:=some 162) #[T,T,T,T,T,T,T,F,F,F,F,F] rfl rfl (one_of HT_.out (by kernel_rfl)) (by decide) (fun K hK => ?_)
     refine zo_ Try.func11 #[.agg #[.int .u64 x151000_2,.int .u64 x151001_2,.bool x151002_2,.int .i64 x151003_2],.int .i64 ((rd_T33 l1 x10_2).f3)] ?_
     with_reducible refine (session_Tick.calls kj85 x151000_2 x151001_2 x151002_2 x151003_2 ((rd_T33 l1 x10_2).f3) t202 t203 t204 t205 t206 _ A274.out).mono ?_
     rintro e w276 ⟨rfl,hb⟩
     refine ⟨_,rfl,?_⟩
     replace HO_9:=zRb HO_9 hb
     replace K149:=zB K149 hb
     replace K150:=zB K150 hb
     replace K166:=zB K166 hb
     replace K167:=zB K167 hb
     replace HB:=zS HB hb
     (try clear hb)
     (try clear hb2)
     (try clear hk)
     (try clear hi)
     refine hK.out _ _ ⟨zk K150 0,zk K150 1,zk K150 2,zk K150 3,zk K150 4,zk K150 5,zk K150 6,zk K150 7,zk K166 0,zk K166 1,zk K166 2,zk K166 3⟩ (fun hHeld => ?_)
     clear hK K
     refine nz 162 ?_
     refine pz 7 155 #[T,T,T,T,T,T,T,T,F,F,F,F] HT_.1 ?_
     refine pz 8 163 #[T,T,T,T,T,T,T,T,T,F,F,F] HT_.1 ?_
     refine pz 9 164 #[T,T,T,T,T,T,T,T,T,T,F,F] HT_.1 ?_
     refine pz 10 165 #[T,T,T,T,T,T,T,T,T,T,T,F] HT_.1 ?_
     refine last_ (i:=11) (N:=none) #[T,T,T,T,T,T,T,T,T,T,T,T] rfl rfl (one_of HT_.out (by kernel_rfl)) (by decide) (fun K hK => ?_)
     have hs277 : w276.cell? ⟨G150,0,none⟩ = some (.int .u64 x151000_2):=zk K150 0
     have hfs277:=bF K150.1 0
     have:=NB149_150.1
     have:=NB166_150.1
     have:=NB167_150.1
     have:=NB150_149.1
     have:=NB150_166.1
     have:=NB150_167.1
     have hs278 : w276.cell? ⟨G150,1,none⟩ = some (.int .u64 x151001_2):=zk K150 1
     have hfs278:=bF K150.1 1
     have hs279 : w276.cell? ⟨G150,2,none⟩ = some (.bool x151002_2):=zk K150 2
     have hfs279:=bF K150.1 2
     have hs280 : w276.cell? ⟨G150,3,none⟩ = some (.int .i64 x151003_2):=zk K150 3
     have hfs280:=bF K150.1 3
     refine sz ?_
     refine hK.out _ _ ?_
     clear hK K
     refine done_ (done_of HT_.out (by kernel_rfl)) ?_
     try go_wp2
     go_meet
     case rel => exact ⟨_,(x9_2),(t202),(t203),(t204),(t205),(x151004_2),(x151005_2),(x151006_2),(x151007_2),H',⟨by have:=HK1.out;have:=HK2.out;have:=HJ85.out;first|omega|exact Nat.le_refl _⟩,⟨zRf HO_9 K150 (fun _ hk => trivial)⟩,⟨zf K149⟩,⟨zF K150⟩,⟨zf K166⟩,⟨zf K167⟩,⟨zH HB⟩⟩
   exact absurd rfl c273
  rw [if_neg c272] at H
  have c272b0 : (((rd_T33 l1 x10_2).f1) == 3) = false:=beq_eq_false_iff_ne.mpr c272
  have c272b1 : (((rd_T33 l1 x10_2).f1) != 3) = true:=bne_iff_ne.mpr c272
  by_cases c289 : ((rd_T33 l1 x10_2).f1) = 4
  ·rw [if_pos c289] at H
   have c289b0 : (((rd_T33 l1 x10_2).f1) == 4) = true:=beq_iff_eq.mpr c289
   have c289b1 : (((rd_T33 l1 x10_2).f1) != 4) = false:=bne_eq_false_iff_eq.mpr c289
   clear c289
   by_cases c290 : (0 : Int) = 0
   ·first|rw [if_pos c290] at H|rw [if_pos trivial] at H
    replace H:=Option.bind_eq_some_iff.mp H
    obtain ⟨⟨t212,t213,t214,t215⟩,A2910,H⟩:=H
    (try dsimp only at H)
    have A291:=zA A2910
    clear A2910
    have H':=zA H
    clear H
    have:=NB150_149.1
    have:=NB149_150.1
    have:=NB150_166.1
    have:=NB166_150.1
    have:=NB150_167.1
    have:=NB167_150.1
    obtain ⟨hcz295_0,hcz295_1,hcz295_2,hcz295_3,hcz295_4,hcz295_5,hcz295_6,hcz295_7,hfz295_0,hfz295_1,hfz295_2,hfz295_3,hfz295_4,hfz295_5,hfz295_6,hfz295_7⟩:=zc8 K150
    as_aux_lemma =>
     go_wp2_with (first|((with_reducible refine gate_callee (f:=12) rfl ?_);refine zg (some 172) Try.func12 #[.agg #[.int .u64 x151000_2,.int .u64 x151001_2,.bool x151002_2,.int .i64 x151003_2]] ?_;(with_reducible refine (session_Down.calls x151000_2 x151001_2 x151002_2 x151003_2 t212 t213 t214 t215 _ A291.out).mono ?_);rintro e w296 ⟨rfl,hb⟩;refine ⟨_,rfl,?_⟩;replace HO_9:=zRb HO_9 hb;replace K149:=zB K149 hb;replace K150:=zB K150 hb;replace K166:=zB K166 hb;replace K167:=zB K167 hb;replace HB:=zS HB hb;(try clear hb);obtain ⟨hcz297_0,hcz297_1,hcz297_2,hcz297_3,hcz297_4,hcz297_5,hcz297_6,hcz297_7,hfz297_0,hfz297_1,hfz297_2,hfz297_3,hfz297_4,hfz297_5,hfz297_6,hfz297_7⟩:=zc8 K150)|((with_reducible refine gate_store (t:=26) (p:=173) rfl ?_);refine store_event (t:=26) (p:=173) (v:=?vo_w298) (w1:=((((w296.setCell ⟨G150,0,none⟩ (.int .u64 t212)).setCell ⟨G150,1,none⟩ (.int .u64 t213)).setCell ⟨G150,2,none⟩ (.bool t214)).setCell ⟨G150,3,none⟩ (.int .i64 t215))) ?hg ?ho ?hn ?hr ?_;(case ho => rfl);(case hg => rfl);(case hn => rfl);(case hr => first|(go_simp;done)|(go_simp;rfl));intro w298 hw;replace HO_9 : Aside0 (Kd.R k50 50 w298 w.heap.size (fun _ => True) u9 x9_2):=⟨(by rw [hw];exact (zRf HO_9 K150 (fun _ hk => trivial)))⟩;replace K149:=zV hw K149;replace K150:=zVp hw (.cells #[.int .u64 t212,.int .u64 t213,.bool t214,.int .i64 t215,.int .u64 x151004_2,.int .u64 x151005_2,.bool x151006_2,.int .i64 x151007_2] 27 (0,0)) K150;replace K166:=zV hw K166;replace K167:=zV hw K167;replace HB:=zU hw HB;clear hw))
     go_meet
     case rel => exact ⟨_,(x9_2),(t212),(t213),(t214),(t215),(x151004_2),(x151005_2),(x151006_2),(x151007_2),H',⟨by have:=HK1.out;have:=HK2.out;have:=HJ85.out;first|omega|exact Nat.le_refl _⟩,⟨zR HO_9⟩,⟨z1 K149.1⟩,⟨z1 K150.1⟩,⟨z1 K166.1⟩,⟨z1 K167.1⟩,⟨zH HB⟩⟩
   exact absurd rfl c290
  rw [if_neg c289] at H
  have c289b0 : (((rd_T33 l1 x10_2).f1) == 4) = false:=beq_eq_false_iff_ne.mpr c289
  have c289b1 : (((rd_T33 l1 x10_2).f1) != 4) = true:=bne_iff_ne.mpr c289
  have H':=zA H
  clear H
  as_aux_lemma =>
   go_wp2
   go_meet
   case rel => exact ⟨_,(x9_2),(x151000_2),(x151001_2),(x151002_2),(x151003_2),(x151004_2),(x151005_2),(x151006_2),(x151007_2),H',⟨by have:=HK1.out;have:=HK2.out;have:=HJ85.out;first|omega|exact Nat.le_refl _⟩,⟨zR HO_9⟩,⟨z1 K149.1⟩,⟨z1 K150.1⟩,⟨z1 K166.1⟩,⟨z1 K167.1⟩,⟨zH HB⟩⟩
 clear HC61
 try clear c1
 obtain ⟨kq,x9_60,x151000_60,x151001_60,x151002_60,x151003_60,x151004_60,x151005_60,x151006_60,x151007_60,HA,HJ60,HO_9,K149,K150,K166,K167,HB⟩:=hcut
 cases kq with
 | zero => exact absurd HA.out (by simp [beaconlaw12_SessionAgrees.j6])
 | succ kj60 => ?_
 have H:=HA.out
 clear HA
 simp only [beaconlaw12_SessionAgrees.j6] at H
 by_cases c308 : (0 : Int) = 0
 ·first|rw [if_pos c308] at H|rw [if_pos trivial] at H
  have HC309:=zA H
  clear H
  have:=NB150_149.1
  have:=NB149_150.1
  have:=NB150_166.1
  have:=NB166_150.1
  have:=NB150_167.1
  have:=NB167_150.1
  obtain ⟨hcz313_0,hcz313_1,hcz313_2,hcz313_3,hcz313_4,hcz313_5,hcz313_6,hcz313_7,hfz313_0,hfz313_1,hfz313_2,hfz313_3,hfz313_4,hfz313_5,hfz313_6,hfz313_7⟩:=zc8 K150
  go_upto_region 35 with (first|((with_reducible refine gate_dst (N:=20) rfl ?_);(try (refine gate_guard (by rfl) ?_;dsimp only));refine zb (N:=20) (cs:=#[.int .u64 0,.int .u64 0,.bool false,.int .i64 0]) (t:=26) ?_;intro G220 hg w314 hbox hb;replace HO_9:=zRb HO_9 hb;have K220:=zA (hbox);have GW220:=zN HB hg;have GE220:=zN HB hg;replace HB:=zS HB hb;have NB149_220:=zL K149 hg;have NB220_149:=zG K149 hg;replace K149:=zB K149 hb;have NB150_220:=zL K150 hg;have NB220_150:=zG K150 hg;replace K150:=zB K150 hb;have NB166_220:=zL K166 hg;have NB220_166:=zG K166 hg;replace K166:=zB K166 hb;have NB167_220:=zL K167 hg;have NB220_167:=zG K167 hg;replace K167:=zB K167 hb;clear hb hbox hg;have:=NB220_149.1;have:=NB149_220.1;have:=NB220_150.1;have:=NB150_220.1;have:=NB220_166.1;have:=NB166_220.1;have:=NB220_167.1;have:=NB167_220.1;obtain ⟨hcz319_0,hcz319_1,hcz319_2,hcz319_3,hfz319_0,hfz319_1,hfz319_2,hfz319_3⟩:=zc4 K220)|((with_reducible refine gate_store (t:=26) (p:=20) rfl ?_);refine store_event (t:=26) (p:=20) (v:=?vo_w320) (w1:=((((w314.setCell ⟨G220,0,none⟩ (.int .u64 x151000_60)).setCell ⟨G220,1,none⟩ (.int .u64 x151001_60)).setCell ⟨G220,2,none⟩ (.bool x151002_60)).setCell ⟨G220,3,none⟩ (.int .i64 x151003_60))) ?hg ?ho ?hn ?hr ?_;(case ho => rfl);(case hg => rfl);(case hn => rfl);(case hr => first|(go_simp;done)|(go_simp;rfl));intro w320 hw;replace HO_9 : Aside0 (Kd.R k50 50 w320 w.heap.size (fun _ => True) u9 x9_60):=⟨(by rw [hw];exact (zRf HO_9 K220 (fun _ hk => trivial)))⟩;replace K149:=zV hw K149;replace K150:=zV hw K150;replace K166:=zV hw K166;replace K167:=zV hw K167;replace K220:=zVp hw (.cells #[.int .u64 x151000_60,.int .u64 x151001_60,.bool x151002_60,.int .i64 x151003_60] 26 (0,0)) K220;replace HB:=zU hw HB;clear hw))
  (try simp only [Act.put,xA,xB,xC])
  go_cut [204] (fun v204 wc => ∃ (kq : Nat) (x204_308 : Bool),v204 = .bool x204_308 ∧ Aside0 (beaconlaw12_SessionAgrees.j7 kq l1 x9_60 x10_2 x204_308 x151000_60 x151001_60 x151002_60 x151003_60 x151004_60 x151005_60 x151006_60 x151007_60 = some r) ∧ Aside0 (kq ≤ kj60) ∧ Aside0 (Kd.R k50 50 wc w.heap.size (fun _ => True) u9 x9_60) ∧ Aside0 (wc.heap[G149]? = some (.cells #[.int .u64 a0_0,.int .u64 a0_1] 23 (0,0))) ∧ Aside0 (wc.heap[G150]? = some (.cells #[.int .u64 x151000_60,.int .u64 x151001_60,.bool x151002_60,.int .i64 x151003_60,.int .u64 x151004_60,.int .u64 x151005_60,.bool x151006_60,.int .i64 x151007_60] 27 (0,0))) ∧ Aside0 (wc.heap[G166]? = some (.cells #[.int .i64 ((rd_T33 l1 x10_2).f0),.int .i64 ((rd_T33 l1 x10_2).f1),.int .i64 ((rd_T33 l1 x10_2).f2),.int .i64 ((rd_T33 l1 x10_2).f3)] 33 (0,0))) ∧ Aside0 (wc.heap[G167]? = some (.cells #[.int .u64 x151000_2,.int .u64 x151001_2,.bool x151002_2,.int .i64 x151003_2] 26 (0,0))) ∧ Aside0 (wc.heap[G220]? = some (.cells #[.int .u64 x151000_60,.int .u64 x151001_60,.bool x151002_60,.int .i64 x151003_60] 26 (0,0))) ∧ Aside0 (Below w.heap.size w wc))
  case first =>
   have H:=HC309.out
   clear HC309
   by_cases c321 : x151000_60 < x151000_2
   ·rw [if_pos c321] at H
    have c321b0 : decide (x151000_60 < x151000_2) = true:=decide_eq_true c321
    clear c321
    (first|rw [c321b0]|(simp only [i64_w,i32_w];rw [c321b0])|skip)
    have H':=zA H
    clear H
    have:=NB220_149.1
    have:=NB149_220.1
    have:=NB220_150.1
    have:=NB150_220.1
    have:=NB220_166.1
    have:=NB166_220.1
    have:=NB220_167.1
    have:=NB167_220.1
    obtain ⟨hcz326_0,hcz326_1,hcz326_2,hcz326_3,hfz326_0,hfz326_1,hfz326_2,hfz326_3⟩:=zc4 K220
    have:=NB167_149.1
    have:=NB149_167.1
    have:=NB167_166.1
    have:=NB166_167.1
    obtain ⟨hcz330_0,hcz330_1,hcz330_2,hcz330_3,hfz330_0,hfz330_1,hfz330_2,hfz330_3⟩:=zc4 K167
    as_aux_lemma =>
     go_wp2
     go_meet
     case rel => exact ⟨_,(true),ze,H',⟨by have:=HK1.out;have:=HK2.out;have:=HJ60.out;first|omega|exact Nat.le_refl _⟩,⟨zR HO_9⟩,⟨z1 K149.1⟩,⟨z1 K150.1⟩,⟨z1 K166.1⟩,⟨z1 K167.1⟩,⟨z1 K220.1⟩,⟨zH HB⟩⟩
   rw [if_neg c321] at H
   have c321b0 : decide (x151000_60 < x151000_2) = false:=decide_eq_false c321
   clear c321
   (first|rw [c321b0]|(simp only [i64_w,i32_w];rw [c321b0])|skip)
   by_cases c331 : x151001_60 < x151001_2
   ·rw [if_pos c331] at H
    have c331b0 : decide (x151001_60 < x151001_2) = true:=decide_eq_true c331
    clear c331
    by_cases c332 : x151001_60 = 0
    ·rw [if_pos c332] at H
     have c332b0 : (x151001_60 == 0) = true:=beq_iff_eq.mpr c332
     have c332b1 : (x151001_60 != 0) = false:=bne_eq_false_iff_eq.mpr c332
     clear c332
     by_cases c333 : x151002_60 = true
     ·subst c333
      rw [if_pos rfl] at H
      replace H:=Option.bind_eq_some_iff.mp H
      obtain ⟨t221,A3340,H⟩:=H
      (try dsimp only at H)
      have A334:=zA A3340
      clear A3340
      have H':=zA H
      clear H
      have:=NB220_149.1
      have:=NB149_220.1
      have:=NB220_150.1
      have:=NB150_220.1
      have:=NB220_166.1
      have:=NB166_220.1
      have:=NB220_167.1
      have:=NB167_220.1
      obtain ⟨hcz339_0,hcz339_1,hcz339_2,hcz339_3,hfz339_0,hfz339_1,hfz339_2,hfz339_3⟩:=zc4 K220
      have:=NB167_149.1
      have:=NB149_167.1
      have:=NB167_166.1
      have:=NB166_167.1
      obtain ⟨hcz343_0,hcz343_1,hcz343_2,hcz343_3,hfz343_0,hfz343_1,hfz343_2,hfz343_3⟩:=zc4 K167
      obtain ⟨Ao344,co344,eo344⟩:=Kd.R_slice HO_9.out
      subst eo344
      as_aux_lemma =>
       go_wp2_with (first|(go_at_call 21;(with_reducible refine (beaconlaw12_heard.calls kj60 _ _ x9_60 0 x151000_60 x151001_60 true x151003_60 t221 _ ?side1 ?side2 A334.out).mono ?_);(case side1 => exact zC ((Kd.R_reads' HO_9.out).2.2));(case side2 => exact (Kd.R_reads' HO_9.out).2.1);rintro e w345 ⟨rfl,hb⟩;replace HO_9:=zRb HO_9 hb;replace K149:=zB K149 hb;replace K150:=zB K150 hb;replace K166:=zB K166 hb;replace K167:=zB K167 hb;replace K220:=zB K220 hb;replace HB:=zS HB hb;(try clear hb)))
       go_meet
       case rel => exact ⟨_,(!t221),ze,H',⟨by have:=HK1.out;have:=HK2.out;have:=HJ60.out;first|omega|exact Nat.le_refl _⟩,⟨zR HO_9⟩,⟨z1 K149.1⟩,⟨z1 K150.1⟩,⟨z1 K166.1⟩,⟨z1 K167.1⟩,⟨z1 K220.1⟩,⟨zH HB⟩⟩
     replace c333:=Bool.eq_false_iff.mpr c333
     subst c333
     rw [if_neg (show ¬ (false = true) by decide)] at H
     have H':=zA H
     clear H
     have:=NB220_149.1
     have:=NB149_220.1
     have:=NB220_150.1
     have:=NB150_220.1
     have:=NB220_166.1
     have:=NB166_220.1
     have:=NB220_167.1
     have:=NB167_220.1
     obtain ⟨hcz350_0,hcz350_1,hcz350_2,hcz350_3,hfz350_0,hfz350_1,hfz350_2,hfz350_3⟩:=zc4 K220
     have:=NB167_149.1
     have:=NB149_167.1
     have:=NB167_166.1
     have:=NB166_167.1
     obtain ⟨hcz354_0,hcz354_1,hcz354_2,hcz354_3,hfz354_0,hfz354_1,hfz354_2,hfz354_3⟩:=zc4 K167
     as_aux_lemma =>
      go_wp2
      go_meet
      case rel => exact ⟨_,(false),ze,H',⟨by have:=HK1.out;have:=HK2.out;have:=HJ60.out;first|omega|exact Nat.le_refl _⟩,⟨zR HO_9⟩,⟨z1 K149.1⟩,⟨z1 K150.1⟩,⟨z1 K166.1⟩,⟨z1 K167.1⟩,⟨z1 K220.1⟩,⟨zH HB⟩⟩
    rw [if_neg c332] at H
    have c332b0 : (x151001_60 == 0) = false:=beq_eq_false_iff_ne.mpr c332
    have c332b1 : (x151001_60 != 0) = true:=bne_iff_ne.mpr c332
    have H':=zA H
    clear H
    have:=NB220_149.1
    have:=NB149_220.1
    have:=NB220_150.1
    have:=NB150_220.1
    have:=NB220_166.1
    have:=NB166_220.1
    have:=NB220_167.1
    have:=NB167_220.1
    obtain ⟨hcz359_0,hcz359_1,hcz359_2,hcz359_3,hfz359_0,hfz359_1,hfz359_2,hfz359_3⟩:=zc4 K220
    have:=NB167_149.1
    have:=NB149_167.1
    have:=NB167_166.1
    have:=NB166_167.1
    obtain ⟨hcz363_0,hcz363_1,hcz363_2,hcz363_3,hfz363_0,hfz363_1,hfz363_2,hfz363_3⟩:=zc4 K167
    as_aux_lemma =>
     go_wp2
     go_meet
     case rel => exact ⟨_,(true),ze,H',⟨by have:=HK1.out;have:=HK2.out;have:=HJ60.out;first|omega|exact Nat.le_refl _⟩,⟨zR HO_9⟩,⟨z1 K149.1⟩,⟨z1 K150.1⟩,⟨z1 K166.1⟩,⟨z1 K167.1⟩,⟨z1 K220.1⟩,⟨zH HB⟩⟩
   rw [if_neg c331] at H
   have c331b0 : decide (x151001_60 < x151001_2) = false:=decide_eq_false c331
   clear c331
   by_cases c364 : x151002_60 = true
   ·subst c364
    rw [if_pos rfl] at H
    replace H:=Option.bind_eq_some_iff.mp H
    obtain ⟨t222,A3650,H⟩:=H
    (try dsimp only at H)
    have A365:=zA A3650
    clear A3650
    have H':=zA H
    clear H
    have:=NB220_149.1
    have:=NB149_220.1
    have:=NB220_150.1
    have:=NB150_220.1
    have:=NB220_166.1
    have:=NB166_220.1
    have:=NB220_167.1
    have:=NB167_220.1
    obtain ⟨hcz370_0,hcz370_1,hcz370_2,hcz370_3,hfz370_0,hfz370_1,hfz370_2,hfz370_3⟩:=zc4 K220
    have:=NB167_149.1
    have:=NB149_167.1
    have:=NB167_166.1
    have:=NB166_167.1
    obtain ⟨hcz374_0,hcz374_1,hcz374_2,hcz374_3,hfz374_0,hfz374_1,hfz374_2,hfz374_3⟩:=zc4 K167
    obtain ⟨Ao375,co375,eo375⟩:=Kd.R_slice HO_9.out
    subst eo375
    as_aux_lemma =>
     go_wp2_with (first|(go_at_call 21;(with_reducible refine (beaconlaw12_heard.calls kj60 _ _ x9_60 0 x151000_60 x151001_60 true x151003_60 t222 _ ?side1 ?side2 A365.out).mono ?_);(case side1 => exact zC ((Kd.R_reads' HO_9.out).2.2));(case side2 => exact (Kd.R_reads' HO_9.out).2.1);rintro e w376 ⟨rfl,hb⟩;replace HO_9:=zRb HO_9 hb;replace K149:=zB K149 hb;replace K150:=zB K150 hb;replace K166:=zB K166 hb;replace K167:=zB K167 hb;replace K220:=zB K220 hb;replace HB:=zS HB hb;(try clear hb)))
     go_meet
     case rel => exact ⟨_,(!t222),ze,H',⟨by have:=HK1.out;have:=HK2.out;have:=HJ60.out;first|omega|exact Nat.le_refl _⟩,⟨zR HO_9⟩,⟨z1 K149.1⟩,⟨z1 K150.1⟩,⟨z1 K166.1⟩,⟨z1 K167.1⟩,⟨z1 K220.1⟩,⟨zH HB⟩⟩
   replace c364:=Bool.eq_false_iff.mpr c364
   subst c364
   rw [if_neg (show ¬ (false = true) by decide)] at H
   have H':=zA H
   clear H
   have:=NB220_149.1
   have:=NB149_220.1
   have:=NB220_150.1
   have:=NB150_220.1
   have:=NB220_166.1
   have:=NB166_220.1
   have:=NB220_167.1
   have:=NB167_220.1
   obtain ⟨hcz381_0,hcz381_1,hcz381_2,hcz381_3,hfz381_0,hfz381_1,hfz381_2,hfz381_3⟩:=zc4 K220
   have:=NB167_149.1
   have:=NB149_167.1
   have:=NB167_166.1
   have:=NB166_167.1
   obtain ⟨hcz385_0,hcz385_1,hcz385_2,hcz385_3,hfz385_0,hfz385_1,hfz385_2,hfz385_3⟩:=zc4 K167
   as_aux_lemma =>
    go_wp2
    go_meet
    case rel => exact ⟨_,(false),ze,H',⟨by have:=HK1.out;have:=HK2.out;have:=HJ60.out;first|omega|exact Nat.le_refl _⟩,⟨zR HO_9⟩,⟨z1 K149.1⟩,⟨z1 K150.1⟩,⟨z1 K166.1⟩,⟨z1 K167.1⟩,⟨z1 K220.1⟩,⟨zH HB⟩⟩
  clear HC309
  try clear c1;try clear c308;try clear hcz313_0;try clear hcz313_1;try clear hcz313_2;try clear hcz313_3;try clear hcz313_4;try clear hcz313_5;try clear hcz313_6;try clear hcz313_7;try clear hcz319_0;try clear hcz319_1;try clear hcz319_2;try clear hcz319_3;try clear hfz313_0;try clear hfz313_1;try clear hfz313_2;try clear hfz313_3;try clear hfz313_4;try clear hfz313_5;try clear hfz313_6;try clear hfz313_7;try clear hfz319_0;try clear hfz319_1;try clear hfz319_2;try clear hfz319_3
  obtain ⟨kq,x204_308,rfl,HA,HJ308,HO_9,K149,K150,K166,K167,K220,HB⟩:=hcut
  cases kq with
  | zero => exact absurd HA.out (by simp [beaconlaw12_SessionAgrees.j7])
  | succ kj308 => ?_
  have H:=HA.out
  clear HA
  simp only [beaconlaw12_SessionAgrees.j7] at H
  by_cases c386 : x204_308 = true
  ·subst c386
   rw [if_pos rfl] at H
   exact absurd ((Option.some.inj H).trans HR_.out) (by decide)
  replace c386:=Bool.eq_false_iff.mpr c386
  subst c386
  rw [if_neg (show ¬ (false = true) by decide)] at H
  have H':=zA H
  clear H
  as_aux_lemma =>
   go_wp2
   go_roundg kj308
   case measure => have:=HK1.out;have:=HK2.out;have:=HJ60.out;have:=HJ308.out;omega
   case rel => exact ⟨(x9_60),(wrap64 (x10_2 + 1)),(x151000_60),(x151001_60),(x151002_60),(x151003_60),(x151004_60),(x151005_60),(x151006_60),(x151007_60),ze,H',⟨by have:=HK1.out;have:=HK2.out;have:=HJ60.out;have:=HJ308.out;omega⟩,⟨zR HO_9⟩,⟨z1 K149.1⟩,⟨z1 K150.1⟩,⟨zH HB⟩⟩
 exact absurd rfl c308
end Go.Proofs.Ytjodekffbobmlaa.XA

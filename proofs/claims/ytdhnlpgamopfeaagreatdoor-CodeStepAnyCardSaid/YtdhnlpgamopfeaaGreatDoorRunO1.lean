/- A run under the evaluator, part 1: no statement of its own. -/
import Derived.Test.YtdhnlpgamopfeaaGreatDoorVm6
import Derived.Test.YtdhnlpgamopfeaaGreatDoorProg
import Derived.KernelRfl
set_option autoImplicit false
set_option maxRecDepth 100000
set_option linter.unusedSectionVars false
set_option linter.unusedVariables false
set_option linter.unusedSimpArgs false
set_option linter.unusedVariables false
open Go Go.Vm Go.Proofs
namespace Cs
variable [Gl]
theorem mix : Tryz.prog.follows .mixedOrders = true := by kernel_rfl
@[go_sem] theorem nt3 : Tryz.f3.ntmps = 115 := (rfl)
@[go_sem] theorem fa25_1 (x : V) : opFieldAddr Tryz.prog 25 x 1 = addrAdd 1 x := by kernel_rfl
theorem isAgg22 : isAggT Tryz.prog 22 = some false := by kernel_rfl
@[go_sem] theorem ld22 (a : V) (S : St) : opLoad Tryz.prog 22 a S = hd1 (cellsAt S a) := load_cell isAgg22 a S
@[go_sem] theorem len22 {call : CallF} {t : Tm} {S : St} {d : Option Nat} {ty : TypeId} {pos : String} {af : Array Edge} {g : Option (Nat × Bool)} {x : Operand} : evOp Tryz.prog call ⟨d, .call ⟨.builtin .len, #[x], #[22]⟩, ty, pos, af, g⟩ t S = lenR (lenOf (opd t x)) S := e_lenSl Tryz.underlying22
@[go_sem] theorem fa25_2 (x : V) : opFieldAddr Tryz.prog 25 x 2 = addrAdd 2 x := by kernel_rfl
theorem isAgg23 : isAggT Tryz.prog 23 = some false := by kernel_rfl
@[go_sem] theorem ld23 (a : V) (S : St) : opLoad Tryz.prog 23 a S = hd1 (cellsAt S a) := load_cell isAgg23 a S
@[go_sem] theorem len23 {call : CallF} {t : Tm} {S : St} {d : Option Nat} {ty : TypeId} {pos : String} {af : Array Edge} {g : Option (Nat × Bool)} {x : Operand} : evOp Tryz.prog call ⟨d, .call ⟨.builtin .len, #[x], #[23]⟩, ty, pos, af, g⟩ t S = lenR (lenOf (opd t x)) S := e_lenSl Tryz.underlying23
@[go_sem] theorem sz29 : szT Tryz.prog 29 = some 2 := by kernel_rfl
@[go_sem] theorem ia22 (x i : V) : opIndexAddr Tryz.prog 22 x i = idxAddr 2 x i := indexAddr_eq Tryz.underlying22 sz29 x i
@[go_sem] theorem fa29_0 (x : V) : opFieldAddr Tryz.prog 29 x 0 = addrAdd 0 x := by kernel_rfl
theorem isAgg27 : isAggT Tryz.prog 27 = some false := by kernel_rfl
@[go_sem] theorem ld27 (a : V) (S : St) : opLoad Tryz.prog 27 a S = hd1 (cellsAt S a) := load_cell isAgg27 a S
@[go_sem] theorem len27 {call : CallF} {t : Tm} {S : St} {d : Option Nat} {ty : TypeId} {pos : String} {af : Array Edge} {g : Option (Nat × Bool)} {x : Operand} : evOp Tryz.prog call ⟨d, .call ⟨.builtin .len, #[x], #[27]⟩, ty, pos, af, g⟩ t S = lenR (lenOf (opd t x)) S := e_lenSl Tryz.underlying27
@[go_sem] theorem zero43 : zeroOf Tryz.prog 43 = some [.int .u8 0, .int .u8 0, .int .u8 0, .str [], .nils, .bool false, .nils, .int .i64 0, .int .i64 0, .bool false, .int .u8 0, .str [], .nils, .bool false, .nils, .int .i64 0, .int .i64 0, .bool false, .int .i64 0, .int .i64 0, .int .i64 0, .nils, .nils, .nils, .str [], .str [], .nils] := by kernel_rfl
@[go_sem] theorem pl43 : placesOf Tryz.prog 43 = some (plL [(0, 1), (1, 1), (2, 8), (10, 8), (18, 1), (19, 1), (20, 1), (21, 1), (22, 1), (23, 1), (24, 1), (25, 1), (26, 1)]) := by kernel_rfl
@[go_sem] theorem sz43 : szT Tryz.prog 43 = some 27 := by kernel_rfl
@[go_sem] theorem bs44 {call : CallF} {t : Tm} {S : St} {d : Option Nat} {ty : TypeId} {pos : String} {af : Array Edge} {g : Option (Nat × Bool)} {m : Nat} {ps : Array (Nat × Operand)} : evOp Tryz.prog call ⟨d, .buildSlice 44 m ps, ty, pos, af, g⟩ t S = buildS (zeroOf Tryz.prog 43) (szT Tryz.prog 43) m t ps.toList S := e_buildSlice Tryz.underlying44
theorem isAgg25 : isAggT Tryz.prog 25 = some true := by kernel_rfl
theorem cells25 : Tryz.prog.cellsOf 25 = 3 := by kernel_rfl
@[go_sem] theorem ld25 (a : V) (S : St) : opLoad Tryz.prog 25 a S = takeN 3 (cellsAt S a) := load_agg isAgg25 cells25 a S
@[go_sem] theorem zero52 : zeroOf Tryz.prog 52 = some [.nils, .nils, .nils, .nils] := by kernel_rfl
@[go_sem] theorem pl52 : placesOf Tryz.prog 52 = some (plL [(0, 1), (1, 1), (2, 1), (3, 1)]) := by kernel_rfl
@[go_sem] theorem zero55 : zeroOf Tryz.prog 55 = some [.int .i64 0, .nils] := by kernel_rfl
@[go_sem] theorem pl55 : placesOf Tryz.prog 55 = some (plL [(0, 1), (1, 1)]) := by kernel_rfl
@[go_sem] theorem zero30 : zeroOf Tryz.prog 30 = some [.int .i64 0, .nils, .nils] := by kernel_rfl
@[go_sem] theorem zero35 : zeroOf Tryz.prog 35 = some [.int .u8 0, .int .i64 0, .nils, .nils, .bool false, .nils, .nils, .str [], .str [], .nils] := by kernel_rfl
theorem cells30 : Tryz.prog.cellsOf 30 = 3 := by kernel_rfl
theorem isAgg30 : isAggT Tryz.prog 30 = some true := by kernel_rfl
@[go_sem] theorem st30 (a x : V) (S : St) : opStore Tryz.prog 30 a x S = stA 3 a x S := store_agg isAgg30 cells30 a x S
theorem cells35 : Tryz.prog.cellsOf 35 = 10 := by kernel_rfl
theorem isAgg35 : isAggT Tryz.prog 35 = some true := by kernel_rfl
@[go_sem] theorem st35 (a x : V) (S : St) : opStore Tryz.prog 35 a x S = stA 10 a x S := store_agg isAgg35 cells35 a x S
@[go_sem] theorem zero62 : zeroOf Tryz.prog 62 = some [.int .u8 0, .int .u8 0, .int .u8 0, .str [], .nils, .bool false, .nils, .int .i64 0, .int .i64 0, .bool false, .int .u8 0, .str [], .nils, .bool false, .nils, .int .i64 0, .int .i64 0, .bool false, .int .i64 0, .int .i64 0, .int .i64 0, .nils, .nils, .nils, .str [], .str [], .nils] := by kernel_rfl
@[go_sem] theorem pl62 : placesOf Tryz.prog 62 = some (plL [(0, 1), (1, 1), (2, 8), (10, 8), (18, 1), (19, 1), (20, 1), (21, 1), (22, 1), (23, 1), (24, 1), (25, 1), (26, 1)]) := by kernel_rfl
@[go_sem] theorem sz62 : szT Tryz.prog 62 = some 27 := by kernel_rfl
@[go_sem] theorem bs63 {call : CallF} {t : Tm} {S : St} {d : Option Nat} {ty : TypeId} {pos : String} {af : Array Edge} {g : Option (Nat × Bool)} {m : Nat} {ps : Array (Nat × Operand)} : evOp Tryz.prog call ⟨d, .buildSlice 63 m ps, ty, pos, af, g⟩ t S = buildS (zeroOf Tryz.prog 62) (szT Tryz.prog 62) m t ps.toList S := e_buildSlice Tryz.underlying63
@[go_sem] theorem zero56 : zeroOf Tryz.prog 56 = some [.int .i64 0, .nils, .nils] := by kernel_rfl
@[go_sem] theorem pl56 : placesOf Tryz.prog 56 = some (plL [(0, 1), (1, 1), (2, 1)]) := by kernel_rfl
@[go_sem] theorem zero64 : zeroOf Tryz.prog 64 = some [.int .i64 0, .nils] := by kernel_rfl
@[go_sem] theorem pl64 : placesOf Tryz.prog 64 = some (plL [(0, 1), (1, 1)]) := by kernel_rfl
@[go_sem] theorem zero59 : zeroOf Tryz.prog 59 = some [.int .u8 0, .int .i64 0, .nils, .nils, .bool false, .nils, .nils, .str [], .str [], .nils] := by kernel_rfl
theorem cells56 : Tryz.prog.cellsOf 56 = 3 := by kernel_rfl
theorem isAgg56 : isAggT Tryz.prog 56 = some true := by kernel_rfl
@[go_sem] theorem st56 (a x : V) (S : St) : opStore Tryz.prog 56 a x S = stA 3 a x S := store_agg isAgg56 cells56 a x S
theorem cells59 : Tryz.prog.cellsOf 59 = 10 := by kernel_rfl
theorem isAgg59 : isAggT Tryz.prog 59 = some true := by kernel_rfl
@[go_sem] theorem st59 (a x : V) (S : St) : opStore Tryz.prog 59 a x S = stA 10 a x S := store_agg isAgg59 cells59 a x S
@[go_sem] theorem ld30 (a : V) (S : St) : opLoad Tryz.prog 30 a S = takeN 3 (cellsAt S a) := load_agg isAgg30 cells30 a S
@[go_sem] theorem ld56 (a : V) (S : St) : opLoad Tryz.prog 56 a S = takeN 3 (cellsAt S a) := load_agg isAgg56 cells56 a S
@[go_sem] theorem ld35 (a : V) (S : St) : opLoad Tryz.prog 35 a S = takeN 10 (cellsAt S a) := load_agg isAgg35 cells35 a S
@[go_sem] theorem ld59 (a : V) (S : St) : opLoad Tryz.prog 59 a S = takeN 10 (cellsAt S a) := load_agg isAgg59 cells59 a S
@[go_sem] theorem nt5 : Tryz.f5.ntmps = 84 := (rfl)
@[go_sem] theorem fa30_0 (x : V) : opFieldAddr Tryz.prog 30 x 0 = addrAdd 0 x := by kernel_rfl
theorem isAgg3 : isAggT Tryz.prog 3 = some false := by kernel_rfl
@[go_sem] theorem ld3 (a : V) (S : St) : opLoad Tryz.prog 3 a S = hd1 (cellsAt S a) := load_cell isAgg3 a S
@[go_sem] theorem len44 {call : CallF} {t : Tm} {S : St} {d : Option Nat} {ty : TypeId} {pos : String} {af : Array Edge} {g : Option (Nat × Bool)} {x : Operand} : evOp Tryz.prog call ⟨d, .call ⟨.builtin .len, #[x], #[44]⟩, ty, pos, af, g⟩ t S = lenR (lenOf (opd t x)) S := e_lenSl Tryz.underlying44
@[go_sem] theorem ia44 (x i : V) : opIndexAddr Tryz.prog 44 x i = idxAddr 27 x i := indexAddr_eq Tryz.underlying44 sz43 x i
@[go_sem] theorem fa43_6 (x : V) : opFieldAddr Tryz.prog 43 x 6 = addrAdd 20 x := by kernel_rfl
@[go_sem] theorem pl30 : placesOf Tryz.prog 30 = some (plL [(0, 1), (1, 1), (2, 1)]) := by kernel_rfl
@[go_sem] theorem pl35 : placesOf Tryz.prog 35 = some (plL [(0, 1), (1, 1), (2, 1), (3, 2), (5, 1), (6, 1), (7, 1), (8, 1), (9, 1)]) := by kernel_rfl
theorem isAgg43 : isAggT Tryz.prog 43 = some true := by kernel_rfl
theorem cells43 : Tryz.prog.cellsOf 43 = 27 := by kernel_rfl
@[go_sem] theorem ld43 (a : V) (S : St) : opLoad Tryz.prog 43 a S = takeN 27 (cellsAt S a) := load_agg isAgg43 cells43 a S
@[go_sem] theorem st43 (a x : V) (S : St) : opStore Tryz.prog 43 a x S = stA 27 a x S := store_agg isAgg43 cells43 a x S
@[go_sem] theorem fa43_0 (x : V) : opFieldAddr Tryz.prog 43 x 0 = addrAdd 0 x := by kernel_rfl
theorem isAgg5 : isAggT Tryz.prog 5 = some false := by kernel_rfl
@[go_sem] theorem ld5 (a : V) (S : St) : opLoad Tryz.prog 5 a S = hd1 (cellsAt S a) := load_cell isAgg5 a S
theorem isAgg52 : isAggT Tryz.prog 52 = some true := by kernel_rfl
theorem cells52 : Tryz.prog.cellsOf 52 = 4 := by kernel_rfl
@[go_sem] theorem ld52 (a : V) (S : St) : opLoad Tryz.prog 52 a S = takeN 4 (cellsAt S a) := load_agg isAgg52 cells52 a S
theorem isAgg55 : isAggT Tryz.prog 55 = some true := by kernel_rfl
theorem cells55 : Tryz.prog.cellsOf 55 = 2 := by kernel_rfl
@[go_sem] theorem ld55 (a : V) (S : St) : opLoad Tryz.prog 55 a S = takeN 2 (cellsAt S a) := load_agg isAgg55 cells55 a S
@[go_sem] theorem zero75 : zeroOf Tryz.prog 75 = some [.nils, .nils, .nils, .nils, .int .i64 0, .nils, .int .i64 0] := by kernel_rfl
@[go_sem] theorem pl75 : placesOf Tryz.prog 75 = some (plL [(0, 4), (4, 2), (6, 1)]) := by kernel_rfl
@[go_sem] theorem fa75_2 (x : V) : opFieldAddr Tryz.prog 75 x 2 = addrAdd 6 x := by kernel_rfl
theorem isAgg36 : isAggT Tryz.prog 36 = some false := by kernel_rfl
@[go_sem] theorem ld36 (a : V) (S : St) : opLoad Tryz.prog 36 a S = hd1 (cellsAt S a) := load_cell isAgg36 a S
@[go_sem] theorem nt6 : Tryz.f6.ntmps = 8 := (rfl)
theorem cells3 : Tryz.prog.cellsOf 3 = 1 := by kernel_rfl
@[go_sem] theorem st3 (a x : V) (S : St) : opStore Tryz.prog 3 a x S = stC a x S := store_cell isAgg3 cells3 a x S
@[go_sem] theorem nt7 : Tryz.f7.ntmps = 5 := (rfl)
@[go_sem] theorem nt8 : Tryz.f8.ntmps = 356 := (rfl)
@[go_sem] theorem fa56_0 (x : V) : opFieldAddr Tryz.prog 56 x 0 = addrAdd 0 x := by kernel_rfl
@[go_sem] theorem len63 {call : CallF} {t : Tm} {S : St} {d : Option Nat} {ty : TypeId} {pos : String} {af : Array Edge} {g : Option (Nat × Bool)} {x : Operand} : evOp Tryz.prog call ⟨d, .call ⟨.builtin .len, #[x], #[63]⟩, ty, pos, af, g⟩ t S = lenR (lenOf (opd t x)) S := e_lenSl Tryz.underlying63
@[go_sem] theorem ia63 (x i : V) : opIndexAddr Tryz.prog 63 x i = idxAddr 27 x i := indexAddr_eq Tryz.underlying63 sz62 x i
@[go_sem] theorem fa62_6 (x : V) : opFieldAddr Tryz.prog 62 x 6 = addrAdd 20 x := by kernel_rfl
@[go_sem] theorem pl59 : placesOf Tryz.prog 59 = some (plL [(0, 1), (1, 1), (2, 1), (3, 2), (5, 1), (6, 1), (7, 1), (8, 1), (9, 1)]) := by kernel_rfl
theorem isAgg62 : isAggT Tryz.prog 62 = some true := by kernel_rfl
theorem cells62 : Tryz.prog.cellsOf 62 = 27 := by kernel_rfl
@[go_sem] theorem ld62 (a : V) (S : St) : opLoad Tryz.prog 62 a S = takeN 27 (cellsAt S a) := load_agg isAgg62 cells62 a S
@[go_sem] theorem st62 (a x : V) (S : St) : opStore Tryz.prog 62 a x S = stA 27 a x S := store_agg isAgg62 cells62 a x S
@[go_sem] theorem fa62_0 (x : V) : opFieldAddr Tryz.prog 62 x 0 = addrAdd 0 x := by kernel_rfl
@[go_sem] theorem zero29 : zeroOf Tryz.prog 29 = some [.nils, .bool false] := by kernel_rfl
@[go_sem] theorem fa62_2 (x : V) : opFieldAddr Tryz.prog 62 x 2 = addrAdd 2 x := by kernel_rfl
theorem isAgg41 : isAggT Tryz.prog 41 = some true := by kernel_rfl
theorem cells41 : Tryz.prog.cellsOf 41 = 8 := by kernel_rfl
@[go_sem] theorem ld41 (a : V) (S : St) : opLoad Tryz.prog 41 a S = takeN 8 (cellsAt S a) := load_agg isAgg41 cells41 a S
theorem isAgg64 : isAggT Tryz.prog 64 = some true := by kernel_rfl
theorem cells64 : Tryz.prog.cellsOf 64 = 2 := by kernel_rfl
@[go_sem] theorem ld64 (a : V) (S : St) : opLoad Tryz.prog 64 a S = takeN 2 (cellsAt S a) := load_agg isAgg64 cells64 a S
theorem cells29 : Tryz.prog.cellsOf 29 = 2 := by kernel_rfl
theorem isAgg29 : isAggT Tryz.prog 29 = some true := by kernel_rfl
@[go_sem] theorem st29 (a x : V) (S : St) : opStore Tryz.prog 29 a x S = stA 2 a x S := store_agg isAgg29 cells29 a x S
@[go_sem] theorem ld29 (a : V) (S : St) : opLoad Tryz.prog 29 a S = takeN 2 (cellsAt S a) := load_agg isAgg29 cells29 a S
@[go_sem] theorem fa59_0 (x : V) : opFieldAddr Tryz.prog 59 x 0 = addrAdd 0 x := by kernel_rfl
theorem cells5 : Tryz.prog.cellsOf 5 = 1 := by kernel_rfl
@[go_sem] theorem st5 (a x : V) (S : St) : opStore Tryz.prog 5 a x S = stC a x S := store_cell isAgg5 cells5 a x S
@[go_sem] theorem fa59_3 (x : V) : opFieldAddr Tryz.prog 59 x 3 = addrAdd 3 x := by kernel_rfl
@[go_sem] theorem fa62_3 (x : V) : opFieldAddr Tryz.prog 62 x 3 = addrAdd 10 x := by kernel_rfl
@[go_sem] theorem fa59_2 (x : V) : opFieldAddr Tryz.prog 59 x 2 = addrAdd 2 x := by kernel_rfl
theorem cells57 : Tryz.prog.cellsOf 57 = 1 := by kernel_rfl
theorem isAgg57 : isAggT Tryz.prog 57 = some false := by kernel_rfl
@[go_sem] theorem st57 (a x : V) (S : St) : opStore Tryz.prog 57 a x S = stC a x S := store_cell isAgg57 cells57 a x S
@[go_sem] theorem fa56_1 (x : V) : opFieldAddr Tryz.prog 56 x 1 = addrAdd 1 x := by kernel_rfl
@[go_sem] theorem fa62_4 (x : V) : opFieldAddr Tryz.prog 62 x 4 = addrAdd 18 x := by kernel_rfl
theorem isAgg2 : isAggT Tryz.prog 2 = some false := by kernel_rfl
@[go_sem] theorem ld2 (a : V) (S : St) : opLoad Tryz.prog 2 a S = hd1 (cellsAt S a) := load_cell isAgg2 a S
@[go_sem] theorem fa59_1 (x : V) : opFieldAddr Tryz.prog 59 x 1 = addrAdd 1 x := by kernel_rfl
theorem cells2 : Tryz.prog.cellsOf 2 = 1 := by kernel_rfl
@[go_sem] theorem st2 (a x : V) (S : St) : opStore Tryz.prog 2 a x S = stC a x S := store_cell isAgg2 cells2 a x S
@[go_sem] theorem fa62_5 (x : V) : opFieldAddr Tryz.prog 62 x 5 = addrAdd 19 x := by kernel_rfl
@[go_sem] theorem fa56_2 (x : V) : opFieldAddr Tryz.prog 56 x 2 = addrAdd 2 x := by kernel_rfl
@[go_sem] theorem sz2 : szT Tryz.prog 2 = some 1 := by kernel_rfl
@[go_sem] theorem ia23 (x i : V) : opIndexAddr Tryz.prog 23 x i = idxAddr 1 x i := indexAddr_eq Tryz.underlying23 sz2 x i
@[go_sem] theorem fa62_9 (x : V) : opFieldAddr Tryz.prog 62 x 9 = addrAdd 23 x := by kernel_rfl
theorem isAgg39 : isAggT Tryz.prog 39 = some false := by kernel_rfl
@[go_sem] theorem ld39 (a : V) (S : St) : opLoad Tryz.prog 39 a S = hd1 (cellsAt S a) := load_cell isAgg39 a S
@[go_sem] theorem len39 {call : CallF} {t : Tm} {S : St} {d : Option Nat} {ty : TypeId} {pos : String} {af : Array Edge} {g : Option (Nat × Bool)} {x : Operand} : evOp Tryz.prog call ⟨d, .call ⟨.builtin .len, #[x], #[39]⟩, ty, pos, af, g⟩ t S = lenR (lenOf (opd t x)) S := e_lenSl Tryz.underlying39
@[go_sem] theorem sz41 : szT Tryz.prog 41 = some 8 := by kernel_rfl
@[go_sem] theorem ia39 (x i : V) : opIndexAddr Tryz.prog 39 x i = idxAddr 8 x i := indexAddr_eq Tryz.underlying39 sz41 x i
@[go_sem] theorem fa62_1 (x : V) : opFieldAddr Tryz.prog 62 x 1 = addrAdd 1 x := by kernel_rfl
@[go_sem] theorem fa62_7 (x : V) : opFieldAddr Tryz.prog 62 x 7 = addrAdd 21 x := by kernel_rfl
theorem isAgg32 : isAggT Tryz.prog 32 = some false := by kernel_rfl
@[go_sem] theorem ld32 (a : V) (S : St) : opLoad Tryz.prog 32 a S = hd1 (cellsAt S a) := load_cell isAgg32 a S
@[go_sem] theorem fa62_8 (x : V) : opFieldAddr Tryz.prog 62 x 8 = addrAdd 22 x := by kernel_rfl
theorem isAgg33 : isAggT Tryz.prog 33 = some false := by kernel_rfl
@[go_sem] theorem ld33 (a : V) (S : St) : opLoad Tryz.prog 33 a S = hd1 (cellsAt S a) := load_cell isAgg33 a S
@[go_sem] theorem fa59_4 (x : V) : opFieldAddr Tryz.prog 59 x 4 = addrAdd 5 x := by kernel_rfl
theorem cells32 : Tryz.prog.cellsOf 32 = 1 := by kernel_rfl
@[go_sem] theorem st32 (a x : V) (S : St) : opStore Tryz.prog 32 a x S = stC a x S := store_cell isAgg32 cells32 a x S
@[go_sem] theorem fa59_5 (x : V) : opFieldAddr Tryz.prog 59 x 5 = addrAdd 6 x := by kernel_rfl
theorem cells33 : Tryz.prog.cellsOf 33 = 1 := by kernel_rfl
@[go_sem] theorem st33 (a x : V) (S : St) : opStore Tryz.prog 33 a x S = stC a x S := store_cell isAgg33 cells33 a x S
@[go_sem] theorem fa62_10 (x : V) : opFieldAddr Tryz.prog 62 x 10 = addrAdd 24 x := by kernel_rfl
theorem isAgg9 : isAggT Tryz.prog 9 = some false := by kernel_rfl
@[go_sem] theorem ld9 (a : V) (S : St) : opLoad Tryz.prog 9 a S = hd1 (cellsAt S a) := load_cell isAgg9 a S
@[go_sem] theorem fa62_11 (x : V) : opFieldAddr Tryz.prog 62 x 11 = addrAdd 25 x := by kernel_rfl
@[go_sem] theorem fa59_6 (x : V) : opFieldAddr Tryz.prog 59 x 6 = addrAdd 7 x := by kernel_rfl
theorem cells9 : Tryz.prog.cellsOf 9 = 1 := by kernel_rfl
@[go_sem] theorem st9 (a x : V) (S : St) : opStore Tryz.prog 9 a x S = stC a x S := store_cell isAgg9 cells9 a x S
@[go_sem] theorem fa59_7 (x : V) : opFieldAddr Tryz.prog 59 x 7 = addrAdd 8 x := by kernel_rfl
@[go_sem] theorem fa62_12 (x : V) : opFieldAddr Tryz.prog 62 x 12 = addrAdd 26 x := by kernel_rfl
@[go_sem] theorem fa59_8 (x : V) : opFieldAddr Tryz.prog 59 x 8 = addrAdd 9 x := by kernel_rfl
@[go_sem] theorem bs22 {call : CallF} {t : Tm} {S : St} {d : Option Nat} {ty : TypeId} {pos : String} {af : Array Edge} {g : Option (Nat × Bool)} {m : Nat} {ps : Array (Nat × Operand)} : evOp Tryz.prog call ⟨d, .buildSlice 22 m ps, ty, pos, af, g⟩ t S = buildS (zeroOf Tryz.prog 29) (szT Tryz.prog 29) m t ps.toList S := e_buildSlice Tryz.underlying22
@[go_sem] theorem ap22_22 {call : CallF} {t : Tm} {S : St} {d : Option Nat} {ty : TypeId} {pos : String} {af : Array Edge} {g : Option (Nat × Bool)} {x y : Operand} : evOp Tryz.prog call ⟨d, .call ⟨.builtin .append, #[x, y], #[22, 22]⟩, ty, pos, af, g⟩ t S = opAppend2 Tryz.prog 22 (opd t x) (opd t y) S := e_append Tryz.underlying22
theorem bytes29 : decide (Tryz.prog.bytesOf 29 ≤ 2 ^ 16 ∧ (zeroOf Tryz.prog 29).map List.length = some 2) = true := by kernel_rfl
theorem cells22 : Tryz.prog.cellsOf 22 = 1 := by kernel_rfl
@[go_sem] theorem st22 (a x : V) (S : St) : opStore Tryz.prog 22 a x S = stC a x S := store_cell isAgg22 cells22 a x S
@[go_sem] theorem nt9 : Tryz.f9.ntmps = 91 := (rfl)
@[go_sem] theorem fa30_1 (x : V) : opFieldAddr Tryz.prog 30 x 1 = addrAdd 1 x := by kernel_rfl
@[go_sem] theorem fa30_2 (x : V) : opFieldAddr Tryz.prog 30 x 2 = addrAdd 2 x := by kernel_rfl
@[go_sem] theorem nt10 : Tryz.f10.ntmps = 91 := (rfl)
@[go_sem] theorem fa35_0 (x : V) : opFieldAddr Tryz.prog 35 x 0 = addrAdd 0 x := by kernel_rfl
@[go_sem] theorem fa35_1 (x : V) : opFieldAddr Tryz.prog 35 x 1 = addrAdd 1 x := by kernel_rfl
@[go_sem] theorem fa35_6 (x : V) : opFieldAddr Tryz.prog 35 x 6 = addrAdd 7 x := by kernel_rfl
@[go_sem] theorem fa35_7 (x : V) : opFieldAddr Tryz.prog 35 x 7 = addrAdd 8 x := by kernel_rfl
@[go_sem] theorem fa35_3 (x : V) : opFieldAddr Tryz.prog 35 x 3 = addrAdd 3 x := by kernel_rfl
@[go_sem] theorem fa35_8 (x : V) : opFieldAddr Tryz.prog 35 x 8 = addrAdd 9 x := by kernel_rfl
@[go_sem] theorem fa35_5 (x : V) : opFieldAddr Tryz.prog 35 x 5 = addrAdd 6 x := by kernel_rfl
@[go_sem] theorem fa35_4 (x : V) : opFieldAddr Tryz.prog 35 x 4 = addrAdd 5 x := by kernel_rfl
@[go_sem] theorem fa35_2 (x : V) : opFieldAddr Tryz.prog 35 x 2 = addrAdd 2 x := by kernel_rfl
theorem isAgg31 : isAggT Tryz.prog 31 = some false := by kernel_rfl
@[go_sem] theorem ld31 (a : V) (S : St) : opLoad Tryz.prog 31 a S = hd1 (cellsAt S a) := load_cell isAgg31 a S
@[go_sem] theorem len31 {call : CallF} {t : Tm} {S : St} {d : Option Nat} {ty : TypeId} {pos : String} {af : Array Edge} {g : Option (Nat × Bool)} {x : Operand} : evOp Tryz.prog call ⟨d, .call ⟨.builtin .len, #[x], #[31]⟩, ty, pos, af, g⟩ t S = lenR (lenOf (opd t x)) S := e_lenSl Tryz.underlying31
@[go_sem] theorem ld57 (a : V) (S : St) : opLoad Tryz.prog 57 a S = hd1 (cellsAt S a) := load_cell isAgg57 a S
@[go_sem] theorem len57 {call : CallF} {t : Tm} {S : St} {d : Option Nat} {ty : TypeId} {pos : String} {af : Array Edge} {g : Option (Nat × Bool)} {x : Operand} : evOp Tryz.prog call ⟨d, .call ⟨.builtin .len, #[x], #[57]⟩, ty, pos, af, g⟩ t S = lenR (lenOf (opd t x)) S := e_lenSl Tryz.underlying57
@[go_sem] theorem sz95 : szT Tryz.prog 95 = some 5 := by kernel_rfl
@[go_sem] theorem ia31 (x i : V) : opIndexAddr Tryz.prog 31 x i = idxAddr 5 x i := indexAddr_eq Tryz.underlying31 sz95 x i
theorem isAgg95 : isAggT Tryz.prog 95 = some true := by kernel_rfl
theorem cells95 : Tryz.prog.cellsOf 95 = 5 := by kernel_rfl
@[go_sem] theorem ld95 (a : V) (S : St) : opLoad Tryz.prog 95 a S = takeN 5 (cellsAt S a) := load_agg isAgg95 cells95 a S
@[go_sem] theorem sz94 : szT Tryz.prog 94 = some 5 := by kernel_rfl
@[go_sem] theorem ia57 (x i : V) : opIndexAddr Tryz.prog 57 x i = idxAddr 5 x i := indexAddr_eq Tryz.underlying57 sz94 x i
theorem isAgg94 : isAggT Tryz.prog 94 = some true := by kernel_rfl
theorem cells94 : Tryz.prog.cellsOf 94 = 5 := by kernel_rfl
@[go_sem] theorem ld94 (a : V) (S : St) : opLoad Tryz.prog 94 a S = takeN 5 (cellsAt S a) := load_agg isAgg94 cells94 a S
@[go_sem] theorem nt13 : Tryz.f13.ntmps = 26 := (rfl)
@[go_sem] theorem len33 {call : CallF} {t : Tm} {S : St} {d : Option Nat} {ty : TypeId} {pos : String} {af : Array Edge} {g : Option (Nat × Bool)} {x : Operand} : evOp Tryz.prog call ⟨d, .call ⟨.builtin .len, #[x], #[33]⟩, ty, pos, af, g⟩ t S = lenR (lenOf (opd t x)) S := e_lenSl Tryz.underlying33
@[go_sem] theorem sz3 : szT Tryz.prog 3 = some 1 := by kernel_rfl
@[go_sem] theorem ia33 (x i : V) : opIndexAddr Tryz.prog 33 x i = idxAddr 1 x i := indexAddr_eq Tryz.underlying33 sz3 x i
@[go_sem] theorem nt14 : Tryz.f14.ntmps = 209 := (rfl)
@[go_sem] theorem fa43_4 (x : V) : opFieldAddr Tryz.prog 43 x 4 = addrAdd 18 x := by kernel_rfl
theorem isAgg73 : isAggT Tryz.prog 73 = some false := by kernel_rfl
@[go_sem] theorem ld73 (a : V) (S : St) : opLoad Tryz.prog 73 a S = hd1 (cellsAt S a) := load_cell isAgg73 a S
@[go_sem] theorem fa43_2 (x : V) : opFieldAddr Tryz.prog 43 x 2 = addrAdd 2 x := by kernel_rfl
@[go_sem] theorem fa43_5 (x : V) : opFieldAddr Tryz.prog 43 x 5 = addrAdd 19 x := by kernel_rfl
@[go_sem] theorem fa43_9 (x : V) : opFieldAddr Tryz.prog 43 x 9 = addrAdd 23 x := by kernel_rfl
@[go_sem] theorem fa43_7 (x : V) : opFieldAddr Tryz.prog 43 x 7 = addrAdd 21 x := by kernel_rfl
@[go_sem] theorem fa43_8 (x : V) : opFieldAddr Tryz.prog 43 x 8 = addrAdd 22 x := by kernel_rfl
@[go_sem] theorem fa43_10 (x : V) : opFieldAddr Tryz.prog 43 x 10 = addrAdd 24 x := by kernel_rfl
@[go_sem] theorem fa43_11 (x : V) : opFieldAddr Tryz.prog 43 x 11 = addrAdd 25 x := by kernel_rfl
@[go_sem] theorem fa43_12 (x : V) : opFieldAddr Tryz.prog 43 x 12 = addrAdd 26 x := by kernel_rfl
@[go_sem] theorem zero41 : zeroOf Tryz.prog 41 = some [.int .u8 0, .str [], .nils, .bool false, .nils, .int .i64 0, .int .i64 0, .bool false] := by kernel_rfl
@[go_sem] theorem st41 (a x : V) (S : St) : opStore Tryz.prog 41 a x S = stA 8 a x S := store_agg isAgg41 cells41 a x S
@[go_sem] theorem nt15 : Tryz.f15.ntmps = 45 := (rfl)
@[go_sem] theorem zero2 : zeroOf Tryz.prog 2 = some [.int .i64 0] := by kernel_rfl
@[go_sem] theorem bs23 {call : CallF} {t : Tm} {S : St} {d : Option Nat} {ty : TypeId} {pos : String} {af : Array Edge} {g : Option (Nat × Bool)} {m : Nat} {ps : Array (Nat × Operand)} : evOp Tryz.prog call ⟨d, .buildSlice 23 m ps, ty, pos, af, g⟩ t S = buildS (zeroOf Tryz.prog 2) (szT Tryz.prog 2) m t ps.toList S := e_buildSlice Tryz.underlying23
@[go_sem] theorem ap23_23 {call : CallF} {t : Tm} {S : St} {d : Option Nat} {ty : TypeId} {pos : String} {af : Array Edge} {g : Option (Nat × Bool)} {x y : Operand} : evOp Tryz.prog call ⟨d, .call ⟨.builtin .append, #[x, y], #[23, 23]⟩, ty, pos, af, g⟩ t S = opAppend2 Tryz.prog 23 (opd t x) (opd t y) S := e_append Tryz.underlying23
theorem bytes2 : decide (Tryz.prog.bytesOf 2 ≤ 2 ^ 16 ∧ (zeroOf Tryz.prog 2).map List.length = some 1) = true := by kernel_rfl
theorem cells23 : Tryz.prog.cellsOf 23 = 1 := by kernel_rfl
@[go_sem] theorem st23 (a x : V) (S : St) : opStore Tryz.prog 23 a x S = stC a x S := store_cell isAgg23 cells23 a x S
@[go_sem] theorem nt17 : Tryz.f17.ntmps = 10 := (rfl)
@[go_sem] theorem zero85 : zeroOf Tryz.prog 85 = some [.int .u8 0] := by kernel_rfl
@[go_sem] theorem sz85 : szT Tryz.prog 85 = some 1 := by kernel_rfl
@[go_sem] theorem bs27 {call : CallF} {t : Tm} {S : St} {d : Option Nat} {ty : TypeId} {pos : String} {af : Array Edge} {g : Option (Nat × Bool)} {m : Nat} {ps : Array (Nat × Operand)} : evOp Tryz.prog call ⟨d, .buildSlice 27 m ps, ty, pos, af, g⟩ t S = buildS (zeroOf Tryz.prog 85) (szT Tryz.prog 85) m t ps.toList S := e_buildSlice Tryz.underlying27
@[go_sem] theorem ap27_27 {call : CallF} {t : Tm} {S : St} {d : Option Nat} {ty : TypeId} {pos : String} {af : Array Edge} {g : Option (Nat × Bool)} {x y : Operand} : evOp Tryz.prog call ⟨d, .call ⟨.builtin .append, #[x, y], #[27, 27]⟩, ty, pos, af, g⟩ t S = opAppend2 Tryz.prog 27 (opd t x) (opd t y) S := e_append Tryz.underlying27
theorem bytes85 : decide (Tryz.prog.bytesOf 85 ≤ 2 ^ 16 ∧ (zeroOf Tryz.prog 85).map List.length = some 1) = true := by kernel_rfl
@[go_sem] theorem fa29_1 (x : V) : opFieldAddr Tryz.prog 29 x 1 = addrAdd 1 x := by kernel_rfl
theorem isAgg4 : isAggT Tryz.prog 4 = some false := by kernel_rfl
@[go_sem] theorem ld4 (a : V) (S : St) : opLoad Tryz.prog 4 a S = hd1 (cellsAt S a) := load_cell isAgg4 a S
@[go_sem] theorem pl29 : placesOf Tryz.prog 29 = some (plL [(0, 1), (1, 1)]) := by kernel_rfl
@[go_sem] theorem nt18 : Tryz.f18.ntmps = 16 := (rfl)
@[go_sem] theorem nt23 : Tryz.f23.ntmps = 38 := (rfl)
@[go_sem] theorem beq4 (a b : Bool) : binV Tryz.prog .eql 4 (.bool a) (.bool b) = some (.bool (a == b)) := bin_beql Tryz.underlying4 a b
@[go_sem] theorem bne4 (a b : Bool) : binV Tryz.prog .neq 4 (.bool a) (.bool b) = some (.bool (!(a == b))) := bin_bneq Tryz.underlying4 a b
@[go_sem] theorem ia27 (x i : V) : opIndexAddr Tryz.prog 27 x i = idxAddr 1 x i := indexAddr_eq Tryz.underlying27 sz85 x i
theorem isAgg85 : isAggT Tryz.prog 85 = some false := by kernel_rfl
@[go_sem] theorem ld85 (a : V) (S : St) : opLoad Tryz.prog 85 a S = hd1 (cellsAt S a) := load_cell isAgg85 a S
@[go_sem] theorem nt24 : Tryz.f24.ntmps = 27 := (rfl)
@[go_sem] theorem nt25 : Tryz.f25.ntmps = 42 := (rfl)
@[go_sem] theorem len32 {call : CallF} {t : Tm} {S : St} {d : Option Nat} {ty : TypeId} {pos : String} {af : Array Edge} {g : Option (Nat × Bool)} {x : Operand} : evOp Tryz.prog call ⟨d, .call ⟨.builtin .len, #[x], #[32]⟩, ty, pos, af, g⟩ t S = lenR (lenOf (opd t x)) S := e_lenSl Tryz.underlying32
@[go_sem] theorem sz131 : szT Tryz.prog 131 = some 9 := by kernel_rfl
@[go_sem] theorem ia32 (x i : V) : opIndexAddr Tryz.prog 32 x i = idxAddr 9 x i := indexAddr_eq Tryz.underlying32 sz131 x i
@[go_sem] theorem fa131_0 (x : V) : opFieldAddr Tryz.prog 131 x 0 = addrAdd 0 x := by kernel_rfl
@[go_sem] theorem fa131_1 (x : V) : opFieldAddr Tryz.prog 131 x 1 = addrAdd 1 x := by kernel_rfl
@[go_sem] theorem nt30 : Tryz.f30.ntmps = 51 := (rfl)
@[go_sem] theorem nt58 : Tryz.f58.ntmps = 8 := (rfl)
@[go_sem] theorem bnil23 (x : V) : binV Tryz.prog .eql 23 x .nils = (isNils x).map V.bool := bin_nils Tryz.underlying23 x
@[go_sem] theorem nt59 : Tryz.f59.ntmps = 9 := (rfl)
@[go_sem] theorem nt131 : Tryz.f131.ntmps = 8 := (rfl)
@[go_sem] theorem bnil27 (x : V) : binV Tryz.prog .eql 27 x .nils = (isNils x).map V.bool := bin_nils Tryz.underlying27 x
theorem hz29 : Tryz.prog.bytesOf 29 ≤ 2 ^ 16 ∧ (zeroOf Tryz.prog 29).map List.length = some 2 := of_decide_eq_true bytes29
theorem hz2 : Tryz.prog.bytesOf 2 ≤ 2 ^ 16 ∧ (zeroOf Tryz.prog 2).map List.length = some 1 := of_decide_eq_true bytes2
theorem hz85 : Tryz.prog.bytesOf 85 ≤ 2 ^ 16 ∧ (zeroOf Tryz.prog 85).map List.length = some 1 := of_decide_eq_true bytes85
end Cs

set_option linter.unusedVariables false
open Go Go.Vm Go.Proofs
namespace Cs
variable [Gl]
abbrev bitC (b : Nat) : List V := [.int .u8 (b : Int)]
abbrev cntC (n : Int) : List V := [.int .i64 n]
abbrev Vc := List Nat × Bool
def vz : Vc := ([], false)
/-- The cells of a vector. -/
def RdV (c : List V) (x : Vc) : Prop := ∃ vb, c = [vb, .bool x.2] ∧ rows [] 1 vb = some (x.1.map bitC) ∧ clo vb = true
/-- A thread. -/
structure Th where
  pc : Int
  slots : List Vc
  counts : List Int
def RdT (v : V) (T : Th) : Prop := ∃ vs vc rs, v = .agg [.int .i64 T.pc, vs, vc] ∧ rows [] 2 vs = some rs ∧ clo vs = true ∧ All2 RdV rs T.slots ∧ rows [] 1 vc = some (T.counts.map cntC) ∧ clo vc = true
def Small (T : Th) : Prop := T.slots.length ≤ 5000 ∧ T.counts.length ≤ 5000 ∧ ∀ x ∈ T.slots, x.1.length ≤ 300
def pad (k : Int) (T : Th) : Th := ⟨T.pc, T.slots ++ List.replicate ((k + 1).toNat - T.slots.length) vz, T.counts ++ List.replicate ((k + 1).toNat - T.counts.length) 0⟩
def effV (k : Int) : V := .agg [.int .u8 k, .int .i64 0, .nils, .nils, .bool false, .nils, .nils, .str [], .str [], .nils]
def tz : Th := ⟨0, [], []⟩
/-- What an instruction without expressions does. -/
def stepS (op slot to : Int) (T : Th) : Th × Int × Int :=
  if T.pc < 0 ∨ 1 ≤ T.pc ∨ slot < 0 ∨ 4096 < slot then (tz, 0, 1)
  else if op < 1 ∨ 15 < op then (tz, 0, 11)
  else
    let U := pad (if op = 8 then slot else -1) T
    if op = 5 then (⟨to, U.slots, U.counts⟩, 1, 0)
    else if op = 8 then (if 0 < U.counts.getD slot.toNat 0 then (⟨1, U.slots, U.counts.set slot.toNat (IntKind.i64.wrap (U.counts.getD slot.toNat 0 - 1))⟩, 1, 0) else (⟨to, U.slots, U.counts⟩, 1, 0))
    else if op = 10 then (⟨1, U.slots, U.counts⟩, 4, 0)
    else if op = 14 then (⟨1, U.slots, U.counts⟩, 8, 0)
    else (⟨0, U.slots, U.counts⟩, 9, 0)
def OpOK (op : Int) : Prop := op = 0 ∨ op = 5 ∨ op = 8 ∨ op = 10 ∨ 14 ≤ op
def insC (op slot to : Int) : List V := [.int .u8 op, .int .u8 0, .int .u8 0, .str [], .nils, .bool false, .nils, .int .i64 0, .int .i64 0, .bool false, .int .u8 0, .str [], .nils, .bool false, .nils, .int .i64 0, .int .i64 0, .bool false, .int .i64 0, .int .i64 to, .int .i64 slot, .nils, .nils, .nils, .str [], .str [], .nils]
def StepR (op slot to : Int) (T : Th) (v : V) : Prop := ∃ a, v = .tup [a, effV (stepS op slot to T).2.1, .int .i64 (stepS op slot to T).2.2] ∧ RdT a (stepS op slot to T).1
/-- What is said of the functions. -/
def Sp : SpecF := fun f args v => match f with
  | 23 => ∀ ca cb x, args = [.agg ca, .agg cb] → RdV ca x → RdV cb x → v = .bool true
  | 59 => ∀ c x, args = [.agg c] → RdV c x → ∃ c', v = .agg c' ∧ RdV c' x
  | 17 => ∀ c x, args = [.agg c] → RdV c x → ∃ c', v = .agg c' ∧ RdV c' x
  | 18 => ∀ t T (k : Nat), args = [t, .int .i64 (k : Int)] → RdT t T → ∃ c', v = .agg c' ∧ RdV c' (T.slots.getD k vz)
  | 7 => ∀ t T, args = [t] → RdT t T → RdT v T
  | 6 => ∀ t T pc, args = [t, .int .i64 pc] → RdT t T → RdT v ⟨pc, T.slots, T.counts⟩
  | 10 => v = .bool true
  | 13 => args = [.nils, .nils] → v = .bool true
  | 24 => args = [.nils, .nils] → v = .bool true
  | 25 => args = [.nils, .nils] → v = .bool true
  | 4 => v = .bool true
  | 3 => v = .bool true
  | _ => False
end Cs

set_option linter.unusedVariables false
open Go Go.Vm Go.Proofs
namespace Cs
variable [Gl]
theorem clo_agg (c : List V) : clo (.agg c) = cloL c := (rfl)
theorem clo_bool (b : Bool) : clo (.bool b) = true := (rfl)
theorem clo_int (k : IntKind) (n : Int) : clo (.int k n) = true := (rfl)
theorem clo_str (s : List Nat) : clo (.str s) = true := (rfl)
theorem clo_nils : clo .nils = true := (rfl)
theorem cloL_nil : cloL [] = true := (rfl)
theorem fin_of {l : List Ob} {k : Nat} {v v' : V} {f : FuncId} {args : List V} (h : Fz l k v v') (hs : Sp f args v') : ∃ m u, frz false (stL l).get m v = some u ∧ Sp f args u := ⟨k, v', h k (Nat.le_refl _), hs⟩
theorem same_kc {ca cb : List V} {x : Vc} (ha : RdV ca x) (hb : RdV cb x) (hl : x.1.length ≤ 300) : KC Tryz.prog Sp 23 [.agg ca, .agg cb] := by
  obtain ⟨va, rfl, h1, k1⟩ := ha
  obtain ⟨vb, rfl, h2, k2⟩ := hb
  obtain ⟨bits, s⟩ := x
  simp only at hl h1 h2
  refine kc_of mix Tryz.func23 rfl (by simp [Tryz.f23]) (by simp only [cloL_cons, cloL_nil, clo_agg, clo_bool, k1, k2, Bool.and_true]) (bits.length + 2) ?_
  have c1 := rows_cell h1
  have c2 := rows_cell h2
  have l1 := rows_len h1
  have l2 := rows_len h2
  refine Ev.seq rfl (Ev.reg' ?_)
  generalize hK : (onNorm _ _) = K
  simp (maxSteps := 2000000) only [go_sem, Nat.reduceBEq, Nat.reduceLT, Nat.reduceAdd, Nat.reduceMul, Nat.reduceLeDiff, Nat.reduceEqDiff, decide_true, decide_false, reduceIte, and_true, true_and]
  subst hK
  rw [onNorm_norm]
  refine Ev.seq rfl (Ev.seq rfl (Ev.reg' ?_))
  generalize hK : (onNorm _ _) = K
  simp (maxSteps := 2000000) only [go_sem, Nat.reduceBEq, Nat.reduceLT, Nat.reduceAdd, Nat.reduceMul, Nat.reduceLeDiff, Nat.reduceEqDiff, decide_true, decide_false, reduceIte, and_true, true_and, BEq.rfl, Bool.not_true, l1, l2, bne_self_eq_false]
  subst hK
  rw [onNorm_norm]
  refine Ev.cond' ?_
  simp (maxSteps := 2000000) only [go_sem, Nat.reduceBEq, Nat.reduceLT, Nat.reduceAdd, Nat.reduceMul, Nat.reduceLeDiff, Nat.reduceEqDiff, decide_true, decide_false, reduceIte, and_true, true_and]
  refine Ev.skip ?_
  rw [onNorm_norm]
  refine Ev.seq rfl (Ev.seq rfl (Ev.reg' ?_))
  simp (maxSteps := 2000000) only [go_sem, Nat.reduceBEq, Nat.reduceLT, Nat.reduceAdd, Nat.reduceMul, Nat.reduceLeDiff, Nat.reduceEqDiff, decide_true, decide_false, reduceIte, and_true, true_and]
  refine Ev.block (Ev.loop (fun k t S => t 2 = .ptr (idOf 0) 0 ∧ t 3 = .ptr (idOf 1) 0 ∧ S = stL [.cells [va, .bool s] 0 [], .cells [vb, .bool s] 0 []] ∧ ∃ j : Nat, t 5 = .int .i64 (j : Int) ∧ j + k = bits.length) bits.length (by omega) ?_ ?_)
  · simp (maxSteps := 2000000) only [go_sem, Nat.reduceBEq, Nat.reduceLT, Nat.reduceAdd, Nat.reduceMul, Nat.reduceLeDiff, Nat.reduceEqDiff, decide_true, decide_false, reduceIte, and_true, true_and]
    exact ⟨0, rfl, by omega⟩
  intro k t S ⟨i2, i3, iS, j, i5, hjk⟩
  subst iS
  refine Ev.seq rfl (Ev.seq rfl (Ev.reg' ?_))
  simp (maxSteps := 2000000) only [go_sem, Nat.reduceBEq, Nat.reduceLT, Nat.reduceAdd, Nat.reduceMul, Nat.reduceLeDiff, Nat.reduceEqDiff, decide_true, decide_false, reduceIte, and_true, true_and, i2, i3, i5, l1, l2]
  refine Ev.cond' ?_
  simp (maxSteps := 2000000) only [go_sem, Nat.reduceBEq, Nat.reduceLT, Nat.reduceAdd, Nat.reduceMul, Nat.reduceLeDiff, Nat.reduceEqDiff, decide_true, decide_false, reduceIte, and_true, true_and]
  by_cases hj : (j : Int) < (bits.length : Int)
  rotate_left
  · simp only [hj, decide_false, wpC_false]
    refine Ev.exit ?_
    simp (maxSteps := 2000000) only [go_sem, Nat.reduceBEq, Nat.reduceLT, Nat.reduceAdd, Nat.reduceMul, Nat.reduceLeDiff, Nat.reduceEqDiff, decide_true, decide_false, reduceIte, and_true, true_and]
    refine Ev.seq rfl (Ev.reg' ?_)
    simp (maxSteps := 2000000) only [go_sem, Nat.reduceBEq, Nat.reduceLT, Nat.reduceAdd, Nat.reduceMul, Nat.reduceLeDiff, Nat.reduceEqDiff, decide_true, decide_false, reduceIte, and_true, true_and]
    refine Ev.ret (Ret.tmp rfl ?_)
    simp (maxSteps := 2000000) only [go_sem, Nat.reduceBEq, Nat.reduceLT, Nat.reduceAdd, Nat.reduceMul, Nat.reduceLeDiff, Nat.reduceEqDiff, decide_true, decide_false, reduceIte, and_true, true_and]
    exact fin_of (Fz.clo rfl) fun _ _ _ _ _ _ => rfl
  have hj' : j < bits.length := by exact_mod_cast hj
  have hx : (bits.map bitC)[j]? = some [.int .u8 (bits[j] : Int)] := by simp [hj']
  obtain ⟨a, ra, ha1, ha2⟩ := rows_idx (rows_app (g := [.cells [va, .bool s] 0 [], .cells [vb, .bool s] 0 []]) h1) hx .i64
  obtain ⟨b, rb, hb1, hb2⟩ := rows_idx (rows_app (g := [.cells [va, .bool s] 0 [], .cells [vb, .bool s] 0 []]) h2) hx .i64
  simp only [List.nil_append] at ha2 hb2
  simp only [hj, decide_true, wpC_true]
  refine Ev.skip ?_
  simp (maxSteps := 2000000) only [go_sem, Nat.reduceBEq, Nat.reduceLT, Nat.reduceAdd, Nat.reduceMul, Nat.reduceLeDiff, Nat.reduceEqDiff, decide_true, decide_false, reduceIte, and_true, true_and]
  refine Ev.seq rfl (Ev.block (Ev.seq rfl (Ev.regD0' rfl (by kernel_rfl) (by kernel_rfl) ?_)))
  simp (maxSteps := 2000000) only [go_sem, Nat.reduceBEq, Nat.reduceLT, Nat.reduceAdd, Nat.reduceMul, Nat.reduceLeDiff, Nat.reduceEqDiff, decide_true, decide_false, reduceIte, and_true, true_and, i2, i3, i5, ha1, ha2, hb1, hb2, hd1_app, bne_self_eq_false]
  refine Ev.cond' ?_
  simp (maxSteps := 2000000) only [go_sem, Nat.reduceBEq, Nat.reduceLT, Nat.reduceAdd, Nat.reduceMul, Nat.reduceLeDiff, Nat.reduceEqDiff, decide_true, decide_false, reduceIte, and_true, true_and]
  refine Ev.skip ?_
  simp (maxSteps := 2000000) only [go_sem, Nat.reduceBEq, Nat.reduceLT, Nat.reduceAdd, Nat.reduceMul, Nat.reduceLeDiff, Nat.reduceEqDiff, decide_true, decide_false, reduceIte, and_true, true_and]
  refine Ev.reg' ?_
  simp (maxSteps := 2000000) only [go_sem, Nat.reduceBEq, Nat.reduceLT, Nat.reduceAdd, Nat.reduceMul, Nat.reduceLeDiff, Nat.reduceEqDiff, decide_true, decide_false, reduceIte, and_true, true_and, i2, i3, i5]
  exact ⟨k - 1, by omega, j + 1, by rw [IntWalk.i64_in _ (by omega)]; rfl, by omega⟩
end Cs

set_option linter.unusedVariables false
open Go Go.Vm Go.Proofs
namespace Cs
variable [Gl]
theorem own_new (l : List Ob) (es : Nat) : Own l.length (l ++ [.cells [] 0 []]) es (.ref es (idOf l.length) 0 0) [] (some l.length) := ⟨nofun, [], rfl, by rw [gx0]; rfl, Nat.le_refl _, fun a ha => absurd ha List.not_mem_nil⟩
theorem cl58_run {l : List Ob} {y : V} {rs : List (List V)} (hy : rows l 1 y = some rs) (hr : ∀ r ∈ rs, r.length = 1) (hb : rs.length ≤ 16777216) (n : Nat) (hn : 1 ≤ n) :
    ∃ u g o, callS Tryz.prog Sp n 58 [y] (stL l) = some (u, stL (l ++ g)) ∧ u.isCell = true ∧ Own l.length (l ++ g) 1 u rs o ∧ ∀ k, o = some k → l.length ≤ k := by
  obtain ⟨n, rfl⟩ : ∃ m, n = m + 1 := ⟨n - 1, by omega⟩
  suffices hs : ∃ u S', callS Tryz.prog Sp (n + 1) 58 [y] (stL l) = some (u, S') ∧ (∃ g o, S' = stL (l ++ g) ∧ u.isCell = true ∧ Own l.length (l ++ g) 1 u rs o ∧ ∀ k, o = some k → l.length ≤ k) by
    obtain ⟨u, S', h, g, o, rfl, h2⟩ := hs; exact ⟨u, g, o, h, h2⟩
  refine runS (fun v h => h) Tryz.func58 rfl (by simp [Tryz.f58]) ?_
  refine Ev.seq rfl (Ev.reg' ?_)
  simp (maxSteps := 2000000) only [go_sem, Nat.reduceBEq, Nat.reduceLT, Nat.reduceAdd, Nat.reduceMul, Nat.reduceLeDiff, Nat.reduceEqDiff, decide_true, decide_false, reduceIte, and_true, true_and]
  refine Ev.seq rfl (Ev.seq rfl (Ev.reg' ?_))
  rcases rows_nils hy with ⟨rfl, h2, rfl⟩ | h2
  · simp (maxSteps := 2000000) only [go_sem, Nat.reduceBEq, Nat.reduceLT, Nat.reduceAdd, Nat.reduceMul, Nat.reduceLeDiff, Nat.reduceEqDiff, decide_true, decide_false, reduceIte, and_true, true_and, h2]
    refine Ev.cond' ?_
    simp (maxSteps := 2000000) only [go_sem, Nat.reduceBEq, Nat.reduceLT, Nat.reduceAdd, Nat.reduceMul, Nat.reduceLeDiff, Nat.reduceEqDiff, decide_true, decide_false, reduceIte, and_true, true_and]
    refine Ev.seq rfl (Ev.reg' ?_)
    simp (maxSteps := 2000000) only [go_sem, Nat.reduceBEq, Nat.reduceLT, Nat.reduceAdd, Nat.reduceMul, Nat.reduceLeDiff, Nat.reduceEqDiff, decide_true, decide_false, reduceIte, and_true, true_and]
    refine Ev.ret ?_
    simp (maxSteps := 2000000) only [go_sem, Nat.reduceBEq, Nat.reduceLT, Nat.reduceAdd, Nat.reduceMul, Nat.reduceLeDiff, Nat.reduceEqDiff, decide_true, decide_false, reduceIte, and_true, true_and]
    refine Ret.tmp rfl ?_
    simp (maxSteps := 2000000) only [go_sem, Nat.reduceBEq, Nat.reduceLT, Nat.reduceAdd, Nat.reduceMul, Nat.reduceLeDiff, Nat.reduceEqDiff, decide_true, decide_false, reduceIte, and_true, true_and]
    exact ⟨[], none, by simp, Own.nil .., nofun⟩
  simp (maxSteps := 2000000) only [go_sem, Nat.reduceBEq, Nat.reduceLT, Nat.reduceAdd, Nat.reduceMul, Nat.reduceLeDiff, Nat.reduceEqDiff, decide_true, decide_false, reduceIte, and_true, true_and, h2]
  refine Ev.cond' ?_
  simp (maxSteps := 2000000) only [go_sem, Nat.reduceBEq, Nat.reduceLT, Nat.reduceAdd, Nat.reduceMul, Nat.reduceLeDiff, Nat.reduceEqDiff, decide_true, decide_false, reduceIte, and_true, true_and]
  refine Ev.skip ?_
  simp (maxSteps := 2000000) only [go_sem, Nat.reduceBEq, Nat.reduceLT, Nat.reduceAdd, Nat.reduceMul, Nat.reduceLeDiff, Nat.reduceEqDiff, decide_true, decide_false, reduceIte, and_true, true_and]
  obtain ⟨u, l', o', hap, huc, hO, hlen, ho', hk⟩ := (own_new l 1).fill (P := Tryz.prog) Tryz.underlying23 sz2 hz2 (by simp) (rows_app hy) hr hb
  obtain ⟨g, rfl⟩ := app_of (l := l) (l' := l') fun i hi => by
    rw [hk i (by intro e; injection e with e; omega) (by simp; omega), List.getElem?_append_left hi]
  refine Ev.seq rfl (Ev.reg' ?_)
  simp (maxSteps := 2000000) only [go_sem, Nat.reduceBEq, Nat.reduceLT, Nat.reduceAdd, Nat.reduceMul, Nat.reduceLeDiff, Nat.reduceEqDiff, decide_true, decide_false, reduceIte, and_true, true_and, Nat.zero_mul, Nat.zero_le, if_true, hap]
  refine Ev.ret (Ret.tmp rfl ?_)
  simp (maxSteps := 2000000) only [go_sem, Nat.reduceBEq, Nat.reduceLT, Nat.reduceAdd, Nat.reduceMul, Nat.reduceLeDiff, Nat.reduceEqDiff, decide_true, decide_false, reduceIte, and_true, true_and]
  refine ⟨g, o', rfl, huc, hO, fun k hk => ?_⟩
  subst hk
  rcases ho' with e | e
  · injection e with e; omega
  · injection e with e; rw [List.length_append] at e; omega

theorem cl131_run {l : List Ob} {y : V} {rs : List (List V)} (hy : rows l 1 y = some rs) (hr : ∀ r ∈ rs, r.length = 1) (hb : rs.length ≤ 16777216) (n : Nat) (hn : 1 ≤ n) :
    ∃ u g o, callS Tryz.prog Sp n 131 [y] (stL l) = some (u, stL (l ++ g)) ∧ u.isCell = true ∧ Own l.length (l ++ g) 1 u rs o ∧ ∀ k, o = some k → l.length ≤ k := by
  obtain ⟨n, rfl⟩ : ∃ m, n = m + 1 := ⟨n - 1, by omega⟩
  suffices hs : ∃ u S', callS Tryz.prog Sp (n + 1) 131 [y] (stL l) = some (u, S') ∧ (∃ g o, S' = stL (l ++ g) ∧ u.isCell = true ∧ Own l.length (l ++ g) 1 u rs o ∧ ∀ k, o = some k → l.length ≤ k) by
    obtain ⟨u, S', h, g, o, rfl, h2⟩ := hs; exact ⟨u, g, o, h, h2⟩
  refine runS (fun v h => h) Tryz.func131 rfl (by simp [Tryz.f131]) ?_
  refine Ev.seq rfl (Ev.reg' ?_)
  simp (maxSteps := 2000000) only [go_sem, Nat.reduceBEq, Nat.reduceLT, Nat.reduceAdd, Nat.reduceMul, Nat.reduceLeDiff, Nat.reduceEqDiff, decide_true, decide_false, reduceIte, and_true, true_and]
  refine Ev.seq rfl (Ev.seq rfl (Ev.reg' ?_))
  rcases rows_nils hy with ⟨rfl, h2, rfl⟩ | h2
  · simp (maxSteps := 2000000) only [go_sem, Nat.reduceBEq, Nat.reduceLT, Nat.reduceAdd, Nat.reduceMul, Nat.reduceLeDiff, Nat.reduceEqDiff, decide_true, decide_false, reduceIte, and_true, true_and, h2]
    refine Ev.cond' ?_
    simp (maxSteps := 2000000) only [go_sem, Nat.reduceBEq, Nat.reduceLT, Nat.reduceAdd, Nat.reduceMul, Nat.reduceLeDiff, Nat.reduceEqDiff, decide_true, decide_false, reduceIte, and_true, true_and]
    refine Ev.seq rfl (Ev.reg' ?_)
    simp (maxSteps := 2000000) only [go_sem, Nat.reduceBEq, Nat.reduceLT, Nat.reduceAdd, Nat.reduceMul, Nat.reduceLeDiff, Nat.reduceEqDiff, decide_true, decide_false, reduceIte, and_true, true_and]
    refine Ev.ret ?_
    simp (maxSteps := 2000000) only [go_sem, Nat.reduceBEq, Nat.reduceLT, Nat.reduceAdd, Nat.reduceMul, Nat.reduceLeDiff, Nat.reduceEqDiff, decide_true, decide_false, reduceIte, and_true, true_and]
    refine Ret.tmp rfl ?_
    simp (maxSteps := 2000000) only [go_sem, Nat.reduceBEq, Nat.reduceLT, Nat.reduceAdd, Nat.reduceMul, Nat.reduceLeDiff, Nat.reduceEqDiff, decide_true, decide_false, reduceIte, and_true, true_and]
    exact ⟨[], none, by simp, Own.nil .., nofun⟩
  simp (maxSteps := 2000000) only [go_sem, Nat.reduceBEq, Nat.reduceLT, Nat.reduceAdd, Nat.reduceMul, Nat.reduceLeDiff, Nat.reduceEqDiff, decide_true, decide_false, reduceIte, and_true, true_and, h2]
  refine Ev.cond' ?_
  simp (maxSteps := 2000000) only [go_sem, Nat.reduceBEq, Nat.reduceLT, Nat.reduceAdd, Nat.reduceMul, Nat.reduceLeDiff, Nat.reduceEqDiff, decide_true, decide_false, reduceIte, and_true, true_and]
  refine Ev.skip ?_
  simp (maxSteps := 2000000) only [go_sem, Nat.reduceBEq, Nat.reduceLT, Nat.reduceAdd, Nat.reduceMul, Nat.reduceLeDiff, Nat.reduceEqDiff, decide_true, decide_false, reduceIte, and_true, true_and]
  obtain ⟨u, l', o', hap, huc, hO, hlen, ho', hk⟩ := (own_new l 1).fill (P := Tryz.prog) Tryz.underlying27 sz85 hz85 (by simp) (rows_app hy) hr hb
  obtain ⟨g, rfl⟩ := app_of (l := l) (l' := l') fun i hi => by
    rw [hk i (by intro e; injection e with e; omega) (by simp; omega), List.getElem?_append_left hi]
  refine Ev.seq rfl (Ev.reg' ?_)
  simp (maxSteps := 2000000) only [go_sem, Nat.reduceBEq, Nat.reduceLT, Nat.reduceAdd, Nat.reduceMul, Nat.reduceLeDiff, Nat.reduceEqDiff, decide_true, decide_false, reduceIte, and_true, true_and, Nat.zero_mul, Nat.zero_le, if_true, hap]
  refine Ev.ret (Ret.tmp rfl ?_)
  simp (maxSteps := 2000000) only [go_sem, Nat.reduceBEq, Nat.reduceLT, Nat.reduceAdd, Nat.reduceMul, Nat.reduceLeDiff, Nat.reduceEqDiff, decide_true, decide_false, reduceIte, and_true, true_and]
  refine ⟨g, o', rfl, huc, hO, fun k hk => ?_⟩
  subst hk
  rcases ho' with e | e
  · injection e with e; omega
  · injection e with e; rw [List.length_append] at e; omega

end Cs

set_option linter.unusedVariables false
open Go Go.Vm Go.Proofs
namespace Cs
variable [Gl]
abbrev zT : List V := [.int .i64 0, .nils, .nils]
/-- A thread in the making. -/
structure TI (l : List Ob) (i2 i4 i5 : Nat) (c2 : List V) (pc : Int) (L : List Ob) (us : V) (rs : List (List V)) (os : Option Nat) (uc : V) (cs : List (List V)) (oc : Option Nat) : Prop where
  h2 : L[i2]? = some (.cells c2 0 [])
  h4 : L[i4]? = some (.cells zT 0 [])
  h5 : L[i5]? = some (.cells [.int .i64 pc, us, uc] 0 [])
  s : Own l.length L 2 us rs os
  c : Own l.length L 1 uc cs oc
  ns : ∀ k, os = some k → l.length ≤ k ∧ k ≠ i2 ∧ k ≠ i4 ∧ k ≠ i5 ∧ oc ≠ some k
  nc : ∀ k, oc = some k → l.length ≤ k ∧ k ≠ i2 ∧ k ≠ i4 ∧ k ≠ i5
  fr : ∀ i, i < l.length → L[i]? = l[i]?
  ne : i2 ≠ i5 ∧ i4 ≠ i5 ∧ l.length ≤ i5 ∧ l.length ≤ L.length
variable {l : List Ob} {i2 i4 i5 : Nat} {c2 : List V} {pc : Int} {L : List Ob} {us : V} {rs : List (List V)} {os : Option Nat} {uc : V} {cs : List (List V)} {oc : Option Nat}
theorem get_lt {i : Nat} {o : Ob} (h : L[i]? = some o) : i < L.length := (List.getElem?_eq_some_iff.1 h).1
theorem TI.ext (h : TI l i2 i4 i5 c2 pc L us rs os uc cs oc) (g : List Ob) : TI l i2 i4 i5 c2 pc (L ++ g) us rs os uc cs oc where
  h2 := by rw [List.getElem?_append_left (get_lt h.h2)]; exact h.h2
  h4 := by rw [List.getElem?_append_left (get_lt h.h4)]; exact h.h4
  h5 := by rw [List.getElem?_append_left (get_lt h.h5)]; exact h.h5
  s := h.s.keep fun k hk => by subst hk; rw [List.getElem?_append_left h.s.lt]
  c := h.c.keep fun k hk => by subst hk; rw [List.getElem?_append_left h.c.lt]
  ns := h.ns
  nc := h.nc
  fr i hi := by rw [List.getElem?_append_left (by have := h.ne; omega)]; exact h.fr i hi
  ne := ⟨h.ne.1, h.ne.2.1, h.ne.2.2.1, by have := h.ne.2.2.2; simp; omega⟩
/-- One more slot. -/
theorem TI.push1 {ty el : TypeId} (he : Tryz.prog.underlying ty = some (.slice el)) (hs : szT Tryz.prog el = some 2) (hz : Tryz.prog.bytesOf el ≤ 2 ^ 16 ∧ (zeroOf Tryz.prog el).map List.length = some 2)
    (h : TI l i2 i4 i5 c2 pc L us rs os uc cs oc) {y : V} {r : List V} (hy : rows L 2 y = some [r]) (hr : r.length = 2) (hb : rs.length + 1 ≤ 16777216) :
    ∃ u L', opAppend2 Tryz.prog ty us y (stL L) = some (u, stL L') ∧ u.isCell = true ∧ L'[i5]? = some (.cells [.int .i64 pc, us, uc] 0 []) ∧ TI l i2 i4 i5 c2 pc (L'.set i5 (.cells [.int .i64 pc, u, uc] 0 [])) u (rs ++ [r]) (some L.length) uc cs oc := by
  obtain ⟨u, L', hap, huc, hO, hlen, hk⟩ := h.s.push he hs hz h.ne.2.2.2 hy hr hb
  have k2 := get_lt h.h2
  have k4 := get_lt h.h4
  have k5 := get_lt h.h5
  have e5 : L'[i5]? = some (.cells [.int .i64 pc, us, uc] 0 []) := by rw [hk i5 (fun e => (h.ns _ e).2.2.2.1 rfl) k5]; exact h.h5
  refine ⟨u, L', hap, huc, e5, ?_⟩
  have ne := h.ne
  exact {
    h2 := by rw [List.getElem?_set_ne (by omega), hk i2 (fun e => (h.ns _ e).2.1 rfl) k2]; exact h.h2
    h4 := by rw [List.getElem?_set_ne (by omega), hk i4 (fun e => (h.ns _ e).2.2.1 rfl) k4]; exact h.h4
    h5 := by rw [List.getElem?_set_self (by omega)]
    s := hO.keep fun k e => by injection e with e; subst e; rw [List.getElem?_set_ne (by omega)]
    c := h.c.keep fun k e => by
      subst e
      have := h.nc k rfl
      rw [List.getElem?_set_ne (by omega), hk k (fun e => (h.ns _ e).2.2.2.2 rfl) h.c.lt]
    ns := fun k e => by
      injection e with e; subst e
      refine ⟨by omega, by omega, by omega, by omega, fun e => ?_⟩
      subst e
      have := h.c.lt
      omega
    nc := h.nc
    fr := fun i hi => by rw [List.getElem?_set_ne (by omega), hk i (fun e => by have := (h.ns _ e).1; omega) (by omega)]; exact h.fr i hi
    ne := ⟨ne.1, ne.2.1, ne.2.2.1, by simp; omega⟩ }
/-- One more counter. -/
theorem TI.push2 {ty el : TypeId} (he : Tryz.prog.underlying ty = some (.slice el)) (hs : szT Tryz.prog el = some 1) (hz : Tryz.prog.bytesOf el ≤ 2 ^ 16 ∧ (zeroOf Tryz.prog el).map List.length = some 1)
    (h : TI l i2 i4 i5 c2 pc L us rs os uc cs oc) {y : V} {r : List V} (hy : rows L 1 y = some [r]) (hr : r.length = 1) (hb : cs.length + 1 ≤ 16777216) :
    ∃ u L', opAppend2 Tryz.prog ty uc y (stL L) = some (u, stL L') ∧ u.isCell = true ∧ L'[i5]? = some (.cells [.int .i64 pc, us, uc] 0 []) ∧ TI l i2 i4 i5 c2 pc (L'.set i5 (.cells [.int .i64 pc, us, u] 0 [])) us rs os u (cs ++ [r]) (some L.length) := by
  obtain ⟨u, L', hap, huc, hO, hlen, hk⟩ := h.c.push he hs hz h.ne.2.2.2 hy hr hb
  have k2 := get_lt h.h2
  have k4 := get_lt h.h4
  have k5 := get_lt h.h5
  have e5 : L'[i5]? = some (.cells [.int .i64 pc, us, uc] 0 []) := by rw [hk i5 (fun e => (h.nc _ e).2.2.2 rfl) k5]; exact h.h5
  refine ⟨u, L', hap, huc, e5, ?_⟩
  have ne := h.ne
  exact {
    h2 := by rw [List.getElem?_set_ne (by omega), hk i2 (fun e => (h.nc _ e).2.1 rfl) k2]; exact h.h2
    h4 := by rw [List.getElem?_set_ne (by omega), hk i4 (fun e => (h.nc _ e).2.2.1 rfl) k4]; exact h.h4
    h5 := by rw [List.getElem?_set_self (by omega)]
    c := hO.keep fun k e => by injection e with e; subst e; rw [List.getElem?_set_ne (by omega)]
    s := h.s.keep fun k e => by
      subst e
      have := h.ns k rfl
      rw [List.getElem?_set_ne (by omega), hk k this.2.2.2.2 h.s.lt]
    nc := fun k e => by
      injection e with e; subst e
      exact ⟨by omega, by omega, by omega, by omega⟩
    ns := fun k e => by
      have := h.ns k e
      subst e
      have := h.s.lt
      refine ⟨by omega, by omega, by omega, by omega, fun e => ?_⟩
      injection e with e; omega
    fr := fun i hi => by rw [List.getElem?_set_ne (by omega), hk i (fun e => by have := (h.nc _ e).1; omega) (by omega)]; exact h.fr i hi
    ne := ⟨ne.1, ne.2.1, ne.2.2.1, by simp; omega⟩ }
end Cs

set_option linter.unusedVariables false
open Go Go.Vm Go.Proofs
namespace Cs
variable [Gl]
theorem bits_len1 (bits : List Nat) : ∀ r ∈ bits.map bitC, r.length = 1 := by
  intro r hr; obtain ⟨b, _, rfl⟩ := List.mem_map.1 hr; rfl
theorem bits_clo (bits : List Nat) : ∀ r ∈ bits.map bitC, cloL r = true := by
  intro r hr; obtain ⟨b, _, rfl⟩ := List.mem_map.1 hr; rfl
theorem cnt_len1 (l : List Int) : ∀ r ∈ l.map cntC, r.length = 1 := by
  intro r hr; obtain ⟨b, _, rfl⟩ := List.mem_map.1 hr; rfl
theorem cnt_clo (l : List Int) : ∀ r ∈ l.map cntC, cloL r = true := by
  intro r hr; obtain ⟨b, _, rfl⟩ := List.mem_map.1 hr; rfl
theorem map_bit_inj : ∀ {a b : List Nat}, a.map bitC = b.map bitC → a = b
  | [], [], _ => rfl
  | x :: a, y :: b, h => by
    simp only [List.map_cons, List.cons.injEq] at h
    obtain ⟨⟨h1, _⟩, h2⟩ := h
    injection h1 with _ h1
    rw [map_bit_inj h2, show x = y by exact_mod_cast h1]
  | [], _ :: _, h => by simp at h
  | _ :: _, [], h => by simp at h
theorem map_cnt_inj : ∀ {a b : List Int}, a.map cntC = b.map cntC → a = b
  | [], [], _ => rfl
  | x :: a, y :: b, h => by
    simp only [List.map_cons, List.cons.injEq] at h
    obtain ⟨⟨h1, _⟩, h2⟩ := h
    injection h1 with _ h1
    rw [map_cnt_inj h2, h1]
  | [], _ :: _, h => by simp at h
  | _ :: _, [], h => by simp at h
theorem RdV.inj {c : List V} {x y : Vc} (h : RdV c x) (h' : RdV c y) : x = y := by
  obtain ⟨v, rfl, h1, _⟩ := h
  obtain ⟨w, e, h2, _⟩ := h'
  simp only [List.cons.injEq, V.bool.injEq, and_true] at e
  obtain ⟨rfl, e⟩ := e
  rw [h1] at h2; injection h2 with h2
  exact Prod.ext (map_bit_inj h2) e
theorem all2_inj : ∀ {rs : List (List V)} {a b : List Vc}, All2 RdV rs a → All2 RdV rs b → a = b
  | [], [], [], _, _ => rfl
  | r :: rs, x :: a, y :: b, h, h' => by rw [h.1.inj h'.1, all2_inj h.2 h'.2]
  | [], _ :: _, _, h, _ => h.elim
  | [], [], _ :: _, _, h => h.elim
  | _ :: _, [], _, h, _ => h.elim
  | _ :: _, _ :: _, [], _, h => h.elim
theorem RdT.inj {v : V} {S T : Th} (h : RdT v S) (h' : RdT v T) : S = T := by
  obtain ⟨vs, vc, rs, rfl, h1, _, h2, h3, _⟩ := h
  obtain ⟨ws, wc, qs, e, g1, _, g2, g3, _⟩ := h'
  simp only [V.agg.injEq, List.cons.injEq, V.int.injEq, and_true, true_and] at e
  obtain ⟨e, rfl, rfl⟩ := e
  rw [h1] at g1; injection g1 with g1; subst g1
  rw [h3] at g3; injection g3 with g3
  cases S; cases T
  simp only at e h2 g2 g3
  rw [e, all2_inj h2 g2, map_cnt_inj g3]
theorem RdV.clo {c : List V} {x : Vc} (h : RdV c x) : cloL c = true := by
  obtain ⟨v, rfl, h1, k⟩ := h
  simp only [cloL_cons, cloL_nil, clo_bool, k, Bool.and_true]
theorem RdV.len {c : List V} {x : Vc} (h : RdV c x) : c.length = 2 := by obtain ⟨v, rfl, _⟩ := h; rfl
theorem RdT.clo {v : V} {T : Th} (h : RdT v T) : Vm.clo v = true := by
  obtain ⟨vs, vc, rs, rfl, h1, k1, h2, h3, k2⟩ := h
  simp only [clo_agg, cloL_cons, cloL_nil, clo_int, k1, k2, Bool.and_true]
theorem rdv_zero : RdV [.nils, .bool false] vz := ⟨.nils, rfl, rfl, rfl⟩
theorem all2_get {α β : Type} {R : α → β → Prop} : ∀ {xs : List α} {ys : List β}, All2 R xs ys → ∀ {j : Nat} {b : β}, ys[j]? = some b → ∃ a, xs[j]? = some a ∧ R a b
  | a :: xs, b :: ys, h, 0, x, e => by simp at e; subst e; exact ⟨a, rfl, h.1⟩
  | a :: xs, b :: ys, h, j + 1, x, e => by simpa using all2_get h.2 (by simpa using e)
  | [], [], _, _, _, e => by simp at e
  | [], _ :: _, h, _, _, _ => h.elim
  | _ :: _, [], h, _, _, _ => h.elim
theorem all2_snoc {α β : Type} {R : α → β → Prop} {a : α} {b : β} (hab : R a b) : ∀ {xs : List α} {ys : List β}, All2 R xs ys → All2 R (xs ++ [a]) (ys ++ [b])
  | [], [], _ => ⟨hab, trivial⟩
  | _ :: _, _ :: _, h => ⟨h.1, all2_snoc hab h.2⟩
  | [], _ :: _, h => h.elim
  | _ :: _, [], h => h.elim
/-- A live vector of one's own, frozen. -/
theorem rdv_fz {lo : Nat} {l : List Ob} {u : V} {bits : List Nat} {s : Bool} {o : Option Nat} (h : Own lo l 1 u (bits.map bitC) o) : ∃ c', Fz l 3 (.agg [u, .bool s]) (.agg c') ∧ RdV c' (bits, s) := by
  obtain ⟨v', f1, f2, f3⟩ := h.fz (bits_clo _)
  exact ⟨[v', .bool s], Fz.agg (k := 2) ⟨f1, (Fz.clo rfl).mono (by omega), trivial⟩, v', rfl, f2, f3⟩
theorem vclone_kc {c : List V} {x : Vc} (h : RdV c x) (hl : x.1.length ≤ 300) : KC Tryz.prog Sp 59 [.agg c] := by
  obtain ⟨vb, rfl, h1, k1⟩ := h
  obtain ⟨bits, s⟩ := x
  simp only at hl h1
  refine kc_of mix Tryz.func59 rfl (by simp [Tryz.f59]) (by simp only [cloL_cons, cloL_nil, clo_agg, clo_bool, k1, Bool.and_true]) 5 ?_
  have c1 := rows_cell h1
  obtain ⟨u, g, o, hc, huc, hO, ho⟩ := cl131_run (l := [.cells [vb, .bool s] 0 [], .cells [.nils, .bool false] 0 []]) (rows_app (l := []) h1) (bits_len1 _) (by simp; omega) 5 (by omega)
  simp only [List.cons_append, List.nil_append] at hc hO
  have u2 := okC_cell huc
  have u3 := cells_cell huc
  refine Ev.seq rfl (Ev.reg' ?_)
  simp (maxSteps := 2000000) only [go_sem, Nat.reduceBEq, Nat.reduceLT, Nat.reduceAdd, Nat.reduceMul, Nat.reduceLeDiff, Nat.reduceEqDiff, decide_true, decide_false, reduceIte, and_true, true_and]
  refine Ev.seq rfl (Ev.regDX rfl (by kernel_rfl) [(4, 2)] (by kernel_rfl) (fun T Z B R htr p hp => ?_) ?_)
  · have a1 : T 4 6 = .ptr (idOf 0) 1 := htr.at 4 (by decide) (X := fun t _ => t 6 = .ptr (idOf 0) 1) (by simp (maxSteps := 2000000) only [go_sem, Nat.reduceBEq, Nat.reduceLT, Nat.reduceAdd, Nat.reduceMul, Nat.reduceLeDiff, Nat.reduceEqDiff, decide_true, decide_false, reduceIte, and_true, true_and, hc])
    have a2 : Z 2 = stL [.cells [vb, .bool s] 0 [], .cells [.nils, .bool false] 0 []] := htr.at 2 (by decide) (X := fun _ S => S = stL [.cells [vb, .bool s] 0 [], .cells [.nils, .bool false] 0 []]) (by simp (maxSteps := 2000000) only [go_sem, Nat.reduceBEq, Nat.reduceLT, Nat.reduceAdd, Nat.reduceMul, Nat.reduceLeDiff, Nat.reduceEqDiff, decide_true, decide_false, reduceIte, and_true, true_and, hc])
    have a3 : Z 3 = stL (.cells [vb, .bool s] 0 [] :: .cells [.nils, .bool false] 0 [] :: g) := htr.at 3 (by decide) (X := fun _ S => S = stL (.cells [vb, .bool s] 0 [] :: .cells [.nils, .bool false] 0 [] :: g)) (by simp (maxSteps := 2000000) only [go_sem, Nat.reduceBEq, Nat.reduceLT, Nat.reduceAdd, Nat.reduceMul, Nat.reduceLeDiff, Nat.reduceEqDiff, decide_true, decide_false, reduceIte, and_true, true_and, hc])
    simp only [List.mem_cons, List.not_mem_nil, or_false] at hp
    subst hp
    refine LookOK.of_load rfl ?_
    simp (maxSteps := 2000000) only [go_sem, Nat.reduceBEq, Nat.reduceLT, Nat.reduceAdd, Nat.reduceMul, Nat.reduceLeDiff, Nat.reduceEqDiff, decide_true, decide_false, reduceIte, and_true, true_and, a1, a2, a3]
  simp (maxSteps := 2000000) only [go_sem, Nat.reduceBEq, Nat.reduceLT, Nat.reduceAdd, Nat.reduceMul, Nat.reduceLeDiff, Nat.reduceEqDiff, decide_true, decide_false, reduceIte, and_true, true_and, hc, u2, u3, over, Nat.zero_le, Nat.le_refl]
  refine Ev.ret (Ret.cell rfl (v := .agg [u, .bool s]) (by simp (maxSteps := 2000000) only [go_sem, Nat.reduceBEq, Nat.reduceLT, Nat.reduceAdd, Nat.reduceMul, Nat.reduceLeDiff, Nat.reduceEqDiff, decide_true, decide_false, reduceIte, and_true, true_and]) ?_)
  have hO2 : Own 2 (.cells [vb, .bool s] 0 [] :: .cells [u, .bool s] 0 [] :: g) 1 u (bits.map bitC) o := hO.keep fun k hk => by
    have := ho k hk
    obtain ⟨k, rfl⟩ : ∃ j, k = j + 2 := ⟨k - 2, by simp at this; omega⟩
    rfl
  obtain ⟨c', f1, f2⟩ := rdv_fz (s := s) hO2
  refine fin_of f1 fun c0 x0 e hx => ?_
  injection e with e; injection e with e; subst e
  rw [hx.inj (y := (bits, s)) ⟨vb, rfl, h1, k1⟩]
  exact ⟨c', rfl, f2⟩
theorem copied_kc {c : List V} {x : Vc} (h : RdV c x) (hl : x.1.length ≤ 300) : KC Tryz.prog Sp 17 [.agg c] := by
  obtain ⟨vb, rfl, h1, k1⟩ := h
  obtain ⟨bits, s⟩ := x
  simp only at hl h1
  refine kc_of mix Tryz.func17 rfl (by simp [Tryz.f17]) (by simp only [cloL_cons, cloL_nil, clo_agg, clo_bool, k1, Bool.and_true]) 5 ?_
  have c1 := rows_cell h1
  obtain ⟨u, l', o, hap, huc, hO, hlen, ho, hk⟩ := (own_new [.cells [vb, .bool s] 0 [], .cells [.nils, .bool false] 0 []] 1).fill (P := Tryz.prog) Tryz.underlying27 sz85 hz85 (by simp) (rows_app (l := []) h1) (bits_len1 _) (by simp; omega)
  obtain ⟨g, rfl⟩ := app_of (l := [.cells [vb, .bool s] 0 [], .cells [.nils, .bool false] 0 []]) (l' := l') fun i hi => by
    rw [hk i (by intro e; injection e with e; simp at e hi; omega) (by simp at hi ⊢; omega), List.getElem?_append_left hi]
  simp only [List.cons_append, List.nil_append, List.length_cons, List.length_nil, Nat.zero_add, Nat.reduceAdd] at hap hO ho
  have u2 := okC_cell huc
  have u3 := cells_cell huc
  refine Ev.seq rfl (Ev.reg' ?_)
  simp (maxSteps := 2000000) only [go_sem, Nat.reduceBEq, Nat.reduceLT, Nat.reduceAdd, Nat.reduceMul, Nat.reduceLeDiff, Nat.reduceEqDiff, decide_true, decide_false, reduceIte, and_true, true_and]
  refine Ev.seq rfl (Ev.regDX rfl (by kernel_rfl) [(5, 3)] (by kernel_rfl) (fun T Z B R htr p hp => ?_) ?_)
  · have a1 : T 5 7 = .ptr (idOf 0) 1 := htr.at 5 (by decide) (X := fun t _ => t 7 = .ptr (idOf 0) 1) (by simp (maxSteps := 2000000) only [go_sem, Nat.reduceBEq, Nat.reduceLT, Nat.reduceAdd, Nat.reduceMul, Nat.reduceLeDiff, Nat.reduceEqDiff, decide_true, decide_false, reduceIte, and_true, true_and, hap, Nat.zero_mul, Nat.zero_le, if_true])
    have a2 : Z 3 = stL [.cells [vb, .bool s] 0 [], .cells [.nils, .bool false] 0 [], .cells [] 0 []] := htr.at 3 (by decide) (X := fun _ S => S = stL [.cells [vb, .bool s] 0 [], .cells [.nils, .bool false] 0 [], .cells [] 0 []]) (by simp (maxSteps := 2000000) only [go_sem, Nat.reduceBEq, Nat.reduceLT, Nat.reduceAdd, Nat.reduceMul, Nat.reduceLeDiff, Nat.reduceEqDiff, decide_true, decide_false, reduceIte, and_true, true_and, hap, Nat.zero_mul, Nat.zero_le, if_true])
    have a3 : Z 4 = stL (.cells [vb, .bool s] 0 [] :: .cells [.nils, .bool false] 0 [] :: g) := htr.at 4 (by decide) (X := fun _ S => S = stL (.cells [vb, .bool s] 0 [] :: .cells [.nils, .bool false] 0 [] :: g)) (by simp (maxSteps := 2000000) only [go_sem, Nat.reduceBEq, Nat.reduceLT, Nat.reduceAdd, Nat.reduceMul, Nat.reduceLeDiff, Nat.reduceEqDiff, decide_true, decide_false, reduceIte, and_true, true_and, hap, Nat.zero_mul, Nat.zero_le, if_true])
    simp only [List.mem_cons, List.not_mem_nil, or_false] at hp
    subst hp
    refine LookOK.of_load rfl ?_
    simp (maxSteps := 2000000) only [go_sem, Nat.reduceBEq, Nat.reduceLT, Nat.reduceAdd, Nat.reduceMul, Nat.reduceLeDiff, Nat.reduceEqDiff, decide_true, decide_false, reduceIte, and_true, true_and, a1, a2, a3]
  simp (maxSteps := 2000000) only [go_sem, Nat.reduceBEq, Nat.reduceLT, Nat.reduceAdd, Nat.reduceMul, Nat.reduceLeDiff, Nat.reduceEqDiff, decide_true, decide_false, reduceIte, and_true, true_and, hap, u2, u3, over, Nat.zero_mul, Nat.zero_le, if_true, Nat.le_refl]
  refine Ev.ret (Ret.cell rfl (v := .agg [u, .bool s]) (by simp (maxSteps := 2000000) only [go_sem, Nat.reduceBEq, Nat.reduceLT, Nat.reduceAdd, Nat.reduceMul, Nat.reduceLeDiff, Nat.reduceEqDiff, decide_true, decide_false, reduceIte, and_true, true_and]) ?_)
  have hO2 : Own 2 (.cells [vb, .bool s] 0 [] :: .cells [u, .bool s] 0 [] :: g) 1 u (bits.map bitC) o := hO.keep fun k hk => by
    subst hk
    have : k = 2 ∨ k = 3 := by rcases ho with e | e <;> injection e with e <;> omega
    rcases this with rfl | rfl <;> rfl
  obtain ⟨c', f1, f2⟩ := rdv_fz (s := s) hO2
  refine fin_of f1 fun c0 x0 e hx => ?_
  injection e with e; injection e with e; subst e
  rw [hx.inj (y := (bits, s)) ⟨vb, rfl, h1, k1⟩]
  exact ⟨c', rfl, f2⟩
theorem slot_kc {t : V} {T : Th} {k : Nat} (h : RdT t T) (hk : k < 4611686018427387904) (hl : T.slots.length ≤ 5000) : KC Tryz.prog Sp 18 [t, .int .i64 (k : Int)] := by
  have hcl := h.clo
  have h0 := h
  obtain ⟨vs, vc, rs, rfl, h1, k1, h2, h3, k2⟩ := h
  refine kc_of mix Tryz.func18 rfl (by simp [Tryz.f18]) (by simp only [cloL_cons, cloL_nil, hcl, clo_int, Bool.and_true]) 5 ?_
  have c1 := rows_cell h1
  have c2 := rows_cell h3
  have l1 := rows_len h1
  rw [h2.length] at l1
  refine Ev.seq rfl (Ev.reg' ?_)
  simp (maxSteps := 2000000) only [go_sem, Nat.reduceBEq, Nat.reduceLT, Nat.reduceAdd, Nat.reduceMul, Nat.reduceLeDiff, Nat.reduceEqDiff, decide_true, decide_false, reduceIte, and_true, true_and]
  refine Ev.seq rfl (Ev.seq rfl (Ev.reg' ?_))
  simp (maxSteps := 2000000) only [go_sem, Nat.reduceBEq, Nat.reduceLT, Nat.reduceAdd, Nat.reduceMul, Nat.reduceLeDiff, Nat.reduceEqDiff, decide_true, decide_false, reduceIte, and_true, true_and, l1]
  refine Ev.cond' ?_
  simp (maxSteps := 2000000) only [go_sem, Nat.reduceBEq, Nat.reduceLT, Nat.reduceAdd, Nat.reduceMul, Nat.reduceLeDiff, Nat.reduceEqDiff, decide_true, decide_false, reduceIte, and_true, true_and]
  by_cases hj : (k : Int) < (T.slots.length : Int)
  · have hj' : k < T.slots.length := by exact_mod_cast hj
    obtain ⟨c, hc1, hc2⟩ := all2_get h2 (List.getElem?_eq_getElem hj')
    obtain ⟨a, ra, ha1, ha2⟩ := rows_idx (rows_app (g := [.cells [.int .i64 T.pc, vs, vc] 0 [], .cells [.nils, .bool false] 0 []]) h1) hc1 .i64
    simp only [List.nil_append] at ha2
    simp only [hj, decide_true, wpC_true]
    refine Ev.seq rfl (Ev.reg' ?_)
    simp (maxSteps := 2000000) only [go_sem, Nat.reduceBEq, Nat.reduceLT, Nat.reduceAdd, Nat.reduceMul, Nat.reduceLeDiff, Nat.reduceEqDiff, decide_true, decide_false, reduceIte, and_true, true_and, ha1, ha2, takeN_app hc2.len, hc2.len, over_all, Nat.zero_le, Nat.le_refl]
    refine Ev.ret ?_
    simp (maxSteps := 2000000) only [go_sem, Nat.reduceBEq, Nat.reduceLT, Nat.reduceAdd, Nat.reduceMul, Nat.reduceLeDiff, Nat.reduceEqDiff, decide_true, decide_false, reduceIte, and_true, true_and]
    refine Ret.cell rfl (v := .agg c) (by obtain ⟨w, rfl, _⟩ := hc2; simp (maxSteps := 2000000) only [go_sem, Nat.reduceBEq, Nat.reduceLT, Nat.reduceAdd, Nat.reduceMul, Nat.reduceLeDiff, Nat.reduceEqDiff, decide_true, decide_false, reduceIte, and_true, true_and]) ?_
    refine fin_of ((Fz.clo (by rw [clo_agg]; exact hc2.clo))) fun t0 T0 k0 e hT => ?_
    simp only [List.cons.injEq, V.int.injEq, and_true, true_and] at e
    obtain ⟨rfl, e⟩ := e
    have e : k = k0 := by exact_mod_cast e
    subst e
    rw [hT.inj h0]
    refine ⟨c, rfl, ?_⟩
    rw [List.getD_eq_getElem?_getD, List.getElem?_eq_getElem hj']
    exact hc2
  · have hj' : ¬ k < T.slots.length := fun h => hj (by exact_mod_cast h)
    simp only [hj, decide_false, wpC_false]
    refine Ev.skip ?_
    simp (maxSteps := 2000000) only [go_sem, Nat.reduceBEq, Nat.reduceLT, Nat.reduceAdd, Nat.reduceMul, Nat.reduceLeDiff, Nat.reduceEqDiff, decide_true, decide_false, reduceIte, and_true, true_and]
    refine Ev.seq rfl (Ev.reg' ?_)
    simp (maxSteps := 2000000) only [go_sem, Nat.reduceBEq, Nat.reduceLT, Nat.reduceAdd, Nat.reduceMul, Nat.reduceLeDiff, Nat.reduceEqDiff, decide_true, decide_false, reduceIte, and_true, true_and, over_all, Nat.zero_le, Nat.le_refl]
    refine Ev.ret (Ret.cell rfl (v := .agg [.nils, .bool false]) (by simp (maxSteps := 2000000) only [go_sem, Nat.reduceBEq, Nat.reduceLT, Nat.reduceAdd, Nat.reduceMul, Nat.reduceLeDiff, Nat.reduceEqDiff, decide_true, decide_false, reduceIte, and_true, true_and]) ?_)
    refine fin_of (Fz.clo rfl) fun t0 T0 k0 e hT => ?_
    simp only [List.cons.injEq, V.int.injEq, and_true, true_and] at e
    obtain ⟨rfl, e⟩ := e
    have e : k = k0 := by exact_mod_cast e
    subst e
    rw [hT.inj h0]
    refine ⟨_, rfl, ?_⟩
    rw [List.getD_eq_getElem?_getD, List.getElem?_eq_none (by omega)]
    exact rdv_zero
end Cs

set_option linter.unusedVariables false
open Go Go.Vm Go.Proofs
namespace Cs
variable [Gl]
/-- A live thread. -/
def LvT (l g : List Ob) (T : Th) (v : V) : Prop := ∃ us uc rs os oc, v = .agg [.int .i64 T.pc, us, uc] ∧ us.isCell = true ∧ uc.isCell = true ∧ Own l.length (l ++ g) 2 us rs os ∧ All2 RdV rs T.slots ∧ Own l.length (l ++ g) 1 uc (T.counts.map cntC) oc ∧ (∀ j, os = some j → l.length ≤ j) ∧ (∀ j, oc = some j → l.length ≤ j) ∧ ∀ j, os = some j → oc ≠ some j
theorem tclone_run {l : List Ob} {t : V} {T : Th} {k : Int} (h : RdT t T) (hS : Small T) (hk : -1 ≤ k ∧ k ≤ 4096) (n : Nat) (hn : 6000 ≤ n) :
    ∃ u g, callS Tryz.prog Sp n 30 [t, .int .i64 k] (stL l) = some (u, stL (l ++ g)) ∧ LvT l g (pad k T) u := by
  obtain ⟨n, rfl⟩ : ∃ m, n = m + 1 := ⟨n - 1, by omega⟩
  suffices hs : ∃ u S', callS Tryz.prog Sp (n + 1) 30 [t, .int .i64 k] (stL l) = some (u, S') ∧ (∃ g, S' = stL (l ++ g) ∧ LvT l g (pad k T) u) by
    obtain ⟨u, S', h, g, rfl, h2⟩ := hs; exact ⟨u, g, h, h2⟩
  obtain ⟨vs, vc, rs0, rfl, h1, k1, h2, h3, k2⟩ := h
  obtain ⟨s1, s2, s3⟩ := hS
  refine runS (fun v h => h) Tryz.func30 rfl (by simp [Tryz.f30]) ?_
  have c1 := rows_cell h1
  have c2 := rows_cell h3
  have l1 := rows_len h1
  rw [h2.length] at l1
  obtain ⟨u0, g1, o1, hc, huc, hO, ho⟩ := cl58_run (l := l ++ [.cells [.int .i64 T.pc, vs, vc] 0 [], .cells zT 0 []]) (rows_app (l := []) h3) (cnt_len1 _) (by simp; omega) n (by omega)
  simp only [List.append_assoc, List.cons_append, List.nil_append] at hc hO
  have u2 := okC_cell huc
  have u3 := cells_cell huc
  refine Ev.seq rfl (Ev.reg' ?_)
  simp (maxSteps := 2000000) only [go_sem, Nat.reduceBEq, Nat.reduceLT, Nat.reduceAdd, Nat.reduceMul, Nat.reduceLeDiff, Nat.reduceEqDiff, decide_true, decide_false, reduceIte, and_true, true_and]
  refine Ev.seq rfl (Ev.regDX rfl (by kernel_rfl) [(1, 4)] (by kernel_rfl) (fun T' Z B R htr p hp => ?_) ?_)
  · have a1 : T' 1 8 = .ptr (idOf l.length) 0 := htr.at 1 (by decide) (X := fun t _ => t 8 = .ptr (idOf l.length) 0) (by simp (maxSteps := 2000000) only [go_sem, Nat.reduceBEq, Nat.reduceLT, Nat.reduceAdd, Nat.reduceMul, Nat.reduceLeDiff, Nat.reduceEqDiff, decide_true, decide_false, reduceIte, and_true, true_and, hc])
    have a2 : Z 4 = stL (l ++ [.cells [.int .i64 T.pc, vs, vc] 0 [], .cells zT 0 []]) := htr.at 4 (by decide) (X := fun _ S => S = stL (l ++ [.cells [.int .i64 T.pc, vs, vc] 0 [], .cells zT 0 []])) (by simp (maxSteps := 2000000) only [go_sem, Nat.reduceBEq, Nat.reduceLT, Nat.reduceAdd, Nat.reduceMul, Nat.reduceLeDiff, Nat.reduceEqDiff, decide_true, decide_false, reduceIte, and_true, true_and, hc])
    have a3 : Z 5 = stL (l ++ .cells [.int .i64 T.pc, vs, vc] 0 [] :: .cells zT 0 [] :: g1) := htr.at 5 (by decide) (X := fun _ S => S = stL (l ++ .cells [.int .i64 T.pc, vs, vc] 0 [] :: .cells zT 0 [] :: g1)) (by simp (maxSteps := 2000000) only [go_sem, Nat.reduceBEq, Nat.reduceLT, Nat.reduceAdd, Nat.reduceMul, Nat.reduceLeDiff, Nat.reduceEqDiff, decide_true, decide_false, reduceIte, and_true, true_and, hc])
    simp only [List.mem_cons, List.not_mem_nil, or_false] at hp
    subst hp
    refine LookOK.of_load rfl ?_
    simp (maxSteps := 2000000) only [go_sem, Nat.reduceBEq, Nat.reduceLT, Nat.reduceAdd, Nat.reduceMul, Nat.reduceLeDiff, Nat.reduceEqDiff, decide_true, decide_false, reduceIte, and_true, true_and, a1, a2, a3]
  simp (maxSteps := 2000000) only [go_sem, Nat.reduceBEq, Nat.reduceLT, Nat.reduceAdd, Nat.reduceMul, Nat.reduceLeDiff, Nat.reduceEqDiff, decide_true, decide_false, reduceIte, and_true, true_and, hc, u2, u3, over, Nat.zero_le, Nat.le_refl]
  obtain ⟨i5, e5⟩ : ∃ i, i = l.length + (g1.length + 1 + 1) := ⟨_, rfl⟩
  obtain ⟨L1, eL⟩ : ∃ L, L = l ++ .cells [.int .i64 T.pc, vs, vc] 0 [] :: .cells zT 0 [] :: (g1 ++ [.cells [.int .i64 T.pc, .nils, u0] 0 []]) := ⟨_, rfl⟩
  have hT1 : TI l l.length (l.length + 1) i5 [.int .i64 T.pc, vs, vc] T.pc L1 .nils [] none u0 (T.counts.map cntC) o1 := by
    subst eL e5
    have eL : l ++ .cells [.int .i64 T.pc, vs, vc] 0 [] :: .cells zT 0 [] :: (g1 ++ [.cells [.int .i64 T.pc, .nils, u0] 0 []]) = (l ++ .cells [.int .i64 T.pc, vs, vc] 0 [] :: .cells zT 0 [] :: g1) ++ [.cells [.int .i64 T.pc, .nils, u0] 0 []] := by simp
    exact {
      h2 := by rw [gx0]; rfl
      h4 := by rw [gxs]; rfl
      h5 := by rw [gxs, List.getElem?_cons_succ, List.getElem?_cons_succ, gx0]; rfl
      s := Own.nil ..
      c := (hO.low (by simp)).keep fun k hk => by subst hk; rw [eL, List.getElem?_append_left hO.lt]
      ns := nofun
      nc := fun k hk => by
        have := ho k hk
        subst hk
        have := hO.lt
        simp at *
        omega
      fr := fun i hi => by rw [List.getElem?_append_left hi]
      ne := ⟨by omega, by omega, by omega, by simp⟩ }
  rw [← e5, ← eL]
  refine Ev.seq rfl (Ev.seq rfl (Ev.reg' ?_))
  have g5 := hT1.h2
  simp (maxSteps := 2000000) only [go_sem, Nat.reduceBEq, Nat.reduceLT, Nat.reduceAdd, Nat.reduceMul, Nat.reduceLeDiff, Nat.reduceEqDiff, decide_true, decide_false, reduceIte, and_true, true_and, g5, l1]
  refine Ev.block (Ev.loop (fun m t S => t 1 = .int .i64 k ∧ t 4 = .ptr (idOf (l.length + 1)) 0 ∧ t 5 = .ptr (idOf i5) 0 ∧ t 15 = vs ∧ t 16 = .int .i64 (T.slots.length : Int) ∧ ∃ L us rs os, S = stL L ∧ TI l l.length (l.length + 1) i5 [.int .i64 T.pc, vs, vc] T.pc L us rs os u0 (T.counts.map cntC) o1 ∧ ∃ j : Nat, t 17 = .int .i64 (j : Int) ∧ j + m = T.slots.length ∧ All2 RdV rs (T.slots.take j)) T.slots.length (by omega) ?_ ?_)
  · simp (maxSteps := 2000000) only [go_sem, Nat.reduceBEq, Nat.reduceLT, Nat.reduceAdd, Nat.reduceMul, Nat.reduceLeDiff, Nat.reduceEqDiff, decide_true, decide_false, reduceIte, and_true, true_and]
    exact ⟨L1, .nils, [], none, rfl, hT1, 0, rfl, by omega, by simp [All2]⟩
  · intro m t S ⟨i1, i4, it5, i15, i16, L, us, rs, os, iS, hT, j, i17, hjm, hA⟩
    subst iS
    refine Ev.seq rfl (Ev.reg' ?_)
    simp (maxSteps := 2000000) only [go_sem, Nat.reduceBEq, Nat.reduceLT, Nat.reduceAdd, Nat.reduceMul, Nat.reduceLeDiff, Nat.reduceEqDiff, decide_true, decide_false, reduceIte, and_true, true_and, i16, i17]
    refine Ev.seq rfl (Ev.cond' ?_)
    simp (maxSteps := 2000000) only [go_sem, Nat.reduceBEq, Nat.reduceLT, Nat.reduceAdd, Nat.reduceMul, Nat.reduceLeDiff, Nat.reduceEqDiff, decide_true, decide_false, reduceIte, and_true, true_and]
    by_cases hj : (j : Int) < (T.slots.length : Int)
    rotate_left
    · have hj' : ¬ j < T.slots.length := fun h => hj (by exact_mod_cast h)
      simp only [hj, decide_false, wpC_false]
      refine Ev.exit ?_
      simp (maxSteps := 2000000) only [go_sem, Nat.reduceBEq, Nat.reduceLT, Nat.reduceAdd, Nat.reduceMul, Nat.reduceLeDiff, Nat.reduceEqDiff, decide_true, decide_false, reduceIte, and_true, true_and]
      rw [List.take_of_length_le (by omega)] at hA
      clear i15 i16 i17 hjm hj hj'
      obtain ⟨N1, hN1⟩ : ∃ N, N = (k + 1).toNat - T.slots.length := ⟨_, rfl⟩
      refine Ev.seq rfl (Ev.block (Ev.loop (fun m t S => t 1 = .int .i64 k ∧ t 4 = .ptr (idOf (l.length + 1)) 0 ∧ t 5 = .ptr (idOf i5) 0 ∧ ∃ L us rs os, S = stL L ∧ TI l l.length (l.length + 1) i5 [.int .i64 T.pc, vs, vc] T.pc L us rs os u0 (T.counts.map cntC) o1 ∧ ∃ j : Nat, j + m = N1 ∧ All2 RdV rs (T.slots ++ List.replicate j vz)) N1 (by omega) ?_ ?_))
      · exact ⟨i1, i4, it5, L, us, rs, os, rfl, hT, 0, by omega, by simpa using hA⟩
      clear hA hT i1 i4 it5
      intro m t S ⟨i1, i4, it5, L, us, rs, os, iS, hT, j, hjm, hA⟩
      subst iS
      have g5 := hT.h5
      have l2 := rows_len hT.s.rows
      have l3 := hA.length
      simp only [List.length_append, List.length_replicate] at l3
      refine Ev.seq rfl (Ev.seq rfl (Ev.reg' ?_))
      simp (maxSteps := 2000000) only [go_sem, Nat.reduceBEq, Nat.reduceLT, Nat.reduceAdd, Nat.reduceMul, Nat.reduceLeDiff, Nat.reduceEqDiff, decide_true, decide_false, reduceIte, and_true, true_and, i1, it5, g5, l2]
      refine Ev.cond' ?_
      simp (maxSteps := 2000000) only [go_sem, Nat.reduceBEq, Nat.reduceLT, Nat.reduceAdd, Nat.reduceMul, Nat.reduceLeDiff, Nat.reduceEqDiff, decide_true, decide_false, reduceIte, and_true, true_and]
      by_cases hj : (rs.length : Int) ≤ k
      rotate_left
      · simp only [hj, decide_false, wpC_false]
        refine Ev.exit ?_
        simp (maxSteps := 2000000) only [go_sem, Nat.reduceBEq, Nat.reduceLT, Nat.reduceAdd, Nat.reduceMul, Nat.reduceLeDiff, Nat.reduceEqDiff, decide_true, decide_false, reduceIte, and_true, true_and]
        have hj0 : j = N1 := by omega
        subst hj0
        rw [hN1] at hA
        clear hjm hj l3 l2
        obtain ⟨N2, hN2⟩ : ∃ N, N = (k + 1).toNat - T.counts.length := ⟨_, rfl⟩
        refine Ev.seq rfl (Ev.block (Ev.loop (fun m t S => t 1 = .int .i64 k ∧ t 4 = .ptr (idOf (l.length + 1)) 0 ∧ t 5 = .ptr (idOf i5) 0 ∧ ∃ L uc oc, S = stL L ∧ uc.isCell = true ∧ ∃ j : Nat, j + m = N2 ∧ TI l l.length (l.length + 1) i5 [.int .i64 T.pc, vs, vc] T.pc L us rs os uc ((T.counts ++ List.replicate j 0).map cntC) oc) N2 (by omega) ?_ ?_))
        · exact ⟨i1, i4, it5, L, u0, o1, rfl, huc, 0, by omega, by simpa using hT⟩
        clear hT i1 i4 it5 g5
        intro m t S ⟨i1, i4, it5, L, uc, oc, iS, hucc, j2, hjm, hT⟩
        subst iS
        have g5 := hT.h5
        have l2 := rows_len hT.c.rows
        simp only [List.length_map, List.length_append, List.length_replicate] at l2
        refine Ev.seq rfl (Ev.seq rfl (Ev.reg' ?_))
        simp (maxSteps := 2000000) only [go_sem, Nat.reduceBEq, Nat.reduceLT, Nat.reduceAdd, Nat.reduceMul, Nat.reduceLeDiff, Nat.reduceEqDiff, decide_true, decide_false, reduceIte, and_true, true_and, i1, it5, g5, l2]
        refine Ev.cond' ?_
        simp (maxSteps := 2000000) only [go_sem, Nat.reduceBEq, Nat.reduceLT, Nat.reduceAdd, Nat.reduceMul, Nat.reduceLeDiff, Nat.reduceEqDiff, decide_true, decide_false, reduceIte, and_true, true_and]
        by_cases hj : ((T.counts.length + j2 : Nat) : Int) ≤ k
        rotate_left
        · simp only [hj, decide_false, wpC_false]
          refine Ev.exit ?_
          simp (maxSteps := 2000000) only [go_sem, Nat.reduceBEq, Nat.reduceLT, Nat.reduceAdd, Nat.reduceMul, Nat.reduceLeDiff, Nat.reduceEqDiff, decide_true, decide_false, reduceIte, and_true, true_and]
          have hj0 : j2 = N2 := by omega
          subst hj0
          rw [hN2] at hT
          have g4 := hT.h4
          refine Ev.seq rfl (Ev.reg' ?_)
          simp (maxSteps := 2000000) only [go_sem, Nat.reduceBEq, Nat.reduceLT, Nat.reduceAdd, Nat.reduceMul, Nat.reduceLeDiff, Nat.reduceEqDiff, decide_true, decide_false, reduceIte, and_true, true_and, it5, i4, g5, g4, over_all, Nat.zero_le, Nat.le_refl]
          refine Ev.ret (Ret.cell rfl (v := .agg [.int .i64 T.pc, us, uc]) (by simp (maxSteps := 2000000) only [go_sem, Nat.reduceBEq, Nat.reduceLT, Nat.reduceAdd, Nat.reduceMul, Nat.reduceLeDiff, Nat.reduceEqDiff, decide_true, decide_false, reduceIte, and_true, true_and, i4, List.getElem?_set_self (get_lt g4)]) ?_)
          have k4 := get_lt g4
          obtain ⟨g, eg⟩ := app_of (l := l) (l' := L.set (l.length + 1) (.cells [.int .i64 T.pc, us, uc] 0 [])) fun i hi => by rw [List.getElem?_set_ne (by omega)]; exact hT.fr i hi
          refine ⟨g, by rw [eg], us, uc, rs, os, oc, rfl, hT.s.cell, hucc, ?_, hA, ?_, fun j hj => (hT.ns j hj).1, fun j hj => (hT.nc j hj).1, fun j hj => (hT.ns j hj).2.2.2.2⟩
          · rw [← eg]; exact hT.s.keep fun j hj => by rw [List.getElem?_set_ne (by have := (hT.ns j hj).2.2.1; omega)]
          · rw [← eg]; exact hT.c.keep fun j hj => by rw [List.getElem?_set_ne (by have := (hT.nc j hj).2.2.1; omega)]
        · have hcl := hT.c.rows
          obtain ⟨u, L', hap, hu, e5', hT'⟩ := (hT.ext [.cells [.int .i64 0] 0 []]).push2 Tryz.underlying23 sz2 hz2 (y := .ref 1 (idOf L.length) 0 1) (r := cntC 0) (by rw [rows_ref (c := cntC 0) (by rw [gx0]; rfl) (by simp)]; rfl) rfl (by simp; omega)
          simp only [hj, decide_true, wpC_true]
          refine Ev.skip ?_
          simp (maxSteps := 2000000) only [go_sem, Nat.reduceBEq, Nat.reduceLT, Nat.reduceAdd, Nat.reduceMul, Nat.reduceLeDiff, Nat.reduceEqDiff, decide_true, decide_false, reduceIte, and_true, true_and]
          refine Ev.block (Ev.reg' ?_)
          simp (maxSteps := 2000000) only [go_sem, Nat.reduceBEq, Nat.reduceLT, Nat.reduceAdd, Nat.reduceMul, Nat.reduceLeDiff, Nat.reduceEqDiff, decide_true, decide_false, reduceIte, and_true, true_and, it5, i4, g5, hap, e5', isCell_int, over, stC_eq hu, Nat.zero_le, Nat.le_refl, over_all, Nat.zero_mul, Nat.one_mul]
          refine ⟨N2 - (j2 + 1), by omega, i1, _, u, some (L ++ [Ob.cells [.int .i64 0] 0 []]).length, rfl, hu, j2 + 1, by omega, ?_⟩
          rw [List.replicate_succ', ← List.append_assoc, List.map_append]
          exact hT'
      · obtain ⟨u, L', hap, hu, e5', hT'⟩ := (hT.ext [.cells [.nils, .bool false] 0 []]).push1 Tryz.underlying22 sz29 hz29 (y := .ref 2 (idOf L.length) 0 1) (r := [.nils, .bool false]) (by rw [rows_ref (c := [.nils, .bool false]) (by rw [gx0]; rfl) (by simp)]; rfl) rfl (by omega)
        simp only [hj, decide_true, wpC_true]
        refine Ev.skip ?_
        simp (maxSteps := 2000000) only [go_sem, Nat.reduceBEq, Nat.reduceLT, Nat.reduceAdd, Nat.reduceMul, Nat.reduceLeDiff, Nat.reduceEqDiff, decide_true, decide_false, reduceIte, and_true, true_and]
        refine Ev.block (Ev.reg' ?_)
        simp (maxSteps := 2000000) only [go_sem, Nat.reduceBEq, Nat.reduceLT, Nat.reduceAdd, Nat.reduceMul, Nat.reduceLeDiff, Nat.reduceEqDiff, decide_true, decide_false, reduceIte, and_true, true_and, it5, i4, g5, hap, e5', over, stC_eq hu, Nat.zero_le, Nat.le_refl, over_all, Nat.zero_mul, Nat.one_mul]
        refine ⟨N1 - (j + 1), by omega, i1, _, u, _, _, rfl, hT', j + 1, by omega, ?_⟩
        rw [List.replicate_succ', ← List.append_assoc]
        exact all2_snoc rdv_zero hA
    · have hj' : j < T.slots.length := by exact_mod_cast hj
      have hx : T.slots[j]? = some T.slots[j] := List.getElem?_eq_getElem hj'
      obtain ⟨c, hc1, hc2⟩ := all2_get h2 hx
      obtain ⟨a, ra, ha1, ha2⟩ := rows_idx (rows_app (g := L) h1) hc1 .i64
      simp only [List.nil_append] at ha2
      obtain ⟨v', hv', hvc, hcall⟩ := (vclone_kc hc2 (s3 _ (List.getElem_mem hj'))).call
      obtain ⟨c', rfl, hr'⟩ := hv' c _ rfl hc2
      have f5 := (hT.ext [.cells c 0 []]).h5
      have hlA := hA.length
      rw [List.length_take] at hlA
      obtain ⟨u, L', hap, hu, e5', hT'⟩ := (hT.ext [.cells c 0 [], .cells c' 0 []]).push1 Tryz.underlying22 sz29 hz29 (y := .ref 2 (idOf (L.length + 1)) 0 1) (r := c') (by rw [rows_ref (c := c') (by rw [gxs]; rfl) (by rw [hr'.len]; omega)]; obtain ⟨w, rfl, _⟩ := hr'; rfl) hr'.len (by omega)
      simp only [hj, decide_true, wpC_true]
      refine Ev.skip ?_
      simp (maxSteps := 2000000) only [go_sem, Nat.reduceBEq, Nat.reduceLT, Nat.reduceAdd, Nat.reduceMul, Nat.reduceLeDiff, Nat.reduceEqDiff, decide_true, decide_false, reduceIte, and_true, true_and]
      refine Ev.seq rfl (Ev.block (Ev.seq rfl (Ev.reg' ?_)))
      simp (maxSteps := 2000000) only [go_sem, Nat.reduceBEq, Nat.reduceLT, Nat.reduceAdd, Nat.reduceMul, Nat.reduceLeDiff, Nat.reduceEqDiff, decide_true, decide_false, reduceIte, and_true, true_and, i15, i17, ha1, ha2, takeN_app hc2.len, hc2.len, over_all, Nat.zero_le, Nat.le_refl]
      refine Ev.regDX rfl (by kernel_rfl) [(1, 3)] (by kernel_rfl) (fun T' Z B R htr p hp => ?_) ?_
      · have a2 : Z 3 = stL (L ++ [.cells c 0 []]) := htr.at 3 (by decide) (X := fun _ S => S = stL (L ++ [.cells c 0 []])) (by simp (maxSteps := 2000000) only [go_sem, Nat.reduceBEq, Nat.reduceLT, Nat.reduceAdd, Nat.reduceMul, Nat.reduceLeDiff, Nat.reduceEqDiff, decide_true, decide_false, reduceIte, and_true, true_and, it5, f5, hc2.len, takeN_some, List.take_of_length_le, Nat.le_refl, hcall])
        have a3 : Z 4 = stL (L ++ [.cells c 0 []]) := htr.at 4 (by decide) (X := fun _ S => S = stL (L ++ [.cells c 0 []])) (by simp (maxSteps := 2000000) only [go_sem, Nat.reduceBEq, Nat.reduceLT, Nat.reduceAdd, Nat.reduceMul, Nat.reduceLeDiff, Nat.reduceEqDiff, decide_true, decide_false, reduceIte, and_true, true_and, it5, f5, hc2.len, takeN_some, List.take_of_length_le, Nat.le_refl, hcall])
        simp only [List.mem_cons, List.not_mem_nil, or_false] at hp
        subst hp
        refine LookOK.of_load rfl ?_
        simp only [a2, a3]
      simp (maxSteps := 2000000) only [go_sem, Nat.reduceBEq, Nat.reduceLT, Nat.reduceAdd, Nat.reduceMul, Nat.reduceLeDiff, Nat.reduceEqDiff, decide_true, decide_false, reduceIte, and_true, true_and, it5, f5, hc2.len, takeN_some, List.take_of_length_le, Nat.le_refl, hcall, hr'.len, hap, e5', over, List.append_nil, stC_eq hu, Nat.zero_le, Nat.zero_mul, Nat.one_mul]
      refine Ev.reg' ?_
      simp (maxSteps := 2000000) only [go_sem, Nat.reduceBEq, Nat.reduceLT, Nat.reduceAdd, Nat.reduceMul, Nat.reduceLeDiff, Nat.reduceEqDiff, decide_true, decide_false, reduceIte, and_true, true_and, i17]
      refine ⟨m - 1, by omega, i1, i4, it5, i15, i16, _, u, _, _, rfl, hT', j + 1, by rw [IntWalk.i64_in _ (by omega)]; rfl, by omega, ?_⟩
      rw [List.take_add_one, hx]
      exact all2_snoc hr' hA
end Cs

set_option linter.unusedVariables false
open Go Go.Vm Go.Proofs
namespace Cs
variable [Gl]
theorem TI.put2 {l : List Ob} {i2 i4 i5 : Nat} {c2 : List V} {pc : Int} {L : List Ob} {us : V} {rs : List (List V)} {os : Option Nat} (h : TI l i2 i4 i5 c2 pc L us rs os .nils [] none) {L' : List Ob} {u : V} {cs : List (List V)} {o : Option Nat} (hO : Own L.length L' 1 u cs o)
    (hk : ∀ i, i < L.length → L'[i]? = L[i]?) (hlen : L.length ≤ L'.length) (ho : ∀ k, o = some k → L.length ≤ k) : L'[i5]? = some (.cells [.int .i64 pc, us, .nils] 0 []) ∧ TI l i2 i4 i5 c2 pc (L'.set i5 (.cells [.int .i64 pc, us, u] 0 [])) us rs os u cs o := by
  have k2 := get_lt h.h2
  have k4 := get_lt h.h4
  have k5 := get_lt h.h5
  have ne := h.ne
  refine ⟨by rw [hk i5 k5]; exact h.h5, ?_⟩
  exact {
    h2 := by rw [List.getElem?_set_ne (by omega), hk i2 k2]; exact h.h2
    h4 := by rw [List.getElem?_set_ne (by omega), hk i4 k4]; exact h.h4
    h5 := by rw [List.getElem?_set_self (by omega)]
    c := (hO.low ne.2.2.2).keep fun k e => by have := ho k e; rw [List.getElem?_set_ne (by omega)]
    s := h.s.keep fun k e => by
      subst e
      have := h.ns k rfl
      rw [List.getElem?_set_ne (by omega), hk k h.s.lt]
    nc := fun k e => by
      have := ho k e
      exact ⟨by omega, by omega, by omega, by omega⟩
    ns := fun k e => by
      have h1 := h.ns k e
      subst e
      have := h.s.lt
      refine ⟨h1.1, h1.2.1, h1.2.2.1, h1.2.2.2.1, fun e => ?_⟩
      have := ho k e
      omega
    fr := fun i hi => by rw [List.getElem?_set_ne (by omega), hk i (by omega)]; exact h.fr i hi
    ne := ⟨ne.1, ne.2.1, ne.2.2.1, by simp; omega⟩ }
theorem pad_get {k : Int} {T : Th} {j : Nat} (hj : j < (pad k T).slots.length) : (pad k T).slots[j]? = some (T.slots.getD j vz) := by
  simp only [pad] at hj ⊢
  by_cases h : j < T.slots.length
  · rw [List.getElem?_append_left h, List.getD_eq_getElem?_getD, List.getElem?_eq_getElem h]; rfl
  · rw [List.getElem?_append_right (by omega), List.getD_eq_getElem?_getD, (List.getElem?_eq_none (by omega) : T.slots[j]? = none), List.getElem?_replicate, if_pos]
    · rfl
    · simp at hj; omega
theorem getD_small {T : Th} (h : Small T) (j : Nat) : (T.slots.getD j vz).1.length ≤ 300 := by
  rw [List.getD_eq_getElem?_getD]
  cases e : T.slots[j]? with
  | none => simp [vz]
  | some x => exact h.2.2 x (List.mem_of_getElem? e)
theorem rcopy_run {l : List Ob} {t : V} {T : Th} {k : Int} (h : RdT t T) (hS : Small T) (hk : -1 ≤ k ∧ k ≤ 4096) (n : Nat) (hn : 6000 ≤ n) :
    ∃ u g, callS Tryz.prog Sp n 15 [t, .int .i64 k] (stL l) = some (u, stL (l ++ g)) ∧ LvT l g (pad k T) u := by
  obtain ⟨n, rfl⟩ : ∃ m, n = m + 1 := ⟨n - 1, by omega⟩
  suffices hs : ∃ u S', callS Tryz.prog Sp (n + 1) 15 [t, .int .i64 k] (stL l) = some (u, S') ∧ (∃ g, S' = stL (l ++ g) ∧ LvT l g (pad k T) u) by
    obtain ⟨u, S', h, g, rfl, h2⟩ := hs; exact ⟨u, g, h, h2⟩
  have h0 := h
  obtain ⟨vs, vc, rs0, rfl, h1, k1, h2, h3, k2⟩ := h
  have hS0 := hS
  obtain ⟨s1, s2, s3⟩ := hS
  refine runS (fun v h => h) Tryz.func15 rfl (by simp [Tryz.f15]) ?_
  have c1 := rows_cell h1
  have c2 := rows_cell h3
  have l1 := rows_len h1
  rw [h2.length] at l1
  have hw : IntKind.i64.wrap (k + 1) = k + 1 := IntWalk.i64_in _ (by omega)
  have hP : (pad k T).slots.length = T.slots.length + ((k + 1).toNat - T.slots.length) := by simp [pad]
  have hmax : (if k + 1 > (T.slots.length : Int) then k + 1 else (T.slots.length : Int)) = ((pad k T).slots.length : Int) := by rw [hP]; split <;> omega
  refine Ev.seq rfl (Ev.reg' ?_)
  simp (maxSteps := 2000000) only [go_sem, Nat.reduceBEq, Nat.reduceLT, Nat.reduceAdd, Nat.reduceMul, Nat.reduceLeDiff, Nat.reduceEqDiff, decide_true, decide_false, reduceIte, and_true, true_and]
  refine Ev.seq rfl (Ev.reg' ?_)
  simp (maxSteps := 2000000) only [go_sem, Nat.reduceBEq, Nat.reduceLT, Nat.reduceAdd, Nat.reduceMul, Nat.reduceLeDiff, Nat.reduceEqDiff, decide_true, decide_false, reduceIte, and_true, true_and, over, Nat.zero_le, Nat.le_refl]
  obtain ⟨L1, eL⟩ : ∃ L, L = l ++ [.cells [.int .i64 T.pc, vs, vc] 0 [], .cells zT 0 [], .cells [.int .i64 T.pc, .nils, .nils] 0 []] := ⟨_, rfl⟩
  have hT1 : TI l l.length (l.length + 1) (l.length + 2) [.int .i64 T.pc, vs, vc] T.pc L1 .nils [] none .nils [] none := by
    subst eL
    exact {
      h2 := by rw [gx0]; rfl
      h4 := by rw [gxs]; rfl
      h5 := by rw [gxs]; rfl
      s := Own.nil ..
      c := Own.nil ..
      ns := nofun
      nc := nofun
      fr := fun i hi => by rw [List.getElem?_append_left hi]
      ne := ⟨by omega, by omega, by omega, by simp⟩ }
  rw [← eL]
  refine Ev.seq rfl (Ev.seq rfl (Ev.reg' ?_))
  simp (maxSteps := 2000000) only [go_sem, Nat.reduceBEq, Nat.reduceLT, Nat.reduceAdd, Nat.reduceMul, Nat.reduceLeDiff, Nat.reduceEqDiff, decide_true, decide_false, reduceIte, and_true, true_and]
  refine Ev.block (Ev.loop (fun m t S => t 1 = .int .i64 k ∧ t 2 = .ptr (idOf l.length) 0 ∧ t 4 = .ptr (idOf (l.length + 1)) 0 ∧ t 5 = .ptr (idOf (l.length + 2)) 0 ∧ ∃ L us rs os, S = stL L ∧ TI l l.length (l.length + 1) (l.length + 2) [.int .i64 T.pc, vs, vc] T.pc L us rs os .nils [] none ∧ ∃ j : Nat, t 6 = .int .i64 (j : Int) ∧ j + m = (pad k T).slots.length ∧ All2 RdV rs ((pad k T).slots.take j)) (pad k T).slots.length (by omega) ?_ ?_)
  · simp (maxSteps := 2000000) only [go_sem, Nat.reduceBEq, Nat.reduceLT, Nat.reduceAdd, Nat.reduceMul, Nat.reduceLeDiff, Nat.reduceEqDiff, decide_true, decide_false, reduceIte, and_true, true_and]
    exact ⟨L1, .nils, [], none, rfl, hT1, 0, rfl, by omega, by simp [All2]⟩
  · intro m t S ⟨i1, it2, i4, it5, L, us, rs, os, iS, hT, j, i6, hjm, hA⟩
    subst iS
    have g2 := hT.h2
    have g5 := hT.h5
    refine Ev.seq rfl (Ev.seq rfl (Ev.reg' ?_))
    simp (maxSteps := 2000000) only [go_sem, Nat.reduceBEq, Nat.reduceLT, Nat.reduceAdd, Nat.reduceMul, Nat.reduceLeDiff, Nat.reduceEqDiff, decide_true, decide_false, reduceIte, and_true, true_and, it2, i1, i6, g2, l1, hw, maxL_two, hmax]
    refine Ev.cond' ?_
    simp (maxSteps := 2000000) only [go_sem, Nat.reduceBEq, Nat.reduceLT, Nat.reduceAdd, Nat.reduceMul, Nat.reduceLeDiff, Nat.reduceEqDiff, decide_true, decide_false, reduceIte, and_true, true_and]
    by_cases hj : (j : Int) < ((pad k T).slots.length : Int)
    rotate_left
    · have hj' : ¬ j < (pad k T).slots.length := fun h => hj (by exact_mod_cast h)
      simp only [hj, decide_false, wpC_false]
      refine Ev.exit ?_
      simp (maxSteps := 2000000) only [go_sem, Nat.reduceBEq, Nat.reduceLT, Nat.reduceAdd, Nat.reduceMul, Nat.reduceLeDiff, Nat.reduceEqDiff, decide_true, decide_false, reduceIte, and_true, true_and]
      rw [List.take_of_length_le (by omega)] at hA
      refine Ev.seq rfl (Ev.reg' ?_)
      have g2' := (hT.ext [.cells [] 0 []]).h2
      obtain ⟨u, L', o', hap, huc, hO, hlen, ho', hk'⟩ := (own_new L 1).fill (P := Tryz.prog) Tryz.underlying23 sz2 hz2 (by simp) (rows_app (l := []) h3) (cnt_len1 _) (by simp; omega)
      obtain ⟨e5', hT'⟩ := hT.put2 (L' := L') hO (fun i hi => by rw [hk' i (by intro e; injection e with e; omega) (by simp; omega), List.getElem?_append_left hi]) (by simp at hlen; omega) (fun k e => by
        subst e
        rcases ho' with e | e
        · injection e with e; omega
        · injection e with e; simp at e; omega)
      simp (maxSteps := 2000000) only [go_sem, Nat.reduceBEq, Nat.reduceLT, Nat.reduceAdd, Nat.reduceMul, Nat.reduceLeDiff, Nat.reduceEqDiff, decide_true, decide_false, reduceIte, and_true, true_and, it2, it5, g2', hap, e5', stC_eq huc, over, Nat.zero_le, Nat.le_refl, Nat.zero_mul, if_true]
      obtain ⟨N2, hN2⟩ : ∃ N, N = (k + 1).toNat - T.counts.length := ⟨_, rfl⟩
      refine Ev.seq rfl (Ev.block (Ev.loop (fun m t S => t 1 = .int .i64 k ∧ t 4 = .ptr (idOf (l.length + 1)) 0 ∧ t 5 = .ptr (idOf (l.length + 2)) 0 ∧ ∃ L uc oc, S = stL L ∧ uc.isCell = true ∧ ∃ j : Nat, j + m = N2 ∧ TI l l.length (l.length + 1) (l.length + 2) [.int .i64 T.pc, vs, vc] T.pc L us rs os uc ((T.counts ++ List.replicate j 0).map cntC) oc) N2 (by omega) ?_ ?_))
      · simp (maxSteps := 2000000) only [go_sem, Nat.reduceBEq, Nat.reduceLT, Nat.reduceAdd, Nat.reduceMul, Nat.reduceLeDiff, Nat.reduceEqDiff, decide_true, decide_false, reduceIte, and_true, true_and]
        exact ⟨i1, i4, it5, _, u, o', rfl, huc, 0, by omega, by simpa using hT'⟩
      clear hT' e5' hap huc hO hlen ho' hk' g2' g2 g5 i6 i1 i4 it5 it2 hT
      intro m t S ⟨i1, i4, it5, L, uc, oc, iS, hucc, j2, hjm, hT⟩
      subst iS
      have g5 := hT.h5
      have l2 := rows_len hT.c.rows
      simp only [List.length_map, List.length_append, List.length_replicate] at l2
      refine Ev.seq rfl (Ev.seq rfl (Ev.reg' ?_))
      simp (maxSteps := 2000000) only [go_sem, Nat.reduceBEq, Nat.reduceLT, Nat.reduceAdd, Nat.reduceMul, Nat.reduceLeDiff, Nat.reduceEqDiff, decide_true, decide_false, reduceIte, and_true, true_and, i1, it5, g5, l2]
      refine Ev.cond' ?_
      simp (maxSteps := 2000000) only [go_sem, Nat.reduceBEq, Nat.reduceLT, Nat.reduceAdd, Nat.reduceMul, Nat.reduceLeDiff, Nat.reduceEqDiff, decide_true, decide_false, reduceIte, and_true, true_and]
      by_cases hj : ((T.counts.length + j2 : Nat) : Int) ≤ k
      rotate_left
      · simp only [hj, decide_false, wpC_false]
        refine Ev.exit ?_
        simp (maxSteps := 2000000) only [go_sem, Nat.reduceBEq, Nat.reduceLT, Nat.reduceAdd, Nat.reduceMul, Nat.reduceLeDiff, Nat.reduceEqDiff, decide_true, decide_false, reduceIte, and_true, true_and]
        have hj0 : j2 = N2 := by omega
        subst hj0
        rw [hN2] at hT
        have g4 := hT.h4
        refine Ev.seq rfl (Ev.reg' ?_)
        simp (maxSteps := 2000000) only [go_sem, Nat.reduceBEq, Nat.reduceLT, Nat.reduceAdd, Nat.reduceMul, Nat.reduceLeDiff, Nat.reduceEqDiff, decide_true, decide_false, reduceIte, and_true, true_and, it5, i4, g5, g4, over_all, Nat.zero_le, Nat.le_refl]
        refine Ev.ret (Ret.cell rfl (v := .agg [.int .i64 T.pc, us, uc]) (by simp (maxSteps := 2000000) only [go_sem, Nat.reduceBEq, Nat.reduceLT, Nat.reduceAdd, Nat.reduceMul, Nat.reduceLeDiff, Nat.reduceEqDiff, decide_true, decide_false, reduceIte, and_true, true_and, i4, List.getElem?_set_self (get_lt g4)]) ?_)
        have k4 := get_lt g4
        obtain ⟨g, eg⟩ := app_of (l := l) (l' := L.set (l.length + 1) (.cells [.int .i64 T.pc, us, uc] 0 [])) fun i hi => by rw [List.getElem?_set_ne (by omega)]; exact hT.fr i hi
        refine ⟨g, by rw [eg], us, uc, rs, os, oc, rfl, hT.s.cell, hucc, ?_, hA, ?_, fun j hj => (hT.ns j hj).1, fun j hj => (hT.nc j hj).1, fun j hj => (hT.ns j hj).2.2.2.2⟩
        · rw [← eg]; exact hT.s.keep fun j hj => by rw [List.getElem?_set_ne (by have := (hT.ns j hj).2.2.1; omega)]
        · rw [← eg]; exact hT.c.keep fun j hj => by rw [List.getElem?_set_ne (by have := (hT.nc j hj).2.2.1; omega)]
      · have hcl := hT.c.rows
        obtain ⟨u, L', hap, hu, e5', hT'⟩ := (hT.ext [.cells [.int .i64 0] 0 []]).push2 Tryz.underlying23 sz2 hz2 (y := .ref 1 (idOf L.length) 0 1) (r := cntC 0) (by rw [rows_ref (c := cntC 0) (by rw [gx0]; rfl) (by simp)]; rfl) rfl (by simp; omega)
        simp only [hj, decide_true, wpC_true]
        refine Ev.skip ?_
        simp (maxSteps := 2000000) only [go_sem, Nat.reduceBEq, Nat.reduceLT, Nat.reduceAdd, Nat.reduceMul, Nat.reduceLeDiff, Nat.reduceEqDiff, decide_true, decide_false, reduceIte, and_true, true_and]
        refine Ev.block (Ev.reg' ?_)
        simp (maxSteps := 2000000) only [go_sem, Nat.reduceBEq, Nat.reduceLT, Nat.reduceAdd, Nat.reduceMul, Nat.reduceLeDiff, Nat.reduceEqDiff, decide_true, decide_false, reduceIte, and_true, true_and, it5, i4, g5, hap, e5', isCell_int, over, stC_eq hu, Nat.zero_le, Nat.le_refl, over_all, Nat.zero_mul, Nat.one_mul]
        refine ⟨N2 - (j2 + 1), by omega, i1, _, u, some (L ++ [Ob.cells [.int .i64 0] 0 []]).length, rfl, hu, j2 + 1, by omega, ?_⟩
        rw [List.replicate_succ', ← List.append_assoc, List.map_append]
        exact hT'
    · have hj' : j < (pad k T).slots.length := by exact_mod_cast hj
      have hx := pad_get hj'
      obtain ⟨v1, hv1, hvc1, hcall1⟩ := (slot_kc (k := j) h0 (by omega) s1).call
      obtain ⟨c, rfl, hr1⟩ := hv1 _ _ j rfl h0
      obtain ⟨v2, hv2, hvc2, hcall2⟩ := (copied_kc hr1 (getD_small hS0 j)).call
      obtain ⟨c', rfl, hr'⟩ := hv2 _ _ rfl hr1
      have hlA := hA.length
      rw [List.length_take] at hlA
      obtain ⟨u, L', hap, hu, e5', hT'⟩ := (hT.ext [.cells c' 0 []]).push1 Tryz.underlying22 sz29 hz29 (y := .ref 2 (idOf L.length) 0 1) (r := c') (by rw [rows_ref (c := c') (by rw [gx0]; rfl) (by rw [hr'.len]; omega)]; obtain ⟨w, rfl, _⟩ := hr'; rfl) hr'.len (by omega)
      simp only [hj, decide_true, wpC_true]
      refine Ev.skip ?_
      simp (maxSteps := 2000000) only [go_sem, Nat.reduceBEq, Nat.reduceLT, Nat.reduceAdd, Nat.reduceMul, Nat.reduceLeDiff, Nat.reduceEqDiff, decide_true, decide_false, reduceIte, and_true, true_and]
      refine Ev.seq rfl (Ev.block (Ev.regDX rfl (by kernel_rfl) [(1, 4), (1, 5)] (by kernel_rfl) (fun T' Z B R htr p hp => ?_) ?_))
      · have a2 : Z 4 = stL L := htr.at 4 (by decide) (X := fun _ S => S = stL L) (by simp (maxSteps := 2000000) only [go_sem, Nat.reduceBEq, Nat.reduceLT, Nat.reduceAdd, Nat.reduceMul, Nat.reduceLeDiff, Nat.reduceEqDiff, decide_true, decide_false, reduceIte, and_true, true_and, it2, it5, i6, g2, g5, hcall1, hcall2])
        have a3 : Z 5 = stL L := htr.at 5 (by decide) (X := fun _ S => S = stL L) (by simp (maxSteps := 2000000) only [go_sem, Nat.reduceBEq, Nat.reduceLT, Nat.reduceAdd, Nat.reduceMul, Nat.reduceLeDiff, Nat.reduceEqDiff, decide_true, decide_false, reduceIte, and_true, true_and, it2, it5, i6, g2, g5, hcall1, hcall2])
        have a4 : Z 6 = stL L := htr.at 6 (by decide) (X := fun _ S => S = stL L) (by simp (maxSteps := 2000000) only [go_sem, Nat.reduceBEq, Nat.reduceLT, Nat.reduceAdd, Nat.reduceMul, Nat.reduceLeDiff, Nat.reduceEqDiff, decide_true, decide_false, reduceIte, and_true, true_and, it2, it5, i6, g2, g5, hcall1, hcall2])
        simp only [List.mem_cons, List.not_mem_nil, or_false] at hp
        rcases hp with rfl | rfl <;> refine LookOK.of_load rfl ?_ <;> simp only [a2, a3, a4]
      simp (maxSteps := 2000000) only [go_sem, Nat.reduceBEq, Nat.reduceLT, Nat.reduceAdd, Nat.reduceMul, Nat.reduceLeDiff, Nat.reduceEqDiff, decide_true, decide_false, reduceIte, and_true, true_and, it2, it5, i6, g2, g5, hcall1, hcall2, hr'.len, hap, e5', over, List.append_nil, stC_eq hu, Nat.zero_le, Nat.zero_mul, Nat.one_mul]
      refine Ev.reg' ?_
      simp (maxSteps := 2000000) only [go_sem, Nat.reduceBEq, Nat.reduceLT, Nat.reduceAdd, Nat.reduceMul, Nat.reduceLeDiff, Nat.reduceEqDiff, decide_true, decide_false, reduceIte, and_true, true_and, i6]
      refine ⟨m - 1, by omega, i1, it2, i4, it5, _, u, _, _, rfl, hT', j + 1, by rw [IntWalk.i64_in _ (by omega)]; rfl, by omega, ?_⟩
      rw [List.take_add_one, hx]
      exact all2_snoc hr' hA
end Cs


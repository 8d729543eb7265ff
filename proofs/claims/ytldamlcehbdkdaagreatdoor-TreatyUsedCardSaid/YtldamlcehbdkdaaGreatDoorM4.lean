/- Contracts and laws for the proof, joined by a program. No condition. -/
import Derived.Test.YtldamlcehbdkdaaGreatDoorM3
set_option linter.all false
section
namespace Go.Proofs.YtldamlcehbdkdaaGreatDoor
open Go Go.TM Go.Proofs
set_option linter.unusedVariables false
set_option maxRecDepth 100000
variable {X : XP} {h : LH} {A : Value → LH → Prop}
noncomputable def n2018 (x_0 x_1 x_2 x_3 x_4 x_5 : Int) (x_6p : Option Addr) (x_6n x_6c : Nat) (land day : Int) : T := .call false 89 #[.agg #[.int .i64 x_0, .int .i64 x_1, .int .i64 x_2, .int .i64 x_3, .int .i64 x_4, .int .i64 x_5, .slice x_6p x_6n x_6c], .int .i64 land, .int .i64 day] fun v => .unTup v fun l => .unCons l fun v vs => .unS v fun a n c => .unCons vs fun v vs => .unI .i64 v fun n_1 => .unNil vs (.new 225 #[.bool false, .bool false, .bool false, .bool false, .bool false] fun r => .loop [.int .i64 0] (fun vs => .popI .i64 vs fun n_2 vs => .unNil vs (bif decide (n_2 < (↑n : Int)) then .need (0 ≤ n_2 ∧ n_2 < (↑n : Int)) (.someA a fun a => .loadI .i64 (a.add (n_2.toNat * 1)) fun n => .need (0 ≤ n_2 ∧ n_2 < (↑5 : Int)) (.store ((Addr.add { block := r, off := 0 } (n_2.toNat * 1)).add 0) (.bool (decide (n ≥ 0))) (.leaf (.again [.int .i64 (IntKind.wrap .i64 (n_2 + 1))])))) else .leaf (.brk [.int .i64 n_2]))) (fun vs => .popI .i64 vs fun n_2 vs => .unNil vs (.loadB (Addr.add { block := r, off := 0 } 0) fun b => .loadB (Addr.add { block := r, off := 0 } 1) fun b_1 => .loadB (Addr.add { block := r, off := 0 } 2) fun b_2 => .loadB (Addr.add { block := r, off := 0 } 3) fun b_3 => .loadB (Addr.add { block := r, off := 0 } 4) fun b_4 => .sem false (Sem.bind (eqGuard BinOp.eql 225 (Operand.tmp 32) (Operand.tmp 33) (.agg #[.bool b, .bool b_1, .bool b_2, .bool b_3, .bool b_4]) (.agg #[.bool false, .bool false, .bool false, .bool false, .bool false])) fun __r => binOp BinOp.eql 225 (.agg #[.bool b, .bool b_1, .bool b_2, .bool b_3, .bool b_4]) (.agg #[.bool false, .bool false, .bool false, .bool false, .bool false])) fun v => .unB v fun b => bif b then .sem false (Instr.makeSlice 95 (.int .i64 (↑n : Int)) (.int .i64 (↑n : Int))) fun v => .unS v fun a n c => .leaf (.ret (.tuple #[.slice a n c, .int .i64 n_1])) else .sem false (Instr.sliceAt 225 (.pointer (some { block := r, off := 0 })) none (some (.int .i64 (↑n : Int))) (some (.int .i64 (↑n : Int)))) fun w => .unS w fun a n c => .leaf (.ret (.tuple #[.slice a n c, .int .i64 n_1])))) (fun vs => .popI .i64 vs fun n vs => .unNil vs (.leaf (.ret (.tuple #[.slice none 0 0, .int .i64 0])))) fun x x_6 => .fail)
theorem w2018 (x_0 x_1 x_2 x_3 x_4 x_5 : Int) (x_6p : Option Addr) (x_6n x_6c : Nat) (land day : Int) (hX : XOK X) (hw : (n2018 x_0 x_1 x_2 x_3 x_4 x_5 x_6p x_6n x_6c land day).wp X Tryz.prog (retQ A) h) : FWK X Tryz.prog .normal 88 #[.agg #[.int .i64 x_0, .int .i64 x_1, .int .i64 x_2, .int .i64 x_3, .int .i64 x_4, .int .i64 x_5, .slice x_6p x_6n x_6c], .int .i64 land, .int .i64 day] h A := fwk_neat (show ftree ({ P := Tryz.prog, priv := [3], loops := [{ id := 0, slots := [(22, .int .i64)], ro := [3], outs := [] }], joins := [] }) Tryz.f88 [.agg #[.int .i64 x_0, .int .i64 x_1, .int .i64 x_2, .int .i64 x_3, .int .i64 x_4, .int .i64 x_5, .slice x_6p x_6n x_6c], .int .i64 land, .int .i64 day] = n2018 x_0 x_1 x_2 x_3 x_4 x_5 x_6p x_6n x_6c land day by kernel_rfl) (by simp) (by kernel_rfl) (by kernel_rfl) hX hw
noncomputable def n2021 (x_0 x_1 x_2 x_3 x_4 x_5 : Int) (x_6p : Option Addr) (x_6n x_6c : Nat) : T := .blk (.call false 197 #[.int .i64 x_0, .int .i64 0, .int .i64 5] fun v => .unB v fun b => bif !b then .leaf (.retn [.int .i64 1]) else .call false 197 #[.int .i64 x_1, .int .i64 1, .int .i64 3] fun v => .unB v fun b => bif !b then .leaf (.retn [.int .i64 1]) else .call false 194 #[.int .i64 x_2] fun v => .unB v fun b => bif !b then .leaf (.retn [.int .i64 1]) else .call false 194 #[.int .i64 x_3] fun v => .unB v fun b => bif !b then .leaf (.retn [.int .i64 1]) else .call false 194 #[.int .i64 x_4] fun v => .unB v fun b => bif !b then .leaf (.retn [.int .i64 1]) else .call false 194 #[.int .i64 x_5] fun v => .unB v fun b => bif !b then .leaf (.retn [.int .i64 1]) else .leaf (.again [.int .i64 0])) (fun vs => .popI .i64 vs fun n vs => .unNil vs (bif decide ((↑x_6n : Int) > 10) then .leaf (.ret (.int .i64 2)) else .loop [.int .i64 n, .int .i64 0] (fun vs => .popI .i64 vs fun n vs => .popI .i64 vs fun n_1 vs => .unNil vs (bif decide (n_1 < (↑x_6n : Int)) then .need (0 ≤ n_1 ∧ n_1 < (↑x_6n : Int)) (.someA x_6p fun a => .loadI .i64 ((a.add (n_1.toNat * 5)).add 0) fun n_2 => .loadI .i64 ((a.add (n_1.toNat * 5)).add 1) fun n_3 => .loadI .i64 ((a.add (n_1.toNat * 5)).add 2) fun n_4 => .loadS ((a.add (n_1.toNat * 5)).add 3) fun p n_5 c => .loadI .i64 ((a.add (n_1.toNat * 5)).add 4) fun n_6 => .call false 262 #[.agg #[.int .i64 x_0, .int .i64 x_1, .int .i64 x_2, .int .i64 x_3, .int .i64 x_4, .int .i64 x_5, .slice x_6p x_6n x_6c], .agg #[.int .i64 n_2, .int .i64 n_3, .int .i64 n_4, .slice p n_5 c, .int .i64 n_6]] fun v => .unI .i64 v fun n_7 => bif n_7 != 0 then .leaf (.retn [.int .i64 n_7, .int .i64 n_1]) else .leaf (.again [.int .i64 n, .int .i64 (IntKind.wrap .i64 (n_1 + 1))])) else .leaf (.brk [.int .i64 n, .int .i64 n_1]))) (fun vs => .popI .i64 vs fun n vs => .popI .i64 vs fun n vs => .unNil vs (.leaf (.ret (.int .i64 0)))) (fun vs => .popI .i64 vs fun n vs => .popI .i64 vs fun n_1 vs => .unNil vs (.leaf (.ret (.int .i64 n)))) fun x x_6 => .fail)) (fun vs => .popI .i64 vs fun n vs => .unNil vs (.leaf (.ret (.int .i64 n)))) fun x x_6 => .fail
theorem w2021 (x_0 x_1 x_2 x_3 x_4 x_5 : Int) (x_6p : Option Addr) (x_6n x_6c : Nat) (hX : XOK X) (hw : (n2021 x_0 x_1 x_2 x_3 x_4 x_5 x_6p x_6n x_6c).wp X Tryz.prog (retQ A) h) : FWK X Tryz.prog .normal 242 #[.agg #[.int .i64 x_0, .int .i64 x_1, .int .i64 x_2, .int .i64 x_3, .int .i64 x_4, .int .i64 x_5, .slice x_6p x_6n x_6c]] h A := fwk_neat (show ftree ({ P := Tryz.prog, priv := [1, 4], loops := [{ id := 0, slots := [(2, .int .i64), (47, .int .i64)], ro := [1], outs := [] }], joins := [{ id := 3, slots := [(2, .int .i64)], ro := [1], outs := [] }] }) Tryz.f242 [.agg #[.int .i64 x_0, .int .i64 x_1, .int .i64 x_2, .int .i64 x_3, .int .i64 x_4, .int .i64 x_5, .slice x_6p x_6n x_6c]] = n2021 x_0 x_1 x_2 x_3 x_4 x_5 x_6p x_6n x_6c by kernel_rfl) (by simp) (by kernel_rfl) (by kernel_rfl) hX hw
noncomputable def n2023 (x_0 x_1 x_2 x_3 x_4 x_5 : Int) (x_6p : Option Addr) (x_6n x_6c : Nat) (land item : Int) : T := .call false 142 #[.agg #[.int .i64 x_0, .int .i64 x_1, .int .i64 x_2, .int .i64 x_3, .int .i64 x_4, .int .i64 x_5, .slice x_6p x_6n x_6c], .int .i64 land, .int .i64 item] fun v => .unI .i64 v fun n => bif n != 0 then .leaf (.ret (.tuple #[.slice none 0 0, .int .i64 n])) else .sem false (Instr.makeMap 230 none) fun v => .unM v fun a => .sem false (Sem.bind (Instr.mapUpdate 230 (.map a) (.int .i64 0) (.bool true)) fun __r => pure (.tuple #[])) fun x => .sem false (Sem.bind (Instr.mapUpdate 230 (.map a) (.int .i64 10000) (.bool true)) fun __r => pure (.tuple #[])) fun x => .loop [.int .i64 0] (fun vs => .popI .i64 vs fun n vs => .unNil vs (bif decide (n < (↑x_6n : Int)) then .need (0 ≤ n ∧ n < (↑x_6n : Int)) (.someA x_6p fun a_1 => .loadI .i64 ((a_1.add (n.toNat * 5)).add 0) fun n_1 => .loadI .i64 ((a_1.add (n.toNat * 5)).add 1) fun n_2 => .loadI .i64 ((a_1.add (n.toNat * 5)).add 2) fun n_3 => .loadS ((a_1.add (n.toNat * 5)).add 3) fun p n_4 c => .loadI .i64 ((a_1.add (n.toNat * 5)).add 4) fun n_5 => .sem false (Sem.bind (Instr.mapUpdate 230 (.map a) (.int .i64 n_2) (.bool true)) fun __r => pure (.tuple #[])) fun x => .leaf (.again [.int .i64 (IntKind.wrap .i64 (n + 1))])) else .leaf (.brk [.int .i64 n]))) (fun vs => .popI .i64 vs fun n vs => .unNil vs (.call false 143 #[.map a] fun v => .unS v fun a n c => .sem false (Instr.sliceAt 30 (.slice a n c) none (some (.int .i64 (IntKind.wrap .i64 ((↑n : Int) - 1)))) none) fun w => .unS w fun a_1 n_1 c => .loop [.slice none 0 0, .int .i64 0] (fun vs => .popS vs fun a_2 n_2 c vs => .popI .i64 vs fun n_3 vs => .unNil vs (bif decide (n_3 < (↑n_1 : Int)) then .need (0 ≤ n_3 ∧ n_3 < (↑n_1 : Int)) (.someA a_1 fun a_3 => .loadI .i64 (a_3.add (n_3.toNat * 1)) fun n_4 => .need (0 ≤ IntKind.wrap .i64 (n_3 + 1) ∧ IntKind.wrap .i64 (n_3 + 1) < (↑n : Int)) (.someA a fun a => .loadI .i64 (a.add ((IntKind.wrap .i64 (n_3 + 1)).toNat * 1)) fun n => .call false 141 #[.agg #[.int .i64 x_0, .int .i64 x_1, .int .i64 x_2, .int .i64 x_3, .int .i64 x_4, .int .i64 x_5, .slice x_6p x_6n x_6c, .int .i64 land, .int .i64 item], .int .i64 n_4] fun v => .unI .i64 v fun n_5 => bif decide (n_5 < 0) then .leaf (.again [.slice a_2 n_2 c, .int .i64 (IntKind.wrap .i64 (n_3 + 1))]) else bif decide ((↑n_2 : Int) > 0) then .need (0 ≤ IntKind.wrap .i64 ((↑n_2 : Int) - 1) ∧ IntKind.wrap .i64 ((↑n_2 : Int) - 1) < (↑n_2 : Int)) (.someA a_2 fun a => .loadI .i64 ((a.add ((IntKind.wrap .i64 ((↑n_2 : Int) - 1)).toNat * 2)).add 1) fun n_6 => bif n_6 == IntKind.wrap .i64 (n_4 - 1) then .need (0 ≤ IntKind.wrap .i64 ((↑n_2 : Int) - 1) ∧ IntKind.wrap .i64 ((↑n_2 : Int) - 1) < (↑n_2 : Int)) (.someA a_2 fun a => .store (((a.add ((IntKind.wrap .i64 ((↑n_2 : Int) - 1)).toNat * 2)).add 1).add 0) (.int .i64 (IntKind.wrap .i64 (n - 1))) (.leaf (.again [.slice a_2 n_2 c, .int .i64 (IntKind.wrap .i64 (n_3 + 1))]))) else .sem false (Instr.buildSlice 22 1 #[(0, .agg #[.int .i64 n_4, .int .i64 (IntKind.wrap .i64 (n - 1))])]) fun v => .unS v fun a n c_1 => .sem false (Builtin.append_ #[22, 22] 22 #[.slice a_2 n_2 c, .slice a n c_1]) fun v => .unS v fun a n c => .leaf (.again [.slice a n c, .int .i64 (IntKind.wrap .i64 (n_3 + 1))])) else .sem false (Instr.buildSlice 22 1 #[(0, .agg #[.int .i64 n_4, .int .i64 (IntKind.wrap .i64 (n - 1))])]) fun v => .unS v fun a n c_1 => .sem false (Builtin.append_ #[22, 22] 22 #[.slice a_2 n_2 c, .slice a n c_1]) fun v => .unS v fun a n c => .leaf (.again [.slice a n c, .int .i64 (IntKind.wrap .i64 (n_3 + 1))]))) else .leaf (.brk [.slice a_2 n_2 c, .int .i64 n_3]))) (fun vs => .popS vs fun a n c vs => .popI .i64 vs fun n_2 vs => .unNil vs (.leaf (.ret (.tuple #[.slice a n c, .int .i64 0])))) (fun vs => .popS vs fun a n c vs => .popI .i64 vs fun n vs => .unNil vs (.leaf (.ret (.tuple #[.slice none 0 0, .int .i64 0])))) fun x x_6 => .fail)) (fun vs => .popI .i64 vs fun n vs => .unNil vs (.leaf (.ret (.tuple #[.slice none 0 0, .int .i64 0])))) fun x x_6 => .fail
theorem w2023 (x_0 x_1 x_2 x_3 x_4 x_5 : Int) (x_6p : Option Addr) (x_6n x_6c : Nat) (land item : Int) (hX : XOK X) (hw : (n2023 x_0 x_1 x_2 x_3 x_4 x_5 x_6p x_6n x_6c land item).wp X Tryz.prog (retQ A) h) : FWK X Tryz.prog .normal 90 #[.agg #[.int .i64 x_0, .int .i64 x_1, .int .i64 x_2, .int .i64 x_3, .int .i64 x_4, .int .i64 x_5, .slice x_6p x_6n x_6c], .int .i64 land, .int .i64 item] h A := fwk_neat (show ftree ({ P := Tryz.prog, priv := [3, 11, 13], loops := [{ id := 0, slots := [(31, .int .i64)], ro := [3], outs := [] }, { id := 2, slots := [(14, .slice), (51, .int .i64)], ro := [3, 13], outs := [] }], joins := [] }) Tryz.f90 [.agg #[.int .i64 x_0, .int .i64 x_1, .int .i64 x_2, .int .i64 x_3, .int .i64 x_4, .int .i64 x_5, .slice x_6p x_6n x_6c], .int .i64 land, .int .i64 item] = n2023 x_0 x_1 x_2 x_3 x_4 x_5 x_6p x_6n x_6c land item by kernel_rfl) (by simp) (by kernel_rfl) (by kernel_rfl) hX hw
noncomputable def n2026 (x_0 x_1 x_2 x_3 x_4 x_5 : Int) (x_6p : Option Addr) (x_6n x_6c : Nat) (land day : Int) : T := .call false 140 #[.agg #[.int .i64 x_0, .int .i64 x_1, .int .i64 x_2, .int .i64 x_3, .int .i64 x_4, .int .i64 x_5, .slice x_6p x_6n x_6c], .int .i64 land, .int .i64 day] fun v => .unI .i64 v fun n => bif n != 0 then .leaf (.ret (.tuple #[.slice none 0 0, .int .i64 n])) else .loop [.slice none 0 0, .int .i64 0] (fun vs => .popS vs fun a n c vs => .popI .i64 vs fun n_1 vs => .unNil vs (bif decide (n_1 < x_0) then .call false 141 #[.agg #[.int .i64 x_0, .int .i64 x_1, .int .i64 x_2, .int .i64 x_3, .int .i64 x_4, .int .i64 x_5, .slice x_6p x_6n x_6c, .int .i64 land, .int .i64 n_1], .int .i64 day] fun v => .unI .i64 v fun n_2 => .sem false (Instr.buildSlice 30 1 #[(0, .int .i64 n_2)]) fun v => .unS v fun a_1 n_3 c_1 => .sem false (Builtin.append_ #[30, 30] 30 #[.slice a n c, .slice a_1 n_3 c_1]) fun v => .unS v fun a n c => .leaf (.again [.slice a n c, .int .i64 (IntKind.wrap .i64 (n_1 + 1))]) else .leaf (.brk [.slice a n c, .int .i64 n_1]))) (fun vs => .popS vs fun a n c vs => .popI .i64 vs fun n_1 vs => .unNil vs (.leaf (.ret (.tuple #[.slice a n c, .int .i64 0])))) (fun vs => .popS vs fun a n c vs => .popI .i64 vs fun n vs => .unNil vs (.leaf (.ret (.tuple #[.slice none 0 0, .int .i64 0])))) fun x x_6 => .fail
theorem w2026 (x_0 x_1 x_2 x_3 x_4 x_5 : Int) (x_6p : Option Addr) (x_6n x_6c : Nat) (land day : Int) (hX : XOK X) (hw : (n2026 x_0 x_1 x_2 x_3 x_4 x_5 x_6p x_6n x_6c land day).wp X Tryz.prog (retQ A) h) : FWK X Tryz.prog .normal 89 #[.agg #[.int .i64 x_0, .int .i64 x_1, .int .i64 x_2, .int .i64 x_3, .int .i64 x_4, .int .i64 x_5, .slice x_6p x_6n x_6c], .int .i64 land, .int .i64 day] h A := fwk_neat (show ftree ({ P := Tryz.prog, priv := [3], loops := [{ id := 0, slots := [(9, .slice), (20, .int .i64)], ro := [3], outs := [] }], joins := [] }) Tryz.f89 [.agg #[.int .i64 x_0, .int .i64 x_1, .int .i64 x_2, .int .i64 x_3, .int .i64 x_4, .int .i64 x_5, .slice x_6p x_6n x_6c], .int .i64 land, .int .i64 day] = n2026 x_0 x_1 x_2 x_3 x_4 x_5 x_6p x_6n x_6c land day by kernel_rfl) (by simp) (by kernel_rfl) (by kernel_rfl) hX hw
noncomputable def n2029 (x_0 x_1 x_2 x_3 x_4 x_5 : Int) (x_6p : Option Addr) (x_6n x_6c : Nat) (land day : Int) : T := .call false 140 #[.agg #[.int .i64 x_0, .int .i64 x_1, .int .i64 x_2, .int .i64 x_3, .int .i64 x_4, .int .i64 x_5, .slice x_6p x_6n x_6c], .int .i64 land, .int .i64 day] fun v => .unI .i64 v fun n => bif n != 0 then .leaf (.ret (.tuple #[.slice none 0 0, .int .i64 n])) else .loop [.slice none 0 0, .int .i64 0] (fun vs => .popS vs fun a n c vs => .popI .i64 vs fun n_1 vs => .unNil vs (bif decide (n_1 < x_0) then .call false 144 #[.agg #[.int .i64 x_0, .int .i64 x_1, .int .i64 x_2, .int .i64 x_3, .int .i64 x_4, .int .i64 x_5, .slice x_6p x_6n x_6c, .int .i64 land, .int .i64 n_1], .int .i64 day] fun v => .unTup v fun l => .unCons l fun v vs => .unAgg v fun l => .popI .i64 l fun n_2 vs_1 => .popI .i64 vs_1 fun n_3 vs_2 => .popI .i64 vs_2 fun n_4 vs_3 => .popI .i64 vs_3 fun n_5 vs_4 => .popI .i64 vs_4 fun n_6 vs_5 => .popI .i64 vs_5 fun n_7 vs_6 => .popS vs_6 fun a_1 n_8 c_1 vs_7 => .popI .i64 vs_7 fun n_9 vs_8 => .popI .i64 vs_8 fun n_10 vs_9 => .popI .i64 vs_9 fun n_11 vs_10 => .popI .i64 vs_10 fun n_12 vs_11 => .popB vs_11 fun b vs_12 => .unNil vs_12 (.unCons vs fun v vs => .unB v fun b => .unNil vs (bif b then .sem false (Instr.buildSlice 30 1 #[(0, .int .i64 n_1)]) fun v => .unS v fun a_2 n_13 c_2 => .sem false (Builtin.append_ #[30, 30] 30 #[.slice a n c, .slice a_2 n_13 c_2]) fun v => .unS v fun a n c => .leaf (.again [.slice a n c, .int .i64 (IntKind.wrap .i64 (n_1 + 1))]) else .leaf (.again [.slice a n c, .int .i64 (IntKind.wrap .i64 (n_1 + 1))]))) else .leaf (.brk [.slice a n c, .int .i64 n_1]))) (fun vs => .popS vs fun a n c vs => .popI .i64 vs fun n_1 vs => .unNil vs (.leaf (.ret (.tuple #[.slice a n c, .int .i64 0])))) (fun vs => .popS vs fun a n c vs => .popI .i64 vs fun n vs => .unNil vs (.leaf (.ret (.tuple #[.slice none 0 0, .int .i64 0])))) fun x x_6 => .fail
theorem w2029 (x_0 x_1 x_2 x_3 x_4 x_5 : Int) (x_6p : Option Addr) (x_6n x_6c : Nat) (land day : Int) (hX : XOK X) (hw : (n2029 x_0 x_1 x_2 x_3 x_4 x_5 x_6p x_6n x_6c land day).wp X Tryz.prog (retQ A) h) : FWK X Tryz.prog .normal 91 #[.agg #[.int .i64 x_0, .int .i64 x_1, .int .i64 x_2, .int .i64 x_3, .int .i64 x_4, .int .i64 x_5, .slice x_6p x_6n x_6c], .int .i64 land, .int .i64 day] h A := fwk_neat (show ftree ({ P := Tryz.prog, priv := [3, 11], loops := [{ id := 0, slots := [(9, .slice), (22, .int .i64)], ro := [3], outs := [] }], joins := [] }) Tryz.f91 [.agg #[.int .i64 x_0, .int .i64 x_1, .int .i64 x_2, .int .i64 x_3, .int .i64 x_4, .int .i64 x_5, .slice x_6p x_6n x_6c], .int .i64 land, .int .i64 day] = n2029 x_0 x_1 x_2 x_3 x_4 x_5 x_6p x_6n x_6c land day by kernel_rfl) (by simp) (by kernel_rfl) (by kernel_rfl) hX hw
noncomputable def n2044 (x_0 x_1 x_2 x_3 x_4 x_5 : Int) (x_6p : Option Addr) (x_6n x_6c : Nat) (land item day : Int) : T := .new 82 #[.int .i64 x_0, .int .i64 x_1, .int .i64 x_2, .int .i64 x_3, .int .i64 x_4, .int .i64 x_5, .slice x_6p x_6n x_6c] fun r => .new 3 #[.int .i64 land] fun r_1 => .new 3 #[.int .i64 item] fun r_2 => .new 3 #[.int .i64 day] fun r_3 => .loadI .i64 (Addr.add { block := r, off := 0 } 0) fun n => .loadI .i64 (Addr.add { block := r, off := 0 } 1) fun n_1 => .loadI .i64 (Addr.add { block := r, off := 0 } 2) fun n_2 => .loadI .i64 (Addr.add { block := r, off := 0 } 3) fun n_3 => .loadI .i64 (Addr.add { block := r, off := 0 } 4) fun n_4 => .loadI .i64 (Addr.add { block := r, off := 0 } 5) fun n_5 => .loadS (Addr.add { block := r, off := 0 } 6) fun p n_6 c => .loadI .i64 { block := r_1, off := 0 } fun n_7 => .loadI .i64 { block := r_2, off := 0 } fun n_8 => .loadI .i64 { block := r_3, off := 0 } fun n_9 => .call false 145 #[.agg #[.int .i64 n, .int .i64 n_1, .int .i64 n_2, .int .i64 n_3, .int .i64 n_4, .int .i64 n_5, .slice p n_6 c], .int .i64 n_7, .int .i64 n_8, .int .i64 n_9] fun v => .unI .i64 v fun n => bif n != 0 then .leaf (.ret (.tuple #[.slice none 0 0, .bool false, .int .i64 n])) else .loadI .i64 (Addr.add { block := r, off := 0 } 0) fun n => .loadI .i64 (Addr.add { block := r, off := 0 } 1) fun n_10 => .loadI .i64 (Addr.add { block := r, off := 0 } 2) fun n_11 => .loadI .i64 (Addr.add { block := r, off := 0 } 3) fun n_12 => .loadI .i64 (Addr.add { block := r, off := 0 } 4) fun n_13 => .loadI .i64 (Addr.add { block := r, off := 0 } 5) fun n_14 => .loadS (Addr.add { block := r, off := 0 } 6) fun p n_15 c => .call false 146 #[.agg #[.int .i64 n, .int .i64 n_10, .int .i64 n_11, .int .i64 n_12, .int .i64 n_13, .int .i64 n_14, .slice p n_15 c]] fun v => .unS v fun a n c => .new 30 #[.slice none 0 0] fun r_4 => .store (Addr.add { block := r_4, off := 0 } 0) (.slice a n c) (.blk (.both (.sem false (Instr.makeChan 201 (.int .i64 0)) fun v => .unC v fun a => .both (.sem false (Instr.makeChan 238 (.int .i64 0)) fun v => .unC v fun a_1 => .both (.new 201 #[.chan none] fun r => .new 238 #[.chan none] fun r_5 => .store (Addr.add { block := r, off := 0 } 0) (.chan a) (.store (Addr.add { block := r_5, off := 0 } 0) (.chan a_1) (.leaf (.again [.pointer (some { block := r, off := 0 }), .pointer (some { block := r_5, off := 0 })])))) (.new 238 #[.chan none] fun r => .new 201 #[.chan none] fun r_5 => .store (Addr.add { block := r_5, off := 0 } 0) (.chan a) (.store (Addr.add { block := r, off := 0 } 0) (.chan a_1) (.leaf (.again [.pointer (some { block := r_5, off := 0 }), .pointer (some { block := r, off := 0 })]))))) (.both (.new 201 #[.chan none] fun r => .both (.sem false (Instr.makeChan 238 (.int .i64 0)) fun v => .unC v fun a_1 => .new 238 #[.chan none] fun r_5 => .store (Addr.add { block := r, off := 0 } 0) (.chan a) (.store (Addr.add { block := r_5, off := 0 } 0) (.chan a_1) (.leaf (.again [.pointer (some { block := r, off := 0 }), .pointer (some { block := r_5, off := 0 })])))) (.new 238 #[.chan none] fun r_5 => .both (.sem false (Instr.makeChan 238 (.int .i64 0)) fun v => .unC v fun a_1 => .store (Addr.add { block := r, off := 0 } 0) (.chan a) (.store (Addr.add { block := r_5, off := 0 } 0) (.chan a_1) (.leaf (.again [.pointer (some { block := r, off := 0 }), .pointer (some { block := r_5, off := 0 })])))) (.store (Addr.add { block := r, off := 0 } 0) (.chan a) (.sem false (Instr.makeChan 238 (.int .i64 0)) fun v => .unC v fun a => .store (Addr.add { block := r_5, off := 0 } 0) (.chan a) (.leaf (.again [.pointer (some { block := r, off := 0 }), .pointer (some { block := r_5, off := 0 })])))))) (.new 238 #[.chan none] fun r => .both (.sem false (Instr.makeChan 238 (.int .i64 0)) fun v => .unC v fun a_1 => .new 201 #[.chan none] fun r_5 => .store (Addr.add { block := r_5, off := 0 } 0) (.chan a) (.store (Addr.add { block := r, off := 0 } 0) (.chan a_1) (.leaf (.again [.pointer (some { block := r_5, off := 0 }), .pointer (some { block := r, off := 0 })])))) (.new 201 #[.chan none] fun r_5 => .both (.sem false (Instr.makeChan 238 (.int .i64 0)) fun v => .unC v fun a_1 => .store (Addr.add { block := r_5, off := 0 } 0) (.chan a) (.store (Addr.add { block := r, off := 0 } 0) (.chan a_1) (.leaf (.again [.pointer (some { block := r_5, off := 0 }), .pointer (some { block := r, off := 0 })])))) (.store (Addr.add { block := r_5, off := 0 } 0) (.chan a) (.sem false (Instr.makeChan 238 (.int .i64 0)) fun v => .unC v fun a => .store (Addr.add { block := r, off := 0 } 0) (.chan a) (.leaf (.again [.pointer (some { block := r_5, off := 0 }), .pointer (some { block := r, off := 0 })])))))))) (.both (.sem false (Instr.makeChan 238 (.int .i64 0)) fun v => .unC v fun a => .both (.sem false (Instr.makeChan 201 (.int .i64 0)) fun v => .unC v fun a_1 => .both (.new 201 #[.chan none] fun r => .new 238 #[.chan none] fun r_5 => .store (Addr.add { block := r, off := 0 } 0) (.chan a_1) (.store (Addr.add { block := r_5, off := 0 } 0) (.chan a) (.leaf (.again [.pointer (some { block := r, off := 0 }), .pointer (some { block := r_5, off := 0 })])))) (.new 238 #[.chan none] fun r => .new 201 #[.chan none] fun r_5 => .store (Addr.add { block := r_5, off := 0 } 0) (.chan a_1) (.store (Addr.add { block := r, off := 0 } 0) (.chan a) (.leaf (.again [.pointer (some { block := r_5, off := 0 }), .pointer (some { block := r, off := 0 })]))))) (.both (.new 201 #[.chan none] fun r => .both (.sem false (Instr.makeChan 201 (.int .i64 0)) fun v => .unC v fun a_1 => .new 238 #[.chan none] fun r_5 => .store (Addr.add { block := r, off := 0 } 0) (.chan a_1) (.store (Addr.add { block := r_5, off := 0 } 0) (.chan a) (.leaf (.again [.pointer (some { block := r, off := 0 }), .pointer (some { block := r_5, off := 0 })])))) (.new 238 #[.chan none] fun r_5 => .sem false (Instr.makeChan 201 (.int .i64 0)) fun v => .unC v fun a_1 => .store (Addr.add { block := r, off := 0 } 0) (.chan a_1) (.store (Addr.add { block := r_5, off := 0 } 0) (.chan a) (.leaf (.again [.pointer (some { block := r, off := 0 }), .pointer (some { block := r_5, off := 0 })]))))) (.new 238 #[.chan none] fun r => .both (.sem false (Instr.makeChan 201 (.int .i64 0)) fun v => .unC v fun a_1 => .new 201 #[.chan none] fun r_5 => .store (Addr.add { block := r_5, off := 0 } 0) (.chan a_1) (.store (Addr.add { block := r, off := 0 } 0) (.chan a) (.leaf (.again [.pointer (some { block := r_5, off := 0 }), .pointer (some { block := r, off := 0 })])))) (.new 201 #[.chan none] fun r_5 => .sem false (Instr.makeChan 201 (.int .i64 0)) fun v => .unC v fun a_1 => .store (Addr.add { block := r_5, off := 0 } 0) (.chan a_1) (.store (Addr.add { block := r, off := 0 } 0) (.chan a) (.leaf (.again [.pointer (some { block := r_5, off := 0 }), .pointer (some { block := r, off := 0 })]))))))) (.both (.new 201 #[.chan none] fun r => .both (.sem false (Instr.makeChan 201 (.int .i64 0)) fun v => .unC v fun a => .both (.sem false (Instr.makeChan 238 (.int .i64 0)) fun v => .unC v fun a_1 => .new 238 #[.chan none] fun r_5 => .store (Addr.add { block := r, off := 0 } 0) (.chan a) (.store (Addr.add { block := r_5, off := 0 } 0) (.chan a_1) (.leaf (.again [.pointer (some { block := r, off := 0 }), .pointer (some { block := r_5, off := 0 })])))) (.new 238 #[.chan none] fun r_5 => .both (.sem false (Instr.makeChan 238 (.int .i64 0)) fun v => .unC v fun a_1 => .store (Addr.add { block := r, off := 0 } 0) (.chan a) (.store (Addr.add { block := r_5, off := 0 } 0) (.chan a_1) (.leaf (.again [.pointer (some { block := r, off := 0 }), .pointer (some { block := r_5, off := 0 })])))) (.store (Addr.add { block := r, off := 0 } 0) (.chan a) (.sem false (Instr.makeChan 238 (.int .i64 0)) fun v => .unC v fun a => .store (Addr.add { block := r_5, off := 0 } 0) (.chan a) (.leaf (.again [.pointer (some { block := r, off := 0 }), .pointer (some { block := r_5, off := 0 })])))))) (.both (.sem false (Instr.makeChan 238 (.int .i64 0)) fun v => .unC v fun a => .both (.sem false (Instr.makeChan 201 (.int .i64 0)) fun v => .unC v fun a_1 => .new 238 #[.chan none] fun r_5 => .store (Addr.add { block := r, off := 0 } 0) (.chan a_1) (.store (Addr.add { block := r_5, off := 0 } 0) (.chan a) (.leaf (.again [.pointer (some { block := r, off := 0 }), .pointer (some { block := r_5, off := 0 })])))) (.new 238 #[.chan none] fun r_5 => .sem false (Instr.makeChan 201 (.int .i64 0)) fun v => .unC v fun a_1 => .store (Addr.add { block := r, off := 0 } 0) (.chan a_1) (.store (Addr.add { block := r_5, off := 0 } 0) (.chan a) (.leaf (.again [.pointer (some { block := r, off := 0 }), .pointer (some { block := r_5, off := 0 })]))))) (.new 238 #[.chan none] fun r_5 => .both (.sem false (Instr.makeChan 201 (.int .i64 0)) fun v => .unC v fun a => .both (.sem false (Instr.makeChan 238 (.int .i64 0)) fun v => .unC v fun a_1 => .store (Addr.add { block := r, off := 0 } 0) (.chan a) (.store (Addr.add { block := r_5, off := 0 } 0) (.chan a_1) (.leaf (.again [.pointer (some { block := r, off := 0 }), .pointer (some { block := r_5, off := 0 })])))) (.store (Addr.add { block := r, off := 0 } 0) (.chan a) (.sem false (Instr.makeChan 238 (.int .i64 0)) fun v => .unC v fun a => .store (Addr.add { block := r_5, off := 0 } 0) (.chan a) (.leaf (.again [.pointer (some { block := r, off := 0 }), .pointer (some { block := r_5, off := 0 })]))))) (.sem false (Instr.makeChan 238 (.int .i64 0)) fun v => .unC v fun a => .sem false (Instr.makeChan 201 (.int .i64 0)) fun v => .unC v fun a_1 => .store (Addr.add { block := r, off := 0 } 0) (.chan a_1) (.store (Addr.add { block := r_5, off := 0 } 0) (.chan a) (.leaf (.again [.pointer (some { block := r, off := 0 }), .pointer (some { block := r_5, off := 0 })]))))))) (.new 238 #[.chan none] fun r => .both (.sem false (Instr.makeChan 201 (.int .i64 0)) fun v => .unC v fun a => .both (.sem false (Instr.makeChan 238 (.int .i64 0)) fun v => .unC v fun a_1 => .new 201 #[.chan none] fun r_5 => .store (Addr.add { block := r_5, off := 0 } 0) (.chan a) (.store (Addr.add { block := r, off := 0 } 0) (.chan a_1) (.leaf (.again [.pointer (some { block := r_5, off := 0 }), .pointer (some { block := r, off := 0 })])))) (.new 201 #[.chan none] fun r_5 => .both (.sem false (Instr.makeChan 238 (.int .i64 0)) fun v => .unC v fun a_1 => .store (Addr.add { block := r_5, off := 0 } 0) (.chan a) (.store (Addr.add { block := r, off := 0 } 0) (.chan a_1) (.leaf (.again [.pointer (some { block := r_5, off := 0 }), .pointer (some { block := r, off := 0 })])))) (.store (Addr.add { block := r_5, off := 0 } 0) (.chan a) (.sem false (Instr.makeChan 238 (.int .i64 0)) fun v => .unC v fun a => .store (Addr.add { block := r, off := 0 } 0) (.chan a) (.leaf (.again [.pointer (some { block := r_5, off := 0 }), .pointer (some { block := r, off := 0 })])))))) (.both (.sem false (Instr.makeChan 238 (.int .i64 0)) fun v => .unC v fun a => .both (.sem false (Instr.makeChan 201 (.int .i64 0)) fun v => .unC v fun a_1 => .new 201 #[.chan none] fun r_5 => .store (Addr.add { block := r_5, off := 0 } 0) (.chan a_1) (.store (Addr.add { block := r, off := 0 } 0) (.chan a) (.leaf (.again [.pointer (some { block := r_5, off := 0 }), .pointer (some { block := r, off := 0 })])))) (.new 201 #[.chan none] fun r_5 => .sem false (Instr.makeChan 201 (.int .i64 0)) fun v => .unC v fun a_1 => .store (Addr.add { block := r_5, off := 0 } 0) (.chan a_1) (.store (Addr.add { block := r, off := 0 } 0) (.chan a) (.leaf (.again [.pointer (some { block := r_5, off := 0 }), .pointer (some { block := r, off := 0 })]))))) (.new 201 #[.chan none] fun r_5 => .both (.sem false (Instr.makeChan 201 (.int .i64 0)) fun v => .unC v fun a => .both (.sem false (Instr.makeChan 238 (.int .i64 0)) fun v => .unC v fun a_1 => .store (Addr.add { block := r_5, off := 0 } 0) (.chan a) (.store (Addr.add { block := r, off := 0 } 0) (.chan a_1) (.leaf (.again [.pointer (some { block := r_5, off := 0 }), .pointer (some { block := r, off := 0 })])))) (.store (Addr.add { block := r_5, off := 0 } 0) (.chan a) (.sem false (Instr.makeChan 238 (.int .i64 0)) fun v => .unC v fun a => .store (Addr.add { block := r, off := 0 } 0) (.chan a) (.leaf (.again [.pointer (some { block := r_5, off := 0 }), .pointer (some { block := r, off := 0 })]))))) (.sem false (Instr.makeChan 238 (.int .i64 0)) fun v => .unC v fun a => .sem false (Instr.makeChan 201 (.int .i64 0)) fun v => .unC v fun a_1 => .store (Addr.add { block := r_5, off := 0 } 0) (.chan a_1) (.store (Addr.add { block := r, off := 0 } 0) (.chan a) (.leaf (.again [.pointer (some { block := r_5, off := 0 }), .pointer (some { block := r, off := 0 })])))))))))) (fun vs => .popA vs fun a vs => .popA vs fun a_1 vs => .unNil vs (.loadS { block := r_4, off := 0 } fun p n c => .need (0 ≤ (↑n : Int)) (.loop [.int .i64 0] (fun vs => .popI .i64 vs fun n_16 vs => .unNil vs (bif decide (n_16 < IntKind.wrap .i64 (1 * 2 ^ min (Int.toNat (↑n : Int)) 64)) then .new 3 #[.int .i64 0] fun r_5 => .store (Addr.add { block := r_5, off := 0 } 0) (.int .i64 n_16) (.spawn (.func (Fn.func 147) #[] #[.pointer (some { block := r_4, off := 0 }), .pointer (some { block := r_5, off := 0 }), .pointer (some { block := r, off := 0 }), .pointer (some { block := r_1, off := 0 }), .pointer (some { block := r_2, off := 0 }), .pointer (some { block := r_3, off := 0 }), .pointer (some a), .pointer (some a_1)]) #[] (.leaf (.again [.int .i64 (IntKind.wrap .i64 (n_16 + 1))]))) else .leaf (.brk [.int .i64 n_16]))) (fun vs => .popI .i64 vs fun n_16 vs => .unNil vs (.loop [.slice none 0 0, .bool false, .int .i64 (IntKind.wrap .i64 (1 * 2 ^ min (Int.toNat (↑n : Int)) 64))] (fun vs => .popS vs fun a_2 n c vs => .popB vs fun b vs => .popI .i64 vs fun n_17 vs => .unNil vs (bif decide (n_17 > 0) then .loadC a fun p => .loadC a_1 fun p_1 => .comm false #[{ chan := .chan p, send := none, zero := .slice none 0 0 }, { chan := .chan p_1, send := none, zero := .bool false }] CommShape.select fun v => .unTup v fun l => .unCons l fun v vs => .unI .i64 v fun n_18 => .unCons vs fun v vs => .unB v fun b_1 => .unCons vs fun v vs => .unS v fun a n_19 c_1 => .unCons vs fun v vs => .unB v fun b_2 => .unNil vs (bif n_18 == 0 then bif !b then .leaf (.again [.slice a n_19 c_1, .bool true, .int .i64 n_17]) else .call false 149 #[.slice a n_19 c_1, .slice a_2 n c] fun v => .unI .i64 v fun n_20 => bif decide (n_20 < 0) then .leaf (.again [.slice a n_19 c_1, .bool true, .int .i64 n_17]) else .leaf (.again [.slice a_2 n c, .bool b, .int .i64 n_17]) else bif n_18 == 1 then .leaf (.again [.slice a_2 n c, .bool b, .int .i64 (IntKind.wrap .i64 (n_17 - 1))]) else .leaf (.again [.slice a_2 n c, .bool b, .int .i64 n_17])) else .leaf (.brk [.slice a_2 n c, .bool b, .int .i64 n_17]))) (fun vs => .popS vs fun a n c vs => .popB vs fun b vs => .popI .i64 vs fun n_17 vs => .unNil vs (.leaf (.ret (.tuple #[.slice a n c, .bool b, .int .i64 0])))) (fun vs => .popS vs fun a n c vs => .popB vs fun b vs => .popI .i64 vs fun n_17 vs => .unNil vs (.leaf (.ret (.tuple #[.slice a n c, .bool b, .int .i64 0])))) fun x x_6 => .fail)) (fun vs => .popI .i64 vs fun n vs => .unNil vs (.leaf (.ret (.tuple #[.slice none 0 0, .bool false, .int .i64 0])))) fun x x_6 => .fail))) (fun vs => .popA vs fun a vs => .popA vs fun a vs => .unNil vs (.leaf (.ret (.tuple #[.slice none 0 0, .bool false, .int .i64 0])))) fun x x_6 => .fail)
theorem w2044 (x_0 x_1 x_2 x_3 x_4 x_5 : Int) (x_6p : Option Addr) (x_6n x_6c : Nat) (land item day : Int) (hX : XOK X) (hw : (n2044 x_0 x_1 x_2 x_3 x_4 x_5 x_6p x_6n x_6c land item day).wp X Tryz.prog (retQ A) h) : FWK X Tryz.prog .normal 92 #[.agg #[.int .i64 x_0, .int .i64 x_1, .int .i64 x_2, .int .i64 x_3, .int .i64 x_4, .int .i64 x_5, .slice x_6p x_6n x_6c], .int .i64 land, .int .i64 item, .int .i64 day] h A := fwk_neat (show ftree ({ P := Tryz.prog, priv := [], loops := [{ id := 0, slots := [(34, .int .i64)], ro := [], outs := [] }, { id := 2, slots := [(8, .slice), (9, .bool), (15, .int .i64)], ro := [], outs := [] }], joins := [{ id := 6, slots := [(13, .adr), (14, .adr)], ro := [], outs := [] }] }) Tryz.f92 [.agg #[.int .i64 x_0, .int .i64 x_1, .int .i64 x_2, .int .i64 x_3, .int .i64 x_4, .int .i64 x_5, .slice x_6p x_6n x_6c], .int .i64 land, .int .i64 item, .int .i64 day] = n2044 x_0 x_1 x_2 x_3 x_4 x_5 x_6p x_6n x_6c land item day by kernel_rfl) (by simp) (by kernel_rfl) (by kernel_rfl) hX hw
noncomputable def n2052 (n first last : Int) : T := bif decide (first ≤ n) then .leaf (.ret (.bool (decide (n ≤ last)))) else .leaf (.ret (.bool false))
theorem w2052 (n first last : Int) (hX : XOK X) (hw : (n2052 n first last).wp X Tryz.prog (retQ A) h) : FWK X Tryz.prog .normal 197 #[.int .i64 n, .int .i64 first, .int .i64 last] h A := fwk_neat (show ftree ({ P := Tryz.prog, priv := [], loops := [], joins := [] }) Tryz.f197 [.int .i64 n, .int .i64 first, .int .i64 last] = n2052 n first last by kernel_rfl) (by simp) (by kernel_rfl) (by kernel_rfl) hX hw
noncomputable def n2053 (n : Int) : T := .call false 197 #[.int .i64 n, .int .i64 0, .int .i64 9999] fun v => .unB v fun b => .leaf (.ret (.bool b))
theorem w2053 (n : Int) (hX : XOK X) (hw : (n2053 n).wp X Tryz.prog (retQ A) h) : FWK X Tryz.prog .normal 194 #[.int .i64 n] h A := fwk_neat (show ftree ({ P := Tryz.prog, priv := [], loops := [], joins := [] }) Tryz.f194 [.int .i64 n] = n2053 n by kernel_rfl) (by simp) (by kernel_rfl) (by kernel_rfl) hX hw
noncomputable def n2054 (x_0 x_1 x_2 x_3 x_4 x_5 : Int) (x_6p : Option Addr) (x_6n x_6c : Nat) (e_0 e_1 e_2 : Int) (e_3p : Option Addr) (e_3n e_3c : Nat) (e_4 : Int) : T := .blk (.blk (.call false 197 #[.int .i64 e_0, .int .i64 0, .int .i64 6] fun v => .unB v fun b => .leaf (.again [.bool !b])) (fun vs => .popB vs fun b vs => .unNil vs (bif b then .leaf (.again [.bool b]) else .blk (.call false 194 #[.int .i64 e_1] fun v => .unB v fun b => .leaf (.again [.bool !b])) (fun vs => .popB vs fun b vs => .unNil vs (bif b then .leaf (.again [.bool b]) else .call false 194 #[.int .i64 e_4] fun v => .unB v fun b => .leaf (.again [.bool !b]))) (fun vs => .popB vs fun b vs => .unNil vs (.leaf (.retn [.bool b]))) fun x x_6 => .fail)) (fun vs => .popB vs fun b vs => .unNil vs (.leaf (.retn [.bool b]))) fun x x_6 => .fail) (fun vs => .popB vs fun b vs => .unNil vs (bif b then .leaf (.ret (.int .i64 1)) else .call false 197 #[.int .i64 e_2, .int .i64 0, .int .i64 (IntKind.wrap .i64 (x_1 - 1))] fun v => .unB v fun b => bif !b then .leaf (.ret (.int .i64 6)) else .loop [.int .i64 0, .int .i64 0] (fun vs => .popI .i64 vs fun n vs => .popI .i64 vs fun n_1 vs => .unNil vs (bif decide (n_1 < (↑e_3n : Int)) then .need (0 ≤ n_1 ∧ n_1 < (↑e_3n : Int)) (.someA e_3p fun a => .loadI .i64 (a.add (n_1.toNat * 1)) fun n_2 => .call false 197 #[.int .i64 n_2, .int .i64 0, .int .i64 (IntKind.wrap .i64 (x_0 - 1))] fun v => .unB v fun b => bif !b then .leaf (.retn [.int .i64 6, .int .i64 n_1]) else bif decide (n_1 > 0) then .need (0 ≤ IntKind.wrap .i64 (n_1 - 1) ∧ IntKind.wrap .i64 (n_1 - 1) < (↑e_3n : Int)) (.someA e_3p fun a => .loadI .i64 (a.add ((IntKind.wrap .i64 (n_1 - 1)).toNat * 1)) fun n_3 => bif decide (n_2 ≤ n_3) then .leaf (.retn [.int .i64 7, .int .i64 n_1]) else .leaf (.again [.int .i64 n, .int .i64 (IntKind.wrap .i64 (n_1 + 1))])) else .leaf (.again [.int .i64 n, .int .i64 (IntKind.wrap .i64 (n_1 + 1))])) else .leaf (.brk [.int .i64 n, .int .i64 n_1]))) (fun vs => .popI .i64 vs fun n vs => .popI .i64 vs fun n_1 vs => .unNil vs (.need (0 ≤ e_0 ∧ e_0 < (↑7 : Int)) (.loadB (((Addr.add { block := 1, off := 0 } (e_0.toNat * 4)).add 1).add 0) fun b => .loadB (((Addr.add { block := 1, off := 0 } (e_0.toNat * 4)).add 1).add 1) fun b_1 => .blk (.blk (.loadB (Addr.add { block := 3, off := 0 } 0) fun b_2 => .loadB (Addr.add { block := 3, off := 0 } 1) fun b_3 => .sem false (Sem.bind (eqGuard BinOp.eql 308 (Operand.tmp 64) (Operand.tmp 65) (.agg #[.bool b, .bool b_1]) (.agg #[.bool b_2, .bool b_3])) fun __r => binOp BinOp.eql 308 (.agg #[.bool b, .bool b_1]) (.agg #[.bool b_2, .bool b_3])) fun v => .unB v fun b => bif b then .leaf (.again [.bool (e_4 != 0)]) else .leaf (.again [.bool false])) (fun vs => .popB vs fun b_2 vs => .unNil vs (bif b_2 then .leaf (.again [.bool b_2]) else bif !b then .leaf (.again [.bool (e_2 != 0)]) else .leaf (.again [.bool false]))) (fun vs => .popB vs fun b vs => .unNil vs (.leaf (.retn [.bool b]))) fun x x_6 => .fail) (fun vs => .popB vs fun b vs => .unNil vs (bif b then .leaf (.ret (.int .i64 1)) else bif decide (e_4 > e_1) then .leaf (.ret (.int .i64 7)) else .leaf (.ret (.int .i64 0)))) (fun vs => .popB vs fun b vs => .unNil vs (.leaf (.ret (.int .i64 n)))) fun x x_6 => .fail))) (fun vs => .popI .i64 vs fun n vs => .popI .i64 vs fun n_1 vs => .unNil vs (.leaf (.ret (.int .i64 n)))) fun x x_6 => .fail)) (fun vs => .popB vs fun b vs => .unNil vs (.leaf (.ret (.int .i64 0)))) fun x x_6 => .fail
theorem w2054 (x_0 x_1 x_2 x_3 x_4 x_5 : Int) (x_6p : Option Addr) (x_6n x_6c : Nat) (e_0 e_1 e_2 : Int) (e_3p : Option Addr) (e_3n e_3c : Nat) (e_4 : Int) (hX : XOK X) (hw : (n2054 x_0 x_1 x_2 x_3 x_4 x_5 x_6p x_6n x_6c e_0 e_1 e_2 e_3p e_3n e_3c e_4).wp X Tryz.prog (retQ A) h) : FWK X Tryz.prog .normal 262 #[.agg #[.int .i64 x_0, .int .i64 x_1, .int .i64 x_2, .int .i64 x_3, .int .i64 x_4, .int .i64 x_5, .slice x_6p x_6n x_6c], .agg #[.int .i64 e_0, .int .i64 e_1, .int .i64 e_2, .slice e_3p e_3n e_3c, .int .i64 e_4]] h A := fwk_neat (show ftree ({ P := Tryz.prog, priv := [2, 3, 7], loops := [{ id := 1, slots := [(4, .int .i64), (32, .int .i64)], ro := [2, 3], outs := [] }], joins := [{ id := 2000008, slots := [(8, .bool)], ro := [2, 3], outs := [] }, { id := 2000063, slots := [(63, .bool)], ro := [2, 3, 7], outs := [] }] }) Tryz.f262 [.agg #[.int .i64 x_0, .int .i64 x_1, .int .i64 x_2, .int .i64 x_3, .int .i64 x_4, .int .i64 x_5, .slice x_6p x_6n x_6c], .agg #[.int .i64 e_0, .int .i64 e_1, .int .i64 e_2, .slice e_3p e_3n e_3c, .int .i64 e_4]] = n2054 x_0 x_1 x_2 x_3 x_4 x_5 x_6p x_6n x_6c e_0 e_1 e_2 e_3p e_3n e_3c e_4 by kernel_rfl) (by simp) (by kernel_rfl) (by kernel_rfl) hX hw
noncomputable def n2058 (x_0 x_1 x_2 x_3 x_4 x_5 : Int) (x_6p : Option Addr) (x_6n x_6c : Nat) (land item : Int) : T := .call false 193 #[.agg #[.int .i64 x_0, .int .i64 x_1, .int .i64 x_2, .int .i64 x_3, .int .i64 x_4, .int .i64 x_5, .slice x_6p x_6n x_6c], .int .i64 land] fun v => .unI .i64 v fun n => bif n != 0 then .leaf (.ret (.int .i64 n)) else .call false 197 #[.int .i64 item, .int .i64 0, .int .i64 (IntKind.wrap .i64 (x_0 - 1))] fun v => .unB v fun b => bif b then .leaf (.ret (.int .i64 n)) else .leaf (.ret (.int .i64 6))
theorem w2058 (x_0 x_1 x_2 x_3 x_4 x_5 : Int) (x_6p : Option Addr) (x_6n x_6c : Nat) (land item : Int) (hX : XOK X) (hw : (n2058 x_0 x_1 x_2 x_3 x_4 x_5 x_6p x_6n x_6c land item).wp X Tryz.prog (retQ A) h) : FWK X Tryz.prog .normal 142 #[.agg #[.int .i64 x_0, .int .i64 x_1, .int .i64 x_2, .int .i64 x_3, .int .i64 x_4, .int .i64 x_5, .slice x_6p x_6n x_6c], .int .i64 land, .int .i64 item] h A := fwk_neat (show ftree ({ P := Tryz.prog, priv := [3], loops := [], joins := [] }) Tryz.f142 [.agg #[.int .i64 x_0, .int .i64 x_1, .int .i64 x_2, .int .i64 x_3, .int .i64 x_4, .int .i64 x_5, .slice x_6p x_6n x_6c], .int .i64 land, .int .i64 item] = n2058 x_0 x_1 x_2 x_3 x_4 x_5 x_6p x_6n x_6c land item by kernel_rfl) (by simp) (by kernel_rfl) (by kernel_rfl) hX hw
noncomputable def n2059 (m : Option Nat) : T := .call false 199 #[.map m] fun v => .call false 198 #[v] fun v => .unS v fun a n c => .leaf (.ret (.slice a n c))
theorem w2059 (m : Option Nat) (hX : XOK X) (hw : (n2059 m).wp X Tryz.prog (retQ A) h) : FWK X Tryz.prog .normal 143 #[.map m] h A := fwk_neat (show ftree ({ P := Tryz.prog, priv := [], loops := [], joins := [] }) Tryz.f143 [.map m] = n2059 m by kernel_rfl) (by simp) (by kernel_rfl) (by kernel_rfl) hX hw
noncomputable def n2060 (m_0 m_1 m_2 m_3 m_4 m_5 : Int) (m_6p : Option Addr) (m_6n m_6c : Nat) (m_7 m_8 day : Int) : T := .call false 195 #[.agg #[.int .i64 m_0, .int .i64 m_1, .int .i64 m_2, .int .i64 m_3, .int .i64 m_4, .int .i64 m_5, .slice m_6p m_6n m_6c, .int .i64 m_7, .int .i64 m_8]] fun v => .unS v fun a n c => .loop [.int .i64 10000, .int .i64 0, .int .i64 m_0, .int .i64 m_1, .int .i64 m_2, .int .i64 m_3, .int .i64 m_4, .int .i64 m_5, .slice m_6p m_6n m_6c, .int .i64 m_7, .int .i64 m_8, .int .i64 day] (fun vs => .popI .i64 vs fun n_1 vs => .popI .i64 vs fun n_2 vs => .popI .i64 vs fun n_3 vs => .popI .i64 vs fun n_4 vs => .popI .i64 vs fun n_5 vs => .popI .i64 vs fun n_6 vs => .popI .i64 vs fun n_7 vs => .popI .i64 vs fun n_8 vs => .popS vs fun a_1 n_9 c vs => .popI .i64 vs fun n_10 vs => .popI .i64 vs fun n_11 vs => .popI .i64 vs fun n_12 vs => .unNil vs (bif decide (n_2 < (↑n : Int)) then .need (0 ≤ n_2 ∧ n_2 < (↑n : Int)) (.someA a fun a => .loadV (a.add (n_2.toNat * 1)) fun v => .callv false (.func (Fn.method "touchmark/treaty.on") #[v] #[]) #[.int .i64 n_12] fun v => .unTup v fun l => .unCons l fun v vs => .unI .i64 v fun n => .unCons vs fun v vs => .unB v fun b => .unNil vs (bif !b then .leaf (.again [.int .i64 n_1, .int .i64 (IntKind.wrap .i64 (n_2 + 1)), .int .i64 n_3, .int .i64 n_4, .int .i64 n_5, .int .i64 n_6, .int .i64 n_7, .int .i64 n_8, .slice a_1 n_9 c, .int .i64 n_10, .int .i64 n_11, .int .i64 n_12]) else .call false 196 #[.agg #[.int .i64 n_3, .int .i64 n_4, .int .i64 n_5, .int .i64 n_6, .int .i64 n_7, .int .i64 n_8, .slice a_1 n_9 c, .int .i64 n_10, .int .i64 n_11], .int .i64 6] fun v => .each v [.int .i64 n] (fun xs vs => .unCons xs fun v vs_1 => .unAgg v fun l => .popI .i64 l fun n_13 vs_2 => .popI .i64 vs_2 fun n_14 vs_3 => .popI .i64 vs_3 fun n_15 vs_4 => .popS vs_4 fun a n_16 c vs_5 => .popI .i64 vs_5 fun n_17 vs_6 => .unNil vs_6 (.unNil vs_1 (.popI .i64 vs fun n_18 vs => .unNil vs (bif decide (n_14 ≤ n_12) then bif decide (n_17 ≤ n) then .leaf (.again [.int .i64 (if n_17 < n_18 then n_17 else n_18)]) else .leaf (.again [.int .i64 n_18]) else .leaf (.again [.int .i64 n_18]))))) (fun vs => .popI .i64 vs fun n vs => .unNil vs (.leaf (.again [.int .i64 (if n < n_1 then n else n_1), .int .i64 (IntKind.wrap .i64 (n_2 + 1)), .int .i64 n_3, .int .i64 n_4, .int .i64 n_5, .int .i64 n_6, .int .i64 n_7, .int .i64 n_8, .slice a_1 n_9 c, .int .i64 n_10, .int .i64 n_11, .int .i64 n_12]))) (fun vs => .popI .i64 vs fun n vs => .unNil vs (.leaf (.again [.int .i64 (if n < n_1 then n else n_1), .int .i64 (IntKind.wrap .i64 (n_2 + 1)), .int .i64 n_3, .int .i64 n_4, .int .i64 n_5, .int .i64 n_6, .int .i64 n_7, .int .i64 n_8, .slice a_1 n_9 c, .int .i64 n_10, .int .i64 n_11, .int .i64 n_12]))) (fun vs => .popI .i64 vs fun n vs => .unNil vs (.leaf (.retn [.int .i64 n_1, .int .i64 n_2, .int .i64 n_3, .int .i64 n_4, .int .i64 n_5, .int .i64 n_6, .int .i64 n_7, .int .i64 n_8, .slice a_1 n_9 c, .int .i64 n_10, .int .i64 n_11, .int .i64 n_12]))) fun x x_1 => .fail)) else .leaf (.brk [.int .i64 n_1, .int .i64 n_2, .int .i64 n_3, .int .i64 n_4, .int .i64 n_5, .int .i64 n_6, .int .i64 n_7, .int .i64 n_8, .slice a_1 n_9 c, .int .i64 n_10, .int .i64 n_11, .int .i64 n_12]))) (fun vs => .popI .i64 vs fun n vs => .popI .i64 vs fun n_1 vs => .popI .i64 vs fun n_2 vs => .popI .i64 vs fun n_3 vs => .popI .i64 vs fun n_4 vs => .popI .i64 vs fun n_5 vs => .popI .i64 vs fun n_6 vs => .popI .i64 vs fun n_7 vs => .popS vs fun a n_8 c vs => .popI .i64 vs fun n_9 vs => .popI .i64 vs fun n_10 vs => .popI .i64 vs fun n_11 vs => .unNil vs (bif n == 10000 then .leaf (.ret (.int .i64 (-1))) else .leaf (.ret (.int .i64 n)))) (fun vs => .popI .i64 vs fun n vs => .popI .i64 vs fun n vs => .popI .i64 vs fun n vs => .popI .i64 vs fun n vs => .popI .i64 vs fun n vs => .popI .i64 vs fun n vs => .popI .i64 vs fun n vs => .popI .i64 vs fun n vs => .popS vs fun a n c vs => .popI .i64 vs fun n vs => .popI .i64 vs fun n vs => .popI .i64 vs fun n vs => .unNil vs (.leaf (.ret (.int .i64 0)))) fun x x_1 => .fail
theorem w2060 (m_0 m_1 m_2 m_3 m_4 m_5 : Int) (m_6p : Option Addr) (m_6n m_6c : Nat) (m_7 m_8 day : Int) (hX : XOK X) (hw : (n2060 m_0 m_1 m_2 m_3 m_4 m_5 m_6p m_6n m_6c m_7 m_8 day).wp X Tryz.prog (retQ A) h) : FWK X Tryz.prog .normal 141 #[.agg #[.int .i64 m_0, .int .i64 m_1, .int .i64 m_2, .int .i64 m_3, .int .i64 m_4, .int .i64 m_5, .slice m_6p m_6n m_6c, .int .i64 m_7, .int .i64 m_8], .int .i64 day] h A := fwk_neat (show ftree ({ P := Tryz.prog, priv := [2, 3, 8, 10, 11], loops := [{ id := 2, slots := [(45056, .int .i64)], ro := [2, 3, 8], outs := [], ps := [.agg [.int .i64, .int .i64, .int .i64, .slice, .int .i64]] }, { id := 0, slots := [(5, .int .i64), (15, .int .i64), (12288, .int .i64), (12289, .int .i64), (12290, .int .i64), (12291, .int .i64), (12292, .int .i64), (12293, .int .i64), (12294, .slice), (12295, .int .i64), (12296, .int .i64), (16384, .int .i64)], ro := [], outs := [] }], joins := [] }) Tryz.f141 [.agg #[.int .i64 m_0, .int .i64 m_1, .int .i64 m_2, .int .i64 m_3, .int .i64 m_4, .int .i64 m_5, .slice m_6p m_6n m_6c, .int .i64 m_7, .int .i64 m_8], .int .i64 day] = n2060 m_0 m_1 m_2 m_3 m_4 m_5 m_6p m_6n m_6c m_7 m_8 day by kernel_rfl) (by simp) (by kernel_rfl) (by kernel_rfl) hX hw
noncomputable def n2063 (x_0 x_1 x_2 x_3 x_4 x_5 : Int) (x_6p : Option Addr) (x_6n x_6c : Nat) (land day : Int) : T := .call false 193 #[.agg #[.int .i64 x_0, .int .i64 x_1, .int .i64 x_2, .int .i64 x_3, .int .i64 x_4, .int .i64 x_5, .slice x_6p x_6n x_6c], .int .i64 land] fun v => .unI .i64 v fun n => bif n != 0 then .leaf (.ret (.int .i64 n)) else .call false 194 #[.int .i64 day] fun v => .unB v fun b => bif b then .leaf (.ret (.int .i64 n)) else .leaf (.ret (.int .i64 1))
theorem w2063 (x_0 x_1 x_2 x_3 x_4 x_5 : Int) (x_6p : Option Addr) (x_6n x_6c : Nat) (land day : Int) (hX : XOK X) (hw : (n2063 x_0 x_1 x_2 x_3 x_4 x_5 x_6p x_6n x_6c land day).wp X Tryz.prog (retQ A) h) : FWK X Tryz.prog .normal 140 #[.agg #[.int .i64 x_0, .int .i64 x_1, .int .i64 x_2, .int .i64 x_3, .int .i64 x_4, .int .i64 x_5, .slice x_6p x_6n x_6c], .int .i64 land, .int .i64 day] h A := fwk_neat (show ftree ({ P := Tryz.prog, priv := [3], loops := [], joins := [] }) Tryz.f140 [.agg #[.int .i64 x_0, .int .i64 x_1, .int .i64 x_2, .int .i64 x_3, .int .i64 x_4, .int .i64 x_5, .slice x_6p x_6n x_6c], .int .i64 land, .int .i64 day] = n2063 x_0 x_1 x_2 x_3 x_4 x_5 x_6p x_6n x_6c land day by kernel_rfl) (by simp) (by kernel_rfl) (by kernel_rfl) hX hw
noncomputable def n2064 (m_0 m_1 m_2 m_3 m_4 m_5 : Int) (m_6p : Option Addr) (m_6n m_6c : Nat) (m_7 m_8 day : Int) : T := .call false 200 #[.agg #[.int .i64 m_0, .int .i64 m_1, .int .i64 m_2, .int .i64 m_3, .int .i64 m_4, .int .i64 m_5, .slice m_6p m_6n m_6c, .int .i64 m_7, .int .i64 m_8]] fun v => .unS v fun a n c => .loop [.bool false, .int .i64 0, .int .i64 0, .int .i64 0, .int .i64 0, .int .i64 0, .int .i64 0, .int .i64 0, .slice none 0 0, .int .i64 0, .int .i64 0, .int .i64 0, .int .i64 0, .bool false] (fun vs => .popB vs fun b vs => .popI .i64 vs fun n_1 vs => .popI .i64 vs fun n_2 vs => .popI .i64 vs fun n_3 vs => .popI .i64 vs fun n_4 vs => .popI .i64 vs fun n_5 vs => .popI .i64 vs fun n_6 vs => .popI .i64 vs fun n_7 vs => .popS vs fun a_1 n_8 c vs => .popI .i64 vs fun n_9 vs => .popI .i64 vs fun n_10 vs => .popI .i64 vs fun n_11 vs => .popI .i64 vs fun n_12 vs => .popB vs fun b_1 vs => .unNil vs (bif decide (n_1 < (↑n : Int)) then .need (0 ≤ n_1 ∧ n_1 < (↑n : Int)) (.someA a fun a => .loadI .i64 ((a.add (n_1.toNat * 12)).add 0) fun n => .loadI .i64 ((a.add (n_1.toNat * 12)).add 1) fun n_13 => .loadI .i64 ((a.add (n_1.toNat * 12)).add 2) fun n_14 => .loadI .i64 ((a.add (n_1.toNat * 12)).add 3) fun n_15 => .loadI .i64 ((a.add (n_1.toNat * 12)).add 4) fun n_16 => .loadI .i64 ((a.add (n_1.toNat * 12)).add 5) fun n_17 => .loadS ((a.add (n_1.toNat * 12)).add 6) fun p n_18 c_1 => .loadI .i64 ((a.add (n_1.toNat * 12)).add 7) fun n_19 => .loadI .i64 ((a.add (n_1.toNat * 12)).add 8) fun n_20 => .loadI .i64 ((a.add (n_1.toNat * 12)).add 9) fun n_21 => .loadI .i64 ((a.add (n_1.toNat * 12)).add 10) fun n_22 => .loadB ((a.add (n_1.toNat * 12)).add 11) fun b_2 => bif b_2 then .call false 197 #[.int .i64 day, .int .i64 n_22, .int .i64 (IntKind.wrap .i64 (n_22 + n_17))] fun v => .unB v fun b_3 => bif b_3 then .call false 201 #[.agg #[.int .i64 n, .int .i64 n_13, .int .i64 n_14, .int .i64 n_15, .int .i64 n_16, .int .i64 n_17, .slice p n_18 c_1, .int .i64 n_19, .int .i64 n_20, .int .i64 n_21, .int .i64 n_22, .bool b_2], .int .i64 (IntKind.wrap .i64 (n_22 - 1))] fun v => .unB v fun b_4 => bif !b_4 then bif !b then .leaf (.again [.bool true, .int .i64 (IntKind.wrap .i64 (n_1 + 1)), .int .i64 n, .int .i64 n_13, .int .i64 n_14, .int .i64 n_15, .int .i64 n_16, .int .i64 n_17, .slice p n_18 c_1, .int .i64 n_19, .int .i64 n_20, .int .i64 n_21, .int .i64 n_22, .bool b_2]) else bif decide (n_21 < n_11) then .leaf (.again [.bool true, .int .i64 (IntKind.wrap .i64 (n_1 + 1)), .int .i64 n, .int .i64 n_13, .int .i64 n_14, .int .i64 n_15, .int .i64 n_16, .int .i64 n_17, .slice p n_18 c_1, .int .i64 n_19, .int .i64 n_20, .int .i64 n_21, .int .i64 n_22, .bool b_2]) else .leaf (.again [.bool b, .int .i64 (IntKind.wrap .i64 (n_1 + 1)), .int .i64 n_2, .int .i64 n_3, .int .i64 n_4, .int .i64 n_5, .int .i64 n_6, .int .i64 n_7, .slice a_1 n_8 c, .int .i64 n_9, .int .i64 n_10, .int .i64 n_11, .int .i64 n_12, .bool b_1]) else .leaf (.again [.bool b, .int .i64 (IntKind.wrap .i64 (n_1 + 1)), .int .i64 n_2, .int .i64 n_3, .int .i64 n_4, .int .i64 n_5, .int .i64 n_6, .int .i64 n_7, .slice a_1 n_8 c, .int .i64 n_9, .int .i64 n_10, .int .i64 n_11, .int .i64 n_12, .bool b_1]) else .leaf (.again [.bool b, .int .i64 (IntKind.wrap .i64 (n_1 + 1)), .int .i64 n_2, .int .i64 n_3, .int .i64 n_4, .int .i64 n_5, .int .i64 n_6, .int .i64 n_7, .slice a_1 n_8 c, .int .i64 n_9, .int .i64 n_10, .int .i64 n_11, .int .i64 n_12, .bool b_1]) else .leaf (.again [.bool b, .int .i64 (IntKind.wrap .i64 (n_1 + 1)), .int .i64 n_2, .int .i64 n_3, .int .i64 n_4, .int .i64 n_5, .int .i64 n_6, .int .i64 n_7, .slice a_1 n_8 c, .int .i64 n_9, .int .i64 n_10, .int .i64 n_11, .int .i64 n_12, .bool b_1])) else .leaf (.brk [.bool b, .int .i64 n_1, .int .i64 n_2, .int .i64 n_3, .int .i64 n_4, .int .i64 n_5, .int .i64 n_6, .int .i64 n_7, .slice a_1 n_8 c, .int .i64 n_9, .int .i64 n_10, .int .i64 n_11, .int .i64 n_12, .bool b_1]))) (fun vs => .popB vs fun b vs => .popI .i64 vs fun n vs => .popI .i64 vs fun n vs => .popI .i64 vs fun n_1 vs => .popI .i64 vs fun n_2 vs => .popI .i64 vs fun n_3 vs => .popI .i64 vs fun n_4 vs => .popI .i64 vs fun n_5 vs => .popS vs fun a n_6 c vs => .popI .i64 vs fun n_7 vs => .popI .i64 vs fun n_8 vs => .popI .i64 vs fun n_9 vs => .popI .i64 vs fun n_10 vs => .popB vs fun b_1 vs => .unNil vs (.leaf (.ret (.tuple #[.agg #[.int .i64 n, .int .i64 n_1, .int .i64 n_2, .int .i64 n_3, .int .i64 n_4, .int .i64 n_5, .slice a n_6 c, .int .i64 n_7, .int .i64 n_8, .int .i64 n_9, .int .i64 n_10, .bool b_1], .bool b])))) (fun vs => .popB vs fun b vs => .popI .i64 vs fun n vs => .popI .i64 vs fun n vs => .popI .i64 vs fun n_1 vs => .popI .i64 vs fun n_2 vs => .popI .i64 vs fun n_3 vs => .popI .i64 vs fun n_4 vs => .popI .i64 vs fun n_5 vs => .popS vs fun a n_6 c vs => .popI .i64 vs fun n_7 vs => .popI .i64 vs fun n_8 vs => .popI .i64 vs fun n_9 vs => .popI .i64 vs fun n_10 vs => .popB vs fun b_1 vs => .unNil vs (.leaf (.ret (.tuple #[.agg #[.int .i64 n, .int .i64 n_1, .int .i64 n_2, .int .i64 n_3, .int .i64 n_4, .int .i64 n_5, .slice a n_6 c, .int .i64 n_7, .int .i64 n_8, .int .i64 n_9, .int .i64 n_10, .bool b_1], .bool b])))) fun x x_1 => .fail
theorem w2064 (m_0 m_1 m_2 m_3 m_4 m_5 : Int) (m_6p : Option Addr) (m_6n m_6c : Nat) (m_7 m_8 day : Int) (hX : XOK X) (hw : (n2064 m_0 m_1 m_2 m_3 m_4 m_5 m_6p m_6n m_6c m_7 m_8 day).wp X Tryz.prog (retQ A) h) : FWK X Tryz.prog .normal 144 #[.agg #[.int .i64 m_0, .int .i64 m_1, .int .i64 m_2, .int .i64 m_3, .int .i64 m_4, .int .i64 m_5, .slice m_6p m_6n m_6c, .int .i64 m_7, .int .i64 m_8], .int .i64 day] h A := fwk_neat (show ftree ({ P := Tryz.prog, priv := [2, 4, 7], loops := [{ id := 0, slots := [(5, .bool), (11, .int .i64), (20480, .int .i64), (20481, .int .i64), (20482, .int .i64), (20483, .int .i64), (20484, .int .i64), (20485, .int .i64), (20486, .slice), (20487, .int .i64), (20488, .int .i64), (20489, .int .i64), (20490, .int .i64), (20491, .bool)], ro := [2], outs := [] }], joins := [] }) Tryz.f144 [.agg #[.int .i64 m_0, .int .i64 m_1, .int .i64 m_2, .int .i64 m_3, .int .i64 m_4, .int .i64 m_5, .slice m_6p m_6n m_6c, .int .i64 m_7, .int .i64 m_8], .int .i64 day] = n2064 m_0 m_1 m_2 m_3 m_4 m_5 m_6p m_6n m_6c m_7 m_8 day by kernel_rfl) (by simp) (by kernel_rfl) (by kernel_rfl) hX hw
noncomputable def n2066 (x_0 x_1 x_2 x_3 x_4 x_5 : Int) (x_6p : Option Addr) (x_6n x_6c : Nat) (land item day : Int) : T := .call false 142 #[.agg #[.int .i64 x_0, .int .i64 x_1, .int .i64 x_2, .int .i64 x_3, .int .i64 x_4, .int .i64 x_5, .slice x_6p x_6n x_6c], .int .i64 land, .int .i64 item] fun v => .unI .i64 v fun n => bif n != 0 then .leaf (.ret (.int .i64 n)) else .call false 194 #[.int .i64 day] fun v => .unB v fun b => bif b then .leaf (.ret (.int .i64 n)) else .leaf (.ret (.int .i64 1))
theorem w2066 (x_0 x_1 x_2 x_3 x_4 x_5 : Int) (x_6p : Option Addr) (x_6n x_6c : Nat) (land item day : Int) (hX : XOK X) (hw : (n2066 x_0 x_1 x_2 x_3 x_4 x_5 x_6p x_6n x_6c land item day).wp X Tryz.prog (retQ A) h) : FWK X Tryz.prog .normal 145 #[.agg #[.int .i64 x_0, .int .i64 x_1, .int .i64 x_2, .int .i64 x_3, .int .i64 x_4, .int .i64 x_5, .slice x_6p x_6n x_6c], .int .i64 land, .int .i64 item, .int .i64 day] h A := fwk_neat (show ftree ({ P := Tryz.prog, priv := [4], loops := [], joins := [] }) Tryz.f145 [.agg #[.int .i64 x_0, .int .i64 x_1, .int .i64 x_2, .int .i64 x_3, .int .i64 x_4, .int .i64 x_5, .slice x_6p x_6n x_6c], .int .i64 land, .int .i64 item, .int .i64 day] = n2066 x_0 x_1 x_2 x_3 x_4 x_5 x_6p x_6n x_6c land item day by kernel_rfl) (by simp) (by kernel_rfl) (by kernel_rfl) hX hw
noncomputable def n2067 (x_0 x_1 x_2 x_3 x_4 x_5 : Int) (x_6p : Option Addr) (x_6n x_6c : Nat) : T := .loop [.slice none 0 0, .int .i64 0] (fun vs => .popS vs fun a n c vs => .popI .i64 vs fun n_1 vs => .unNil vs (bif decide (n_1 < (↑x_6n : Int)) then .need (0 ≤ n_1 ∧ n_1 < (↑x_6n : Int)) (.someA x_6p fun a_1 => .loadI .i64 ((a_1.add (n_1.toNat * 5)).add 0) fun n_2 => .loadI .i64 ((a_1.add (n_1.toNat * 5)).add 1) fun n_3 => .loadI .i64 ((a_1.add (n_1.toNat * 5)).add 2) fun n_4 => .loadS ((a_1.add (n_1.toNat * 5)).add 3) fun p n_5 c_1 => .loadI .i64 ((a_1.add (n_1.toNat * 5)).add 4) fun n_6 => .need (0 ≤ n_2 ∧ n_2 < (↑7 : Int)) (.loadV ((Addr.add { block := 1, off := 0 } (n_2.toNat * 4)).add 3) fun v => .callv false v #[] fun v => .unB v fun b => bif b then .sem false (Instr.buildSlice 30 1 #[(0, .int .i64 n_1)]) fun v => .unS v fun a_2 n_7 c_2 => .sem false (Builtin.append_ #[30, 30] 30 #[.slice a n c, .slice a_2 n_7 c_2]) fun v => .unS v fun a n c => .leaf (.again [.slice a n c, .int .i64 (IntKind.wrap .i64 (n_1 + 1))]) else .leaf (.again [.slice a n c, .int .i64 (IntKind.wrap .i64 (n_1 + 1))]))) else .leaf (.brk [.slice a n c, .int .i64 n_1]))) (fun vs => .popS vs fun a n c vs => .popI .i64 vs fun n_1 vs => .unNil vs (.leaf (.ret (.slice a n c)))) (fun vs => .popS vs fun a n c vs => .popI .i64 vs fun n vs => .unNil vs (.leaf (.ret (.slice none 0 0)))) fun x x_6 => .fail
theorem w2067 (x_0 x_1 x_2 x_3 x_4 x_5 : Int) (x_6p : Option Addr) (x_6n x_6c : Nat) (hX : XOK X) (hw : (n2067 x_0 x_1 x_2 x_3 x_4 x_5 x_6p x_6n x_6c).wp X Tryz.prog (retQ A) h) : FWK X Tryz.prog .normal 146 #[.agg #[.int .i64 x_0, .int .i64 x_1, .int .i64 x_2, .int .i64 x_3, .int .i64 x_4, .int .i64 x_5, .slice x_6p x_6n x_6c]] h A := fwk_neat (show ftree ({ P := Tryz.prog, priv := [1, 5], loops := [{ id := 0, slots := [(3, .slice), (9, .int .i64)], ro := [1], outs := [] }], joins := [] }) Tryz.f146 [.agg #[.int .i64 x_0, .int .i64 x_1, .int .i64 x_2, .int .i64 x_3, .int .i64 x_4, .int .i64 x_5, .slice x_6p x_6n x_6c]] = n2067 x_0 x_1 x_2 x_3 x_4 x_5 x_6p x_6n x_6c by kernel_rfl) (by simp) (by kernel_rfl) (by kernel_rfl) hX hw
noncomputable def n2069 (x_0 x_1 x_2 x_3 x_4 x_5 : Int) (x_6p : Option Addr) (x_6n x_6c : Nat) (land item day : Int) (eventsp : Option Addr) (eventsn eventsc : Nat) : T := .loop [.int .i64 0, .int .i64 x_0, .int .i64 x_1, .int .i64 x_2, .int .i64 x_3, .int .i64 x_4, .int .i64 x_5, .slice none 0 0] (fun vs => .popI .i64 vs fun n vs => .popI .i64 vs fun n_1 vs => .popI .i64 vs fun n_2 vs => .popI .i64 vs fun n_3 vs => .popI .i64 vs fun n_4 vs => .popI .i64 vs fun n_5 vs => .popI .i64 vs fun n_6 vs => .popS vs fun a n_7 c vs => .unNil vs (bif decide (n < (↑x_6n : Int)) then .need (0 ≤ n ∧ n < (↑x_6n : Int)) (.someA x_6p fun a_1 => .loadI .i64 ((a_1.add (n.toNat * 5)).add 0) fun n_8 => .loadI .i64 ((a_1.add (n.toNat * 5)).add 1) fun n_9 => .loadI .i64 ((a_1.add (n.toNat * 5)).add 2) fun n_10 => .loadS ((a_1.add (n.toNat * 5)).add 3) fun p n_11 c_1 => .loadI .i64 ((a_1.add (n.toNat * 5)).add 4) fun n_12 => .need (0 ≤ n_8 ∧ n_8 < (↑7 : Int)) (.loadV ((Addr.add { block := 1, off := 0 } (n_8.toNat * 4)).add 3) fun v => .callv false v #[] fun v => .unB v fun b => bif !b then .sem false (Instr.buildSlice 80 1 #[(0, .agg #[.int .i64 n_8, .int .i64 n_9, .int .i64 n_10, .slice p n_11 c_1, .int .i64 n_12])]) fun v => .unS v fun a_2 n_13 c_2 => .sem false (Builtin.append_ #[80, 80] 80 #[.slice a n_7 c, .slice a_2 n_13 c_2]) fun v => .unS v fun a n_14 c => .leaf (.again [.int .i64 (IntKind.wrap .i64 (n + 1)), .int .i64 n_1, .int .i64 n_2, .int .i64 n_3, .int .i64 n_4, .int .i64 n_5, .int .i64 n_6, .slice a n_14 c]) else .call false 66 #[.slice eventsp eventsn eventsc, .int .i64 n] fun v => .unB v fun b => bif b then .sem false (Instr.buildSlice 80 1 #[(0, .agg #[.int .i64 n_8, .int .i64 n_9, .int .i64 n_10, .slice p n_11 c_1, .int .i64 n_12])]) fun v => .unS v fun a_2 n_13 c_2 => .sem false (Builtin.append_ #[80, 80] 80 #[.slice a n_7 c, .slice a_2 n_13 c_2]) fun v => .unS v fun a n_14 c => .leaf (.again [.int .i64 (IntKind.wrap .i64 (n + 1)), .int .i64 n_1, .int .i64 n_2, .int .i64 n_3, .int .i64 n_4, .int .i64 n_5, .int .i64 n_6, .slice a n_14 c]) else .leaf (.again [.int .i64 (IntKind.wrap .i64 (n + 1)), .int .i64 n_1, .int .i64 n_2, .int .i64 n_3, .int .i64 n_4, .int .i64 n_5, .int .i64 n_6, .slice a n_7 c]))) else .leaf (.brk [.int .i64 n, .int .i64 n_1, .int .i64 n_2, .int .i64 n_3, .int .i64 n_4, .int .i64 n_5, .int .i64 n_6, .slice a n_7 c]))) (fun vs => .popI .i64 vs fun n vs => .popI .i64 vs fun n vs => .popI .i64 vs fun n_1 vs => .popI .i64 vs fun n_2 vs => .popI .i64 vs fun n_3 vs => .popI .i64 vs fun n_4 vs => .popI .i64 vs fun n_5 vs => .popS vs fun a n_6 c vs => .unNil vs (.call false 141 #[.agg #[.int .i64 n, .int .i64 n_1, .int .i64 n_2, .int .i64 n_3, .int .i64 n_4, .int .i64 n_5, .slice a n_6 c, .int .i64 land, .int .i64 item], .int .i64 day] fun v => .unI .i64 v fun n => .leaf (.ret (.bool (decide (n ≥ 0)))))) (fun vs => .popI .i64 vs fun n vs => .popI .i64 vs fun n vs => .popI .i64 vs fun n vs => .popI .i64 vs fun n vs => .popI .i64 vs fun n vs => .popI .i64 vs fun n vs => .popI .i64 vs fun n vs => .popS vs fun a n c vs => .unNil vs (.leaf (.ret (.bool false)))) fun x x_6 => .fail
theorem w2069 (x_0 x_1 x_2 x_3 x_4 x_5 : Int) (x_6p : Option Addr) (x_6n x_6c : Nat) (land item day : Int) (eventsp : Option Addr) (eventsn eventsc : Nat) (hX : XOK X) (hw : (n2069 x_0 x_1 x_2 x_3 x_4 x_5 x_6p x_6n x_6c land item day eventsp eventsn eventsc).wp X Tryz.prog (retQ A) h) : FWK X Tryz.prog .normal 148 #[.agg #[.int .i64 x_0, .int .i64 x_1, .int .i64 x_2, .int .i64 x_3, .int .i64 x_4, .int .i64 x_5, .slice x_6p x_6n x_6c], .int .i64 land, .int .i64 item, .int .i64 day, .slice eventsp eventsn eventsc] h A := fwk_neat (show ftree ({ P := Tryz.prog, priv := [5, 11, 13], loops := [{ id := 0, slots := [(19, .int .i64), (49152, .int .i64), (49153, .int .i64), (49154, .int .i64), (49155, .int .i64), (49156, .int .i64), (49157, .int .i64), (49158, .slice)], ro := [5], outs := [] }], joins := [] }) Tryz.f148 [.agg #[.int .i64 x_0, .int .i64 x_1, .int .i64 x_2, .int .i64 x_3, .int .i64 x_4, .int .i64 x_5, .slice x_6p x_6n x_6c], .int .i64 land, .int .i64 item, .int .i64 day, .slice eventsp eventsn eventsc] = n2069 x_0 x_1 x_2 x_3 x_4 x_5 x_6p x_6n x_6c land item day eventsp eventsn eventsc by kernel_rfl) (by simp) (by kernel_rfl) (by kernel_rfl) hX hw
noncomputable def n2073 (z0 z1 z2 z3 z4 z5 z6 z7 : Addr) : T := .sem false (Instr.buildSlice 30 0 #[]) fun v => .unS v fun a n c => .loadS z0 fun p n_1 c_1 => .loop [.slice a n c, .int .i64 0] (fun vs => .popS vs fun a n c vs => .popI .i64 vs fun n_2 vs => .unNil vs (bif decide (n_2 < (↑n_1 : Int)) then .need (0 ≤ n_2 ∧ n_2 < (↑n_1 : Int)) (.someA p fun a_1 => .loadI .i64 (a_1.add (n_2.toNat * 1)) fun n_3 => .loadI .i64 z1 fun n_4 => .need (0 ≤ n_2) (bif IntKind.wrap .i64 (↑(BitVec.toNat (BitVec.ofInt 64 (Int.fdiv n_4 (2 ^ min (n_2.toNat) 64)) &&& BitVec.ofInt 64 1)) : Int) == 1 then .sem false (Instr.buildSlice 30 1 #[(0, .int .i64 n_3)]) fun v => .unS v fun a_2 n_5 c_2 => .sem false (Builtin.append_ #[30, 30] 30 #[.slice a n c, .slice a_2 n_5 c_2]) fun v => .unS v fun a n c => .leaf (.again [.slice a n c, .int .i64 (IntKind.wrap .i64 (n_2 + 1))]) else .leaf (.again [.slice a n c, .int .i64 (IntKind.wrap .i64 (n_2 + 1))]))) else .leaf (.brk [.slice a n c, .int .i64 n_2]))) (fun vs => .popS vs fun a n c vs => .popI .i64 vs fun n_2 vs => .unNil vs (.loadI .i64 (z2.add 0) fun n_3 => .loadI .i64 (z2.add 1) fun n_4 => .loadI .i64 (z2.add 2) fun n_5 => .loadI .i64 (z2.add 3) fun n_6 => .loadI .i64 (z2.add 4) fun n_7 => .loadI .i64 (z2.add 5) fun n_8 => .loadS (z2.add 6) fun p n_9 c_2 => .loadI .i64 z3 fun n_10 => .loadI .i64 z4 fun n_11 => .loadI .i64 z5 fun n_12 => .call false 148 #[.agg #[.int .i64 n_3, .int .i64 n_4, .int .i64 n_5, .int .i64 n_6, .int .i64 n_7, .int .i64 n_8, .slice p n_9 c_2], .int .i64 n_10, .int .i64 n_11, .int .i64 n_12, .slice a n c] fun v => .unB v fun b => bif b then .loadC z6 fun p => .comm false #[{ chan := .chan p, send := some (.slice a n c), zero := .tuple #[] }] CommShape.send fun v => .loadC z7 fun p => .comm true #[{ chan := .chan p, send := some (.bool true), zero := .tuple #[] }] CommShape.send fun v => .leaf (.ret (.tuple #[])) else .loadC z7 fun p => .comm true #[{ chan := .chan p, send := some (.bool true), zero := .tuple #[] }] CommShape.send fun v => .leaf (.ret (.tuple #[])))) (fun vs => .popS vs fun a n c vs => .popI .i64 vs fun n vs => .unNil vs (.leaf (.ret (.tuple #[])))) fun x x_1 => .fail
theorem w2073 (z0 z1 z2 z3 z4 z5 z6 z7 : Addr) (hX : XOK X) (hw : (n2073 z0 z1 z2 z3 z4 z5 z6 z7).wp X Tryz.prog (retQ A) h) : FWK X Tryz.prog .deferred 147 #[.pointer (some z0), .pointer (some z1), .pointer (some z2), .pointer (some z3), .pointer (some z4), .pointer (some z5), .pointer (some z6), .pointer (some z7)] h A := fwk_neat (show ftree ({ P := Tryz.prog, priv := [], loops := [{ id := 0, slots := [(8, .slice), (14, .int .i64)], ro := [], outs := [] }], joins := [], kd := .deferred }) Tryz.f147 [.pointer (some z0), .pointer (some z1), .pointer (some z2), .pointer (some z3), .pointer (some z4), .pointer (some z5), .pointer (some z6), .pointer (some z7)] = n2073 z0 z1 z2 z3 z4 z5 z6 z7 by kernel_rfl) (by simp) (by kernel_rfl) (by kernel_rfl) hX hw
noncomputable def n2074 (ap : Option Addr) (an ac : Nat) (bp : Option Addr) (bn bc : Nat) : T := bif (↑an : Int) != (↑bn : Int) then .leaf (.ret (.int .i64 (IntKind.wrap .i64 ((↑an : Int) - (↑bn : Int))))) else .call false 166 #[.slice ap an ac, .slice bp bn bc] fun v => .unI .i64 v fun n => .leaf (.ret (.int .i64 n))
theorem w2074 (ap : Option Addr) (an ac : Nat) (bp : Option Addr) (bn bc : Nat) (hX : XOK X) (hw : (n2074 ap an ac bp bn bc).wp X Tryz.prog (retQ A) h) : FWK X Tryz.prog .normal 149 #[.slice ap an ac, .slice bp bn bc] h A := fwk_neat (show ftree ({ P := Tryz.prog, priv := [], loops := [], joins := [] }) Tryz.f149 [.slice ap an ac, .slice bp bn bc] = n2074 ap an ac bp bn bc by kernel_rfl) (by simp) (by kernel_rfl) (by kernel_rfl) hX hw
noncomputable def n2079 (x_0 x_1 x_2 x_3 x_4 x_5 : Int) (x_6p : Option Addr) (x_6n x_6c : Nat) (land : Int) : T := .call false 242 #[.agg #[.int .i64 x_0, .int .i64 x_1, .int .i64 x_2, .int .i64 x_3, .int .i64 x_4, .int .i64 x_5, .slice x_6p x_6n x_6c]] fun v => .unI .i64 v fun n => bif n != 0 then .leaf (.ret (.int .i64 n)) else .call false 197 #[.int .i64 land, .int .i64 0, .int .i64 (IntKind.wrap .i64 (x_1 - 1))] fun v => .unB v fun b => bif !b then .leaf (.ret (.int .i64 6)) else .leaf (.ret (.int .i64 0))
theorem w2079 (x_0 x_1 x_2 x_3 x_4 x_5 : Int) (x_6p : Option Addr) (x_6n x_6c : Nat) (land : Int) (hX : XOK X) (hw : (n2079 x_0 x_1 x_2 x_3 x_4 x_5 x_6p x_6n x_6c land).wp X Tryz.prog (retQ A) h) : FWK X Tryz.prog .normal 193 #[.agg #[.int .i64 x_0, .int .i64 x_1, .int .i64 x_2, .int .i64 x_3, .int .i64 x_4, .int .i64 x_5, .slice x_6p x_6n x_6c], .int .i64 land] h A := fwk_neat (show ftree ({ P := Tryz.prog, priv := [2], loops := [], joins := [] }) Tryz.f193 [.agg #[.int .i64 x_0, .int .i64 x_1, .int .i64 x_2, .int .i64 x_3, .int .i64 x_4, .int .i64 x_5, .slice x_6p x_6n x_6c], .int .i64 land] = n2079 x_0 x_1 x_2 x_3 x_4 x_5 x_6p x_6n x_6c land by kernel_rfl) (by simp) (by kernel_rfl) (by kernel_rfl) hX hw
noncomputable def n2080 (seq : Value) : T := .call false 245 #[seq] fun v => .unS v fun a n c => .call false 212 #[.slice a n c] fun v => .unTup v fun l => .unNil l (.leaf (.ret (.slice a n c)))
theorem w2080 (seq : Value) (hX : XOK X) (hw : (n2080 seq).wp X Tryz.prog (retQ A) h) : FWK X Tryz.prog .normal 198 #[seq] h A := fwk_neat (show ftree ({ P := Tryz.prog, priv := [], loops := [], joins := [] }) Tryz.f198 [seq] = n2080 seq by kernel_rfl) (by simp) (by kernel_rfl) (by kernel_rfl) hX hw
noncomputable def n2081 (m : Option Nat) : T := .new 230 #[.map m] fun r => .leaf (.ret (.func (Fn.func 246) #[] #[.pointer (some { block := r, off := 0 })]))
theorem w2081 (m : Option Nat) (hX : XOK X) (hw : (n2081 m).wp X Tryz.prog (retQ A) h) : FWK X Tryz.prog .normal 199 #[.map m] h A := fwk_neat (show ftree ({ P := Tryz.prog, priv := [], loops := [], joins := [] }) Tryz.f199 [.map m] = n2081 m by kernel_rfl) (by simp) (by kernel_rfl) (by kernel_rfl) hX hw
noncomputable def n2082 (m_0 m_1 m_2 m_3 m_4 m_5 : Int) (m_6p : Option Addr) (m_6n m_6c : Nat) (m_7 m_8 : Int) : T := .call false 200 #[.agg #[.int .i64 m_0, .int .i64 m_1, .int .i64 m_2, .int .i64 m_3, .int .i64 m_4, .int .i64 m_5, .slice m_6p m_6n m_6c, .int .i64 m_7, .int .i64 m_8]] fun v => .unS v fun a n c => .loop [.int .i64 0, .slice none 0 0] (fun vs => .popI .i64 vs fun n_1 vs => .popS vs fun a_1 n_2 c vs => .unNil vs (bif decide (n_1 < (↑n : Int)) then .need (0 ≤ n_1 ∧ n_1 < (↑n : Int)) (.someA a fun a => .loadI .i64 ((a.add (n_1.toNat * 12)).add 0) fun n => .loadI .i64 ((a.add (n_1.toNat * 12)).add 1) fun n_3 => .loadI .i64 ((a.add (n_1.toNat * 12)).add 2) fun n_4 => .loadI .i64 ((a.add (n_1.toNat * 12)).add 3) fun n_5 => .loadI .i64 ((a.add (n_1.toNat * 12)).add 4) fun n_6 => .loadI .i64 ((a.add (n_1.toNat * 12)).add 5) fun n_7 => .loadS ((a.add (n_1.toNat * 12)).add 6) fun p n_8 c_1 => .loadI .i64 ((a.add (n_1.toNat * 12)).add 7) fun n_9 => .loadI .i64 ((a.add (n_1.toNat * 12)).add 8) fun n_10 => .loadI .i64 ((a.add (n_1.toNat * 12)).add 9) fun n_11 => .loadI .i64 ((a.add (n_1.toNat * 12)).add 10) fun n_12 => .loadB ((a.add (n_1.toNat * 12)).add 11) fun b => .sem false (Instr.buildSlice 294 1 #[(0, .iface 233 (.agg #[.int .i64 n, .int .i64 n_3, .int .i64 n_4, .int .i64 n_5, .int .i64 n_6, .int .i64 n_7, .slice p n_8 c_1, .int .i64 n_9, .int .i64 n_10, .int .i64 n_11, .int .i64 n_12, .bool b]))]) fun v => .unS v fun a n c_2 => .sem false (Builtin.append_ #[294, 294] 294 #[.slice a_1 n_2 c, .slice a n c_2]) fun v => .unS v fun a n c => .leaf (.again [.int .i64 (IntKind.wrap .i64 (n_1 + 1)), .slice a n c])) else .leaf (.brk [.int .i64 n_1, .slice a_1 n_2 c]))) (fun vs => .popI .i64 vs fun n vs => .popS vs fun a n c vs => .unNil vs (.call false 196 #[.agg #[.int .i64 m_0, .int .i64 m_1, .int .i64 m_2, .int .i64 m_3, .int .i64 m_4, .int .i64 m_5, .slice m_6p m_6n m_6c, .int .i64 m_7, .int .i64 m_8], .int .i64 5] fun v => .each v [.slice a n c] (fun xs vs => .unCons xs fun v vs_1 => .unAgg v fun l => .popI .i64 l fun n vs_2 => .popI .i64 vs_2 fun n vs_3 => .popI .i64 vs_3 fun n_1 vs_4 => .popS vs_4 fun a n_2 c vs_5 => .popI .i64 vs_5 fun n_3 vs_6 => .unNil vs_6 (.unNil vs_1 (.popS vs fun a n_4 c vs => .unNil vs (.call false 144 #[.agg #[.int .i64 m_0, .int .i64 m_1, .int .i64 m_2, .int .i64 m_3, .int .i64 m_4, .int .i64 m_5, .slice m_6p m_6n m_6c, .int .i64 m_7, .int .i64 m_8], .int .i64 n] fun v => .unTup v fun l => .unCons l fun v vs => .unAgg v fun l => .popI .i64 l fun n_5 vs_7 => .popI .i64 vs_7 fun n_6 vs_8 => .popI .i64 vs_8 fun n_7 vs_9 => .popI .i64 vs_9 fun n_8 vs_10 => .popI .i64 vs_10 fun n_9 vs_11 => .popI .i64 vs_11 fun n_10 vs_12 => .popS vs_12 fun a_1 n_11 c_1 vs_13 => .popI .i64 vs_13 fun n_12 vs_14 => .popI .i64 vs_14 fun n_13 vs_15 => .popI .i64 vs_15 fun n_14 vs_16 => .popI .i64 vs_16 fun n_15 vs_17 => .popB vs_17 fun b vs_18 => .unNil vs_18 (.unCons vs fun v vs => .unB v fun b_1 => .unNil vs (bif b_1 then .call false 243 #[.agg #[.int .i64 m_0, .int .i64 m_1, .int .i64 m_2, .int .i64 m_3, .int .i64 m_4, .int .i64 m_5, .slice m_6p m_6n m_6c, .int .i64 m_7, .int .i64 m_8], .int .i64 n] fun v => .unI .i64 v fun n_16 => .need (AV.pp 6 1 = AV.pp 6 1) (.nd (.int .i64 n) (.need (AV.pp 6 1 = AV.pp 6 1) (.nd (.agg #[.int .i64 n_5, .int .i64 n_6, .int .i64 n_7, .int .i64 n_8, .int .i64 n_9, .int .i64 n_10, .slice a_1 n_11 c_1, .int .i64 n_12, .int .i64 n_13, .int .i64 n_14, .int .i64 n_15, .bool b]) (.nd (.slice a n_4 c) (.sem false (Instr.buildSlice 294 1 #[(0, .iface 351 (.agg #[.int .i64 n_5, .int .i64 n_6, .int .i64 n_7, .int .i64 n_8, .int .i64 n_9, .int .i64 n_10, .slice a_1 n_11 c_1, .int .i64 n_12, .int .i64 n_13, .int .i64 n_14, .int .i64 n_15, .bool b, .int .i64 n, .int .i64 n_16]))]) fun v => .unS v fun a_2 n_17 c_2 => .nd (.agg #[.int .i64 n_5, .int .i64 n_6, .int .i64 n_7, .int .i64 n_8, .int .i64 n_9, .int .i64 n_10, .slice a_1 n_11 c_1, .int .i64 n_12, .int .i64 n_13, .int .i64 n_14, .int .i64 n_15, .bool b, .int .i64 n, .int .i64 n_16]) (.need (AV.pp 6 1 = AV.pp 6 1) (.nd (.int .i64 n) (.need (AV.pp 6 1 = AV.pp 6 1) (.nd (.agg #[.int .i64 n_5, .int .i64 n_6, .int .i64 n_7, .int .i64 n_8, .int .i64 n_9, .int .i64 n_10, .slice a_1 n_11 c_1, .int .i64 n_12, .int .i64 n_13, .int .i64 n_14, .int .i64 n_15, .bool b]) (.nd (.slice a n_4 c) (.sem false (Builtin.append_ #[294, 294] 294 #[.slice a n_4 c, .slice a_2 n_17 c_2]) fun v => .unS v fun a n_18 c => .nd (.agg #[.int .i64 n_5, .int .i64 n_6, .int .i64 n_7, .int .i64 n_8, .int .i64 n_9, .int .i64 n_10, .slice a_1 n_11 c_1, .int .i64 n_12, .int .i64 n_13, .int .i64 n_14, .int .i64 n_15, .bool b, .int .i64 n, .int .i64 n_16]) (.need (AV.pp 6 1 = AV.pp 6 1) (.nd (.int .i64 n) (.need (AV.pp 6 1 = AV.pp 6 1) (.nd (.agg #[.int .i64 n_5, .int .i64 n_6, .int .i64 n_7, .int .i64 n_8, .int .i64 n_9, .int .i64 n_10, .slice a_1 n_11 c_1, .int .i64 n_12, .int .i64 n_13, .int .i64 n_14, .int .i64 n_15, .bool b]) (.leaf (.again [.slice a n_18 c]))))))))))))))))) else .leaf (.again [.slice a n_4 c]))))))) (fun vs => .popS vs fun a n c vs => .unNil vs (.leaf (.ret (.slice a n c)))) (fun vs => .popS vs fun a n c vs => .unNil vs (.leaf (.ret (.slice a n c)))) (fun vs => .popS vs fun a n c vs => .unNil vs (.leaf (.ret (.slice none 0 0)))) fun x x_1 => .fail)) (fun vs => .popI .i64 vs fun n vs => .popS vs fun a n c vs => .unNil vs (.leaf (.ret (.slice none 0 0)))) fun x x_1 => .fail
theorem w2082 (m_0 m_1 m_2 m_3 m_4 m_5 : Int) (m_6p : Option Addr) (m_6n m_6c : Nat) (m_7 m_8 : Int) (hX : XOK X) (hw : (n2082 m_0 m_1 m_2 m_3 m_4 m_5 m_6p m_6n m_6c m_7 m_8).wp X Tryz.prog (retQ A) h) : FWK X Tryz.prog .normal 195 #[.agg #[.int .i64 m_0, .int .i64 m_1, .int .i64 m_2, .int .i64 m_3, .int .i64 m_4, .int .i64 m_5, .slice m_6p m_6n m_6c, .int .i64 m_7, .int .i64 m_8]] h A := fwk_neat (show ftree ({ P := Tryz.prog, priv := [1, 3, 5, 6, 7], loops := [{ id := 0, slots := [(12, .int .i64), (16384, .slice)], ro := [1], outs := [] }, { id := 2, slots := [(16384, .slice)], ro := [1], outs := [], ps := [.agg [.int .i64, .int .i64, .int .i64, .slice, .int .i64]] }], joins := [] }) Tryz.f195 [.agg #[.int .i64 m_0, .int .i64 m_1, .int .i64 m_2, .int .i64 m_3, .int .i64 m_4, .int .i64 m_5, .slice m_6p m_6n m_6c, .int .i64 m_7, .int .i64 m_8]] = n2082 m_0 m_1 m_2 m_3 m_4 m_5 m_6p m_6n m_6c m_7 m_8 by kernel_rfl) (by simp) (by kernel_rfl) (by kernel_rfl) hX hw
noncomputable def n2083 (m_0 m_1 m_2 m_3 m_4 m_5 : Int) (m_6p : Option Addr) (m_6n m_6c : Nat) (m_7 m_8 k : Int) : T := .new 228 #[.int .i64 m_0, .int .i64 m_1, .int .i64 m_2, .int .i64 m_3, .int .i64 m_4, .int .i64 m_5, .slice m_6p m_6n m_6c, .int .i64 m_7, .int .i64 m_8] fun r => .new 89 #[.int .i64 k] fun r_1 => .leaf (.ret (.func (Fn.func 244) #[] #[.pointer (some { block := r, off := 0 }), .pointer (some { block := r_1, off := 0 })]))
theorem w2083 (m_0 m_1 m_2 m_3 m_4 m_5 : Int) (m_6p : Option Addr) (m_6n m_6c : Nat) (m_7 m_8 k : Int) (hX : XOK X) (hw : (n2083 m_0 m_1 m_2 m_3 m_4 m_5 m_6p m_6n m_6c m_7 m_8 k).wp X Tryz.prog (retQ A) h) : FWK X Tryz.prog .normal 196 #[.agg #[.int .i64 m_0, .int .i64 m_1, .int .i64 m_2, .int .i64 m_3, .int .i64 m_4, .int .i64 m_5, .slice m_6p m_6n m_6c, .int .i64 m_7, .int .i64 m_8], .int .i64 k] h A := fwk_neat (show ftree ({ P := Tryz.prog, priv := [], loops := [], joins := [] }) Tryz.f196 [.agg #[.int .i64 m_0, .int .i64 m_1, .int .i64 m_2, .int .i64 m_3, .int .i64 m_4, .int .i64 m_5, .slice m_6p m_6n m_6c, .int .i64 m_7, .int .i64 m_8], .int .i64 k] = n2083 m_0 m_1 m_2 m_3 m_4 m_5 m_6p m_6n m_6c m_7 m_8 k by kernel_rfl) (by simp) (by kernel_rfl) (by kernel_rfl) hX hw
noncomputable def n2084 (m_0 m_1 m_2 m_3 m_4 m_5 : Int) (m_6p : Option Addr) (m_6n m_6c : Nat) (m_7 m_8 : Int) : T := .call false 196 #[.agg #[.int .i64 m_0, .int .i64 m_1, .int .i64 m_2, .int .i64 m_3, .int .i64 m_4, .int .i64 m_5, .slice m_6p m_6n m_6c, .int .i64 m_7, .int .i64 m_8], .int .i64 0] fun v => .each v [.slice none 0 0] (fun xs vs => .unCons xs fun v vs_1 => .unAgg v fun l => .popI .i64 l fun n vs_2 => .popI .i64 vs_2 fun n vs_3 => .popI .i64 vs_3 fun n_1 vs_4 => .popS vs_4 fun a n_2 c vs_5 => .popI .i64 vs_5 fun n_3 vs_6 => .unNil vs_6 (.unNil vs_1 (.popS vs fun a n_4 c vs => .unNil vs (.call false 247 #[.agg #[.int .i64 m_0, .int .i64 m_1, .int .i64 m_2, .int .i64 m_3, .int .i64 m_4, .int .i64 m_5, .slice m_6p m_6n m_6c, .int .i64 m_7, .int .i64 m_8], .int .i64 0] fun v => .unI .i64 v fun n_5 => .nd (.int .i64 n) (.need (AV.pp 4 1 = AV.pp 4 1) (bif decide (n_5 ≤ n) then .leaf (.again [.slice a n_4 c]) else .call false 247 #[.agg #[.int .i64 m_0, .int .i64 m_1, .int .i64 m_2, .int .i64 m_3, .int .i64 m_4, .int .i64 m_5, .slice m_6p m_6n m_6c, .int .i64 m_7, .int .i64 m_8], .int .i64 n] fun v => .unI .i64 v fun n_6 => .nd (.int .i64 n) (.need (AV.pp 4 1 = AV.pp 4 1) (.nd (.agg #[.int .i64 m_0, .int .i64 m_1, .int .i64 m_2, .int .i64 m_3, .int .i64 m_4, .int .i64 m_5, .slice m_6p m_6n m_6c, .int .i64 m_7, .int .i64 m_8]) (.need (AV.pp 4 1 = AV.pp 4 1) (.call false 243 #[.agg #[.int .i64 m_0, .int .i64 m_1, .int .i64 m_2, .int .i64 m_3, .int .i64 m_4, .int .i64 m_5, .slice m_6p m_6n m_6c, .int .i64 m_7, .int .i64 m_8], .int .i64 n] fun v => .unI .i64 v fun n_7 => .need (AV.pp 4 1 = AV.pp 4 1) (.need (AV.pp 4 1 = AV.pp 4 1) (.need (AV.pp 4 1 = AV.pp 4 1) (.sem false (Instr.buildSlice 305 1 #[(0, .agg #[.int .i64 m_0, .int .i64 m_1, .int .i64 m_2, .int .i64 m_3, .int .i64 m_4, .int .i64 m_5, .slice m_6p m_6n m_6c, .int .i64 m_7, .int .i64 m_8, .int .i64 n, .int .i64 (if n_7 < n_6 then n_7 else n_6), .bool (decide (n_6 < n_7))])]) fun v => .unS v fun a_1 n c_1 => .sem false (Builtin.append_ #[305, 305] 305 #[.slice a n_4 c, .slice a_1 n c_1]) fun v => .unS v fun a n c => .leaf (.again [.slice a n c])))))))))))))) (fun vs => .popS vs fun a n c vs => .unNil vs (.leaf (.ret (.slice a n c)))) (fun vs => .popS vs fun a n c vs => .unNil vs (.leaf (.ret (.slice a n c)))) (fun vs => .popS vs fun a n c vs => .unNil vs (.leaf (.ret (.slice none 0 0)))) fun x x_1 => .fail
theorem w2084 (m_0 m_1 m_2 m_3 m_4 m_5 : Int) (m_6p : Option Addr) (m_6n m_6c : Nat) (m_7 m_8 : Int) (hX : XOK X) (hw : (n2084 m_0 m_1 m_2 m_3 m_4 m_5 m_6p m_6n m_6c m_7 m_8).wp X Tryz.prog (retQ A) h) : FWK X Tryz.prog .normal 200 #[.agg #[.int .i64 m_0, .int .i64 m_1, .int .i64 m_2, .int .i64 m_3, .int .i64 m_4, .int .i64 m_5, .slice m_6p m_6n m_6c, .int .i64 m_7, .int .i64 m_8]] h A := fwk_neat (show ftree ({ P := Tryz.prog, priv := [1, 3, 4], loops := [{ id := 0, slots := [(16384, .slice)], ro := [1], outs := [], ps := [.agg [.int .i64, .int .i64, .int .i64, .slice, .int .i64]] }], joins := [] }) Tryz.f200 [.agg #[.int .i64 m_0, .int .i64 m_1, .int .i64 m_2, .int .i64 m_3, .int .i64 m_4, .int .i64 m_5, .slice m_6p m_6n m_6c, .int .i64 m_7, .int .i64 m_8]] = n2084 m_0 m_1 m_2 m_3 m_4 m_5 m_6p m_6n m_6c m_7 m_8 by kernel_rfl) (by simp) (by kernel_rfl) (by kernel_rfl) hX hw
noncomputable def n2085 (a_0 a_1 a_2 a_3 a_4 a_5 : Int) (a_6p : Option Addr) (a_6n a_6c : Nat) (a_7 a_8 a_9 a_10 : Int) (a_11 : Bool) (day : Int) : T := .new 233 #[.int .i64 a_0, .int .i64 a_1, .int .i64 a_2, .int .i64 a_3, .int .i64 a_4, .int .i64 a_5, .slice a_6p a_6n a_6c, .int .i64 a_7, .int .i64 a_8, .int .i64 a_9, .int .i64 a_10, .bool a_11] fun r => .new 3 #[.int .i64 day] fun r_1 => .loadI .i64 ((Addr.add { block := r, off := 0 } 0).add 0) fun n => .loadI .i64 ((Addr.add { block := r, off := 0 } 0).add 1) fun n_1 => .loadI .i64 ((Addr.add { block := r, off := 0 } 0).add 2) fun n_2 => .loadI .i64 ((Addr.add { block := r, off := 0 } 0).add 3) fun n_3 => .loadI .i64 ((Addr.add { block := r, off := 0 } 0).add 4) fun n_4 => .loadI .i64 ((Addr.add { block := r, off := 0 } 0).add 5) fun n_5 => .loadS ((Addr.add { block := r, off := 0 } 0).add 6) fun p n_6 c => .loadI .i64 ((Addr.add { block := r, off := 0 } 0).add 7) fun n_7 => .loadI .i64 ((Addr.add { block := r, off := 0 } 0).add 8) fun n_8 => .call false 196 #[.agg #[.int .i64 n, .int .i64 n_1, .int .i64 n_2, .int .i64 n_3, .int .i64 n_4, .int .i64 n_5, .slice p n_6 c, .int .i64 n_7, .int .i64 n_8], .int .i64 1] fun v => .each v [.bool false] (fun xs vs => .unCons xs fun v vs_1 => .unAgg v fun l => .popI .i64 l fun n vs_2 => .popI .i64 vs_2 fun n vs_3 => .popI .i64 vs_3 fun n_9 vs_4 => .popS vs_4 fun a n_10 c vs_5 => .popI .i64 vs_5 fun n_11 vs_6 => .unNil vs_6 (.unNil vs_1 (.popB vs fun b vs => .unNil vs (.loadI .i64 (Addr.add { block := r, off := 0 } 9) fun n_12 => .loadI .i64 { block := r_1, off := 0 } fun n_13 => .loadI .i64 (Addr.add { block := r, off := 0 } 9) fun n_14 => .loadI .i64 (((Addr.add { block := r, off := 0 } 0).add 0).add 4) fun n_15 => .call false 197 #[.int .i64 n, .int .i64 n_12, .int .i64 (if IntKind.wrap .i64 (n_14 + n_15) < n_13 then IntKind.wrap .i64 (n_14 + n_15) else n_13)] fun v => .unB v fun b_1 => bif b_1 then .callv false (.func (Fn.func 248) #[] #[.pointer (some { block := r, off := 0 }), .pointer (some { block := r_1, off := 0 })]) #[.int .i64 n] fun v => .unB v fun b_2 => bif !b_2 then .leaf (.retn [.bool true]) else .leaf (.again [.bool b]) else .leaf (.again [.bool b]))))) (fun vs => .popB vs fun b vs => .unNil vs (.leaf (.ret (.bool false)))) (fun vs => .popB vs fun b vs => .unNil vs (.leaf (.ret (.bool false)))) (fun vs => .popB vs fun b vs => .unNil vs (.leaf (.ret (.bool b)))) fun x x_1 => .fail
theorem w2085 (a_0 a_1 a_2 a_3 a_4 a_5 : Int) (a_6p : Option Addr) (a_6n a_6c : Nat) (a_7 a_8 a_9 a_10 : Int) (a_11 : Bool) (day : Int) (hX : XOK X) (hw : (n2085 a_0 a_1 a_2 a_3 a_4 a_5 a_6p a_6n a_6c a_7 a_8 a_9 a_10 a_11 day).wp X Tryz.prog (retQ A) h) : FWK X Tryz.prog .normal 201 #[.agg #[.int .i64 a_0, .int .i64 a_1, .int .i64 a_2, .int .i64 a_3, .int .i64 a_4, .int .i64 a_5, .slice a_6p a_6n a_6c, .int .i64 a_7, .int .i64 a_8, .int .i64 a_9, .int .i64 a_10, .bool a_11], .int .i64 day] h A := fwk_neat (show ftree ({ P := Tryz.prog, priv := [4, 5, 6], loops := [{ id := 0, slots := [(20480, .bool)], ro := [5], outs := [], ps := [.agg [.int .i64, .int .i64, .int .i64, .slice, .int .i64]] }], joins := [] }) Tryz.f201 [.agg #[.int .i64 a_0, .int .i64 a_1, .int .i64 a_2, .int .i64 a_3, .int .i64 a_4, .int .i64 a_5, .slice a_6p a_6n a_6c, .int .i64 a_7, .int .i64 a_8, .int .i64 a_9, .int .i64 a_10, .bool a_11], .int .i64 day] = n2085 a_0 a_1 a_2 a_3 a_4 a_5 a_6p a_6n a_6c a_7 a_8 a_9 a_10 a_11 day by kernel_rfl) (by simp) (by kernel_rfl) (by kernel_rfl) hX hw
noncomputable def n2091 (seq : Value) : T := .call false 263 #[.slice none 0 0, seq] fun v => .unS v fun a n c => .leaf (.ret (.slice a n c))
theorem w2091 (seq : Value) (hX : XOK X) (hw : (n2091 seq).wp X Tryz.prog (retQ A) h) : FWK X Tryz.prog .normal 245 #[seq] h A := fwk_neat (show ftree ({ P := Tryz.prog, priv := [], loops := [], joins := [] }) Tryz.f245 [seq] = n2091 seq by kernel_rfl) (by simp) (by kernel_rfl) (by kernel_rfl) hX hw
noncomputable def n2092 (xp : Option Addr) (xn xc : Nat) : T := .call false 253 #[.int .u64 (IntKind.wrap .u64 (↑xn : Int))] fun v => .unI .i64 v fun n => .call false 252 #[.slice xp xn xc, .int .i64 0, .int .i64 (↑xn : Int), .int .i64 n] fun v => .unTup v fun l => .unNil l (.leaf (.ret (.tuple #[])))
theorem w2092 (xp : Option Addr) (xn xc : Nat) (hX : XOK X) (hw : (n2092 xp xn xc).wp X Tryz.prog (retQ A) h) : FWK X Tryz.prog .normal 212 #[.slice xp xn xc] h A := fwk_neat (show ftree ({ P := Tryz.prog, priv := [], loops := [], joins := [] }) Tryz.f212 [.slice xp xn xc] = n2092 xp xn xc by kernel_rfl) (by simp) (by kernel_rfl) (by kernel_rfl) hX hw
noncomputable def n2093 (yield : Value) (z0 : Addr) : T := .loadM z0 fun p => .sem false (Instr.range 230 (.map p)) fun v => .unP v fun a => .loop [] (fun vs => .unNil vs (.sem false (Instr.next (.pointer a) false 0) fun v => .unTup v fun l => .unCons l fun b l => .unB b fun b => bif b then .unCons l fun v vs => .unCons vs fun v vs => .unNil vs (.sem false (Instr.entry (.pointer a)) fun v => .unTup v fun l => .unCons l fun v vs => .unCons vs fun v_1 vs => .unNil vs (.callv false yield #[v] fun v => .unB v fun b => bif !b then .leaf (.retn []) else .leaf (.again []))) else .unNil l (.leaf (.brk [])))) (fun vs => .unNil vs (.leaf (.ret (.tuple #[])))) (fun vs => .unNil vs (.leaf (.ret (.tuple #[])))) fun x x_1 => .fail
theorem w2093 (yield : Value) (z0 : Addr) (hX : XOK X) (hw : (n2093 yield z0).wp X Tryz.prog (retQ A) h) : FWK X Tryz.prog .normal 246 #[yield, .pointer (some z0)] h A := fwk_neat (show ftree ({ P := Tryz.prog, priv := [], loops := [{ id := 0, slots := [], ro := [], outs := [] }], joins := [] }) Tryz.f246 [yield, .pointer (some z0)] = n2093 yield z0 by kernel_rfl) (by simp) (by kernel_rfl) (by kernel_rfl) hX hw
noncomputable def n2094 (m_0 m_1 m_2 m_3 m_4 m_5 : Int) (m_6p : Option Addr) (m_6n m_6c : Nat) (m_7 m_8 from0 : Int) : T := .call false 196 #[.agg #[.int .i64 m_0, .int .i64 m_1, .int .i64 m_2, .int .i64 m_3, .int .i64 m_4, .int .i64 m_5, .slice m_6p m_6n m_6c, .int .i64 m_7, .int .i64 m_8], .int .i64 3] fun v => .each v [.int .i64 10000] (fun xs vs => .unCons xs fun v vs_1 => .unAgg v fun l => .popI .i64 l fun n vs_2 => .popI .i64 vs_2 fun n vs_3 => .popI .i64 vs_3 fun n_1 vs_4 => .popS vs_4 fun a n_2 c vs_5 => .popI .i64 vs_5 fun n_3 vs_6 => .unNil vs_6 (.unNil vs_1 (.popI .i64 vs fun n_4 vs => .unNil vs (bif decide (n ≥ from0) then .leaf (.again [.int .i64 (if n < n_4 then n else n_4)]) else .leaf (.again [.int .i64 n_4]))))) (fun vs => .popI .i64 vs fun n vs => .unNil vs (.leaf (.ret (.int .i64 n)))) (fun vs => .popI .i64 vs fun n vs => .unNil vs (.leaf (.ret (.int .i64 n)))) (fun vs => .popI .i64 vs fun n vs => .unNil vs (.leaf (.ret (.int .i64 0)))) fun x x_1 => .fail
theorem w2094 (m_0 m_1 m_2 m_3 m_4 m_5 : Int) (m_6p : Option Addr) (m_6n m_6c : Nat) (m_7 m_8 from0 : Int) (hX : XOK X) (hw : (n2094 m_0 m_1 m_2 m_3 m_4 m_5 m_6p m_6n m_6c m_7 m_8 from0).wp X Tryz.prog (retQ A) h) : FWK X Tryz.prog .normal 243 #[.agg #[.int .i64 m_0, .int .i64 m_1, .int .i64 m_2, .int .i64 m_3, .int .i64 m_4, .int .i64 m_5, .slice m_6p m_6n m_6c, .int .i64 m_7, .int .i64 m_8], .int .i64 from0] h A := fwk_neat (show ftree ({ P := Tryz.prog, priv := [2, 3, 5, 6], loops := [{ id := 0, slots := [(24576, .int .i64)], ro := [2, 3], outs := [], ps := [.agg [.int .i64, .int .i64, .int .i64, .slice, .int .i64]] }], joins := [] }) Tryz.f243 [.agg #[.int .i64 m_0, .int .i64 m_1, .int .i64 m_2, .int .i64 m_3, .int .i64 m_4, .int .i64 m_5, .slice m_6p m_6n m_6c, .int .i64 m_7, .int .i64 m_8], .int .i64 from0] = n2094 m_0 m_1 m_2 m_3 m_4 m_5 m_6p m_6n m_6c m_7 m_8 from0 by kernel_rfl) (by simp) (by kernel_rfl) (by kernel_rfl) hX hw
noncomputable def n2095 (yield : Value) (z0 z1 : Addr) : T := .loadS ((z0.add 0).add 6) fun p n c => .loop [.int .i64 0] (fun vs => .popI .i64 vs fun n_1 vs => .unNil vs (bif decide (n_1 < (↑n : Int)) then .need (0 ≤ n_1 ∧ n_1 < (↑n : Int)) (.someA p fun a => .loadI .i64 ((a.add (n_1.toNat * 5)).add 0) fun n => .loadI .i64 ((a.add (n_1.toNat * 5)).add 1) fun n_2 => .loadI .i64 ((a.add (n_1.toNat * 5)).add 2) fun n_3 => .loadS ((a.add (n_1.toNat * 5)).add 3) fun p n_4 c => .loadI .i64 ((a.add (n_1.toNat * 5)).add 4) fun n_5 => .blk (.loadI .i64 z1 fun n => .need (0 ≤ n ∧ n < (↑7 : Int)) (.loadB (((Addr.add { block := 1, off := 0 } (n.toNat * 4)).add 1).add 0) fun b => bif !b then .leaf (.again [.bool true]) else .loadI .i64 (z0.add 7) fun n => .leaf (.again [.bool (n_3 == n)]))) (fun vs => .popB vs fun b vs => .unNil vs (.loadI .i64 z1 fun n_6 => bif n == n_6 then bif b then .loadI .i64 (z0.add 8) fun n_7 => .call false 66 #[.slice p n_4 c, .int .i64 n_7] fun v => .unB v fun b => bif b then .callv false yield #[.agg #[.int .i64 n, .int .i64 n_2, .int .i64 n_3, .slice p n_4 c, .int .i64 n_5]] fun v => .unB v fun b => bif !b then .leaf (.retn [.int .i64 n_1]) else .leaf (.again [.int .i64 (IntKind.wrap .i64 (n_1 + 1))]) else .leaf (.again [.int .i64 (IntKind.wrap .i64 (n_1 + 1))]) else .leaf (.again [.int .i64 (IntKind.wrap .i64 (n_1 + 1))]) else .leaf (.again [.int .i64 (IntKind.wrap .i64 (n_1 + 1))]))) (fun vs => .popB vs fun b vs => .unNil vs (.leaf (.retn [.int .i64 n_1]))) fun x x_1 => .fail) else .leaf (.brk [.int .i64 n_1]))) (fun vs => .popI .i64 vs fun n vs => .unNil vs (.leaf (.ret (.tuple #[])))) (fun vs => .popI .i64 vs fun n vs => .unNil vs (.leaf (.ret (.tuple #[])))) fun x x_1 => .fail
theorem w2095 (yield : Value) (z0 z1 : Addr) (hX : XOK X) (hw : (n2095 yield z0 z1).wp X Tryz.prog (retQ A) h) : FWK X Tryz.prog .normal 244 #[yield, .pointer (some z0), .pointer (some z1)] h A := fwk_neat (show ftree ({ P := Tryz.prog, priv := [5], loops := [{ id := 0, slots := [(11, .int .i64)], ro := [], outs := [] }], joins := [{ id := 4, slots := [(6, .bool)], ro := [5], outs := [] }] }) Tryz.f244 [yield, .pointer (some z0), .pointer (some z1)] = n2095 yield z0 z1 by kernel_rfl) (by simp) (by kernel_rfl) (by kernel_rfl) hX hw
noncomputable def n2096 (m_0 m_1 m_2 m_3 m_4 m_5 : Int) (m_6p : Option Addr) (m_6n m_6c : Nat) (m_7 m_8 from0 : Int) : T := .call false 196 #[.agg #[.int .i64 m_0, .int .i64 m_1, .int .i64 m_2, .int .i64 m_3, .int .i64 m_4, .int .i64 m_5, .slice m_6p m_6n m_6c, .int .i64 m_7, .int .i64 m_8], .int .i64 4] fun v => .each v [.int .i64 10000] (fun xs vs => .unCons xs fun v vs_1 => .unAgg v fun l => .popI .i64 l fun n vs_2 => .popI .i64 vs_2 fun n vs_3 => .popI .i64 vs_3 fun n_1 vs_4 => .popS vs_4 fun a n_2 c vs_5 => .popI .i64 vs_5 fun n_3 vs_6 => .unNil vs_6 (.unNil vs_1 (.popI .i64 vs fun n_4 vs => .unNil vs (bif decide (n_3 ≤ IntKind.wrap .i64 (m_2 + m_3)) then bif decide (n ≥ from0) then .leaf (.again [.int .i64 (if n < n_4 then n else n_4)]) else .leaf (.again [.int .i64 n_4]) else .leaf (.again [.int .i64 n_4]))))) (fun vs => .popI .i64 vs fun n vs => .unNil vs (.leaf (.ret (.int .i64 n)))) (fun vs => .popI .i64 vs fun n vs => .unNil vs (.leaf (.ret (.int .i64 n)))) (fun vs => .popI .i64 vs fun n vs => .unNil vs (.leaf (.ret (.int .i64 0)))) fun x x_1 => .fail
theorem w2096 (m_0 m_1 m_2 m_3 m_4 m_5 : Int) (m_6p : Option Addr) (m_6n m_6c : Nat) (m_7 m_8 from0 : Int) (hX : XOK X) (hw : (n2096 m_0 m_1 m_2 m_3 m_4 m_5 m_6p m_6n m_6c m_7 m_8 from0).wp X Tryz.prog (retQ A) h) : FWK X Tryz.prog .normal 247 #[.agg #[.int .i64 m_0, .int .i64 m_1, .int .i64 m_2, .int .i64 m_3, .int .i64 m_4, .int .i64 m_5, .slice m_6p m_6n m_6c, .int .i64 m_7, .int .i64 m_8], .int .i64 from0] h A := fwk_neat (show ftree ({ P := Tryz.prog, priv := [2, 3, 5, 6], loops := [{ id := 0, slots := [(24576, .int .i64)], ro := [2, 3], outs := [], ps := [.agg [.int .i64, .int .i64, .int .i64, .slice, .int .i64]] }], joins := [] }) Tryz.f247 [.agg #[.int .i64 m_0, .int .i64 m_1, .int .i64 m_2, .int .i64 m_3, .int .i64 m_4, .int .i64 m_5, .slice m_6p m_6n m_6c, .int .i64 m_7, .int .i64 m_8], .int .i64 from0] = n2096 m_0 m_1 m_2 m_3 m_4 m_5 m_6p m_6n m_6c m_7 m_8 from0 by kernel_rfl) (by simp) (by kernel_rfl) (by kernel_rfl) hX hw
noncomputable def n2097 (from0 : Int) (z0 z1 : Addr) : T := .loadI .i64 ((z0.add 0).add 0) fun n => .loadI .i64 ((z0.add 0).add 1) fun n_1 => .loadI .i64 ((z0.add 0).add 2) fun n_2 => .loadI .i64 ((z0.add 0).add 3) fun n_3 => .loadI .i64 ((z0.add 0).add 4) fun n_4 => .loadI .i64 ((z0.add 0).add 5) fun n_5 => .loadS ((z0.add 0).add 6) fun p n_6 c => .loadI .i64 ((z0.add 0).add 7) fun n_7 => .loadI .i64 ((z0.add 0).add 8) fun n_8 => .call false 196 #[.agg #[.int .i64 n, .int .i64 n_1, .int .i64 n_2, .int .i64 n_3, .int .i64 n_4, .int .i64 n_5, .slice p n_6 c, .int .i64 n_7, .int .i64 n_8], .int .i64 2] fun v => .each v [.bool false] (fun xs vs => .unCons xs fun v vs_1 => .unAgg v fun l => .popI .i64 l fun n vs_2 => .popI .i64 vs_2 fun n vs_3 => .popI .i64 vs_3 fun n_9 vs_4 => .popS vs_4 fun a n_10 c vs_5 => .popI .i64 vs_5 fun n_11 vs_6 => .unNil vs_6 (.unNil vs_1 (.popB vs fun b vs => .unNil vs (.loadI .i64 z1 fun n_12 => .call false 197 #[.int .i64 n, .int .i64 from0, .int .i64 n_12] fun v => .unB v fun b_1 => bif b_1 then .leaf (.retn [.bool true]) else .leaf (.again [.bool b]))))) (fun vs => .popB vs fun b vs => .unNil vs (.leaf (.ret (.bool false)))) (fun vs => .popB vs fun b vs => .unNil vs (.leaf (.ret (.bool false)))) (fun vs => .popB vs fun b vs => .unNil vs (.leaf (.ret (.bool b)))) fun x x_1 => .fail
theorem w2097 (from0 : Int) (z0 z1 : Addr) (hX : XOK X) (hw : (n2097 from0 z0 z1).wp X Tryz.prog (retQ A) h) : FWK X Tryz.prog .normal 248 #[.int .i64 from0, .pointer (some z0), .pointer (some z1)] h A := fwk_neat (show ftree ({ P := Tryz.prog, priv := [3, 4, 5], loops := [{ id := 0, slots := [(20480, .bool)], ro := [3], outs := [], ps := [.agg [.int .i64, .int .i64, .int .i64, .slice, .int .i64]] }], joins := [] }) Tryz.f248 [.int .i64 from0, .pointer (some z0), .pointer (some z1)] = n2097 from0 z0 z1 by kernel_rfl) (by simp) (by kernel_rfl) (by kernel_rfl) hX hw
noncomputable def n2100 (sp : Option Addr) (sn sc : Nat) (seq : Value) : T := .each seq [.slice sp sn sc] (fun xs vs => .unCons xs fun v vs_1 => .unI .i64 v fun n => .unNil vs_1 (.popS vs fun a n_1 c vs => .unNil vs (.sem false (Instr.buildSlice 30 1 #[(0, .int .i64 n)]) fun v => .unS v fun a_1 n c_1 => .sem false (Builtin.append_ #[30, 30] 30 #[.slice a n_1 c, .slice a_1 n c_1]) fun v => .unS v fun a n c => .leaf (.again [.slice a n c])))) (fun vs => .popS vs fun a n c vs => .unNil vs (.leaf (.ret (.slice a n c)))) (fun vs => .popS vs fun a n c vs => .unNil vs (.leaf (.ret (.slice a n c)))) (fun vs => .popS vs fun a n c vs => .unNil vs (.leaf (.ret (.slice none 0 0)))) fun x x_1 => .fail
theorem w2100 (sp : Option Addr) (sn sc : Nat) (seq : Value) (hX : XOK X) (hw : (n2100 sp sn sc seq).wp X Tryz.prog (retQ A) h) : FWK X Tryz.prog .normal 263 #[.slice sp sn sc, seq] h A := fwk_neat (show ftree ({ P := Tryz.prog, priv := [2], loops := [{ id := 0, slots := [(12288, .slice)], ro := [], outs := [], ps := [.cell (.int .i64)] }], joins := [] }) Tryz.f263 [.slice sp sn sc, seq] = n2100 sp sn sc seq by kernel_rfl) (by simp) (by kernel_rfl) (by kernel_rfl) hX hw
noncomputable def n2101 (datap : Option Addr) (datan datac : Nat) (a b limit : Int) : T := .loop [.int .i64 a, .int .i64 b, .int .i64 limit, .bool true, .bool true] (fun vs => .popI .i64 vs fun n vs => .popI .i64 vs fun n_1 vs => .popI .i64 vs fun n_2 vs => .popB vs fun b vs => .popB vs fun b_1 vs => .unNil vs (bif decide (IntKind.wrap .i64 (n_1 - n) ≤ 12) then .call false 265 #[.slice datap datan datac, .int .i64 n, .int .i64 n_1] fun v => .unTup v fun l => .unNil l (.leaf (.retn [.int .i64 n, .int .i64 n_1, .int .i64 n_2, .bool b, .bool b_1])) else bif n_2 == 0 then .call false 266 #[.slice datap datan datac, .int .i64 n, .int .i64 n_1] fun v => .unTup v fun l => .unNil l (.leaf (.retn [.int .i64 n, .int .i64 n_1, .int .i64 n_2, .bool b, .bool b_1])) else .blk (bif !b then .call false 267 #[.slice datap datan datac, .int .i64 n, .int .i64 n_1] fun v => .unTup v fun l => .unNil l (.leaf (.again [.int .i64 (IntKind.wrap .i64 (n_2 - 1))])) else .leaf (.again [.int .i64 n_2])) (fun vs => .popI .i64 vs fun n_3 vs => .unNil vs (.call false 268 #[.slice datap datan datac, .int .i64 n, .int .i64 n_1] fun v => .unTup v fun l => .unCons l fun v vs => .unI .i64 v fun n_4 => .unCons vs fun v vs => .unI .i64 v fun n_5 => .unNil vs (.blk (bif n_5 == 2 then .call false 269 #[.slice datap datan datac, .int .i64 n, .int .i64 n_1] fun v => .unTup v fun l => .unNil l (.leaf (.again [.int .i64 (IntKind.wrap .i64 (IntKind.wrap .i64 (n_1 - 1) - IntKind.wrap .i64 (n_4 - n))), .int .i64 1])) else .leaf (.again [.int .i64 n_4, .int .i64 n_5])) (fun vs => .popI .i64 vs fun n_6 vs => .popI .i64 vs fun n_7 vs => .unNil vs (.blk (bif b then bif b_1 then bif n_7 == 1 then .call false 270 #[.slice datap datan datac, .int .i64 n, .int .i64 n_1] fun v => .unB v fun b => bif b then .leaf (.retn []) else .leaf (.again []) else .leaf (.again []) else .leaf (.again []) else .leaf (.again [])) (fun vs => .unNil vs (.blk (bif decide (n > 0) then .need (0 ≤ IntKind.wrap .i64 (n - 1) ∧ IntKind.wrap .i64 (n - 1) < (↑datan : Int)) (.someA datap fun a => .loadI .i64 (a.add ((IntKind.wrap .i64 (n - 1)).toNat * 1)) fun n_8 => .need (0 ≤ n_6 ∧ n_6 < (↑datan : Int)) (.someA datap fun a_1 => .loadI .i64 (a_1.add (n_6.toNat * 1)) fun n_9 => .call false 271 #[.int .i64 n_8, .int .i64 n_9] fun v => .unB v fun b => .need (0 ≤ n_6 ∧ n_6 < (↑datan : Int)) (.someA datap fun a_2 => .need (AV.val (.pointer (some (a_2.add (n_6.toNat * 1)))) = AV.val (.pointer (some (a_1.add (n_6.toNat * 1))))) (.nd (.int .i64 n_6) (.nd (.slice datap datan datac) (.need (0 ≤ IntKind.wrap .i64 (n - 1) ∧ IntKind.wrap .i64 (n - 1) < (↑datan : Int)) (.someA datap fun a_3 => .need (AV.val (.pointer (some (a_3.add ((IntKind.wrap .i64 (n - 1)).toNat * 1)))) = AV.val (.pointer (some (a.add ((IntKind.wrap .i64 (n - 1)).toNat * 1))))) (.nd (.int .i64 (IntKind.wrap .i64 (n - 1))) (.nd (.int .i64 n) (.nd (.slice datap datan datac) (.nd (.bool (decide (n > 0))) (.nd (.int .i64 n) (bif !b then .call false 272 #[.slice datap datan datac, .int .i64 n, .int .i64 n_1, .int .i64 n_6] fun v => .unI .i64 v fun n => .leaf (.out 1 [.int .i64 n]) else .leaf (.again [.int .i64 n])))))))))))))) else .nd (.tuple #[]) (.nd (.tuple #[]) (.nd (.tuple #[]) (.nd (.tuple #[]) (.nd (.tuple #[]) (.nd (.bool (decide (n > 0))) (.nd (.int .i64 n) (.nd (.tuple #[]) (.nd (.tuple #[]) (.nd (.tuple #[]) (.nd (.tuple #[]) (.nd (.tuple #[]) (.nd (.bool (decide (n > 0))) (.nd (.int .i64 n) (.nd (.tuple #[]) (.nd (.tuple #[]) (.nd (.tuple #[]) (.nd (.tuple #[]) (.nd (.tuple #[]) (.nd (.bool (decide (n > 0))) (.nd (.int .i64 n) (.leaf (.again [.int .i64 n]))))))))))))))))))))))) (fun vs => .popI .i64 vs fun n_8 vs => .unNil vs (.call false 273 #[.slice datap datan datac, .int .i64 n_8, .int .i64 n_1, .int .i64 n_6] fun v => .unTup v fun l => .unCons l fun v vs => .unI .i64 v fun n_9 => .unCons vs fun v vs => .unB v fun b => .unNil vs (.need ((8 : Int) ≠ 0) (bif decide (IntKind.wrap .i64 (n_9 - n_8) < IntKind.wrap .i64 (n_1 - n_9)) then .call false 252 #[.slice datap datan datac, .int .i64 n_8, .int .i64 n_9, .int .i64 n_3] fun v => .unTup v fun l => .unNil l (.leaf (.again [.int .i64 (IntKind.wrap .i64 (n_9 + 1)), .int .i64 n_1, .int .i64 n_3, .bool (decide (IntKind.wrap .i64 (n_9 - n_8) ≥ IntKind.wrap .i64 (Int.tdiv (IntKind.wrap .i64 (n_1 - n)) 8))), .bool b])) else .call false 252 #[.slice datap datan datac, .int .i64 (IntKind.wrap .i64 (n_9 + 1)), .int .i64 n_1, .int .i64 n_3] fun v => .unTup v fun l => .unNil l (.leaf (.again [.int .i64 n_8, .int .i64 n_9, .int .i64 n_3, .bool (decide (IntKind.wrap .i64 (n_1 - n_9) ≥ IntKind.wrap .i64 (Int.tdiv (IntKind.wrap .i64 (n_1 - n)) 8))), .bool b])))))) (fun vs => .popI .i64 vs fun n vs => .unNil vs (.leaf (.retn [.int .i64 n, .int .i64 n_1, .int .i64 n_3, .bool b, .bool b_1]))) fun x x_1 => bif Nat.beq x 1 then .popI .i64 x_1 fun n vs => .unNil vs (.leaf (.again [.int .i64 n, .int .i64 n_1, .int .i64 n_3, .bool b, .bool b_1])) else .fail)) (fun vs => .unNil vs (.leaf (.retn [.int .i64 n, .int .i64 n_1, .int .i64 n_3, .bool b, .bool b_1]))) fun x x_1 => .fail)) (fun vs => .popI .i64 vs fun n_6 vs => .popI .i64 vs fun n_7 vs => .unNil vs (.leaf (.retn [.int .i64 n, .int .i64 n_1, .int .i64 n_3, .bool b, .bool b_1]))) fun x x_1 => .fail))) (fun vs => .popI .i64 vs fun n_3 vs => .unNil vs (.leaf (.retn [.int .i64 n, .int .i64 n_1, .int .i64 n_3, .bool b, .bool b_1]))) fun x x_1 => .fail)) (fun vs => .popI .i64 vs fun n vs => .popI .i64 vs fun n vs => .popI .i64 vs fun n vs => .popB vs fun b vs => .popB vs fun b vs => .unNil vs (.leaf (.ret (.tuple #[])))) (fun vs => .popI .i64 vs fun n vs => .popI .i64 vs fun n vs => .popI .i64 vs fun n vs => .popB vs fun b vs => .popB vs fun b vs => .unNil vs (.leaf (.ret (.tuple #[])))) fun x x_1 => .fail
theorem w2101 (datap : Option Addr) (datan datac : Nat) (a b limit : Int) (hX : XOK X) (hw : (n2101 datap datan datac a b limit).wp X Tryz.prog (retQ A) h) : FWK X Tryz.prog .normal 252 #[.slice datap datan datac, .int .i64 a, .int .i64 b, .int .i64 limit] h A := fwk_neat (show ftree ({ P := Tryz.prog, priv := [], loops := [{ id := 0, slots := [(1, .int .i64), (2, .int .i64), (3, .int .i64), (8, .bool), (9, .bool)], ro := [], outs := [] }], joins := [{ id := 20, slots := [(1, .int .i64)], ro := [], outs := [1] }, { id := 17, slots := [], ro := [], outs := [] }, { id := 15, slots := [(11, .int .i64), (12, .int .i64)], ro := [], outs := [] }, { id := 10, slots := [(3, .int .i64)], ro := [], outs := [] }] }) Tryz.f252 [.slice datap datan datac, .int .i64 a, .int .i64 b, .int .i64 limit] = n2101 datap datan datac a b limit by kernel_rfl) (by simp) (by kernel_rfl) (by kernel_rfl) hX hw
noncomputable def n2102 (x : Int) : T := .call false 275 #[.int .u64 x] fun v => .unI .i64 v fun n => .leaf (.ret (.int .i64 n))
theorem w2102 (x : Int) (hX : XOK X) (hw : (n2102 x).wp X Tryz.prog (retQ A) h) : FWK X Tryz.prog .normal 253 #[.int .u64 x] h A := fwk_neat (show ftree ({ P := Tryz.prog, priv := [], loops := [], joins := [] }) Tryz.f253 [.int .u64 x] = n2102 x by kernel_rfl) (by simp) (by kernel_rfl) (by kernel_rfl) hX hw
noncomputable def n2105 (datap : Option Addr) (datan datac : Nat) (a b : Int) : T := .loop [.int .i64 (IntKind.wrap .i64 (a + 1))] (fun vs => .popI .i64 vs fun n vs => .unNil vs (bif decide (n < b) then .loop [.int .i64 n] (fun vs => .popI .i64 vs fun n vs => .unNil vs (.blk (bif decide (n > a) then .need (0 ≤ n ∧ n < (↑datan : Int)) (.someA datap fun a_1 => .loadI .i64 (a_1.add (n.toNat * 1)) fun n_1 => .need (0 ≤ IntKind.wrap .i64 (n - 1) ∧ IntKind.wrap .i64 (n - 1) < (↑datan : Int)) (.someA datap fun a_2 => .loadI .i64 (a_2.add ((IntKind.wrap .i64 (n - 1)).toNat * 1)) fun n_2 => .call false 271 #[.int .i64 n_1, .int .i64 n_2] fun v => .unB v fun b => .need (0 ≤ IntKind.wrap .i64 (n - 1) ∧ IntKind.wrap .i64 (n - 1) < (↑datan : Int)) (.someA datap fun a_3 => .need (AV.val (.pointer (some (a_3.add ((IntKind.wrap .i64 (n - 1)).toNat * 1)))) = AV.val (.pointer (some (a_2.add ((IntKind.wrap .i64 (n - 1)).toNat * 1))))) (.nd (.int .i64 (IntKind.wrap .i64 (n - 1))) (.nd (.int .i64 n) (.nd (.slice datap datan datac) (.need (0 ≤ n ∧ n < (↑datan : Int)) (.someA datap fun a_4 => .need (AV.val (.pointer (some (a_4.add (n.toNat * 1)))) = AV.val (.pointer (some (a_1.add (n.toNat * 1))))) (.nd (.int .i64 n) (.nd (.slice datap datan datac) (.nd (.bool (decide (n > a))) (.nd (.int .i64 a) (.nd (.int .i64 n) (bif b then .leaf (.again []) else .leaf (.out 2 []))))))))))))))) else .nd (.tuple #[]) (.nd (.tuple #[]) (.nd (.tuple #[]) (.nd (.tuple #[]) (.nd (.tuple #[]) (.nd (.bool (decide (n > a))) (.nd (.int .i64 a) (.nd (.int .i64 n) (.nd (.tuple #[]) (.nd (.tuple #[]) (.nd (.tuple #[]) (.nd (.tuple #[]) (.nd (.tuple #[]) (.nd (.bool (decide (n > a))) (.nd (.int .i64 a) (.nd (.int .i64 n) (.leaf (.out 2 [])))))))))))))))))) (fun vs => .unNil vs (.need (0 ≤ IntKind.wrap .i64 (n - 1) ∧ IntKind.wrap .i64 (n - 1) < (↑datan : Int)) (.someA datap fun a => .loadI .i64 (a.add ((IntKind.wrap .i64 (n - 1)).toNat * 1)) fun n_1 => .need (0 ≤ n ∧ n < (↑datan : Int)) (.someA datap fun a => .loadI .i64 (a.add (n.toNat * 1)) fun n_2 => .need (0 ≤ n ∧ n < (↑datan : Int)) (.someA datap fun a_1 => .store ((a_1.add (n.toNat * 1)).add 0) (.int .i64 n_1) (.need (0 ≤ n ∧ n < (↑datan : Int)) (.someA datap fun a_2 => .need (AV.val (.pointer (some (a_2.add (n.toNat * 1)))) = AV.val (.pointer (some (a.add (n.toNat * 1))))) (.nd (.int .i64 n) (.nd (.slice datap datan datac) (.nd (.int .i64 (IntKind.wrap .i64 (n - 1))) (.nd (.int .i64 n) (.nd (.slice datap datan datac) (.need (0 ≤ IntKind.wrap .i64 (n - 1) ∧ IntKind.wrap .i64 (n - 1) < (↑datan : Int)) (.someA datap fun a => .store ((a.add ((IntKind.wrap .i64 (n - 1)).toNat * 1)).add 0) (.int .i64 n_2) (.leaf (.again [.int .i64 (IntKind.wrap .i64 (n - 1))])))))))))))))))) (fun vs => .unNil vs (.leaf (.retn [.int .i64 n]))) fun x x_1 => bif Nat.beq x 2 then .unNil x_1 (.leaf (.brk [.int .i64 n])) else .fail)) (fun vs => .popI .i64 vs fun n_1 vs => .unNil vs (.leaf (.again [.int .i64 (IntKind.wrap .i64 (n + 1))]))) (fun vs => .popI .i64 vs fun n_1 vs => .unNil vs (.leaf (.retn [.int .i64 n]))) fun x x_1 => .fail else .leaf (.brk [.int .i64 n]))) (fun vs => .popI .i64 vs fun n vs => .unNil vs (.leaf (.ret (.tuple #[])))) (fun vs => .popI .i64 vs fun n vs => .unNil vs (.leaf (.ret (.tuple #[])))) fun x x_1 => .fail
theorem w2105 (datap : Option Addr) (datan datac : Nat) (a b : Int) (hX : XOK X) (hw : (n2105 datap datan datac a b).wp X Tryz.prog (retQ A) h) : FWK X Tryz.prog .normal 265 #[.slice datap datan datac, .int .i64 a, .int .i64 b] h A := fwk_neat (show ftree ({ P := Tryz.prog, priv := [], loops := [{ id := 2, slots := [(7, .int .i64)], ro := [], outs := [] }, { id := 0, slots := [(6, .int .i64)], ro := [], outs := [] }], joins := [{ id := 6, slots := [], ro := [], outs := [2] }] }) Tryz.f265 [.slice datap datan datac, .int .i64 a, .int .i64 b] = n2105 datap datan datac a b by kernel_rfl) (by simp) (by kernel_rfl) (by kernel_rfl) hX hw
noncomputable def n2111 (x y : Int) : T := .call false 254 #[.int .i64 x] fun v => .unB v fun b => bif b then .call false 254 #[.int .i64 y] fun v => .unB v fun b => bif !b then .leaf (.ret (.bool true)) else .leaf (.ret (.bool (decide (x < y)))) else .leaf (.ret (.bool (decide (x < y))))
theorem w2111 (x y : Int) (hX : XOK X) (hw : (n2111 x y).wp X Tryz.prog (retQ A) h) : FWK X Tryz.prog .normal 271 #[.int .i64 x, .int .i64 y] h A := fwk_neat (show ftree ({ P := Tryz.prog, priv := [], loops := [], joins := [] }) Tryz.f271 [.int .i64 x, .int .i64 y] = n2111 x y by kernel_rfl) (by simp) (by kernel_rfl) (by kernel_rfl) hX hw
noncomputable def n2115 (x : Int) : T := .blk (bif decide (x ≥ 4294967296) then .need ((0 : Int) ≤ 32) (.leaf (.again [.int .u64 (Int.fdiv x (2 ^ 32)), .int .i64 32])) else .leaf (.again [.int .u64 x, .int .i64 0])) (fun vs => .popI .u64 vs fun n vs => .popI .i64 vs fun n_1 vs => .unNil vs (.blk (bif decide (n ≥ 65536) then .need ((0 : Int) ≤ 16) (.leaf (.again [.int .u64 (Int.fdiv n (2 ^ 16)), .int .i64 (IntKind.wrap .i64 (n_1 + 16))])) else .leaf (.again [.int .u64 n, .int .i64 n_1])) (fun vs => .popI .u64 vs fun n vs => .popI .i64 vs fun n_2 vs => .unNil vs (bif decide (n ≥ 256) then .need ((0 : Int) ≤ 8) (.sem false (Instr.index 9 (.string { data := List.toArray (List.append (List.append [0, 1, 2, 2, 3, 3, 3, 3, 4, 4, 4, 4, 4, 4, 4, 4, 5, 5, 5, 5, 5, 5, 5, 5, 5, 5, 5, 5, 5, 5, 5, 5, 6, 6, 6, 6, 6, 6, 6, 6, 6, 6, 6, 6, 6, 6, 6, 6, 6, 6, 6, 6, 6, 6, 6, 6, 6, 6, 6, 6, 6, 6, 6, 6] [7, 7, 7, 7, 7, 7, 7, 7, 7, 7, 7, 7, 7, 7, 7, 7, 7, 7, 7, 7, 7, 7, 7, 7, 7, 7, 7, 7, 7, 7, 7, 7, 7, 7, 7, 7, 7, 7, 7, 7, 7, 7, 7, 7, 7, 7, 7, 7, 7, 7, 7, 7, 7, 7, 7, 7, 7, 7, 7, 7, 7, 7, 7, 7]) (List.append [8, 8, 8, 8, 8, 8, 8, 8, 8, 8, 8, 8, 8, 8, 8, 8, 8, 8, 8, 8, 8, 8, 8, 8, 8, 8, 8, 8, 8, 8, 8, 8, 8, 8, 8, 8, 8, 8, 8, 8, 8, 8, 8, 8, 8, 8, 8, 8, 8, 8, 8, 8, 8, 8, 8, 8, 8, 8, 8, 8, 8, 8, 8, 8] [8, 8, 8, 8, 8, 8, 8, 8, 8, 8, 8, 8, 8, 8, 8, 8, 8, 8, 8, 8, 8, 8, 8, 8, 8, 8, 8, 8, 8, 8, 8, 8, 8, 8, 8, 8, 8, 8, 8, 8, 8, 8, 8, 8, 8, 8, 8, 8, 8, 8, 8, 8, 8, 8, 8, 8, 8, 8, 8, 8, 8, 8, 8, 8])) }) (.int .u8 (IntKind.wrap .u8 (Int.fdiv n (2 ^ 8))))) fun v => .unI .u8 v fun n => .leaf (.ret (.int .i64 (IntKind.wrap .i64 (IntKind.wrap .i64 (n_2 + 8) + IntKind.wrap .i64 n))))) else .sem false (Instr.index 9 (.string { data := List.toArray (List.append (List.append [0, 1, 2, 2, 3, 3, 3, 3, 4, 4, 4, 4, 4, 4, 4, 4, 5, 5, 5, 5, 5, 5, 5, 5, 5, 5, 5, 5, 5, 5, 5, 5, 6, 6, 6, 6, 6, 6, 6, 6, 6, 6, 6, 6, 6, 6, 6, 6, 6, 6, 6, 6, 6, 6, 6, 6, 6, 6, 6, 6, 6, 6, 6, 6] [7, 7, 7, 7, 7, 7, 7, 7, 7, 7, 7, 7, 7, 7, 7, 7, 7, 7, 7, 7, 7, 7, 7, 7, 7, 7, 7, 7, 7, 7, 7, 7, 7, 7, 7, 7, 7, 7, 7, 7, 7, 7, 7, 7, 7, 7, 7, 7, 7, 7, 7, 7, 7, 7, 7, 7, 7, 7, 7, 7, 7, 7, 7, 7]) (List.append [8, 8, 8, 8, 8, 8, 8, 8, 8, 8, 8, 8, 8, 8, 8, 8, 8, 8, 8, 8, 8, 8, 8, 8, 8, 8, 8, 8, 8, 8, 8, 8, 8, 8, 8, 8, 8, 8, 8, 8, 8, 8, 8, 8, 8, 8, 8, 8, 8, 8, 8, 8, 8, 8, 8, 8, 8, 8, 8, 8, 8, 8, 8, 8] [8, 8, 8, 8, 8, 8, 8, 8, 8, 8, 8, 8, 8, 8, 8, 8, 8, 8, 8, 8, 8, 8, 8, 8, 8, 8, 8, 8, 8, 8, 8, 8, 8, 8, 8, 8, 8, 8, 8, 8, 8, 8, 8, 8, 8, 8, 8, 8, 8, 8, 8, 8, 8, 8, 8, 8, 8, 8, 8, 8, 8, 8, 8, 8])) }) (.int .u8 (IntKind.wrap .u8 n))) fun v => .unI .u8 v fun n => .leaf (.ret (.int .i64 (IntKind.wrap .i64 (n_2 + IntKind.wrap .i64 n)))))) (fun vs => .popI .u64 vs fun n vs => .popI .i64 vs fun n vs => .unNil vs (.leaf (.ret (.int .i64 n)))) fun x x_1 => .fail)) (fun vs => .popI .u64 vs fun n vs => .popI .i64 vs fun n vs => .unNil vs (.leaf (.ret (.int .i64 n)))) fun x x_1 => .fail
theorem w2115 (x : Int) (hX : XOK X) (hw : (n2115 x).wp X Tryz.prog (retQ A) h) : FWK X Tryz.prog .normal 275 #[.int .u64 x] h A := fwk_neat (show ftree ({ P := Tryz.prog, priv := [], loops := [], joins := [{ id := 7, slots := [(0, .int .u64), (2, .int .i64)], ro := [], outs := [] }, { id := 4, slots := [(0, .int .u64), (2, .int .i64)], ro := [], outs := [] }] }) Tryz.f275 [.int .u64 x] = n2115 x by kernel_rfl) (by simp) (by kernel_rfl) (by kernel_rfl) hX hw
noncomputable def n2137 (a_0 a_1 a_2 a_3 a_4 a_5 : Int) (a_6p : Option Addr) (a_6n a_6c : Nat) (a_7 a_8 a_9 a_10 : Int) (a_11 : Bool) (day : Int) : T := .call false 197 #[.int .i64 day, .int .i64 a_9, .int .i64 (IntKind.wrap .i64 (a_10 - 1))] fun v => .unB v fun b => .nd (.int .i64 a_10) (.need (AV.pp 2 10 = AV.pp 2 10) (.need (AV.pp 2 9 = AV.pp 2 9) (.nd (.int .i64 a_9) (.need (AV.pp 2 9 = AV.pp 2 9) (bif b then .call false 201 #[.agg #[.int .i64 a_0, .int .i64 a_1, .int .i64 a_2, .int .i64 a_3, .int .i64 a_4, .int .i64 a_5, .slice a_6p a_6n a_6c, .int .i64 a_7, .int .i64 a_8, .int .i64 a_9, .int .i64 a_10, .bool a_11], .int .i64 day] fun v => .unB v fun b => .nd (.int .i64 a_10) (.need (AV.pp 2 10 = AV.pp 2 10) (.need (AV.pp 2 9 = AV.pp 2 9) (.nd (.int .i64 a_9) (.need (AV.pp 2 9 = AV.pp 2 9) (.nd (.bool !b) (.nd (.bool !b) (.nd (.int .i64 a_10) (.need (AV.pp 2 10 = AV.pp 2 10) (.need (AV.pp 2 9 = AV.pp 2 9) (.leaf (.ret (.tuple #[.int .i64 a_9, .bool !b])))))))))))) else .nd (.int .i64 a_10) (.need (AV.pp 2 10 = AV.pp 2 10) (.need (AV.pp 2 9 = AV.pp 2 9) (.nd (.int .i64 a_9) (.need (AV.pp 2 9 = AV.pp 2 9) (.both (.nd (.int .i64 a_10) (.need (AV.pp 2 10 = AV.pp 2 10) (.need (AV.pp 2 9 = AV.pp 2 9) (.nd (.int .i64 a_9) (.need (AV.pp 2 9 = AV.pp 2 9) (.nd (.bool false) (.nd (.int .i64 a_10) (.need (AV.pp 2 10 = AV.pp 2 10) (.need (AV.pp 2 9 = AV.pp 2 9) (.leaf (.ret (.tuple #[.int .i64 a_9, .bool false])))))))))))) (.nd (.int .i64 a_10) (.need (AV.pp 2 10 = AV.pp 2 10) (.need (AV.pp 2 9 = AV.pp 2 9) (.nd (.int .i64 a_10) (.need (AV.pp 2 10 = AV.pp 2 10) (.need (AV.pp 2 9 = AV.pp 2 9) (.leaf (.ret (.tuple #[.int .i64 a_9, .bool false])))))))))))))))))))
theorem w2137 (a_0 a_1 a_2 a_3 a_4 a_5 : Int) (a_6p : Option Addr) (a_6n a_6c : Nat) (a_7 a_8 a_9 a_10 : Int) (a_11 : Bool) (day : Int) (hX : XOK X) (hw : (n2137 a_0 a_1 a_2 a_3 a_4 a_5 a_6p a_6n a_6c a_7 a_8 a_9 a_10 a_11 day).wp X Tryz.prog (retQ A) h) : FWK X Tryz.prog .normal 297 #[.agg #[.int .i64 a_0, .int .i64 a_1, .int .i64 a_2, .int .i64 a_3, .int .i64 a_4, .int .i64 a_5, .slice a_6p a_6n a_6c, .int .i64 a_7, .int .i64 a_8, .int .i64 a_9, .int .i64 a_10, .bool a_11], .int .i64 day] h A := fwk_neat (show ftree ({ P := Tryz.prog, priv := [2], loops := [], joins := [] }) Tryz.f297 [.agg #[.int .i64 a_0, .int .i64 a_1, .int .i64 a_2, .int .i64 a_3, .int .i64 a_4, .int .i64 a_5, .slice a_6p a_6n a_6c, .int .i64 a_7, .int .i64 a_8, .int .i64 a_9, .int .i64 a_10, .bool a_11], .int .i64 day] = n2137 a_0 a_1 a_2 a_3 a_4 a_5 a_6p a_6n a_6c a_7 a_8 a_9 a_10 a_11 day by kernel_rfl) (by simp) (by kernel_rfl) (by kernel_rfl) hX hw
noncomputable def n2138 (t_0 t_1 t_2 t_3 t_4 t_5 : Int) (t_6p : Option Addr) (t_6n t_6c : Nat) (t_7 t_8 t_9 t_10 : Int) (t_11 : Bool) (t_12 t_13 day : Int) : T := .call false 197 #[.int .i64 day, .int .i64 t_12, .int .i64 (IntKind.wrap .i64 (t_13 - 1))] fun v => .unB v fun b => .nd (.int .i64 t_13) (.need (AV.pp 2 13 = AV.pp 2 13) (.need (AV.pp 2 12 = AV.pp 2 12) (.nd (.int .i64 t_9) (.need (AV.pp 2 9 = AV.pp 2 9) (.need (AV.pp 2 0 = AV.pp 2 0) (.nd (.int .i64 t_13) (.need (AV.pp 2 13 = AV.pp 2 13) (.need (AV.pp 2 12 = AV.pp 2 12) (.leaf (.ret (.tuple #[.int .i64 t_9, .bool b])))))))))))
theorem w2138 (t_0 t_1 t_2 t_3 t_4 t_5 : Int) (t_6p : Option Addr) (t_6n t_6c : Nat) (t_7 t_8 t_9 t_10 : Int) (t_11 : Bool) (t_12 t_13 day : Int) (hX : XOK X) (hw : (n2138 t_0 t_1 t_2 t_3 t_4 t_5 t_6p t_6n t_6c t_7 t_8 t_9 t_10 t_11 t_12 t_13 day).wp X Tryz.prog (retQ A) h) : FWK X Tryz.prog .normal 298 #[.agg #[.int .i64 t_0, .int .i64 t_1, .int .i64 t_2, .int .i64 t_3, .int .i64 t_4, .int .i64 t_5, .slice t_6p t_6n t_6c, .int .i64 t_7, .int .i64 t_8, .int .i64 t_9, .int .i64 t_10, .bool t_11, .int .i64 t_12, .int .i64 t_13], .int .i64 day] h A := fwk_neat (show ftree ({ P := Tryz.prog, priv := [2], loops := [], joins := [] }) Tryz.f298 [.agg #[.int .i64 t_0, .int .i64 t_1, .int .i64 t_2, .int .i64 t_3, .int .i64 t_4, .int .i64 t_5, .slice t_6p t_6n t_6c, .int .i64 t_7, .int .i64 t_8, .int .i64 t_9, .int .i64 t_10, .bool t_11, .int .i64 t_12, .int .i64 t_13], .int .i64 day] = n2138 t_0 t_1 t_2 t_3 t_4 t_5 t_6p t_6n t_6c t_7 t_8 t_9 t_10 t_11 t_12 t_13 day by kernel_rfl) (by simp) (by kernel_rfl) (by kernel_rfl) hX hw
noncomputable def n2140  : T := .leaf (.ret (.bool true))
theorem w2140  (hX : XOK X) (hw : (n2140 ).wp X Tryz.prog (retQ A) h) : FWK X Tryz.prog .normal 308 #[] h A := fwk_neat (show ftree ({ P := Tryz.prog, priv := [], loops := [], joins := [] }) Tryz.f308 [] = n2140  by kernel_rfl) (by simp) (by kernel_rfl) (by kernel_rfl) hX hw
noncomputable def n2141  : T := .leaf (.ret (.bool false))
theorem w2141  (hX : XOK X) (hw : (n2141 ).wp X Tryz.prog (retQ A) h) : FWK X Tryz.prog .normal 309 #[] h A := fwk_neat (show ftree ({ P := Tryz.prog, priv := [], loops := [], joins := [] }) Tryz.f309 [] = n2141  by kernel_rfl) (by simp) (by kernel_rfl) (by kernel_rfl) hX hw
end Go.Proofs.YtldamlcehbdkdaaGreatDoor
end
section
namespace Go.Proofs.YtldamlcehbdkdaaGreatDoor
open Go Go.TM Go.Proofs
set_option linter.unusedVariables false
set_option maxRecDepth 100000
variable {X : XP} {h : LH} {A : Value → LH → Prop}
noncomputable def n2020 (ap : Option Addr) (an ac : Nat) (bp : Option Addr) (bn bc : Nat) : T := bif (↑an : Int) != (↑bn : Int) then .leaf (.ret (.bool false)) else .loop [.bool false, .int .i64 0] (fun vs => .popB vs fun b vs => .popI .i64 vs fun n vs => .unNil vs (bif decide (n < (↑an : Int)) then .need (0 ≤ n ∧ n < (↑an : Int)) (.someA ap fun a => .loadB (a.add (n.toNat * 1)) fun b_1 => .need (0 ≤ n ∧ n < (↑bn : Int)) (.someA bp fun a => .loadB (a.add (n.toNat * 1)) fun b_2 => bif !b_1 == b_2 then .leaf (.retn [.bool false, .int .i64 n]) else .leaf (.again [.bool b, .int .i64 (IntKind.wrap .i64 (n + 1))]))) else .leaf (.brk [.bool b, .int .i64 n]))) (fun vs => .popB vs fun b vs => .popI .i64 vs fun n vs => .unNil vs (.leaf (.ret (.bool true)))) (fun vs => .popB vs fun b vs => .popI .i64 vs fun n vs => .unNil vs (.leaf (.ret (.bool b)))) fun x x_1 => .fail
theorem w2020 (ap : Option Addr) (an ac : Nat) (bp : Option Addr) (bn bc : Nat) (hX : XOK X) (hw : (n2020 ap an ac bp bn bc).wp X Tryz.prog (retQ A) h) : FWK X Tryz.prog .normal 93 #[.slice ap an ac, .slice bp bn bc] h A := fwk_neat (show ftree ({ P := Tryz.prog, priv := [], loops := [{ id := 0, slots := [(4, .bool), (5, .int .i64)], ro := [], outs := [] }], joins := [] }) Tryz.f93 [.slice ap an ac, .slice bp bn bc] = n2020 ap an ac bp bn bc by kernel_rfl) (by simp) (by kernel_rfl) (by kernel_rfl) hX hw
noncomputable def n2022 (x_0 x_1 x_2 x_3 x_4 x_5 : Int) (x_6p : Option Addr) (x_6n x_6c : Nat) : T := .blk (.call false 96 #[.int .i64 x_0, .int .i64 0, .int .i64 5] fun v => .unB v fun b => bif !b then .leaf (.retn [.int .i64 1]) else .call false 96 #[.int .i64 x_1, .int .i64 1, .int .i64 3] fun v => .unB v fun b => bif !b then .leaf (.retn [.int .i64 1]) else .call false 138 #[.int .i64 x_2] fun v => .unB v fun b => bif !b then .leaf (.retn [.int .i64 1]) else .call false 138 #[.int .i64 x_3] fun v => .unB v fun b => bif !b then .leaf (.retn [.int .i64 1]) else .call false 138 #[.int .i64 x_4] fun v => .unB v fun b => bif !b then .leaf (.retn [.int .i64 1]) else .call false 138 #[.int .i64 x_5] fun v => .unB v fun b => bif !b then .leaf (.retn [.int .i64 1]) else .leaf (.again [.int .i64 0])) (fun vs => .popI .i64 vs fun n vs => .unNil vs (bif decide ((↑x_6n : Int) > 10) then .leaf (.ret (.int .i64 2)) else .loop [.int .i64 n, .int .i64 0] (fun vs => .popI .i64 vs fun n vs => .popI .i64 vs fun n_1 vs => .unNil vs (bif decide (n_1 < (↑x_6n : Int)) then .need (0 ≤ n_1 ∧ n_1 < (↑x_6n : Int)) (.someA x_6p fun a => .loadI .i64 ((a.add (n_1.toNat * 5)).add 0) fun n_2 => .loadI .i64 ((a.add (n_1.toNat * 5)).add 1) fun n_3 => .loadI .i64 ((a.add (n_1.toNat * 5)).add 2) fun n_4 => .loadS ((a.add (n_1.toNat * 5)).add 3) fun p n_5 c => .loadI .i64 ((a.add (n_1.toNat * 5)).add 4) fun n_6 => .call false 139 #[.agg #[.int .i64 x_0, .int .i64 x_1, .int .i64 x_2, .int .i64 x_3, .int .i64 x_4, .int .i64 x_5, .slice x_6p x_6n x_6c], .agg #[.int .i64 n_2, .int .i64 n_3, .int .i64 n_4, .slice p n_5 c, .int .i64 n_6]] fun v => .unI .i64 v fun n_7 => .need (0 ≤ n_1 ∧ n_1 < (↑x_6n : Int)) (.someA x_6p fun a_1 => .need (AV.val (.pointer (some (a_1.add (n_1.toNat * 5)))) = AV.val (.pointer (some (a.add (n_1.toNat * 5))))) (.nd (.int .i64 n_1) (.nd (.slice x_6p x_6n x_6c) (.need (AV.pp 1 6 = AV.pp 1 6) (bif n_7 != 0 then .leaf (.retn [.int .i64 n_7, .int .i64 n_1]) else .leaf (.again [.int .i64 n, .int .i64 (IntKind.wrap .i64 (n_1 + 1))]))))))) else .leaf (.brk [.int .i64 n, .int .i64 n_1]))) (fun vs => .popI .i64 vs fun n vs => .popI .i64 vs fun n vs => .unNil vs (.leaf (.ret (.int .i64 0)))) (fun vs => .popI .i64 vs fun n vs => .popI .i64 vs fun n_1 vs => .unNil vs (.leaf (.ret (.int .i64 n)))) fun x x_6 => .fail)) (fun vs => .popI .i64 vs fun n vs => .unNil vs (.leaf (.ret (.int .i64 n)))) fun x x_6 => .fail
theorem w2022 (x_0 x_1 x_2 x_3 x_4 x_5 : Int) (x_6p : Option Addr) (x_6n x_6c : Nat) (hX : XOK X) (hw : (n2022 x_0 x_1 x_2 x_3 x_4 x_5 x_6p x_6n x_6c).wp X Tryz.prog (retQ A) h) : FWK X Tryz.prog .normal 86 #[.agg #[.int .i64 x_0, .int .i64 x_1, .int .i64 x_2, .int .i64 x_3, .int .i64 x_4, .int .i64 x_5, .slice x_6p x_6n x_6c]] h A := fwk_neat (show ftree ({ P := Tryz.prog, priv := [1], loops := [{ id := 0, slots := [(2, .int .i64), (3, .int .i64)], ro := [1], outs := [] }], joins := [{ id := 3, slots := [(2, .int .i64)], ro := [1], outs := [] }] }) Tryz.f86 [.agg #[.int .i64 x_0, .int .i64 x_1, .int .i64 x_2, .int .i64 x_3, .int .i64 x_4, .int .i64 x_5, .slice x_6p x_6n x_6c]] = n2022 x_0 x_1 x_2 x_3 x_4 x_5 x_6p x_6n x_6c by kernel_rfl) (by simp) (by kernel_rfl) (by kernel_rfl) hX hw
noncomputable def n2025 (ap : Option Addr) (an ac : Nat) (bp : Option Addr) (bn bc : Nat) : T := bif (↑an : Int) != (↑bn : Int) then .leaf (.ret (.bool false)) else .loop [.bool false, .int .i64 0] (fun vs => .popB vs fun b vs => .popI .i64 vs fun n vs => .unNil vs (bif decide (n < (↑an : Int)) then .need (0 ≤ n ∧ n < (↑an : Int)) (.someA ap fun a => .loadI .i64 ((a.add (n.toNat * 2)).add 0) fun n_1 => .loadI .i64 ((a.add (n.toNat * 2)).add 1) fun n_2 => .need (0 ≤ n ∧ n < (↑bn : Int)) (.someA bp fun a_1 => .loadI .i64 ((a_1.add (n.toNat * 2)).add 0) fun n_3 => .loadI .i64 ((a_1.add (n.toNat * 2)).add 1) fun n_4 => .sem false (Sem.bind (eqGuard BinOp.neq 29 (Operand.tmp 20) (Operand.tmp 24) (.agg #[.int .i64 n_1, .int .i64 n_2]) (.agg #[.int .i64 n_3, .int .i64 n_4])) fun __r => binOp BinOp.neq 29 (.agg #[.int .i64 n_1, .int .i64 n_2]) (.agg #[.int .i64 n_3, .int .i64 n_4])) fun v => .unB v fun b_1 => .need (0 ≤ n ∧ n < (↑bn : Int)) (.someA bp fun a_2 => .need (AV.val (.pointer (some (a_2.add (n.toNat * 2)))) = AV.val (.pointer (some (a_1.add (n.toNat * 2))))) (.nd (.int .i64 n) (.nd (.slice bp bn bc) (.need (0 ≤ n ∧ n < (↑an : Int)) (.someA ap fun a_3 => .need (AV.val (.pointer (some (a_3.add (n.toNat * 2)))) = AV.val (.pointer (some (a.add (n.toNat * 2))))) (.nd (.int .i64 n) (.nd (.slice ap an ac) (bif b_1 then .leaf (.retn [.bool false, .int .i64 n]) else .leaf (.again [.bool b, .int .i64 (IntKind.wrap .i64 (n + 1))]))))))))))) else .leaf (.brk [.bool b, .int .i64 n]))) (fun vs => .popB vs fun b vs => .popI .i64 vs fun n vs => .unNil vs (.leaf (.ret (.bool true)))) (fun vs => .popB vs fun b vs => .popI .i64 vs fun n vs => .unNil vs (.leaf (.ret (.bool b)))) fun x x_1 => .fail
theorem w2025 (ap : Option Addr) (an ac : Nat) (bp : Option Addr) (bn bc : Nat) (hX : XOK X) (hw : (n2025 ap an ac bp bn bc).wp X Tryz.prog (retQ A) h) : FWK X Tryz.prog .normal 94 #[.slice ap an ac, .slice bp bn bc] h A := fwk_neat (show ftree ({ P := Tryz.prog, priv := [], loops := [{ id := 0, slots := [(4, .bool), (5, .int .i64)], ro := [], outs := [] }], joins := [] }) Tryz.f94 [.slice ap an ac, .slice bp bn bc] = n2025 ap an ac bp bn bc by kernel_rfl) (by simp) (by kernel_rfl) (by kernel_rfl) hX hw
noncomputable def n2056 (n : Int) : T := .call false 96 #[.int .i64 n, .int .i64 0, .int .i64 9999] fun v => .unB v fun b => .leaf (.ret (.bool b))
theorem w2056 (n : Int) (hX : XOK X) (hw : (n2056 n).wp X Tryz.prog (retQ A) h) : FWK X Tryz.prog .normal 138 #[.int .i64 n] h A := fwk_neat (show ftree ({ P := Tryz.prog, priv := [], loops := [], joins := [] }) Tryz.f138 [.int .i64 n] = n2056 n by kernel_rfl) (by simp) (by kernel_rfl) (by kernel_rfl) hX hw
noncomputable def n2057 (x_0 x_1 x_2 x_3 x_4 x_5 : Int) (x_6p : Option Addr) (x_6n x_6c : Nat) (e_0 e_1 e_2 : Int) (e_3p : Option Addr) (e_3n e_3c : Nat) (e_4 : Int) : T := .blk (bif decide (e_0 < 0) then .leaf (.retn [.int .i64 1]) else bif decide (e_0 > 6) then .leaf (.retn [.int .i64 1]) else .call false 138 #[.int .i64 e_1] fun v => .unB v fun b => bif !b then .leaf (.retn [.int .i64 1]) else .call false 138 #[.int .i64 e_4] fun v => .unB v fun b => bif !b then .leaf (.retn [.int .i64 1]) else .leaf (.again [.int .i64 0])) (fun vs => .popI .i64 vs fun n vs => .unNil vs (.call false 96 #[.int .i64 e_2, .int .i64 0, .int .i64 (IntKind.wrap .i64 (x_1 - 1))] fun v => .unB v fun b => bif !b then .leaf (.ret (.int .i64 6)) else .loop [.int .i64 n, .int .i64 0] (fun vs => .popI .i64 vs fun n vs => .popI .i64 vs fun n_1 vs => .unNil vs (bif decide (n_1 < (↑e_3n : Int)) then .need (0 ≤ n_1 ∧ n_1 < (↑e_3n : Int)) (.someA e_3p fun a => .loadI .i64 (a.add (n_1.toNat * 1)) fun n_2 => .call false 96 #[.int .i64 n_2, .int .i64 0, .int .i64 (IntKind.wrap .i64 (x_0 - 1))] fun v => .unB v fun b => .nd (.int .i64 x_0) (.need (AV.pp 2 0 = AV.pp 2 0) (.need (0 ≤ n_1 ∧ n_1 < (↑e_3n : Int)) (.someA e_3p fun a_1 => .need (AV.val (.pointer (some (a_1.add (n_1.toNat * 1)))) = AV.val (.pointer (some (a.add (n_1.toNat * 1))))) (.nd (.int .i64 n_1) (.nd (.slice e_3p e_3n e_3c) (.need (AV.pp 3 3 = AV.pp 3 3) (bif !b then .leaf (.retn [.int .i64 6, .int .i64 n_1]) else bif decide (n_1 > 0) then .need (0 ≤ n_1 ∧ n_1 < (↑e_3n : Int)) (.someA e_3p fun a => .loadI .i64 (a.add (n_1.toNat * 1)) fun n_3 => .need (0 ≤ IntKind.wrap .i64 (n_1 - 1) ∧ IntKind.wrap .i64 (n_1 - 1) < (↑e_3n : Int)) (.someA e_3p fun a => .loadI .i64 (a.add ((IntKind.wrap .i64 (n_1 - 1)).toNat * 1)) fun n_4 => bif decide (n_3 ≤ n_4) then .leaf (.retn [.int .i64 7, .int .i64 n_1]) else .leaf (.again [.int .i64 n, .int .i64 (IntKind.wrap .i64 (n_1 + 1))]))) else .nd (.tuple #[]) (.nd (.tuple #[]) (.nd (.tuple #[]) (.nd (.tuple #[]) (.nd (.tuple #[]) (.nd (.tuple #[]) (.nd (.tuple #[]) (.nd (.bool (decide (n_1 > 0))) (.nd (.int .i64 n_1) (.nd (.tuple #[]) (.nd (.tuple #[]) (.nd (.tuple #[]) (.nd (.tuple #[]) (.nd (.tuple #[]) (.nd (.tuple #[]) (.nd (.tuple #[]) (.nd (.bool (decide (n_1 > 0))) (.nd (.int .i64 n_1) (.leaf (.again [.int .i64 n, .int .i64 (IntKind.wrap .i64 (n_1 + 1))]))))))))))))))))))))))))))) else .leaf (.brk [.int .i64 n, .int .i64 n_1]))) (fun vs => .popI .i64 vs fun n vs => .popI .i64 vs fun n vs => .unNil vs (bif e_0 == 4 then bif e_2 != 0 then .leaf (.ret (.int .i64 1)) else bif e_0 != 4 then bif e_0 != 6 then bif e_4 != 0 then .leaf (.ret (.int .i64 1)) else bif decide (e_4 > e_1) then .leaf (.ret (.int .i64 7)) else .leaf (.ret (.int .i64 0)) else bif decide (e_4 > e_1) then .leaf (.ret (.int .i64 7)) else .leaf (.ret (.int .i64 0)) else bif decide (e_4 > e_1) then .leaf (.ret (.int .i64 7)) else .leaf (.ret (.int .i64 0)) else bif e_0 != 4 then bif e_0 != 6 then bif e_4 != 0 then .leaf (.ret (.int .i64 1)) else bif decide (e_4 > e_1) then .leaf (.ret (.int .i64 7)) else .leaf (.ret (.int .i64 0)) else bif decide (e_4 > e_1) then .leaf (.ret (.int .i64 7)) else .leaf (.ret (.int .i64 0)) else bif decide (e_4 > e_1) then .leaf (.ret (.int .i64 7)) else .leaf (.ret (.int .i64 0)))) (fun vs => .popI .i64 vs fun n vs => .popI .i64 vs fun n_1 vs => .unNil vs (.leaf (.ret (.int .i64 n)))) fun x x_6 => .fail)) (fun vs => .popI .i64 vs fun n vs => .unNil vs (.leaf (.ret (.int .i64 n)))) fun x x_6 => .fail
theorem w2057 (x_0 x_1 x_2 x_3 x_4 x_5 : Int) (x_6p : Option Addr) (x_6n x_6c : Nat) (e_0 e_1 e_2 : Int) (e_3p : Option Addr) (e_3n e_3c : Nat) (e_4 : Int) (hX : XOK X) (hw : (n2057 x_0 x_1 x_2 x_3 x_4 x_5 x_6p x_6n x_6c e_0 e_1 e_2 e_3p e_3n e_3c e_4).wp X Tryz.prog (retQ A) h) : FWK X Tryz.prog .normal 139 #[.agg #[.int .i64 x_0, .int .i64 x_1, .int .i64 x_2, .int .i64 x_3, .int .i64 x_4, .int .i64 x_5, .slice x_6p x_6n x_6c], .agg #[.int .i64 e_0, .int .i64 e_1, .int .i64 e_2, .slice e_3p e_3n e_3c, .int .i64 e_4]] h A := fwk_neat (show ftree ({ P := Tryz.prog, priv := [2, 3], loops := [{ id := 0, slots := [(4, .int .i64), (5, .int .i64)], ro := [2, 3], outs := [] }], joins := [{ id := 3, slots := [(4, .int .i64)], ro := [2, 3], outs := [] }] }) Tryz.f139 [.agg #[.int .i64 x_0, .int .i64 x_1, .int .i64 x_2, .int .i64 x_3, .int .i64 x_4, .int .i64 x_5, .slice x_6p x_6n x_6c], .agg #[.int .i64 e_0, .int .i64 e_1, .int .i64 e_2, .slice e_3p e_3n e_3c, .int .i64 e_4]] = n2057 x_0 x_1 x_2 x_3 x_4 x_5 x_6p x_6n x_6c e_0 e_1 e_2 e_3p e_3n e_3c e_4 by kernel_rfl) (by simp) (by kernel_rfl) (by kernel_rfl) hX hw
end Go.Proofs.YtldamlcehbdkdaaGreatDoor
end
section
namespace Go.Proofs.YtldamlcehbdkdaaGreatDoor.Tre
open Go Go.TM Go.Proofs Go.TM.Tr
attribute [local irreducible] T.wp CV FWK
theorem c2052 {h : LH} (n a b : Int) : Pu Tryz.prog 197 #[.int .i64 n, .int .i64 a, .int .i64 b] h (.bool (inB n a b)) := by
 refine w2052 _ _ _ X0_ok ?_
 unfold n2052
 refine t_if (fun e => ?_) (fun e => ?_) <;> refine t_ret ⟨?_, rfl⟩ <;> simp [inB, e]
theorem c2053 {h : LH} (n : Int) : Pu Tryz.prog 194 #[.int .i64 n] h (.bool (dayB n)) := by
 refine w2053 _ X0_ok ?_
 unfold n2053
 refine t_pu (c2052 _ _ _) ?_
 refine gZ ?_
 exact t_ret ⟨rfl, rfl⟩
theorem c2140 {h : LH} : Pu Tryz.prog 308 #[] h (.bool true) := by
 refine w2140 X0_ok ?_
 unfold n2140
 exact t_ret ⟨rfl, rfl⟩
theorem c2141 {h : LH} : Pu Tryz.prog 309 #[] h (.bool false) := by
 refine w2141 X0_ok ?_
 unfold n2141
 exact t_ret ⟨rfl, rfl⟩
theorem c49 {h : LH} (n a b : Int) : Pu Tryz.prog 96 #[.int .i64 n, .int .i64 a, .int .i64 b] h (.bool (inB n a b)) := by
 refine w49 _ _ _ X0_ok ?_
 unfold n49
 refine t_if (fun e => ?_) (fun e => ?_) <;> refine t_ret ⟨?_, rfl⟩ <;> simp [inB, e]
theorem c2056 {h : LH} (n : Int) : Pu Tryz.prog 138 #[.int .i64 n] h (.bool (dayB n)) := by
 refine w2056 _ X0_ok ?_
 unfold n2056
 refine t_pu (c49 _ _ _) ?_
 refine gZ ?_
 exact t_ret ⟨rfl, rfl⟩
theorem pu_gr {f : FuncId} {args : Array Value} {h : LH} {v : Value} (c : Pu Tryz.prog f args h v) : Gr Tryz.prog f args h fun r _ => r = v :=
 FW.mono c (by rintro _ _ ⟨rfl, rfl⟩; exact ⟨LH.le_refl _, rfl⟩)
def indexF (x : Int) : Nat → List Int → Int
 | _, [] => -1
 | i, y :: l => if x == y then i else indexF x (i + 1) l
theorem indexF_ge (x : Int) : ∀ (l : List Int) (i : Nat), decide (indexF x i l ≥ 0) = l.contains x := by
 intro l
 induction l with
 | nil => intro i; rfl
 | cons y l ih =>
  intro i
  rw [indexF, List.contains_cons]
  split
  ·rename_i h; rw [h]; simp
  ·rename_i h
   have h' : (x == y) = false := by simpa using h
   rw [ih, h', Bool.false_or]
theorem c106 {h : LH} {p : Option Addr} {n c : Nat} {l : List Int} (hl : Sl IntE 1 h.get p n l) (x : Int) : Pu Tryz.prog 126 #[.slice p n c, .int .i64 x] h (.int .i64 (indexF x 0 l)) := by
 refine w106 _ _ _ _ X0_ok ?_
 unfold n106
 have hn := hl.1
 have hb := hl.2.1
 refine t_loop (fun m vs h' => h' = h ∧ ∃ i : Nat, vs = [.int .i64 0, .int .i64 i] ∧ i ≤ n ∧ m = n - i ∧ indexF x 0 l = indexF x i (l.drop i)) ⟨rfl, 0, rfl, Nat.zero_le _, rfl, rfl⟩ ?_
 rintro Y m vs _ hY ⟨rfl, i, rfl, hi, rfl, hc⟩
 refine gZ ?_
 refine t_if (fun e1 => ?_) (fun e1 => ?_)
 ·obtain ⟨y, a, hx, ha, e2⟩ := hl.at (i := i) (by omega)
  unfold IntE at e2
  refine gZ ?_
  rw [drop_of hx, indexF] at hc
  refine t_cond (fun e3 => ?_) (fun e3 => ?_)
  ·refine gZ ?_
   refine t_ret ⟨?_, rfl⟩
   rw [hc, if_pos e3]
  ·refine t_again (hY (n - (i + 1)) _ _ (by omega) ⟨rfl, i + 1, ?_, by omega, rfl, ?_⟩)
   ·rw [wrap_id (by omega) (by omega)]; rfl
   ·rw [hc, if_neg (by simp [e3])]
 ·refine gZ ?_
  refine t_ret ⟨?_, rfl⟩
  rw [hc, List.drop_eq_nil_of_le (by omega)]; rfl
theorem c100 {h : LH} {p : Option Addr} {n c : Nat} {l : List Int} (hl : Sl IntE 1 h.get p n l) (x : Int) : Pu Tryz.prog 66 #[.slice p n c, .int .i64 x] h (.bool (l.contains x)) := by
 refine w100 _ _ _ _ X0_ok ?_
 unfold n100
 refine t_pu (c106 hl x) ?_
 refine gZ ?_
 refine t_ret ⟨?_, rfl⟩
 rw [indexF_ge]
theorem c35 {h : LH} {p q : Option Addr} {n c m d : Nat} {a b : List Int} (ha : Sl IntE 1 h.get p n a) (hb : Sl IntE 1 h.get q m b) : Pu Tryz.prog 22 #[.slice p n c, .slice q m d] h (.bool (decide (a = b))) := by
 refine w35 _ _ _ _ _ _ X0_ok ?_
 unfold n35
 have hn := ha.1
 have hm := hb.1
 have hbn := ha.2.1
 have hbm := hb.2.1
 refine t_cond (fun e => ?_) (fun e => ?_)
 ·have : a ≠ b := by rintro rfl; simp at e; omega
  exact t_ret ⟨by simp [this], rfl⟩
 have hnm : n = m := by simp at e; omega
 refine t_loop (fun mm vs h' => h = h' ∧ ∃ i : Nat, vs = [.bool false, .int .i64 i] ∧ i ≤ n ∧ mm = n - i ∧ a.take i = b.take i) ⟨rfl, 0, rfl, Nat.zero_le _, rfl, rfl⟩ ?_
 rintro Y mm vs _ hY ⟨rfl, i, rfl, hi, rfl, hc⟩
 refine gZ ?_
 refine t_if (fun e => ?_) (fun e => ?_)
 ·obtain ⟨x, a1, hx, ha1, e1⟩ := ha.at (i := i) (by omega)
  obtain ⟨y, a2, hy, ha2, e2⟩ := hb.at (i := i) (by omega)
  unfold IntE at e1 e2
  refine gZ ?_
  refine t_cond (fun b1 => ?_) (fun b1 => ?_)
  ·refine gZ ?_
   have : a ≠ b := by rintro rfl; rw [hx] at hy; cases hy; simp at b1
   exact t_ret ⟨by simp [this], rfl⟩
  ·have b2 : x = y := by simpa using b1
   refine t_again (hY (n - (i + 1)) _ _ (by omega) ⟨rfl, i + 1, ?_, by omega, rfl, ?_⟩)
   ·rw [wrap_id (by omega) (by omega)]; rfl
   ·rw [List.take_add_one, List.take_add_one, hc, hx, hy, b2]
 ·refine gZ ?_
  rw [List.take_of_length_le (by omega), List.take_of_length_le (by omega)] at hc
  exact t_ret ⟨by simp [hc], rfl⟩
theorem c109 {h : LH} (x : Int) : Pu Tryz.prog 254 #[.int .i64 x] h (.bool false) := by
 refine w109 _ X0_ok ?_
 unfold n109
 refine t_ret ⟨?_, rfl⟩
 simp
theorem c105 {h : LH} (x y : Int) : Pu Tryz.prog 214 #[.int .i64 x, .int .i64 y] h (.int .i64 (cmpI x y)) := by
 refine w105 _ _ X0_ok ?_
 unfold n105
 refine t_pu (c109 _) ?_
 refine gZ ?_
 refine t_pu (c109 _) ?_
 refine gZ ?_
 refine t_cond (fun e => by cases e) (fun _ => ?_)
 refine t_cond (fun e => by cases e) (fun _ => ?_)
 refine t_if (fun e => ?_) (fun e => ?_)
 ·refine t_ret ⟨?_, rfl⟩; rw [cmpI, if_pos e]
 ·refine t_if (fun e' => ?_) (fun e' => ?_) <;> refine t_ret ⟨?_, rfl⟩ <;> simp [cmpI, e, e']
theorem c97 {h : LH} {p q : Option Addr} {n c m d : Nat} {a b : List Int} (ha : Sl IntE 1 h.get p n a) (hb : Sl IntE 1 h.get q m b) : Pu Tryz.prog 166 #[.slice p n c, .slice q m d] h (.int .i64 (cmpL a b)) := by
 refine w97 _ _ _ _ _ _ X0_ok ?_
 unfold n97
 have hn := ha.1
 have hm := hb.1
 have hbn := ha.2.1
 have hbm := hb.2.1
 refine t_loop (fun mm vs h' => h = h' ∧ ∃ i : Nat, vs = [.int .i64 0, .int .i64 i] ∧ i ≤ n ∧ i ≤ m ∧ mm = n - i ∧ cmpL a b = cmpL (a.drop i) (b.drop i)) ⟨rfl, 0, rfl, Nat.zero_le _, Nat.zero_le _, rfl, rfl⟩ ?_
 rintro Y mm vs _ hY ⟨rfl, i, rfl, hi, hi', rfl, hc⟩
 refine gZ ?_
 refine t_if (fun e1 => ?_) (fun e1 => ?_)
 ·obtain ⟨x, a1, hx, ha1, e2⟩ := ha.at (i := i) (by omega)
  unfold IntE at e2
  rw [drop_of hx] at hc
  refine gZ ?_
  refine t_if (fun e3 => ?_) (fun e3 => ?_)
  ·refine gZ ?_
   rw [List.drop_eq_nil_of_le (show b.length ≤ i by omega), cmpL] at hc
   exact t_ret ⟨by rw [hc], rfl⟩
  ·obtain ⟨y, b1, hy, hb1, e4⟩ := hb.at (i := i) (by omega)
   unfold IntE at e4
   rw [drop_of hy, cmpL] at hc
   refine gZ ?_
   refine t_pu (c105 _ _) ?_
   refine gZ ?_
   refine t_cond (fun e5 => ?_) (fun e5 => ?_)
   ·refine gZ ?_
    rw [if_pos (by simpa using e5)] at hc
    exact t_ret ⟨by rw [hc], rfl⟩
   ·rw [if_neg (by simpa using e5)] at hc
    refine t_again (hY (n - (i + 1)) _ _ (by omega) ⟨rfl, i + 1, ?_, by omega, by omega, rfl, hc⟩)
    rw [wrap_id (by omega) (by omega)]; rfl
 ·refine gZ ?_
  rw [List.drop_eq_nil_of_le (show a.length ≤ i by omega)] at hc
  refine t_if (fun e3 => ?_) (fun e3 => ?_)
  ·obtain ⟨y, hy⟩ : ∃ y, b[i]? = some y := ⟨b[i]'(by omega), List.getElem?_eq_getElem (by omega)⟩
   rw [drop_of hy, cmpL] at hc
   exact t_ret ⟨by rw [hc], rfl⟩
  ·rw [List.drop_eq_nil_of_le (show b.length ≤ i by omega), cmpL] at hc
   exact t_ret ⟨by rw [hc], rfl⟩
theorem c2074 {h : LH} {p q : Option Addr} {n c m d : Nat} {a b : List Int} (ha : Sl IntE 1 h.get p n a) (hb : Sl IntE 1 h.get q m b) : Pu Tryz.prog 149 #[.slice p n c, .slice q m d] h (.int .i64 (fewerF a b)) := by
 refine w2074 _ _ _ _ _ _ X0_ok ?_
 unfold n2074
 have hn := ha.1
 have hm := hb.1
 have hbn := ha.2.1
 have hbm := hb.2.1
 refine t_cond (fun e => ?_) (fun e => ?_)
 ·have e' : a.length ≠ b.length := by simp at e; omega
  rw [wrap_id (by omega) (by omega)]
  refine t_ret ⟨?_, rfl⟩
  rw [fewerF, if_pos e', hn, hm]
 ·have e' : ¬ a.length ≠ b.length := by simp at e; omega
  refine t_pu (c97 ha hb) ?_
  refine gZ ?_
  refine t_ret ⟨?_, rfl⟩
  rw [fewerF, if_neg e']
end Go.Proofs.YtldamlcehbdkdaaGreatDoor.Tre
end
section
namespace Go.Proofs.YtldamlcehbdkdaaGreatDoor.Tre
open Go Go.TM Go.Proofs Go.TM.Tr
attribute [local irreducible] T.wp CV FWK
def landK (k : Nat) : Bool := !(Nat.beq k 4)
def sinceK (k : Nat) : Bool := Nat.beq k 4 || Nat.beq k 6
def givesK (k : Nat) : Bool := Nat.beq k 0 || (Nat.beq k 2 || Nat.beq k 5)
structure Kinds (h : Cells) : Prop where
 land : ∀ k, k < 7 → h.cell? ⟨1, k * 4 + 1, none⟩ = some (.bool (landK k))
 since : ∀ k, k < 7 → h.cell? ⟨1, k * 4 + 2, none⟩ = some (.bool (sinceK k))
 gives : ∀ k, k < 7 → h.cell? ⟨1, k * 4 + 3, none⟩ = some (.func (.func (if givesK k then 308 else 309)) #[] #[])
 b0 : h.cell? ⟨3, 0, none⟩ = some (.bool true)
 b1 : h.cell? ⟨3, 1, none⟩ = some (.bool false)
theorem Kinds.rd {h h' : Cells} (hl : Rd h h') (k : Kinds h) : Kinds h' := ⟨fun i hi => hl _ _ (k.land i hi), fun i hi => hl _ _ (k.since i hi), fun i hi => hl _ _ (k.gives i hi), hl _ _ k.b0, hl _ _ k.b1⟩
theorem Kinds.le {h h' : Cells} (hl : h.le h') (k : Kinds h) : Kinds h' := k.rd (Rd.of_le hl)
theorem kind_nat {k : Int} (h : inB k 0 6 = true) : ∃ n : Nat, k = n ∧ n < 7 := by
 unfold inB at h
 simp at h
 exact ⟨k.toNat, by omega, by omega⟩
theorem land_int {n : Nat} (hn : n < 7) : landK n = decide ((n : Int) ≠ 4) := by
 match n, hn with
 | 0, _ | 1, _ | 2, _ | 3, _ | 4, _ | 5, _ | 6, _ => decide
theorem since_int {n : Nat} (hn : n < 7) : sinceK n = decide ((n : Int) = 4 ∨ (n : Int) = 6) := by
 match n, hn with
 | 0, _ | 1, _ | 2, _ | 3, _ | 4, _ | 5, _ | 6, _ => decide
theorem Kinds.landAt {h : Cells} (k : Kinds h) {n : Nat} (hn : n < 7) : h.cell? (((Addr.add ⟨1, 0, none⟩ ((n : Int).toNat * 4)).add 1).add 0) = some (.bool (landK n)) := by
 rw [add_plain, add_plain, add_plain]; simpa using k.land n hn
theorem Kinds.landAt' {h : Cells} (k : Kinds h) {n : Nat} (hn : n < 7) : h.cell? ((((Addr.add ⟨1, 0, none⟩ ((n : Int).toNat * 4)).add 1).add 0).add 0) = some (.bool (landK n)) := by
 rw [add_plain, add_plain, add_plain, add_plain]; simpa using k.land n hn
theorem Kinds.sinceAt {h : Cells} (k : Kinds h) {n : Nat} (hn : n < 7) : h.cell? (((Addr.add ⟨1, 0, none⟩ ((n : Int).toNat * 4)).add 1).add 1) = some (.bool (sinceK n)) := by
 rw [add_plain, add_plain, add_plain]
 have := k.since n hn
 rw [show n * 4 + 2 = 0 + (n : Int).toNat * 4 + 1 + 1 by simp] at this
 exact this
theorem Kinds.givesAt {h : Cells} (k : Kinds h) {n : Nat} (hn : n < 7) : h.cell? ((Addr.add ⟨1, 0, none⟩ ((n : Int).toNat * 4)).add 3) = some (.func (.func (if givesK n then 308 else 309)) #[] #[]) := by
 rw [add_plain, add_plain]; simpa using k.gives n hn
theorem Kinds.bound0 {h : Cells} (k : Kinds h) : h.cell? (Addr.add ⟨3, 0, none⟩ 0) = some (.bool true) := by rw [add_plain]; exact k.b0
theorem Kinds.bound1 {h : Cells} (k : Kinds h) : h.cell? (Addr.add ⟨3, 0, none⟩ 1) = some (.bool false) := by rw [add_plain]; exact k.b1
theorem itemsT_run {l : List Int} {b : Int} {i : Nat} {x : Int} {y : Int} (hx : l[i]? = some x) (hy : 0 < i → l[i - 1]? = some y) : Tr.stepT l b i x = if inB x 0 (b - 1) = false then 6 else if 0 < i ∧ x ≤ y then 7 else 0 := by
 unfold Tr.stepT
 by_cases h0 : 0 < i
 ·simp [List.getD, hy h0]
 ·simp [h0]
theorem c2054 {h : LH} (hk : Kinds h.get) {f : TC} {x : TF} {e : Ev} {q : Option Addr} {m c : Nat} (hl : IsI (x.lands - 1)) (hi : IsI (x.items - 1)) (hs : Sl IntE 1 h.get q m e.items) :
  Pu Tryz.prog 262 #[treatyV f x, .agg #[.int .i64 e.kind, .int .i64 e.day, .int .i64 e.land, .slice q m c, .int .i64 e.since]] h (.int .i64 (eventT x e)) := by
 refine w2054 _ _ _ _ _ _ _ _ _ _ _ _ _ _ _ _ X0_ok ?_
 unfold n2054
 have hm := hs.1
 have hb := hs.2.1
 refine t_blk (fun vs h' => vs = [.bool (!(inB e.kind 0 6 && (dayB e.day && dayB e.since)))] ∧ h = h') ?_ ?_
 ·refine t_blk (fun vs h' => vs = [.bool (!(inB e.kind 0 6))] ∧ h = h') ?_ ?_
  ·refine t_pu (c2052 _ _ _) ?_
   refine gZ ?_
   exact t_again ⟨rfl, rfl⟩
  ·rintro vs _ ⟨rfl, rfl⟩
   refine gZ ?_
   refine t_cond (fun b => ?_) (fun b => ?_)
   ·have : inB e.kind 0 6 = false := by simpa using b
    exact t_again ⟨by rw [this]; rfl, rfl⟩
   ·have b' : inB e.kind 0 6 = true := by simpa using b
    refine t_blk (fun vs h' => vs = [.bool (!(dayB e.day))] ∧ h = h') ?_ ?_
    ·refine t_pu (c2053 _) ?_
     refine gZ ?_
     exact t_again ⟨rfl, rfl⟩
    ·rintro vs _ ⟨rfl, rfl⟩
     refine gZ ?_
     refine t_cond (fun d => ?_) (fun d => ?_)
     ·have : dayB e.day = false := by simpa using d
      exact t_again ⟨by rw [this, b']; rfl, rfl⟩
     ·have d' : dayB e.day = true := by simpa using d
      refine t_pu (c2053 _) ?_
      refine gZ ?_
      exact t_again ⟨by rw [b', d']; rfl, rfl⟩
 rintro vs _ ⟨rfl, rfl⟩
 refine gZ ?_
 refine t_cond (fun b => ?_) (fun b => ?_)
 ·refine t_ret ⟨?_, rfl⟩
  rw [eventT, if_pos (by simpa only [Bool.not_eq_true'] using b)]
 have b' : (inB e.kind 0 6 && (dayB e.day && dayB e.since)) = true := by simpa using b
 have hev1 : eventT x e = if inB e.land 0 (x.lands - 1) = false then 6 else if itemsT e.items x.items ≠ 0 then itemsT e.items x.items else if (e.kind = 4 ∧ e.land ≠ 0) ∨ (e.kind ≠ 4 ∧ e.kind ≠ 6 ∧ e.since ≠ 0) then 1 else if e.since > e.day then 7 else 0 := by
  rw [eventT, if_neg (by rw [b']; simp)]
 rw [wrap_id hl.1 hl.2]
 refine t_pu (c2052 _ _ _) ?_
 refine gZ ?_
 refine t_cond (fun d => ?_) (fun d => ?_)
 ·refine t_ret ⟨?_, rfl⟩
  rw [hev1, if_pos (by simpa using d)]
 have hev2 : eventT x e = if itemsT e.items x.items ≠ 0 then itemsT e.items x.items else if (e.kind = 4 ∧ e.land ≠ 0) ∨ (e.kind ≠ 4 ∧ e.kind ≠ 6 ∧ e.since ≠ 0) then 1 else if e.since > e.day then 7 else 0 := by
  rw [hev1, if_neg (by simp at d; simp [d])]
 have hkind : inB e.kind 0 6 = true := by simp at b'; exact b'.1
 obtain ⟨kn, hkn, hk7⟩ := kind_nat hkind
 refine t_loop (fun mm vs h' => h = h' ∧ ∃ i : Nat, vs = [.int .i64 0, .int .i64 i] ∧ i ≤ m ∧ mm = m - i ∧ itemsT e.items x.items = firstT (Tr.stepT e.items x.items) i (e.items.drop i)) ⟨rfl, 0, rfl, Nat.zero_le _, rfl, rfl⟩ ?_
 rintro Y mm vs _ hY ⟨rfl, i, rfl, hi', rfl, hc⟩
 refine gZ ?_
 refine t_if (fun e1 => ?_) (fun e1 => ?_)
 ·obtain ⟨y, a, hy, ha, e2⟩ := hs.at (i := i) (by omega)
  unfold IntE at e2
  rw [drop_of hy, firstT] at hc
  refine gZ ?_
  rw [wrap_id hi.1 hi.2]
  refine t_pu (c2052 _ _ _) ?_
  refine gZ ?_
  have next : Tr.stepT e.items x.items i y = 0 → Y [.int .i64 0, .int .i64 (IntKind.wrap .i64 ((i : Int) + 1))] h := by
   intro hz
   rw [if_neg (by rw [hz]; simp)] at hc
   refine hY (m - (i + 1)) _ _ (by omega) ⟨rfl, i + 1, ?_, by omega, rfl, hc⟩
   rw [wrap_id (by omega) (by omega)]; rfl
  have stop : ∀ z : Int, z ≠ 0 → Tr.stepT e.items x.items i y = z → eventT x e = z := by
   intro z hz hr
   rw [hr, if_pos hz] at hc
   rw [hev2, hc, if_pos hz]
  refine t_cond (fun d1 => ?_) (fun d1 => ?_)
  ·refine gZ ?_
   refine t_ret ⟨?_, rfl⟩
   rw [stop 6 (by decide) (by rw [Tr.stepT, if_pos (by simpa using d1)])]
  have d1' : ¬ inB y 0 (x.items - 1) = false := by simp at d1; simp [d1]
  refine t_if (fun d2 => ?_) (fun d2 => ?_)
  ·obtain ⟨z, a2, hz, ha2, e3⟩ := hs.at (i := i - 1) (by omega)
   unfold IntE at e3
   rw [ha] at ha2; cases ha2
   have hwi : IntKind.wrap .i64 ((i : Int) - 1) = ((i - 1 : Nat) : Int) := by rw [wrap_id (by omega) (by omega)]; omega
   have hrun := itemsT_run (b := x.items) hy (fun _ => hz)
   rw [hwi]
   refine gZ ?_
   refine t_if (fun d3 => ?_) (fun d3 => ?_)
   ·refine gZ ?_
    refine t_ret ⟨?_, rfl⟩
    rw [stop 7 (by decide) (by rw [hrun, if_neg d1', if_pos ⟨by omega, d3⟩])]
   ·exact t_again (next (by rw [hrun, if_neg d1', if_neg (by omega)]))
  ·exact t_again (next (by rw [Tr.stepT, if_neg d1', if_neg (by omega)]))
 ·refine gZ ?_
  rw [List.drop_eq_nil_of_le (by omega), firstT] at hc
  have hev3 : eventT x e = if (e.kind = 4 ∧ e.land ≠ 0) ∨ (e.kind ≠ 4 ∧ e.kind ≠ 6 ∧ e.since ≠ 0) then 1 else if e.since > e.day then 7 else 0 := by
   rw [hev2, if_neg (by rw [hc]; simp)]
  rw [hkn]
  have g1 := hk.landAt' hk7
  have g2 := hk.landAt hk7
  have g3 := hk.sinceAt hk7
  have g4 := hk.bound0
  have g5 := hk.bound1
  have hland := land_int hk7
  have hsince := since_int hk7
  refine gZ ?_
  refine t_blk (fun vs h' => vs = [.bool (decide ((e.kind = 4 ∧ e.land ≠ 0) ∨ (e.kind ≠ 4 ∧ e.kind ≠ 6 ∧ e.since ≠ 0)))] ∧ h = h') ?_ ?_
  ·refine t_blk (fun vs h' => vs = [.bool (decide (e.kind ≠ 4 ∧ e.kind ≠ 6 ∧ e.since ≠ 0))] ∧ h = h') ?_ ?_
   ·refine gZ ?_
    refine t_eqBB twoUses gUses ?_
    refine gZ ?_
    refine t_cond (fun d3 => ?_) (fun d3 => ?_)
    ·refine t_again ⟨?_, rfl⟩
     rw [hland, hsince] at d3
     simp at d3
     congr 2
     rw [hkn]
     by_cases e0 : e.since = 0 <;> simp [e0, d3] <;> omega
    ·refine t_again ⟨?_, rfl⟩
     rw [hland, hsince] at d3
     simp at d3
     congr 2
     rw [hkn]
     simp
     omega
   ·rintro vs _ ⟨rfl, rfl⟩
    refine gZ ?_
    refine t_cond (fun d3 => ?_) (fun d3 => ?_)
    ·refine t_again ⟨?_, rfl⟩
     simp at d3
     congr 2
     simp [d3]
    ·simp at d3
     refine t_cond (fun d4 => ?_) (fun d4 => ?_)
     ·rw [hland] at d4
      simp at d4
      refine t_again ⟨?_, rfl⟩
      congr 2
      rw [hkn, d4]
      simp
      by_cases e0 : e.land = 0 <;> simp [e0]
     ·rw [hland] at d4
      simp at d4
      refine t_again ⟨?_, rfl⟩
      congr 2
      simp
      rw [hkn] at d3 ⊢
      constructor
      ·omega
      ·intro _ h6
       exact d3 (by omega) h6
  rintro vs _ ⟨rfl, rfl⟩
  refine gZ ?_
  refine t_cond (fun d5 => ?_) (fun d5 => ?_)
  ·refine t_ret ⟨?_, rfl⟩
   rw [hev3, if_pos (by simpa using d5)]
  ·rw [if_neg (by simpa using d5)] at hev3
   refine t_if (fun d6 => ?_) (fun d6 => ?_)
   ·refine t_ret ⟨?_, rfl⟩
    rw [hev3, if_pos d6]
   ·refine t_ret ⟨?_, rfl⟩
    rw [hev3, if_neg d6]
end Go.Proofs.YtldamlcehbdkdaaGreatDoor.Tre
end
section
namespace Go.TM
open Go
section
variable {H : Type} {enc : TypeId × Value → H} {P : Program} {W : World} {base : Nat} {sp : Nat → Bool} {held : Bool} {fuel : Nat} {t : TypeId} {cs : List Value} {x : DataW H × List MemPlace}
structure TreatyTy (P : Program) (tI tIs tK tEv tEvs tFile : TypeId) : Prop where
 int : P.underlying tI = some (.int .i64)
 int1 : P.cellsOf tI = 1
 kind : P.underlying tK = some (.int .i64)
 kind1 : P.cellsOf tK = 1
 bytes : 0 < P.bytesOf tI ∧ 0 < P.bytesOf tEv
 ints : P.underlying tIs = some (.slice tI)
 ints1 : P.cellsOf tIs = 1
 ev : FieldsAre P tEv [(tK, 0), (tI, 1), (tI, 2), (tIs, 3), (tI, 4)]
 ev5 : P.cellsOf tEv = 5
 evs : P.underlying tEvs = some (.slice tEv)
 evs1 : P.cellsOf tEvs = 1
 file : FieldsAre P tFile [(tI, 0), (tI, 1), (tI, 2), (tI, 3), (tI, 4), (tI, 5), (tEvs, 6)]
 file7 : P.cellsOf tFile = 7
variable {tI tIs tK tEv tEvs tFile : TypeId}
theorem t_ints (T : TreatyTy P tI tIs tK tEv tEvs tFile) (hz : Light P tIs x.1) (h : DataW.trod enc P W base sp held fuel tIs cs = some x) :
  ∃ p n c l, cs = [.slice p n c] ∧ n ≤ c ∧ Sl IntE 1 (getW W) p n l := by
 refine sl_of_trodR T.ints T.int1 T.bytes.1 hz ?_ h
 intro n a cs y _ hc hy _
 obtain ⟨z, rfl, _, _⟩ := DataW.trod_int T.int hy
 exact ⟨z, hc 0 _ rfl⟩
theorem ev_cells (T : TreatyTy P tI tIs tK tEv tEvs tFile) (hl : cs.length = 5) (hz : Light P tEv x.1) (h : DataW.trod enc P W base sp held fuel tEv cs = some x) :
  ∃ q m c e, cs = [.int .i64 e.kind, .int .i64 e.day, .int .i64 e.land, .slice q m c, .int .i64 e.since] ∧ m ≤ c ∧ Sl IntE 1 (getW W) q m (Tr.Ev.items e) := by
 obtain ⟨_, m, hf⟩ := field_of T.ev hz h
 match cs, hl with
 | [c0, c1, c2, c3, c4], _ =>
  obtain ⟨y0, h0, zh0⟩ := hf 0 tK 0 rfl
  obtain ⟨y1, h1, zh1⟩ := hf 1 tI 1 rfl
  obtain ⟨y2, h2, zh2⟩ := hf 2 tI 2 rfl
  obtain ⟨y3, h3, zh3⟩ := hf 3 tIs 3 rfl
  obtain ⟨y4, h4, zh4⟩ := hf 4 tI 4 rfl
  rw [T.kind1] at h0; rw [T.int1] at h1 h2 h4; rw [T.ints1] at h3
  obtain ⟨a0, e0, _, _⟩ := DataW.trod_int T.kind h0
  obtain ⟨a1, e1, _, _⟩ := DataW.trod_int T.int h1
  obtain ⟨a2, e2, _, _⟩ := DataW.trod_int T.int h2
  obtain ⟨p, k, c, l, e3, hk, s⟩ := t_ints T zh3 h3
  obtain ⟨a4, e4, _, _⟩ := DataW.trod_int T.int h4
  simp at e0 e1 e2 e3 e4
  subst e0; subst e1; subst e2; subst e3; subst e4
  exact ⟨p, k, c, ⟨a0, a1, a2, l, a4⟩, rfl, hk, s⟩
theorem evs_of_trod (T : TreatyTy P tI tIs tK tEv tEvs tFile) (hz : Light P tEvs x.1) (h : DataW.trod enc P W base sp held fuel tEvs cs = some x) :
  ∃ p n c l, cs = [.slice p n c] ∧ n ≤ c ∧ Sl EventE 5 (getW W) p n l := by
 refine sl_of_trodR T.evs T.ev5 T.bytes.2 hz ?_ h
 intro n a cs y hl hc hy hz
 obtain ⟨q, m, c, e, rfl, hk, s⟩ := ev_cells T hl hz hy
 exact ⟨e, hc 0 _ rfl, hc 1 _ rfl, hc 2 _ rfl, ⟨q, m, c, hc 3 _ rfl, hk, s⟩, hc 4 _ rfl⟩
theorem treaty_of_trod (T : TreatyTy P tI tIs tK tEv tEvs tFile) (hz : Light P tFile x.1) (h : DataW.trod enc P W base sp held fuel tFile cs = some x) :
  ∃ f y, cs = [.int .i64 (Tr.TF.items y), .int .i64 y.lands, .int .i64 y.start, .int .i64 y.depend, .int .i64 y.refuse, .int .i64 y.turn, .slice (TC.p f) f.n f.c] ∧ TreatyR (getW W) f y := by
 obtain ⟨hl, m, hf⟩ := field_of T.file hz h
 rw [T.file7] at hl
 match cs, hl with
 | [c0, c1, c2, c3, c4, c5, c6], _ =>
  obtain ⟨y0, h0, zh0⟩ := hf 0 tI 0 rfl
  obtain ⟨y1, h1, zh1⟩ := hf 1 tI 1 rfl
  obtain ⟨y2, h2, zh2⟩ := hf 2 tI 2 rfl
  obtain ⟨y3, h3, zh3⟩ := hf 3 tI 3 rfl
  obtain ⟨y4, h4, zh4⟩ := hf 4 tI 4 rfl
  obtain ⟨y5, h5, zh5⟩ := hf 5 tI 5 rfl
  obtain ⟨y6, h6, zh6⟩ := hf 6 tEvs 6 rfl
  rw [T.int1] at h0 h1 h2 h3 h4 h5; rw [T.evs1] at h6
  obtain ⟨a0, e0, _, _⟩ := DataW.trod_int T.int h0
  obtain ⟨a1, e1, _, _⟩ := DataW.trod_int T.int h1
  obtain ⟨a2, e2, _, _⟩ := DataW.trod_int T.int h2
  obtain ⟨a3, e3, _, _⟩ := DataW.trod_int T.int h3
  obtain ⟨a4, e4, _, _⟩ := DataW.trod_int T.int h4
  obtain ⟨a5, e5, _, _⟩ := DataW.trod_int T.int h5
  obtain ⟨p, n, c, l, e6, hk, s⟩ := evs_of_trod T zh6 h6
  simp at e0 e1 e2 e3 e4 e5 e6
  subst e0; subst e1; subst e2; subst e3; subst e4; subst e5; subst e6
  exact ⟨⟨p, n, c⟩, ⟨a0, a1, a2, a3, a4, a5, l⟩, rfl, hk, s⟩
theorem treaty_arg (T : TreatyTy P tI tIs tK tEv tEvs tFile) {r : Reach} {b0 : Nat} {v : Value} {d : DataW H} {ps : List MemPlace}
  (hv : Value.okWide P W r b0 tFile v) (hz : Light P tFile d) (h : DataW.Trod enc P W base sp held tFile v d ps) : ∃ f y, v = treatyV f y ∧ TreatyR (getW W) f y := by
 obtain ⟨fs, hu, _⟩ := T.file
 obtain ⟨cs, rfl, _⟩ := WideShapes.okWide_struct hu hv
 obtain ⟨fuel, hf⟩ := h
 obtain ⟨f, y, e, hr⟩ := treaty_of_trod T hz hf
 exact ⟨f, y, agg_of e, hr⟩
end
end Go.TM
end
section
namespace Go.TM
open Go Go.Conc Go.ChangeShapes Go.RowKit
theorem trodAll6 {H : Type} {enc : TypeId × Value → H} {P : Program} {w : World} {base : Nat} {spare : Nat → Bool} {held : Bool} {t0 t1 t2 t3 t4 t5 : TypeId} {args : Array Value} {ds : List (DataW H)} {ps : List MemPlace} (h : DataW.TrodAll enc P w base spare held [t0, t1, t2, t3, t4, t5] args.toList ds ps) :
  ∃ v0 v1 v2 v3 v4 v5 d0 d1 d2 d3 d4 d5 p0 p1 p2 p3 p4 p5, args = #[v0, v1, v2, v3, v4, v5] ∧ ds = [d0, d1, d2, d3, d4, d5] ∧ ps = p0 ++ p1 ++ p2 ++ p3 ++ p4 ++ p5 ∧ DataW.Trod enc P w base spare held t0 v0 d0 p0 ∧ DataW.Trod enc P w base spare held t1 v1 d1 p1 ∧ DataW.Trod enc P w base spare held t2 v2 d2 p2 ∧ DataW.Trod enc P w base spare held t3 v3 d3 p3 ∧ DataW.Trod enc P w base spare held t4 v4 d4 p4 ∧ DataW.Trod enc P w base spare held t5 v5 d5 p5 := by
 obtain ⟨v0, vs0, d0, ds0, p0, q0, hargs, rfl, rfl, hd0, hr0⟩ := trodAll_cons h
 obtain ⟨v1, vs1, d1, ds1, p1, q1, rfl, rfl, rfl, hd1, hr1⟩ := trodAll_cons hr0
 obtain ⟨v2, vs2, d2, ds2, p2, q2, rfl, rfl, rfl, hd2, hr2⟩ := trodAll_cons hr1
 obtain ⟨v3, vs3, d3, ds3, p3, q3, rfl, rfl, rfl, hd3, hr3⟩ := trodAll_cons hr2
 obtain ⟨v4, vs4, d4, ds4, p4, q4, rfl, rfl, rfl, hd4, hr4⟩ := trodAll_cons hr3
 obtain ⟨v5, vs5, d5, ds5, p5, q5, rfl, rfl, rfl, hd5, hr5⟩ := trodAll_cons hr4
 obtain ⟨rfl, rfl, rfl⟩ := trodAll_nil hr5
 exact ⟨v0, v1, v2, v3, v4, v5, d0, d1, d2, d3, d4, d5, p0, p1, p2, p3, p4, p5, by cases args; simp_all, rfl, by simp, hd0, hd1, hd2, hd3, hd4, hd5⟩
end Go.TM
end
section
namespace Go.Proofs.YtldamlcehbdkdaaGreatDoor
open Go Go.TM Go.Proofs Go.ChangeShapes Go.WideShapes Go.RowKit
set_option maxRecDepth 100000
theorem UT : UseTy Tryz.prog 3 30 29 22 32 23 34 24 26 where
 int := by kernel_rfl
 int1 := by kernel_rfl
 bytes := ⟨of_decide_eq_true (by kernel_rfl), of_decide_eq_true (by kernel_rfl), of_decide_eq_true (by kernel_rfl), of_decide_eq_true (by kernel_rfl)⟩
 ints := by kernel_rfl
 ints1 := by kernel_rfl
 span := ⟨_, Tryz.underlying29, rfl⟩
 span2 := by kernel_rfl
 spans := by kernel_rfl
 spans1 := by kernel_rfl
 paper := ⟨_, Tryz.underlying32, rfl⟩
 paper4 := by kernel_rfl
 papers := by kernel_rfl
 papers1 := by kernel_rfl
 req := ⟨_, Tryz.underlying34, rfl⟩
 req3 := by kernel_rfl
 reqs := by kernel_rfl
 reqs1 := by kernel_rfl
 file := ⟨_, Tryz.underlying26, rfl⟩
 file7 := by kernel_rfl
def partsN : String := "touchmark/use.parts"
theorem gParts : Tryz.prog.globalNamed partsN = some 2 := by kernel_rfl
theorem tParts : (Tryz.prog.globals[2]?).map (·.type) = some 326 := by kernel_rfl
theorem cells98 : Tryz.prog.cellsOf 326 = 4 := by kernel_rfl
theorem array4 {α : Type} : ∀ {l : List α}, l.length = 4 → ∃ a b c d, l = [a, b, c, d]
 | [a, b, c, d], _ => ⟨a, b, c, d, rfl⟩
theorem parts_of_laid {l : List (String × DataW Unit)} {W : World} (h : laidMetH Tryz.prog l W) (hm : (partsN, Rows.laid_touchmark_use_parts) ∈ l) : Parts (getW W) := by
 obtain ⟨g, t, cs, fuel, p, hg, ht, hv, hd⟩ := laidMetH.funcs h (n := partsN) hm
 obtain rfl := Option.some.inj (gParts.symm.trans hg)
 obtain rfl := Option.some.inj (tParts.symm.trans ht)
 obtain ⟨xs, m, _, hx, hl, hn, hel⟩ := DataW.trod_array Tryz.underlying326 hd
 rw [cells98] at hl
 have hcell : ∀ j : Nat, W.cell? ⟨2, j, none⟩ = cs[j]? := World.var?_cell gParts hv
 obtain ⟨x0, x1, x2, x3, rfl⟩ := array4 hn
 obtain ⟨v0, v1, v2, v3, hc⟩ := array4 hl
 have e1 : Tryz.prog.cellsOf 196 = 1 := by kernel_rfl
 have ec : ∀ j : Nat, cs[j]? = [v0, v1, v2, v3][j]? := fun j => by rw [← hc]; simp
 simp only [Prod.mk.injEq] at hx
 obtain ⟨hx, _⟩ := hx
 simp only [DataW.funcsOut, DataW.funcsOutAll, List.map_cons, List.map_nil, DataW.agg.injEq, List.cons.injEq, beq_self_eq_true, if_true, and_true] at hx
 obtain ⟨h0, h1, h2, h3⟩ := hx
 have k0 := hel 0 (by decide)
 have k1 := hel 1 (by decide)
 have k2 := hel 2 (by decide)
 have k3 := hel 3 (by decide)
 rw [hc, e1] at k0 k1 k2 k3
 obtain ⟨d0, q0⟩ := x0; obtain ⟨d1, q1⟩ := x1; obtain ⟨d2, q2⟩ := x2; obtain ⟨d3, q3⟩ := x3
 simp only at h0 h1 h2 h3
 subst h0; subst h1; subst h2; subst h3
 have r0 : v0 = .func (.func 310) #[] #[] := func_of_trod (P := Tryz.prog) Tryz.underlying196 (by kernel_rfl) k0
 have r1 : v1 = .func (.func 311) #[] #[] := func_of_trod (P := Tryz.prog) Tryz.underlying196 (by kernel_rfl) k1
 have r2 : v2 = .func (.func 312) #[] #[] := func_of_trod (P := Tryz.prog) Tryz.underlying196 (by kernel_rfl) k2
 have r3 : v3 = .func (.func 313) #[] #[] := func_of_trod (P := Tryz.prog) Tryz.underlying196 (by kernel_rfl) k3
 intro j hj
 refine getW_cell ?_
 rw [hcell, ec]
 match j, hj with
 | 0, _ => simp [r0]
 | 1, _ => simp [r1]
 | 2, _ => simp [r2]
 | 3, _ => simp [r3]
def noUse : Value := .agg #[.int .i64 0, .int .i64 0, .int .i64 0, .int .i64 0, .slice none 0 0, .slice none 0 0, .slice none 0 0]
end Go.Proofs.YtldamlcehbdkdaaGreatDoor
namespace Go.Proofs.YtldamlcehbdkdaaGreatDoor.Tre
open Go Go.TM Go.Proofs Go.ChangeShapes Go.WideShapes Go.RowKit
set_option maxRecDepth 100000
theorem own : ownKnob Tryz.prog.godebug = none := by kernel_rfl
theorem lo : laidOutB Tryz.prog = true := by kernel_rfl
theorem TT : TreatyTy Tryz.prog 3 30 89 91 80 82 where
 int := by kernel_rfl
 int1 := by kernel_rfl
 kind := by kernel_rfl
 kind1 := by kernel_rfl
 bytes := ⟨of_decide_eq_true (by kernel_rfl), of_decide_eq_true (by kernel_rfl)⟩
 ints := by kernel_rfl
 ints1 := by kernel_rfl
 ev := ⟨_, Tryz.underlying91, rfl⟩
 ev5 := by kernel_rfl
 evs := by kernel_rfl
 evs1 := by kernel_rfl
 file := ⟨_, Tryz.underlying82, rfl⟩
 file7 := by kernel_rfl
theorem und57 : Tryz.prog.underlying 27 = some (.int .u16) := by kernel_rfl
theorem und5 : Tryz.prog.underlying 5 = some (.int .u8) := by kernel_rfl
theorem wf_u16 {n : Int} (h : (Lit.int .u16 n).wf = true) : 0 ≤ n ∧ n ≤ 65535 := by simpa [Lit.wf, IntKind.min, IntKind.max, IntKind.signed, IntKind.bits] using h
theorem wf_u8 {n : Int} (h : (Lit.int .u8 n).wf = true) : 0 ≤ n ∧ n ≤ 255 := by simpa [Lit.wf, IntKind.min, IntKind.max, IntKind.signed, IntKind.bits] using h
def kindsN : String := "touchmark/treaty.kinds"
def boundN : String := "touchmark/treaty.bound"
theorem gKinds : Tryz.prog.globalNamed kindsN = some 1 := by kernel_rfl
theorem gBound : Tryz.prog.globalNamed boundN = some 3 := by kernel_rfl
theorem tKinds : (Tryz.prog.globals[1]?).map (·.type) = some 311 := by kernel_rfl
theorem tBound : (Tryz.prog.globals[3]?).map (·.type) = some 308 := by kernel_rfl
theorem uses_of {H : Type} {enc : TypeId × Value → H} {W : World} {sp : Nat → Bool} {held : Bool} {fuel : Nat} {cs : List Value} {x : DataW H × List MemPlace} {a b : Bool} (h : DataW.trod enc Tryz.prog W 0 sp held fuel 308 cs = some x) (hx : x.1 = .agg [.lit (.bool a), .lit (.bool b)]) : cs = [.bool a, .bool b] := by
 obtain ⟨ys, n, _, rfl, hl, hlen, hf⟩ := DataW.trod_struct Tryz.underlying308 h
 rw [show Tryz.prog.cellsOf 308 = 2 by kernel_rfl] at hl
 match cs, hl, ys, hlen with
 | [v0, v1], _, [y0, y1], _ =>
  have h0 : DataW.trod enc Tryz.prog W 0 sp held n 4 (([v0, v1].drop 0).take (Tryz.prog.cellsOf 4)) = some y0 := hf 0 _ rfl
  have h1 : DataW.trod enc Tryz.prog W 0 sp held n 4 (([v0, v1].drop 1).take (Tryz.prog.cellsOf 4)) = some y1 := hf 1 _ rfl
  rw [show Tryz.prog.cellsOf 4 = 1 by kernel_rfl] at h0 h1
  obtain ⟨b0, e0, g0⟩ := DataW.trod_bool Tryz.underlying4 h0
  obtain ⟨b1, e1, g1⟩ := DataW.trod_bool Tryz.underlying4 h1
  simp at e0 e1
  simp [g0, g1] at hx
  rw [e0, e1, hx.1, hx.2]
theorem kind_of {W : World} {sp : Nat → Bool} {fuel : Nat} {cs : List Value} {x : DataW (List UInt8) × List MemPlace} {s : List UInt8} {a b : Bool} {c : UInt8} {r : List UInt8} {f0 : FuncId} (hone : ((List.range Tryz.prog.funcs.size).filter fun f => (Tryz.prog.funcs[f]?).any (·.name.toUTF8.data.toList == c :: r)) = [f0])
  (h : DataW.trod (funcToken Tryz.prog) Tryz.prog W 0 sp true fuel 310 cs = some x) (hx : x.1 = .agg [.lit (.string s), .agg [.lit (.bool a), .lit (.bool b)], .held (c :: r)]) : ∃ v0, cs = [v0, .bool a, .bool b, .func (.func f0) #[] #[]] := by
 obtain ⟨ys, n, _, rfl, hl, hlen, hf⟩ := DataW.trod_struct Tryz.underlying310 h
 rw [show Tryz.prog.cellsOf 310 = 4 by kernel_rfl] at hl
 match cs, hl, ys, hlen with
 | [v0, v1, v2, v3], _, [y0, y1, y2], _ =>
  have h1 : DataW.trod (funcToken Tryz.prog) Tryz.prog W 0 sp true n 308 (([v0, v1, v2, v3].drop 1).take (Tryz.prog.cellsOf 308)) = some y1 := hf 1 _ rfl
  have h2 : DataW.trod (funcToken Tryz.prog) Tryz.prog W 0 sp true n 42 (([v0, v1, v2, v3].drop 3).take (Tryz.prog.cellsOf 42)) = some y2 := hf 2 _ rfl
  rw [show Tryz.prog.cellsOf 308 = 2 by kernel_rfl] at h1
  rw [show Tryz.prog.cellsOf 42 = 1 by kernel_rfl] at h2
  simp only [List.map_cons, List.map_nil, DataW.agg.injEq, List.cons.injEq, and_true] at hx
  obtain ⟨_, hx1, hx2⟩ := hx
  obtain ⟨d1, q1⟩ := y1
  obtain ⟨d2, q2⟩ := y2
  simp only at hx1 hx2
  subst hx1; subst hx2
  have e1 := uses_of h1 rfl
  simp at e1
  rw [e1.1, e1.2]
  refine ⟨v0, ?_⟩
  have e2 : v3 = .func (.func f0) #[] #[] := Go.func_of_trod (P := Tryz.prog) Tryz.underlying42 hone h2
  rw [e2]
theorem yes_one : ((List.range Tryz.prog.funcs.size).filter fun f => (Tryz.prog.funcs[f]?).any (·.name.toUTF8.data.toList == [116, 111, 117, 99, 104, 109, 97, 114, 107, 47, 116, 114, 101, 97, 116, 121, 46, 121, 101, 115])) = [308] := by kernel_rfl
theorem no_one : ((List.range Tryz.prog.funcs.size).filter fun f => (Tryz.prog.funcs[f]?).any (·.name.toUTF8.data.toList == [116, 111, 117, 99, 104, 109, 97, 114, 107, 47, 116, 114, 101, 97, 116, 121, 46, 110, 111])) = [309] := by kernel_rfl
theorem array7 {α : Type} : ∀ {l : List α}, l.length = 7 → ∃ a b c d e f g, l = [a, b, c, d, e, f, g]
 | [a, b, c, d, e, f, g], _ => ⟨a, b, c, d, e, f, g, rfl⟩
theorem four_cells {cs : List Value} {i : Nat} {v0 v1 v2 v3 : Value} (h : (cs.drop (i * 4)).take 4 = [v0, v1, v2, v3]) : cs[i * 4 + 1]? = some v1 ∧ cs[i * 4 + 2]? = some v2 ∧ cs[i * 4 + 3]? = some v3 := by
 have key : ∀ j, j < 4 → cs[i * 4 + j]? = [v0, v1, v2, v3][j]? := by
  intro j hj
  rw [← h, List.getElem?_take, if_pos hj, List.getElem?_drop]
 exact ⟨key 1 (by omega), key 2 (by omega), key 3 (by omega)⟩
theorem laid_at {P : Program} {w : World} {n : String} {d : DataW Unit} : ∀ {l : List (String × DataW Unit)} {ps : List MemPlace}, DataW.LaidVars P w l ps → (n, d) ∈ l → ∃ g t cs fuel p, P.globalNamed n = some g ∧ (P.globals[g]?).map (·.type) = some t ∧ w.var? P n = some cs ∧ DataW.trod (fun _ => ()) P w 0 (fun _ => true) false fuel t cs.toList = some (d, p)
 | [], _, _, h => by simp at h
 | (m, e) :: r, ps, h, hm => by
  obtain ⟨g, t, cs, fuel, p, q, h1, h2, h3, h4, h5, _⟩ := h
  rcases List.mem_cons.1 hm with h6 | h6
  ·cases h6
   exact ⟨g, t, cs, fuel, p, h1, h2, h3, h4⟩
  ·exact laid_at h5 h6
theorem kinds_of_laid {l : List (String × DataW Unit)} {W : World} (h : laidMetH Tryz.prog l W) (hk : (kindsN, Rows.laid_touchmark_treaty_kinds) ∈ l) (hbm : (boundN, Rows.laid_touchmark_treaty_bound) ∈ l) : Kinds (getW W) := by
 obtain ⟨g, t, cs, fuel, p, hg, ht, hv, hd⟩ := laidMetH.funcs h (n := kindsN) hk
 obtain rfl := Option.some.inj (gKinds.symm.trans hg)
 obtain rfl := Option.some.inj (tKinds.symm.trans ht)
 obtain ⟨xs, m, _, hx, hl, hn, hel⟩ := DataW.trod_array Tryz.underlying311 hd
 have hcell : ∀ j : Nat, W.cell? ⟨1, j, none⟩ = cs[j]? := World.var?_cell gKinds hv
 obtain ⟨x0, x1, x2, x3, x4, x5, x6, rfl⟩ := array7 hn
 have e4 : Tryz.prog.cellsOf 310 = 4 := by kernel_rfl
 simp only [Prod.mk.injEq] at hx
 obtain ⟨hx, _⟩ := hx
 simp only [DataW.funcsOut, DataW.funcsOutAll, List.map_cons, List.map_nil, DataW.agg.injEq, List.cons.injEq, beq_self_eq_true, if_true, and_true] at hx
 obtain ⟨g0, g1, g2, g3, g4, g5, g6⟩ := hx
 rw [e4] at hel
 have key : ∀ i, i < 7 → ∃ v0, (cs.toList.drop (i * 4)).take 4 = [v0, .bool (landK i), .bool (sinceK i), .func (.func (if givesK i then 308 else 309)) #[] #[]] := by
  intro i hi
  have hi' := hel i hi
  match i, hi with
  | 0, _ => exact kind_of yes_one hi' g0.symm
  | 1, _ => exact kind_of no_one hi' g1.symm
  | 2, _ => exact kind_of yes_one hi' g2.symm
  | 3, _ => exact kind_of no_one hi' g3.symm
  | 4, _ => exact kind_of no_one hi' g4.symm
  | 5, _ => exact kind_of yes_one hi' g5.symm
  | 6, _ => exact kind_of no_one hi' g6.symm
 have cell : ∀ i, i < 7 → cs[i * 4 + 1]? = some (.bool (landK i)) ∧ cs[i * 4 + 2]? = some (.bool (sinceK i)) ∧ cs[i * 4 + 3]? = some (.func (.func (if givesK i then 308 else 309)) #[] #[]) := by
  intro i hi
  obtain ⟨v0, h0⟩ := key i hi
  have := four_cells h0
  simpa using this
 obtain ⟨ps, hL, _⟩ := (laidMetH_iff.1 h).1
 obtain ⟨g', t', cs', fuel', p', hg', ht', hv', hd'⟩ := laid_at hL (List.mem_filter.2 ⟨hbm, rfl⟩)
 obtain rfl := Option.some.inj (gBound.symm.trans hg')
 obtain rfl := Option.some.inj (tBound.symm.trans ht')
 have hb := uses_of hd' rfl
 have hcell' : ∀ j : Nat, W.cell? ⟨3, j, none⟩ = cs'[j]? := World.var?_cell gBound hv'
 have hb' : ∀ j : Nat, cs'[j]? = [Value.bool true, .bool false][j]? := fun j => by rw [← hb]; simp
 exact ⟨fun i hi => getW_cell (by rw [hcell]; exact (cell i hi).1), fun i hi => getW_cell (by rw [hcell]; exact (cell i hi).2.1), fun i hi => getW_cell (by rw [hcell]; exact (cell i hi).2.2), getW_cell (by rw [hcell', hb']; rfl), getW_cell (by rw [hcell', hb']; rfl)⟩
def noTreaty : Value := .agg #[.int .i64 0, .int .i64 0, .int .i64 0, .int .i64 0, .int .i64 0, .int .i64 0, .slice none 0 0]
end Go.Proofs.YtldamlcehbdkdaaGreatDoor.Tre
end
section
namespace Go.Proofs.YtldamlcehbdkdaaGreatDoor.Tre
open Go Go.TM Go.Proofs Go.TM.Tr
attribute [local irreducible] T.wp CV FWK
theorem not_and_false {a b : Bool} (h : a = false) : (a && b) = false := by rw [h]; rfl
def numsB (x : TF) : Bool := inB x.items 0 5 && (inB x.lands 1 3 && (dayB x.start && (dayB x.depend && (dayB x.refuse && dayB x.turn))))
theorem nums_ok {x : TF} (h : numsB x = true) : IsI (x.lands - 1) ∧ IsI (x.items - 1) := by
 simp [numsB, inB] at h
 unfold IsI
 omega
theorem checkT_nums {x : TF} (h : numsB x = false) : checkT x = 1 := by unfold checkT; exact if_pos h
theorem checkT_many {x : TF} (h : numsB x = true) (h2 : 10 < x.events.length) : checkT x = 2 := by
 unfold checkT
 rw [if_neg (by unfold numsB at h; rw [h]; simp), if_pos h2]
theorem checkT_each {x : TF} (h : numsB x = true) (h2 : ¬ 10 < x.events.length) : checkT x = firstT (fun _ e => eventT x e) 0 x.events := by
 unfold checkT
 rw [if_neg (by unfold numsB at h; rw [h]; simp), if_neg h2]
theorem check_is {x : TF} (h : checkT x = 0) : IsI (x.lands - 1) ∧ IsI (x.items - 1) := by
 have := check_numbers h
 unfold IsI; omega
theorem c2021 {h : LH} (hk : Kinds h.get) {f : TC} {x : TF} (hx : TreatyR h.get f x) : Pu Tryz.prog 242 #[treatyV f x] h (.int .i64 (checkT x)) := by
 refine w2021 _ _ _ _ _ _ _ _ _ X0_ok ?_
 unfold n2021
 have hn := hx.2.1
 have hb := hx.2.2.1
 refine t_blk (fun vs h' => vs = [.int .i64 0] ∧ numsB x = true ∧ h = h') ?_ ?_
 ·refine t_pu (c2052 _ _ _) ?_
  refine gZ ?_
  refine t_cond (fun e => ?_) (fun e0 => ?_)
  ·refine gI ?_
   refine gZ ?_
   exact t_ret ⟨by rw [checkT_nums (not_and_false (by simpa using e))], rfl⟩
  have e0 : inB x.items 0 5 = true := by simpa using e0
  refine t_pu (c2052 _ _ _) ?_
  refine gZ ?_
  refine t_cond (fun e => ?_) (fun e1 => ?_)
  ·refine gI ?_
   refine gZ ?_
   have e : inB x.lands 1 3 = false := by simpa using e
   exact t_ret ⟨by rw [checkT_nums (by simp [numsB, e])], rfl⟩
  have e1 : inB x.lands 1 3 = true := by simpa using e1
  refine t_pu (c2053 _) ?_
  refine gZ ?_
  refine t_cond (fun e => ?_) (fun e2 => ?_)
  ·refine gI ?_
   refine gZ ?_
   have e : dayB x.start = false := by simpa using e
   exact t_ret ⟨by rw [checkT_nums (by simp [numsB, e])], rfl⟩
  have e2 : dayB x.start = true := by simpa using e2
  refine t_pu (c2053 _) ?_
  refine gZ ?_
  refine t_cond (fun e => ?_) (fun e3 => ?_)
  ·refine gI ?_
   refine gZ ?_
   have e : dayB x.depend = false := by simpa using e
   exact t_ret ⟨by rw [checkT_nums (by simp [numsB, e])], rfl⟩
  have e3 : dayB x.depend = true := by simpa using e3
  refine t_pu (c2053 _) ?_
  refine gZ ?_
  refine t_cond (fun e => ?_) (fun e4 => ?_)
  ·refine gI ?_
   refine gZ ?_
   have e : dayB x.refuse = false := by simpa using e
   exact t_ret ⟨by rw [checkT_nums (by simp [numsB, e])], rfl⟩
  have e4 : dayB x.refuse = true := by simpa using e4
  refine t_pu (c2053 _) ?_
  refine gZ ?_
  refine t_cond (fun e => ?_) (fun e5 => ?_)
  ·refine gI ?_
   refine gZ ?_
   have e : dayB x.turn = false := by simpa using e
   exact t_ret ⟨by rw [checkT_nums (by simp [numsB, e])], rfl⟩
  have e5 : dayB x.turn = true := by simpa using e5
  exact t_again ⟨rfl, by simp [numsB, e0, e1, e2, e3, e4, e5], rfl⟩
 rintro vs _ ⟨rfl, hnum, rfl⟩
 refine gZ ?_
 refine t_if (fun e => ?_) (fun e => ?_)
 ·exact t_ret ⟨by rw [checkT_many hnum (by omega)], rfl⟩
 have hck := checkT_each hnum (by omega)
 refine t_loop (fun mm vs h' => h = h' ∧ ∃ i : Nat, vs = [.int .i64 0, .int .i64 i] ∧ i ≤ f.n ∧ mm = f.n - i ∧ checkT x = firstT (fun _ e => eventT x e) i (x.events.drop i)) ⟨rfl, 0, rfl, Nat.zero_le _, rfl, hck⟩ ?_
 rintro Y mm vs _ hY ⟨rfl, i, rfl, hi, rfl, hc⟩
 refine gZ ?_
 refine t_if (fun e1 => ?_) (fun e1 => ?_)
 ·obtain ⟨y, a, hy, ha, g0, g1, g2, ⟨q, m, c, g3, _, g5⟩, g4⟩ := hx.2.at (i := i) (by omega)
  rw [drop_of hy, firstT] at hc
  refine gZ ?_
  refine t_pu (c2054 hk (f := f) (x := x) (e := y) (nums_ok hnum).1 (nums_ok hnum).2 g5) ?_
  refine gZ ?_
  refine t_cond (fun d => ?_) (fun d => ?_)
  ·refine gZ ?_
   rw [if_pos (by simpa using d)] at hc
   exact t_ret ⟨by rw [hc], rfl⟩
  ·rw [if_neg (by simpa using d)] at hc
   refine t_again (hY (f.n - (i + 1)) _ _ (by omega) ⟨rfl, i + 1, ?_, by omega, rfl, hc⟩)
   rw [wrap_id (by omega) (by omega)]; rfl
 ·refine gZ ?_
  rw [List.drop_eq_nil_of_le (by omega), firstT] at hc
  exact t_ret ⟨by rw [hc], rfl⟩
def askedT (x : TF) (land : Int) : Int := if checkT x ≠ 0 then checkT x else if inB land 0 (x.lands - 1) = false then 6 else 0
def askedDayT (x : TF) (land day : Int) : Int := if askedT x land ≠ 0 then askedT x land else if dayB day then 0 else 1
def askedItemT (x : TF) (land item : Int) : Int := if askedT x land ≠ 0 then askedT x land else if inB item 0 (x.items - 1) then 0 else 6
def askedAllT (x : TF) (land item day : Int) : Int := if askedItemT x land item ≠ 0 then askedItemT x land item else if dayB day then 0 else 1
theorem asked_ok {x : TF} {land : Int} (h : askedT x land = 0) : checkT x = 0 ∧ inB land 0 (x.lands - 1) = true := by
 unfold askedT at h
 split at h
 ·rename_i h1; exact absurd h h1
 ·rename_i h1
  split at h
  ·cases h
  ·rename_i h2; exact ⟨by simpa using h1, by simpa using h2⟩
theorem askedDay_ok {x : TF} {land day : Int} (h : askedDayT x land day = 0) : askedT x land = 0 ∧ dayB day = true := by
 unfold askedDayT at h
 split at h
 ·rename_i h1; exact absurd h h1
 ·rename_i h1
  split at h
  ·rename_i h2; exact ⟨by simpa using h1, h2⟩
  ·cases h
theorem askedItem_ok {x : TF} {land item : Int} (h : askedItemT x land item = 0) : askedT x land = 0 ∧ inB item 0 (x.items - 1) = true := by
 unfold askedItemT at h
 split at h
 ·rename_i h1; exact absurd h h1
 ·rename_i h1
  split at h
  ·rename_i h2; exact ⟨by simpa using h1, h2⟩
  ·cases h
theorem askedAll_ok {x : TF} {land item day : Int} (h : askedAllT x land item day = 0) : askedItemT x land item = 0 ∧ dayB day = true := by
 unfold askedAllT at h
 split at h
 ·rename_i h1; exact absurd h h1
 ·rename_i h1
  split at h
  ·rename_i h2; exact ⟨by simpa using h1, h2⟩
  ·cases h
theorem c2079 {h : LH} (hk : Kinds h.get) {f : TC} {x : TF} (hx : TreatyR h.get f x) (land : Int) : Pu Tryz.prog 193 #[treatyV f x, .int .i64 land] h (.int .i64 (askedT x land)) := by
 refine w2079 _ _ _ _ _ _ _ _ _ _ X0_ok ?_
 unfold n2079
 refine t_pu (c2021 hk hx) ?_
 refine gZ ?_
 refine t_cond (fun e => ?_) (fun e => ?_)
 ·exact t_ret ⟨by rw [askedT, if_pos (by simpa using e)], rfl⟩
 have e : checkT x = 0 := by simpa using e
 have hi := check_is e
 rw [wrap_id hi.1.1 hi.1.2]
 refine t_pu (c2052 _ _ _) ?_
 refine gZ ?_
 refine t_cond (fun d => ?_) (fun d => ?_)
 ·exact t_ret ⟨by rw [askedT, if_neg (by simp [e]), if_pos (by simpa using d)], rfl⟩
 ·exact t_ret ⟨by rw [askedT, if_neg (by simp [e]), if_neg (by simp at d; simp [d])], rfl⟩
theorem c2063 {h : LH} (hk : Kinds h.get) {f : TC} {x : TF} (hx : TreatyR h.get f x) (land day : Int) : Pu Tryz.prog 140 #[treatyV f x, .int .i64 land, .int .i64 day] h (.int .i64 (askedDayT x land day)) := by
 refine w2063 _ _ _ _ _ _ _ _ _ _ _ X0_ok ?_
 unfold n2063
 refine t_pu (c2079 hk hx land) ?_
 refine gZ ?_
 refine t_cond (fun e => ?_) (fun e => ?_)
 ·exact t_ret ⟨by rw [askedDayT, if_pos (by simpa using e)], rfl⟩
 have e : askedT x land = 0 := by simpa using e
 refine t_pu (c2053 _) ?_
 refine gZ ?_
 refine t_cond (fun d => ?_) (fun d => ?_)
 ·exact t_ret ⟨by rw [askedDayT, if_neg (by simp [e]), if_pos d, e], rfl⟩
 ·exact t_ret ⟨by rw [askedDayT, if_neg (by simp [e]), if_neg (by simp [d])], rfl⟩
theorem c2058 {h : LH} (hk : Kinds h.get) {f : TC} {x : TF} (hx : TreatyR h.get f x) (land item : Int) : Pu Tryz.prog 142 #[treatyV f x, .int .i64 land, .int .i64 item] h (.int .i64 (askedItemT x land item)) := by
 refine w2058 _ _ _ _ _ _ _ _ _ _ _ X0_ok ?_
 unfold n2058
 refine t_pu (c2079 hk hx land) ?_
 refine gZ ?_
 refine t_cond (fun e => ?_) (fun e => ?_)
 ·exact t_ret ⟨by rw [askedItemT, if_pos (by simpa using e)], rfl⟩
 have e : askedT x land = 0 := by simpa using e
 have hi := check_is (asked_ok e).1
 rw [wrap_id hi.2.1 hi.2.2]
 refine t_pu (c2052 _ _ _) ?_
 refine gZ ?_
 refine t_cond (fun d => ?_) (fun d => ?_)
 ·exact t_ret ⟨by rw [askedItemT, if_neg (by simp [e]), if_pos d, e], rfl⟩
 ·exact t_ret ⟨by rw [askedItemT, if_neg (by simp [e]), if_neg (by simp [d])], rfl⟩
theorem c2066 {h : LH} (hk : Kinds h.get) {f : TC} {x : TF} (hx : TreatyR h.get f x) (land item day : Int) : Pu Tryz.prog 145 #[treatyV f x, .int .i64 land, .int .i64 item, .int .i64 day] h (.int .i64 (askedAllT x land item day)) := by
 refine w2066 _ _ _ _ _ _ _ _ _ _ _ _ X0_ok ?_
 unfold n2066
 refine t_pu (c2058 hk hx land item) ?_
 refine gZ ?_
 refine t_cond (fun e => ?_) (fun e => ?_)
 ·exact t_ret ⟨by rw [askedAllT, if_pos (by simpa using e)], rfl⟩
 have e : askedItemT x land item = 0 := by simpa using e
 refine t_pu (c2053 _) ?_
 refine gZ ?_
 refine t_cond (fun d => ?_) (fun d => ?_)
 ·exact t_ret ⟨by rw [askedAllT, if_neg (by simp [e]), if_pos d, e], rfl⟩
 ·exact t_ret ⟨by rw [askedAllT, if_neg (by simp [e]), if_neg (by simp [d])], rfl⟩
end Go.Proofs.YtldamlcehbdkdaaGreatDoor.Tre
end
section
namespace Go.Proofs.YtldamlcehbdkdaaGreatDoor.Tre
open Go Go.TM Go.Proofs Go.TM.Tr
attribute [local irreducible] T.wp CV FWK
set_option maxRecDepth 10000 in
theorem c2057 {h : LH} {f : TC} {x : TF} {e : Ev} {q : Option Addr} {m c : Nat} (hl : IsI (x.lands - 1)) (hi : IsI (x.items - 1)) (hs : Sl IntE 1 h.get q m e.items) :
  Pu Tryz.prog 139 #[treatyV f x, .agg #[.int .i64 e.kind, .int .i64 e.day, .int .i64 e.land, .slice q m c, .int .i64 e.since]] h (.int .i64 (eventT x e)) := by
 refine w2057 _ _ _ _ _ _ _ _ _ _ _ _ _ _ _ _ X0_ok ?_
 unfold n2057
 have hm := hs.1
 have hb := hs.2.1
 refine t_blk (fun vs h' => vs = [.int .i64 0] ∧ (inB e.kind 0 6 && (dayB e.day && dayB e.since)) = true ∧ h = h') ?_ ?_
 ·have bad : (inB e.kind 0 6 && (dayB e.day && dayB e.since)) = false → eventT x e = 1 := fun hb => by rw [eventT, if_pos hb]
  refine t_if (fun e1 => ?_) (fun e1 => ?_)
  ·refine gI ?_
   refine gZ ?_
   exact t_ret ⟨by rw [bad (by rw [show inB e.kind 0 6 = false by unfold inB; rw [decide_eq_false (by omega), Bool.false_and]]; rfl)], rfl⟩
  refine t_if (fun e2 => ?_) (fun e2 => ?_)
  ·refine gI ?_
   refine gZ ?_
   exact t_ret ⟨by rw [bad (by rw [show inB e.kind 0 6 = false by unfold inB; rw [decide_eq_false (p := e.kind ≤ 6) (by omega), Bool.and_false]]; rfl)], rfl⟩
  have hk : inB e.kind 0 6 = true := by unfold inB; rw [decide_eq_true (by omega), decide_eq_true (by omega)]; rfl
  refine t_pu (c2056 _) ?_
  refine gZ ?_
  refine t_cond (fun e3 => ?_) (fun e3 => ?_)
  ·refine gI ?_
   refine gZ ?_
   have : dayB e.day = false := by simpa using e3
   exact t_ret ⟨by rw [bad (by rw [this]; simp)], rfl⟩
  have hd : dayB e.day = true := by simpa using e3
  refine t_pu (c2056 _) ?_
  refine gZ ?_
  refine t_cond (fun e3 => ?_) (fun e3 => ?_)
  ·refine gI ?_
   refine gZ ?_
   have : dayB e.since = false := by simpa using e3
   exact t_ret ⟨by rw [bad (by rw [this]; simp)], rfl⟩
  have he : dayB e.since = true := by simpa using e3
  exact t_again ⟨rfl, by rw [hk, hd, he]; rfl, rfl⟩
 rintro vs _ ⟨rfl, b', rfl⟩
 have hev1 : eventT x e = if inB e.land 0 (x.lands - 1) = false then 6 else if itemsT e.items x.items ≠ 0 then itemsT e.items x.items else if (e.kind = 4 ∧ e.land ≠ 0) ∨ (e.kind ≠ 4 ∧ e.kind ≠ 6 ∧ e.since ≠ 0) then 1 else if e.since > e.day then 7 else 0 := by
  rw [eventT, if_neg (by rw [b']; simp)]
 refine gZ ?_
 rw [wrap_id hl.1 hl.2]
 refine t_pu (c49 _ _ _) ?_
 refine gZ ?_
 refine t_cond (fun d => ?_) (fun d => ?_)
 ·refine t_ret ⟨?_, rfl⟩
  rw [hev1, if_pos (by simpa using d)]
 have hev2 : eventT x e = if itemsT e.items x.items ≠ 0 then itemsT e.items x.items else if (e.kind = 4 ∧ e.land ≠ 0) ∨ (e.kind ≠ 4 ∧ e.kind ≠ 6 ∧ e.since ≠ 0) then 1 else if e.since > e.day then 7 else 0 := by
  rw [hev1, if_neg (by simp at d; simp [d])]
 refine t_loop (fun mm vs h' => h = h' ∧ ∃ i : Nat, vs = [.int .i64 0, .int .i64 i] ∧ i ≤ m ∧ mm = m - i ∧ itemsT e.items x.items = firstT (Tr.stepT e.items x.items) i (e.items.drop i)) ⟨rfl, 0, rfl, Nat.zero_le _, rfl, rfl⟩ ?_
 rintro Y mm vs _ hY ⟨rfl, i, rfl, hi', rfl, hc⟩
 refine gZ ?_
 refine t_if (fun e1 => ?_) (fun e1 => ?_)
 ·obtain ⟨y, a, hy, ha, e2⟩ := hs.at (i := i) (by omega)
  unfold IntE at e2
  rw [drop_of hy, firstT] at hc
  refine gZ ?_
  rw [wrap_id hi.1 hi.2]
  refine t_pu (c49 _ _ _) ?_
  refine gZ ?_
  have next : Tr.stepT e.items x.items i y = 0 → Y [.int .i64 0, .int .i64 (IntKind.wrap .i64 ((i : Int) + 1))] h := by
   intro hz
   rw [if_neg (by rw [hz]; simp)] at hc
   refine hY (m - (i + 1)) _ _ (by omega) ⟨rfl, i + 1, ?_, by omega, rfl, hc⟩
   rw [wrap_id (by omega) (by omega)]; rfl
  have stop : ∀ z : Int, z ≠ 0 → Tr.stepT e.items x.items i y = z → eventT x e = z := by
   intro z hz hr
   rw [hr, if_pos hz] at hc
   rw [hev2, hc, if_pos hz]
  refine t_cond (fun d1 => ?_) (fun d1 => ?_)
  ·refine gZ ?_
   refine t_ret ⟨?_, rfl⟩
   rw [stop 6 (by decide) (by rw [Tr.stepT, if_pos (by simpa using d1)])]
  have d1' : ¬ inB y 0 (x.items - 1) = false := by simp at d1; simp [d1]
  refine t_if (fun d2 => ?_) (fun d2 => ?_)
  ·obtain ⟨z, a2, hz, ha2, e3⟩ := hs.at (i := i - 1) (by omega)
   unfold IntE at e3
   rw [ha] at ha2; cases ha2
   have hwi : IntKind.wrap .i64 ((i : Int) - 1) = ((i - 1 : Nat) : Int) := by rw [wrap_id (by omega) (by omega)]; omega
   have hrun := itemsT_run (b := x.items) hy (fun _ => hz)
   rw [hwi]
   refine gZ ?_
   refine t_if (fun d3 => ?_) (fun d3 => ?_)
   ·refine gZ ?_
    refine t_ret ⟨?_, rfl⟩
    rw [stop 7 (by decide) (by rw [hrun, if_neg d1', if_pos ⟨by omega, d3⟩])]
   ·exact t_again (next (by rw [hrun, if_neg d1', if_neg (by omega)]))
  ·refine gZ ?_
   exact t_again (next (by rw [Tr.stepT, if_neg d1', if_neg (by omega)]))
 ·refine gZ ?_
  rw [List.drop_eq_nil_of_le (by omega), firstT] at hc
  have hev3 : eventT x e = if (e.kind = 4 ∧ e.land ≠ 0) ∨ (e.kind ≠ 4 ∧ e.kind ≠ 6 ∧ e.since ≠ 0) then 1 else if e.since > e.day then 7 else 0 := by
   rw [hev2, if_neg (by rw [hc]; simp)]
  rw [hev3]
  repeat' first
   | (refine t_cond (fun _ => ?_) (fun _ => ?_))
   | (refine t_ret ⟨?_, rfl⟩)
  all_goals (congr 1; simp_all; try omega)
theorem c2022 {h : LH} {f : TC} {x : TF} (hx : TreatyR h.get f x) : Pu Tryz.prog 86 #[treatyV f x] h (.int .i64 (checkT x)) := by
 refine w2022 _ _ _ _ _ _ _ _ _ X0_ok ?_
 unfold n2022
 have hn := hx.2.1
 have hb := hx.2.2.1
 refine t_blk (fun vs h' => vs = [.int .i64 0] ∧ numsB x = true ∧ h = h') ?_ ?_
 ·refine t_pu (c49 _ _ _) ?_
  refine gZ ?_
  refine t_cond (fun e => ?_) (fun e0 => ?_)
  ·refine gI ?_
   refine gZ ?_
   exact t_ret ⟨by rw [checkT_nums (not_and_false (by simpa using e))], rfl⟩
  have e0 : inB x.items 0 5 = true := by simpa using e0
  refine t_pu (c49 _ _ _) ?_
  refine gZ ?_
  refine t_cond (fun e => ?_) (fun e1 => ?_)
  ·refine gI ?_
   refine gZ ?_
   have e : inB x.lands 1 3 = false := by simpa using e
   exact t_ret ⟨by rw [checkT_nums (by simp [numsB, e])], rfl⟩
  have e1 : inB x.lands 1 3 = true := by simpa using e1
  refine t_pu (c2056 _) ?_
  refine gZ ?_
  refine t_cond (fun e => ?_) (fun e2 => ?_)
  ·refine gI ?_
   refine gZ ?_
   have e : dayB x.start = false := by simpa using e
   exact t_ret ⟨by rw [checkT_nums (by simp [numsB, e])], rfl⟩
  have e2 : dayB x.start = true := by simpa using e2
  refine t_pu (c2056 _) ?_
  refine gZ ?_
  refine t_cond (fun e => ?_) (fun e3 => ?_)
  ·refine gI ?_
   refine gZ ?_
   have e : dayB x.depend = false := by simpa using e
   exact t_ret ⟨by rw [checkT_nums (by simp [numsB, e])], rfl⟩
  have e3 : dayB x.depend = true := by simpa using e3
  refine t_pu (c2056 _) ?_
  refine gZ ?_
  refine t_cond (fun e => ?_) (fun e4 => ?_)
  ·refine gI ?_
   refine gZ ?_
   have e : dayB x.refuse = false := by simpa using e
   exact t_ret ⟨by rw [checkT_nums (by simp [numsB, e])], rfl⟩
  have e4 : dayB x.refuse = true := by simpa using e4
  refine t_pu (c2056 _) ?_
  refine gZ ?_
  refine t_cond (fun e => ?_) (fun e5 => ?_)
  ·refine gI ?_
   refine gZ ?_
   have e : dayB x.turn = false := by simpa using e
   exact t_ret ⟨by rw [checkT_nums (by simp [numsB, e])], rfl⟩
  have e5 : dayB x.turn = true := by simpa using e5
  exact t_again ⟨rfl, by simp [numsB, e0, e1, e2, e3, e4, e5], rfl⟩
 rintro vs _ ⟨rfl, hnum, rfl⟩
 refine gZ ?_
 refine t_if (fun e => ?_) (fun e => ?_)
 ·exact t_ret ⟨by rw [checkT_many hnum (by omega)], rfl⟩
 have hck := checkT_each hnum (by omega)
 refine t_loop (fun mm vs h' => h = h' ∧ ∃ i : Nat, vs = [.int .i64 0, .int .i64 i] ∧ i ≤ f.n ∧ mm = f.n - i ∧ checkT x = firstT (fun _ e => eventT x e) i (x.events.drop i)) ⟨rfl, 0, rfl, Nat.zero_le _, rfl, hck⟩ ?_
 rintro Y mm vs _ hY ⟨rfl, i, rfl, hi, rfl, hc⟩
 refine gZ ?_
 refine t_if (fun e1 => ?_) (fun e1 => ?_)
 ·obtain ⟨y, a, hy, ha, g0, g1, g2, ⟨q, m, c, g3, _, g5⟩, g4⟩ := hx.2.at (i := i) (by omega)
  rw [drop_of hy, firstT] at hc
  refine gZ ?_
  refine t_pu (c2057 (h := h) (f := f) (x := x) (e := y) (nums_ok hnum).1 (nums_ok hnum).2 g5) ?_
  refine gZ ?_
  refine t_cond (fun d => ?_) (fun d => ?_)
  ·refine gZ ?_
   rw [if_pos (by simpa using d)] at hc
   exact t_ret ⟨by rw [hc], rfl⟩
  ·rw [if_neg (by simpa using d)] at hc
   refine t_again (hY (f.n - (i + 1)) _ _ (by omega) ⟨rfl, i + 1, ?_, by omega, rfl, hc⟩)
   rw [wrap_id (by omega) (by omega)]; rfl
 ·refine gZ ?_
  rw [List.drop_eq_nil_of_le (by omega), firstT] at hc
  exact t_ret ⟨by rw [hc], rfl⟩
end Go.Proofs.YtldamlcehbdkdaaGreatDoor.Tre
end
section
namespace Go.Proofs.YtldamlcehbdkdaaGreatDoor.Tre
open Go Go.TM Go.Proofs Go.TM.Tr
attribute [local irreducible] T.wp CV FWK
def matV (f : TC) (x : TF) (k i : Int) : Value := .agg #[.int .i64 x.items, .int .i64 x.lands, .int .i64 x.start, .int .i64 x.depend, .int .i64 x.refuse, .int .i64 x.turn, .slice f.p f.n f.c, .int .i64 k, .int .i64 i]
structure MatAt (h : Cells) (a : Addr) (f : TC) (x : TF) (k i : Int) : Prop where
 f0 : h.cell? ((a.add 0).add 0) = some (.int .i64 x.items)
 f1 : h.cell? ((a.add 0).add 1) = some (.int .i64 x.lands)
 f2 : h.cell? ((a.add 0).add 2) = some (.int .i64 x.start)
 f3 : h.cell? ((a.add 0).add 3) = some (.int .i64 x.depend)
 f4 : h.cell? ((a.add 0).add 4) = some (.int .i64 x.refuse)
 f5 : h.cell? ((a.add 0).add 5) = some (.int .i64 x.turn)
 f6 : h.cell? ((a.add 0).add 6) = some (.slice f.p f.n f.c)
 f7 : h.cell? ((a.add 0).add 7) = some (.int .i64 k)
 f8 : h.cell? ((a.add 0).add 8) = some (.int .i64 i)
theorem MatAt.rd {h h' : Cells} {a : Addr} {f : TC} {x : TF} {k i : Int} (hl : Rd h h') (m : MatAt h a f x k i) : MatAt h' a f x k i :=
 ⟨hl _ _ m.f0, hl _ _ m.f1, hl _ _ m.f2, hl _ _ m.f3, hl _ _ m.f4, hl _ _ m.f5, hl _ _ m.f6, hl _ _ m.f7, hl _ _ m.f8⟩
theorem MatAt.le {h h' : Cells} {a : Addr} {f : TC} {x : TF} {k i : Int} (hl : h.le h') (m : MatAt h a f x k i) : MatAt h' a f x k i := m.rd (Rd.of_le hl)
theorem add_zero' (a : Addr) : a.add 0 = a := by unfold Addr.add; simp
theorem add_zero2 (a : Addr) (i : Nat) : (a.add 0).add i = a.add i := by rw [add_zero']
theorem MatAt.s7 {h : Cells} {a : Addr} {f : TC} {x : TF} {k i : Int} (m : MatAt h a f x k i) : h.cell? (a.add 7) = some (.int .i64 k) := by have := m.f7; rwa [add_zero2] at this
theorem MatAt.s8 {h : Cells} {a : Addr} {f : TC} {x : TF} {k i : Int} (m : MatAt h a f x k i) : h.cell? (a.add 8) = some (.int .i64 i) := by have := m.f8; rwa [add_zero2] at this
def allB (K : Nat) (k i : Int) (e : Ev) : Bool := (e.kind == (K : Int)) && ((!landK K || (e.land == k)) && e.items.contains i)
theorem allB_about {K : Nat} (hK : K ≠ 4) (k i : Int) (e : Ev) : allB K k i e = about e K k i := by
 unfold allB about landK
 have : Nat.beq K 4 = false := by
  cases hb : Nat.beq K 4 with
  | false => rfl
  | true => exact absurd (Nat.eq_of_beq_eq_true hb) hK
 simp [this]
def handedE {α : Type} (V : Nat → Value) (s : α → Bool) : List α → Nat → List (List Value)
 | [], _ => []
 | x :: l, i => if s x then [V i] :: handedE V s l (i + 1) else handedE V s l (i + 1)
theorem handedE_len {α : Type} (V : Nat → Value) (s : α → Bool) : ∀ (l : List α) (i : Nat), (handedE V s l i).length = (l.filter s).length := by
 intro l
 induction l with
 | nil => intro i; rfl
 | cons x l ih => intro i; rw [handedE, List.filter_cons]; split <;> simp [ih]
theorem handedE_get {α : Type} (V : Nat → Value) (s : α → Bool) : ∀ (l : List α) (i k : Nat) xs, (handedE V s l i)[k]? = some xs → ∃ x j, (l.filter s)[k]? = some x ∧ l[j]? = some x ∧ xs = [V (i + j)] := by
 intro l
 induction l with
 | nil => intro i k xs h; simp [handedE] at h
 | cons x l ih =>
  intro i k xs h
  rw [handedE] at h
  rw [List.filter_cons]
  split at h
  ·rename_i hs
   rw [if_pos hs]
   cases k with
   | zero => simp at h; exact ⟨x, 0, rfl, rfl, by simp [← h]⟩
   | succ k =>
    obtain ⟨y, j, h1, h2, h3⟩ := ih (i + 1) k xs (by simpa using h)
    exact ⟨y, j + 1, by simpa using h1, by simpa using h2, by rw [h3, show i + 1 + j = i + (j + 1) by omega]⟩
  ·rename_i hs
   rw [if_neg hs]
   obtain ⟨y, j, h1, h2, h3⟩ := ih (i + 1) k xs h
   exact ⟨y, j + 1, h1, by simpa using h2, by rw [h3, show i + 1 + j = i + (j + 1) by omega]⟩
def evV (e : Ev) (q : Option Addr) (m c : Nat) : Value := .agg #[.int .i64 e.kind, .int .i64 e.day, .int .i64 e.land, .slice q m c, .int .i64 e.since]
theorem hands2095 {X : XP} (hX : XOK X) {h₀ : LH} (hk : Kinds h₀.get) {z0 z1 : Addr} {f : TC} {x : TF} {k i : Int} {K : Nat} (hK : K < 7) (hm : MatAt h₀.get z0 f x k i) (hz1 : h₀.get.cell? z1 = some (.int .i64 (K : Int))) (hx : TreatyR h₀.get f x) :
  ∃ L, L.length = (x.events.filter (allB K k i)).length ∧ (∀ (j : Nat) xs, L[j]? = some xs → ∃ e q m c, (x.events.filter (allB K k i))[j]? = some e ∧ xs = [evV e q m c] ∧ Sl IntE 1 h₀.get q m e.items) ∧
   Hands X Tryz.prog (.func (.func 244) #[] #[.pointer (some z0), .pointer (some z1)]) h₀ L := by
 have hs := hx.2
 let R : Nat → Value → Prop := fun j v => ∃ e a q m c, x.events[j]? = some e ∧ f.p = some a ∧ v = evV e q m c ∧ h₀.get.cell? ((a.add (j * 5)).add 0) = some (.int .i64 e.kind) ∧ h₀.get.cell? ((a.add (j * 5)).add 1) = some (.int .i64 e.day) ∧ h₀.get.cell? ((a.add (j * 5)).add 2) = some (.int .i64 e.land) ∧ h₀.get.cell? ((a.add (j * 5)).add 3) = some (.slice q m c) ∧ h₀.get.cell? ((a.add (j * 5)).add 4) = some (.int .i64 e.since) ∧ Sl IntE 1 h₀.get q m e.items
 have hR : ∀ j e, x.events[j]? = some e → ∃ v, R j v := by
  intro j e he
  obtain ⟨a, ha, e1, e2, e3, ⟨q, m, c, e4, _, e5⟩, e6⟩ := hs.2.2 j e he
  exact ⟨_, e, a, q, m, c, he, ha, rfl, e1, e2, e3, e4, e6, e5⟩
 let V : Nat → Value := fun j => Classical.epsilon (R j)
 have hV : ∀ j e, x.events[j]? = some e → R j (V j) := fun j e he => Classical.epsilon_spec (hR j e he)
 refine ⟨handedE V (allB K k i) x.events 0, handedE_len _ _ _ _, ?_, ?_⟩
 ·intro j xs hj
  obtain ⟨e, j', h1, h2, h3⟩ := handedE_get _ _ _ _ _ _ hj
  rw [Nat.zero_add] at h3
  obtain ⟨e', a, q, m, c, g1, _, g3, _, _, _, _, _, g8⟩ := hV j' e h2
  rw [h2] at g1; cases g1
  exact ⟨e, q, m, c, h1, by rw [h3, g3], g8⟩
 ·intro y J E _ _ hyield h hle hJ
  generalize hL : handedE V (allB K k i) x.events 0 = L at hyield ⊢
  refine cv_fw hX (by rfl) (?_ : FW X Tryz.prog 244 #[y, .pointer (some z0), .pointer (some z1)] h _)
  refine w2095 _ _ _ hX ?_
  unfold n2095
  have hn := hs.1
  have hb := hs.2.1
  have y6 := Cells.cell?_le hle.1 hm.f6
  refine gL1 y6 ?_
  refine t_loop (fun mm vs h' => h₀.le h' ∧ ∃ (j cnt : Nat), vs = [.int .i64 j] ∧ j ≤ f.n ∧ mm = f.n - j ∧ J cnt h' ∧ cnt ≤ L.length ∧ L.drop cnt = handedE V (allB K k i) (x.events.drop j) j) (n := f.n) ⟨hle, 0, 0, rfl, Nat.zero_le _, by omega, hJ, Nat.zero_le _, by rw [← hL]; rfl⟩ ?_
  rintro Y mm vs h₁ hY ⟨le1, j, cnt, rfl, hj, rfl, hJ1, hcl, hdrop⟩
  refine gZ ?_
  refine t_if (fun e1 => ?_) (fun e1 => ?_)
  ·obtain ⟨e, he⟩ : ∃ e, x.events[j]? = some e := ⟨x.events[j]'(by omega), List.getElem?_eq_getElem (by omega)⟩
   obtain ⟨e', a, q, m, c, g1, ha, hVj, c0, c1, c2, c3, c4, hit⟩ := hV j e he
   rw [he] at g1; cases g1
   have d0 := Cells.cell?_le le1.1 c0
   have d1 := Cells.cell?_le le1.1 c1
   have d2 := Cells.cell?_le le1.1 c2
   have d3 := Cells.cell?_le le1.1 c3
   have d4 := Cells.cell?_le le1.1 c4
   have w1 := Cells.cell?_le le1.1 hz1
   have m1 := hm.le le1.1
   have w7 := m1.s7
   have w8 := m1.s8
   have kl := (hk.le le1.1).landAt' hK
   have kl2 := (hk.le le1.1).landAt hK
   rw [drop_of he, handedE] at hdrop
   refine gZ ?_
   have skip : allB K k i e = false → Y [.int .i64 (IntKind.wrap .i64 ((j : Int) + 1))] h₁ := by
    intro hno
    rw [if_neg (by rw [hno]; simp)] at hdrop
    refine hY (f.n - (j + 1)) _ _ (by omega) ⟨le1, j + 1, cnt, ?_, by omega, rfl, hJ1, hcl, hdrop⟩
    rw [wrap_id (by omega) (by omega)]; rfl
   refine t_blk (fun vs h' => vs = [.bool (!landK K || (e.land == k))] ∧ h₁ = h') ?_ ?_
   ·refine gZ ?_
    refine t_cond (fun e2 => ?_) (fun e2 => ?_)
    ·exact t_again ⟨by simp at e2; rw [e2]; rfl, rfl⟩
    ·refine gZ ?_
     exact t_again ⟨by simp at e2; rw [e2]; rfl, rfl⟩
   rintro vs _ ⟨rfl, rfl⟩
   refine gZ ?_
   refine t_cond (fun e2 => ?_) (fun e2 => ?_)
   ·refine t_cond (fun e3 => ?_) (fun e3 => ?_)
    ·refine gZ ?_
     refine t_pu (c100 (hit.le IntE.grow le1.1) i) ?_
     refine gZ ?_
     refine t_cond (fun e4 => ?_) (fun e4 => ?_)
     ·have hsh : allB K k i e = true := by unfold allB; rw [e2, e3, e4]; rfl
      rw [if_pos hsh] at hdrop
      have hget : L[cnt]? = some [V j] := by
       have : (L.drop cnt)[0]? = some [V j] := by rw [hdrop]; rfl
       simpa using this
      have hlt : cnt < L.length := (List.getElem?_eq_some_iff.1 hget).1
      have hcv := hyield cnt h₁ [V j] le1 hget hJ1
      rw [hVj] at hcv
      refine t_callv hcv ?_
      rintro b h₂ ⟨le2, ⟨rfl, hJ2⟩ | ⟨rfl, hE⟩⟩
      ·refine gZ ?_
       refine t_cond (fun e => by cases e) (fun _ => ?_)
       refine t_again (hY (f.n - (j + 1)) _ _ (by omega) ⟨le2, j + 1, cnt + 1, ?_, by omega, rfl, hJ2, by omega, ?_⟩)
       ·rw [wrap_id (by omega) (by omega)]; rfl
       ·rw [← List.drop_drop, hdrop]; rfl
      ·refine gZ ?_
       refine t_cond (fun _ => ?_) (fun e => by cases e)
       refine gZ ?_
       exact t_ret ⟨le2, .inr hE⟩
     ·exact t_again (skip (by unfold allB; rw [e4]; simp))
    ·exact t_again (skip (by unfold allB; rw [e3]; simp))
   ·exact t_again (skip (by unfold allB; rw [e2]; rfl))
  ·refine gZ ?_
   refine t_ret ⟨le1, .inl ?_⟩
   rw [List.drop_eq_nil_of_le (by omega : x.events.length ≤ j), handedE] at hdrop
   have : cnt = L.length := by
    have := List.drop_eq_nil_iff.1 hdrop; omega
   rw [← this]; exact hJ1
theorem c2083 {h : LH} (f : TC) (x : TF) (k i : Int) (K : Int) : Gr Tryz.prog 196 #[matV f x k i, .int .i64 K] h fun r h' => ∃ z0 z1, r = .func (.func 244) #[] #[.pointer (some z0), .pointer (some z1)] ∧ MatAt h'.get z0 f x k i ∧ h'.get.cell? z1 = some (.int .i64 K) := by
 refine w2083 _ _ _ _ _ _ _ _ _ _ _ _ X0_ok ?_
 unfold n2083
 refine t_new fun r hr => ?_
 refine t_new fun r1 hr1 => ?_
 have l1 : h.le _ := LH.upd_le (x := (true, .cells #[.int .i64 x.items, .int .i64 x.lands, .int .i64 x.start, .int .i64 x.depend, .int .i64 x.refuse, .int .i64 x.turn, .slice f.p f.n f.c, .int .i64 k, .int .i64 i] 228 (0, 0))) hr
 have l2 := LH.upd_le (x := (true, .cells #[.int .i64 K] 89 (0, 0))) hr1
 refine t_ret ⟨LH.le_trans l1 l2, _, _, rfl, ?_, cell_upd rfl⟩
 refine MatAt.le l2.1 ?_
 constructor <;> (rw [add_plain, add_plain]; exact cell_upd rfl)
theorem t_all {X : XP} {Q : Leaf → LH → Prop} {h : LH} {kk : Value → T} (hX : XOK X) (hk : Kinds h.get) {f : TC} {x : TF} (hx : TreatyR h.get f x) (k i : Int) (K : Nat) (hK : K < 7)
  (hw : ∀ v h' L, h.le h' → L.length = (x.events.filter (allB K k i)).length → (∀ (j : Nat) xs, L[j]? = some xs → ∃ e q m c, (x.events.filter (allB K k i))[j]? = some e ∧ xs = [evV e q m c] ∧ Sl IntE 1 h'.get q m e.items) → Hands X Tryz.prog v h' L → (kk v).wp X Tryz.prog Q h') :
  (T.call false 196 #[matV f x k i, .int .i64 (K : Int)] kk).wp X Tryz.prog Q h := by
 refine t_gr (c2083 f x k i K) ?_
 rintro _ h₁ le1 ⟨z0, z1, rfl, hm, hz⟩
 obtain ⟨L, h1, h2, h3⟩ := hands2095 hX (hk.le le1.1) hK hm hz (hx.le le1.1)
 exact hw _ h₁ L le1 h1 h2 h3
def leastFrom (a : Int) : List Int → Int
 | [] => a
 | y :: l => leastFrom (if y < a then y else a) l
theorem least_nil : least [] = 10000 := rfl
theorem least_cons (y : Int) (l : List Int) : least (y :: l) = if y < least l then y else least l := rfl
theorem leastFrom_min : ∀ (l : List Int) (a : Int), a ≤ 10000 → leastFrom a l = (if a < least l then a else least l)
 | [], a, h => by
  rw [leastFrom, least_nil]
  split <;> omega
 | y :: l, a, h => by
  have hc := least_cap l
  rw [leastFrom, leastFrom_min l _ (by split <;> omega), least_cons]
  generalize least l = b at hc ⊢
  by_cases e1 : y < a <;> by_cases e2 : y < b <;> by_cases e3 : a < b <;> by_cases e4 : a < y <;> simp [e1, e2, e3, e4] <;> omega
theorem leastFrom_cap (l : List Int) : leastFrom 10000 l = least l := by
 rw [leastFrom_min l _ (Int.le_refl _)]
 have hc := least_cap l
 split <;> omega
theorem fallsL_all (x : TF) (k i fr : Int) : fallsL x i fr = ((x.events.filter (allB 4 k i)).filter fun e => decide (e.since ≤ x.start + x.depend) && decide (fr ≤ e.day)).map (·.day) := by
 unfold fallsL
 rw [List.filter_filter]
 congr 1
 refine List.filter_congr fun e _ => ?_
 unfold Tr.early allB landK
 have h4 : Nat.beq 4 4 = true := rfl
 rw [h4, Bool.not_true, Bool.not_false, Bool.true_or, Bool.true_and]
 show ((e.kind == 4) && decide (e.since ≤ x.start + x.depend) && (e.items.contains i && decide (fr ≤ e.day))) = (decide (e.since ≤ x.start + x.depend) && decide (fr ≤ e.day) && ((e.kind == 4) && e.items.contains i))
 cases (e.kind == 4) <;> cases decide (e.since ≤ x.start + x.depend) <;> cases e.items.contains i <;> cases decide (fr ≤ e.day) <;> rfl
theorem limitsL_all (x : TF) (k i fr : Int) : limitsL x k i fr = ((x.events.filter (allB 3 k i)).filter fun e => decide (fr ≤ e.day)).map (·.day) := by
 unfold limitsL
 rw [List.filter_filter]
 congr 1
 refine List.filter_congr fun e _ => ?_
 rw [allB_about (by decide)]
 rw [Bool.and_comm]; rfl
theorem c2096 {h : LH} (hk : Kinds h.get) {f : TC} {x : TF} (hx : TreatyR h.get f x) (hsum : IsI (x.start + x.depend)) (k i fr : Int) : Gr Tryz.prog 247 #[matV f x k i, .int .i64 fr] h fun r _ => r = .int .i64 (falls x i fr) := by
 refine w2096 _ _ _ _ _ _ _ _ _ _ _ _ X0_ok ?_
 unfold n2096
 refine t_all X0_ok hk hx k i 4 (by decide) ?_
 intro v h₁ L le1 hL1 hL2 hH
 rw [falls, fallsL_all x k i fr]
 generalize hF : x.events.filter (allB 4 k i) = F at hL1 hL2
 refine t_each (LH.le_refl h₁) hH (fun j vs h' => ∃ d : Int, vs = [.int .i64 d] ∧ d ≤ 10000 ∧ least ((F.filter fun e => decide (e.since ≤ x.start + x.depend) && decide (fr ≤ e.day)).map (·.day)) = leastFrom d (((F.drop j).filter fun e => decide (e.since ≤ x.start + x.depend) && decide (fr ≤ e.day)).map (·.day)))
  ⟨10000, rfl, Int.le_refl _, (leastFrom_cap _).symm⟩ ?_ ?_
 ·rintro vs h' hle ⟨d, rfl, _, hc⟩
  rw [List.drop_eq_nil_of_le (by omega)] at hc
  refine gZ ?_
  exact t_ret ⟨LH.le_trans le1 hle, by rw [hc]; rfl⟩
 ·rintro j xs vs h' hj hle ⟨d, rfl, hd, hc⟩ Y hY
  obtain ⟨e, q, m, c, he, rfl, hit⟩ := hL2 j xs hj
  rw [drop_of he, List.filter_cons] at hc
  unfold evV
  refine gZ ?_
  rw [wrap_id hsum.1 hsum.2]
  refine t_if (fun e1 => ?_) (fun e1 => ?_)
  ·refine t_if (fun e2 => ?_) (fun e2 => ?_)
   ·rw [if_pos (by simp; omega), List.map_cons, leastFrom] at hc
    exact t_againE hle (hY _ _ hle ⟨_, rfl, by split <;> omega, hc⟩)
   ·rw [if_neg (by simp; omega)] at hc
    exact t_againE hle (hY _ _ hle ⟨_, rfl, hd, hc⟩)
  ·rw [if_neg (by simp; omega)] at hc
   exact t_againE hle (hY _ _ hle ⟨_, rfl, hd, hc⟩)
theorem c2094 {h : LH} (hk : Kinds h.get) {f : TC} {x : TF} (hx : TreatyR h.get f x) (k i fr : Int) : Gr Tryz.prog 243 #[matV f x k i, .int .i64 fr] h fun r _ => r = .int .i64 (limits x k i fr) := by
 refine w2094 _ _ _ _ _ _ _ _ _ _ _ _ X0_ok ?_
 unfold n2094
 refine t_all X0_ok hk hx k i 3 (by decide) ?_
 intro v h₁ L le1 hL1 hL2 hH
 rw [limits, limitsL_all x k i fr]
 generalize hF : x.events.filter (allB 3 k i) = F at hL1 hL2
 refine t_each (LH.le_refl h₁) hH (fun j vs h' => ∃ d : Int, vs = [.int .i64 d] ∧ d ≤ 10000 ∧ least ((F.filter fun e => decide (fr ≤ e.day)).map (·.day)) = leastFrom d (((F.drop j).filter fun e => decide (fr ≤ e.day)).map (·.day)))
  ⟨10000, rfl, Int.le_refl _, (leastFrom_cap _).symm⟩ ?_ ?_
 ·rintro vs h' hle ⟨d, rfl, _, hc⟩
  rw [List.drop_eq_nil_of_le (by omega)] at hc
  refine gZ ?_
  exact t_ret ⟨LH.le_trans le1 hle, by rw [hc]; rfl⟩
 ·rintro j xs vs h' hj hle ⟨d, rfl, hd, hc⟩ Y hY
  obtain ⟨e, q, m, c, he, rfl, hit⟩ := hL2 j xs hj
  rw [drop_of he, List.filter_cons] at hc
  unfold evV
  refine gZ ?_
  refine t_if (fun e2 => ?_) (fun e2 => ?_)
  ·rw [if_pos (by simp; omega), List.map_cons, leastFrom] at hc
   exact t_againE hle (hY _ _ hle ⟨_, rfl, by split <;> omega, hc⟩)
  ·rw [if_neg (by simp; omega)] at hc
   exact t_againE hle (hY _ _ hle ⟨_, rfl, hd, hc⟩)
end Go.Proofs.YtldamlcehbdkdaaGreatDoor.Tre
end
section
namespace Go.TM
open Go Go.Conc
variable {P : Program} {E : Halt → Cells → Prop}
theorem lwp_pure' {α : Type} {a : α} {Q : α → Cells → Prop} {h : Cells} : Sem.lwp P (Sem.pure a) Q E h = Q a h := rfl
structure Keys (es : Array MapEntry) (c : Nat) (l : List Int) : Prop where
 keys : es.toList.map (·.key) = l.map (Value.int .i64)
 nodup : l.Nodup
 born : (es.toList.map (·.born)).Nodup
 lt : ∀ e ∈ es.toList, e.born < c
def MapOf (h : Cells) (m : Nat) (l : List Int) : Prop := ∃ es c, h m = some (true, .map es c) ∧ Keys es c l
theorem Keys.nil : Keys #[] 0 [] := ⟨rfl, List.nodup_nil, List.nodup_nil, fun e he => by simp at he⟩
theorem Keys.isKey {es : Array MapEntry} {c : Nat} {l : List Int} (k : Keys es c l) {kt : TypeId} (ht : isI64 P kt = true) : ∀ e ∈ es.toList, IsKey P kt e.key := by
 intro e he
 have : e.key ∈ es.toList.map (·.key) := List.mem_map.2 ⟨e, he, rfl⟩
 rw [k.keys] at this
 obtain ⟨n, _, hn⟩ := List.mem_map.1 this
 exact .inl ⟨ht, n, hn.symm⟩
variable {X : XP} {Q : Leaf → LH → Prop}
theorem t_putKey {h : LH} {K : Value → T} {t kt et : TypeId} {m : Nat} {l : List Int} {k : Int} {v : Value} (hu : P.underlying t = some (.map kt et)) (ht : isI64 P kt = true) (hm : MapOf h.get m l)
  (hq : ∀ es c l', (h.get.upd m (true, .map es c)) m = some (true, .map es c) → Keys es c l' → (∀ x, x ∈ l' ↔ x = k ∨ x ∈ l) → (K undef).wp X P Q { h with get := h.get.upd m (true, .map es c) }) : (T.sem false (Sem.bind (Instr.mapUpdate t (.map (some m)) (.int .i64 k) v) fun _ => pure (.tuple #[])) K).wp X P Q h := by
 obtain ⟨es, c, hmc, hK⟩ := hm
 refine t_sem (A := fun v h' => v = undef ∧ (K undef).wp X P Q { h with get := h' }) (Sem.lwp_bind _ _ ?_) (by rintro v h' ⟨rfl, hw⟩; exact hw)
 unfold Instr.mapUpdate
 rw [lwp_bind, lwp_underlying hu]
 simp only [lwp_bind]
 refine ⟨_, _, hmc, trivial, ?_⟩
 show Sem.lwp P (_ >>= _) _ _ _
 rw [lwp_bind]
 have hkey : IsKey P kt (.int .i64 k) := .inl ⟨ht, k, rfl⟩
 refine lwp_checkKey hkey ?_
 rw [lwp_bind]
 refine lwp_findKey hkey (hK.isKey ht) (fun j e he hek => ?_) fun hno => ?_
 ·have he' : es[j]? = some e := by rw [← Array.getElem?_toList]; exact he
  simp only [lwp_bind, Instr.keyThatStays, he', Option.map_some, Option.getD_some, hek, sameBits_key hkey, if_true, lwp_pure]
  refine ⟨⟨_, hmc, trivial⟩, ?_⟩
  have hlist : (es.modify j fun e => { e with key := .int .i64 k, val := v }).toList = es.toList.modify j fun e => { e with key := .int .i64 k, val := v } := by simp
  have hjl : j < es.toList.length := (List.getElem?_eq_some_iff.1 he).1
  have keys' : ((es.modify j fun e => { e with key := .int .i64 k, val := v }).toList).map (·.key) = es.toList.map (·.key) := by
   rw [hlist]
   refine List.ext_getElem? fun i => ?_
   rw [List.getElem?_map, List.getElem?_map, List.getElem?_modify]
   by_cases hij : j = i
   ·subst hij; simp [he, hek]
   ·simp [hij]
  have born' : ((es.modify j fun e => { e with key := .int .i64 k, val := v }).toList).map (·.born) = es.toList.map (·.born) := by
   rw [hlist]
   refine List.ext_getElem? fun i => ?_
   rw [List.getElem?_map, List.getElem?_map, List.getElem?_modify]
   by_cases hij : j = i
   ·subst hij; simp [he]
   ·simp [hij]
  refine ⟨rfl, hq _ _ l (Cells.upd_self _ _ _) ⟨keys'.trans hK.keys, hK.nodup, by rw [born']; exact hK.born, fun e2 he2 => ?_⟩ fun x => ?_⟩
  ·have : e2.born ∈ es.toList.map (·.born) := by rw [← born']; exact List.mem_map.2 ⟨e2, he2, rfl⟩
   obtain ⟨e3, h3, h4⟩ := List.mem_map.1 this
   rw [← h4]; exact hK.lt e3 h3
  ·have : Value.int .i64 k ∈ l.map (Value.int .i64) := by rw [← hK.keys]; exact List.mem_map.2 ⟨e, List.mem_of_getElem? he, hek⟩
   obtain ⟨n, h1, h2⟩ := List.mem_map.1 this
   cases h2
   exact ⟨.inr, fun h => h.elim (fun e => e ▸ h1) id⟩
 ·refine ⟨⟨_, hmc, trivial⟩, rfl, hq _ _ (l ++ [k]) (Cells.upd_self _ _ _) ⟨?_, ?_, ?_, ?_⟩ fun x => ?_⟩
  ·simp [hK.keys]
  ·refine List.nodup_append.2 ⟨hK.nodup, by simp, fun a ha b hb e => ?_⟩
   simp at hb; subst hb; subst e
   have : Value.int .i64 a ∈ es.toList.map (·.key) := by rw [hK.keys]; exact List.mem_map.2 ⟨a, ha, rfl⟩
   obtain ⟨e, h1, h2⟩ := List.mem_map.1 this
   exact hno e h1 h2
  ·simp only [Array.toList_push, List.map_append, List.map_cons, List.map_nil]
   refine List.nodup_append.2 ⟨hK.born, by simp, fun a ha b hb e => ?_⟩
   simp at hb; subst hb; subst e
   obtain ⟨e, h1, h2⟩ := List.mem_map.1 ha
   have := hK.lt e h1
   omega
  ·intro e he
   simp only [Array.toList_push, List.mem_append, List.mem_singleton] at he
   rcases he with he | rfl
   ·have := hK.lt e he; omega
   ·exact Nat.lt_succ_self _
  ·simp [or_comm]
def NextKey (es : Array MapEntry) (seen : Array Nat) (xs : List Value) (seen' : Array Nat) : Prop := ∃ e ∈ es.toList, e.born ∉ seen.toList ∧ xs = [e.key] ∧ seen' = seen.push e.born
def AllSeen (es : Array MapEntry) (seen : Array Nat) : Prop := ∀ e ∈ es.toList, e.born ∈ seen.toList
theorem t_range {h : LH} {K : Value → T} {t kt et : TypeId} {m c : Nat} {es : Array MapEntry} {b : Bool} (hu : P.underlying t = some (.map kt et)) (hm : h.get m = some (b, .map es c))
  (hk : ∀ r, h.get r = none → (K (.pointer (some ⟨r, 0, none⟩))).wp X P Q { h with get := h.get.upd r (true, .mapIter (some m) c #[] c) }) : (T.sem false (Instr.range t (.map (some m))) K).wp X P Q h := by
 refine t_sem (A := fun v h' => ∃ r, h.get r = none ∧ v = .pointer (some ⟨r, 0, none⟩) ∧ h' = h.get.upd r (true, .mapIter (some m) c #[] c)) ?_ (by rintro v h' ⟨r, hr, rfl, rfl⟩; exact hk r hr)
 unfold Instr.range
 simp only [lwp_bind, lwp_underlying hu]
 refine ⟨_, _, hm, trivial, ?_⟩
 show Sem.lwp P (pure _) _ _ _
 rw [lwp_pure]
 intro r hr
 exact ⟨r, hr, rfl, rfl⟩
theorem t_next {h : LH} {K : Value → T} {ty : TypeId} {m r c : Nat} {es : Array MapEntry} {seen : Array Nat} {b : Bool} (hr : h.get r = some (true, .mapIter (some m) c seen c)) (hm : h.get m = some (b, .map es c)) (hlt : ∀ e ∈ es.toList, e.born < c)
  (hend : AllSeen es seen → (K (.tuple #[.bool false])).wp X P Q h)
  (hk : ∀ e ∈ es.toList, e.born ∉ seen.toList → (K (.tuple #[.bool true, e.key, e.val])).wp X P Q { h with get := h.get.upd r (true, .mapIter (some m) c (seen.push e.born) c) }) : (T.sem false (Instr.next (.pointer (some ⟨r, 0, none⟩)) false ty) K).wp X P Q h := by
 refine t_sem (A := fun v h' => (K v).wp X P Q { h with get := h' }) ?_ (fun v h' hw => hw)
 unfold Instr.next
 simp only [lwp_bind]
 refine ⟨_, _, hr, trivial, ?_⟩
 show Sem.lwp P (_ >>= _) _ _ _
 rw [lwp_bind]
 refine ⟨_, _, hm, trivial, ?_⟩
 have hall : (!seen.isEmpty && !es.isEmpty && es.all fun x => decide (x.born ≥ c)) = false := by
  cases he : es.toList with
  | nil =>
   have : es = #[] := by rw [← Array.toList_inj, he]
   simp [this]
  | cons e l =>
   have h1 := hlt e (by rw [he]; simp)
   have h2 : (es.all fun x => decide (x.born ≥ c)) = false := by
    rw [← Array.all_toList, he]
    simp; omega
   simp [h2]
 simp only [lwp_pure', hall, Bool.false_eq_true, if_false, lwp_bind, lwp_pure]
 have hold : ((es.filter fun e => !seen.contains e.born).filter fun x => decide (x.born < c)) = es.filter fun e => !seen.contains e.born := by
  rw [Array.filter_eq_self]
  intro e he
  have := hlt e (Array.mem_toList_iff.2 (Array.mem_filter.1 he).1)
  simp [this]
 have hnew : ((es.filter fun e => !seen.contains e.born).filter fun x => decide (x.born ≥ c)) = #[] := by
  rw [Array.filter_filter]
  refine Array.filter_eq_empty_iff.2 fun e he => ?_
  have := hlt e (Array.mem_toList_iff.2 he)
  simp; omega
 rw [hold, hnew, Array.append_empty]
 by_cases hL : (es.filter fun e => !seen.contains e.born).isEmpty = true
 ·have hL' : (es.filter fun e => !seen.contains e.born) = #[] := Array.isEmpty_iff.1 hL
  rw [hL']
  simp only [Array.isEmpty_empty, if_true, Array.map_empty, Array.append_empty]
  show Sem.lwp P (choose (Question.mapNext 1)) _ _ _
  show (if _ then _ else _)
  rw [if_pos (by rfl)]
  refine hend fun e he => ?_
  have := Array.filter_eq_empty_iff.1 hL' e (Array.mem_toList_iff.1 he)
  simpa using this
 ·rw [Bool.not_eq_true] at hL
  simp only [hL, Bool.false_eq_true, if_false, Array.empty_append, Array.size_map]
  have hpos : 0 < (es.filter fun e => !seen.contains e.born).size := by
   rcases Nat.eq_zero_or_pos (es.filter fun e => !seen.contains e.born).size with h0 | h0
   ·rw [Array.size_eq_zero_iff] at h0; rw [h0] at hL; cases hL
   ·exact h0
  have fin : ∀ i, i < (es.filter fun e => !seen.contains e.born).size → Sem.lwp P (match (Array.map some (es.filter fun e => !seen.contains e.born))[i]? with
   | some (some e) => do
    setObj r (.mapIter (some m) c (seen.push e.born) c)
    pure (.tuple #[.bool true, e.key, e.val])
   | some none => pure (.tuple #[.bool false])
   | none => stuck "Next: no such candidate" : Sem Value) (fun v h' => (K v).wp X P Q { h with get := h' }) (fun _ _ => False) h.get := by
   intro i hi
   have hmem : (es.filter fun e => !seen.contains e.born)[i] ∈ es.filter fun e => !seen.contains e.born := Array.getElem_mem hi
   rw [Array.mem_filter] at hmem
   have hget : (Array.map some (es.filter fun e => !seen.contains e.born))[i]? = some (some (es.filter fun e => !seen.contains e.born)[i]) := by simp [hi]
   rw [hget]
   simp only [lwp_bind]
   refine ⟨⟨_, hr, trivial⟩, ?_⟩
   simp only [lwp_pure', lwp_pure]
   refine hk _ (Array.mem_toList_iff.2 hmem.1) ?_
   have := hmem.2
   simpa using this
  show (if _ then _ else _)
  split
  ·exact fin 0 hpos
  ·exact fun t => fin _ (Nat.mod_lt _ hpos)
theorem t_entry {h : LH} {K : Value → T} {m r c : Nat} {es : Array MapEntry} {seen : Array Nat} {e : MapEntry} {b : Bool} (hr : h.get r = some (true, .mapIter (some m) c (seen.push e.born) c)) (hm : h.get m = some (b, .map es c)) (he : e ∈ es.toList) (hb : (es.toList.map (·.born)).Nodup)
  (hk : (K (.tuple #[e.key, e.val])).wp X P Q h) : (T.sem false (Instr.entry (.pointer (some ⟨r, 0, none⟩))) K).wp X P Q h := by
 refine t_sem (A := fun v h' => v = .tuple #[e.key, e.val] ∧ h' = h.get) ?_ (by rintro v h' ⟨rfl, rfl⟩; exact hk)
 unfold Instr.entry
 simp only [lwp_bind]
 refine ⟨_, _, hr, trivial, ?_⟩
 simp only [lwp_pure', Array.back?_push, lwp_bind]
 refine ⟨_, _, hm, trivial, ?_⟩
 have hf : es.find? (fun x => x.born == e.born) = some e := by
  rw [← Array.find?_toList]
  have : ∀ l : List MapEntry, e ∈ l → (l.map (·.born)).Nodup → l.find? (fun x => x.born == e.born) = some e := by
   intro l
   induction l with
   | nil => intro h; simp at h
   | cons a l ih =>
    intro h1 h2
    simp only [List.map_cons, List.nodup_cons] at h2
    rw [List.find?_cons]
    rcases List.mem_cons.1 h1 with rfl | h1
    ·simp
    ·have hne : (a.born == e.born) = false := by
      cases hb : (a.born == e.born) with
      | false => rfl
      | true => exact absurd (List.mem_map.2 ⟨e, h1, (eq_of_beq hb).symm⟩) h2.1
     rw [hne]; exact ih h1 h2.2
  exact this _ he hb
 simp only [lwp_pure', bne_self_eq_false, Bool.false_eq_true, if_false, lwp_bind, lwp_pure, hf]
 exact ⟨trivial, trivial⟩
end Go.TM
end
section
namespace Go.TM
open Go Go.Conc
variable {P : Program} {X : XP} {Q : Leaf → LH → Prop}
theorem t_push {α : Type} {Enc : α → List Value → Prop} {h h₀ : LH} {K : Value → T} {ts : Array TypeId} {ty t el : TypeId} {s by_ : Nat} {z : Value} {parts : Array (Nat × Value)} {p : Option Addr} {n c : Nat} {l : List α} (x : α) (ws : List Value) (h0 : ts[0]? = some t) (h1 : ts[1]? = some t) (hu : P.underlying t = some (.slice el))
  (hi : (P.info? el).map (fun i => (i.size, i.bytes, i.zero)) = some (s, by_, some z)) (hsz : z.cells.size = s) (hb : by_ ≤ 1024) (hs : 1 * s ≤ 2 ^ 24 ∧ 1 * s ≠ 0) (hf : Instr.fill (fun i => some (i * s, s)) ((Array.range (1 * s)).map (z.cells[· % z.cells.size]!)) parts.toList = some ws.toArray)
  (hl : ws.length = s) (one : ∀ v ∈ ws, isOne v = true) (hn : n + 1 ≤ 2 ^ 30) (g : Growing Enc el s h₀.get h.get p n c l) (hle : h₀.le h) (he : Enc x ws)
  (hk : ∀ p' c' h', h₀.le h' → (∀ r y, (∀ a, p = some a → a.block ≠ r) → h.get r = some y → h'.get r = some y) → Growing Enc el s h₀.get h'.get p' (n + 1) c' (l ++ [x]) → (K (.slice p' (n + 1) c')).wp X P Q h') :
  (T.sem false (Instr.buildSlice t 1 parts) fun v => T.unS v fun a m mc => T.sem false (Builtin.append_ ts ty #[.slice p n c, .slice a m mc]) K).wp X P Q h := by
 refine t_build hu hi hs.1 hs.2 hf fun r hr => ?_
 have le2 : h.le _ := LH.upd_le (x := (true, .cells ws.toArray el (0, 0))) hr
 refine gG ?_
 refine t_grow (h₀ := h₀) (x := x) (ws := ws) h0 h1 hu hu hi hsz hb hn (g.le le2.1) (LH.le_trans hle le2) he hl ?_ one fun p' c' h' hle' hkept g' => hk p' c' h' hle' (fun b y hb hy => hkept b y hb (le2.1 b y hy)) g'
 intro j w hj
 rw [add_plain, Nat.zero_add]
 exact cell_upd (by simpa using hj)
end Go.TM
namespace Go.TM
open Go Go.Conc
variable {P : Program} {X : XP} {Q : Leaf → LH → Prop}
theorem t_buildR {h : LH} {k : Value → T} {t el : TypeId} {n s b : Nat} {parts : Array (Nat × Value)} {z : Value} (ws : List Value) (hu : P.underlying t = some (.slice el)) (hi : (P.info? el).map (fun i => (i.size, i.bytes, i.zero)) = some (s, b, some z)) (hn : n * s ≤ 2 ^ 24) (hpos : n * s ≠ 0)
  (hf : Instr.fill (fun i => some (i * s, s)) ((Array.range (n * s)).map (z.cells[· % z.cells.size]!)) parts.toList = some ws.toArray)
  (hk : ∀ r h', h.le h' → h.get r = none → (∀ (j : Nat) w, ws[j]? = some w → h'.get.cell? (Addr.add ⟨r, 0, none⟩ j) = some w) → (k (.slice (some ⟨r, 0, none⟩) n n)).wp X P Q h') : (T.sem false (Instr.buildSlice t n parts) k).wp X P Q h :=
 t_build hu hi hn hpos hf fun r hr => hk r _ (LH.upd_le hr) hr fun j w hj => by
  rw [add_plain, Nat.zero_add]
  exact cell_upd (by simpa using hj)
theorem t_growR {α : Type} {Enc : α → List Value → Prop} {h h₀ : LH} {k : Value → T} {ts : Array TypeId} {ty t el : TypeId} {s by_ : Nat} {z : Value} {p : Option Addr} {n c mc r : Nat} {l : List α} (x : α) (ws : List Value) (h0 : ts[0]? = some t) (h1 : ts[1]? = some t) (hu : P.underlying t = some (.slice el))
  (hi : (P.info? el).map (fun i => (i.size, i.bytes, i.zero)) = some (s, by_, some z)) (hsz : z.cells.size = s) (hb : by_ ≤ 1024) (hn : n + 1 ≤ 2 ^ 30) (g : Growing Enc el s h₀.get h.get p n c l) (hle : h₀.le h) (he : Enc x ws) (hl : ws.length = s) (hc : ∀ (j : Nat) w, ws[j]? = some w → h.get.cell? (Addr.add ⟨r, 0, none⟩ j) = some w) (one : ∀ v ∈ ws, isOne v = true)
  (hk : ∀ p' c' h', h₀.le h' → (∀ r y, (∀ a, p = some a → a.block ≠ r) → h.get r = some y → h'.get r = some y) → Growing Enc el s h₀.get h'.get p' (n + 1) c' (l ++ [x]) → (k (.slice p' (n + 1) c')).wp X P Q h') : (T.sem false (Builtin.append_ ts ty #[.slice p n c, .slice (some ⟨r, 0, none⟩) 1 mc]) k).wp X P Q h :=
 t_grow (h₀ := h₀) (x := x) (ws := ws) h0 h1 hu hu hi hsz hb hn g hle he hl hc one hk
end Go.TM
namespace Go.TM
open Go Go.Conc
variable {P : Program} {X : XP} {Q : Leaf → LH → Prop}
theorem setCell_updU {h : Cells} {r o : Nat} {cs : Array Value} {el : TypeId} {fz : Nat × Nat} {v : Value} : (h.upd r (true, .cells cs el fz)).setCell ⟨r, o, none⟩ v = h.upd r (true, .cells (cs.setIfInBounds o v) el fz) := by
 funext k
 unfold Cells.setCell Cells.upd
 by_cases e : k = r
 ·subst e; simp
 ·simp [e]
theorem frozen_upd {h : Cells} {r o : Nat} {cs : Array Value} {el : TypeId} : (h.upd r (true, .cells cs el (0, 0))).frozen? ⟨r, o, none⟩ = false := by
 unfold Cells.frozen?
 simp [Cells.upd]
theorem t_storeU {h : LH} {r o : Nat} {cs : Array Value} {el : TypeId} {a : Addr} {v : Value} {k : T} (ha : a = ⟨r, o, none⟩) (h1 : isOne v = true) (ho : o < cs.size) (hk : k.wp X P Q { h with get := h.get.upd r (true, .cells (cs.setIfInBounds o v) el (0, 0)) }) :
  (T.store a v k).wp X P Q { h with get := h.get.upd r (true, .cells cs el (0, 0)) } := by
 subst ha
 refine t_store (v₀ := cs[o]) h1 ⟨_, Cells.upd_self _ _ _⟩ (cell_upd (by simp [ho])) frozen_upd ?_
 show k.wp X P Q { h with get := (h.get.upd r (true, .cells cs el (0, 0))).setCell ⟨r, o, none⟩ v }
 rw [setCell_updU]; exact hk
def BoolE (h : Cells) (a : Addr) (b : Bool) : Prop := h.cell? (a.add 0) = some (.bool b)
theorem BoolE.grow : Grow BoolE := fun _ _ _ _ hl h => hl _ _ h
end Go.TM
end
section
namespace Go.Proofs.YtldamlcehbdkdaaGreatDoor.Tre
open Go Go.TM Go.Proofs Go.TM.Tr
attribute [local irreducible] T.wp CV FWK
theorem c2097 {h : LH} (hk : Kinds h.get) {f : TC} {x : TF} (hx : TreatyR h.get f x) {z0 z1 : Addr} {k i d : Int} (hm : MatAt h.get z0 f x k i) (hz : h.get.cell? z1 = some (.int .i64 d)) (fr : Int) :
  Gr Tryz.prog 248 #[.int .i64 fr, .pointer (some z0), .pointer (some z1)] h fun r _ => r = .bool (lifted x k i fr d) := by
 refine w2097 _ _ _ X0_ok ?_
 unfold n2097
 obtain ⟨f0, f1, f2, f3, f4, f5, f6, f7, f8⟩ := hm
 refine gZ ?_
 refine t_all X0_ok hk hx k i 2 (by decide) ?_
 intro v h₁ L le1 hL1 hL2 hH
 have hlift : lifted x k i fr d = (x.events.filter (allB 2 k i)).any fun l => decide (fr ≤ l.day ∧ l.day ≤ d) := by
  unfold Tr.lifted
  rw [List.any_filter]
  refine congrArg (fun q => x.events.any q) (funext fun e => ?_)
  rw [allB_about (by decide)]; rfl
 rw [hlift]
 generalize hF : x.events.filter (allB 2 k i) = F at hL1 hL2
 have hz1 := Cells.cell?_le le1.1 hz
 refine t_each (LH.le_refl h₁) hH (fun j vs h' => vs = [.bool false] ∧ (F.any fun l => decide (fr ≤ l.day ∧ l.day ≤ d)) = (F.drop j).any fun l => decide (fr ≤ l.day ∧ l.day ≤ d)) ⟨rfl, rfl⟩ ?_ ?_
 ·rintro vs h' hle ⟨rfl, hc⟩
  rw [List.drop_eq_nil_of_le (by omega)] at hc
  refine gZ ?_
  exact t_ret ⟨LH.le_trans le1 hle, by rw [hc]; rfl⟩
 ·rintro j xs vs h' hj hle ⟨rfl, hc⟩ Y hY
  obtain ⟨e, q, m, c, he, rfl, hit⟩ := hL2 j xs hj
  rw [drop_of he, List.any_cons] at hc
  have hz2 := Cells.cell?_le hle.1 hz1
  unfold evV
  refine gZ ?_
  refine t_pu (c2052 _ _ _) ?_
  refine gZ ?_
  refine t_cond (fun e1 => ?_) (fun e1 => ?_)
  ·refine t_retnE hle ?_
   have e1' : decide (fr ≤ e.day ∧ e.day ≤ d) = true := by simpa [inB] using e1
   rw [e1', Bool.true_or] at hc
   refine gZ ?_
   exact t_ret ⟨LH.le_trans le1 hle, by rw [hc]⟩
  ·have e1' : decide (fr ≤ e.day ∧ e.day ≤ d) = false := by simpa [inB] using e1
   rw [e1', Bool.false_or] at hc
   exact t_againE hle (hY _ _ hle ⟨rfl, hc⟩)
def askCells (f : TC) (x : TF) (k i a : Int) : List Value := [.int .i64 x.items, .int .i64 x.lands, .int .i64 x.start, .int .i64 x.depend, .int .i64 x.refuse, .int .i64 x.turn, .slice f.p f.n f.c, .int .i64 k, .int .i64 i, .int .i64 a, .int .i64 (askEnd x k i a), .bool (fallen x k i a)]
def askV (f : TC) (x : TF) (k i a : Int) : Value := .agg #[.int .i64 x.items, .int .i64 x.lands, .int .i64 x.start, .int .i64 x.depend, .int .i64 x.refuse, .int .i64 x.turn, .slice f.p f.n f.c, .int .i64 k, .int .i64 i, .int .i64 a, .int .i64 (askEnd x k i a), .bool (fallen x k i a)]
def AskE (f : TC) (x : TF) (k i : Int) (h : Cells) (a : Addr) (d : Int) : Prop := ∀ (j : Nat) w, (askCells f x k i d)[j]? = some w → h.cell? (a.add j) = some w
def AskEnc (f : TC) (x : TF) (k i : Int) (d : Int) (ws : List Value) : Prop := ws = askCells f x k i d
theorem AskE.grow {f : TC} {x : TF} {k i : Int} : Grow (AskE f x k i) := fun _ _ _ _ hl h j w hj => hl _ _ (h j w hj)
theorem AskEnc.len {f : TC} {x : TF} {k i : Int} : ∀ d ws, AskEnc f x k i d ws → ws.length = 12 := by rintro d _ rfl; rfl
theorem AskEnc.e {f : TC} {x : TF} {k i : Int} {h' : Cells} : ∀ a d ws, AskEnc f x k i d ws → (∀ (j : Nat) w, ws[j]? = some w → h'.cell? (a.add j) = some w) → AskE f x k i h' a d := by
 rintro a d _ rfl hc; exact hc
theorem refused_any (x : TF) (k i a d : Int) : refused x k i a d = (x.events.filter (allB 1 k i)).any fun r => decide (a ≤ r.day ∧ r.day ≤ a + x.refuse ∧ r.day ≤ d) && !lifted x k i r.day d := by
 unfold Tr.refused
 rw [List.any_filter]
 refine congrArg (fun q => x.events.any q) (funext fun e => ?_)
 rw [allB_about (by decide)]; rfl
theorem in_min (n a b d : Int) : inB n a (if b < d then b else d) = decide (a ≤ n ∧ n ≤ b ∧ n ≤ d) := by
 unfold inB
 rw [Bool.eq_iff_iff]
 simp only [Bool.and_eq_true, decide_eq_true_eq]
 split <;> omega
theorem c2085 {h : LH} (hk : Kinds h.get) {f : TC} {x : TF} (hx : TreatyR h.get f x) (k i : Int) {a : Int} (ha : IsI (a + x.refuse)) (e : Int) (fl : Bool) (d : Int) :
  Gr Tryz.prog 201 #[.agg #[.int .i64 x.items, .int .i64 x.lands, .int .i64 x.start, .int .i64 x.depend, .int .i64 x.refuse, .int .i64 x.turn, .slice f.p f.n f.c, .int .i64 k, .int .i64 i, .int .i64 a, .int .i64 e, .bool fl], .int .i64 d] h fun r _ => r = .bool (refused x k i a d) := by
 refine w2085 _ _ _ _ _ _ _ _ _ _ _ _ _ _ _ X0_ok ?_
 unfold n2085
 refine t_new fun r hr => ?_
 refine t_new fun r1 hr1 => ?_
 have l1 : h.le _ := LH.upd_le (x := (true, .cells #[.int .i64 x.items, .int .i64 x.lands, .int .i64 x.start, .int .i64 x.depend, .int .i64 x.refuse, .int .i64 x.turn, .slice f.p f.n f.c, .int .i64 k, .int .i64 i, .int .i64 a, .int .i64 e, .bool fl] 233 (0, 0))) hr
 have l2 := LH.upd_le (x := (true, .cells #[.int .i64 d] 3 (0, 0))) hr1
 have hm : MatAt (h.get.upd r (true, .cells #[.int .i64 x.items, .int .i64 x.lands, .int .i64 x.start, .int .i64 x.depend, .int .i64 x.refuse, .int .i64 x.turn, .slice f.p f.n f.c, .int .i64 k, .int .i64 i, .int .i64 a, .int .i64 e, .bool fl] 233 (0, 0))) ⟨r, 0, none⟩ f x k i := by
  constructor <;> (rw [add_plain, add_plain]; exact cell_upd rfl)
 have h9 : Cells.cell? (h.get.upd r (true, .cells #[.int .i64 x.items, .int .i64 x.lands, .int .i64 x.start, .int .i64 x.depend, .int .i64 x.refuse, .int .i64 x.turn, .slice f.p f.n f.c, .int .i64 k, .int .i64 i, .int .i64 a, .int .i64 e, .bool fl] 233 (0, 0))) (Addr.add ⟨r, 0, none⟩ 9) = some (.int .i64 a) := by rw [add_plain]; exact cell_upd rfl
 have hz := cell_upd (h := h.get.upd r (true, .cells #[.int .i64 x.items, .int .i64 x.lands, .int .i64 x.start, .int .i64 x.depend, .int .i64 x.refuse, .int .i64 x.turn, .slice f.p f.n f.c, .int .i64 k, .int .i64 i, .int .i64 a, .int .i64 e, .bool fl] 233 (0, 0))) (r := r1) (i := 0) (m := true) (cs := #[.int .i64 d]) (el := 3) (f := (0, 0)) (v := .int .i64 d) rfl
 have hm := hm.le l2.1
 have h9 := Cells.cell?_le l2.1 h9
 have l12 := LH.le_trans l1 l2
 generalize hh : ({ h with get := (h.get.upd r (true, .cells #[.int .i64 x.items, .int .i64 x.lands, .int .i64 x.start, .int .i64 x.depend, .int .i64 x.refuse, .int .i64 x.turn, .slice f.p f.n f.c, .int .i64 k, .int .i64 i, .int .i64 a, .int .i64 e, .bool fl] 233 (0, 0))).upd r1 (true, .cells #[.int .i64 d] 3 (0, 0)) } : LH) = h2 at l12 ⊢
 have hm : MatAt h2.get ⟨r, 0, none⟩ f x k i := by rw [← hh]; exact hm
 have h9 : h2.get.cell? (Addr.add ⟨r, 0, none⟩ 9) = some (.int .i64 a) := by rw [← hh]; exact h9
 have hz : h2.get.cell? ⟨r1, 0, none⟩ = some (.int .i64 d) := by rw [← hh]; exact hz
 clear hh l1 l2
 have hm2 := hm
 obtain ⟨f0, f1, f2, f3, f4, f5, f6, f7, f8⟩ := hm
 refine gZ ?_
 refine t_all X0_ok (hk.le l12.1) (hx.le l12.1) k i 1 (by decide) ?_
 intro v h₁ L le1 hL1 hL2 hH
 rw [refused_any]
 generalize hF : x.events.filter (allB 1 k i) = F at hL1 hL2
 have hm3 := hm2.le le1.1
 have h93 := Cells.cell?_le le1.1 h9
 have hz3 := Cells.cell?_le le1.1 hz
 refine t_each (LH.le_refl h₁) hH (fun j vs h' => vs = [.bool false] ∧ (F.any fun r => decide (a ≤ r.day ∧ r.day ≤ a + x.refuse ∧ r.day ≤ d) && !lifted x k i r.day d) = (F.drop j).any fun r => decide (a ≤ r.day ∧ r.day ≤ a + x.refuse ∧ r.day ≤ d) && !lifted x k i r.day d) ⟨rfl, rfl⟩ ?_ ?_
 ·rintro vs h' hle ⟨rfl, hc⟩
  rw [List.drop_eq_nil_of_le (by omega)] at hc
  refine gZ ?_
  exact t_ret ⟨LH.le_trans l12 (LH.le_trans le1 hle), by rw [hc]; rfl⟩
 ·rintro j xs vs h' hj hle ⟨rfl, hc⟩ Y hY
  obtain ⟨ev, q, m, c, he, rfl, hit⟩ := hL2 j xs hj
  rw [drop_of he, List.any_cons] at hc
  have hm4 := hm3.le hle.1
  have h94 := Cells.cell?_le hle.1 h93
  have hz4 := Cells.cell?_le hle.1 hz3
  have f44 : h'.get.cell? (Addr.add (Addr.add (Addr.add ⟨r, 0, none⟩ 0) 0) 4) = some (.int .i64 x.refuse) := by
   have := hm4.f4
   rwa [show Addr.add (Addr.add (⟨r, 0, none⟩ : Addr) 0) 0 = Addr.add ⟨r, 0, none⟩ 0 by rw [add_zero']]
  unfold evV
  refine gZ ?_
  rw [wrap_id ha.1 ha.2]
  refine t_pu (c2052 _ _ _) ?_
  rw [in_min]
  refine gZ ?_
  refine t_cond (fun e1 => ?_) (fun e1 => ?_)
  ·rw [e1, Bool.true_and] at hc
   have le24 := LH.le_trans le1 hle
   refine t_callv (cv_fw X0_ok (by rfl) (c2097 ((hk.le l12.1).le le24.1) ((hx.le l12.1).le le24.1) hm4 hz4 ev.day)) ?_
   rintro _ h5 ⟨le5, rfl⟩
   refine gZ ?_
   refine t_cond (fun e2 => ?_) (fun e2 => ?_)
   ·refine t_retnE (LH.le_trans hle le5) ?_
    refine gZ ?_
    rw [e2, Bool.true_or] at hc
    exact t_ret ⟨LH.le_trans l12 (LH.le_trans le24 le5), by rw [hc]⟩
   ·rw [e2, Bool.false_or] at hc
    exact t_againE (LH.le_trans hle le5) (hY _ _ (LH.le_trans hle le5) ⟨rfl, hc⟩)
  ·rw [e1, Bool.false_and, Bool.false_or] at hc
   exact t_againE hle (hY _ _ hle ⟨rfl, hc⟩)
theorem c2137 {h : LH} (hk : Kinds h.get) {f : TC} {x : TF} (hx : TreatyR h.get f x) (k i : Int) {a : Int} (ha : IsI (a + x.refuse)) (he : IsI (askEnd x k i a - 1)) (d : Int) :
  Gr Tryz.prog 297 #[askV f x k i a, .int .i64 d] h fun r _ => r = .tuple #[.int .i64 a, .bool (decide (a ≤ d ∧ d < askEnd x k i a) && !refused x k i a d)] := by
 refine w2137 _ _ _ _ _ _ _ _ _ _ _ _ _ _ _ X0_ok ?_
 unfold n2137
 rw [wrap_id he.1 he.2]
 have hin : inB d a (askEnd x k i a - 1) = decide (a ≤ d ∧ d < askEnd x k i a) := by
  unfold inB
  rw [Bool.eq_iff_iff]
  simp only [Bool.and_eq_true, decide_eq_true_eq]
  omega
 refine t_pu (c2052 _ _ _) ?_
 rw [hin]
 refine gZ ?_
 refine t_cond (fun e1 => ?_) (fun e1 => ?_)
 ·refine t_gr (c2085 hk hx k i ha _ _ d) ?_
  rintro _ h1 le1 rfl
  refine gZ ?_
  exact t_ret ⟨le1, by rw [e1, Bool.true_and]⟩
 ·refine gZ ?_
  refine t_both ?_ ?_
  ·refine gZ ?_
   exact t_ret ⟨LH.le_refl _, by rw [e1, Bool.false_and]⟩
  ·refine gZ ?_
   exact t_ret ⟨LH.le_refl _, by rw [e1, Bool.false_and]⟩
theorem askDays_all (x : TF) (k i : Int) : askDays x k i = ((x.events.filter (allB 0 k i)).filter fun e => decide (e.day < falls x i 0)).map (·.day) := by
 unfold askDays
 rw [List.filter_filter]
 congr 1
 refine List.filter_congr fun e _ => ?_
 rw [allB_about (by decide), Bool.and_comm]; rfl
theorem c2084 {h : LH} (hk : Kinds h.get) {f : TC} {x : TF} (hx : TreatyR h.get f x) (hsum : IsI (x.start + x.depend)) (hlen : x.events.length ≤ 1000) (k i : Int) :
  Gr Tryz.prog 200 #[matV f x k i] h fun r h' => ∃ p n c, r = .slice p n c ∧ Sl (AskE f x k i) 12 h'.get p n (askDays x k i) := by
 refine w2084 _ _ _ _ _ _ _ _ _ _ _ X0_ok ?_
 unfold n2084
 refine t_all X0_ok hk hx k i 0 (by decide) ?_
 intro v h₁ L le1 hL1 hL2 hH
 rw [askDays_all]
 have hFl : (x.events.filter (allB 0 k i)).length ≤ 1000 := Nat.le_trans (List.length_filter_le _ _) hlen
 generalize hF : x.events.filter (allB 0 k i) = F at hL1 hL2 hFl
 refine t_each (LH.le_refl h₁) hH (fun j vs h' => ∃ (p : Option Addr) (n c : Nat), vs = [.slice p n c] ∧ Growing (AskEnc f x k i) 233 12 h₁.get h'.get p n c (((F.take j).filter fun e => decide (e.day < falls x i 0)).map (·.day)))
  ⟨none, 0, 0, rfl, Growing.nil⟩ ?_ ?_
 ·rintro vs h' hle ⟨p, n, c, rfl, g⟩
  rw [hL1, List.take_of_length_le (Nat.le_refl _)] at g
  refine gZ ?_
  refine t_ret ⟨LH.le_trans le1 hle, p, n, c, rfl, g.sl AskEnc.len (by omega) AskEnc.e ?_⟩
  rw [List.length_map]
  have := List.length_filter_le (fun e : Ev => decide (e.day < falls x i 0)) F
  omega
 ·rintro j xs vs h' hj hle ⟨p, n, c, rfl, g⟩ Y hY
  obtain ⟨e, q, m, cc, he, rfl, hit⟩ := hL2 j xs hj
  have htake : F.take (j + 1) = F.take j ++ [e] := by rw [List.take_add_one, he]; rfl
  have le2 := LH.le_trans le1 hle
  unfold evV
  refine gZ ?_
  refine t_gr (c2096 (hk.le le2.1) (hx.le le2.1) hsum k i 0) ?_
  rintro _ h3 le3 rfl
  refine gZ ?_
  refine t_if (fun e1 => ?_) (fun e1 => ?_)
  ·refine t_againE (LH.le_trans hle le3) (hY _ _ (LH.le_trans hle le3) ⟨p, n, c, rfl, ?_⟩)
   rw [htake, List.filter_append, List.filter_cons, if_neg (by simp; omega)]
   simpa using g.le le3.1
  have le23 := LH.le_trans le2 le3
  refine t_gr (c2096 (hk.le le23.1) (hx.le le23.1) hsum k i e.day) ?_
  rintro _ h4 le4 rfl
  refine gZ ?_
  have le24 := LH.le_trans le23 le4
  refine t_gr (c2094 (hk.le le24.1) (hx.le le24.1) k i e.day) ?_
  rintro _ h5 le5 rfl
  refine gZ ?_
  have hle5 := LH.le_trans hle (LH.le_trans le3 (LH.le_trans le4 le5))
  have hn : n ≤ 1000 := by
   rw [g.count AskEnc.len (by omega), List.length_map]
   have h1 := List.length_filter_le (fun e : Ev => decide (e.day < falls x i 0)) (F.take j)
   have h2 : (F.take j).length ≤ 1000 := by rw [List.length_take]; omega
   omega
  refine t_push e.day (askCells f x k i e.day) rfl rfl undAsks infAsk rfl (by omega) (by decide) (by kernel_rfl) rfl ?_ (by omega) (g.le (LH.le_trans le3 (LH.le_trans le4 le5)).1) hle5 rfl ?_
  ·intro w hw
   simp only [askCells, List.mem_cons, List.not_mem_nil, or_false] at hw
   rcases hw with rfl | rfl | rfl | rfl | rfl | rfl | rfl | rfl | rfl | rfl | rfl | rfl <;> rfl
  ·intro p' c' h6 le6 _ g6
   refine gZ ?_
   refine t_againE le6 (hY _ _ le6 ⟨p', _, c', rfl, ?_⟩)
   rw [htake, List.filter_append, List.filter_cons, if_pos (by simp; omega), List.map_append]
   exact g6
end Go.Proofs.YtldamlcehbdkdaaGreatDoor.Tre
end
section
namespace Go.Proofs.YtldamlcehbdkdaaGreatDoor.Tre
open Go Go.TM Go.Proofs Go.TM.Tr
attribute [local irreducible] T.wp CV FWK
structure Right (x : TF) : Prop where
 ok : Ok x
 start : 0 ≤ x.start ∧ x.start ≤ 9999
 depend : 0 ≤ x.depend ∧ x.depend ≤ 9999
 refuse : 0 ≤ x.refuse ∧ x.refuse ≤ 9999
 turn : 0 ≤ x.turn ∧ x.turn ≤ 9999
 many : x.events.length ≤ 10
theorem Right.of {x : TF} (h : checkT x = 0) : Right x := by
 have := check_numbers h
 exact ⟨check_ok h, this.2.2.1, this.2.2.2.1, this.2.2.2.2.1, this.2.2.2.2.2.1, this.2.2.2.2.2.2⟩
theorem Right.sum {x : TF} (r : Right x) : IsI (x.start + x.depend) := by have := r.start; have := r.depend; unfold IsI; omega
theorem Right.askDay {x : TF} (r : Right x) {k i a : Int} (h : a ∈ askDays x k i) : 0 ≤ a ∧ a ≤ 9999 := r.ok.has (mem_asks.1 h).1
theorem falls_low {x : TF} (v : Ok x) (i f : Int) : 0 ≤ falls x i f ∧ falls x i f ≤ 10000 := by
 refine ⟨?_, least_cap _⟩
 rcases least_mem (l := fallsL x i f) with h | h
 ·unfold falls; omega
 ·obtain ⟨e, h1, _, _, h4⟩ := (mem_falls.1 h).1
  have := v e h1
  unfold falls; omega
theorem limits_low {x : TF} (v : Ok x) (k i f : Int) : 0 ≤ limits x k i f ∧ limits x k i f ≤ 10000 := by
 refine ⟨?_, least_cap _⟩
 rcases least_mem (l := limitsL x k i f) with h | h
 ·unfold limits; omega
 ·have := v.has (mem_limits.1 h).1
  unfold limits; omega
theorem askEnd_low {x : TF} (v : Ok x) (k i a : Int) : 0 ≤ askEnd x k i a ∧ askEnd x k i a ≤ 10000 := by
 have h1 := falls_low v i a
 have h2 := limits_low v k i a
 unfold askEnd; split <;> omega
theorem askDays_len (x : TF) (k i : Int) : (askDays x k i).length ≤ x.events.length := by
 unfold askDays; rw [List.length_map]; exact List.length_filter_le _ _
def bestI : Option Int → List Int → Option Int
 | o, [] => o
 | none, a :: l => bestI (some a) l
 | some b, a :: l => bestI (some (if a < b then a else b)) l
theorem bestI_some : ∀ (l : List Int) (b : Int), bestI (some b) l = some (leastFrom b l)
 | [], b => rfl
 | a :: l, b => by rw [bestI, leastFrom, bestI_some l]
theorem bestI_least {l : List Int} (h : ∀ v ∈ l, v < 10000) : leastOr l = match bestI none l with | none => -1 | some n => n := by
 cases l with
 | nil => rfl
 | cons a l =>
  rw [bestI, bestI_some]
  have ha := h a (by simp)
  simp only
  rw [leastFrom_min l a (by omega), leastOr, if_neg (by simp), least_cons]
def zeroAsk : List Value := [.int .i64 0, .int .i64 0, .int .i64 0, .int .i64 0, .int .i64 0, .int .i64 0, .slice none 0 0, .int .i64 0, .int .i64 0, .int .i64 0, .int .i64 0, .bool false]
def bestCells (f : TC) (x : TF) (k i : Int) : Option Int → List Value
 | none => zeroAsk
 | some a => askCells f x k i a
theorem goodBy_step {x : TF} {k i d a : Int} {l : List Int} : (a :: l).filter (goodBy x k i d) = if goodBy x k i d a = true then a :: l.filter (goodBy x k i d) else l.filter (goodBy x k i d) := List.filter_cons
def turnO (x : TF) (k i d : Int) : Option Int := bestI none (turnedL x k i d)
theorem turnO_turned {x : TF} (v : Ok x) (k i d : Int) : turned x k i d = match turnO x k i d with | none => -1 | some n => n :=
 bestI_least fun n hn => (v.turnedL n hn).2
theorem turnO_some {x : TF} (v : Ok x) {k i d n : Int} (h : turnO x k i d = some n) : 0 ≤ n ∧ n = turned x k i d := by
 have h1 := turnO_turned v k i d
 rw [h] at h1
 simp only at h1
 refine ⟨?_, h1.symm⟩
 rcases turned_vals v k i d with ⟨h2, h3⟩ | ⟨h2, _⟩
 ·unfold turnO at h; rw [h3] at h; cases h
 ·have := (v.turnedL _ h2).1; omega
theorem turnO_none {x : TF} (v : Ok x) {k i d : Int} : turnO x k i d = none ↔ ¬ 0 ≤ turned x k i d := by
 have h1 := turnO_turned v k i d
 cases h : turnO x k i d with
 | none =>
  rw [h] at h1; simp only at h1; constructor
  ·intro _; omega
  ·intro _; rfl
 | some n =>
  have := turnO_some v h
  constructor
  ·intro e; cases e
  ·intro h2; omega
set_option maxRecDepth 10000 in
theorem c2064 {h : LH} (hk : Kinds h.get) {f : TC} {x : TF} (hx : TreatyR h.get f x) (rt : Right x) (k i d : Int) :
    Gr Tryz.prog 144 #[matV f x k i, .int .i64 d] h fun r _ => r = .tuple #[.agg (bestCells f x k i (turnO x k i d)).toArray, .bool (turnO x k i d).isSome] := by
  refine w2064 _ _ _ _ _ _ _ _ _ _ _ _ X0_ok ?_
  unfold n2064
  refine t_gr (c2084 hk hx rt.sum (Nat.le_trans rt.many (by omega)) k i) ?_
  rintro _ h₁ le1 ⟨p, n, c, rfl, hs⟩
  refine gZ ?_
  have hn := hs.1
  have hb := hs.2.1
  have hlen := askDays_len x k i
  have hmany := rt.many
  refine t_loop (fun mm vs h' => h₁.le h' ∧ ∃ (j : Nat) (o : Option Int), vs = .bool o.isSome :: .int .i64 j :: bestCells f x k i o ∧ j ≤ n ∧ mm = n - j ∧ turnO x k i d = bestI o (((askDays x k i).drop j).filter (goodBy x k i d)))
    ⟨LH.le_refl _, 0, none, rfl, Nat.zero_le _, rfl, rfl⟩ ?_
  rintro Y mm vs h2 hY ⟨le2, j, o, rfl, hj, rfl, hc⟩
  have next : ∀ h' (o' : Option Int), h₁.le h' → j + 1 ≤ n → turnO x k i d = bestI o' (((askDays x k i).drop (j + 1)).filter (goodBy x k i d)) → Y (.bool o'.isSome :: .int .i64 (IntKind.wrap .i64 ((j : Int) + 1)) :: bestCells f x k i o') h' := by
    intro h' o' hle' hlt hc'
    refine hY (n - (j + 1)) _ _ (by omega) ⟨hle', j + 1, o', ?_, by omega, rfl, hc'⟩
    rw [wrap_id (by omega) (by omega)]; rfl
  rcases o with _ | best
  all_goals
    simp only [Option.isSome, bestCells, zeroAsk, askCells] at next ⊢
    refine gZ ?_
    refine t_if (fun e1 => ?_) (fun e1 => ?_)
    · obtain ⟨a, ad, ha, had, he⟩ := (hs.le AskE.grow le2.1).at (i := j) (by omega)
      have g0 := he 0 _ rfl
      have g1 := he 1 _ rfl
      have g2 := he 2 _ rfl
      have g3 := he 3 _ rfl
      have g4 := he 4 _ rfl
      have g5 := he 5 _ rfl
      have g6 := he 6 _ rfl
      have g7 := he 7 _ rfl
      have g8 := he 8 _ rfl
      have g9 := he 9 _ rfl
      have g10 := he 10 _ rfl
      have g11 := he 11 _ rfl
      have had2 := rt.askDay (List.mem_of_getElem? ha)
      have hend := askEnd_low rt.ok k i a
      have hturn := rt.turn
      have href := rt.refuse
      have le12 := LH.le_trans le1 le2
      rw [drop_of ha, goodBy_step] at hc
      have hgb : goodBy x k i d a = (fallen x k i a && (decide (askEnd x k i a ≤ d ∧ d ≤ askEnd x k i a + x.turn) && !refused x k i a (askEnd x k i a - 1))) := rfl
      have bad : goodBy x k i d a = false → ∀ h', h₁.le h' → Y _ h' := fun hb h' hle' => next h' _ hle' (by omega) (by rw [if_neg (by rw [hb]; simp)] at hc; exact hc)
      refine gZ ?_
      refine t_cond (fun e2 => ?_) (fun e2 => ?_)
      · rw [wrap_id (by omega) (by omega)]
        refine t_pu (c2052 _ _ _) ?_
        have hin : inB d (askEnd x k i a) (askEnd x k i a + x.turn) = decide (askEnd x k i a ≤ d ∧ d ≤ askEnd x k i a + x.turn) := by
          unfold inB
          rw [Bool.eq_iff_iff]
          simp only [Bool.and_eq_true, decide_eq_true_eq]
        rw [hin]
        refine gZ ?_
        refine t_cond (fun e3 => ?_) (fun e3 => ?_)
        · rw [wrap_id (by omega) (by omega)]
          refine t_gr (c2085 (hk.le le12.1) (hx.le le12.1) k i (a := a) (by unfold IsI; omega) _ _ _) ?_
          rintro _ h3 le3 rfl
          refine gZ ?_
          have le13 := LH.le_trans le2 le3
          refine t_cond (fun e4 => ?_) (fun e4 => ?_)
          · have hg : goodBy x k i d a = true := by rw [hgb, e2, e3, e4]; rfl
            rw [if_pos hg] at hc
            first
              | (refine t_cond (fun _ => ?_) (fun e => by cases e)
                 exact t_again (next h3 (some a) le13 (by omega) hc))
              | (refine t_cond (fun e => by cases e) (fun _ => ?_)
                 refine t_if (fun e5 => ?_) (fun e5 => ?_)
                 · exact t_again (next h3 (some a) le13 (by omega) (by rw [hc, bestI, if_pos e5]))
                 · exact t_again (next h3 (some best) le13 (by omega) (by rw [hc, bestI, if_neg e5])))
          · exact t_again (bad (by rw [hgb, e4]; simp) h3 le13)
        · exact t_again (bad (by rw [hgb, e3]; simp) h2 le2)
      · exact t_again (bad (by rw [hgb, e2]; simp) h2 le2)
    · refine gZ ?_
      rw [List.drop_eq_nil_of_le (by omega)] at hc
      refine t_ret ⟨LH.le_trans le1 le2, ?_⟩
      rw [hc]; rfl
end Go.Proofs.YtldamlcehbdkdaaGreatDoor.Tre
end
section
namespace Go.Proofs.YtldamlcehbdkdaaGreatDoor.Tre
open Go Go.TM Go.Proofs Go.TM.Tr
set_option maxRecDepth 100000 in
theorem via_ask_eq {v : Value} {d : Int} {A : Next → Cells → Prop} {E : Halt → Cells → Prop} {H : Cells} : Sem.lwp Tryz.prog (do let d ← Deferred.ofValue (.func (.func 297) #[] #[]) #[v, .int .i64 d]; invoke d.target d.args) A E H = Sem.lwp Tryz.prog (do let d ← Deferred.ofValue (.func (.method "touchmark/treaty.on") #[.iface 233 v] #[]) #[.int .i64 d]; invoke d.target d.args) A E H := by
 kernel_rfl
set_option maxRecDepth 100000 in
theorem via_ask {X : XP} {v : Value} {d : Int} {h : LH} {Q : Value → LH → Prop} (c : CV X Tryz.prog (.func (.func 297) #[] #[]) #[v, .int .i64 d] h Q) : CV X Tryz.prog (.func (.method "touchmark/treaty.on") #[.iface 233 v] #[]) #[.int .i64 d] h Q := by
 intro main R hR fr cs hk
 exact via_ask_eq.mp (c main R hR fr cs hk)
set_option maxRecDepth 100000 in
theorem via_turn_eq {v : Value} {d : Int} {A : Next → Cells → Prop} {E : Halt → Cells → Prop} {H : Cells} : Sem.lwp Tryz.prog (do let d ← Deferred.ofValue (.func (.func 298) #[] #[]) #[v, .int .i64 d]; invoke d.target d.args) A E H = Sem.lwp Tryz.prog (do let d ← Deferred.ofValue (.func (.method "touchmark/treaty.on") #[.iface 351 v] #[]) #[.int .i64 d]; invoke d.target d.args) A E H := by
 kernel_rfl
set_option maxRecDepth 100000 in
theorem via_turn {X : XP} {v : Value} {d : Int} {h : LH} {Q : Value → LH → Prop} (c : CV X Tryz.prog (.func (.func 298) #[] #[]) #[v, .int .i64 d] h Q) : CV X Tryz.prog (.func (.method "touchmark/treaty.on") #[.iface 351 v] #[]) #[.int .i64 d] h Q := by
 intro main R hR fr cs hk
 exact via_turn_eq.mp (c main R hR fr cs hk)
attribute [local irreducible] T.wp CV FWK
inductive Title where
 | ask (a : Int)
 | turn (a b : Int)
def turnV (f : TC) (x : TF) (k i a b : Int) : Value := .agg #[.int .i64 x.items, .int .i64 x.lands, .int .i64 x.start, .int .i64 x.depend, .int .i64 x.refuse, .int .i64 x.turn, .slice f.p f.n f.c, .int .i64 k, .int .i64 i, .int .i64 a, .int .i64 (askEnd x k i a), .bool (fallen x k i a), .int .i64 b, .int .i64 (limits x k i b)]
def titleV (f : TC) (x : TF) (k i : Int) : Title → Value
 | .ask a => .iface 233 (askV f x k i a)
 | .turn a b => .iface 351 (turnV f x k i a b)
def titleDate : Title → Int
 | .ask a => a
 | .turn a _ => a
def titleOn (x : TF) (k i d : Int) : Title → Bool
 | .ask a => decide (a ≤ d ∧ d < askEnd x k i a) && !refused x k i a d
 | .turn _ b => decide (b ≤ d ∧ d < limits x k i b)
def turnsL (x : TF) (k i : Int) (l : List Ev) : List Title := (l.filter fun e => decide (0 ≤ turned x k i e.day)).map fun e => .turn (turned x k i e.day) e.day
def titlesL (x : TF) (k i : Int) : List Title := (askDays x k i).map .ask ++ turnsL x k i (x.events.filter (allB 5 k i))
theorem titles_held (x : TF) (k i d : Int) : ((titlesL x k i).filter (titleOn x k i d)).map titleDate = held x k i d := by
 unfold titlesL turnsL held askHeld turnHeld
 rw [List.filter_append, List.map_append]
 congr 1
 ·rw [List.filter_map, List.map_map]
  have : titleDate ∘ Title.ask = id := rfl
  rw [this, List.map_id]; rfl
 ·rw [List.filter_map, List.map_map, List.filter_filter, List.filter_filter]
  congr 1
  refine List.filter_congr fun e _ => ?_
  rw [allB_about (by decide)]
  show (decide (e.day ≤ d ∧ d < limits x k i e.day) && decide (0 ≤ turned x k i e.day) && about e 5 k i) = _
  cases about e 5 k i <;> cases decide (0 ≤ turned x k i e.day) <;> cases decide (e.day ≤ d ∧ d < limits x k i e.day) <;> rfl
def TitleE (f : TC) (x : TF) (k i : Int) (h : Cells) (a : Addr) (t : Title) : Prop := h.cell? (a.add 0) = some (titleV f x k i t)
def TitleEnc (f : TC) (x : TF) (k i : Int) (t : Title) (ws : List Value) : Prop := ws = [titleV f x k i t]
theorem TitleE.grow {f : TC} {x : TF} {k i : Int} : Grow (TitleE f x k i) := fun _ _ _ _ hl h => hl _ _ h
theorem TitleEnc.len {f : TC} {x : TF} {k i : Int} : ∀ d ws, TitleEnc f x k i d ws → ws.length = 1 := by rintro d _ rfl; rfl
theorem TitleEnc.e {f : TC} {x : TF} {k i : Int} {h' : Cells} : ∀ a d ws, TitleEnc f x k i d ws → (∀ (j : Nat) w, ws[j]? = some w → h'.cell? (a.add j) = some w) → TitleE f x k i h' a d := by
 rintro a d _ rfl hc; exact hc 0 _ rfl
theorem titleV_one (f : TC) (x : TF) (k i : Int) (t : Title) : isOne (titleV f x k i t) = true := by cases t <;> rfl
theorem c2138 {h : LH} (f : TC) (x : TF) (v : Ok x) (k i a b d : Int) : Pu Tryz.prog 298 #[turnV f x k i a b, .int .i64 d] h (.tuple #[.int .i64 a, .bool (decide (b ≤ d ∧ d < limits x k i b))]) := by
 refine w2138 _ _ _ _ _ _ _ _ _ _ _ _ _ _ _ _ _ X0_ok ?_
 unfold n2138
 have hl := limits_low v k i b
 rw [wrap_id (by omega) (by omega)]
 have hin : inB d b (limits x k i b - 1) = decide (b ≤ d ∧ d < limits x k i b) := by
  unfold inB
  rw [Bool.eq_iff_iff]
  simp only [Bool.and_eq_true, decide_eq_true_eq]
  omega
 refine t_pu (c2052 _ _ _) ?_
 rw [hin]
 refine gZ ?_
 exact t_ret ⟨rfl, rfl⟩
theorem titles_ask {x : TF} {k i : Int} {t : Title} (h : t ∈ titlesL x k i) : (∃ a, t = .ask a ∧ a ∈ askDays x k i) ∨ ∃ e ∈ x.events, t = .turn (turned x k i e.day) e.day ∧ 0 ≤ turned x k i e.day := by
 unfold titlesL turnsL at h
 rcases List.mem_append.1 h with h | h
 ·obtain ⟨a, ha, rfl⟩ := List.mem_map.1 h
  exact .inl ⟨a, rfl, ha⟩
 ·obtain ⟨e, he, rfl⟩ := List.mem_map.1 h
  have h1 := List.mem_filter.1 he
  exact .inr ⟨e, (List.mem_filter.1 h1.1).1, rfl, by simpa using h1.2⟩
theorem titles_len (x : TF) (k i : Int) : (titlesL x k i).length ≤ 2 * x.events.length := by
 unfold titlesL turnsL
 rw [List.length_append, List.length_map, List.length_map]
 have h1 := askDays_len x k i
 have h2 := List.length_filter_le (fun e : Ev => decide (0 ≤ turned x k i e.day)) (x.events.filter (allB 5 k i))
 have h3 := List.length_filter_le (allB 5 k i) x.events
 omega
theorem cv_title {h : LH} (hk : Kinds h.get) {f : TC} {x : TF} (hx : TreatyR h.get f x) (rt : Right x) (k i d : Int) {t : Title} (ht : t ∈ titlesL x k i) :
  CV X0 Tryz.prog (.func (.method "touchmark/treaty.on") #[titleV f x k i t] #[]) #[.int .i64 d] h fun r h' => h.le h' ∧ r = .tuple #[.int .i64 (titleDate t), .bool (titleOn x k i d t)] := by
 rcases titles_ask ht with ⟨a, rfl, ha⟩ | ⟨e, _, rfl, _⟩
 ·refine via_ask (cv_fw X0_ok (hargs := #[askV f x k i a, .int .i64 d]) (by rfl) ?_)
  have h1 := rt.askDay ha
  have h2 := rt.refuse
  have h3 := askEnd_low rt.ok k i a
  exact c2137 hk hx k i (by unfold IsI; omega) (by unfold IsI; omega) d
 ·refine via_turn (cv_fw X0_ok (hargs := #[turnV f x k i (turned x k i e.day) e.day, .int .i64 d]) (by rfl) ?_)
  exact pu_gr (c2138 f x rt.ok k i _ _ d)
theorem turns_step {x : TF} {k i : Int} {l : List Ev} {e : Ev} (h : 0 ≤ turned x k i e.day) : turnsL x k i (l ++ [e]) = turnsL x k i l ++ [.turn (turned x k i e.day) e.day] := by
 unfold turnsL
 rw [List.filter_append, List.map_append, List.filter_cons, if_pos (by simpa using h)]; rfl
theorem turns_skip {x : TF} {k i : Int} {l : List Ev} {e : Ev} (h : ¬ 0 ≤ turned x k i e.day) : turnsL x k i (l ++ [e]) = turnsL x k i l := by
 unfold turnsL
 rw [List.filter_append, List.map_append, List.filter_cons, if_neg (by simpa using h)]; simp
def butOf (h : Cells) : Option Addr → Cells
 | none => h
 | some a => fun r => if r = a.block then none else h r
def onlyOf (h : Cells) : Option Addr → Cells
 | none => fun _ => none
 | some a => fun r => if r = a.block then h r else none
theorem but_only (h : Cells) (p : Option Addr) : h = (butOf h p).add (onlyOf h p) ∧ Disj (butOf h p) (onlyOf h p) := by
 cases p with
 | none => exact ⟨by funext r; unfold butOf onlyOf Cells.add; simp only; cases h r <;> rfl, fun r => .inr rfl⟩
 | some a =>
  refine ⟨?_, fun r => ?_⟩
  ·funext r
   unfold butOf onlyOf Cells.add
   by_cases e : r = a.block
   ·simp [e]
   ·simp [e]; cases h r <;> rfl
  ·unfold butOf onlyOf
   by_cases e : r = a.block
   ·simp [e]
   ·simp [e]
theorem but_le {h₁ h : Cells} {p : Option Addr} (hl : h₁.le h) (hp : NewIn h₁ p) : h₁.le (butOf h p) := by
 intro r x hr
 cases p with
 | none => exact hl r x hr
 | some a =>
  unfold butOf
  have hne : r ≠ a.block := by
   rintro rfl
   have := hp a rfl
   rw [this] at hr; cases hr
  simp [hne]; exact hl r x hr
theorem Growing.over {α : Type} {Enc : α → List Value → Prop} {el : TypeId} {k : Nat} {h₀ h hb : Cells} {p : Option Addr} {n c : Nat} {l : List α} (g : Growing Enc el k h₀ h p n c l) (d : Disj hb (onlyOf h p)) : Growing Enc el k hb (hb.add (onlyOf h p)) p n c l := by
 obtain ⟨vs, ⟨h1, h2⟩, h3⟩ := g.row
 rcases h2 with h2 | ⟨r, cs, rfl, hr, h4⟩
 ·exact ⟨⟨vs, ⟨h1, .inl h2⟩, h3⟩, fun a ha => by rw [h2.1] at ha; cases ha⟩
 ·have ho : onlyOf h (some ⟨r, 0, none⟩) r = some (true, .cells cs el (0, 0)) := by unfold onlyOf; simp [hr]
  refine ⟨⟨vs, ⟨h1, .inr ⟨r, cs, rfl, Cells.add_right' d ho, h4⟩⟩, h3⟩, fun a ha => ?_⟩
  cases ha
  rcases d r with h5 | h5
  ·exact h5
  ·rw [ho] at h5; cases h5
theorem t_allF {X : XP} {Q : Leaf → LH → Prop} {h hb : LH} {kq : Cells} {kk : Value → T} (hX : XOK X) (hh : h = hb.add kq) (d : Disj hb.get kq) (hk : Kinds hb.get) {f : TC} {x : TF} (hx : TreatyR hb.get f x) (k i : Int) (K : Nat) (hK : K < 7)
  (hw : ∀ v hb' L, hb.le hb' → Disj hb'.get kq → L.length = (x.events.filter (allB K k i)).length → (∀ (j : Nat) xs, L[j]? = some xs → ∃ e q m c, (x.events.filter (allB K k i))[j]? = some e ∧ xs = [evV e q m c] ∧ Sl IntE 1 hb'.get q m e.items) → Hands X Tryz.prog v hb' L → (kk v).wp X Tryz.prog Q (hb'.add kq)) :
  (T.call false 196 #[matV f x k i, .int .i64 (K : Int)] kk).wp X Tryz.prog Q h := by
 subst hh
 refine t_call (FW.frame hX (FW.top (c2083 (h := hb) f x k i K)) d) ?_
 rintro _ _ ⟨h', d', rfl, le1, z0, z1, rfl, hm, hz⟩
 obtain ⟨L, h1, h2, h3⟩ := hands2095 hX (hk.le le1.1) hK hm hz (hx.le le1.1)
 exact hw _ h' L le1 d' h1 h2 h3
set_option maxRecDepth 10000 in
theorem c2082 {h : LH} (hk : Kinds h.get) {f : TC} {x : TF} (hx : TreatyR h.get f x) (rt : Right x) (k i : Int) :
  Gr Tryz.prog 195 #[matV f x k i] h fun r h' => ∃ p n c, r = .slice p n c ∧ Sl (TitleE f x k i) 1 h'.get p n (titlesL x k i) := by
 refine w2082 _ _ _ _ _ _ _ _ _ _ _ X0_ok ?_
 unfold n2082
 refine t_gr (c2084 hk hx rt.sum (Nat.le_trans rt.many (by omega)) k i) ?_
 rintro _ h₁ le1 ⟨p, n, c, rfl, hs⟩
 refine gZ ?_
 have hn := hs.1
 have hb := hs.2.1
 have hlen := askDays_len x k i
 have hmany := rt.many
 have htl := titles_len x k i
 refine t_loop (fun mm vs h' => h₁.le h' ∧ ∃ (j : Nat) (q : Option Addr) (m cc : Nat), vs = [.int .i64 j, .slice q m cc] ∧ j ≤ n ∧ mm = n - j ∧ Growing (TitleEnc f x k i) 297 1 h₁.get h'.get q m cc (((askDays x k i).take j).map .ask))
  ⟨LH.le_refl _, 0, none, 0, 0, rfl, Nat.zero_le _, rfl, Growing.nil⟩ ?_
 rintro Y mm vs h2 hY ⟨le2, j, q, m, cc, rfl, hj, rfl, g⟩
 refine gZ ?_
 refine t_if (fun e1 => ?_) (fun e1 => ?_)
 ·obtain ⟨a, ad, ha, had, he⟩ := (hs.le AskE.grow le2.1).at (i := j) (by omega)
  have g0 := he 0 _ rfl
  have g1 := he 1 _ rfl
  have g2 := he 2 _ rfl
  have g3 := he 3 _ rfl
  have g4 := he 4 _ rfl
  have g5 := he 5 _ rfl
  have g6 := he 6 _ rfl
  have g7 := he 7 _ rfl
  have g8 := he 8 _ rfl
  have g9 := he 9 _ rfl
  have g10 := he 10 _ rfl
  have g11 := he 11 _ rfl
  have hm : m ≤ 100 := by
   rw [g.count TitleEnc.len (by omega), List.length_map, List.length_take]; omega
  refine gZ ?_
  refine t_push (Title.ask a) [titleV f x k i (.ask a)] rfl rfl undTitles infTitle rfl (by omega) (by decide) (by kernel_rfl) rfl (by simp [titleV_one]) (by omega) g le2 rfl ?_
  intro p' c' h3 le3 _ g3'
  refine gZ ?_
  refine t_again (hY (n - (j + 1)) _ _ (by omega) ⟨le3, j + 1, p', m + 1, c', ?_, by omega, rfl, ?_⟩)
  ·rw [wrap_id (by omega) (by omega)]; rfl
  ·rw [List.take_add_one, ha, List.map_append]
   exact g3'
 ·refine gZ ?_
  have hjn : j = (askDays x k i).length := by omega
  subst hjn
  rw [List.take_of_length_le (Nat.le_refl _)] at g
  have hbo := but_only h2.get q
  have lebut : h₁.get.le (butOf h2.get q) := but_le le2.1 g.new
  refine t_allF (hb := { h2 with get := butOf h2.get q }) (kq := onlyOf h2.get q) X0_ok (by unfold LH.add; simp only; rw [← hbo.1]) hbo.2 ((hk.le le1.1).le lebut) ((hx.le le1.1).le lebut) k i 5 (by decide) ?_
  intro v h3 L leb3 d3 hL1 hL2 hH
  have le3 : h₁.le h3 := ⟨Cells.le_trans lebut leb3.1, leb3.2.1.trans le2.2.1, leb3.2.2.1.trans le2.2.2.1, leb3.2.2.2.trans le2.2.2.2⟩
  have le03 := LH.le_trans le1 le3
  have hFl := List.length_filter_le (allB 5 k i) x.events
  have htit : titlesL x k i = (askDays x k i).map .ask ++ turnsL x k i (x.events.filter (allB 5 k i)) := rfl
  rw [htit]
  generalize hF : x.events.filter (allB 5 k i) = F at hL1 hL2 hFl
  have leA : h3.le (h3.add (onlyOf h2.get q)) := ⟨Cells.le_add _ _, rfl, rfl, rfl⟩
  refine t_each leA hH (fun j vs h' => ∃ (q : Option Addr) (m cc : Nat), vs = [.slice q m cc] ∧ Growing (TitleEnc f x k i) 297 1 h3.get h'.get q m cc ((askDays x k i).map .ask ++ turnsL x k i (F.take j)))
   ⟨q, m, cc, rfl, by simpa [turnsL, LH.add] using Growing.over g d3⟩ ?_ ?_
  ·rintro vs h' hle ⟨q, m, cc, rfl, g⟩
   rw [hL1, List.take_of_length_le (Nat.le_refl _)] at g
   refine gZ ?_
   refine t_ret ⟨LH.le_trans le03 hle, q, m, cc, rfl, g.sl TitleEnc.len (by omega) TitleEnc.e ?_⟩
   rw [htit, hF] at htl; omega
  ·rintro j xs vs h' hj2 hle ⟨q, m, cc, rfl, g⟩ Y2 hY2
   obtain ⟨e, qe, me, ce, he, rfl, hit⟩ := hL2 j xs hj2
   have htake : F.take (j + 1) = F.take j ++ [e] := by rw [List.take_add_one, he]; rfl
   have le13 := LH.le_trans le03 hle
   unfold evV
   refine gZ ?_
   refine t_gr (c2064 (hk.le le13.1) (hx.le le13.1) rt k i e.day) ?_
   rintro _ h4 le4 rfl
   have le14 := LH.le_trans le13 le4
   cases ho : turnO x k i e.day with
   | none =>
    have hno := (turnO_none rt.ok).1 ho
    simp only [Option.isSome, bestCells, zeroAsk]
    refine gZ ?_
    refine t_cond (fun e => by cases e) (fun _ => ?_)
    refine gZ ?_
    refine t_againE (LH.le_trans hle le4) (hY2 _ _ (LH.le_trans hle le4) ⟨q, m, cc, rfl, ?_⟩)
    rw [htake, turns_skip hno]
    exact g.le le4.1
   | some a =>
    obtain ⟨ha0, hae⟩ := turnO_some rt.ok ho
    simp only [Option.isSome, bestCells, askCells]
    refine gZ ?_
    refine t_cond (fun _ => ?_) (fun e => by cases e)
    refine gZ ?_
    refine t_gr (c2094 (hk.le le14.1) (hx.le le14.1) k i e.day) ?_
    rintro _ h5 le5 rfl
    refine gZ ?_
    have hm : m ≤ 100 := by
     rw [g.count TitleEnc.len (by omega), List.length_append, List.length_map]
     unfold turnsL
     rw [List.length_map]
     have h1 := List.length_filter_le (fun e : Ev => decide (0 ≤ turned x k i e.day)) (F.take j)
     have h2 : (F.take j).length ≤ F.length := by rw [List.length_take]; omega
     omega
    refine t_buildR [titleV f x k i (.turn a e.day)] undTitles infTitle (by decide) (by decide) (by kernel_rfl) ?_
    intro r h6 le6 _ hr6
    refine gZ ?_
    refine t_growR (h₀ := h3) (Enc := TitleEnc f x k i) (Title.turn a e.day) [titleV f x k i (.turn a e.day)] rfl rfl undTitles infTitle rfl (by omega) (by omega) (g.le (LH.le_trans le4 (LH.le_trans le5 le6)).1) (LH.le_trans hle (LH.le_trans le4 (LH.le_trans le5 le6))) rfl rfl hr6 (by simp [titleV_one]) ?_
    intro p' c' h7 le7 kp7 g7
    refine gZ ?_
    refine t_againE le7 (hY2 _ _ le7 ⟨p', _, c', rfl, ?_⟩)
    rw [htake, turns_step (by rw [← hae]; exact ha0), ← List.append_assoc, ← hae]
    exact g7
end Go.Proofs.YtldamlcehbdkdaaGreatDoor.Tre
end
section
namespace Go.Proofs.YtldamlcehbdkdaaGreatDoor.Tre
open Go Go.TM Go.Proofs Go.TM.Tr
attribute [local irreducible] T.wp CV FWK
theorem dated_all (x : TF) (k i d a : Int) (ha : a ≤ 10000) : dated x k i d a = leastFrom a (((x.events.filter (allB 6 k i)).filter fun e => decide (e.day ≤ d) && decide (e.since ≤ a)).map (·.since)) := by
 unfold dated oldL
 rw [leastFrom_min _ _ ha, List.filter_filter, least_cons]
 have : (x.events.filter fun e => about e 6 k i && (decide (e.day ≤ d) && decide (e.since ≤ a))) = x.events.filter fun e => (decide (e.day ≤ d) && decide (e.since ≤ a)) && allB 6 k i e := by
  refine List.filter_congr fun e _ => ?_
  rw [allB_about (by decide), Bool.and_comm]; rfl
 rw [this]
theorem dateOn_least {x : TF} (v : Ok x) (k i d : Int) : dateOn x k i d = if least ((held x k i d).map (dated x k i d)) = 10000 then -1 else least ((held x k i d).map (dated x k i d)) := by
 unfold dateOn
 rcases leastOr_mem (date_vals v (k := k) (i := i) (d := d)) with ⟨h1, h2⟩ | ⟨h1, h2⟩
 ·rw [h1, h2]; rfl
 ·rw [h2]
  have := date_vals v (k := k) (i := i) (d := d) _ h1
  rw [h2] at this
  rw [if_neg (by omega)]
theorem title_low {x : TF} (rt : Right x) {k i : Int} {t : Title} (h : t ∈ titlesL x k i) : titleDate t ≤ 10000 := by
 rcases titles_ask h with ⟨a, rfl, ha⟩ | ⟨e, _, rfl, _⟩
 ·have := rt.askDay ha
  show a ≤ 10000
  omega
 ·show turned x k i e.day ≤ 10000
  rcases turned_vals rt.ok k i e.day with ⟨h1, _⟩ | ⟨h1, _⟩
  ·omega
  ·have := rt.ok.turnedL _ h1; omega
set_option maxRecDepth 10000 in
theorem c2060 {h : LH} (hk : Kinds h.get) {f : TC} {x : TF} (hx : TreatyR h.get f x) (rt : Right x) (k i d : Int) :
  Gr Tryz.prog 141 #[matV f x k i, .int .i64 d] h fun r _ => r = .int .i64 (dateOn x k i d) := by
 refine w2060 _ _ _ _ _ _ _ _ _ _ _ _ X0_ok ?_
 unfold n2060
 refine t_gr (c2082 hk hx rt k i) ?_
 rintro _ h₁ le1 ⟨p, n, c, rfl, hs⟩
 refine gZ ?_
 have hn := hs.1
 have hb := hs.2.1
 have htl := titles_len x k i
 have hmany := rt.many
 refine t_loop (fun mm vs h' => h₁.le h' ∧ ∃ (j : Nat) (b : Int), vs = [.int .i64 b, .int .i64 j, .int .i64 x.items, .int .i64 x.lands, .int .i64 x.start, .int .i64 x.depend, .int .i64 x.refuse, .int .i64 x.turn, .slice f.p f.n f.c, .int .i64 k, .int .i64 i, .int .i64 d] ∧ j ≤ n ∧ mm = n - j ∧ b ≤ 10000 ∧
   least ((held x k i d).map (dated x k i d)) = leastFrom b (((((titlesL x k i).drop j).filter (titleOn x k i d)).map titleDate).map (dated x k i d)))
  ⟨LH.le_refl _, 0, 10000, rfl, Nat.zero_le _, rfl, Int.le_refl _, by rw [List.drop_zero, titles_held, leastFrom_cap]⟩ ?_
 rintro Y mm vs h2 hY ⟨le2, j, b, rfl, hj, rfl, hb1, hc⟩
 have le12 := LH.le_trans le1 le2
 have next : ∀ h' (b' : Int), h₁.le h' → j + 1 ≤ n → b' ≤ 10000 → least ((held x k i d).map (dated x k i d)) = leastFrom b' (((((titlesL x k i).drop (j + 1)).filter (titleOn x k i d)).map titleDate).map (dated x k i d)) →
   Y [.int .i64 b', .int .i64 (IntKind.wrap .i64 ((j : Int) + 1)), .int .i64 x.items, .int .i64 x.lands, .int .i64 x.start, .int .i64 x.depend, .int .i64 x.refuse, .int .i64 x.turn, .slice f.p f.n f.c, .int .i64 k, .int .i64 i, .int .i64 d] h' := by
  intro h' b' hle' hlt hb' hc'
  refine hY (n - (j + 1)) _ _ (by omega) ⟨hle', j + 1, b', ?_, by omega, rfl, hb', hc'⟩
  rw [wrap_id (by omega) (by omega)]; rfl
 refine gZ ?_
 refine t_if (fun e1 => ?_) (fun e1 => ?_)
 ·obtain ⟨t, ad, ht, had, he⟩ := (hs.le TitleE.grow le2.1).at (i := j) (by omega)
  unfold TitleE at he
  rw [add_zero'] at he
  have htm := List.mem_of_getElem? ht
  rw [drop_of ht, List.filter_cons] at hc
  subst had
  refine gT (by omega) (gS2 rfl (t_loadV he ?_))
  refine t_callv (cv_title (hk.le le12.1) (hx.le le12.1) rt k i d htm) ?_
  rintro _ h3 ⟨le3, rfl⟩
  have le13 := LH.le_trans le12 le3
  have le23 := LH.le_trans le2 le3
  refine gZ ?_
  refine t_cond (fun e2 => ?_) (fun e2 => ?_)
  ·have e2 : titleOn x k i d t = false := by simpa using e2
   rw [e2, if_neg (by simp)] at hc
   exact t_again (next h3 b le23 (by omega) hb1 hc)
  ·have e2 : titleOn x k i d t = true := by simpa using e2
   rw [e2, if_pos rfl, List.map_cons, List.map_cons, leastFrom] at hc
   have hlow := title_low rt htm
   refine t_all X0_ok (hk.le le13.1) (hx.le le13.1) k i 6 (by decide) ?_
   intro v h4 L le4 hL1 hL2 hH
   have hdt := dated_all x k i d (titleDate t) hlow
   generalize hF : x.events.filter (allB 6 k i) = F at hL1 hL2 hdt
   have le24 := LH.le_trans le23 le4
   refine t_each (LH.le_refl h4) hH (fun j vs h' => ∃ a : Int, vs = [.int .i64 a] ∧ a ≤ 10000 ∧ dated x k i d (titleDate t) = leastFrom a (((F.drop j).filter fun e => decide (e.day ≤ d) && decide (e.since ≤ titleDate t)).map (·.since)))
    ⟨_, rfl, hlow, hdt⟩ ?_ ?_
   ·rintro vs h' hle ⟨a, rfl, hal, hda⟩
    rw [List.drop_eq_nil_of_le (by omega)] at hda
    simp only [List.filter_nil, List.map_nil, leastFrom] at hda
    rw [hda] at hc
    refine gZ ?_
    exact t_again (next h' _ (LH.le_trans le24 hle) (by omega) (by split <;> omega) hc)
   ·rintro j2 xs vs h' hj2 hle ⟨a, rfl, hal, hda⟩ Y2 hY2
    obtain ⟨e, q, m, cc, hev, rfl, hit⟩ := hL2 j2 xs hj2
    rw [drop_of hev, List.filter_cons] at hda
    unfold evV
    refine gZ ?_
    refine t_if (fun e3 => ?_) (fun e3 => ?_)
    ·refine t_if (fun e4 => ?_) (fun e4 => ?_)
     ·rw [if_pos (by simp; omega), List.map_cons, leastFrom] at hda
      exact t_againE hle (hY2 _ _ hle ⟨_, rfl, by split <;> omega, hda⟩)
     ·rw [if_neg (by simp; omega)] at hda
      exact t_againE hle (hY2 _ _ hle ⟨_, rfl, hal, hda⟩)
    ·rw [if_neg (by simp; omega)] at hda
     exact t_againE hle (hY2 _ _ hle ⟨_, rfl, hal, hda⟩)
 ·refine gZ ?_
  rw [List.drop_eq_nil_of_le (by omega)] at hc
  simp only [List.filter_nil, List.map_nil, leastFrom] at hc
  have hd := dateOn_least rt.ok k i d
  rw [hc] at hd
  refine t_cond (fun e2 => ?_) (fun e2 => ?_)
  ·exact t_ret ⟨le12, by rw [hd, if_pos (by simpa using e2)]⟩
  ·exact t_ret ⟨le12, by rw [hd, if_neg (by simpa using e2)]⟩
def datesT (x : TF) (k d : Int) : List Int := (List.range x.items.toNat).map fun i : Nat => dateOn x k (i : Int) d
def DatesR (h : Cells) (x : TF) (k d : Int) (r : Value) : Prop :=
 (askedDayT x k d ≠ 0 ∧ r = .tuple #[.slice none 0 0, .int .i64 (askedDayT x k d)]) ∨
 (askedDayT x k d = 0 ∧ ∃ p n c, r = .tuple #[.slice p n c, .int .i64 0] ∧ Sl IntE 1 h p n (datesT x k d) ∧ n ≤ c)
theorem c2026 {h : LH} (hk : Kinds h.get) {f : TC} {x : TF} (hx : TreatyR h.get f x) (k d : Int) : Gr Tryz.prog 89 #[treatyV f x, .int .i64 k, .int .i64 d] h fun r h' => DatesR h'.get x k d r := by
 refine w2026 _ _ _ _ _ _ _ _ _ _ _ X0_ok ?_
 unfold n2026
 refine t_pu (c2063 hk hx k d) ?_
 refine gZ ?_
 refine t_cond (fun e => ?_) (fun e => ?_)
 ·exact t_ret ⟨LH.le_refl _, .inl ⟨by simpa using e, rfl⟩⟩
 have e0 : askedDayT x k d = 0 := by simpa using e
 have hck := (asked_ok (askedDay_ok e0).1).1
 have rt := Right.of hck
 have hit := (check_numbers hck).1
 refine t_loop (fun mm vs h' => h.le h' ∧ ∃ (j : Nat) (p : Option Addr) (n c : Nat), vs = [.slice p n c, .int .i64 j] ∧ (j : Int) ≤ x.items ∧ mm = x.items.toNat - j ∧ Growing IntEnc 3 1 h.get h'.get p n c ((List.range j).map fun i : Nat => dateOn x k (i : Int) d))
  ⟨LH.le_refl _, 0, none, 0, 0, rfl, by omega, rfl, Growing.nil⟩ ?_
 rintro Y mm vs h₁ hY ⟨le1, j, p, n, c, rfl, hj, rfl, g⟩
 refine gZ ?_
 refine t_if (fun e1 => ?_) (fun e1 => ?_)
 ·refine t_gr (c2060 (hk.le le1.1) (hx.le le1.1) rt k j d) ?_
  rintro _ h2 le2 rfl
  refine gZ ?_
  have hnn : n = j := by rw [g.count IntEnc.len (by omega)]; simp
  refine t_push (dateOn x k j d) [.int .i64 (dateOn x k j d)] rfl rfl und50 inf3 rfl (by omega) (by decide) (by kernel_rfl) rfl (by simp; rfl) (by omega) (g.le le2.1) (LH.le_trans le1 le2) rfl ?_
  intro p' c' h3 le3 _ g3
  refine gZ ?_
  refine t_again (hY (x.items.toNat - (j + 1)) _ _ (by omega) ⟨le3, j + 1, p', n + 1, c', ?_, by omega, rfl, ?_⟩)
  ·rw [wrap_id (by omega) (by omega)]; rfl
  ·rw [List.range_succ, List.map_append]; exact g3
 ·refine gZ ?_
  have hjn : x.items.toNat = j := by omega
  refine t_ret ⟨le1, .inr ⟨e0, p, n, c, rfl, ?_, ?_⟩⟩
  ·unfold datesT
   rw [hjn]
   exact g.sl IntEnc.len (by omega) IntEnc.e (by simp; omega)
  ·obtain ⟨vs, o, _⟩ := g.row
   exact o.le_cap
end Go.Proofs.YtldamlcehbdkdaaGreatDoor.Tre
end
section
namespace Go.Proofs.YtldamlcehbdkdaaGreatDoor.Tre
open Go Go.TM Go.Proofs Go.TM.Tr
attribute [local irreducible] T.wp CV FWK
def protT (x : TF) (k d : Int) : List Bool := (datesT x k d).map fun d => decide (d ≥ 0)
def ProtR (h : Cells) (x : TF) (k d : Int) (r : Value) : Prop :=
 ∃ p n c, r = .tuple #[.slice p n c, .int .i64 (askedDayT x k d)] ∧ Sl BoolE 1 h p n (if askedDayT x k d = 0 then protT x k d else []) ∧ n ≤ c
theorem dates_len (x : TF) (k d : Int) : (datesT x k d).length = x.items.toNat := by unfold datesT; simp
set_option maxRecDepth 10000 in
theorem c2018 {h : LH} (hk : Kinds h.get) {f : TC} {x : TF} (hx : TreatyR h.get f x) (k d : Int) : Gr Tryz.prog 88 #[treatyV f x, .int .i64 k, .int .i64 d] h fun r h' => ProtR h'.get x k d r := by
 refine w2018 _ _ _ _ _ _ _ _ _ _ _ X0_ok ?_
 unfold n2018
 refine t_gr (c2026 hk hx k d) ?_
 intro r h₁ le1 hr
 obtain ⟨p, n, c, g, l, rfl, hs, hg, hl, hl5⟩ : ∃ p n c g l, r = .tuple #[.slice p n c, .int .i64 g] ∧ Sl IntE 1 h₁.get p n l ∧ g = askedDayT x k d ∧ (if askedDayT x k d = 0 then protT x k d else []) = l.map (fun d => decide (d ≥ 0)) ∧ l.length ≤ 5 := by
  rcases hr with ⟨h1, rfl⟩ | ⟨h1, p, n, c, rfl, h2, h3⟩
  ·exact ⟨none, 0, 0, _, [], rfl, Sl.nil, rfl, by rw [if_neg h1]; rfl, by simp⟩
  ·refine ⟨p, n, c, 0, _, rfl, h2, h1.symm, by rw [if_pos h1]; rfl, ?_⟩
   have := (check_numbers (asked_ok (askedDay_ok h1).1).1).1
   rw [dates_len]; omega
 refine gZ ?_
 have hn := hs.1
 refine t_new fun r hr => ?_
 have le2 : ∀ cs, h₁.le { h₁ with get := h₁.get.upd r (true, .cells cs 225 (0, 0)) } := fun cs => LH.upd_le hr
 refine t_loop (fun mm vs h' => ∃ (j : Nat) (cs : Array Value), vs = [.int .i64 j] ∧ j ≤ n ∧ mm = n - j ∧ h' = { h₁ with get := h₁.get.upd r (true, .cells cs 225 (0, 0)) } ∧ cs.size = 5 ∧ (∀ (i : Nat) y, i < j → l[i]? = some y → cs[i]? = some (.bool (decide (y ≥ 0)))) ∧ ∀ i : Nat, j ≤ i → i < 5 → cs[i]? = some (.bool false))
  ⟨0, #[.bool false, .bool false, .bool false, .bool false, .bool false], rfl, Nat.zero_le _, rfl, rfl, rfl, fun i y hi => absurd hi (Nat.not_lt_zero _), fun i _ hi => by match i, hi with | 0, _ | 1, _ | 2, _ | 3, _ | 4, _ => rfl⟩ ?_
 rintro Y mm vs _ hY ⟨j, cs, rfl, hj, rfl, rfl, hsz, hlow, hhigh⟩
 refine gZ ?_
 refine t_if (fun e1 => ?_) (fun e1 => ?_)
 ·obtain ⟨y, a, hy, ha, e2⟩ := (hs.le IntE.grow (le2 cs).1).at (i := j) (by omega)
  unfold IntE at e2
  refine gZ ?_
  refine t_storeU (o := j) (by rw [add_plain, add_plain]; simp) rfl (by omega) ?_
  refine t_again (hY (n - (j + 1)) _ _ (by omega) ⟨j + 1, _, ?_, by omega, rfl, rfl, by simp [hsz], fun i z hi hz => ?_, fun i hi h5 => ?_⟩)
  ·rw [wrap_id (by omega) (by omega)]; rfl
  ·by_cases e : i = j
   ·subst e
    rw [hy] at hz; cases hz
    rw [Array.getElem?_setIfInBounds_self_of_lt (by omega)]
   ·rw [Array.getElem?_setIfInBounds_ne (Ne.symm e)]
    exact hlow i z (by omega) hz
  ·rw [Array.getElem?_setIfInBounds_ne (by omega)]
   exact hhigh i (by omega) h5
 ·refine gZ ?_
  have hjn : j = n := by omega
  subst hjn
  obtain ⟨bs, hbs5, hbs⟩ : ∃ bs : List Bool, bs.length = 5 ∧ ∀ (i : Nat) b, bs[i]? = some b → cs[i]? = some (.bool b) := by
   refine ⟨(List.range 5).map fun i : Nat => match (l[i]? : Option Int) with | some y => decide (y ≥ 0) | none => false, by simp, fun i b hb => ?_⟩
   rw [List.getElem?_map] at hb
   by_cases h5 : i < 5
   ·rw [List.getElem?_range h5] at hb
    simp only [Option.map_some, Option.some.injEq] at hb
    cases hly : l[i]? with
    | none =>
     rw [hly] at hb; subst hb
     exact hhigh i (by rw [hn]; exact List.getElem?_eq_none_iff.1 hly) h5
    | some y =>
     rw [hly] at hb; subst hb
     exact hlow i y (by rw [hn]; exact (List.getElem?_eq_some_iff.1 hly).1) hly
   ·rw [List.getElem?_eq_none (by simp; omega)] at hb; cases hb
  match bs, hbs5 with
  | [b0, b1, b2, b3, b4], _ =>
   have c0 : Cells.cell? (h₁.get.upd r (true, .cells cs 225 (0, 0))) (Addr.add ⟨r, 0, none⟩ 0) = some (.bool b0) := by rw [add_plain]; exact cell_upd (hbs 0 _ rfl)
   have c1 : Cells.cell? (h₁.get.upd r (true, .cells cs 225 (0, 0))) (Addr.add ⟨r, 0, none⟩ 1) = some (.bool b1) := by rw [add_plain]; exact cell_upd (hbs 1 _ rfl)
   have c2 : Cells.cell? (h₁.get.upd r (true, .cells cs 225 (0, 0))) (Addr.add ⟨r, 0, none⟩ 2) = some (.bool b2) := by rw [add_plain]; exact cell_upd (hbs 2 _ rfl)
   have c3 : Cells.cell? (h₁.get.upd r (true, .cells cs 225 (0, 0))) (Addr.add ⟨r, 0, none⟩ 3) = some (.bool b3) := by rw [add_plain]; exact cell_upd (hbs 3 _ rfl)
   have c4 : Cells.cell? (h₁.get.upd r (true, .cells cs 225 (0, 0))) (Addr.add ⟨r, 0, none⟩ 4) = some (.bool b4) := by rw [add_plain]; exact cell_upd (hbs 4 _ rfl)
   refine gL2 c0 (gL2 c1 (gL2 c2 (gL2 c3 (gL2 c4 ?_))))
   refine t_eqA5 undItems bo4 inf4 gItems ?_
   refine gZ ?_
   refine t_cond (fun e => ?_) (fun e => ?_)
   ·have e : [b0, b1, b2, b3, b4] = [false, false, false, false, false] := by simpa only [decide_eq_true_eq] using e
    refine t_makeSlice undBs inf4 rfl (by decide) (by omega) fun r2 cs2 hr2 hsz2 hcs2 => ?_
    refine gZ ?_
    refine t_ret ⟨LH.le_trans (LH.le_trans le1 (le2 cs)) (LH.upd_le hr2), _, _, _, by rw [hg], ?_, Nat.le_refl _⟩
    rw [hl]
    refine ⟨by rw [List.length_map]; exact hn, by rw [List.length_map]; omega, fun i b hb => ⟨_, rfl, ?_⟩⟩
    unfold BoolE
    rw [add_plain, add_plain]
    rw [List.getElem?_map] at hb
    cases hly : l[i]? with
    | none => rw [hly] at hb; cases hb
    | some y =>
     rw [hly] at hb
     simp only [Option.map_some, Option.some.injEq] at hb
     have hi := (List.getElem?_eq_some_iff.1 hly).1
     have h1 := hlow i y (by omega) hly
     have hcell := hcs2 i (by omega)
     have hb' : b = false := by
      have h2 := hbs i
      match i, hi with
      | 0, _ => have := h2 b0 rfl; cases e; rw [this] at h1; simp only [Option.some.injEq, Value.bool.injEq] at h1; rw [← hb, ← h1]
      | 1, _ => have := h2 b1 rfl; cases e; rw [this] at h1; simp only [Option.some.injEq, Value.bool.injEq] at h1; rw [← hb, ← h1]
      | 2, _ => have := h2 b2 rfl; cases e; rw [this] at h1; simp only [Option.some.injEq, Value.bool.injEq] at h1; rw [← hb, ← h1]
      | 3, _ => have := h2 b3 rfl; cases e; rw [this] at h1; simp only [Option.some.injEq, Value.bool.injEq] at h1; rw [← hb, ← h1]
      | 4, _ => have := h2 b4 rfl; cases e; rw [this] at h1; simp only [Option.some.injEq, Value.bool.injEq] at h1; rw [← hb, ← h1]
      | i + 5, hi => omega
     rw [hb']
     have hz : 0 + i * 1 + 0 = i := by omega
     rw [hz]
     exact cell_upd hcell
   ·refine t_sliceArr undItems inf4 (by omega) fun a' ha0 ha1 => ?_
    refine gZ ?_
    refine t_ret ⟨LH.le_trans le1 (le2 cs), _, _, _, by rw [hg], ?_, Nat.le_refl _⟩
    rw [hl]
    have haa : a' = ⟨r, 0, none⟩ := by
     by_cases e0 : j = 0
     ·exact ha0 e0
     ·rw [ha1 e0, add_plain]
    subst haa
    refine ⟨by rw [List.length_map]; exact hn, by rw [List.length_map]; omega, fun i b hb => ⟨_, rfl, ?_⟩⟩
    unfold BoolE
    rw [add_plain, add_plain]
    rw [List.getElem?_map] at hb
    cases hly : l[i]? with
    | none => rw [hly] at hb; cases hb
    | some y =>
     rw [hly] at hb
     simp only [Option.map_some, Option.some.injEq] at hb
     have hi := (List.getElem?_eq_some_iff.1 hly).1
     have h1 := hlow i y (by omega) hly
     have hz : 0 + i * 1 + 0 = i := by omega
     rw [hz, ← hb]
     exact cell_upd h1
def turnsT (x : TF) (k d : Int) : List Int := ((List.range x.items.toNat).filter fun i : Nat => decide (0 ≤ turned x k (i : Int) d)).map fun i : Nat => (i : Int)
def TurnsR (h : Cells) (x : TF) (k d : Int) (r : Value) : Prop :=
 (askedDayT x k d ≠ 0 ∧ r = .tuple #[.slice none 0 0, .int .i64 (askedDayT x k d)]) ∨
 (askedDayT x k d = 0 ∧ ∃ p n c, r = .tuple #[.slice p n c, .int .i64 0] ∧ Sl IntE 1 h p n (turnsT x k d) ∧ n ≤ c)
set_option maxRecDepth 10000 in
theorem c2029 {h : LH} (hk : Kinds h.get) {f : TC} {x : TF} (hx : TreatyR h.get f x) (k d : Int) : Gr Tryz.prog 91 #[treatyV f x, .int .i64 k, .int .i64 d] h fun r h' => TurnsR h'.get x k d r := by
 refine w2029 _ _ _ _ _ _ _ _ _ _ _ X0_ok ?_
 unfold n2029
 refine t_pu (c2063 hk hx k d) ?_
 refine gZ ?_
 refine t_cond (fun e => ?_) (fun e => ?_)
 ·exact t_ret ⟨LH.le_refl _, .inl ⟨by simpa using e, rfl⟩⟩
 have e0 : askedDayT x k d = 0 := by simpa using e
 have hck := (asked_ok (askedDay_ok e0).1).1
 have rt := Right.of hck
 have hit := (check_numbers hck).1
 refine t_loop (fun mm vs h' => h.le h' ∧ ∃ (j : Nat) (p : Option Addr) (n c : Nat), vs = [.slice p n c, .int .i64 j] ∧ (j : Int) ≤ x.items ∧ mm = x.items.toNat - j ∧ Growing IntEnc 3 1 h.get h'.get p n c (((List.range j).filter fun i : Nat => decide (0 ≤ turned x k (i : Int) d)).map fun i : Nat => (i : Int)))
  ⟨LH.le_refl _, 0, none, 0, 0, rfl, by omega, rfl, Growing.nil⟩ ?_
 rintro Y mm vs h₁ hY ⟨le1, j, p, n, c, rfl, hj, rfl, g⟩
 have hnn : n ≤ j := by
  rw [g.count IntEnc.len (by omega), List.length_map]
  have := List.length_filter_le (fun i : Nat => decide (0 ≤ turned x k (i : Int) d)) (List.range j)
  rw [List.length_range] at this; exact this
 refine gZ ?_
 refine t_if (fun e1 => ?_) (fun e1 => ?_)
 ·refine t_gr (c2064 (hk.le le1.1) (hx.le le1.1) rt k j d) ?_
  rintro _ h2 le2 rfl
  cases ho : turnO x k (j : Int) d with
  | none =>
   have hno := (turnO_none rt.ok).1 ho
   simp only [Option.isSome, bestCells, zeroAsk]
   refine gZ ?_
   refine t_cond (fun e => by cases e) (fun _ => ?_)
   refine t_again (hY (x.items.toNat - (j + 1)) _ _ (by omega) ⟨LH.le_trans le1 le2, j + 1, p, n, c, ?_, by omega, rfl, ?_⟩)
   ·rw [wrap_id (by omega) (by omega)]; rfl
   ·rw [List.range_succ, List.filter_append, List.filter_cons, if_neg (by simpa using hno)]
    simpa using g.le le2.1
  | some a =>
   obtain ⟨ha0, hae⟩ := turnO_some rt.ok ho
   simp only [Option.isSome, bestCells, askCells]
   refine gZ ?_
   refine t_cond (fun _ => ?_) (fun e => by cases e)
   refine t_push (j : Int) [.int .i64 (j : Int)] rfl rfl und50 inf3 rfl (by omega) (by decide) (by kernel_rfl) rfl (by simp; rfl) (by omega) (g.le le2.1) (LH.le_trans le1 le2) rfl ?_
   intro p' c' h3 le3 _ g3
   refine gZ ?_
   refine t_again (hY (x.items.toNat - (j + 1)) _ _ (by omega) ⟨le3, j + 1, p', n + 1, c', ?_, by omega, rfl, ?_⟩)
   ·rw [wrap_id (by omega) (by omega)]; rfl
   ·rw [List.range_succ, List.filter_append, List.filter_cons, if_pos (by rw [← hae]; simpa using ha0), List.map_append]; exact g3
 ·refine gZ ?_
  have hjn : x.items.toNat = j := by omega
  refine t_ret ⟨le1, .inr ⟨e0, p, n, c, rfl, ?_, ?_⟩⟩
  ·unfold turnsT
   rw [hjn]
   refine g.sl IntEnc.len (by omega) IntEnc.e ?_
   rw [← g.count IntEnc.len (by omega)]; omega
  ·obtain ⟨vs, o, _⟩ := g.row
   exact o.le_cap
end Go.Proofs.YtldamlcehbdkdaaGreatDoor.Tre
end

/- Contracts and laws for the proof, joined by a program. No condition. -/
import Derived.Test.YtgljffachdhigaaGreatDoorM4
set_option linter.all false
section
namespace Go.Proofs.YtgljffachdhigaaGreatDoor
open Go Go.TM Go.Proofs
set_option linter.unusedVariables false
set_option maxRecDepth 100000
variable {X:XP} {h:LH} {A:Value -> LH -> Prop}
noncomputable def n3120 (b_0p:Option Addr) (b_0n b_0c:Nat) (b_1p:Option Addr) (b_1n b_1c:Nat):T := .call false 51 #[.agg #[.slice b_0p b_0n b_0c,.slice b_1p b_1n b_1c]] fun v => .unI .i64 v fun n => bif n != 0 then .leaf (.ret (.tuple #[.slice none 0 0,.slice none 0 0,.int .i64 n])) else .call false 52 #[.agg #[.slice b_0p b_0n b_0c,.slice b_1p b_1n b_1c]] fun v => .unTup v fun l => .unCons l fun v vs => .unS v fun a n c => .unCons vs fun v vs => .unS v fun a_1 n_1 c_1 => .unNil vs (.leaf (.ret (.tuple #[.slice a n c,.slice a_1 n_1 c_1,.int .i64 0])))
theorem w3120 (b_0p:Option Addr) (b_0n b_0c:Nat) (b_1p:Option Addr) (b_1n b_1c:Nat) (hX:XOK X) (hw:(n3120 b_0p b_0n b_0c b_1p b_1n b_1c).wp X Tryz.prog (retQ A) h):FWK X Tryz.prog .normal 14 #[.agg #[.slice b_0p b_0n b_0c,.slice b_1p b_1n b_1c]] h A := fwk_neat (priv := [1]) (loops := []) (joins := []) (fd := Tryz.f14) (by kernel_rfl) (by simp) (by kernel_rfl) (by kernel_rfl) hX hw
noncomputable def n3152 (b_0p:Option Addr) (b_0n b_0c:Nat) (b_1p:Option Addr) (b_1n b_1c:Nat):T := .sem false (Instr.makeMap 161 none) fun v => .unM v fun a => .sem false (Instr.makeSlice 30 (.int .i64 (↑b_1n:Int)) (.int .i64 (↑b_1n:Int))) fun v => .unS v fun a_1 n c => .call false 94 #[.agg #[.slice b_0p b_0n b_0c,.slice b_1p b_1n b_1c]] fun v => .each v [.int .i64 0] (fun xs vs => .unCons xs fun v vs_1 => .unAgg v fun l => .popS l fun a_2 n_1 c vs_2 => .popB vs_2 fun b vs_3 => .popB vs_3 fun b_1 vs_4 => .popB vs_4 fun b_2 vs_5 => .popB vs_5 fun b_3 vs_6 => .popB vs_6 fun b_4 vs_7 => .popB vs_7 fun b_5 vs_8 => .popI .i64 vs_8 fun n_2 vs_9 => .unNil vs_9 (.unNil vs_1 (.popI .i64 vs fun n_3 vs => .unNil vs (.blk (.both (.sem false (Instr.lookup 161 (.map a) (.agg #[.bool b,.bool b_1,.bool b_2,.bool b_3,.bool b_4,.bool b_5]) false) fun v => .unI .i64 v fun n => .need (AV.pp 7 1 = AV.pp 7 1) (.sem false (Instr.mapEntry 161 (.map a) (.agg #[.bool b,.bool b_1,.bool b_2,.bool b_3,.bool b_4,.bool b_5])) fun v => .unTup v fun l => .unCons l fun v vs => .unCons vs fun v vs => .unI .i64 v fun n_4 => .unNil vs (.nd (.int .i64 (IntKind.wrap .i64 (n + 1))) (.sem false (Sem.bind (Instr.entryStore 161 (.map a) (.int .i64 n_4) (.int .i64 (IntKind.wrap .i64 (n + 1)))) fun __r => pure (.tuple #[])) fun x => .leaf (.again []))))) (.sem false (Instr.mapEntry 161 (.map a) (.agg #[.bool b,.bool b_1,.bool b_2,.bool b_3,.bool b_4,.bool b_5])) fun v => .unTup v fun l => .unCons l fun v vs => .unCons vs fun v vs => .unI .i64 v fun n => .unNil vs (.sem false (Instr.lookup 161 (.map a) (.agg #[.bool b,.bool b_1,.bool b_2,.bool b_3,.bool b_4,.bool b_5]) false) fun v => .unI .i64 v fun n_4 => .nd (.int .i64 n) (.sem false (Sem.bind (Instr.entryStore 161 (.map a) (.int .i64 n) (.int .i64 (IntKind.wrap .i64 (n_4 + 1)))) fun __r => pure (.tuple #[])) fun x => .leaf (.again []))))) (fun vs => .unNil vs (.loop [.int .i64 0] (fun vs => .popI .i64 vs fun n_4 vs => .unNil vs (bif decide (n_4 < (↑n:Int)) then .need (0 <= n_4 /\ n_4 < (↑n:Int)) (.someA a_1 fun a => .loadI .i64 (a.add (n_4.toNat * 1)) fun n_5 => .need (0 <= n_4) (.need (0 <= n_4 /\ n_4 < (↑n:Int)) (.someA a_1 fun a => .store ((a.add (n_4.toNat * 1)).add 0) (.int .i64 (IntKind.wrap .i64 (n_5 + IntKind.wrap .i64 (↑(BitVec.toNat (BitVec.ofInt 64 (Int.fdiv n_2 (2 ^ min (n_4.toNat) 64)) &&& BitVec.ofInt 64 1)):Int)))) (.leaf (.again [.int .i64 (IntKind.wrap .i64 (n_4 + 1))]))))) else .leaf (.brk [.int .i64 n_4]))) (fun vs => .popI .i64 vs fun n vs => .unNil vs (.leaf (.again [.int .i64 (IntKind.wrap .i64 (n_3 + 1))]))) (fun vs => .popI .i64 vs fun n vs => .unNil vs (.leaf (.retn [.int .i64 (IntKind.wrap .i64 (n_3 + 1))]))) fun x x_1 => .fail)) (fun vs => .unNil vs (.leaf (.retn [.int .i64 (IntKind.wrap .i64 (n_3 + 1))]))) fun x x_1 => .fail)))) (fun vs => .popI .i64 vs fun n_1 vs => .unNil vs (.loop [.slice none 0 0,.int .i64 0] (fun vs => .popS vs fun a_2 n c vs => .popI .i64 vs fun n_2 vs => .unNil vs (bif decide (n_2 < (↑b_0n:Int)) then .sem false (Instr.range 161 (.map a)) fun v => .unP v fun a => .loop [.int .i64 0] (fun vs => .popI .i64 vs fun n vs => .unNil vs (.sem false (Instr.next (.pointer a) false 0) fun v => .unTup v fun l => .unCons l fun b l => .unB b fun b => bif b then .unCons l fun v vs => .unCons vs fun v vs => .unNil vs (.sem false (Instr.entry (.pointer a)) fun v => .unTup v fun l => .unCons l fun v vs => .unCons vs fun v_1 vs => .unNil vs (.unAgg v fun l => .popB l fun b vs => .popB vs fun b_1 vs => .popB vs fun b_2 vs => .popB vs fun b_3 vs => .popB vs fun b_4 vs => .popB vs fun b_5 vs => .unNil vs (.unI .i64 v_1 fun n_3 => .new 128 #[.bool false,.bool false,.bool false,.bool false,.bool false,.bool false] fun r => .store (Addr.add { block := r,off := 0 } 0) (.bool b) (.store (Addr.add { block := r,off := 0 } 1) (.bool b_1) (.store (Addr.add { block := r,off := 0 } 2) (.bool b_2) (.store (Addr.add { block := r,off := 0 } 3) (.bool b_3) (.store (Addr.add { block := r,off := 0 } 4) (.bool b_4) (.store (Addr.add { block := r,off := 0 } 5) (.bool b_5) (.need (0 <= n_2 /\ n_2 < (↑6:Int)) (.store ((Addr.add { block := r,off := 0 } (n_2.toNat * 1)).add 0) (.bool true) (.loadB (Addr.add { block := r,off := 0 } 0) fun b_6 => .loadB (Addr.add { block := r,off := 0 } 1) fun b_7 => .loadB (Addr.add { block := r,off := 0 } 2) fun b_8 => .loadB (Addr.add { block := r,off := 0 } 3) fun b_9 => .loadB (Addr.add { block := r,off := 0 } 4) fun b_10 => .loadB (Addr.add { block := r,off := 0 } 5) fun b_11 => .sem false (Sem.bind (eqGuard BinOp.eql 128 (Operand.tmp 68) (Operand.tmp 69) (.agg #[.bool b,.bool b_1,.bool b_2,.bool b_3,.bool b_4,.bool b_5]) (.agg #[.bool b_6,.bool b_7,.bool b_8,.bool b_9,.bool b_10,.bool b_11])) fun __r => binOp BinOp.eql 128 (.agg #[.bool b,.bool b_1,.bool b_2,.bool b_3,.bool b_4,.bool b_5]) (.agg #[.bool b_6,.bool b_7,.bool b_8,.bool b_9,.bool b_10,.bool b_11])) fun v => .unB v fun b => bif b then .leaf (.again [.int .i64 (IntKind.wrap .i64 (n + n_3))]) else .leaf (.again [.int .i64 n])))))))))))) else .unNil l (.leaf (.brk [.int .i64 n])))) (fun vs => .popI .i64 vs fun n_3 vs => .unNil vs (.call false 95 #[.int .i64 n_3,.int .i64 n_1] fun v => .unI .i64 v fun n_4 => .sem false (Instr.buildSlice 50 1 #[(0,.int .i64 n_4)]) fun v => .unS v fun a n_5 c_1 => .sem false (Builtin.append_ #[50,50] 50 #[.slice a_2 n c,.slice a n_5 c_1]) fun v => .unS v fun a n c => .leaf (.again [.slice a n c,.int .i64 (IntKind.wrap .i64 (n_2 + 1))]))) (fun vs => .popI .i64 vs fun n_3 vs => .unNil vs (.leaf (.retn [.slice a_2 n c,.int .i64 n_2]))) fun x x_1 => .fail else .leaf (.brk [.slice a_2 n c,.int .i64 n_2]))) (fun vs => .popS vs fun a n_2 c vs => .popI .i64 vs fun n_3 vs => .unNil vs (.loop [.slice none 0 0,.int .i64 0] (fun vs => .popS vs fun a n_4 c vs => .popI .i64 vs fun n_5 vs => .unNil vs (bif decide (n_5 < (↑n:Int)) then .need (0 <= n_5 /\ n_5 < (↑n:Int)) (.someA a_1 fun a_2 => .loadI .i64 (a_2.add (n_5.toNat * 1)) fun n => .call false 95 #[.int .i64 n,.int .i64 n_1] fun v => .unI .i64 v fun n => .sem false (Instr.buildSlice 50 1 #[(0,.int .i64 n)]) fun v => .unS v fun a_3 n c_1 => .sem false (Builtin.append_ #[50,50] 50 #[.slice a n_4 c,.slice a_3 n c_1]) fun v => .unS v fun a n c => .leaf (.again [.slice a n c,.int .i64 (IntKind.wrap .i64 (n_5 + 1))])) else .leaf (.brk [.slice a n_4 c,.int .i64 n_5]))) (fun vs => .popS vs fun a_2 n c_1 vs => .popI .i64 vs fun n_4 vs => .unNil vs (.leaf (.ret (.tuple #[.slice a n_2 c,.slice a_2 n c_1])))) (fun vs => .popS vs fun a_2 n c_1 vs => .popI .i64 vs fun n_4 vs => .unNil vs (.leaf (.ret (.tuple #[.slice a n_2 c,.slice a_2 n c_1])))) fun x x_1 => .fail)) (fun vs => .popS vs fun a n c vs => .popI .i64 vs fun n_2 vs => .unNil vs (.leaf (.ret (.tuple #[.slice a n c,.slice none 0 0])))) fun x x_1 => .fail)) (fun vs => .popI .i64 vs fun n_1 vs => .unNil vs (.loop [.slice none 0 0,.int .i64 0] (fun vs => .popS vs fun a_2 n c vs => .popI .i64 vs fun n_2 vs => .unNil vs (bif decide (n_2 < (↑b_0n:Int)) then .sem false (Instr.range 161 (.map a)) fun v => .unP v fun a => .loop [.int .i64 0] (fun vs => .popI .i64 vs fun n vs => .unNil vs (.sem false (Instr.next (.pointer a) false 0) fun v => .unTup v fun l => .unCons l fun b l => .unB b fun b => bif b then .unCons l fun v vs => .unCons vs fun v vs => .unNil vs (.sem false (Instr.entry (.pointer a)) fun v => .unTup v fun l => .unCons l fun v vs => .unCons vs fun v_1 vs => .unNil vs (.unAgg v fun l => .popB l fun b vs => .popB vs fun b_1 vs => .popB vs fun b_2 vs => .popB vs fun b_3 vs => .popB vs fun b_4 vs => .popB vs fun b_5 vs => .unNil vs (.unI .i64 v_1 fun n_3 => .new 128 #[.bool false,.bool false,.bool false,.bool false,.bool false,.bool false] fun r => .store (Addr.add { block := r,off := 0 } 0) (.bool b) (.store (Addr.add { block := r,off := 0 } 1) (.bool b_1) (.store (Addr.add { block := r,off := 0 } 2) (.bool b_2) (.store (Addr.add { block := r,off := 0 } 3) (.bool b_3) (.store (Addr.add { block := r,off := 0 } 4) (.bool b_4) (.store (Addr.add { block := r,off := 0 } 5) (.bool b_5) (.need (0 <= n_2 /\ n_2 < (↑6:Int)) (.store ((Addr.add { block := r,off := 0 } (n_2.toNat * 1)).add 0) (.bool true) (.loadB (Addr.add { block := r,off := 0 } 0) fun b_6 => .loadB (Addr.add { block := r,off := 0 } 1) fun b_7 => .loadB (Addr.add { block := r,off := 0 } 2) fun b_8 => .loadB (Addr.add { block := r,off := 0 } 3) fun b_9 => .loadB (Addr.add { block := r,off := 0 } 4) fun b_10 => .loadB (Addr.add { block := r,off := 0 } 5) fun b_11 => .sem false (Sem.bind (eqGuard BinOp.eql 128 (Operand.tmp 68) (Operand.tmp 69) (.agg #[.bool b,.bool b_1,.bool b_2,.bool b_3,.bool b_4,.bool b_5]) (.agg #[.bool b_6,.bool b_7,.bool b_8,.bool b_9,.bool b_10,.bool b_11])) fun __r => binOp BinOp.eql 128 (.agg #[.bool b,.bool b_1,.bool b_2,.bool b_3,.bool b_4,.bool b_5]) (.agg #[.bool b_6,.bool b_7,.bool b_8,.bool b_9,.bool b_10,.bool b_11])) fun v => .unB v fun b => bif b then .leaf (.again [.int .i64 (IntKind.wrap .i64 (n + n_3))]) else .leaf (.again [.int .i64 n])))))))))))) else .unNil l (.leaf (.brk [.int .i64 n])))) (fun vs => .popI .i64 vs fun n_3 vs => .unNil vs (.call false 95 #[.int .i64 n_3,.int .i64 n_1] fun v => .unI .i64 v fun n_4 => .sem false (Instr.buildSlice 50 1 #[(0,.int .i64 n_4)]) fun v => .unS v fun a n_5 c_1 => .sem false (Builtin.append_ #[50,50] 50 #[.slice a_2 n c,.slice a n_5 c_1]) fun v => .unS v fun a n c => .leaf (.again [.slice a n c,.int .i64 (IntKind.wrap .i64 (n_2 + 1))]))) (fun vs => .popI .i64 vs fun n_3 vs => .unNil vs (.leaf (.retn [.slice a_2 n c,.int .i64 n_2]))) fun x x_1 => .fail else .leaf (.brk [.slice a_2 n c,.int .i64 n_2]))) (fun vs => .popS vs fun a n_2 c vs => .popI .i64 vs fun n_3 vs => .unNil vs (.loop [.slice none 0 0,.int .i64 0] (fun vs => .popS vs fun a n_4 c vs => .popI .i64 vs fun n_5 vs => .unNil vs (bif decide (n_5 < (↑n:Int)) then .need (0 <= n_5 /\ n_5 < (↑n:Int)) (.someA a_1 fun a_2 => .loadI .i64 (a_2.add (n_5.toNat * 1)) fun n => .call false 95 #[.int .i64 n,.int .i64 n_1] fun v => .unI .i64 v fun n => .sem false (Instr.buildSlice 50 1 #[(0,.int .i64 n)]) fun v => .unS v fun a_3 n c_1 => .sem false (Builtin.append_ #[50,50] 50 #[.slice a n_4 c,.slice a_3 n c_1]) fun v => .unS v fun a n c => .leaf (.again [.slice a n c,.int .i64 (IntKind.wrap .i64 (n_5 + 1))])) else .leaf (.brk [.slice a n_4 c,.int .i64 n_5]))) (fun vs => .popS vs fun a_2 n c_1 vs => .popI .i64 vs fun n_4 vs => .unNil vs (.leaf (.ret (.tuple #[.slice a n_2 c,.slice a_2 n c_1])))) (fun vs => .popS vs fun a_2 n c_1 vs => .popI .i64 vs fun n_4 vs => .unNil vs (.leaf (.ret (.tuple #[.slice a n_2 c,.slice a_2 n c_1])))) fun x x_1 => .fail)) (fun vs => .popS vs fun a n c vs => .popI .i64 vs fun n_2 vs => .unNil vs (.leaf (.ret (.tuple #[.slice a n c,.slice none 0 0])))) fun x x_1 => .fail)) (fun vs => .popI .i64 vs fun n vs => .unNil vs (.leaf (.ret (.tuple #[.slice none 0 0,.slice none 0 0])))) fun x x_1 => .fail
theorem w3152 (b_0p:Option Addr) (b_0n b_0c:Nat) (b_1p:Option Addr) (b_1n b_1c:Nat) (hX:XOK X) (hw:(n3152 b_0p b_0n b_0c b_1p b_1n b_1c).wp X Tryz.prog (retQ A) h):FWK X Tryz.prog .normal 52 #[.agg #[.slice b_0p b_0n b_0c,.slice b_1p b_1n b_1c]] h A := fwk_neat (priv := [1,4,5,6,7,11]) (loops := [{ id := 2,slots := [(36,.int .i64)],ro := [1,4,5,6,7],outs := [] },{ id := 0,slots := [(28672,.int .i64)],ro := [1,4,5],outs := [],ps := [.agg [.slice,.bool,.bool,.bool,.bool,.bool,.bool,.int .i64]] },{ id := 6,slots := [(10,.int .i64)],ro := [1,4,5,6],outs := [] },{ id := 4,slots := [(2,.slice),(55,.int .i64)],ro := [1,4,5,6],outs := [] },{ id := 8,slots := [(3,.slice),(83,.int .i64)],ro := [1,4,5,6],outs := [] }]) (joins := [{ id := 8,slots := [],ro := [1,4,5,6,7],outs := [] }]) (fd := Tryz.f52) (by kernel_rfl) (by simp) (by kernel_rfl) (by kernel_rfl) hX hw
noncomputable def n3175 (b_0p:Option Addr) (b_0n b_0c:Nat) (b_1p:Option Addr) (b_1n b_1c:Nat):T := .new 102 #[.slice b_0p b_0n b_0c,.slice b_1p b_1n b_1c] fun r => .leaf (.ret (.func (Fn.func 130) #[] #[.pointer (some { block := r,off := 0 })]))
theorem w3175 (b_0p:Option Addr) (b_0n b_0c:Nat) (b_1p:Option Addr) (b_1n b_1c:Nat) (hX:XOK X) (hw:(n3175 b_0p b_0n b_0c b_1p b_1n b_1c).wp X Tryz.prog (retQ A) h):FWK X Tryz.prog .normal 94 #[.agg #[.slice b_0p b_0n b_0c,.slice b_1p b_1n b_1c]] h A := fwk_neat (priv := []) (loops := []) (joins := []) (fd := Tryz.f94) (by kernel_rfl) (by simp) (by kernel_rfl) (by kernel_rfl) hX hw
noncomputable def n3196 (yield:Value) (z0:Addr):T := .new 202 (Value.cells yield) fun r => .new 202 #[Value.nilFunc] fun r_1 => .store (Addr.add { block := r_1,off := 0 } 0) (.func (Fn.func 131) #[] #[.pointer (some z0),.pointer (some { block := r,off := 0 }),.pointer (some { block := r_1,off := 0 })]) (.loadV { block := r_1,off := 0 } fun v => .loadS (z0.add 0) fun p n c => .loadS (z0.add 1) fun p_1 n_1 c_1 => .call false 66 #[.agg #[.slice p n c,.slice p_1 n_1 c_1]] fun v_1 => .unAgg v_1 fun l => .popB l fun b vs => .popB vs fun b_1 vs => .popB vs fun b_2 vs => .popB vs fun b_3 vs => .popB vs fun b_4 vs => .popB vs fun b_5 vs => .unNil vs (.loadV { block := r_1,off := 0 } fun v_2 => .need (AV.val v_2 = AV.val v) (.callv false v #[.agg #[.slice none 0 0,.bool b,.bool b_1,.bool b_2,.bool b_3,.bool b_4,.bool b_5,.int .i64 0]] fun v => .unB v fun b => .leaf (.ret (.tuple #[])))))
theorem w3196 (yield:Value) (z0:Addr) (hX:XOK X) (hw:(n3196 yield z0).wp X Tryz.prog (retQ A) h):FWK X Tryz.prog .normal 130 #[yield,.pointer (some z0)] h A := fwk_neat (priv := []) (loops := []) (joins := []) (fd := Tryz.f130) (by kernel_rfl) (by simp) (by kernel_rfl) (by kernel_rfl) hX hw
noncomputable def n3197 (x_0p:Option Addr) (x_0n x_0c:Nat) (x_1 x_2 x_3 x_4 x_5 x_6:Bool) (x_7:Int) (z0 z1 z2:Addr):T := .loadS ((z0.add 0).add 1) fun p n c => bif (↑x_0n:Int) == (↑n:Int) then .loadV z1 fun v => .callv false v #[.agg #[.slice x_0p x_0n x_0c,.bool x_1,.bool x_2,.bool x_3,.bool x_4,.bool x_5,.bool x_6,.int .i64 x_7]] fun v => .unB v fun b => .leaf (.ret (.bool b)) else .call false 50 #[.slice x_0p x_0n x_0c] fun v => .unI .i64 v fun n => .loadS ((z0.add 0).add 1) fun p n_1 c => .loop [.bool false,.int .i64 0] (fun vs => .popB vs fun b vs => .popI .i64 vs fun n_2 vs => .unNil vs (bif decide (n_2 < (↑n_1:Int)) then .need (0 <= n_2 /\ n_2 < (↑n_1:Int)) (.someA p fun a => .loadStr ((a.add (n_2.toNat * 4)).add 0) fun s => .loadI .i64 ((a.add (n_2.toNat * 4)).add 1) fun n_3 => .loadS ((a.add (n_2.toNat * 4)).add 2) fun p n_4 c => .loadS ((a.add (n_2.toNat * 4)).add 3) fun p n_5 c => .need (0 <= n_2) (bif IntKind.wrap .i64 (↑(BitVec.toNat (BitVec.ofInt 64 (Int.fdiv n (2 ^ min (n_2.toNat) 64)) &&& BitVec.ofInt 64 1)):Int) == 1 then .leaf (.again [.bool b,.int .i64 (IntKind.wrap .i64 (n_2 + 1))]) else .call false 50 #[.slice p n_5 c] fun v => .unI .i64 v fun n_6 => bif IntKind.wrap .i64 (↑(BitVec.toNat (BitVec.ofInt 64 n_6 &&& ~~~BitVec.ofInt 64 n)):Int) != 0 then .leaf (.again [.bool b,.int .i64 (IntKind.wrap .i64 (n_2 + 1))]) else .loadV z2 fun v => .loadS (z0.add 0) fun p n c => .loadS (z0.add 1) fun p_1 n_7 c_1 => .call false 69 #[.agg #[.slice p n c,.slice p_1 n_7 c_1],.agg #[.slice x_0p x_0n x_0c,.bool x_1,.bool x_2,.bool x_3,.bool x_4,.bool x_5,.bool x_6,.int .i64 x_7],.int .i64 n_2] fun v_1 => .unAgg v_1 fun l => .popS l fun a n c vs => .popB vs fun b_1 vs => .popB vs fun b_2 vs => .popB vs fun b_3 vs => .popB vs fun b_4 vs => .popB vs fun b_5 vs => .popB vs fun b_6 vs => .popI .i64 vs fun n_8 vs => .unNil vs (.loadV z2 fun v_2 => .need (AV.val v_2 = AV.val v) (.callv false v #[.agg #[.slice a n c,.bool b_1,.bool b_2,.bool b_3,.bool b_4,.bool b_5,.bool b_6,.int .i64 n_8]] fun v => .unB v fun b_7 => bif !b_7 then .leaf (.retn [.bool false,.int .i64 n_2]) else .leaf (.again [.bool b,.int .i64 (IntKind.wrap .i64 (n_2 + 1))]))))) else .leaf (.brk [.bool b,.int .i64 n_2]))) (fun vs => .popB vs fun b vs => .popI .i64 vs fun n vs => .unNil vs (.leaf (.ret (.bool true)))) (fun vs => .popB vs fun b vs => .popI .i64 vs fun n vs => .unNil vs (.leaf (.ret (.bool b)))) fun x x_8 => .fail
theorem w3197 (x_0p:Option Addr) (x_0n x_0c:Nat) (x_1 x_2 x_3 x_4 x_5 x_6:Bool) (x_7:Int) (z0 z1 z2:Addr) (hX:XOK X) (hw:(n3197 x_0p x_0n x_0c x_1 x_2 x_3 x_4 x_5 x_6 x_7 z0 z1 z2).wp X Tryz.prog (retQ A) h):FWK X Tryz.prog .normal 131 #[.agg #[.slice x_0p x_0n x_0c,.bool x_1,.bool x_2,.bool x_3,.bool x_4,.bool x_5,.bool x_6,.int .i64 x_7],.pointer (some z0),.pointer (some z1),.pointer (some z2)] h A := fwk_neat (priv := [4,8]) (loops := [{ id := 0,slots := [(5,.bool),(27,.int .i64)],ro := [4],outs := [] }]) (joins := []) (fd := Tryz.f131) (by kernel_rfl) (by simp) (by kernel_rfl) (by kernel_rfl) hX hw
end Go.Proofs.YtgljffachdhigaaGreatDoor
end
section
namespace Go.Proofs.YtgljffachdhigaaGreatDoor
open Go Go.TM Go.Proofs Go.TM.Rv
attribute [local irreducible] T.wp CV FWK
theorem look_bits {b:RvBook} {i:Nat} {c:RvCase} (hc:b.cases[i]? = some c) {D:Nat} {p:Nat -> Bool} (hp:∀ j,D.testBit j = p j):(afterN b i).all p = subB (bitsT c.after) D := by
 rw [sub_bits]
 unfold afterN
 rw [hc]
 show (c.after.map Int.toNat).all p = _
 rw [List.all_map]
 congr 1
 funext v
 exact (hp _).symm
theorem after_in {b:RvBook} (o:BookShape b) {c:RvCase} (hc:c ∈ b.cases):∀ v ∈ c.after,0 <= v /\ v < 6 := fun v hv => by
 have h1 := (o.after c hc).2 v hv
 have h2 := o.cases
 omega
theorem bits_after {b:RvBook} (o:BookShape b) {c:RvCase} (hc:c ∈ b.cases):bitsT c.after < 64 := bits_lt (k := 6) fun v hv => by have := after_in o hc v hv; omega
theorem pow_le6 {n:Nat} (h:n <= 5):2 ^ n <= 32 := by
 have:2 ^ n <= 2 ^ 5 := Nat.pow_le_pow_right (by omega) h
 omega
theorem full_bits {n D:Nat} (h1:D < 2 ^ n) (h2:∀ i,i < n -> D.testBit i = true):D = 2 ^ n - 1 := by
 refine Nat.eq_of_testBit_eq fun i => ?_
 rw [Nat.testBit_two_pow_sub_one]
 by_cases e:i < n
 ·rw [h2 i e,decide_eq_true e]
 ·rw [decide_eq_false e,Nat.testBit_lt_two_pow (Nat.lt_of_lt_of_le h1 (Nat.pow_le_pow_right (by omega) (by omega)))]
theorem c3250 {h:LH} {f:BookC} {b:RvBook} (hr:BookR h.get f b) (o:BookShape b) (hac:Acyc b):Pu Tryz.prog 203 #[bookV f] h (.int .i64 0) := by
 refine w3250 _ _ _ _ _ _ X0_ok ?_
 unfold n3250
 have hn1 := hr.cases.1
 have hb1 := hr.cases.2.1
 have h5 := o.cases
 have hp6 := pow_le6 h5
 refine t_loop (fun mm vs h' => h = h' /\ ∃ (k D:Nat),vs = [.int .i64 (D:Int),.int .i64 k] /\ k <= f.n1 /\ mm = f.n1 - k /\ D < 2 ^ b.cases.length /\ ∀ j,D.testBit j = rounds (afterN b) b.cases.length k (fun _ => false) j)
  ⟨rfl,0,0,rfl,Nat.zero_le _,rfl,Nat.pow_pos (by omega),fun j => Nat.zero_testBit j⟩ ?_
 rintro Y mm vs _ hY ⟨rfl,k,D,rfl,hk,rfl,hD,hbits⟩
 refine gZ ?_
 refine t_if (fun e1 => ?_) (fun e1 => ?_)
 ·refine t_loop (fun mm vs h' => h = h' /\ ∃ (i D':Nat),vs = [.int .i64 (D':Int),.int .i64 i] /\ i <= f.n1 /\ mm = f.n1 - i /\ D' < 2 ^ b.cases.length /\ ∀ j,D'.testBit j = Rv.part (afterN b) i (rounds (afterN b) b.cases.length k fun _ => false) j)
   ⟨rfl,0,D,rfl,Nat.zero_le _,rfl,hD,hbits⟩ ?_
  rintro Y2 mm vs _ hY2 ⟨rfl,i,D',rfl,hi,rfl,hD',hbits'⟩
  refine gZ ?_
  refine t_if (fun e2 => ?_) (fun e2 => ?_)
  ·obtain ⟨c,a,hx,ha,g2,g3,⟨q,n,k',g4,g5⟩,q',n',k2,g6,g7⟩ := hr.cases.at (i := i) (by omega)
   have hin:0 <= (i:Int) /\ (i:Int) < (f.n1:Int) := by omega
   have hcm := List.mem_of_getElem? hx
   have hlook := look_bits hx hbits'
   have hsub := sub_at (bits_after o hcm) (show D' < 64 by omega)
   have hor := or_shl (x := D') (n := i) (by omega) (by omega)
   have hi5:i < b.cases.length := by omega
   refine gZ ?_
   repeat ((first | refine t_loadStr (by assumption) ?_ | refine t_loadV (by assumption) ?_ | refine gL0 (by assumption) ?_); refine gZ ?_)
   refine t_pu (c3150 g7 (after_in o hcm)) ?_
   have hsub':(IntKind.i64.wrap (((BitVec.ofInt 64 ((bitsT c.after:Nat):Int)) &&& ~~~(BitVec.ofInt 64 (D':Int))).toNat:Int) == 0) = subB (bitsT c.after) D' := by
    have := hsub
    cases hs:subB (bitsT c.after) D' with
    | true => rw [hs] at this; simpa using this
    | false => rw [hs] at this; simpa using this
   refine gZ ?_
   rw [hsub']
   refine t_cond (fun g => ?_) (fun g => ?_)
   ·refine gZ ?_
    rw [hor]
    refine t_again (hY2 (f.n1 - (i + 1)) _ _ (by omega) ⟨rfl,i + 1,D' ||| 2 ^ i,?_,by omega,rfl,Nat.or_lt_two_pow hD' (Nat.pow_lt_pow_right (by omega) hi5),fun j => ?_⟩)
    ·rw [wrap_id (n := (i:Int) + 1) (by omega) (by omega)]; rfl
    ·show _ = Rv.look (afterN b) i (Rv.part (afterN b) i _) j
     unfold Rv.look
     rw [hlook,g,if_pos rfl,Nat.testBit_or,hbits',Nat.testBit_two_pow]
     congr 1
     rw [Bool.eq_iff_iff,decide_eq_true_eq,beq_iff_eq]
     exact eq_comm
   ·refine t_again (hY2 (f.n1 - (i + 1)) _ _ (by omega) ⟨rfl,i + 1,D',?_,by omega,rfl,hD',fun j => ?_⟩)
    ·rw [wrap_id (n := (i:Int) + 1) (by omega) (by omega)]; rfl
    ·show _ = Rv.look (afterN b) i (Rv.part (afterN b) i _) j
     unfold Rv.look
     rw [hlook,g,if_neg (by simp),hbits']
  ·refine gZ ?_
   have:i = b.cases.length := by omega
   subst this
   refine t_again (hY (f.n1 - (k + 1)) _ _ (by omega) ⟨rfl,k + 1,D',?_,by omega,rfl,hD',hbits'⟩)
   rw [wrap_id (n := (k:Int) + 1) (by omega) (by omega)]; rfl
 ·refine gZ ?_
  have hkn:k = b.cases.length := by omega
  have hfull := full_bits hD fun i hi => by
   rw [hbits,hkn]
   exact all_done o.afterN (no_must o hac) _ i hi
  have e2:IntKind.i64.wrap (1 * 2 ^ (min ((f.n1:Int)).toNat 64)) = ((2 ^ f.n1:Nat):Int) := shl_one (by omega)
  rw [e2,wrap_id (n := ((2 ^ f.n1:Nat):Int) - 1) (by rw [hn1]; omega) (by rw [hn1]; omega)]
  have e3:(((D:Nat):Int) != ((2 ^ f.n1:Nat):Int) - 1) = false := by
   have hpos:0 < 2 ^ b.cases.length := Nat.pow_pos (by omega)
   rw [hfull,hn1]
   simp only [bne_eq_false_iff_eq]
   omega
  rw [e3]
  refine t_cond (fun e => by cases e) (fun _ => ?_)
  exact t_ret ⟨rfl,rfl⟩
def Checks (h:Cells):Prop := h.cell? ⟨0,0,none⟩ = some (.func (.func 201) #[] #[]) /\ h.cell? ⟨0,1,none⟩ = some (.func (.func 202) #[] #[]) /\ h.cell? ⟨0,2,none⟩ = some (.func (.func 203) #[] #[])
theorem Checks.rd {h h':Cells} (hl:Rd h h') (c:Checks h):Checks h' := ⟨hl _ _ c.1,hl _ _ c.2.1,hl _ _ c.2.2⟩
theorem Checks.le {h h':Cells} (hl:h.le h') (c:Checks h):Checks h' := c.rd (Rd.of_le hl)
theorem und1207:Tryz.prog.underlying 160 = some (.array 3 159) := by kernel_rfl
theorem inf1206:(Tryz.prog.info? 159).map (fun i => (i.size,i.bytes,i.zero)) = some (1,8,some .nilFunc) := by kernel_rfl
theorem agg1206:isAggT Tryz.prog 159 = false := by kernel_rfl
theorem undF1206:∃ d,Tryz.prog.underlying 159 = some d := by
 have h:(Tryz.prog.underlying 159).isSome = true := by kernel_rfl
 exact Option.isSome_iff_exists.1 h
theorem c3151 {h:LH} (hc:Checks h.get) {f:BookC} {b:RvBook} (hr:BookR h.get f b) (ok:BookOk b):Gr Tryz.prog 51 #[bookV f] h fun r _ => r = .int .i64 0 := by
 refine w3151 _ _ _ _ _ _ X0_ok ?_
 unfold n3151
 obtain ⟨c0,c1,c2⟩ := hc
 have z0:h.get.cell? (Addr.add { block := 0,off := 0 } 0) = some (.func (.func 201) #[] #[]) := c0
 have z1:h.get.cell? (Addr.add { block := 0,off := 0 } 1) = some (.func (.func 202) #[] #[]) := c1
 have z2:h.get.cell? (Addr.add { block := 0,off := 0 } 2) = some (.func (.func 203) #[] #[]) := c2
 obtain ⟨d,hd⟩ := undF1206
 refine t_loadV z0 ?_
 refine t_loadV z1 ?_
 refine t_loadV z2 ?_
 refine t_loop (fun mm vs h' => h.le h' /\ ∃ i:Nat,vs = [.int .i64 0,.int .i64 i] /\ i <= 3 /\ mm = 3 - i) ⟨LH.le_refl _,0,rfl,by omega,rfl⟩ ?_
 rintro Y mm vs h2 hY ⟨le2,i,rfl,hi,rfl⟩
 have hr2 := hr.le le2.1
 refine gZ ?_
 refine t_if (fun e2 => ?_) (fun e2 => ?_)
 ·have next:∀ h3:LH,h2.le h3 -> Y [.int .i64 0,.int .i64 (IntKind.wrap .i64 ((i:Int) + 1))] h3 := fun h3 le3 => by
   refine hY (3 - (i + 1)) _ _ (by omega) ⟨LH.le_trans le2 le3,i + 1,?_,by omega,rfl⟩
   rw [wrap_id (by omega) (by omega)]; rfl
  have run:∀ (fid:FuncId),Gr Tryz.prog fid #[bookV f] h2 (fun r _ => r = .int .i64 0) -> CV X0 Tryz.prog (.func (.func fid) #[] #[]) #[bookV f] h2 fun r h' => h2.le h' /\ r = .int .i64 0 := fun fid hg => cv_fw X0_ok (by rfl) hg
  match i,e2,next with
  | 0,_,next =>
   refine t_index (i := 0) und1207 inf1206 hd agg1206 (by omega) rfl ?_
   refine t_callv (run _ (c3248 hr2 ok)) ?_
   rintro _ h3 ⟨le3,rfl⟩
   refine gZ ?_
   refine t_cond (fun e => by cases e) (fun _ => ?_)
   exact t_again (next h3 le3)
  | 1,_,next =>
   refine t_index (i := 1) und1207 inf1206 hd agg1206 (by omega) rfl ?_
   refine t_callv (run _ (c3249 hr2 ok)) ?_
   rintro _ h3 ⟨le3,rfl⟩
   refine gZ ?_
   refine t_cond (fun e => by cases e) (fun _ => ?_)
   exact t_again (next h3 le3)
  | 2,_,next =>
   refine t_index (i := 2) und1207 inf1206 hd agg1206 (by omega) rfl ?_
   refine t_callv (run _ (FW.mono (c3250 hr2 ok.toBookShape ok.acyc) ?_)) ?_
   ·rintro v h' ⟨rfl,rfl⟩; exact ⟨LH.le_refl _,rfl⟩
   rintro _ h3 ⟨le3,rfl⟩
   refine gZ ?_
   refine t_cond (fun e => by cases e) (fun _ => ?_)
   exact t_again (next h3 le3)
 ·refine gZ ?_
  exact t_ret ⟨le2,rfl⟩
end Go.Proofs.YtgljffachdhigaaGreatDoor
end
section
namespace Go.Proofs.YtgljffachdhigaaGreatDoor
open Go Go.TM Go.Proofs Go.TM.Rv
attribute [local irreducible] T.wp CV FWK
def firstB (i:Nat):List Bool := (List.range 6).map fun j => decide (j < i)
theorem firstB_at (i:Nat) {j:Nat} (hj:j < 6):(firstB i)[j]? = some (decide (j < i)) := by
 show ((List.range 6).map _)[j]? = _
 rw [List.getElem?_map,List.getElem?_range hj]; rfl
theorem firstB_set {i:Nat} (hi:i < 6):(firstB i).set i true = firstB (i + 1) := by
 have:∀ k:Fin 6,(firstB k).set k true = firstB (k + 1) := by decide
 exact this ⟨i,hi⟩
theorem c3156 {h:LH} {f:BookC} {b:RvBook} (hr:BookR h.get f b) (h6:b.rights.length <= 6):Gr Tryz.prog 66 #[bookV f] h fun r _ => r = .agg #[.bool (decide (0 < b.rights.length)),.bool (decide (1 < b.rights.length)),.bool (decide (2 < b.rights.length)),.bool (decide (3 < b.rights.length)),.bool (decide (4 < b.rights.length)),.bool (decide (5 < b.rights.length))] := by
 refine w3156 _ _ _ _ _ _ X0_ok ?_
 unfold n3156
 have hn := hr.rights.1
 refine t_new fun r hr0 => ?_
 refine t_loop (fun mm vs h' => h.le h' /\ ∃ i:Nat,vs = [.int .i64 i] /\ i <= f.n0 /\ mm = f.n0 - i /\ h'.get r = some (true,.cells (BoolsV (firstB i)) 128 (0,0)))
  ⟨LH.upd_le hr0,0,rfl,Nat.zero_le _,rfl,Cells.upd_self _ _ _⟩ ?_
 rintro Y mm vs h1 hY ⟨le1,i,rfl,hi,rfl,e1⟩
 refine gZ ?_
 refine t_if (fun e2 => ?_) (fun e2 => ?_)
 ·have hin:0 <= (i:Int) /\ (i:Int) < ((6:Nat):Int) := by omega
  refine gZ ?_
  refine t_storeC (j := i) (by rw [add_plain,add_plain]; simp) e1 (by rw [boolsV_size]; simp [firstB]; omega) rfl fun h2 t2 e3 => ?_
  rw [boolsV_set,firstB_set (by omega)] at e3
  refine t_again (hY (f.n0 - (i + 1)) _ _ (by omega) ⟨t2.le le1 hr0,i + 1,?_,by omega,rfl,e3⟩)
  rw [wrap_id (by omega) (by omega)]; rfl
 ·have hi2:i = b.rights.length := by omega
  subst hi2
  have l0 := bools_cell e1 (firstB_at b.rights.length (j := 0) (by omega))
  have l1 := bools_cell e1 (firstB_at b.rights.length (j := 1) (by omega))
  have l2 := bools_cell e1 (firstB_at b.rights.length (j := 2) (by omega))
  have l3 := bools_cell e1 (firstB_at b.rights.length (j := 3) (by omega))
  have l4 := bools_cell e1 (firstB_at b.rights.length (j := 4) (by omega))
  have l5 := bools_cell e1 (firstB_at b.rights.length (j := 5) (by omega))
  refine gZ ?_
  exact t_ret ⟨le1,rfl⟩
def runCells (p:Option Addr) (n c:Nat) (s0 s1 s2 s3 s4 s5:Bool) (w:Int):Array Value := #[.slice p n c,.bool s0,.bool s1,.bool s2,.bool s3,.bool s4,.bool s5,.int .i64 w]
theorem run_cell {h:Cells} {r:Nat} {el:TypeId} {p:Option Addr} {n c:Nat} {s0 s1 s2 s3 s4 s5:Bool} {w:Int} (hr:h r = some (true,.cells (runCells p n c s0 s1 s2 s3 s4 s5 w) el (0,0))) {j:Nat} {v:Value} (hv:(runCells p n c s0 s1 s2 s3 s4 s5 w)[j]? = some v):h.cell? (Addr.add ⟨r,0,none⟩ j) = some v := by
 rw [add_plain,Nat.zero_add]
 unfold Cells.cell?
 rw [hr]
 exact hv
theorem grow_tn {α:Type} {Enc:α -> List Value -> Prop} {el:TypeId} {k:Nat} {h₀:Cells} {h h':LH} {p:Option Addr} {n c:Nat} {l:List α} {r:Nat} (t:Tn r h h') (hne:∀ a,p = some a -> a.block ≠ r) (g:Growing Enc el k h₀ h.get p n c l):Growing Enc el k h₀ h'.get p n c l := by
 obtain ⟨vs,⟨h1,h2⟩,h3⟩ := g.row
 refine ⟨⟨vs,⟨h1,?_⟩,h3⟩,g.new⟩
 rcases h2 with h2 | ⟨r',cs,e1,e2,e3⟩
 ·exact .inl h2
 ·exact .inr ⟨r',cs,e1,by rw [t.keep _ (hne _ e1)]; exact e2,e3⟩
theorem book_at {h:Cells} {f:BookC} {b:RvBook} (hr:BookR h f b) {i:Nat} {c:RvCase} (hc:b.cases[i]? = some c):∃ a,f.p1 = some a /\ CaseE h (a.add (i * 4)) c := hr.cases.2.2 i c hc
theorem run_set {p:Option Addr} {n c:Nat} {w:Int} (s0 s1 s2 s3 s4 s5:Bool) (j:Nat) (hj:j < 6):∃ t0 t1 t2 t3 t4 t5,(runCells p n c s0 s1 s2 s3 s4 s5 w).setIfInBounds (1 + j) (.bool false) = runCells p n c t0 t1 t2 t3 t4 t5 w /\ [s0,s1,s2,s3,s4,s5].set j false = [t0,t1,t2,t3,t4,t5] :=
 match j,hj with
 | 0,_ => ⟨_,_,_,_,_,_,rfl,rfl⟩
 | 1,_ => ⟨_,_,_,_,_,_,rfl,rfl⟩
 | 2,_ => ⟨_,_,_,_,_,_,rfl,rfl⟩
 | 3,_ => ⟨_,_,_,_,_,_,rfl,rfl⟩
 | 4,_ => ⟨_,_,_,_,_,_,rfl,rfl⟩
 | 5,_ => ⟨_,_,_,_,_,_,rfl,rfl⟩
theorem c3158 {h:LH} {f:BookC} {b:RvBook} (hr:BookR h.get f b) (o:BookShape b) {i:Nat} {c:RvCase} (hc:b.cases[i]? = some c) {order:List Int} {w:Nat} {p:Option Addr} {n k:Nat} (hnk:n <= k) (hx:Sl IntE 1 h.get p n order) (hlen:order.length <= 100) (hw:w < 64) (s0 s1 s2 s3 s4 s5:Bool) :
  Gr Tryz.prog 69 #[bookV f,.agg #[.slice p n k,.bool s0,.bool s1,.bool s2,.bool s3,.bool s4,.bool s5,.int .i64 w],.int .i64 i] h fun r h' => ∃ p' n' k' t0 t1 t2 t3 t4 t5,r = .agg #[.slice p' n' k',.bool t0,.bool t1,.bool t2,.bool t3,.bool t4,.bool t5,.int .i64 ((endedT ⟨order,[s0,s1,s2,s3,s4,s5],w⟩ i c).won:Nat)] /\
   (endedT ⟨order,[s0,s1,s2,s3,s4,s5],w⟩ i c).s = [t0,t1,t2,t3,t4,t5] /\ n' <= k' /\ Sl IntE 1 h'.get p' n' (endedT ⟨order,[s0,s1,s2,s3,s4,s5],w⟩ i c).order /\ ∃ r',p' = some ⟨r',0,none⟩ /\ h.get r' = none := by
 refine w3158 _ _ _ _ _ _ _ _ _ _ _ _ _ _ _ _ _ X0_ok ?_
 unfold n3158
 have hn := hx.1
 have hn1 := hr.cases.1
 have hil := (List.getElem?_eq_some_iff.1 hc).1
 have h5 := o.cases
 have hcm := List.mem_of_getElem? hc
 have hag := o.against c hcm
 have h6 := o.rights
 refine t_new fun r hr0 => ?_
 have le1:h.le { h with get := h.get.upd r (true,.cells #[.slice p n k,.bool s0,.bool s1,.bool s2,.bool s3,.bool s4,.bool s5,.int .i64 w] 131 (0,0)) } := LH.upd_le hr0
 have e1:(h.get.upd r (true,.cells #[.slice p n k,.bool s0,.bool s1,.bool s2,.bool s3,.bool s4,.bool s5,.int .i64 w] 131 (0,0))) r = some (true,.cells (runCells p n k s0 s1 s2 s3 s4 s5 w) 131 (0,0)) := Cells.upd_self _ _ _
 generalize hh1:({ h with get := h.get.upd r (true,.cells #[.slice p n k,.bool s0,.bool s1,.bool s2,.bool s3,.bool s4,.bool s5,.int .i64 w] 131 (0,0)) }:LH) = h1 at *
 replace e1:h1.get r = some (true,.cells (runCells p n k s0 s1 s2 s3 s4 s5 w) 131 (0,0)) := by rw [<- hh1]; exact e1
 have l0 := run_cell e1 (j := 0) rfl
 refine gZ ?_
 refine t_slice3 und50 inf3 hnk ?_
 refine gZ ?_
 refine t_build und50 inf3 (by decide) (by decide) (cells := #[.int .i64 i]) (by kernel_rfl) fun r2 hr2 => ?_
 have le2 := LH.upd_le (h := h1) (x := (true,.cells #[.int .i64 (i:Int)] 3 (0,0))) hr2
 have z2:(h1.get.upd r2 (true,.cells #[.int .i64 (i:Int)] 3 (0,0))).cell? (Addr.add ⟨r2,0,none⟩ 0) = some (.int .i64 (i:Int)) := cell_upd rfl
 generalize hh2:({ h1 with get := h1.get.upd r2 (true,.cells #[.int .i64 (i:Int)] 3 (0,0)) }:LH) = h2 at *
 replace z2:h2.get.cell? (Addr.add ⟨r2,0,none⟩ 0) = some (.int .i64 (i:Int)) := by rw [<- hh2]; exact z2
 have le02 := LH.le_trans le1 le2
 refine gZ ?_
 refine t_appendFull rfl rfl und50 und50 inf3 (by decide) (by omega) (hx.le IntE.grow le02.1) z2 fun r3 k3 h3 hr3 le3 hk3 g3 => ?_
 have le03 := LH.le_trans le02 le3
 have e3 := le3.1 _ _ (le2.1 _ _ e1)
 have hne:r3 ≠ r := fun e => by rw [e,le2.1 _ _ e1] at hr3; cases hr3
 refine gZ ?_
 refine t_storeC (j := 0) (by rw [add_plain,add_plain]) e3 (by show 0 < 8; omega) rfl fun h4 t4 e4 => ?_
 have le04 := t4.le le03 hr0
 have g4 := grow_tn t4 (fun a ha => by cases ha; exact hne) g3
 have e4':h4.get r = some (true,.cells (runCells (some ⟨r3,0,none⟩) (n + 1) k3 s0 s1 s2 s3 s4 s5 w) 131 (0,0)) := e4
 obtain ⟨a,ha,x0,x1,⟨q,m,kq,x2,x3⟩,q',m',k',x6,x7⟩ := book_at (hr.le le04.1) hc
 have m1 := run_cell e4' (j := 1) rfl
 have m2 := run_cell e4' (j := 2) rfl
 have m3 := run_cell e4' (j := 3) rfl
 have m4 := run_cell e4' (j := 4) rfl
 have m5 := run_cell e4' (j := 5) rfl
 have m6 := run_cell e4' (j := 6) rfl
 have hin:0 <= (i:Int) /\ (i:Int) < (f.n1:Int) := by omega
 refine gZ ?_
 repeat ((first | refine t_loadStr (by assumption) ?_ | refine t_loadV (by assumption) ?_ | refine gL0 (by assumption) ?_); refine gZ ?_)
 refine t_gr (c3179 x3 (gs := c.grounds) (fun g hg v hv => by have := ((o.grounds c hcm).2 g hg).2.2 v hv; omega) s0 s1 s2 s3 s4 s5) ?_
 rintro _ h5' le5 rfl
 have le05 := LH.le_trans le04 le5
 have e5 := le5.1 _ _ e4'
 have g5 := g4.le le5.1
 have sl5 := fun (h':LH) (t:Tn r h5' h') => (grow_tn t (fun a ha => by cases ha; exact hne) g5).sl IntEnc.len (by omega) IntEnc.e (by simp; omega)
 refine gZ ?_
 refine t_cond (fun g => ?_) (fun g => ?_)
 ·have n7 := run_cell e5 (j := 7) rfl
  have hwins:winsT c [s0,s1,s2,s3,s4,s5] = true := g
  have hor := or_shl (x := w) (n := i) hw (by omega)
  have hag6:0 <= c.against /\ c.against < ((6:Nat):Int) := by omega
  refine gZ ?_
  rw [hor]
  refine t_storeC (j := 7) (by rw [add_plain,add_plain]) e5 (by show 7 < 8; omega) rfl fun h6' t6 e6 => ?_
  have e6':h6'.get r = some (true,.cells (runCells (some ⟨r3,0,none⟩) (n + 1) k3 s0 s1 s2 s3 s4 s5 ((w ||| 2 ^ i:Nat):Int)) 131 (0,0)) := e6
  refine gZ ?_
  refine t_storeC (j := 1 + c.against.toNat) (by rw [add_plain,add_plain,add_plain]; simp) e6' (by show _ < 8; omega) rfl fun h7 t7 e7 => ?_
  obtain ⟨t0,t1,t2,t3,t4,t5,q1,q2⟩ := run_set (p := some ⟨r3,0,none⟩) (n := n + 1) (c := k3) (w := ((w ||| 2 ^ i:Nat):Int)) s0 s1 s2 s3 s4 s5 c.against.toNat (by omega)
  rw [q1] at e7
  have t57 := t6.trans t7
  have n0 := run_cell e7 (j := 0) rfl
  have n1 := run_cell e7 (j := 1) rfl
  have n2 := run_cell e7 (j := 2) rfl
  have n3 := run_cell e7 (j := 3) rfl
  have n4 := run_cell e7 (j := 4) rfl
  have n5 := run_cell e7 (j := 5) rfl
  have n6 := run_cell e7 (j := 6) rfl
  have n7' := run_cell e7 (j := 7) rfl
  refine gZ ?_
  refine t_ret ⟨t57.le le05 hr0,some ⟨r3,0,none⟩,n + 1,k3,t0,t1,t2,t3,t4,t5,?_,?_,hk3,?_,r3,rfl,none_le le02 hr3⟩
  ·unfold endedT; rw [if_pos hwins]
  ·unfold endedT; rw [if_pos hwins]; exact q2
  ·unfold endedT; rw [if_pos hwins]; exact sl5 _ t57
 ·have n0 := run_cell e5 (j := 0) rfl
  have n1 := run_cell e5 (j := 1) rfl
  have n2 := run_cell e5 (j := 2) rfl
  have n3 := run_cell e5 (j := 3) rfl
  have n4 := run_cell e5 (j := 4) rfl
  have n5 := run_cell e5 (j := 5) rfl
  have n6 := run_cell e5 (j := 6) rfl
  have n7 := run_cell e5 (j := 7) rfl
  have hwins:winsT c [s0,s1,s2,s3,s4,s5] = false := g
  refine gZ ?_
  refine t_ret ⟨le05,some ⟨r3,0,none⟩,n + 1,k3,s0,s1,s2,s3,s4,s5,?_,?_,hk3,?_,r3,rfl,none_le le02 hr3⟩
  ·unfold endedT; rw [if_neg (by rw [hwins]; simp)]
  ·unfold endedT; rw [if_neg (by rw [hwins]; simp)]
  ·unfold endedT; rw [if_neg (by rw [hwins]; simp)]; exact sl5 _ (Tn.refl _ _)
end Go.Proofs.YtgljffachdhigaaGreatDoor
end
section
namespace Go.Proofs.YtgljffachdhigaaGreatDoor
open Go Go.TM Go.Proofs Go.TM.Rv
attribute [local irreducible] T.wp CV FWK
theorem cv_one {P:Program} {y:Value} {args:Array Value} {h:LH} {Q:Value -> LH -> Prop} (c:CV X0 P y args h Q):y.cells = #[y] := by
 cases y with
 | agg cs =>
  exfalso
  unfold CV at c
  have := c true (fun _ _ => True) ⟨⟨fun _ _ _ _ _ _ => trivial,fun _ _ _ _ _ => trivial⟩,trivial⟩ default [] fun _ _ _ _ _ => trivial
  exact this
 | _ => rfl
theorem drop_range {n i:Nat} (h:i < n):(List.range n).drop i = i :: (List.range n).drop (i + 1) := by
 rw [List.drop_eq_getElem_cons (by rw [List.length_range]; exact h),List.getElem_range]
theorem ended_won {x:RvRun} {i:Nat} {c:RvCase} (hw:x.won < 64) (hi:i < 6):(endedT x i c).won < 64 := by
 unfold endedT
 split
 ·exact Nat.or_lt_two_pow (n := 6) hw (Nat.pow_lt_pow_right (by omega) hi)
 ·exact hw
def runV (p:Option Addr) (n c:Nat) (s:List Bool) (w:Nat):Value := .agg ((Value.slice p n c :: s.map Value.bool) ++ [Value.int .i64 w]).toArray
def NextRun (s:List RvRun) (xs:List Value) (s':List RvRun):Prop := ∃ x p n c,s = x :: s' /\ xs = [runV p n c x.s x.won]
structure NextM (h:Cells) (f:BookC) (z0 z1 z2:Addr) (y:Value):Prop where
 b0:h.cell? (z0.add 0) = some (.slice f.p0 f.n0 f.c0)
 b1:h.cell? (z0.add 1) = some (.slice f.p1 f.n1 f.c1)
 b2:h.cell? ((z0.add 0).add 1) = some (.slice f.p1 f.n1 f.c1)
 y:y.cells = #[y] -> h.cell? z1 = some y
 nx:h.cell? z2 = some (.func (.func 131) #[] #[.pointer (some z0),.pointer (some z1),.pointer (some z2)])
theorem NextM.le {h h':Cells} {f:BookC} {z0 z1 z2:Addr} {y:Value} (hl:h.le h') (m:NextM h f z0 z1 z2 y):NextM h' f z0 z1 z2 y :=
 ⟨Cells.cell?_le hl m.b0,Cells.cell?_le hl m.b1,Cells.cell?_le hl m.b2,fun e => Cells.cell?_le hl (m.y e),Cells.cell?_le hl m.nx⟩
set_option maxRecDepth 10000 in
theorem next_ok {h₀:LH} {f:BookC} {b:RvBook} (hr:BookR h₀.get f b) (o:BookShape b) {z0 z1 z2:Addr} {y:Value} {J:List RvRun -> LH -> Prop} {E:LH -> Prop}
  (hyield:∀ s h xs s',h₀.le h -> NextRun s xs s' -> J s h -> CV X0 Tryz.prog y xs.toArray h fun b h' => h₀.le h' /\ ((b = .bool true /\ J s' h') \/ (b = .bool false /\ E h'))) :
  ∀ (k:Nat) (order:List Int) (s0 s1 s2 s3 s4 s5:Bool) (w:Nat) (a:LH) (M:Cells) (rest:List RvRun) (p:Option Addr) (n c:Nat),order.length + k = b.cases.length -> (∀ v ∈ order,0 <= v /\ v < 6) -> w < 64 -> n <= c -> Sl IntE 1 a.get p n order -> NextM a.get f z0 z1 z2 y -> h₀.le a -> Disj a.get M ->
   J (runsT b k ⟨order,[s0,s1,s2,s3,s4,s5],w⟩ ++ rest) (h₀.add M) ->
   FW X0 Tryz.prog 131 #[.agg #[.slice p n c,.bool s0,.bool s1,.bool s2,.bool s3,.bool s4,.bool s5,.int .i64 w],.pointer (some z0),.pointer (some z1),.pointer (some z2)] (a.add M) fun r h' => ∃ a' M',h' = a'.add M' /\ a.le a' /\ Disj a'.get M' /\ ((r = .bool true /\ J rest (h₀.add M')) \/ (r = .bool false /\ E (h₀.add M'))) := by
 intro k
 induction k with
 | zero =>
  intro order s0 s1 s2 s3 s4 s5 w a M rest p n c hlen hin hw hnc hs m hla d hJ
  refine w3197 _ _ _ _ _ _ _ _ _ _ _ _ _ X0_ok ?_
  unfold n3197
  have m' := m.le (le_add a M).1
  have hn := hs.1
  have hn1 := hr.cases.1
  have b0 := m'.b0
  have b1 := m'.b1
  have b2 := m'.b2
  refine gZ ?_
  refine t_cond (fun _ => ?_) (fun e => ?_)
  ·have hcv := hyield _ _ [runV p n c [s0,s1,s2,s3,s4,s5] w] rest (le_add _ _) ⟨_,p,n,c,rfl,rfl⟩ hJ
   refine t_loadV (m'.y (cv_one hcv)) ?_
   refine t_yield X0_ok hla d hcv ?_
   rintro bv M' d' (⟨rfl,hJ'⟩ | ⟨rfl,hE'⟩)
   ·refine gZ ?_
    exact t_ret ⟨a,M',rfl,LH.le_refl _,d',.inl ⟨rfl,hJ'⟩⟩
   ·refine gZ ?_
    exact t_ret ⟨a,M',rfl,LH.le_refl _,d',.inr ⟨rfl,hE'⟩⟩
  ·exfalso
   have:((n:Int) == (f.n1:Int)) = true := by rw [beq_iff_eq]; omega
   rw [this] at e; cases e
 | succ k ih =>
  intro order s0 s1 s2 s3 s4 s5 w a M rest p n c hlen hin hw hnc hs m hla d hJ
  refine w3197 _ _ _ _ _ _ _ _ _ _ _ _ _ X0_ok ?_
  unfold n3197
  have m' := m.le (le_add a M).1
  have hn := hs.1
  have hn1 := hr.cases.1
  have hb1 := hr.cases.2.1
  have h5 := o.cases
  have b0 := m'.b0
  have b1 := m'.b1
  have b2 := m'.b2
  refine gZ ?_
  refine t_cond (fun e => ?_) (fun _ => ?_)
  ·exfalso
   have := eq_of_beq e
   omega
  refine t_puF d (c3150 hs hin) ?_
  have hbl:bitsT order < 64 := bits_lt (k := 6) fun v hv => by have := hin v hv; omega
  refine gZ ?_
  refine t_loop (fun mm vs h' => ∃ (i:Nat) (a':LH) (M':Cells),vs = [.bool false,.int .i64 i] /\ i <= f.n1 /\ mm = f.n1 - i /\ h' = a'.add M' /\ a.le a' /\ Disj a'.get M' /\ J (((List.range b.cases.length).drop i).flatMap (Rv.stepT b (runsT b k) ⟨order,[s0,s1,s2,s3,s4,s5],w⟩) ++ rest) (h₀.add M'))
   ⟨0,a,M,rfl,Nat.zero_le _,rfl,rfl,LH.le_refl _,d,hJ⟩ ?_
  rintro Y mm vs _ hY ⟨i,a1,M1,rfl,hi,rfl,rfl,la1,d1,hJ1⟩
  refine gZ ?_
  refine t_if (fun e1 => ?_) (fun e1 => ?_)
  ·have hla1 := LH.le_trans hla la1
   have le1 := le_add a1 M1
   obtain ⟨cs,ad,hx,had,x0,x1,⟨q,mq,kq,x2,x3⟩,q',mq',kq',x6,x7⟩ := (hr.le hla1.1).cases.at (i := i) (by omega)
   have y0 := Cells.cell?_le le1.1 x0
   have y1 := Cells.cell?_le le1.1 x1
   have y2 := Cells.cell?_le le1.1 x2
   have y6 := Cells.cell?_le le1.1 x6
   have hin':0 <= (i:Int) /\ (i:Int) < (f.n1:Int) := by omega
   have hcm := List.mem_of_getElem? hx
   rw [drop_range (show i < b.cases.length by omega),List.flatMap_cons,List.append_assoc] at hJ1
   have hbit := bit_at (x := bitsT order) (i := i) hbl (by omega)
   have skip:canT order i cs = false -> Y [.bool false,.int .i64 (IntKind.wrap .i64 ((i:Int) + 1))] (a1.add M1) := fun hc => by
    refine hY (f.n1 - (i + 1)) _ _ (by omega) ⟨i + 1,a1,M1,?_,by omega,rfl,rfl,la1,d1,?_⟩
    ·rw [wrap_id (by omega) (by omega)]; rfl
    ·have:Rv.stepT b (runsT b k) ⟨order,[s0,s1,s2,s3,s4,s5],w⟩ i = [] := by
      unfold Rv.stepT; rw [hx]; exact if_neg (by rw [hc]; simp)
     rw [this,List.nil_append] at hJ1
     exact hJ1
   refine gZ ?_
   repeat ((first | refine t_loadStr (by assumption) ?_ | refine t_loadV (by assumption) ?_ | refine gL0 (by assumption) ?_); refine gZ ?_)
   rw [hbit]
   refine t_cond (fun g1 => ?_) (fun g1 => ?_)
   ·refine t_again (skip ?_)
    rw [can_bits,g1]; rfl
   refine t_puF d1 (c3150 x7 (after_in o hcm)) ?_
   have hsub := sub_at (bits_after o hcm) hbl
   refine gZ ?_
   rw [hsub]
   refine t_cond (fun g2 => ?_) (fun g2 => ?_)
   ·refine t_again (skip ?_)
    rw [can_bits,g1]
    simpa using g2
   have hcan:canT order i cs = true := by
    rw [can_bits,g1]
    simpa using g2
   have mA := m.le la1.1
   have mW := mA.le le1.1
   have w0 := mW.b0
   have w1 := mW.b1
   refine t_loadV mW.nx ?_
   refine gZ ?_
   refine t_grF d1 (c3158 (f := f) (hr.le hla1.1) o hx hnc (hs.le IntE.grow la1.1) (by omega) hw s0 s1 s2 s3 s4 s5) ?_
   rintro _ a2 la2 d2 ⟨p',n',k',t0,t1,t2,t3,t4,t5,rfl,hsx,hnk',hs2,_⟩
   have mW2 := (mA.le la2.1).le (le_add a2 M1).1
   refine gZ ?_
   refine t_loadV mW2.nx ?_
   have hst:Rv.stepT b (runsT b k) ⟨order,[s0,s1,s2,s3,s4,s5],w⟩ i = runsT b k (endedT ⟨order,[s0,s1,s2,s3,s4,s5],w⟩ i cs) := by
    unfold Rv.stepT; rw [hx]; exact if_pos hcan
   rw [hst] at hJ1
   have hxe:endedT ⟨order,[s0,s1,s2,s3,s4,s5],w⟩ i cs = ⟨(endedT ⟨order,[s0,s1,s2,s3,s4,s5],w⟩ i cs).order,[t0,t1,t2,t3,t4,t5],(endedT ⟨order,[s0,s1,s2,s3,s4,s5],w⟩ i cs).won⟩ := by rw [<- hsx]
   have hord := ended_order (x := ⟨order,[s0,s1,s2,s3,s4,s5],w⟩) (i := i) (c := cs)
   have hw2 := ended_won (x := ⟨order,[s0,s1,s2,s3,s4,s5],w⟩) (i := i) (c := cs) hw (by omega)
   generalize endedT ⟨order,[s0,s1,s2,s3,s4,s5],w⟩ i cs = x2 at *
   rw [hxe] at hJ1
   have hcall := ih x2.order t0 t1 t2 t3 t4 t5 x2.won a2 M1 _ p' n' k' (by rw [hord]; simp; omega) (fun v hv => by
    rw [hord] at hv
    rcases List.mem_append.1 hv with hv | hv
    ·exact hin v hv
    ·simp at hv; omega) hw2 hnk' hs2 (mA.le la2.1) (LH.le_trans hla1 la2) d2 hJ1
   refine gZ ?_
   refine t_callv (cv_fw (first := #[]) (args := #[.agg #[.slice p' n' k',.bool t0,.bool t1,.bool t2,.bool t3,.bool t4,.bool t5,.int .i64 (x2.won:Int)]]) (cap := #[.pointer (some z0),.pointer (some z1),.pointer (some z2)]) X0_ok rfl hcall) ?_
   rintro _ _ ⟨a3,M3,rfl,la3,d3,⟨rfl,hJ3⟩ | ⟨rfl,hE3⟩⟩
   ·refine gZ ?_
    refine t_cond (fun e => by cases e) (fun _ => ?_)
    refine t_again (hY (f.n1 - (i + 1)) _ _ (by omega) ⟨i + 1,a3,M3,?_,by omega,rfl,rfl,LH.le_trans la1 (LH.le_trans la2 la3),d3,hJ3⟩)
    rw [wrap_id (by omega) (by omega)]; rfl
   ·refine gZ ?_
    refine t_cond (fun _ => ?_) (fun e => by cases e)
    refine gI ?_
    refine gZ ?_
    exact t_ret ⟨a3,M3,rfl,LH.le_trans la1 (LH.le_trans la2 la3),d3,.inr ⟨rfl,hE3⟩⟩
  ·refine gZ ?_
   have hd:(List.range b.cases.length).drop i = [] := List.drop_eq_nil_of_le (by rw [List.length_range]; omega)
   rw [hd] at hJ1
   exact t_ret ⟨a1,M1,rfl,la1,d1,.inl ⟨rfl,hJ1⟩⟩
def NoRun (s:List RvRun):Prop := s = []
theorem next_less:∀ s xs s',NextRun s xs s' -> s'.length < s.length := by
 rintro s xs s' ⟨x,p,n,c,rfl,rfl⟩
 simp
def bookC (r:Nat) (el:TypeId) (f:BookC):Cells := oneC r (.cells #[.slice f.p0 f.n0 f.c0,.slice f.p1 f.n1 f.c1] el (0,0))
set_option maxRecDepth 10000 in
theorem hands3196 {h₀:LH} {f:BookC} {b:RvBook} (hr:BookR h₀.get f b) (o:BookShape b) {r:Nat} {el:TypeId} (hr0:h₀.get r = none) :
  HandsF X0 Tryz.prog (.func (.func 130) #[] #[.pointer (some ⟨r,0,none⟩)]) h₀ (bookC r el f) NextRun NoRun (allRuns b) := by
 intro y J E hJ hE hyield h hle hJ0 hdk
 have hh:h = h₀.add (diff h₀.get h.get) := (diff_add hle).symm
 generalize hM:diff h₀.get h.get = M at hh
 have dM0:Disj h₀.get M := by rw [<- hM]; exact diff_disj _ _
 subst hh
 -- one's own half
 have d0:Disj h₀.get (bookC r el f) := disj_oneC hr0
 have dMk:Disj M (bookC r el f) := Disj.of_add_right dM0 hdk
 have e0:(h₀.add M).add (bookC r el f) = (h₀.add (bookC r el f)).add M := by unfold LH.add; simp only; rw [Cells.add_swap dMk]
 rw [e0]
 have ld:h₀.le (h₀.add (bookC r el f)) := le_add _ _
 have dA:Disj (h₀.add (bookC r el f)).get M := Disj.add dM0 dMk.symm
 have hrow:(h₀.add (bookC r el f)).get r = some (true,.cells #[.slice f.p0 f.n0 f.c0,.slice f.p1 f.n1 f.c1] el (0,0)) := add_oneC_get hr0
 generalize h₀.add (bookC r el f) = a at *
 refine cv_fw X0_ok (by rfl) (?_:FW X0 Tryz.prog 130 #[y,.pointer (some ⟨r,0,none⟩)] (a.add M) _)
 refine w3196 _ _ X0_ok ?_
 unfold n3196
 have hra:h₀.get r = none := hr0
 refine t_newF dA fun r1 a1 hr1 la1 d1 e1 keep1 => ?_
 refine t_newF d1 fun r2 a2 hr2 la2 d2 e2 keep2 => ?_
 refine t_storeF d2 (j := 0) (by rw [add_plain]) e2 (by show 0 < 1; omega) rfl fun a3 t3 e3 d3 => ?_
 have hr2a:a.get r2 = none := none_le la1 hr2
 have la3:a.le a3 := t3.le (LH.le_trans la1 la2) hr2a
 have ld3 := LH.le_trans ld la3
 have h12:r1 ≠ r2 := by rintro rfl; rw [e1] at hr2; cases hr2
 have e1':a3.get r1 = some (true,.cells y.cells 202 (0,0)) := by rw [t3.keep _ h12,keep2 _ h12]; exact e1
 have er:a3.get r = some (true,.cells #[.slice f.p0 f.n0 f.c0,.slice f.p1 f.n1 f.c1] el (0,0)) := la3.1 _ _ hrow
 have m:NextM a3.get f ⟨r,0,none⟩ ⟨r1,0,none⟩ ⟨r2,0,none⟩ y := by
  refine ⟨?_,?_,?_,fun ey => ?_,?_⟩
  ·rw [add_plain]; unfold Cells.cell?; rw [er]; rfl
  ·rw [add_plain]; unfold Cells.cell?; rw [er]; rfl
  ·rw [add_plain,add_plain]; unfold Cells.cell?; rw [er]; rfl
  ·unfold Cells.cell?; rw [e1',ey]; rfl
  ·unfold Cells.cell?; rw [e3]; rfl
 have m3 := m.le (le_add a3 M).1
 have b0 := m3.b0
 have b1 := m3.b1
 refine t_loadV m3.nx ?_
 refine gZ ?_
 refine t_grF d3 (c3156 (f := f) (hr.le ld3.1) o.rights) ?_
 rintro _ a4 la4 d4 rfl
 have m4 := (m.le la4.1)
 refine gZ ?_
 refine t_loadV (m4.le (le_add a4 M).1).nx ?_
 refine gZ ?_
 have hJ1:J (allRuns b ++ []) (h₀.add M) := by rw [List.append_nil]; exact hJ0
 have hcall := next_ok hr o hyield b.cases.length [] (decide (0 < b.rights.length)) (decide (1 < b.rights.length)) (decide (2 < b.rights.length)) (decide (3 < b.rights.length)) (decide (4 < b.rights.length)) (decide (5 < b.rights.length)) 0 a4 M [] none 0 0 (by simp) (fun v hv => by cases hv) (by omega) (Nat.le_refl _) Sl.nil m4 (LH.le_trans ld3 la4) d4 hJ1
 refine t_callv (cv_fw (first := #[]) (args := #[.agg #[.slice none 0 0,.bool (decide (0 < b.rights.length)),.bool (decide (1 < b.rights.length)),.bool (decide (2 < b.rights.length)),.bool (decide (3 < b.rights.length)),.bool (decide (4 < b.rights.length)),.bool (decide (5 < b.rights.length)),.int .i64 0]]) (cap := #[.pointer (some ⟨r,0,none⟩),.pointer (some ⟨r1,0,none⟩),.pointer (some ⟨r2,0,none⟩)]) X0_ok rfl hcall) ?_
 rintro _ _ ⟨a5,M5,rfl,la5,d5,hres⟩
 have l05 := LH.le_trans (LH.le_trans ld3 la4) la5
 have hlast:h₀.le (a5.add M5) := LH.le_trans l05 (le_add _ _)
 have hw := whole l05 d5
 have hwd := whole_disj (h₀ := h₀) d5
 rcases hres with ⟨rfl,hJ5⟩ | ⟨rfl,hE5⟩
 ·refine gZ ?_
  refine t_ret ⟨hlast,.inl ⟨[],rfl,?_⟩⟩
  rw [hw]
  exact hJ _ _ _ hJ5 hwd
 ·refine gZ ?_
  refine t_ret ⟨hlast,.inr ?_⟩
  rw [hw]
  exact hE _ _ hE5 hwd
theorem c3175 {h:LH} (f:BookC):FW X0 Tryz.prog 94 #[bookV f] h fun v h' => ∃ r,h.get r = none /\ v = .func (.func 130) #[] #[.pointer (some ⟨r,0,none⟩)] /\ h' = h.add (bookC r 102 f) := by
 refine w3175 _ _ _ _ _ _ X0_ok ?_
 unfold n3175
 refine t_new fun r hr0 => ?_
 refine t_ret ⟨r,hr0,rfl,?_⟩
 have:h.get.upd r (true,.cells #[.slice f.p0 f.n0 f.c0,.slice f.p1 f.n1 f.c1] 102 (0,0)) = h.get.add (bookC r 102 f) := by
  funext b
  unfold Cells.upd Cells.add bookC oneC
  by_cases e:b = r
  ·subst e; simp [hr0]
  ·simp only [if_neg e]; cases h.get b <;> rfl
 show ({ h with get := _ }:LH) = _
 rw [this]
 rfl
end Go.Proofs.YtgljffachdhigaaGreatDoor
end
section
namespace Go.TM.Rv
open Go Go.TM
def unseen (es:Array MapEntry) (seen:Array Nat):Nat := (es.toList.filter fun e => !(seen.toList.contains e.born)).length
def sumSeen (W:MapEntry -> Int) (es:Array MapEntry) (seen:Array Nat):Int := ((es.toList.filter fun e => seen.toList.contains e.born).map W).sum
theorem push_has (seen:Array Nat) (b x:Nat):(seen.push b).toList.contains x = (seen.toList.contains x || x == b) := by
 rw [Array.toList_push,Bool.eq_iff_iff]
 simp
theorem unseen_go {seen:Array Nat} {e:MapEntry} (hb:e.born ∉ seen.toList):∀ {l:List MapEntry},e ∈ l -> (l.filter fun x => !((seen.push e.born).toList.contains x.born)).length < (l.filter fun x => !(seen.toList.contains x.born)).length := by
 intro l
 have mono:∀ l:List MapEntry,(l.filter fun x => !((seen.push e.born).toList.contains x.born)).length <= (l.filter fun x => !(seen.toList.contains x.born)).length := by
  intro l
  induction l with
  | nil => exact Nat.le_refl _
  | cons a l ih =>
   rw [List.filter_cons,List.filter_cons,push_has]
   generalize (l.filter fun x => !((seen.push e.born).toList.contains x.born)) = A at *
   generalize (l.filter fun x => !(seen.toList.contains x.born)) = B at *
   cases seen.toList.contains a.born with
   | true => simpa using ih
   | false =>
    cases (a.born == e.born) with
    | true => simp; omega
    | false => simpa using ih
 induction l with
 | nil => intro h; cases h
 | cons a l ih =>
  intro h
  rw [List.filter_cons,List.filter_cons,push_has]
  rcases List.mem_cons.1 h with rfl | h
  ·have h1:seen.toList.contains e.born = false := by
    cases hc:seen.toList.contains e.born with
    | false => rfl
    | true => exact absurd (by simpa using hc) hb
   have := mono l
   generalize (l.filter fun x => !((seen.push e.born).toList.contains x.born)) = A at *
   generalize (l.filter fun x => !(seen.toList.contains x.born)) = B at *
   simp only [h1,Bool.false_or,beq_self_eq_true,Bool.not_true,Bool.not_false,if_true,List.length_cons]
   simp
   omega
  ·have := ih h
   generalize (l.filter fun x => !((seen.push e.born).toList.contains x.born)) = A at *
   generalize (l.filter fun x => !(seen.toList.contains x.born)) = B at *
   cases seen.toList.contains a.born with
   | true => simpa using this
   | false =>
    cases (a.born == e.born) with
    | true => simp; omega
    | false => simpa using this
theorem unseen_less {es:Array MapEntry} {seen:Array Nat} {e:MapEntry} (he:e ∈ es.toList) (hb:e.born ∉ seen.toList):unseen es (seen.push e.born) < unseen es seen := unseen_go hb he
theorem sum_go {W:MapEntry -> Int} {seen:Array Nat} {e:MapEntry} (hb:e.born ∉ seen.toList):∀ {l:List MapEntry},(l.map (·.born)).Nodup -> e ∈ l -> ((l.filter fun x => (seen.push e.born).toList.contains x.born).map W).sum = ((l.filter fun x => seen.toList.contains x.born).map W).sum + W e := by
 intro l
 have none:∀ l:List MapEntry,e.born ∉ l.map (·.born) -> (l.filter fun x => (seen.push e.born).toList.contains x.born) = l.filter fun x => seen.toList.contains x.born := by
  intro l hl
  refine List.filter_congr fun x hx => ?_
  rw [push_has]
  have:(x.born == e.born) = false := by
   cases hc:(x.born == e.born) with
   | false => rfl
   | true => exact absurd (List.mem_map.2 ⟨x,hx,eq_of_beq hc⟩) hl
  rw [this,Bool.or_false]
 induction l with
 | nil => intro _ h; cases h
 | cons a l ih =>
  intro hn h
  simp only [List.map_cons,List.nodup_cons] at hn
  rw [List.filter_cons,List.filter_cons,push_has]
  rcases List.mem_cons.1 h with rfl | h
  ·have h1:seen.toList.contains e.born = false := by
    cases hc:seen.toList.contains e.born with
    | false => rfl
    | true => exact absurd (by simpa using hc) hb
   rw [none l hn.1]
   simp only [h1,Bool.false_or,beq_self_eq_true,if_true,List.map_cons,List.sum_cons]
   simp
   omega
  ·have ih := ih hn.2 h
   have hne:(a.born == e.born) = false := by
    cases hc:(a.born == e.born) with
    | false => rfl
    | true => exact absurd (List.mem_map.2 ⟨e,h,(eq_of_beq hc).symm⟩) hn.1
   rw [hne,Bool.or_false]
   cases seen.toList.contains a.born with
   | true =>
    simp only [if_true,List.map_cons,List.sum_cons,ih]
    omega
   | false =>
    simp only [Bool.false_eq_true,if_false]
    exact ih
theorem sum_step {W:MapEntry -> Int} {es:Array MapEntry} {seen:Array Nat} {e:MapEntry} (hn:(es.toList.map (·.born)).Nodup) (he:e ∈ es.toList) (hb:e.born ∉ seen.toList):sumSeen W es (seen.push e.born) = sumSeen W es seen + W e := sum_go hb hn he
theorem sum_all {W:MapEntry -> Int} {es:Array MapEntry} {seen:Array Nat} (h:AllSeen es seen):sumSeen W es seen = (es.toList.map W).sum := by
 unfold sumSeen
 rw [List.filter_eq_self.2]
 intro e he
 simpa using h e he
theorem sum_none {W:MapEntry -> Int} {es:Array MapEntry}:sumSeen W es #[] = 0 := by
 unfold sumSeen
 rw [List.filter_eq_nil_iff.2]
 ·rfl
 ·intro e _; simp
theorem sum_filter {W:MapEntry -> Int} {p:MapEntry -> Bool}:∀ {l:List MapEntry},(∀ e ∈ l,0 <= W e) -> 0 <= ((l.filter p).map W).sum /\ ((l.filter p).map W).sum <= (l.map W).sum
 | [],_ => by simp
 | a :: l,h => by
  have ih := sum_filter (p := p) (l := l) fun e he => h e (List.mem_cons_of_mem _ he)
  have h1 := h a List.mem_cons_self
  rw [List.filter_cons,List.map_cons,List.sum_cons]
  cases p a with
  | true => simp only [if_true,List.map_cons,List.sum_cons]; omega
  | false => simp only [Bool.false_eq_true,if_false]; omega
variable {κ:Type} [DecidableEq κ]
theorem sum_zero {α:Type}:∀ (l:List α),(l.map fun _ => (0:Int)).sum = 0
 | [] => rfl
 | _ :: l => by rw [List.map_cons,List.sum_cons,sum_zero l]; rfl
theorem sum_add' {α:Type} (f g:α -> Int):∀ (l:List α),(l.map fun x => f x + g x).sum = (l.map f).sum + (l.map g).sum
 | [] => rfl
 | x :: l => by
  rw [List.map_cons,List.map_cons,List.map_cons,List.sum_cons,List.sum_cons,List.sum_cons,sum_add' f g l]
  omega
theorem sum_one (v:Int) (x:κ):∀ {ks:List κ},ks.Nodup -> x ∈ ks -> (ks.map fun k => if k = x then v else 0).sum = v := by
 intro ks
 have none:∀ ks:List κ,x ∉ ks -> (ks.map fun k => if k = x then v else 0).sum = 0 := by
  intro ks
  induction ks with
  | nil => intro _; rfl
  | cons a l ih =>
   intro h
   rw [List.map_cons,List.sum_cons,ih (fun hh => h (List.mem_cons_of_mem _ hh)),if_neg (fun e:a = x => h (by rw [e]; exact List.mem_cons_self))]
   rfl
 induction ks with
 | nil => intro _ h; cases h
 | cons a l ih =>
  intro hn h
  rw [List.nodup_cons] at hn
  rw [List.map_cons,List.sum_cons]
  by_cases e:a = x
  ·subst e
   rw [if_pos rfl,none l hn.1]; omega
  ·rw [if_neg e,ih hn.2 ((List.mem_cons.1 h).resolve_left fun hh => e hh.symm)]; omega
theorem count_sum (p:κ -> Bool) {ks:List κ} (hn:ks.Nodup):∀ {L:List κ},(∀ x ∈ L,x ∈ ks) -> (ks.map fun k => if p k then (L.count k:Int) else 0).sum = (L.countP p:Int)
 | [],_ => by
  have:(ks.map fun k => if p k then (([]:List κ).count k:Int) else 0) = ks.map fun _ => (0:Int) := List.map_congr_left fun k _ => by simp
  rw [this,sum_zero]; rfl
 | x :: L,h => by
  have ih := count_sum p hn (L := L) fun y hy => h y (List.mem_cons_of_mem _ hy)
  have:(ks.map fun k => if p k then ((x :: L).count k:Int) else 0) = ks.map fun k => (if p k then (L.count k:Int) else 0) + (if k = x then (if p x then 1 else 0) else 0) := by
   refine List.map_congr_left fun k _ => ?_
   rw [List.count_cons]
   by_cases e:k = x
   ·subst e
    cases p k <;> simp
   ·have:(x == k) = false := by simpa using fun hh => e hh.symm
    rw [this,if_neg e]
    cases p k <;> simp
  rw [this,sum_add',ih,sum_one _ x hn (h x List.mem_cons_self),List.countP_cons]
  cases p x <;> simp
end Go.TM.Rv
end
section
namespace Go.Proofs.YtgljffachdhigaaGreatDoor
open Go Go.TM Go.Proofs
attribute [local irreducible] T.wp CV FWK
theorem c88 {h:LH} (p:Option Addr) (land item:Int):Gr Tryz.prog 122 #[.pointer p,.int .i64 land,.int .i64 item] h fun r h' => ∃ z0 z1 z2,r = .func (.func 146) #[] #[.pointer (some z0),.pointer (some z1),.pointer (some z2)] /\
  h'.get.cell? z0 = some (.pointer p) /\ h'.get.cell? z1 = some (.int .i64 land) /\ h'.get.cell? z2 = some (.int .i64 item) := by
 refine w88 _ _ _ X0_ok ?_
 unfold n88
 refine t_new fun r hr => ?_
 refine t_new fun r1 hr1 => ?_
 refine t_new fun r2 hr2 => ?_
 have l1:h.le _ := LH.upd_le (x := (true,.cells #[.pointer p] 139 (0,0))) hr
 have l2 := LH.upd_le (x := (true,.cells #[.int .i64 land] 3 (0,0))) hr1
 have l3 := LH.upd_le (x := (true,.cells #[.int .i64 item] 3 (0,0))) hr2
 have c1:Cells.cell? (h.get.upd r (true,.cells #[.pointer p] 139 (0,0))) ⟨r,0,none⟩ = some (.pointer p) := cell_upd rfl
 have c2:Cells.cell? ((h.get.upd r (true,.cells #[.pointer p] 139 (0,0))).upd r1 (true,.cells #[.int .i64 land] 3 (0,0))) ⟨r1,0,none⟩ = some (.int .i64 land) := cell_upd rfl
 have c3:Cells.cell? (((h.get.upd r (true,.cells #[.pointer p] 139 (0,0))).upd r1 (true,.cells #[.int .i64 land] 3 (0,0))).upd r2 (true,.cells #[.int .i64 item] 3 (0,0))) ⟨r2,0,none⟩ = some (.int .i64 item) := cell_upd rfl
 exact t_ret ⟨LH.le_trans (LH.le_trans l1 l2) l3,_,_,_,rfl,Cells.cell?_le l3.1 (Cells.cell?_le l2.1 c1),Cells.cell?_le l3.1 c2,c3⟩
def handed (V:Nat -> Value) (s:Paper -> Bool):List Paper -> Nat -> List (List Value)
 | [],_ => []
 | x :: l,i => if s x then [V i] :: handed V s l (i + 1) else handed V s l (i + 1)
theorem handed_len (V:Nat -> Value) (s:Paper -> Bool):∀ (l:List Paper) (i:Nat),(handed V s l i).length = (l.filter s).length := by
 intro l
 induction l with
 | nil => intro i; rfl
 | cons x l ih => intro i; rw [handed,List.filter_cons]; split <;> simp [ih]
theorem handed_get (V:Nat -> Value) (s:Paper -> Bool):∀ (l:List Paper) (i k:Nat) xs,(handed V s l i)[k]? = some xs -> ∃ x j,(l.filter s)[k]? = some x /\ l[j]? = some x /\ xs = [V (i + j)] := by
 intro l
 induction l with
 | nil => intro i k xs h; simp [handed] at h
 | cons x l ih =>
  intro i k xs h
  rw [handed] at h
  rw [List.filter_cons]
  split at h
  ·rename_i hs
   rw [if_pos hs]
   cases k with
   | zero => simp at h; exact ⟨x,0,rfl,rfl,by simp [<- h]⟩
   | succ k =>
    obtain ⟨y,j,h1,h2,h3⟩ := ih (i + 1) k xs (by simpa using h)
    exact ⟨y,j + 1,by simpa using h1,by simpa using h2,by rw [h3,show i + 1 + j = i + (j + 1) by omega]⟩
  ·rename_i hs
   rw [if_neg hs]
   obtain ⟨y,j,h1,h2,h3⟩ := ih (i + 1) k xs h
   exact ⟨y,j + 1,h1,by simpa using h2,by rw [h3,show i + 1 + j = i + (j + 1) by omega]⟩
theorem hands99 {X:XP} (hX:XOK X) {h₀:LH} {d:Nat} {z0 z1 z2:Addr} {land item:Int} {p:Option Addr} {n c:Nat} {ps:List Paper} (hz0:h₀.get.cell? z0 = some (.pointer (some ⟨d,0,none⟩))) (hz1:h₀.get.cell? z1 = some (.int .i64 land)) (hz2:h₀.get.cell? z2 = some (.int .i64 item))
  (h5:h₀.get.cell? (Addr.add ⟨d,0,none⟩ 5) = some (.slice p n c)) (hs:Sl PaperE 4 h₀.get p n ps) :
  ∃ L,L.length = (ps.filter (showsB land item)).length /\ (∀ (i:Nat) xs,L[i]? = some xs -> ∃ x q m c,(ps.filter (showsB land item))[i]? = some x /\ xs = [paperV x q m c] /\ Sl IntE 1 h₀.get q m x.items) /\
   Hands X Tryz.prog (.func (.func 146) #[] #[.pointer (some z0),.pointer (some z1),.pointer (some z2)]) h₀ L := by
 let R:Nat -> Value -> Prop := fun i v => ∃ x a q m c,ps[i]? = some x /\ p = some a /\ v = paperV x q m c /\ h₀.get.cell? ((a.add (i * 4)).add 0) = some (.int .i64 x.days.first) /\ h₀.get.cell? ((a.add (i * 4)).add 1) = some (.int .i64 x.days.last) /\ h₀.get.cell? ((a.add (i * 4)).add 2) = some (.int .i64 x.land) /\ h₀.get.cell? ((a.add (i * 4)).add 3) = some (.slice q m c) /\ Sl IntE 1 h₀.get q m x.items
 have hR:∀ i x,ps[i]? = some x -> ∃ v,R i v := by
  intro i x hx
  obtain ⟨a,ha,e1,e2,e3,q,m,k,e4,e5⟩ := hs.2.2 i x hx
  exact ⟨_,x,a,q,m,k,hx,ha,rfl,e1,e2,e3,e4,e5⟩
 let V:Nat -> Value := fun i => Classical.epsilon (R i)
 have hV:∀ i x,ps[i]? = some x -> R i (V i) := fun i x hx => Classical.epsilon_spec (hR i x hx)
 refine ⟨handed V (showsB land item) ps 0,handed_len _ _ _ _,?_,?_⟩
 ·intro i xs hi
  obtain ⟨x,j,h1,h2,h3⟩ := handed_get _ _ _ _ _ _ hi
  rw [Nat.zero_add] at h3
  obtain ⟨x',a,q,m,k,g1,_,g3,_,_,_,_,g8⟩ := hV j x h2
  rw [h2] at g1; cases g1
  exact ⟨x,q,m,k,h1,by rw [h3,g3],g8⟩
 ·intro y J E _ _ hyield h hle hJ
  generalize hL:handed V (showsB land item) ps 0 = L at hyield ⊢
  refine cv_fw hX (by rfl) (?_:FW X Tryz.prog 146 #[y,.pointer (some z0),.pointer (some z1),.pointer (some z2)] h _)
  refine w99 _ _ _ _ hX ?_
  unfold n99
  have hn := hs.1
  have hb := hs.2.1
  have y0 := Cells.cell?_le hle.1 hz0
  have y5 := Cells.cell?_le hle.1 h5
  refine gL3 y0 ?_
  refine gS2 rfl ?_
  refine gL1 y5 ?_
  refine t_loop (fun mm vs h' => h₀.le h' /\ ∃ (j cnt:Nat),vs = [.int .i64 j] /\ j <= n /\ mm = n - j /\ J cnt h' /\ cnt <= L.length /\ L.drop cnt = handed V (showsB land item) (ps.drop j) j) (n := n) ⟨hle,0,0,rfl,Nat.zero_le _,by omega,hJ,Nat.zero_le _,by rw [<- hL]; rfl⟩ ?_
  rintro Y mm vs h₁ hY ⟨le1,j,cnt,rfl,hj,rfl,hJ1,hcl,hdrop⟩
  refine gZ ?_
  refine t_if (fun e1 => ?_) (fun e1 => ?_)
  ·obtain ⟨x,hx⟩ : ∃ x,ps[j]? = some x := ⟨ps[j]'(by omega),List.getElem?_eq_getElem (by omega)⟩
   obtain ⟨x',a,q,m,k,g1,ha,hVj,c0,c1,c2,c3,hit⟩ := hV j x hx
   rw [hx] at g1; cases g1
   have d0 := Cells.cell?_le le1.1 c0
   have d1 := Cells.cell?_le le1.1 c1
   have d2 := Cells.cell?_le le1.1 c2
   have d3 := Cells.cell?_le le1.1 c3
   have w1 := Cells.cell?_le le1.1 hz1
   have w2 := Cells.cell?_le le1.1 hz2
   rw [drop_of hx,handed] at hdrop
   refine gZ ?_
   have skip:showsB land item x = false -> (T.leaf (.again [.int .i64 (IntKind.wrap .i64 ((j:Int) + 1))])).wp X Tryz.prog (fun l h' => l.go h' Y (fun vs h' => T.wp X Tryz.prog (T.popI .i64 vs fun n vs => T.unNil vs (T.leaf (.ret (.tuple #[])))) (retQ fun _ h' => h₀.le h' /\ (J L.length h' \/ E h')) h') (fun vs h' => T.wp X Tryz.prog (T.popI .i64 vs fun n vs => T.unNil vs (T.leaf (.ret (.tuple #[])))) (retQ fun _ h' => h₀.le h' /\ (J L.length h' \/ E h')) h') (fun _ _ h' => T.wp X Tryz.prog .fail (retQ fun _ h' => h₀.le h' /\ (J L.length h' \/ E h')) h')) h₁ := by
    intro hno
    rw [if_neg (by rw [hno]; simp)] at hdrop
    refine t_again (hY (n - (j + 1)) _ _ (by omega) ⟨le1,j + 1,cnt,?_,by omega,rfl,hJ1,hcl,hdrop⟩)
    rw [wrap_id (by omega) (by omega)]; rfl
   refine t_cond (fun e2 => ?_) (fun e2 => ?_)
   ·refine gZ ?_
    refine t_pu (c100 (hit.le IntE.grow le1.1) item) ?_
    refine gZ ?_
    refine t_cond (fun e3 => ?_) (fun e3 => ?_)
    ·have hsh:showsB land item x = true := by unfold showsB; rw [e2,e3]; rfl
     rw [if_pos hsh] at hdrop
     have hget:L[cnt]? = some [V j] := by
      have:(L.drop cnt)[0]? = some [V j] := by rw [hdrop]; rfl
      simpa using this
     have hlt:cnt < L.length := (List.getElem?_eq_some_iff.1 hget).1
     have hcv := hyield cnt h₁ [V j] le1 hget hJ1
     rw [hVj] at hcv
     refine t_callv hcv ?_
     rintro b h₂ ⟨le2,⟨rfl,hJ2⟩ | ⟨rfl,hE⟩⟩
     ·refine gZ ?_
      refine t_cond (fun e => by cases e) (fun _ => ?_)
      refine t_again (hY (n - (j + 1)) _ _ (by omega) ⟨le2,j + 1,cnt + 1,?_,by omega,rfl,hJ2,by omega,?_⟩)
      ·rw [wrap_id (by omega) (by omega)]; rfl
      ·rw [<- List.drop_drop,hdrop]; rfl
     ·refine gZ ?_
      refine t_cond (fun _ => ?_) (fun e => by cases e)
      refine gZ ?_
      exact t_ret ⟨le2,.inr hE⟩
    ·exact skip (by unfold showsB; rw [e2,e3]; rfl)
   ·exact skip (by unfold showsB; rw [e2]; rfl)
  ·refine gZ ?_
   refine t_ret ⟨le1,.inl ?_⟩
   rw [List.drop_eq_nil_of_le (by omega:ps.length <= j),handed] at hdrop
   have:L.length <= cnt := List.drop_eq_nil_iff.1 hdrop
   obtain rfl:cnt = L.length := by omega
   exact hJ1
end Go.Proofs.YtgljffachdhigaaGreatDoor
end
section
namespace Go.Proofs.YtgljffachdhigaaGreatDoor
open Go Go.TM Go.Proofs
attribute [local irreducible] T.wp CV FWK
theorem g30:Tryz.prog.eqGuardType Tryz.prog.depth 29 = false := by kernel_rfl
theorem c60 {h:LH} {d m:Nat} {f:FileC} {u:UseFile} (k:Desk h.get d m f u) (hnum:numbersF u = 0) (land item day:Int) (hd:0 <= day /\ day <= 2000) :
  De 83 #[.pointer (some ⟨d,0,none⟩),.int .i64 land,.int .i64 item,.int .i64 day] h d m f u fun r _ => r = .int .i64 (safe u land item day) := by
 refine w60 _ _ _ _ X0_ok ?_
 unfold n60
 refine t_de (c55 k (num_ok hnum).2.2.2 day hd) ?_
 rintro _ h₁ mv k1 rfl
 obtain ⟨f0,f1,f2,f3,f4,f5,f6⟩ := k1.file
 refine gZ ?_
 refine t_pu (c81 _ _ _) ?_
 refine gZ ?_
 refine t_cond (fun e => ?_) (fun e => ?_)
 ·exact t_ret ⟨mv,k1,by rw [safe,if_pos e]⟩
 refine t_gr (c88 _ _ _) ?_
 rintro _ h₂ le2 ⟨z0,z1,z2,rfl,hz0,hz1,hz2⟩
 have k2 := k1.le le2.1
 obtain ⟨L,hL1,hL2,hH⟩ := hands99 X0_ok hz0 hz1 hz2 k2.file.f5 k2.rep.papers
 refine t_each (LH.le_refl h₂) hH (fun i vs h' => ∃ out,vs = [.int .i64 0,.int .i64 out] /\ safe u land item day = safeGo (window u day) ((shown u land item).drop i) out) ⟨2,rfl,by rw [safe,if_neg (by rw [e]; simp)]; rfl⟩ ?_ ?_
 ·rintro vs h' hle ⟨out,rfl,hc⟩
  rw [List.drop_eq_nil_of_le (by rw [hL1]; exact Nat.le_refl _),safeGo] at hc
  refine gZ ?_
  exact t_ret ⟨mv.trans (Mv.of_le (LH.le_trans le2 hle)),k2.le hle.1,by rw [hc]⟩
 ·rintro i xs vs h' hi hle ⟨out,rfl,hc⟩ Y hY
  obtain ⟨x,q,n,c,hx,rfl,hit⟩ := hL2 i xs hi
  have hx':(shown u land item)[i]? = some x := hx
  rw [drop_of hx',safeGo] at hc
  unfold paperV
  refine gZ ?_
  refine t_eq2 two30 g30 ?_
  refine gZ ?_
  refine t_cond (fun e2 => ?_) (fun e2 => ?_)
  ·refine t_retnE hle ?_
   have e2':insideB (window u day) x.days = true := e2
   rw [if_pos e2'] at hc
   refine gZ ?_
   exact t_ret ⟨mv.trans (Mv.of_le (LH.le_trans le2 hle)),k2.le hle.1,by rw [hc]⟩
  ·have e2':insideB (window u day) x.days = false := e2
   rw [if_neg (by rw [e2']; simp)] at hc
   refine t_cond (fun e3 => ?_) (fun e3 => ?_)
   ·have e3':meetsB (window u day) x.days = true := e3
    rw [if_pos e3'] at hc
    exact t_againE hle (hY _ _ hle ⟨0,rfl,hc⟩)
   ·have e3':meetsB (window u day) x.days = false := e3
    rw [if_neg (by rw [e3']; simp)] at hc
    exact t_againE hle (hY _ _ hle ⟨out,rfl,hc⟩)
def safeR (u:UseFile) (land item day:Int):Value :=
 if openF u [landQ u land,itemQ u item,dayQ day] ≠ 0 then .tuple #[.int .i64 0,.int .i64 (openF u [landQ u land,itemQ u item,dayQ day])] else .tuple #[.int .i64 (safe u land item day),.int .i64 0]
theorem c19 {h:LH} {f:FileC} {u:UseFile} (hp:Parts h.get) (hu:FileR h.get f u) (land item day:Int):Gr Tryz.prog 34 #[fileV f u,.int .i64 land,.int .i64 item,.int .i64 day] h fun r _ => r = safeR u land item day := by
 refine w19 _ _ _ _ _ _ _ _ _ _ _ _ _ _ _ _ X0_ok ?_
 unfold n19
 refine t_gr (c58 u land) ?_
 rintro v0 h₁ le1 ⟨q0,a0⟩
 refine gZ ?_
 refine t_gr (c59 u item) ?_
 rintro v1 h₂ le2 ⟨q1,a1⟩
 refine gZ ?_
 refine t_gr (c54 u day) ?_
 rintro v2 h₃ le3 ⟨q2,a2⟩
 refine gZ ?_
 refine asks3 q0 (a0.le (LH.le_trans le2 le3)) q1 (a1.le le3) q2 a2 fun r h₄ le4 hs => ?_
 refine gZ ?_
 have le14 := LH.le_trans (LH.le_trans (LH.le_trans le1 le2) le3) le4
 refine t_call (c53 (f := f) (hp.le le14.1) (hu.le le14.1) hs) ?_
 rintro v h₅ ⟨le5,⟨hne,rfl⟩ | ⟨h0,d,m,rfl,hd,hm,k⟩⟩
 ·refine gZ ?_
  refine t_cond (fun _ => ?_) (fun e => absurd (by simpa using e) hne)
  refine t_ret ⟨LH.le_trans le14 le5,?_⟩
  show _ = safeR u land item day
  rw [safeR,if_pos hne]
 ·refine gZ ?_
  refine t_cond (fun e => by cases e) (fun _ => ?_)
  have hq := dayQ_zero (open_zero h0 _ (by simp; exact .inr (.inr rfl)))
  refine t_de (c60 k (open_num h0).1 land item day hq) ?_
  rintro _ h₆ mv k6 rfl
  refine gZ ?_
  refine t_ret ⟨LH.le_trans le14 (Mv.le_of le5 hm mv),?_⟩
  show _ = safeR u land item day
  rw [safeR,if_neg (by simpa using h0)]
def weakR (u:UseFile) (land item:Int):Value :=
 if openF u [landQ u land,itemQ u item] ≠ 0 then .tuple #[.int .i64 0,.int .i64 (openF u [landQ u land,itemQ u item])] else .tuple #[.int .i64 (weak u land item),.int .i64 0]
theorem c21 {h:LH} {f:FileC} {u:UseFile} (hp:Parts h.get) (hu:FileR h.get f u) (land item:Int):Gr Tryz.prog 35 #[fileV f u,.int .i64 land,.int .i64 item] h fun r _ => r = weakR u land item := by
 refine w21 _ _ _ _ _ _ _ _ _ _ _ _ _ _ _ X0_ok ?_
 unfold n21
 refine t_gr (c58 u land) ?_
 rintro v0 h₁ le1 ⟨q0,a0⟩
 refine gZ ?_
 refine t_gr (c59 u item) ?_
 rintro v1 h₂ le2 ⟨q1,a1⟩
 refine gZ ?_
 refine asks2 q0 (a0.le le2) q1 a1 fun r h₄ le4 hs => ?_
 refine gZ ?_
 have le14 := LH.le_trans (LH.le_trans le1 le2) le4
 refine t_call (c53 (f := f) (hp.le le14.1) (hu.le le14.1) hs) ?_
 rintro v h₅ ⟨le5,⟨hne,rfl⟩ | ⟨h0,d,m,rfl,hd,hm,k⟩⟩
 ·refine gZ ?_
  refine t_cond (fun _ => ?_) (fun e => absurd (by simpa using e) hne)
  refine t_ret ⟨LH.le_trans le14 le5,?_⟩
  show _ = weakR u land item
  rw [weakR,if_pos hne]
 ·refine gZ ?_
  refine t_cond (fun e => by cases e) (fun _ => ?_)
  have hnum := (open_num h0).1
  have hfrom := (num_ok hnum).2.2.1
  refine t_loop (fun mm vs h' => Mv m h₅ h' /\ Desk h'.get d m f u /\ ∃ x:Int,vs = [.int .i64 0,.int .i64 0,.int .i64 x] /\ 0 <= x /\ x <= 2001 /\ mm = (2001 - x).toNat /\ weak u land item = weakGo (fun d => decide (safe u land item d ≠ 1)) (2001 - x).toNat x)
   ⟨Mv.refl,k,u.from_,rfl,by omega,by omega,rfl,rfl⟩ ?_
  rintro Y mm vs h₆ hY ⟨mv,k6,x,rfl,hx0,hx1,rfl,hc⟩
  refine gZ ?_
  refine t_if (fun e1 => ?_) (fun e1 => ?_)
  ·refine t_de (c60 k6 hnum land item x ⟨hx0,e1⟩) ?_
   rintro _ h₇ mv7 k7 rfl
   refine gZ ?_
   obtain ⟨y,hy⟩ : ∃ y,(2001 - x).toNat = y + 1 := ⟨(2000 - x).toNat,by omega⟩
   have hy':(2001 - (x + 1)).toNat = y := by omega
   rw [hy,weakGo] at hc
   refine t_cond (fun e2 => ?_) (fun e2 => ?_)
   ·refine gZ ?_
    refine t_ret ⟨LH.le_trans le14 (Mv.le_of le5 hm (mv.trans mv7)),?_⟩
    show _ = weakR u land item
    rw [weakR,if_neg (by simpa using h0),hc,if_pos (by simpa using e2)]
   ·rw [if_neg (by simpa using e2)] at hc
    refine t_again (hY (2001 - (x + 1)).toNat _ _ (by omega) ⟨mv.trans mv7,k7,x + 1,?_,by omega,by omega,rfl,by rw [hy']; exact hc⟩)
    rw [wrap_id (by omega) (by omega)]
  ·refine gZ ?_
   have h01:(2001 - x).toNat = 0 := by omega
   rw [h01,weakGo] at hc
   refine t_ret ⟨LH.le_trans le14 (Mv.le_of le5 hm mv),?_⟩
   show _ = weakR u land item
   rw [weakR,if_neg (by simpa using h0),hc]
end Go.Proofs.YtgljffachdhigaaGreatDoor
end
section
namespace Go.Proofs.YtgljffachdhigaaGreatDoor
open Go Go.TM Go.Proofs
attribute [local irreducible] T.wp CV FWK
theorem c41 {h:LH} {p:Option Addr} {n c:Nat} {l:List Int} (hl:Sl IntE 1 h.get p n l) (v:Int):Pu Tryz.prog 16 #[.slice p n c,.int .i64 v] h (.bool (l.contains v)) := by
 refine w41 _ _ _ _ X0_ok ?_
 unfold n41
 have hn := hl.1
 have hbn := hl.2.1
 refine t_loop (fun mm vs h' => h = h' /\ ∃ i:Nat,vs = [.bool false,.int .i64 i] /\ i <= n /\ mm = n - i /\ l.contains v = (l.drop i).contains v) ⟨rfl,0,rfl,Nat.zero_le _,rfl,rfl⟩ ?_
 rintro Y mm vs _ hY ⟨rfl,i,rfl,hi,rfl,hc⟩
 refine gZ ?_
 refine t_if (fun e => ?_) (fun e => ?_)
 ·obtain ⟨x,a,hx,ha,e1⟩ := hl.at (i := i) (by omega)
  unfold IntE at e1
  rw [drop_of hx,List.contains_cons] at hc
  refine gZ ?_
  refine t_cond (fun b => ?_) (fun b => ?_)
  ·refine gZ ?_
   have b':x = v := by simpa using b
   exact t_ret ⟨by rw [hc,b']; simp,rfl⟩
  ·have b':(v == x) = false := by simp at b ⊢; omega
   refine t_again (hY (n - (i + 1)) _ _ (by omega) ⟨rfl,i + 1,?_,by omega,rfl,by rw [hc,b',Bool.false_or]⟩)
   rw [wrap_id (by omega) (by omega)]; rfl
 ·refine gZ ?_
  rw [List.drop_eq_nil_of_le (by omega)] at hc
  exact t_ret ⟨by rw [hc]; rfl,rfl⟩
end Go.Proofs.YtgljffachdhigaaGreatDoor
end
section
namespace Go.Proofs.YtgljffachdhigaaGreatDoor
open Go Go.TM Go.Proofs
attribute [local irreducible] T.wp CV FWK
def ReqEnc (h₀:Cells) (x:Request) (ws:List Value):Prop := ∃ q m c,ws = [.int .i64 x.day,.int .i64 x.land,.slice q m c] /\ Sl IntE 1 h₀ q m x.items
theorem ReqEnc.len {h₀:Cells}:∀ x ws,ReqEnc h₀ x ws -> ws.length = 3 := by rintro x _ ⟨q,m,c,rfl,_⟩; rfl
theorem ReqEnc.e {h₀ h':Cells} (hr:Rd h₀ h'):∀ a x ws,ReqEnc h₀ x ws -> (∀ (j:Nat) w,ws[j]? = some w -> h'.cell? (a.add j) = some w) -> RequestE h' a x := by
 rintro a x _ ⟨q,m,c,rfl,hs⟩ hc
 exact ⟨hc 0 _ rfl,hc 1 _ rfl,q,m,c,hc 2 _ rfl,hs.rd IntE.grow hr⟩
theorem c101 {h:LH} {d m:Nat} {f:FileC} {u:UseFile} (k:Desk h.get d m f u) (hck:checkF u = 0) (land item day:Int) :
  Gr Tryz.prog 147 #[.pointer (some ⟨d,0,none⟩),.int .i64 land,.int .i64 item,.int .i64 day] h fun r h' => ∃ p n c,r = .slice p n c /\ Sl RequestE 3 h'.get p n (against u land item day) := by
 refine w101 _ _ _ _ X0_ok ?_
 unfold n101
 obtain ⟨f0,f1,f2,f3,f4,f5,f6⟩ := k.file
 have hlen := (check_requests hck).1
 have hn6 := k.rep.requests.1
 refine gZ ?_
 refine t_loop (fun mm vs h' => h.le h' /\ ∃ (i:Nat) (p:Option Addr) (n c:Nat) (rs:List Request),vs = [.slice p n c,.int .i64 i] /\ i <= f.n6 /\ mm = f.n6 - i /\ Growing (ReqEnc h.get) 135 3 h.get h'.get p n c rs /\ rs.length <= i /\ against u land item day = rs ++ (u.requests.drop i).filter (agB land item day))
  ⟨LH.le_refl _,0,none,0,0,[],rfl,Nat.zero_le _,rfl,Growing.nil,Nat.le_refl _,rfl⟩ ?_
 rintro Y mm vs h₁ hY ⟨hle,i,p,n,c,rs,rfl,hi,rfl,g,hrl,hc⟩
 refine gZ ?_
 refine t_if (fun e1 => ?_) (fun e1 => ?_)
 ·obtain ⟨x,a,hx,ha,e2,e3,q,mq,cq,e4,e5⟩ := k.rep.requests.at (i := i) (by omega)
  have e2 := Cells.cell?_le hle.1 e2
  have e3 := Cells.cell?_le hle.1 e3
  have e4 := Cells.cell?_le hle.1 e4
  rw [drop_of hx,List.filter_cons] at hc
  have skip:agB land item day x = false -> Y [.slice p n c,.int .i64 (IntKind.wrap .i64 ((i:Int) + 1))] h₁ := by
   intro hno
   rw [if_neg (by rw [hno]; simp)] at hc
   refine hY (f.n6 - (i + 1)) _ _ (by omega) ⟨hle,i + 1,p,n,c,rs,?_,by omega,rfl,g,by omega,hc⟩
   rw [wrap_id (by omega) (by omega)]; rfl
  refine gZ ?_
  refine t_cond (fun b1 => ?_) (fun b1 => ?_)
  ·refine t_if (fun b2 => ?_) (fun b2 => ?_)
   ·refine t_pu (c100 (e5.le IntE.grow hle.1) item) ?_
    refine gZ ?_
    refine t_cond (fun b3 => ?_) (fun b3 => ?_)
    ·have hag:agB land item day x = true := by unfold agB; rw [b1,b3]; simp [b2]
     rw [if_pos hag] at hc
     refine t_build und24 inf64 (by decide) (by decide) (cells := #[.int .i64 x.day,.int .i64 x.land,.slice q mq cq]) (by kernel_rfl) fun r hr => ?_
     have le1:h₁.le _ := LH.upd_le (x := (true,.cells #[.int .i64 x.day,.int .i64 x.land,.slice q mq cq] 135 (0,0))) hr
     have hng := g.count ReqEnc.len (by omega)
     refine gZ ?_
     refine t_grow (x := x) (ws := [.int .i64 x.day,.int .i64 x.land,.slice q mq cq]) rfl rfl und24 und24 inf64 rfl (by omega) (by omega) (g.le le1.1) (LH.le_trans hle le1) ⟨q,mq,cq,rfl,e5⟩ rfl ?_ ?_ ?_
     ·intro j w hj
      rw [add_plain,Nat.zero_add]
      exact cell_upd (by simpa using hj)
     ·intro w hw
      simp at hw
      rcases hw with rfl | rfl | rfl <;> rfl
     ·intro p' c' h₂ hle2 _ g2
      refine gZ ?_
      refine t_again (hY (f.n6 - (i + 1)) _ _ (by omega) ⟨hle2,i + 1,p',n + 1,c',rs ++ [x],?_,by omega,rfl,g2,by simp; omega,by rw [hc]; simp⟩)
      rw [wrap_id (by omega) (by omega)]; rfl
    ·exact t_again (skip (by unfold agB; rw [b1,b3]; simp))
   ·exact t_again (skip (by unfold agB; rw [b1]; simp [b2]))
  ·exact t_again (skip (by unfold agB; rw [b1]; rfl))
 ·refine gZ ?_
  rw [List.drop_eq_nil_of_le (by omega)] at hc
  simp at hc
  refine t_ret ⟨hle,p,n,c,rfl,?_⟩
  rw [hc]
  exact g.sl ReqEnc.len (by omega) (ReqEnc.e (Rd.of_le hle.1)) (by omega)
theorem or_bits {a k:Nat} (ha:a < 2 ^ 32) (hk:k < 32):IntKind.wrap .i64 (((BitVec.ofInt 64 (a:Int) ||| BitVec.ofInt 64 (IntKind.wrap .i64 (1 * 2 ^ min (k:Int).toNat 64))).toNat:Nat):Int) = ((a ||| 2 ^ k:Nat):Int) := by
 have hm:min (k:Int).toNat 64 = k := by simp; omega
 have hp:(2:Nat) ^ k < 2 ^ 32 := Nat.pow_lt_pow_right (by omega) hk
 have hp':(1 * 2 ^ k:Int) = ((2 ^ k:Nat):Int) := by simp
 rw [hm,hp']
 generalize hq:(2:Nat) ^ k = q at hp
 have hw:IntKind.wrap .i64 ((q:Nat):Int) = (q:Int) := wrap_id (by omega) (by omega)
 rw [hw]
 have h1:(BitVec.ofInt 64 (a:Int)).toNat = a := by rw [BitVec.toNat_ofInt]; omega
 have h2:(BitVec.ofInt 64 (q:Int)).toNat = q := by rw [BitVec.toNat_ofInt]; omega
 rw [BitVec.toNat_or,h1,h2]
 have h3:a ||| q < 2 ^ 32 := Nat.or_lt_two_pow ha hp
 exact wrap_id (by omega) (by omega)
theorem c107 {h:LH} {d m:Nat} {f:FileC} {u:UseFile} (k:Desk h.get d m f u) (hck:checkF u = 0) {p:Option Addr} {n c:Nat} {l:List Request} (hl:Sl RequestE 3 h.get p n l) (hl4:l.length <= 4) (hdays:∀ r ∈ l,0 <= r.day /\ r.day <= 2000) (day:Int) :
  De 160 #[.pointer (some ⟨d,0,none⟩),.slice p n c,.int .i64 day] h d m f u fun r _ => r = .int .i64 (meets u l day) := by
 refine w107 _ _ _ _ _ X0_ok ?_
 unfold n107
 have hn := hl.1
 refine t_loop (fun mm vs h' => Mv m h h' /\ Desk h'.get d m f u /\ ∃ (i acc:Nat),vs = [.int .i64 acc,.int .i64 i] /\ i <= n /\ mm = n - i /\ acc < 2 ^ 32 /\ meets u l day = meetsGo u day (l.drop i) i acc)
  ⟨Mv.refl,k,0,0,rfl,Nat.zero_le _,rfl,by omega,rfl⟩ ?_
 rintro Y mm vs h₁ hY ⟨mv,k1,i,acc,rfl,hi,rfl,hacc,hc⟩
 refine gZ ?_
 refine t_if (fun e1 => ?_) (fun e1 => ?_)
 ·obtain ⟨x,a,hx,ha,e2,e3,q,mq,cq,e4,e5⟩ := (hl.rd RequestE.grow (mv.rd k.isMap)).at (i := i) (by omega)
  rw [drop_of hx,meetsGo] at hc
  refine gZ ?_
  have hxd := hdays x (List.mem_of_getElem? hx)
  refine t_de (c55 k1 (num_ok (check_num hck)).2.2.2 x.day hxd) ?_
  rintro _ h₂ mv2 k2 rfl
  refine gZ ?_
  refine t_pu (c81 _ _ _) ?_
  refine gZ ?_
  refine t_cond (fun b => ?_) (fun b => ?_)
  ·rw [if_pos b] at hc
   refine gZ ?_
   rw [or_bits hacc (by omega)]
   refine t_again (hY (n - (i + 1)) _ _ (by omega) ⟨mv.trans mv2,k2,i + 1,acc ||| 2 ^ i,?_,by omega,rfl,Nat.or_lt_two_pow hacc (Nat.pow_lt_pow_right (by omega) (by omega)),hc⟩)
   rw [wrap_id (by omega) (by omega)]; rfl
  ·rw [if_neg (by rw [b]; simp)] at hc
   refine t_again (hY (n - (i + 1)) _ _ (by omega) ⟨mv.trans mv2,k2,i + 1,acc,?_,by omega,rfl,hacc,hc⟩)
   rw [wrap_id (by omega) (by omega)]; rfl
 ·refine gZ ?_
  rw [List.drop_eq_nil_of_le (by omega),meetsGo] at hc
  exact t_ret ⟨mv,k1,by rw [hc]⟩
end Go.Proofs.YtgljffachdhigaaGreatDoor
end
section
namespace Go.Proofs.YtgljffachdhigaaGreatDoor
open Go Go.TM Go.Proofs
attribute [local irreducible] T.wp CV FWK
def MapIs (h:Cells) (a:Nat) (R:Nat -> Prop):Prop := ∃ es,MapAt h a es /\ (∀ e ∈ es.toList,∃ n:Nat,e.key = .int .i64 n /\ e.val = .bool true /\ R n) /\ ∀ n,R n -> ∃ e ∈ es.toList,e.key = .int .i64 (n:Int)
theorem MapIs.isMap {h:Cells} {a:Nat} {R:Nat -> Prop} (m:MapIs h a R):∃ es c,h a = some (true,.map es c) := by obtain ⟨es,⟨c,h1⟩,_⟩ := m; exact ⟨es,c,h1⟩
theorem MapIs.mv {m a:Nat} {h h':LH} {R:Nat -> Prop} (hne:a ≠ m) (mv:Mv m h h') (hm:MapIs h.get a R):MapIs h'.get a R := by
 obtain ⟨es,⟨c,h1⟩,h2⟩ := hm
 exact ⟨es,⟨c,mv.keep _ _ hne h1⟩,h2⟩
theorem MapIs.congr {h:Cells} {a:Nat} {R R':Nat -> Prop} (hm:MapIs h a R) (hR:∀ n,R n ↔ R' n):MapIs h a R' := by
 obtain ⟨es,h1,h2,h3⟩ := hm
 refine ⟨es,h1,fun e he => ?_,fun n hn => h3 n ((hR n).2 hn)⟩
 obtain ⟨n,a,b,c⟩ := h2 e he
 exact ⟨n,a,b,(hR n).1 c⟩
theorem MapIs.keys {h:Cells} {a:Nat} {es:Array MapEntry} {R:Nat -> Prop} (h2:∀ e ∈ es.toList,∃ n:Nat,e.key = .int .i64 n /\ e.val = .bool true /\ R n):∀ e ∈ es.toList,IsKey Tryz.prog 3 e.key := fun e he => by
 obtain ⟨n,h,_⟩ := h2 e he; exact .inl ⟨i64_3,n,h⟩
theorem t_lookSet {X:XP} {Q:Leaf -> LH -> Prop} {h:LH} {K:Value -> T} {a:Nat} {R:Nat -> Prop} (hm:MapIs h.get a R) {n:Nat} (h1:R n -> (K (.bool true)).wp X Tryz.prog Q h) (h2:¬ R n -> (K (.bool false)).wp X Tryz.prog Q h):(T.sem false (Instr.lookup 172 (.map (some a)) (.int .i64 n) false) K).wp X Tryz.prog Q h := by
 obtain ⟨es,hat,e1,e2⟩ := hm
 refine t_lookup und138 inf4 hat (.inl ⟨i64_3,_,rfl⟩) (MapIs.keys (h := h.get) (a := a) e1) (fun e he hk => ?_) fun hno => ?_
 ·obtain ⟨n',g1,g2,g3⟩ := e1 e he
  rw [hk] at g1
  have:n = n' := by simp at g1; omega
  subst this
  rw [g2]
  exact h1 g3
 ·refine h2 fun hr => ?_
  obtain ⟨e,he,hk⟩ := e2 n hr
  exact hno e he hk
theorem t_addSet {X:XP} {Q:Leaf -> LH -> Prop} {h:LH} {K:Value -> T} {a:Nat} {R:Nat -> Prop} (hm:MapIs h.get a R) {n:Nat} (hk:∀ es c,MapIs (h.get.upd a (true,.map es c)) a (fun x => R x \/ x = n) -> (K undef).wp X Tryz.prog Q { h with get := h.get.upd a (true,.map es c) }) :
  (T.sem false (Sem.bind (Instr.mapUpdate 172 (.map (some a)) (.int .i64 n) (.bool true)) fun _ => pure (.tuple #[])) K).wp X Tryz.prog Q h := by
 obtain ⟨es,hat,e1,e2⟩ := hm
 refine t_mapUpdate und138 hat (.inl ⟨i64_3,_,rfl⟩) (MapIs.keys (h := h.get) (a := a) e1) fun es' c g1 g2 g3 => hk es' c ⟨es',⟨c,Cells.upd_self _ _ _⟩,fun e he => ?_,fun x hx => ?_⟩
 ·rcases g1 e he with ⟨k1,k2⟩ | k1
  ·exact ⟨n,k1,k2,.inr rfl⟩
  ·obtain ⟨n',a,b,c⟩ := e1 e k1
   exact ⟨n',a,b,.inl c⟩
 ·rcases hx with hx | rfl
  ·obtain ⟨e,he,hke⟩ := e2 x hx
   obtain ⟨e',he',hk'⟩ := g3 e he
   exact ⟨e',he',hk'.trans hke⟩
  ·exact g2
theorem rd_updMap {h:Cells} {a:Nat} {es':Array MapEntry} {c:Nat} (hm:∃ es c,h a = some (true,.map es c)):Rd h (h.upd a (true,.map es' c)) := by
 intro x v hc
 have hne:x.block ≠ a := by
  intro e
  obtain ⟨es,c,hm⟩ := hm
  unfold Cells.cell? at hc
  rw [e,hm] at hc; cases hc
 unfold Cells.cell? at hc ⊢
 rw [Cells.upd_ne _ _ hne]; exact hc
theorem desk_other {h:Cells} {d m a:Nat} {f:FileC} {u:UseFile} (k:Desk h d m f u) (hne:a ≠ m) (hm:∃ es c,h a = some (true,.map es c)) {es':Array MapEntry} {c:Nat}:Desk (h.upd a (true,.map es' c)) d m f u := by
 have hr := rd_updMap (es' := es') (c := c) hm
 refine ⟨k.file.rd hr,k.rep.rd hr,fun j hj => hr _ _ (k.counts j hj),hr _ _ k.mapp,?_⟩
 obtain ⟨es,c',h1,h2⟩ := k.map
 exact ⟨es,c',by rw [Cells.upd_ne _ _ (Ne.symm hne)]; exact h1,h2⟩
theorem mv_other {m a:Nat} {h h':LH} (mv:Mv m h h') (hno:h.get a = none) (hne:a ≠ m) {es:Array MapEntry} {c:Nat}:Mv m h { h' with get := h'.get.upd a (true,.map es c) } := by
 refine ⟨fun r x hr hx => ?_,fun es c hm => ?_,mv.same⟩
 ·have:r ≠ a := by rintro rfl; rw [hno] at hx; cases hx
  show Cells.upd _ _ _ r = _
  rw [Cells.upd_ne _ _ this]; exact mv.keep r x hr hx
 ·obtain ⟨es',c',h1⟩ := mv.isMap es c hm
  exact ⟨es',c',by show Cells.upd _ _ _ m = _; rw [Cells.upd_ne _ _ (Ne.symm hne)]; exact h1⟩
section
variable {X:XP} {Q:Leaf -> LH -> Prop} {h h':LH} {d m:Nat} {f:FileC} {u:UseFile} {o:Option (Nat × (Nat -> Prop))}
structure St (h:LH) (d m:Nat) (f:FileC) (u:UseFile) (h':LH) (o:Option (Nat × (Nat -> Prop))):Prop where
 mv:Mv m h h'
 desk:Desk h'.get d m f u
 made:∀ a R,o = some (a,R) -> MapIs h'.get a R /\ a ≠ m /\ h.get a = none
theorem s_from (s:St h d m f u h' o) {k:Int -> T} (hk:(k u.from_).wp X Tryz.prog Q h'):(T.loadI .i64 (Addr.add (Addr.add (Addr.add ⟨d,0,none⟩ 0) 0) 2) k).wp X Tryz.prog Q h' := gL0 s.desk.file.f2 hk
theorem s_make (hm:∃ es c,h.get m = some (true,.map es c)) (s:St h d m f u h' none) {k:Value -> T} (hk:∀ a h'',St h d m f u h'' (some (a,fun _ => False)) -> (k (.map (some a))).wp X Tryz.prog Q h''):(T.sem false (Instr.makeMap 172 none) k).wp X Tryz.prog Q h' := by
 refine t_makeMap fun a ha => hk a _ ?_
 have le1:h'.le _ := LH.upd_le (x := (true,.map #[] 0)) ha
 have hno:h.get a = none := by
  cases hx:h.get a with
  | none => rfl
  | some x =>
   by_cases e:a = m
   ·subst e
    obtain ⟨es,c,hm⟩ := hm
    obtain ⟨es',c',h1⟩ := s.mv.isMap es c hm
    rw [h1] at ha; cases ha
   ·rw [s.mv.keep a x e hx] at ha; cases ha
 have hne:a ≠ m := by rintro rfl; obtain ⟨es,c,hm⟩ := hm; rw [hm] at hno; cases hno
 refine ⟨s.mv.trans (Mv.of_le le1),s.desk.le le1.1,fun a' R e => ?_⟩
 cases e
 exact ⟨⟨#[],⟨0,Cells.upd_self _ _ _⟩,fun e he => by simp at he,fun n hn => hn.elim⟩,hne,hno⟩
theorem s_call (hck:checkF u = 0) (hm:∃ es c,h.get m = some (true,.map es c)) (s:St h d m f u h' o) {p:Option Addr} {n c:Nat} {l:List Request} (hl:Sl RequestE 3 h.get p n l) (hl4:l.length <= 4) (hdays:∀ r ∈ l,0 <= r.day /\ r.day <= 2000) {day:Int} {k:Value -> T} (hk:∀ h'',St h d m f u h'' o -> (k (.int .i64 (meets u l day))).wp X Tryz.prog Q h''):(T.call false 160 #[.pointer (some ⟨d,0,none⟩),.slice p n c,.int .i64 day] k).wp X Tryz.prog Q h' := by
 refine t_de (c107 s.desk hck (hl.rd RequestE.grow (s.mv.rd hm)) hl4 hdays day) ?_
 rintro _ h'' mv k2 rfl
 refine hk h'' ⟨s.mv.trans mv,k2,fun a R e => ?_⟩
 obtain ⟨a1,a2,a3⟩ := s.made a R e
 exact ⟨a1.mv a2 mv,a2,a3⟩
theorem s_add {a:Nat} {R:Nat -> Prop} (s:St h d m f u h' (some (a,R))) {n:Nat} {K:Value -> T} (hk:∀ h'',St h d m f u h'' (some (a,fun x => R x \/ x = n)) -> (K undef).wp X Tryz.prog Q h'') :
  (T.sem false (Sem.bind (Instr.mapUpdate 172 (.map (some a)) (.int .i64 n) (.bool true)) fun _ => pure (.tuple #[])) K).wp X Tryz.prog Q h' := by
 obtain ⟨a1,a2,a3⟩ := s.made a R rfl
 refine t_addSet a1 fun es c hm => hk _ ⟨mv_other s.mv a3 a2,desk_other s.desk a2 a1.isMap,fun a' R' e => ?_⟩
 cases e
 exact ⟨hm,a2,a3⟩
end
theorem meets_lt (u:UseFile) (day:Int):∀ (l:List Request) (k acc:Nat),acc < 2 ^ (k + l.length) -> meetsGo u day l k acc < 2 ^ (k + l.length) := by
 intro l
 induction l with
 | nil => intro k acc h; exact h
 | cons r l ih =>
  intro k acc h
  rw [meetsGo]
  have e:k + (r :: l).length = k + 1 + l.length := by simp; omega
  rw [e] at h ⊢
  refine ih _ _ ?_
  split
  ·exact Nat.or_lt_two_pow h (Nat.pow_lt_pow_right (by omega) (by omega))
  ·exact h
theorem meets_lt' (u:UseFile) (l:List Request) (day:Int):meets u l day < 2 ^ l.length := by
 have := meets_lt u day l 0 0 (Nat.two_pow_pos _)
 rw [Nat.zero_add] at this; exact this
theorem or_small {a b:Nat} (ha:a < 16) (hb:b < 16):IntKind.wrap .i64 (((BitVec.ofInt 64 (a:Int) ||| BitVec.ofInt 64 (b:Int)).toNat:Nat):Int) = ((a ||| b:Nat):Int) := by
 have h1:(BitVec.ofInt 64 (a:Int)).toNat = a := by rw [BitVec.toNat_ofInt]; omega
 have h2:(BitVec.ofInt 64 (b:Int)).toNat = b := by rw [BitVec.toNat_ofInt]; omega
 rw [BitVec.toNat_or,h1,h2]
 have h3:a ||| b < 2 ^ 4 := Nat.or_lt_two_pow (by omega) (by omega)
 exact wrap_id (by omega) (by omega)
theorem c102 {h:LH} {d m:Nat} {f:FileC} {u:UseFile} (k:Desk h.get d m f u) (hck:checkF u = 0) {p:Option Addr} {n c:Nat} {l:List Request} (hl:Sl RequestE 3 h.get p n l) (hl4:l.length <= 4) (hdays:∀ r ∈ l,0 <= r.day /\ r.day <= 2000) (land item:Int) :
  De 148 #[.pointer (some ⟨d,0,none⟩),.int .i64 land,.int .i64 item,.slice p n c] h d m f u fun r _ => r = .bool (!can u land item l) := by
 refine w102 _ _ _ _ _ _ X0_ok ?_
 unfold n102
 have hn := hl.1
 have hm := k.isMap
 refine gZ ?_
 refine t_blk (fun vs h' => ∃ a,vs = [.map (some a)] /\ St h d m f u h' (some (a,fun x => False \/ x = meets u l u.from_))) ?_ ?_
 ·have s0:St h d m f u h none := ⟨Mv.refl,k,fun a R e => by cases e⟩
  refine gZ ?_
  repeat' (first
   | refine t_both ?_ ?_
   | (refine s_make hm (by assumption) fun a hx s => ?_)
   | (refine s_call hck hm (by assumption) hl hl4 hdays fun hx s => ?_)
   | (refine s_add (by assumption) fun hx s => ?_)
   | (refine s_from (by assumption) ?_)
   | (with_reducible refine gD ?_) | (with_reducible refine gP ?_) | ((with_reducible apply gT); first | exact rfl | exact True.intro) | ((with_reducible apply gS2); exact rfl)
   | (refine t_again ⟨_,rfl,by assumption⟩))
 ·rintro vs h₁ ⟨a0,rfl,s1⟩
  refine gZ ?_
  obtain ⟨am,ane,ano⟩ := s1.made a0 _ rfl
  refine t_gr (c88 _ _ _) ?_
  rintro _ h₂ le2 ⟨z0,z1,z2,rfl,hz0,hz1,hz2⟩
  have k2 := s1.desk.le le2.1
  have hm2 := k2.isMap
  let h₀:LH := { h₂ with get := fun b => if b = m then none else h₂.get b }
  have le0:h₀.le h₂ := ⟨fun b x hb => by
   show h₂.get b = some x
   have hb':(if b = m then none else h₂.get b) = some x := hb
   split at hb'
   ·cases hb'
   ·exact hb',rfl,rfl,rfl⟩
  have rd0:Rd h₂.get h₀.get := by
   intro x v hc
   have hne:x.block ≠ m := by
    intro e
    obtain ⟨es,c,hm⟩ := hm2
    unfold Cells.cell? at hc
    rw [e,hm] at hc; cases hc
   unfold Cells.cell? at hc ⊢
   show (match (if x.block = m then none else h₂.get x.block) with | some (_,.cells c _ _) => if x.spot.isSome then none else c[x.off]? | _ => none) = _
   rw [if_neg hne]; exact hc
  obtain ⟨L,hL1,hL2,hH⟩ := hands99 X0_ok (rd0 _ _ hz0) (rd0 _ _ hz1) (rd0 _ _ hz2) (rd0 _ _ k2.file.f5) (k2.rep.papers.rd PaperE.grow rd0)
  have mv2 := s1.mv.trans (Mv.of_le (m := m) le2)
  have hcan:∀ R,reachL u l (shown u land item) [meets u l u.from_] = reachL u l [] R -> can u land item l = R.contains (2 ^ l.length - 1) := by
   intro R e; unfold can; rw [e]; rfl
  have hpw:(2:Nat) ^ l.length <= 16 := by
   have:(2:Nat) ^ l.length <= 2 ^ 4 := Nat.pow_le_pow_right (by omega) hl4
   omega
  have hpw1:0 < (2:Nat) ^ l.length := Nat.two_pow_pos _
  have hm1:(1 * 2 ^ min (n:Int).toNat 64:Int) = ((2 ^ l.length:Nat):Int) := by
   have:min (n:Int).toNat 64 = l.length := by rw [hn]; simp; omega
   rw [this]; simp
  generalize hP:(2:Nat) ^ l.length = pw at hpw hpw1 hm1
  have hall:IntKind.wrap .i64 (IntKind.wrap .i64 (1 * 2 ^ min (n:Int).toNat 64) - 1) = ((pw - 1:Nat):Int) := by
   rw [hm1,wrap_id (n := (pw:Int)) (by omega) (by omega),wrap_id (by omega) (by omega)]; omega
  have hall2:IntKind.wrap .i64 (((pw - 1:Nat):Int) + 1) = (pw:Int) := by
   rw [wrap_id (by omega) (by omega)]; omega
  simp only [hall,hall2]
  refine t_each le0 hH (fun i vs h' => Mv m h h' /\ Desk h'.get d m f u /\ ∃ a R,vs = [.map (some a)] /\ a ≠ m /\ MapIs h'.get a (fun x => x ∈ R) /\ (∀ s ∈ R,s < pw) /\ reachL u l (shown u land item) [meets u l u.from_] = reachL u l ((shown u land item).drop i) R)
   ⟨mv2,k2,a0,[meets u l u.from_],rfl,ane,(am.mv ane (Mv.of_le (m := m) le2)).congr (fun x => by simp),by intro s hs; simp at hs; subst hs; rw [<- hP]; exact meets_lt' u l _,rfl⟩ ?_ ?_
  ·rintro vs h₃ hle ⟨mv3,k3,a,R,rfl,hne,hmap,hR,hc⟩
   rw [List.drop_eq_nil_of_le (by rw [hL1]; exact Nat.le_refl _)] at hc
   have hcan' := hcan R hc
   rw [hP] at hcan'
   refine gZ ?_
   refine t_lookSet hmap (fun hin => ?_) fun hnot => ?_
   ·refine gZ ?_
    refine t_ret ⟨mv3,k3,?_⟩
    rw [hcan']
    have:R.contains (pw - 1) = true := by simpa using hin
    rw [this]
   ·refine gZ ?_
    refine t_ret ⟨mv3,k3,?_⟩
    rw [hcan']
    have:R.contains (pw - 1) = false := by simpa using hnot
    rw [this]
  ·rintro i xs vs h₃ hi hle ⟨mv3,k3,a,R,rfl,hne,hmap,hR,hc⟩ Y hY
   obtain ⟨x,q,nq,cq,hx,rfl,hit⟩ := hL2 i xs hi
   have hx':(shown u land item)[i]? = some x := hx
   have hxp := (check_papers hck).2 x (List.mem_filter.1 (List.mem_of_getElem? hx')).1
   rw [drop_of hx',reachL] at hc
   unfold paperV
   refine gZ ?_
   have hm3 := k3.isMap
   refine t_makeMap fun b hb => ?_
   refine gZ ?_
   have le4:h₃.le _ := LH.upd_le (x := (true,.map #[] 0)) hb
   have hbm:b ≠ m := by rintro rfl; obtain ⟨es,c,hm3⟩ := hm3; rw [hm3] at hb; cases hb
   have hba:b ≠ a := by rintro rfl; obtain ⟨es,c,ha⟩ := hmap.isMap; rw [ha] at hb; cases hb
   -- the days of the paper
   refine t_loop (fun mm vs h' => Mv m h₃ h' /\ h₀.le h' /\ Desk h'.get d m f u /\ ∃ dy:Int,vs = [.int .i64 dy] /\ x.days.first <= dy /\ dy <= x.days.last + 1 /\ mm = (x.days.last + 1 - dy).toNat /\ MapIs h'.get b (fun y => ∃ s ∈ R,∃ e:Int,x.days.first <= e /\ e < dy /\ y = s ||| meets u l e))
    ⟨Mv.of_le le4,LH.le_trans hle le4,k3.le le4.1,x.days.first,rfl,by omega,by omega,rfl,⟨#[],⟨0,Cells.upd_self _ _ _⟩,fun e he => by simp at he,fun y hy => by obtain ⟨s,_,e,h1,h2,_⟩ := hy; omega⟩⟩ ?_
   rintro Y2 mm vs h₅ hY2 ⟨mv5,le5,k5,dy,rfl,hd1,hd2,rfl,hmb⟩
   refine gZ ?_
   refine t_if (fun e1 => ?_) (fun e1 => ?_)
   ·have hl5 := hl.rd RequestE.grow (Mv.rd hm (mv3.trans mv5))
    refine t_de (c107 k5 hck hl5 hl4 hdays dy) ?_
    rintro _ h₆ mv6 k6 rfl
    refine gZ ?_
    have le6:h₀.le h₆ := ⟨fun r y hr => mv6.keep r y (by
     rintro rfl
     have:(if r = r then none else h₂.get r) = some y := hr
     simp at this) (le5.1 r y hr),mv6.same.1.trans le5.2.1,mv6.same.2.1.trans le5.2.2.1,mv6.same.2.2.trans le5.2.2.2⟩
    have hmt := meets_lt' u l dy
    rw [hP] at hmt
    refine t_loop (fun mm vs h' => Mv m h₃ h' /\ h₀.le h' /\ Desk h'.get d m f u /\ ∃ j:Nat,vs = [.int .i64 j] /\ j <= pw /\ mm = pw - j /\ MapIs h'.get b (fun y => (∃ s ∈ R,∃ e:Int,x.days.first <= e /\ e < dy /\ y = s ||| meets u l e) \/ ∃ s ∈ R,s < j /\ y = s ||| meets u l dy))
     ⟨mv5.trans mv6,le6,k6,0,rfl,Nat.zero_le _,rfl,(hmb.mv hbm mv6).congr fun y => ⟨.inl,fun h => by rcases h with h | ⟨s,_,h1,_⟩; exact h; omega⟩⟩ ?_
    rintro Y3 mm vs h₇ hY3 ⟨mv7,le7,k7,j,rfl,hj,rfl,hmb7⟩
    refine gZ ?_
    refine t_if (fun e2 => ?_) (fun e2 => ?_)
    ·have hma:MapIs h₇.get a (fun x => x ∈ R) := hmap.mv hne mv7
     refine t_lookSet hma (fun hin => ?_) fun hnot => ?_
     ·refine gZ ?_
      refine t_cond (fun _ => ?_) (fun e => by cases e)
      rw [or_small (by omega) (by omega)]
      refine t_addSet hmb7 fun es cc hnew => ?_
      have mv8:Mv m h₃ { h₇ with get := h₇.get.upd b (true,.map es cc) } := mv_other mv7 hb hbm
      have hb0:h₀.get b = none := by
       cases hx0:h₀.get b with
       | none => rfl
       | some y => rw [hle.1 _ _ hx0] at hb; cases hb
      refine t_again (hY3 (pw - (j + 1)) _ _ (by omega) ⟨mv8,⟨fun r y hr => ?_,le7.2⟩,desk_other k7 hbm hmb7.isMap,j + 1,?_,by omega,rfl,hnew.congr fun y => ?_⟩)
      ·have:r ≠ b := by rintro rfl; rw [hb0] at hr; cases hr
       show Cells.upd _ _ _ r = _
       rw [Cells.upd_ne _ _ this]; exact le7.1 r y hr
      ·rw [wrap_id (by omega) (by omega)]; rfl
      ·constructor
       ·rintro ((h1 | ⟨s,h1,h2,h3⟩) | rfl)
        ·exact .inl h1
        ·exact .inr ⟨s,h1,by omega,h3⟩
        ·exact .inr ⟨j,hin,by omega,rfl⟩
       ·rintro (h1 | ⟨s,h1,h2,h3⟩)
        ·exact .inl (.inl h1)
        ·by_cases e:s = j
         ·subst e; exact .inr h3
         ·exact .inl (.inr ⟨s,h1,by omega,h3⟩)
     ·refine gZ ?_
      refine t_cond (fun e => by cases e) (fun _ => ?_)
      refine t_again (hY3 (pw - (j + 1)) _ _ (by omega) ⟨mv7,le7,k7,j + 1,?_,by omega,rfl,hmb7.congr fun y => ?_⟩)
      ·rw [wrap_id (by omega) (by omega)]; rfl
      ·constructor
       ·rintro (h1 | ⟨s,h1,h2,h3⟩)
        ·exact .inl h1
        ·exact .inr ⟨s,h1,by omega,h3⟩
       ·rintro (h1 | ⟨s,h1,h2,h3⟩)
        ·exact .inl h1
        ·refine .inr ⟨s,h1,?_,h3⟩
         have:s ≠ j := by rintro rfl; exact hnot h1
         omega
    ·refine gZ ?_
     refine t_again (hY2 (x.days.last + 1 - (dy + 1)).toNat _ _ (by omega) ⟨mv7,le7,k7,dy + 1,?_,by omega,by omega,rfl,hmb7.congr fun y => ?_⟩)
     ·rw [wrap_id (by omega) (by omega)]
     ·constructor
      ·rintro (⟨s,h1,e,h2,h3,h4⟩ | ⟨s,h1,h2,h3⟩)
       ·exact ⟨s,h1,e,h2,by omega,h4⟩
       ·exact ⟨s,h1,dy,hd1,by omega,h3⟩
      ·rintro ⟨s,h1,e,h2,h3,h4⟩
       by_cases he:e = dy
       ·subst he; exact .inr ⟨s,h1,by have := hR s h1; omega,h4⟩
       ·exact .inl ⟨s,h1,e,h2,by omega,h4⟩
   ·refine gZ ?_
    have hdy:dy = x.days.last + 1 := by omega
    subst hdy
    refine t_againE le5 (hY _ _ le5 ⟨mv3.trans mv5,k5,b,stepL ((daysOf x.days).map (meets u l)) R,rfl,hbm,hmb.congr fun y => ?_,?_,hc⟩)
    ·simp only [stepL,List.mem_flatMap,List.mem_map,daysOf,List.mem_range]
     constructor
     ·rintro ⟨s,h1,e,h2,h3,rfl⟩
      exact ⟨s,h1,_,⟨e,⟨(e - x.days.first).toNat,by omega,by omega⟩,rfl⟩,rfl⟩
     ·rintro ⟨s,h1,_,⟨e,⟨i,h2,rfl⟩,rfl⟩,rfl⟩
      exact ⟨s,h1,_,by omega,by omega,rfl⟩
    ·intro s hs
     simp only [stepL,List.mem_flatMap,List.mem_map] at hs
     obtain ⟨s0,h0,mm,⟨e,_,rfl⟩,rfl⟩ := hs
     rw [<- hP]
     exact Nat.or_lt_two_pow (by rw [hP]; exact hR s0 h0) (meets_lt' u l e)
end Go.Proofs.YtgljffachdhigaaGreatDoor
end
section
namespace Go.Proofs.YtgljffachdhigaaGreatDoor
open Go Go.TM Go.Proofs
attribute [local irreducible] T.wp CV FWK
theorem against_sub {u:UseFile} {land item day:Int}:∀ r ∈ against u land item day,r ∈ u.requests := fun r hr => (List.mem_filter.1 hr).1
theorem against_len {u:UseFile} (hck:checkF u = 0) (land item day:Int):(against u land item day).length <= 4 := Nat.le_trans (List.length_filter_le _ _) (check_requests hck).1
theorem c91 {h:LH} {d m:Nat} {f:FileC} {u:UseFile} (k:Desk h.get d m f u) (hck:checkF u = 0) (land item day:Int) :
  De 123 #[.pointer (some ⟨d,0,none⟩),.int .i64 land,.int .i64 item,.int .i64 day] h d m f u fun r _ => r = .int .i64 (left u land item day) := by
 refine w91 _ _ _ _ X0_ok ?_
 unfold n91
 refine t_gr (c101 k hck land item day) ?_
 rintro _ h₁ le1 ⟨p,n,c,rfl,hl⟩
 have k1 := k.le le1.1
 have hm1 := k1.isMap
 have hdays:∀ r ∈ against u land item day,0 <= r.day /\ r.day <= 2000 := fun r hr => (check_requests hck).2 r (against_sub r hr)
 have hl4 := against_len hck land item day
 refine gZ ?_
 have hn := hl.1
 refine t_loop (fun mm vs h' => Mv m h₁ h' /\ Desk h'.get d m f u /\ ∃ i:Nat,vs = [.bool true,.int .i64 i] /\ i <= n /\ mm = n - i /\ ∀ j r,j < i -> (against u land item day)[j]? = some r -> safe u land item r.day = 1)
  ⟨Mv.refl,k1,0,rfl,Nat.zero_le _,rfl,fun j r hj => by omega⟩ ?_
 rintro Y mm vs h₂ hY ⟨mv,k2,i,rfl,hi,rfl,hall⟩
 refine gZ ?_
 refine t_if (fun e1 => ?_) (fun e1 => ?_)
 ·obtain ⟨x,a,hx,ha,e2,e3,q,mq,cq,e4,e5⟩ := (hl.rd RequestE.grow (mv.rd hm1)).at (i := i) (by omega)
  refine gZ ?_
  have hxd := hdays x (List.mem_of_getElem? hx)
  refine t_de (c60 k2 (check_num hck) land item x.day hxd) ?_
  rintro _ h₃ mv3 k3 rfl
  refine gZ ?_
  refine t_cond (fun b => ?_) (fun b => ?_)
  ·refine gZ ?_
   refine t_cond (fun e => by cases e) (fun _ => ?_)
   have mv13 := mv.trans mv3
   refine t_de (c102 k3 hck (hl.rd RequestE.grow (mv13.rd hm1)) hl4 hdays land item) ?_
   rintro _ h₄ mv4 k4 rfl
   refine gZ ?_
   have hne:safe u land item x.day ≠ 1 := by simpa using b
   have hnot:¬ ((against u land item day).all fun r => decide (safe u land item r.day = 1)) = true := by
    intro hh
    have := List.all_eq_true.1 hh x (List.mem_of_getElem? hx)
    exact hne (by simpa using this)
   refine t_cond (fun e => ?_) (fun e => ?_)
   ·refine t_ret ⟨(Mv.of_le le1).trans (mv13.trans mv4),k4,?_⟩
    have:can u land item (against u land item day) = false := by simpa using e
    rw [left,if_neg hnot,this]; rfl
   ·refine t_ret ⟨(Mv.of_le le1).trans (mv13.trans mv4),k4,?_⟩
    have:can u land item (against u land item day) = true := by simpa using e
    rw [left,if_neg hnot,this]; rfl
  ·refine t_again (hY (n - (i + 1)) _ _ (by omega) ⟨mv.trans mv3,k3,i + 1,?_,by omega,rfl,fun j r hj hr => ?_⟩)
   ·rw [wrap_id (by omega) (by omega)]; rfl
   ·by_cases e:j = i
    ·subst e; rw [hx] at hr; cases hr; simpa using b
    ·exact hall j r (by omega) hr
 ·refine gZ ?_
  refine t_cond (fun _ => ?_) (fun e => by cases e)
  refine t_ret ⟨(Mv.of_le le1).trans mv,k2,?_⟩
  have:((against u land item day).all fun r => decide (safe u land item r.day = 1)) = true := by
   rw [List.all_eq_true]
   intro r hr
   obtain ⟨j,hj⟩ := List.mem_iff_getElem?.1 hr
   have := hall j r (by have := (List.getElem?_eq_some_iff.1 hj).1; omega) hj
   simpa using this
  rw [left,if_pos this]
def dropM (m:Nat) (h:LH):LH := { h with get := fun b => if b = m then none else h.get b }
theorem dropM_le {m:Nat} {h h':LH} (mv:Mv m h h'):(dropM m h).le h' := by
 refine ⟨fun r x hr => ?_,mv.same⟩
 have hr':(if r = m then none else h.get r) = some x := hr
 split at hr'
 ·cases hr'
 ·exact mv.keep r x (by assumption) hr'
theorem dropM_rd {m:Nat} {h:LH} (hm:∃ es c,h.get m = some (true,.map es c)):Rd h.get (dropM m h).get := by
 intro x v hc
 have hne:x.block ≠ m := by
  intro e
  obtain ⟨es,c,hm⟩ := hm
  unfold Cells.cell? at hc
  rw [e,hm] at hc; cases hc
 unfold Cells.cell? at hc ⊢
 show (match (if x.block = m then none else h.get x.block) with | some (_,.cells c _ _) => if x.spot.isSome then none else c[x.off]? | _ => none) = _
 rw [if_neg hne]; exact hc
theorem mv_of_drop {m:Nat} {h h':LH} (hl:(dropM m h).le h') (hm:∃ es c,h'.get m = some (true,.map es c)):Mv m h h' :=
 ⟨fun r x hr hx => hl.1 r x (by show (if r = m then none else h.get r) = _; rw [if_neg hr]; exact hx),fun _ _ _ => hm,hl.2⟩
theorem desk_of_drop {h h':LH} {d m:Nat} {f:FileC} {u:UseFile} (k:Desk h.get d m f u) (hl:(dropM m h).le h') (hm:∃ es c,h'.get m = some (true,.map es c) /\ ∀ e ∈ es.toList,∃ day:Int,e.key = .agg #[.int .i64 day,.int .i64 u.idle] /\ e.val = .agg #[.int .i64 (window u day).first,.int .i64 day]):Desk h'.get d m f u := by
 have hr:Rd h.get h'.get := (dropM_rd k.isMap).trans (Rd.of_le hl.1)
 exact ⟨k.file.rd hr,k.rep.rd hr,fun j hj => hr _ _ (k.counts j hj),hr _ _ k.mapp,hm⟩
theorem t_growD {α:Type} {X:XP} {Q:Leaf -> LH -> Prop} {Enc:α -> List Value -> Prop} {h h₁:LH} {d m:Nat} {f:FileC} {u:UseFile} {k:Value -> T} {ts:Array TypeId} {ty sT xT el xe:TypeId} {s by_:Nat} {z:Value} {p:Option Addr} {n c mc:Nat} {b:Addr} {l:List α} {x:α} {ws:List Value} (kd:Desk h.get d m f u) (k1:Desk h₁.get d m f u) (mv:Mv m h h₁)
  (h0:ts[0]? = some sT) (h1:ts[1]? = some xT) (hu:Tryz.prog.underlying sT = some (.slice el)) (hx:Tryz.prog.underlying xT = some (.slice xe)) (hi:(Tryz.prog.info? el).map (fun i => (i.size,i.bytes,i.zero)) = some (s,by_,some z)) (hsz:z.cells.size = s) (hb:by_ <= 1024) (hn:n + 1 <= 2 ^ 30) (g:Growing Enc el s (dropM m h).get h₁.get p n c l) (he:Enc x ws) (hl:ws.length = s) (hc:∀ (j:Nat) v,ws[j]? = some v -> h₁.get.cell? (b.add j) = some v) (one:∀ v ∈ ws,isOne v = true)
  (hk:∀ p' c' h',Mv m h h' -> Desk h'.get d m f u -> Growing Enc el s (dropM m h).get h'.get p' (n + 1) c' (l ++ [x]) -> (k (.slice p' (n + 1) c')).wp X Tryz.prog Q h'):(T.sem false (Builtin.append_ ts ty #[.slice p n c,.slice (some b) 1 mc]) k).wp X Tryz.prog Q h₁ := by
 have hpm:∀ a,p = some a -> a.block ≠ m := by
  intro a ha e
  obtain ⟨vs,⟨_,h2⟩,_⟩ := g.row
  obtain ⟨es,c',hm⟩ := k1.isMap
  rcases h2 with ⟨rfl,_⟩ | ⟨r,cs,rfl,hr,_⟩
  ·cases ha
  ·cases ha; subst e; rw [hm] at hr; cases hr
 refine t_grow h0 h1 hu hx hi hsz hb hn g (dropM_le mv) he hl hc one fun p' c' h' hle hkeep g' => ?_
 obtain ⟨es,c0,hm,hv⟩ := k1.map
 have hm' := hkeep m _ hpm hm
 exact hk p' c' h' (mv_of_drop hle ⟨es,c0,hm'⟩) (desk_of_drop kd hle ⟨es,c0,hm',hv⟩) g'
theorem leftAll_take {u:UseFile} {land day:Int} (i:Nat) (hi:i < u.items.toNat):(leftAll u land day).take (i + 1) = (leftAll u land day).take i ++ [left u land i day] := by
 have hlen:i < (leftAll u land day).length := by unfold leftAll; rw [List.length_map,List.length_range]; exact hi
 rw [List.take_succ_eq_append_getElem hlen]
 congr 2
 simp [leftAll]
theorem c63 {h:LH} {d m:Nat} {f:FileC} {u:UseFile} (k:Desk h.get d m f u) (hck:checkF u = 0) (land day:Int) :
  De 84 #[.pointer (some ⟨d,0,none⟩),.int .i64 land,.int .i64 day] h d m f u fun r h' => ∃ p n c,r = .slice p n c /\ Growing IntEnc 56 1 (dropM m h).get h'.get p n c (leftAll u land day) := by
 refine w63 _ _ _ X0_ok ?_
 unfold n63
 obtain ⟨f0,f1,f2,f3,f4,f5,f6⟩ := k.file
 have hit := (num_ok (check_num hck)).1
 refine gZ ?_
 have hlen:(leftAll u land day).length = u.items.toNat := by unfold leftAll; rw [List.length_map,List.length_range]
 refine t_loop (fun mm vs h' => Mv m h h' /\ Desk h'.get d m f u /\ ∃ (i:Nat) (p:Option Addr) (n c:Nat),vs = [.slice p n c,.int .i64 i] /\ i <= u.items.toNat /\ mm = u.items.toNat - i /\ Growing IntEnc 56 1 (dropM m h).get h'.get p n c ((leftAll u land day).take i))
  ⟨Mv.refl,k,0,none,0,0,rfl,Nat.zero_le _,rfl,Growing.nil⟩ ?_
 rintro Y mm vs h₁ hY ⟨mv,k1,i,p,n,c,rfl,hi,rfl,g⟩
 refine gZ ?_
 refine t_if (fun e1 => ?_) (fun e1 => ?_)
 ·have hm1 := k1.isMap
  refine t_de (c91 k1 hck land i day) ?_
  rintro _ h₂ mv2 k2 rfl
  refine gZ ?_
  have g2 := g.mv hm1 mv2
  refine t_build und40 inf34 (by decide) (by decide) (cells := #[.int .i64 (left u land i day)]) (by kernel_rfl) fun r hr => ?_
  have le3:h₂.le _ := LH.upd_le (x := (true,.cells #[.int .i64 (left u land i day)] 56 (0,0))) hr
  have hng := g2.count IntEnc.len (by omega)
  rw [List.length_take] at hng
  refine gZ ?_
  refine t_growD (x := left u land i day) (ws := [.int .i64 (left u land i day)]) k (k2.le le3.1) ((mv.trans mv2).trans (Mv.of_le le3)) rfl rfl und40 und40 inf34 rfl (by omega) (by omega) (g2.le le3.1) rfl rfl ?_ ?_ ?_
  ·intro j w hj
   rw [add_plain,Nat.zero_add]
   exact cell_upd (by simpa using hj)
  ·intro w hw; simp at hw; subst hw; rfl
  ·intro p' c' h₄ mv4 k4 g4
   refine gZ ?_
   refine t_again (hY (u.items.toNat - (i + 1)) _ _ (by omega) ⟨mv4,k4,i + 1,p',n + 1,c',?_,by omega,rfl,?_⟩)
   ·rw [wrap_id (by omega) (by omega)]; rfl
   ·rw [leftAll_take i (by omega)]; exact g4
 ·refine gZ ?_
  have:i = u.items.toNat := by omega
  subst this
  rw [List.take_of_length_le (by omega)] at g
  exact t_ret ⟨mv,k1,p,n,c,rfl,g⟩
def LeftR (h':Cells) (u:UseFile) (land day:Int) (r:Value):Prop :=
 (openF u [landQ u land,dayQ day] ≠ 0 /\ r = .tuple #[.slice none 0 0,.int .i64 (openF u [landQ u land,dayQ day])]) \/
 (openF u [landQ u land,dayQ day] = 0 /\ ∃ p n c,r = .tuple #[.slice p n c,.int .i64 0] /\ Sl IntE 1 h' p n (leftAll u land day))
theorem c23 {h:LH} {f:FileC} {u:UseFile} (hp:Parts h.get) (hu:FileR h.get f u) (land day:Int):Gr Tryz.prog 36 #[fileV f u,.int .i64 land,.int .i64 day] h fun r h' => LeftR h'.get u land day r := by
 refine w23 _ _ _ _ _ _ _ _ _ _ _ _ _ _ _ X0_ok ?_
 unfold n23
 refine t_gr (c58 u land) ?_
 rintro v0 h₁ le1 ⟨q0,a0⟩
 refine gZ ?_
 refine t_gr (c54 u day) ?_
 rintro v1 h₂ le2 ⟨q1,a1⟩
 refine gZ ?_
 refine asks2 q0 (a0.le le2) q1 a1 fun r h₄ le4 hs => ?_
 refine gZ ?_
 have le14 := LH.le_trans (LH.le_trans le1 le2) le4
 refine t_call (c53 (f := f) (hp.le le14.1) (hu.le le14.1) hs) ?_
 rintro v h₅ ⟨le5,⟨hne,rfl⟩ | ⟨h0,d,m,rfl,hd,hm,k⟩⟩
 ·refine gZ ?_
  refine t_cond (fun _ => ?_) (fun e => absurd (by simpa using e) hne)
  exact t_ret ⟨LH.le_trans le14 le5,.inl ⟨hne,rfl⟩⟩
 ·refine gZ ?_
  refine t_cond (fun e => by cases e) (fun _ => ?_)
  refine t_de (c63 k (open_num h0).2 land day) ?_
  rintro _ h₆ mv k6 ⟨p,n,c,rfl,g⟩
  refine gZ ?_
  refine t_ret ⟨LH.le_trans le14 (Mv.le_of le5 hm mv),.inr ⟨h0,p,n,c,rfl,?_⟩⟩
  refine g.sl IntEnc.len (by omega) IntEnc.e ?_
  have := (num_ok (open_num h0).1).1
  unfold leftAll; rw [List.length_map,List.length_range]; omega
end Go.Proofs.YtgljffachdhigaaGreatDoor
end
section
namespace Go.Proofs.YtgljffachdhigaaGreatDoor
open Go Go.TM Go.Proofs
attribute [local irreducible] T.wp CV FWK
def LackEnc (x:Lack) (ws:List Value):Prop := ws = [.int .i64 x.item,.int .i64 x.request,.int .i64 x.window.first,.int .i64 x.window.last]
theorem LackEnc.len:∀ x ws,LackEnc x ws -> ws.length = 4 := by rintro x _ rfl; rfl
theorem LackEnc.e {h':Cells}:∀ a x ws,LackEnc x ws -> (∀ (j:Nat) w,ws[j]? = some w -> h'.cell? (a.add j) = some w) -> LackE h' a x := by
 rintro a x _ rfl hc
 exact ⟨hc 0 _ rfl,hc 1 _ rfl,hc 2 _ rfl,hc 3 _ rfl⟩
theorem check_items {u:UseFile} (h:checkF u = 0):∀ r ∈ u.requests,risesF r.items u.items = 0 := by
 obtain ⟨_,h2⟩ := eachF_zero (check_parts h).2.2.2
 intro r hr
 obtain ⟨j,hj⟩ := List.mem_iff_getElem?.1 hr
 have := h2 j r hj
 have key:∀ (c1 c2 c3:Prop) [Decidable c1] [Decidable c2] [Decidable c3] (x:Int),(if c1 then (1:Int) else if c2 then 7 else if c3 then 6 else x) = 0 -> x = 0 := by
  intro c1 c2 c3 _ _ _ x hx
  by_cases a1:c1
  ·rw [if_pos a1] at hx; cases hx
  ·rw [if_neg a1] at hx
   by_cases a2:c2
   ·rw [if_pos a2] at hx; cases hx
   ·rw [if_neg a2] at hx
    by_cases a3:c3
    ·rw [if_pos a3] at hx; cases hx
    ·rw [if_neg a3] at hx; exact hx
 exact key _ _ _ _ this
theorem rises_len {l:List Int} {b:Int} (h:risesF l b = 0):(∀ i (hi:i < l.length),(i:Int) <= l[i] /\ l[i] < b /\ 0 <= l[i]) := by
 have h' := firstF_zero' h
 intro i
 induction i with
 | zero =>
  intro hi
  have := h' 0 l[0] (List.getElem?_eq_getElem hi)
  unfold riseF at this
  split at this
  ·cases this
  ·rename_i h1
   simp [isIn] at h1
   omega
 | succ i ih =>
  intro hi
  have h1 := ih (by omega)
  have := h' (i + 1) l[i + 1] (List.getElem?_eq_getElem hi)
  unfold riseF at this
  split at this
  ·cases this
  ·split at this
   ·cases this
   ·rename_i h2 h3
    simp [isIn] at h2
    have e:l.getD (0 + (i + 1) - 1) 0 = l[i] := by
     rw [show 0 + (i + 1) - 1 = i by omega]
     simp [List.getD,List.getElem?_eq_getElem (show i < l.length by omega)]
    rw [e] at h3
    have:¬ l[i + 1] <= l[i] := fun hh => h3 ⟨by omega,hh⟩
    omega
theorem rises_len' {l:List Int} {b:Int} (h:risesF l b = 0) (hb:0 <= b):(l.length:Int) <= b := by
 by_cases h0:l.length = 0
 ·omega
 ·have := rises_len h (l.length - 1) (by omega)
  omega
theorem lacksGo_len {u:UseFile} {land day:Int} (hi:∀ r ∈ u.requests,r.items.length <= 6):∀ (l:List Request) (i:Nat),(∀ r ∈ l,r ∈ u.requests) -> (lacksGo u land day l i).length <= l.length * 6 := by
 intro l
 induction l with
 | nil => intro i _; simp [lacksGo]
 | cons r l ih =>
  intro i hs
  rw [lacksGo,List.length_append]
  have h1 := ih (i + 1) fun r hr => hs r (by simp [hr])
  have h2:(lacksOf u land day i r).length <= 6 := by
   unfold lacksOf
   split
   ·simp
   ·rw [List.length_map]
    exact Nat.le_trans (List.length_filter_le _ _) (hi r (hs r (by simp)))
  simp only [List.length_cons]; omega
def LacksR (h':Cells) (u:UseFile) (land day:Int) (r:Value):Prop :=
 (openF u [landQ u land,dayQ day] ≠ 0 /\ r = .tuple #[.slice none 0 0,.int .i64 (openF u [landQ u land,dayQ day])]) \/
 (openF u [landQ u land,dayQ day] = 0 /\ ∃ p n c,r = .tuple #[.slice p n c,.int .i64 0] /\ Sl LackE 4 h' p n (lacks u land day))
theorem c28 {h:LH} {f:FileC} {u:UseFile} (hp:Parts h.get) (hu:FileR h.get f u) (land day:Int):Gr Tryz.prog 37 #[fileV f u,.int .i64 land,.int .i64 day] h fun r h' => LacksR h'.get u land day r := by
 refine w28 _ _ _ _ _ _ _ _ _ _ _ _ _ _ _ X0_ok ?_
 unfold n28
 refine t_gr (c58 u land) ?_
 rintro v0 h₁ le1 ⟨q0,a0⟩
 refine gZ ?_
 refine t_gr (c54 u day) ?_
 rintro v1 h₂ le2 ⟨q1,a1⟩
 refine gZ ?_
 refine asks2 q0 (a0.le le2) q1 a1 fun r h₄ le4 hs => ?_
 refine gZ ?_
 have le14 := LH.le_trans (LH.le_trans le1 le2) le4
 refine t_call (c53 (f := f) (hp.le le14.1) (hu.le le14.1) hs) ?_
 rintro v h₅ ⟨le5,⟨hne,rfl⟩ | ⟨h0,d,m,rfl,hd,hm,k⟩⟩
 ·refine gZ ?_
  refine t_cond (fun _ => ?_) (fun e => absurd (by simpa using e) hne)
  exact t_ret ⟨LH.le_trans le14 le5,.inl ⟨hne,rfl⟩⟩
 ·refine gZ ?_
  refine t_cond (fun e => by cases e) (fun _ => ?_)
  have hck := (open_num h0).2
  have hnum := check_num hck
  have hreq := check_requests hck
  have hitn := (num_ok hnum).1
  have hitems:∀ r ∈ u.requests,r.items.length <= 6 := fun r hr => by have := rises_len' (check_items hck r hr) (by omega); omega
  have hlen6 := lacksGo_len (land := land) (day := day) hitems u.requests 0 fun r hr => hr
  have le15 := LH.le_trans le14 le5
  have hrq := (hu.le le15.1).requests
  have hn6 := hrq.1
  have hm5 := k.isMap
  refine t_loop (fun mm vs h' => Mv m h₅ h' /\ Desk h'.get d m f u /\ ∃ (i:Nat) (p:Option Addr) (n c:Nat) (rs:List Lack),vs = [.slice p n c,.int .i64 i] /\ i <= f.n6 /\ mm = f.n6 - i /\ Growing LackEnc 100 4 (dropM m h₅).get h'.get p n c rs /\ lacks u land day = rs ++ lacksGo u land day (u.requests.drop i) i)
   ⟨Mv.refl,k,0,none,0,0,[],rfl,Nat.zero_le _,rfl,Growing.nil,rfl⟩ ?_
  rintro Y mm vs h₆ hY ⟨mv,k6,i,p,n,c,rs,rfl,hi,rfl,g,hc⟩
  refine gZ ?_
  refine t_if (fun e1 => ?_) (fun e1 => ?_)
  ·obtain ⟨x,a,hx,ha,e2,e3,q,mq,cq,e4,e5⟩ := hrq.at (i := i) (by omega)
   have e2 := mv.rd hm5 _ _ e2
   have e3 := mv.rd hm5 _ _ e3
   have e4 := mv.rd hm5 _ _ e4
   have hxm := List.mem_of_getElem? hx
   have hxd := hreq.2 x hxm
   have hx6 := hitems x hxm
   rw [drop_of hx,lacksGo] at hc
   refine gZ ?_
   have next:∀ h' p n c rs',Mv m h₅ h' -> Desk h'.get d m f u -> Growing LackEnc 100 4 (dropM m h₅).get h'.get p n c rs' -> rs' = rs ++ lacksOf u land day i x -> Y [.slice p n c,.int .i64 (IntKind.wrap .i64 ((i:Int) + 1))] h' := by
    rintro h' p n c rs' mv' k' g' rfl
    refine hY (f.n6 - (i + 1)) _ _ (by omega) ⟨mv',k',i + 1,p,n,c,_,?_,by omega,rfl,g',by rw [hc,List.append_assoc]⟩
    rw [wrap_id (by omega) (by omega)]; rfl
   refine t_blk (fun vs h' => vs = [] /\ h₆ = h' /\ x.land = land /\ x.day <= day) ?_ ?_
   ·refine t_cond (fun b1 => ?_) (fun b1 => ?_)
    ·refine gR ?_
     refine t_cond (fun _ => ?_) (fun e => by cases e)
     refine gZ ?_
     refine t_again (next h₆ p n c rs mv k6 g ?_)
     have:x.land ≠ land := by simpa using b1
     rw [lacksOf,if_pos (.inl this)]; simp
    ·refine t_if (fun b2 => ?_) (fun b2 => ?_)
     ·refine gR ?_
      refine t_cond (fun _ => ?_) (fun e => by cases e)
      refine gZ ?_
      refine t_again (next h₆ p n c rs mv k6 g ?_)
      rw [lacksOf,if_pos (.inr b2)]; simp
     ·exact t_again ⟨rfl,rfl,by simpa using b1,by omega⟩
   ·rintro vs _ ⟨rfl,rfl,hland,hday⟩
    refine gZ ?_
    have hof:lacksOf u land day i x = (x.items.filter fun n => decide (safe u land n x.day ≠ 1)).map fun n => ⟨n,(i:Int),⟨(window u x.day).first,x.day⟩⟩ := by
     rw [lacksOf,if_neg (by omega)]
    have hmq := e5.1
    refine t_loop (fun mm vs h' => Mv m h₅ h' /\ Desk h'.get d m f u /\ ∃ (j:Nat) (p:Option Addr) (n c:Nat) (ss:List Lack),vs = [.slice p n c,.int .i64 j] /\ j <= mq /\ mm = mq - j /\ ss.length <= j /\ Growing LackEnc 100 4 (dropM m h₅).get h'.get p n c (rs ++ ss) /\ lacksOf u land day i x = ss ++ ((x.items.drop j).filter fun n => decide (safe u land n x.day ≠ 1)).map fun n => ⟨n,(i:Int),⟨(window u x.day).first,x.day⟩⟩)
     ⟨mv,k6,0,p,n,c,[],rfl,Nat.zero_le _,rfl,Nat.le_refl _,by simpa using g,hof⟩ ?_
    rintro Y2 mm vs h₇ hY2 ⟨mv7,k7,j,p,n,c,ss,rfl,hj,rfl,hsl,g7,hc7⟩
    refine gZ ?_
    refine t_if (fun e6 => ?_) (fun e6 => ?_)
    ·obtain ⟨y,b,hy,hb,e7⟩ := (e5.rd IntE.grow (mv7.rd hm5)).at (i := j) (by omega)
     unfold IntE at e7
     rw [drop_of hy,List.filter_cons] at hc7
     refine gZ ?_
     refine t_de (c60 k7 hnum land y x.day hxd) ?_
     rintro _ h₈ mv8 k8 rfl
     have g8 := g7.mv k7.isMap mv8
     refine gZ ?_
     refine t_cond (fun b1 => ?_) (fun b1 => ?_)
     ·have b1':decide (safe u land y x.day ≠ 1) = true := by simpa using b1
      rw [if_pos b1',List.map_cons] at hc7
      refine t_de (c55 k8 (num_ok hnum).2.2.2 x.day hxd) ?_
      rintro _ h₉ mv9 k9 rfl
      have g9 := g8.mv k8.isMap mv9
      have e7' := (mv8.trans mv9).rd k7.isMap _ _ e7
      refine gZ ?_
      refine t_build und45 inf79 (by decide) (by decide) (cells := #[.int .i64 y,.int .i64 i,.int .i64 (window u x.day).first,.int .i64 x.day]) (by kernel_rfl) fun r hr => ?_
      have le10:h₉.le _ := LH.upd_le (x := (true,.cells #[.int .i64 y,.int .i64 i,.int .i64 (window u x.day).first,.int .i64 x.day] 100 (0,0))) hr
      have hng := g9.count LackEnc.len (by omega)
      have hrs6:rs.length <= u.requests.length * 6 := by
       have := hlen6
       unfold lacks at hc
       rw [hc,List.length_append] at this; omega
      have hssl:ss.length <= 6 := by have := e5.1; omega
      rw [List.length_append] at hng
      refine gZ ?_
      refine t_growD (x := (⟨y,(i:Int),⟨(window u x.day).first,x.day⟩⟩ : Lack)) (ws := [.int .i64 y,.int .i64 i,.int .i64 (window u x.day).first,.int .i64 x.day]) k (k9.le le10.1) (((mv7.trans mv8).trans mv9).trans (Mv.of_le le10)) rfl rfl und45 und45 inf79 rfl (by omega) (by omega) (g9.le le10.1) rfl rfl ?_ ?_ ?_
      ·intro j w hj
       rw [add_plain,Nat.zero_add]
       exact cell_upd (by simpa using hj)
      ·intro w hw; simp at hw; rcases hw with rfl | rfl | rfl | rfl <;> rfl
      ·intro p' c' h₁₀ mv10 k10 g10
       refine gZ ?_
       refine t_again (hY2 (mq - (j + 1)) _ _ (by omega) ⟨mv10,k10,j + 1,p',n + 1,c',ss ++ [⟨y,(i:Int),⟨(window u x.day).first,x.day⟩⟩],?_,by omega,rfl,by simp; omega,by rw [<- List.append_assoc]; exact g10,by rw [hc7]; simp⟩)
       rw [wrap_id (by omega) (by omega)]; rfl
     ·have b1':decide (safe u land y x.day ≠ 1) = false := by simpa using b1
      rw [if_neg (by rw [b1']; simp)] at hc7
      refine t_again (hY2 (mq - (j + 1)) _ _ (by omega) ⟨mv7.trans mv8,k8,j + 1,p,n,c,ss,?_,by omega,rfl,by omega,g8,hc7⟩)
      rw [wrap_id (by omega) (by omega)]; rfl
    ·refine gZ ?_
     rw [List.drop_eq_nil_of_le (by omega)] at hc7
     refine t_again (next h₇ p n c _ mv7 k7 g7 ?_)
     rw [hc7]; simp
  ·refine gZ ?_
   rw [List.drop_eq_nil_of_le (by omega),lacksGo,List.append_nil] at hc
   refine t_ret ⟨LH.le_trans le14 (Mv.le_of le5 hm mv),.inr ⟨h0,p,n,c,rfl,?_⟩⟩
   rw [hc]
   refine g.sl LackEnc.len (by omega) LackEnc.e ?_
   have:rs.length <= u.requests.length * 6 := by
    have := hlen6
    unfold lacks at hc
    rw [hc] at this; exact this
   omega
def PaperEnc (h₀:Cells) (x:Paper) (ws:List Value):Prop := ∃ q m c,ws = [.int .i64 x.days.first,.int .i64 x.days.last,.int .i64 x.land,.slice q m c] /\ Sl IntE 1 h₀ q m x.items
theorem PaperEnc.len {h₀:Cells}:∀ x ws,PaperEnc h₀ x ws -> ws.length = 4 := by rintro x _ ⟨q,m,c,rfl,_⟩; rfl
theorem PaperEnc.e {h₀ h':Cells} (hr:Rd h₀ h'):∀ a x ws,PaperEnc h₀ x ws -> (∀ (j:Nat) w,ws[j]? = some w -> h'.cell? (a.add j) = some w) -> PaperE h' a x := by
 rintro a x _ ⟨q,m,c,rfl,hs⟩ hc
 exact ⟨hc 0 _ rfl,hc 1 _ rfl,hc 2 _ rfl,q,m,c,hc 3 _ rfl,hs.rd IntE.grow hr⟩
def enoughB (u:UseFile) (land day:Int) (papers all:List Int):Bool := decide (checkF (withP u papers) = 0) && coversB all (leftAll (withP u papers) land day)
theorem withP_take {u:UseFile} {pl:List Int} {i:Nat} {v:Int} {x:Paper} (hv:pl[i]? = some v) (hx:u.papers[v.toNat]? = some x):(pl.take (i + 1)).filterMap (fun n => u.papers[n.toNat]?) = (pl.take i).filterMap (fun n => u.papers[n.toNat]?) ++ [x] := by
 obtain ⟨hlt,rfl⟩ := List.getElem?_eq_some_iff.1 hv
 rw [List.take_succ_eq_append_getElem hlt,List.filterMap_append]
 simp [hx]
theorem c71 {h:LH} {f:FileC} {u:UseFile} (hp:Parts h.get) (hu:FileR h.get f u) (land day:Int) {pp:Option Addr} {pn pc:Nat} {pl:List Int} (hpl:Sl IntE 1 h.get pp pn pl) (hin:∀ v ∈ pl,0 <= v /\ v < (u.papers.length:Int)) (hpl8:pl.length <= 8)
  {ap:Option Addr} {an ac:Nat} {all:List Int} (hal:Sl IntE 1 h.get ap an all) (halen:all.length = u.items.toNat):Gr Tryz.prog 86 #[fileV f u,.int .i64 land,.int .i64 day,.slice pp pn pc,.slice ap an ac] h fun r _ => r = .bool (enoughB u land day pl all) := by
 refine w71 _ _ _ _ _ _ _ _ _ _ _ _ _ _ _ _ _ _ _ _ _ X0_ok ?_
 unfold n71
 have hn := hpl.1
 have hn5 := hu.papers.1
 refine t_loop (fun mm vs h' => h.le h' /\ ∃ (i:Nat) (p:Option Addr) (n c:Nat),vs = [.int .i64 i,.int .i64 u.items,.int .i64 u.lands,.int .i64 u.from_,.int .i64 u.idle,.slice f.p4 f.n4 f.c4,.slice p n c,.slice f.p6 f.n6 f.c6] /\ i <= pn /\ mm = pn - i /\
   Growing (PaperEnc h.get) 32 4 h.get h'.get p n c ((pl.take i).filterMap fun n => u.papers[n.toNat]?)) ⟨LH.le_refl _,0,none,0,0,rfl,Nat.zero_le _,rfl,Growing.nil⟩ ?_
 rintro Y mm vs h₁ hY ⟨hle,i,p,n,c,rfl,hi,rfl,g⟩
 refine gZ ?_
 refine t_if (fun e1 => ?_) (fun e1 => ?_)
 ·obtain ⟨v,a,hv,ha,e2⟩ := hpl.at (i := i) (by omega)
  unfold IntE at e2
  have e2 := Cells.cell?_le hle.1 e2
  have hvr := hin v (List.mem_of_getElem? hv)
  have hvn:((v.toNat:Nat):Int) = v := by omega
  obtain ⟨x,b,hx,hb,e3,e4,e5,q,mq,cq,e6,e7⟩ := hu.papers.at (i := v.toNat) (by omega)
  have e3 := Cells.cell?_le hle.1 e3
  have e4 := Cells.cell?_le hle.1 e4
  have e5 := Cells.cell?_le hle.1 e5
  have e6 := Cells.cell?_le hle.1 e6
  have hnv:0 <= v /\ v < (f.n5:Int) := by omega
  refine gZ ?_
  refine t_build und23 inf69 (by decide) (by decide) (cells := #[.int .i64 x.days.first,.int .i64 x.days.last,.int .i64 x.land,.slice q mq cq]) (by kernel_rfl) fun r hr => ?_
  have le2:h₁.le _ := LH.upd_le (x := (true,.cells #[.int .i64 x.days.first,.int .i64 x.days.last,.int .i64 x.land,.slice q mq cq] 32 (0,0))) hr
  have hng := g.count PaperEnc.len (by omega)
  have hlen:((pl.take i).filterMap fun n => u.papers[n.toNat]?).length <= 8 := Nat.le_trans (List.length_filterMap_le _ _) (by rw [List.length_take]; omega)
  refine gZ ?_
  refine t_grow (x := x) (ws := [.int .i64 x.days.first,.int .i64 x.days.last,.int .i64 x.land,.slice q mq cq]) rfl rfl und23 und23 inf69 rfl (by omega) (by omega) (g.le le2.1) (LH.le_trans hle le2) ⟨q,mq,cq,rfl,e7⟩ rfl ?_ ?_ ?_
  ·intro j w hj
   rw [add_plain,Nat.zero_add]
   exact cell_upd (by simpa using hj)
  ·intro w hw; simp at hw; rcases hw with rfl | rfl | rfl | rfl <;> rfl
  ·intro p' c' h₂ hle2 _ g2
   refine gZ ?_
   refine t_again (hY (pn - (i + 1)) _ _ (by omega) ⟨hle2,i + 1,p',n + 1,c',?_,by omega,rfl,by rw [withP_take hv hx]; exact g2⟩)
   rw [wrap_id (by omega) (by omega)]; rfl
 ·refine gZ ?_
  have hpi:pl.take i = pl := List.take_of_length_le (by omega)
  rw [hpi] at g
  have hlen:(pl.filterMap fun n => u.papers[n.toNat]?).length <= 8 := Nat.le_trans (List.length_filterMap_le _ _) hpl8
  have hsl := g.sl PaperEnc.len (by omega) (PaperEnc.e (Rd.of_le hle.1)) (by omega)
  have hu':FileR h₁.get { f with p5 := p,n5 := n,c5 := c } (withP u pl) := ⟨hu.excuses.le SpanE.grow hle.1,hsl,hu.requests.le RequestE.grow hle.1⟩
  refine t_call (c53 (f := { f with p5 := p,n5 := n,c5 := c }) (u := withP u pl) (l := []) (hp.le hle.1) hu' ⟨rfl,by show 0 < _; omega,fun i g hg => by simp at hg⟩) ?_
  rintro v h₂ ⟨le2,⟨hne,rfl⟩ | ⟨h0,d,m,rfl,hd,hm,k⟩⟩
  ·refine gZ ?_
   refine t_cond (fun _ => ?_) (fun e => absurd (by simpa using e) hne)
   refine t_ret ⟨LH.le_trans hle le2,?_⟩
   have:checkF (withP u pl) ≠ 0 := by
    intro hc
    apply hne
    rw [openF,if_neg (by simp [hc])]; rfl
   unfold enoughB
   rw [decide_eq_false this]; rfl
  ·refine gZ ?_
   refine t_cond (fun e => by cases e) (fun _ => ?_)
   have hck := (open_num h0).2
   refine t_de (c63 k hck land day) ?_
   rintro _ h₃ mv k3 ⟨p3,n3,c3,rfl,g3⟩
   refine gZ ?_
   have hitn := (num_ok (open_num h0).1).1
   have hitn':(withP u pl).items = u.items := rfl
   rw [hitn'] at hitn
   have hll:(leftAll (withP u pl) land day).length = u.items.toNat := by unfold leftAll; rw [List.length_map,List.length_range,hitn']
   have hs3 := g3.sl IntEnc.len (by omega) IntEnc.e (by omega)
   have hle3 := Mv.le_of (LH.le_trans hle le2) (by
    cases hx:h.get m with
    | none => rfl
    | some y => rw [hle.1 _ _ hx] at hm; cases hm) mv
   have hal3 := hal.le IntE.grow hle3.1
   have hn3 := hs3.1
   have han := hal3.1
   refine t_loop (fun mm vs h' => h₃ = h' /\ ∃ j:Nat,vs = [.bool false,.int .i64 j] /\ j <= n3 /\ mm = n3 - j /\ coversB all (leftAll (withP u pl) land day) = coversB (all.drop j) ((leftAll (withP u pl) land day).drop j)) ⟨rfl,0,rfl,Nat.zero_le _,rfl,rfl⟩ ?_
   rintro Y2 mm vs _ hY2 ⟨rfl,j,rfl,hj,rfl,hc⟩
   refine gZ ?_
   have hfin:∀ b,coversB all (leftAll (withP u pl) land day) = b -> Value.bool b = .bool (enoughB u land day pl all) := by
    intro b hb
    unfold enoughB
    rw [decide_eq_true hck,hb]; rfl
   refine t_if (fun e6 => ?_) (fun e6 => ?_)
   ·obtain ⟨y,a1,hy,ha1,e7⟩ := hs3.at (i := j) (by omega)
    obtain ⟨z,a2,hz,ha2,e8⟩ := hal3.at (i := j) (by omega)
    unfold IntE at e7 e8
    rw [drop_of hy,drop_of hz,coversB] at hc
    refine gZ ?_
    have next:(!decide (z = 1) || decide (y = 1)) = true -> Y2 [.bool false,.int .i64 (IntKind.wrap .i64 ((j:Int) + 1))] h₃ := by
     intro hh
     rw [hh,Bool.true_and] at hc
     refine hY2 (n3 - (j + 1)) _ _ (by omega) ⟨rfl,j + 1,?_,by omega,rfl,hc⟩
     rw [wrap_id (by omega) (by omega)]; rfl
    refine t_cond (fun b1 => ?_) (fun b1 => ?_)
    ·have b1':z = 1 := by simpa using b1
     refine t_cond (fun b2 => ?_) (fun b2 => ?_)
     ·have b2':y ≠ 1 := by simpa using b2
      refine gZ ?_
      refine t_ret ⟨hle3,hfin false ?_⟩
      rw [hc]; simp [b1',b2']
     ·have b2':y = 1 := by simpa using b2
      exact t_again (next (by simp [b2']))
    ·have b1':z ≠ 1 := by simpa using b1
     exact t_again (next (by simp [b1']))
   ·refine gZ ?_
    refine t_ret ⟨hle3,hfin true ?_⟩
    rw [hc,List.drop_eq_nil_of_le (show (leftAll (withP u pl) land day).length <= j by omega)]
    cases all.drop j <;> rfl
theorem c69 {h:LH} {f:FileC} {u:UseFile} (hu5:f.n5 = u.papers.length) (hub:(u.papers.length:Int) < 4611686018427387904) {z:Addr} {p:Option Addr} {n c:Nat} {l:List Int} (hz:h.get.cell? z = some (.slice p n c)) (hl:Sl IntE 1 h.get p n l):Gr Tryz.prog 88 #[fileV f u,.pointer (some z)] h fun r _ => r = .int .i64 (risesF l u.papers.length) := by
 refine w69 _ _ _ _ _ _ _ _ _ _ _ _ _ _ X0_ok ?_
 unfold n69
 refine gL1 hz ?_
 rw [hu5]
 refine t_gr (c70 hl (by unfold IsI; omega)) ?_
 rintro _ h' hle rfl
 refine gZ ?_
 exact t_ret ⟨hle,rfl⟩
theorem rises_in {l:List Int} {b:Int} (h:risesF l b = 0):∀ v ∈ l,0 <= v /\ v < b := by
 intro v hv
 obtain ⟨i,hi,rfl⟩ := List.getElem_of_mem hv
 have := rises_len h i hi
 omega
def enoughQ (u:UseFile) (land day:Int) (papers:List Int):List Int := [landQ u land,dayQ day,risesF papers u.papers.length]
def enoughR (u:UseFile) (land day:Int) (papers:List Int):Value :=
 if openF u (enoughQ u land day papers) ≠ 0 then .tuple #[.bool false,.int .i64 (openF u (enoughQ u land day papers))] else .tuple #[.bool (enoughB u land day papers (leftAll u land day)),.int .i64 0]
theorem c31 {h:LH} {f:FileC} {u:UseFile} (hp:Parts h.get) (hu:FileR h.get f u) (land day:Int) {pp:Option Addr} {pn pc:Nat} {pl:List Int} (hpl:Sl IntE 1 h.get pp pn pl):Gr Tryz.prog 39 #[fileV f u,.int .i64 land,.int .i64 day,.slice pp pn pc] h fun r _ => r = enoughR u land day pl := by
 refine w31 _ _ _ _ _ _ _ _ _ _ _ _ _ _ _ _ _ _ X0_ok ?_
 unfold n31
 refine t_new fun r hr => ?_
 have le0:h.le _ := LH.upd_le (x := (true,.cells #[.slice pp pn pc] 30 (0,0))) hr
 have z0:Cells.cell? (h.get.upd r (true,.cells #[.slice pp pn pc] 30 (0,0))) ⟨r,0,none⟩ = some (.slice pp pn pc) := cell_upd rfl
 refine t_gr (c58 u land) ?_
 rintro v0 h₁ le1 ⟨q0,a0⟩
 refine gZ ?_
 refine t_gr (c54 u day) ?_
 rintro v1 h₂ le2 ⟨q1,a1⟩
 refine gZ ?_
 have le02 := LH.le_trans (LH.le_trans le0 le1) le2
 have hub := hu.papers.2.1
 have z2 := Cells.cell?_le (LH.le_trans le1 le2).1 z0
 have a2:Asks (.func (.func 88) #[] #[.pointer (some ⟨r,0,none⟩)]) h₂ u (risesF pl u.papers.length) := by
  intro _ f' h' hle hu'
  exact cv_fw X0_ok (by rfl) (c69 hu'.papers.1 (by omega) (Cells.cell?_le hle.1 z2) (hpl.le IntE.grow (LH.le_trans le02 hle).1))
 refine asks3 q0 (a0.le le2) q1 a1 ⟨_,_,_,rfl⟩ a2 fun r' h₄ le4 hs => ?_
 refine gZ ?_
 have le14 := LH.le_trans le02 le4
 refine t_call (c53 (f := f) (hp.le le14.1) (hu.le le14.1) hs) ?_
 rintro v h₅ ⟨le5,⟨hne,rfl⟩ | ⟨h0,d,m,rfl,hd,hm,k⟩⟩
 ·refine gZ ?_
  refine t_cond (fun _ => ?_) (fun e => absurd (by simpa using e) hne)
  refine t_ret ⟨LH.le_trans le14 le5,?_⟩
  show _ = enoughR u land day pl
  rw [enoughR,if_pos (show openF u (enoughQ u land day pl) ≠ 0 from hne)]; rfl
 ·refine gZ ?_
  refine t_cond (fun e => by cases e) (fun _ => ?_)
  have le25 := LH.le_trans le4 le5
  have z5 := Cells.cell?_le le25.1 z2
  refine gL1 z5 ?_
  have hck := (open_num h0).2
  refine t_de (c63 k hck land day) ?_
  rintro _ h₆ mv k6 ⟨p,n,c,rfl,g⟩
  refine gZ ?_
  have z6 := mv.rd k.isMap _ _ z5
  refine gL1 z6 ?_
  refine gZ ?_
  have hm0:h.get m = none := by
   cases hx:h.get m with
   | none => rfl
   | some x => rw [le14.1 _ _ hx] at hm; cases hm
  have le6 := Mv.le_of (LH.le_trans le14 le5) hm0 mv
  have hrise:risesF pl u.papers.length = 0 := open_zero h0 _ (by simp)
  have hpap := (check_papers hck).1
  have hpl8 := rises_len' hrise (by omega)
  have hitn := (num_ok (open_num h0).1).1
  have hll:(leftAll u land day).length = u.items.toNat := by unfold leftAll; rw [List.length_map,List.length_range]
  refine t_gr (c71 (hp.le le6.1) (hu.le le6.1) land day (hpl.le IntE.grow le6.1) (rises_in hrise) (by omega) (g.sl IntEnc.len (by omega) IntEnc.e (by omega)) hll) ?_
  rintro _ h₇ le7 rfl
  refine gZ ?_
  refine t_ret ⟨LH.le_trans le6 le7,?_⟩
  show _ = enoughR u land day pl
  rw [enoughR,if_neg (by unfold enoughQ; simpa using h0)]
def cmpI (x y:Int):Int := if x < y then -1 else if x > y then 1 else 0
def cmpL:List Int -> List Int -> Int
 | [],[] => 0
 | [],_ :: _ => -1
 | _ :: _,[] => 1
 | x :: xs,y :: ys => if cmpI x y ≠ 0 then cmpI x y else cmpL xs ys
def fewerF (a b:List Int):Int := if a.length ≠ b.length then (a.length:Int) - b.length else cmpL a b
theorem c109 {h:LH} (x:Int):Pu Tryz.prog 161 #[.int .i64 x] h (.bool false) := by
 refine w109 _ X0_ok ?_
 unfold n109
 refine t_ret ⟨?_,rfl⟩
 simp
theorem c105 {h:LH} (x y:Int):Pu Tryz.prog 149 #[.int .i64 x,.int .i64 y] h (.int .i64 (cmpI x y)) := by
 refine w105 _ _ X0_ok ?_
 unfold n105
 refine t_pu (c109 _) ?_
 refine gZ ?_
 refine t_pu (c109 _) ?_
 refine gZ ?_
 refine t_cond (fun e => by cases e) (fun _ => ?_)
 refine t_cond (fun e => by cases e) (fun _ => ?_)
 refine t_if (fun e => ?_) (fun e => ?_)
 ·refine t_ret ⟨?_,rfl⟩; rw [cmpI,if_pos e]
 ·refine t_if (fun e' => ?_) (fun e' => ?_) <;> refine t_ret ⟨?_,rfl⟩ <;> simp [cmpI,e,e']
theorem c97 {h:LH} {p q:Option Addr} {n c m d:Nat} {a b:List Int} (ha:Sl IntE 1 h.get p n a) (hb:Sl IntE 1 h.get q m b):Pu Tryz.prog 124 #[.slice p n c,.slice q m d] h (.int .i64 (cmpL a b)) := by
 refine w97 _ _ _ _ _ _ X0_ok ?_
 unfold n97
 have hn := ha.1
 have hm := hb.1
 have hbn := ha.2.1
 have hbm := hb.2.1
 refine t_loop (fun mm vs h' => h = h' /\ ∃ i:Nat,vs = [.int .i64 0,.int .i64 i] /\ i <= n /\ i <= m /\ mm = n - i /\ cmpL a b = cmpL (a.drop i) (b.drop i)) ⟨rfl,0,rfl,Nat.zero_le _,Nat.zero_le _,rfl,rfl⟩ ?_
 rintro Y mm vs _ hY ⟨rfl,i,rfl,hi,hi',rfl,hc⟩
 refine gZ ?_
 refine t_if (fun e1 => ?_) (fun e1 => ?_)
 ·obtain ⟨x,a1,hx,ha1,e2⟩ := ha.at (i := i) (by omega)
  unfold IntE at e2
  rw [drop_of hx] at hc
  refine gZ ?_
  refine t_if (fun e3 => ?_) (fun e3 => ?_)
  ·refine gZ ?_
   rw [List.drop_eq_nil_of_le (show b.length <= i by omega),cmpL] at hc
   exact t_ret ⟨by rw [hc],rfl⟩
  ·obtain ⟨y,b1,hy,hb1,e4⟩ := hb.at (i := i) (by omega)
   unfold IntE at e4
   rw [drop_of hy,cmpL] at hc
   refine gZ ?_
   refine t_pu (c105 _ _) ?_
   refine gZ ?_
   refine t_cond (fun e5 => ?_) (fun e5 => ?_)
   ·refine gZ ?_
    rw [if_pos (by simpa using e5)] at hc
    exact t_ret ⟨by rw [hc],rfl⟩
   ·rw [if_neg (by simpa using e5)] at hc
    refine t_again (hY (n - (i + 1)) _ _ (by omega) ⟨rfl,i + 1,?_,by omega,by omega,rfl,hc⟩)
    rw [wrap_id (by omega) (by omega)]; rfl
 ·refine gZ ?_
  rw [List.drop_eq_nil_of_le (show a.length <= i by omega)] at hc
  refine t_if (fun e3 => ?_) (fun e3 => ?_)
  ·obtain ⟨y,hy⟩ : ∃ y,b[i]? = some y := ⟨b[i]'(by omega),List.getElem?_eq_getElem (by omega)⟩
   rw [drop_of hy,cmpL] at hc
   exact t_ret ⟨by rw [hc],rfl⟩
  ·rw [List.drop_eq_nil_of_le (show b.length <= i by omega),cmpL] at hc
   exact t_ret ⟨by rw [hc],rfl⟩
theorem c75 {h:LH} {p q:Option Addr} {n c m d:Nat} {a b:List Int} (ha:Sl IntE 1 h.get p n a) (hb:Sl IntE 1 h.get q m b):Pu Tryz.prog 87 #[.slice p n c,.slice q m d] h (.int .i64 (fewerF a b)) := by
 refine w75 _ _ _ _ _ _ X0_ok ?_
 unfold n75
 have hn := ha.1
 have hm := hb.1
 have hbn := ha.2.1
 have hbm := hb.2.1
 refine t_cond (fun e => ?_) (fun e => ?_)
 ·have e':a.length ≠ b.length := by simp at e; omega
  rw [wrap_id (by omega) (by omega)]
  refine t_ret ⟨?_,rfl⟩
  rw [fewerF,if_pos e',hn,hm]
 ·have e':¬ a.length ≠ b.length := by simp at e; omega
  refine t_pu (c97 ha hb) ?_
  refine gZ ?_
  refine t_ret ⟨?_,rfl⟩
  rw [fewerF,if_neg e']
end Go.Proofs.YtgljffachdhigaaGreatDoor
end
section
namespace Go.Proofs.YtgljffachdhigaaGreatDoor
open Go Go.TM Go.Proofs
attribute [local irreducible] T.wp CV FWK
def Sent (u:UseFile) (land day:Int) (i:Nat) (v:Value) (hv:Cells):Prop :=
 if enoughB u land day (subsetL u.papers.length i) (leftAll u land day) then ∃ a n c,v = .slice (some a) n c /\ Sl IntE 1 hv (some a) n (subsetL u.papers.length i) /\ n <= c else v = .slice none 0 0
theorem subset_in {n i:Nat}:∀ v ∈ subsetL n i,0 <= v /\ v < (n:Int) := by
 intro v hv
 unfold subsetL at hv
 obtain ⟨j,hj,rfl⟩ := List.mem_map.1 hv
 have := List.mem_range.1 (List.mem_filter.1 hj).1
 omega
theorem subset_len {n i:Nat}:(subsetL n i).length <= n := by
 unfold subsetL
 rw [List.length_map]
 exact Nat.le_trans (List.length_filter_le _ _) (by simp)
theorem bit_test {i j:Nat} (hi:i < 2 ^ 32):(IntKind.wrap .i64 (((BitVec.ofInt 64 (Int.fdiv (i:Int) (2 ^ min (j:Int).toNat 64)) &&& BitVec.ofInt 64 1).toNat:Nat):Int) == 1) = i.testBit j := by
 have hq:∃ q:Nat,Int.fdiv (i:Int) (2 ^ min (j:Int).toNat 64) = (q:Int) /\ q <= i /\ q % 2 = (i / 2 ^ j) % 2 := by
  by_cases hj:j <= 64
  ·have hm:min (j:Int).toNat 64 = j := by simp; omega
   refine ⟨i / 2 ^ j,?_,Nat.div_le_self _ _,rfl⟩
   rw [hm]
   have:(2 ^ j:Int) = ((2 ^ j:Nat):Int) := by simp
   rw [this,<- Int.ofNat_fdiv]
  ·have hm:min (j:Int).toNat 64 = 64 := by simp; omega
   refine ⟨0,?_,Nat.zero_le _,?_⟩
   ·rw [hm]
    have:(2 ^ 64:Int) = ((2 ^ 64:Nat):Int) := by simp
    rw [this,<- Int.ofNat_fdiv]
    have:i / 2 ^ 64 = 0 := Nat.div_eq_of_lt (by omega)
    rw [this]
   ·have:i / 2 ^ j = 0 := Nat.div_eq_of_lt (Nat.lt_of_lt_of_le hi (Nat.pow_le_pow_right (by omega) (by omega)))
    rw [this]
 obtain ⟨q,h1,h2,h3⟩ := hq
 rw [h1]
 have a1:(BitVec.ofInt 64 (q:Int)).toNat = q := by rw [BitVec.toNat_ofInt]; omega
 have a2:(BitVec.ofInt 64 1).toNat = 1 := rfl
 rw [BitVec.toNat_and,a1,a2,Nat.and_one_is_mod,wrap_id (by omega) (by omega),Nat.testBit_eq_decide_div_mod_eq,<- h3]
 by_cases e:q % 2 = 1
 ·rw [e]; rfl
 ·have:q % 2 = 0 := by omega
  rw [this]; rfl
theorem subset_take {n i j:Nat} (hj:j < n):((List.range n).take (j + 1)).filter (fun j => i.testBit j) = ((List.range n).take j).filter (fun j => i.testBit j) ++ (if i.testBit j then [j] else []) := by
 rw [List.take_succ_eq_append_getElem (by simpa using hj),List.filter_append]
 congr 1
 simp [List.filter_cons]
theorem c74 {hc:Cells} {c0 i:Nat} {z0 z1 z2 z3 z4 z5:Addr} {f:FileC} {u:UseFile} {land day:Int} (hp:Parts hc) (hu:FileR hc f u) (hat:FileAt hc z0 f u) (hpap:u.papers.length <= 8) (hi:i < 2 ^ 32) (h1:hc.cell? z1 = some (.int .i64 (i:Int))) (h2:hc.cell? z2 = some (.int .i64 land)) (h3:hc.cell? z3 = some (.int .i64 day))
  {ap:Option Addr} {an ac:Nat} (h4:hc.cell? z4 = some (.slice ap an ac)) (hal:Sl IntE 1 hc ap an (leftAll u land day)) (h5:hc.cell? z5 = some (.chan (some c0))) :
  FWK XW Tryz.prog .deferred 85 #[.pointer (some z0),.pointer (some z1),.pointer (some z2),.pointer (some z3),.pointer (some z4),.pointer (some z5)] ⟨hc,[],[],[(c0,Sent u land day i)]⟩ fun _ _ => False := by
 refine w74 _ _ _ _ _ _ XW_ok ?_
 unfold n74
 have hn5 := hu.papers.1
 refine t_build0 und50 inf3 fun b0 hb0 => ?_
 have le0:LH.le ⟨hc,[],[],[(c0,Sent u land day i)]⟩ _ := LH.upd_le (x := (true,.cells #[] 3 (0,0))) hb0
 refine gZ ?_
 have g5 := Cells.cell?_le le0.1 hat.f5
 refine gL1 g5 ?_
 refine t_loop (fun mm vs h' => LH.le ⟨hc,[],[],[(c0,Sent u land day i)]⟩ h' /\ ∃ (j:Nat) (a:Addr) (n c:Nat),vs = [.slice (some a) n c,.int .i64 j] /\ j <= f.n5 /\ mm = f.n5 - j /\ Growing IntEnc 3 1 hc h'.get (some a) n c (((List.range u.papers.length).take j).filter (fun j => i.testBit j) |>.map fun j:Nat => (j:Int)))
  ⟨le0,0,_,0,0,rfl,Nat.zero_le _,rfl,⟨[],⟨rfl,.inr ⟨b0,#[],rfl,Cells.upd_self _ _ _,rfl,Nat.le_refl _,fun j v hv => by simp at hv⟩⟩,.nil⟩,fun a ha => by cases ha; exact hb0⟩ ?_
 rintro Y mm vs h₁ hY ⟨hle,j,a,n,c,rfl,hj,rfl,g⟩
 refine gZ ?_
 refine t_if (fun e1 => ?_) (fun e1 => ?_)
 ·have k1 := Cells.cell?_le hle.1 h1
  refine gL0 k1 ?_
  refine gZ ?_
  rw [bit_test hi]
  have hst := subset_take (n := u.papers.length) (i := i) (j := j) (by omega)
  refine t_cond (fun b => ?_) (fun b => ?_)
  ·rw [if_pos b] at hst
   refine t_build und50 inf3 (by decide) (by decide) (cells := #[.int .i64 (j:Int)]) (by kernel_rfl) fun r hr => ?_
   have le2:h₁.le _ := LH.upd_le (x := (true,.cells #[.int .i64 (j:Int)] 3 (0,0))) hr
   have hng := g.count IntEnc.len (by omega)
   have hlen:(((List.range u.papers.length).take j).filter (fun j => i.testBit j)).length <= 8 := Nat.le_trans (List.length_filter_le _ _) (by rw [List.length_take,List.length_range]; omega)
   rw [List.length_map] at hng
   refine gZ ?_
   refine t_grow (h₀ := ⟨hc,[],[],[(c0,Sent u land day i)]⟩) (x := (j:Int)) (ws := [.int .i64 (j:Int)]) rfl rfl und50 und50 inf3 rfl (by omega) (by omega) (g.le le2.1) (LH.le_trans hle le2) rfl rfl ?_ ?_ ?_
   ·intro j w hj
    rw [add_plain,Nat.zero_add]
    exact cell_upd (by simpa using hj)
   ·intro w hw; simp at hw; subst hw; rfl
   ·intro p' c' h₂ hle2 _ g2
    refine gZ ?_
    obtain ⟨a',rfl⟩ : ∃ a',p' = some a' := by
     obtain ⟨vs,⟨_,h6⟩,_⟩ := g2.row
     rcases h6 with ⟨_,h7,_⟩ | ⟨r,cs,h7,_⟩
     ·omega
     ·exact ⟨_,h7⟩
    refine t_again (hY (f.n5 - (j + 1)) _ _ (by omega) ⟨hle2,j + 1,a',n + 1,c',?_,by omega,rfl,by rw [hst,List.map_append]; exact g2⟩)
    rw [wrap_id (by omega) (by omega)]; rfl
  ·rw [if_neg (by rw [b]; simp),List.append_nil] at hst
   refine t_again (hY (f.n5 - (j + 1)) _ _ (by omega) ⟨hle,j + 1,a,n,c,?_,by omega,rfl,by rw [hst]; exact g⟩)
   rw [wrap_id (by omega) (by omega)]; rfl
 ·refine gZ ?_
  have htake:(((List.range u.papers.length).take j).filter (fun j => i.testBit j) |>.map fun j:Nat => (j:Int)) = subsetL u.papers.length i := by
   rw [List.take_of_length_le (by simp; omega)]; rfl
  rw [htake] at g
  obtain ⟨g0,g1,g2,g3,g4,g5,g6⟩ := hat.le hle.1
  have k2 := Cells.cell?_le hle.1 h2
  have k3 := Cells.cell?_le hle.1 h3
  have k4 := Cells.cell?_le hle.1 h4
  have k5 := Cells.cell?_le hle.1 h5
  refine gZ ?_
  have hsub := subset_len (n := u.papers.length) (i := i)
  have hll:(leftAll u land day).length = u.items.toNat := by unfold leftAll; rw [List.length_map,List.length_range]
  refine t_gr (c71 (hp.le hle.1) (hu.le hle.1) land day (g.sl IntEnc.len (by omega) IntEnc.e (by omega)) subset_in (by omega) (hal.le IntE.grow hle.1) hll) ?_
  rintro _ h₂ le2 rfl
  have k5 := Cells.cell?_le le2.1 k5
  refine gZ ?_
  have hle2 := LH.le_trans hle le2
  refine t_cond (fun b => ?_) (fun b => ?_)
  ·refine t_loadC k5 ?_
   refine t_comm ?_
   refine commW_send (z := .tuple #[]) (φ := Sent u land day i) (s := []) (hv := fun _ => none) (hr := h₂.get) hle2.2.2.2 ?_ (fun r => .inl rfl) (fun r x hx => by cases hx) ?_ (fun _ => rfl) (fun h => absurd rfl h)
   ·funext r; rfl
   ·have b':enoughB u land day (subsetL u.papers.length i) (leftAll u land day) = false := by simpa using b
    unfold Sent; rw [if_neg (by rw [b']; simp)]
  ·refine t_loadC k5 ?_
   refine t_comm ?_
   have g7 := g.le le2.1
   obtain ⟨vs,⟨o1,o2⟩,rows⟩ := g7.row
   rcases o2 with ⟨o3,_⟩ | ⟨r,cs,o3,o4,o5,o6,o7⟩
   ·cases o3
   ·cases o3
    refine commW_send (z := .tuple #[]) (φ := Sent u land day i) (s := []) (hv := fun b => if b = r then h₂.get b else none) (hr := fun b => if b = r then none else h₂.get b) hle2.2.2.2 ?_ (fun b => ?_) (fun b x hx => ?_) ?_ (fun _ => rfl) (fun h => absurd rfl h)
    ·funext b
     unfold Cells.add
     by_cases e:b = r
     ·subst e; simp [o4]
     ·simp [e]
    ·by_cases e:b = r
     ·right; simp [e]
     ·left; simp [e]
    ·have hx':(if b = r then h₂.get b else none) = some x := hx
     split at hx'
     ·rename_i e; subst e; rw [o4] at hx'; cases hx'; rfl
     ·cases hx'
    ·have b':enoughB u land day (subsetL u.papers.length i) (leftAll u land day) = true := by simpa using b
     unfold Sent; rw [if_pos b']
     refine ⟨_,_,_,rfl,?_,o6⟩
     refine rows.sl IntEnc.len (by omega) IntEnc.e (el := 3) ⟨o1,.inr ⟨r,cs,rfl,?_,o5,o6,o7⟩⟩ (by omega)
     show (if r = r then h₂.get r else none) = _
     rw [if_pos rfl]; exact o4
end Go.Proofs.YtgljffachdhigaaGreatDoor
end
section
namespace Go.Proofs.YtgljffachdhigaaGreatDoor
open Go Go.TM Go.Proofs
attribute [local irreducible] T.wp CV FWK
theorem t_pushI {X:XP} {Q:Leaf -> LH -> Prop} {h h₀:LH} {k:Value -> T} {p:Option Addr} {n c:Nat} {l:List Int} {x:Int} (g:Growing IntEnc 3 1 h₀.get h.get p n c l) (hle:h₀.le h) (hn:n + 1 <= 2 ^ 30)
  (hk:∀ p' c' h',h₀.le h' -> Growing IntEnc 3 1 h₀.get h'.get p' (n + 1) c' (l ++ [x]) -> (k (.slice p' (n + 1) c')).wp X Tryz.prog Q h') :
  (T.sem false (Instr.buildSlice 30 1 #[(0,.int .i64 x)]) fun v => T.unS v fun a m c2 => T.sem false (Builtin.append_ #[30,30] 30 #[.slice p n c,.slice a m c2]) k).wp X Tryz.prog Q h := by
 refine t_build und50 inf3 (by decide) (by decide) (cells := #[.int .i64 x]) (by kernel_rfl) fun r hr => ?_
 have le2:h.le _ := LH.upd_le (x := (true,.cells #[.int .i64 x] 3 (0,0))) hr
 refine gG ?_
 refine t_grow (h₀ := h₀) (x := x) (ws := [.int .i64 x]) rfl rfl und50 und50 inf3 rfl (by omega) hn (g.le le2.1) (LH.le_trans hle le2) rfl rfl ?_ ?_ ?_
 ·intro j w hj
  rw [add_plain,Nat.zero_add]
  exact cell_upd (by simpa using hj)
 ·intro w hw; simp at hw; subst hw; rfl
 ·intro p' c' h₂ hle2 _ g2
  exact hk p' c' h₂ hle2 g2
end Go.Proofs.YtgljffachdhigaaGreatDoor
end
section
namespace Go.TM
open Go Go.Conc
variable {P:Program}
theorem t_newSt {X:XP} {Q:Leaf -> LH -> Prop} {h:LH} {e:TypeId} {v₀ v:Value} {k:Nat -> T} (h1:isOne v = true) (hk:∀ r,h.get r = none -> (k r).wp X P Q { h with get := h.get.upd r (true,.cells #[v] e (0,0)) }) :
  (T.new e #[v₀] fun r => T.store (Addr.add ⟨r,0,none⟩ 0) v (k r)).wp X P Q h := by
 refine t_new fun r hr => ?_
 have own1:(h.get.upd r (true,.cells #[v₀] e (0,0))) r = some (true,.cells #[v₀] e (0,0)) := Cells.upd_self _ _ _
 refine t_store h1 ⟨_,own1⟩ (v₀ := v₀) (by show Cells.cell? _ _ = _; exact cell_upd rfl) (Go.Proofs.YtgljffachdhigaaGreatDoor.frozen_plain (i := 0) own1) ?_
 have hset:(h.get.upd r (true,.cells #[v₀] e (0,0))).setCell (Addr.add ⟨r,0,none⟩ 0) v = h.get.upd r (true,.cells #[v] e (0,0)) := by
  show Cells.setCell _ ⟨r,0,none⟩ v = _
  rw [Go.Proofs.YtgljffachdhigaaGreatDoor.setCell_upd own1]
  funext b; unfold Cells.upd; by_cases e:b = r <;> simp [e]
 simp only [hset]
 exact hk r hr
theorem cell_freeze (F:Nat -> Bool) (h:Cells) (a:Addr):(freezeC F h).cell? a = h.cell? a := by
 unfold Cells.cell? freezeC
 cases h a.block with
 | none => rfl
 | some x => obtain ⟨m,o⟩ := x; cases o <;> rfl
theorem rd_freeze (F:Nat -> Bool) (h:Cells):Rd h (freezeC F h) := fun a v hc => by rw [cell_freeze]; exact hc
theorem rd_drop {h:Cells} {c s:Nat} (hs:h c = some (true,.chan 0 #[] false s s false)):Rd h (dropC h c) := by
 intro a v hc
 unfold Cells.cell? dropC at *
 by_cases e:a.block = c
 ·rw [e,hs] at hc; cases hc
 ·rw [if_neg e]; exact hc
def Hand (c0:Nat) (h:LH):Prop := (h.chans = [] /\ ∃ s,h.get c0 = some (true,.chan 0 #[] false s s false)) \/ h.chans = [c0]
theorem spawnW_all {f:FuncId} {cap:Array Value} {h:LH} {Q:LH -> Prop} (c0:Nat) {φ:Value -> Cells -> Prop} (hst:Hand c0 h) (c:∀ hc,Rd h.get hc -> FWK XW P .deferred f cap ⟨hc,[],[],[(c0,φ)]⟩ fun _ _ => False)
  (hQ:∀ h',Rd h.get h'.get -> h'.chans = [c0] -> h'.todo = h.todo -> h'.pend = h.pend ++ [[(c0,φ)]] -> Q h'):SpawnW XT P (.func (.func f) #[] cap) #[] h Q := by
 have key:∀ h1:LH,Rd h.get h1.get -> h1.chans = [c0] -> h1.todo = h.todo -> h1.pend = h.pend -> SpawnW XT P (.func (.func f) #[] cap) #[] h1 Q := by
  intro h1 r1 c1 t1 p1
  refine spawnW (fun _ => true) (freezeC (fun _ => true) h1.get) [(c0,φ)] (by simp) (hargs := cap) (by simp) ?_ ?_ (c _ (r1.trans (rd_freeze _ _))) ?_
  ·intro r x hx
   refine ⟨?_,hx⟩
   unfold freezeC at hx
   cases hy:h1.get r with
   | none => rw [hy] at hx; cases hx
   | some y => rw [hy] at hx; simp at hx; rw [<- hx]
  ·intro y hy
   simp at hy; subst hy; rw [c1]; simp
  ·exact hQ _ (r1.trans (rd_freeze _ _)) c1 t1 (by show h1.pend ++ _ = _; rw [p1])
 rcases hst with ⟨h1,s,h2⟩ | h1
 ·refine SpawnW.opened c0 s h2 (key _ (rd_drop h2) ?_ rfl rfl)
  show c0 :: h.chans = _
  rw [h1]
 ·exact key h (Rd.refl _) h1 rfl rfl
theorem commW_gather {last:Bool} {shape:CommShape} {c0:Nat} {z:Value} {φ:Nat -> Value -> Cells -> Prop} {rem:List Nat} {h:LH} {Q:Value -> LH -> Prop} (hp:h.pend = rem.map fun i => [(c0,φ i)]) (hc:h.chans = [c0]) (hne:rem ≠ [])
  (hQ:∀ i rest v h₂,i ∈ rem -> (∀ j,j ∈ rem -> j = i \/ j ∈ rest) -> (∀ j,j ∈ rest -> j ∈ rem) -> rest.length + 1 = rem.length -> h₂.todo = h.todo -> h₂.pend = rest.map (fun i => [(c0,φ i)]) -> ((rest ≠ [] /\ h₂.chans = [c0]) \/ (rest = [] /\ h₂.chans = [] /\ ∃ s,h₂.get c0 = some (true,.chan 0 #[] false s s false))) ->
   (∃ hv,φ i v hv /\ hv.le h₂.get) -> h.get.le h₂.get -> Q (commResult #[rcase c0 z] shape 0 v true) h₂):CommW XT P last #[rcase c0 z] shape h Q := by
 refine CommW.closed (commW_recv ?_ (by rw [hp]; simpa using hne) ?_ ?_)
 ·intro k cc hk
  cases k with
  | zero => simp at hk; subst hk; exact ⟨c0,z,rfl,by rw [hc]; simp⟩
  | succ k => simp at hk
 ·intro s hs
  rw [hp] at hs
  obtain ⟨i,hi,rfl⟩ := List.mem_map.1 hs
  exact ⟨c0,φ i,[],0,z,rfl,rfl⟩
 ·intro pre ψ s post k c v hv z' hpe hcase hd hown hφ
  rw [hp] at hpe
  obtain ⟨l1,l2,rfl,hl1,hl2⟩ := List.map_eq_append_iff.1 hpe
  obtain ⟨i,l3,rfl,hi,hl3⟩ := List.map_eq_cons_iff.1 hl2
  cases hi
  have hk0:k = 0 := by
   cases k with
   | zero => rfl
   | succ k => simp at hcase
  subst hk0
  have le1:h.get.le (h.get.add hv) := Cells.le_add _ _
  have le2:hv.le (h.get.add hv) := fun r x hr => Cells.add_right' hd hr
  have hpend:pre ++ cons' [] post = (l1 ++ l3).map fun i => [(c0,φ i)] := by
   show pre ++ post = _
   rw [<- hl1,<- hl3,List.map_append]
  by_cases hn:l1 ++ l3 = []
  ·right
   refine ⟨c0,by show c0 ∈ h.chans; rw [hc]; simp,by show pre ++ cons' [] post = []; rw [hpend,hn]; rfl,fun s hs => ?_⟩
   refine hQ i (l1 ++ l3) v _ (by simp) (fun j hj => ?_) (fun j hj => ?_) (by simp; omega) rfl hpend (.inr ⟨hn,?_,s,Cells.upd_self _ _ _⟩) ⟨hv,hφ,?_⟩ ?_
   ·simp at hj ⊢; grind
   ·simp at hj ⊢; grind
   ·show h.chans.filter _ = []
    rw [hc]; simp
   ·exact Cells.le_trans le2 (Cells.le_upd _ hs)
   ·exact Cells.le_trans le1 (Cells.le_upd _ hs)
  ·left
   refine hQ i (l1 ++ l3) v _ (by simp) (fun j hj => ?_) (fun j hj => ?_) (by simp; omega) rfl hpend (.inl ⟨hn,hc⟩) ⟨hv,hφ,le2⟩ le1
   ·simp at hj ⊢; grind
   ·simp at hj ⊢; grind
end Go.TM
namespace Go.Proofs.YtgljffachdhigaaGreatDoor
open Go Go.TM Go.Proofs
attribute [local irreducible] T.wp CV FWK
theorem Parts.rd {h h':Cells} (hl:Rd h h') (p:Parts h):Parts h' := fun j hj => hl _ _ (p j hj)
/-! ### fewerF is an order -/
theorem cmpI_neg (x y:Int):cmpI y x = - cmpI x y := by unfold cmpI; repeat' split <;> omega
theorem cmpL_neg:∀ a b:List Int,cmpL b a = - cmpL a b := by
 intro a
 induction a with
 | nil => intro b; cases b <;> rfl
 | cons x a ih =>
  intro b
  cases b with
  | nil => rfl
  | cons y b =>
   simp only [cmpL]
   rw [cmpI_neg x y,ih b]
   by_cases e:cmpI x y = 0
   ·simp [e]
   ·rw [if_pos (by omega),if_pos e]
theorem cmpL_trans:∀ a b c:List Int,cmpL a b <= 0 -> cmpL b c <= 0 -> cmpL a c <= 0 := by
 intro a
 induction a with
 | nil => intro b c _ _; cases c <;> simp [cmpL]
 | cons x a ih =>
  intro b c h1 h2
  cases b with
  | nil => simp [cmpL] at h1
  | cons y b =>
   cases c with
   | nil => simp [cmpL] at h2
   | cons z c =>
    simp only [cmpL] at h1 h2 ⊢
    have := ih b c
    unfold cmpI at h1 h2 ⊢
    by_cases a1:x < y
    ·by_cases a2:y < z
     ·rw [if_pos (by rw [if_pos (show x < z by omega)]; omega),if_pos (show x < z by omega)]; omega
     ·by_cases a3:y = z
      ·subst a3; simp [a1]
      ·have:y > z := by omega
       simp [a2,this] at h2
    ·by_cases a4:x = y
     ·subst a4
      simp at h1
      by_cases a2:x < z
      ·simp [a2]
      ·by_cases a3:x = z
       ·subst a3; simp at h2 ⊢; exact this h1 h2
       ·have:x > z := by omega
        simp [a2,this] at h2
     ·have:x > y := by omega
      simp [a1,this] at h1
theorem fewer_neg (a b:List Int):fewerF b a = - fewerF a b := by
 unfold fewerF
 by_cases e:a.length = b.length
 ·rw [if_neg (by omega),if_neg (by omega),cmpL_neg a b]
 ·rw [if_pos (by omega),if_pos (by omega)]; omega
theorem fewer_trans {a b c:List Int} (h1:fewerF a b <= 0) (h2:fewerF b c <= 0):fewerF a c <= 0 := by
 unfold fewerF at *
 by_cases e1:a.length = b.length
 ·rw [if_neg (by omega)] at h1
  by_cases e2:b.length = c.length
  ·rw [if_neg (by omega)] at h2
   rw [if_neg (by omega)]
   exact cmpL_trans a b c h1 h2
  ·rw [if_pos (by omega)] at h2
   rw [if_pos (by omega)]; omega
 ·rw [if_pos (by omega)] at h1
  by_cases e2:b.length = c.length
  ·rw [if_pos (by omega)]; omega
  ·rw [if_pos (by omega)] at h2
   rw [if_pos (by omega)]; omega
theorem fewer_self (a:List Int):fewerF a a <= 0 := by
 have := fewer_neg a a
 omega
def okF (u:UseFile) (land day:Int) (i:Nat):Bool := enoughB u land day (subsetL u.papers.length i) (leftAll u land day)
def BestR (h:Cells) (u:UseFile) (land day:Int) (rem:List Nat) (p:Option Addr) (n:Nat):Prop :=
 (p = none /\ n = 0 /\ ∀ j,j < 2 ^ u.papers.length -> j ∉ rem -> okF u land day j = false) \/
 (∃ i a,p = some a /\ i < 2 ^ u.papers.length /\ okF u land day i = true /\ Sl IntE 1 h (some a) n (subsetL u.papers.length i) /\ ∀ j,j < 2 ^ u.papers.length -> j ∉ rem -> okF u land day j = true -> fewerF (subsetL u.papers.length i) (subsetL u.papers.length j) <= 0)
def KeepR (h':Cells) (u:UseFile) (land day:Int) (r:Value):Prop :=
 (openF u [landQ u land,dayQ day] ≠ 0 /\ r = .tuple #[.slice none 0 0,.int .i64 (openF u [landQ u land,dayQ day])]) \/
 (openF u [landQ u land,dayQ day] = 0 /\ ∃ p n c,r = .tuple #[.slice p n c,.int .i64 0] /\ BestR h' u land day [] p n /\ n <= c)
theorem BestR.skip {h h':Cells} {u:UseFile} {land day:Int} {rem rest:List Nat} {p:Option Addr} {n i:Nat} (b:BestR h u land day rem p n) (hr:∀ j,j ∈ rem -> j = i \/ j ∈ rest) (hi:okF u land day i = false) (hrd:Rd h h'):BestR h' u land day rest p n := by
 rcases b with ⟨h1,h2,h3⟩ | ⟨k,a,h1,h2,h3,h4,h5⟩
 ·refine .inl ⟨h1,h2,fun j hj hn => ?_⟩
  by_cases e:j = i
  ·rw [e]; exact hi
  ·exact h3 j hj fun hm => (hr j hm).elim e hn
 ·refine .inr ⟨k,a,h1,h2,h3,h4.rd IntE.grow hrd,fun j hj hn ho => ?_⟩
  by_cases e:j = i
  ·rw [e] at ho; exact absurd ho (by rw [hi]; simp)
  ·exact h5 j hj (fun hm => (hr j hm).elim e hn) ho
theorem BestR.take {h h':Cells} {u:UseFile} {land day:Int} {rem rest:List Nat} {p:Option Addr} {n i n':Nat} {a:Addr} (b:BestR h u land day rem p n) (hr:∀ j,j ∈ rem -> j = i \/ j ∈ rest) (hi:okF u land day i = true) (hlt:i < 2 ^ u.papers.length) (hs:Sl IntE 1 h' (some a) n' (subsetL u.papers.length i))
  (hb:p = none \/ ∀ k,okF u land day k = true -> Sl IntE 1 h p n (subsetL u.papers.length k) -> fewerF (subsetL u.papers.length i) (subsetL u.papers.length k) <= 0):BestR h' u land day rest (some a) n' := by
 rcases b with ⟨h1,h2,h3⟩ | ⟨k,a',h1,h2,h3,h4,h5⟩
 ·refine .inr ⟨i,a,rfl,hlt,hi,hs,fun j hj hn ho => ?_⟩
  by_cases e:j = i
  ·rw [e]; exact fewer_self _
  ·have := h3 j hj fun hm => (hr j hm).elim e hn
   rw [this] at ho; cases ho
 ·have hle := hb.resolve_left (by rw [h1]; simp) k h3 (by rw [h1]; exact h4)
  refine .inr ⟨i,a,rfl,hlt,hi,hs,fun j hj hn ho => ?_⟩
  by_cases e:j = i
  ·rw [e]; exact fewer_self _
  ·exact fewer_trans hle (h5 j hj (fun hm => (hr j hm).elim e hn) ho)
theorem BestR.stay {h h':Cells} {u:UseFile} {land day:Int} {rem rest:List Nat} {p:Option Addr} {n i:Nat} (b:BestR h u land day rem p n) (hr:∀ j,j ∈ rem -> j = i \/ j ∈ rest) (hp:p ≠ none) (hrd:Rd h h')
  (hb:∀ k,Sl IntE 1 h p n (subsetL u.papers.length k) -> fewerF (subsetL u.papers.length k) (subsetL u.papers.length i) <= 0):BestR h' u land day rest p n := by
 rcases b with ⟨h1,h2,h3⟩ | ⟨k,a',h1,h2,h3,h4,h5⟩
 ·exact absurd h1 hp
 ·refine .inr ⟨k,a',h1,h2,h3,h4.rd IntE.grow hrd,fun j hj hn ho => ?_⟩
  by_cases e:j = i
  ·rw [e]; exact hb k (by rw [h1]; exact h4)
  ·exact h5 j hj (fun hm => (hr j hm).elim e hn) ho
theorem Sl.same {h:Cells} {p:Option Addr} {n:Nat} {a b:List Int} (ha:Sl IntE 1 h p n a) (hb:Sl IntE 1 h p n b):a = b := by
 refine List.ext_getElem (by rw [<- ha.1,<- hb.1]) fun i h1 h2 => ?_
 obtain ⟨x,c,e1,e2,e3⟩ := ha.at (i := i) (by rw [ha.1]; exact h1)
 obtain ⟨y,d,e4,e5,e6⟩ := hb.at (i := i) (by rw [hb.1]; exact h2)
 rw [e2] at e5; cases e5
 unfold IntE at e3 e6
 rw [e3] at e6; cases e6
 rw [List.getElem?_eq_getElem h1] at e1
 rw [List.getElem?_eq_getElem h2] at e4
 exact (Option.some.inj e1).trans (Option.some.inj e4).symm
theorem sets_wrap {n:Nat} (hn:n <= 8):IntKind.wrap .i64 (1 * 2 ^ min (Int.toNat (n:Int)) 64) = ((2 ^ n:Nat):Int) := by
 have e:min (Int.toNat (n:Int)) 64 = n := by simp; omega
 have h2:(2:Nat) ^ n <= 2 ^ 8 := Nat.pow_le_pow_right (by omega) hn
 have e2:(1:Int) * 2 ^ n = ((2 ^ n:Nat):Int) := by simp
 rw [e,e2]
 generalize 2 ^ n = m at h2
 rw [wrap_id (by omega) (by omega)]
set_option maxRecDepth 100000 in
theorem c33 {h:LH} (hch:h.chans = []) (hpe:h.pend = []) {f:FileC} {u:UseFile} (hp:Parts h.get) (hu:FileR h.get f u) (land day:Int) :
  FW XT Tryz.prog 38 #[fileV f u,.int .i64 land,.int .i64 day] h fun r h' => Rd h.get h'.get /\ h'.chans = [] /\ h'.pend = [] /\ h'.todo = h.todo /\ KeepR h'.get u land day r := by
 refine w33 _ _ _ _ _ _ _ _ _ _ _ _ _ _ _ XT_ok ?_
 unfold n33
 refine t_new fun r hr => ?_
 have le0:h.le _ := LH.upd_le (x := (true,.cells #[.int .i64 u.items,.int .i64 u.lands,.int .i64 u.from_,.int .i64 u.idle,.slice f.p4 f.n4 f.c4,.slice f.p5 f.n5 f.c5,.slice f.p6 f.n6 f.c6] 26 (0,0))) hr
 have hat:FileAt (h.get.upd r (true,.cells #[.int .i64 u.items,.int .i64 u.lands,.int .i64 u.from_,.int .i64 u.idle,.slice f.p4 f.n4 f.c4,.slice f.p5 f.n5 f.c5,.slice f.p6 f.n6 f.c6] 26 (0,0))) ⟨r,0,none⟩ f u :=
  ⟨cell_upd rfl,cell_upd rfl,cell_upd rfl,cell_upd rfl,cell_upd rfl,cell_upd rfl,cell_upd rfl⟩
 generalize hh0:({ h with get := h.get.upd r (true,.cells #[.int .i64 u.items,.int .i64 u.lands,.int .i64 u.from_,.int .i64 u.idle,.slice f.p4 f.n4 f.c4,.slice f.p5 f.n5 f.c5,.slice f.p6 f.n6 f.c6] 26 (0,0)) }:LH) = h0 at le0 ⊢
 have hat:FileAt h0.get ⟨r,0,none⟩ f u := by rw [<- hh0]; exact hat
 refine t_new fun r1 hr1 => ?_
 have le1:h0.le _ := LH.upd_le (x := (true,.cells #[.int .i64 land] 3 (0,0))) hr1
 have z1:Cells.cell? (h0.get.upd r1 (true,.cells #[.int .i64 land] 3 (0,0))) ⟨r1,0,none⟩ = some (.int .i64 land) := cell_upd rfl
 refine t_new fun r2 hr2 => ?_
 have le2 := LH.upd_le (h := { h0 with get := h0.get.upd r1 (true,.cells #[.int .i64 land] 3 (0,0)) }) (x := (true,.cells #[.int .i64 day] 3 (0,0))) hr2
 have z2:Cells.cell? ((h0.get.upd r1 (true,.cells #[.int .i64 land] 3 (0,0))).upd r2 (true,.cells #[.int .i64 day] 3 (0,0))) ⟨r2,0,none⟩ = some (.int .i64 day) := cell_upd rfl
 have z1 := Cells.cell?_le le2.1 z1
 have hat := hat.le (LH.le_trans le1 le2).1
 obtain ⟨g0,g1,g2,g3,g4,g5,g6⟩ := id hat
 have le02 := LH.le_trans le0 (LH.le_trans le1 le2)
 refine gZ ?_
 refine t_gr (c58 u land) ?_
 rintro v0 h₁ le3 ⟨q0,a0⟩
 have z1 := Cells.cell?_le le3.1 z1
 have z2 := Cells.cell?_le le3.1 z2
 have hat := hat.le le3.1
 obtain ⟨g0,g1,g2,g3,g4,g5,g6⟩ := id hat
 refine gZ ?_
 refine t_gr (c54 u day) ?_
 rintro v1 h₂ le4 ⟨q1,a1⟩
 have z1 := Cells.cell?_le le4.1 z1
 have z2 := Cells.cell?_le le4.1 z2
 have hat := hat.le le4.1
 obtain ⟨g0,g1,g2,g3,g4,g5,g6⟩ := id hat
 refine gZ ?_
 refine asks2 q0 (a0.le le4) q1 a1 fun r' h₃ le5 hs => ?_
 have z1 := Cells.cell?_le le5.1 z1
 have z2 := Cells.cell?_le le5.1 z2
 have hat := hat.le le5.1
 obtain ⟨g0,g1,g2,g3,g4,g5,g6⟩ := id hat
 refine gZ ?_
 have le03 := LH.le_trans le02 (LH.le_trans (LH.le_trans le3 le4) le5)
 refine t_call (FW.top (c53 (f := f) (hp.le le03.1) (hu.le le03.1) hs)) ?_
 rintro v h₄ ⟨le6,⟨hne,rfl⟩ | ⟨ho,d,m,rfl,hd,hm,k⟩⟩
 ·refine gZ ?_
  have le04 := LH.le_trans le03 le6
  refine t_cond (fun _ => ?_) (fun e => absurd (by simpa using e) hne)
  exact t_ret ⟨Rd.of_le le04.1,by rw [le04.2.1,hch],by rw [le04.2.2.1,hpe],le04.2.2.2,.inl ⟨hne,rfl⟩⟩
 refine gZ ?_
 refine t_cond (fun e => by cases e) (fun _ => ?_)
 have hck := (open_num ho).2
 have z1' := Cells.cell?_le le6.1 z1
 have z2' := Cells.cell?_le le6.1 z2
 refine gZ ?_
 refine t_de (c63 k hck land day) ?_
 rintro _ h₅ mv k5 ⟨p0,n0,c0,rfl,gl⟩
 have le35 := Mv.le_of le6 hm mv
 have le05 := LH.le_trans le03 le35
 have hitn := (num_ok (open_num ho).1).1
 have hll:(leftAll u land day).length = u.items.toNat := by unfold leftAll; rw [List.length_map,List.length_range]
 have hsl:Sl IntE 1 h₅.get p0 n0 (leftAll u land day) := gl.sl IntEnc.len (by omega) IntEnc.e (by omega)
 have hpap := (check_papers hck).1
 have hu5 := hu.le le05.1
 have hn5 := hu5.papers.1
 refine gZ ?_
 refine t_newSt rfl fun r3 hr3 => ?_
 have le7 := LH.upd_le (x := (true,.cells #[.slice p0 n0 c0] 50 (0,0))) hr3
 have z3:Cells.cell? (h₅.get.upd r3 (true,.cells #[.slice p0 n0 c0] 50 (0,0))) ⟨r3,0,none⟩ = some (.slice p0 n0 c0) := cell_upd rfl
 refine t_makeChan und104 inf50 fun q hq => ?_
 have le8 := LH.upd_le (x := (true,.chan 0 #[] false 0 0 false)) hq
 refine t_unC ?_
 refine t_newSt rfl fun r4 hr4 => ?_
 have le9 := LH.upd_le (x := (true,.cells #[.chan (some q)] 147 (0,0))) hr4
 have le38 := LH.le_trans le35 (LH.le_trans (LH.le_trans le7 le8) le9)
 have z1 := Cells.cell?_le le38.1 z1
 have z2 := Cells.cell?_le le38.1 z2
 have z3 := Cells.cell?_le (LH.le_trans le8 le9).1 z3
 have hat := hat.le le38.1
 obtain ⟨g0,g1,g2,g3,g4,g5,g6⟩ := id hat
 have hsl := hsl.le IntE.grow (LH.le_trans (LH.le_trans le7 le8) le9).1
 have le08 := LH.le_trans le03 le38
 have z4:Cells.cell? (((h₅.get.upd r3 (true,.cells #[.slice p0 n0 c0] 50 (0,0))).upd q (true,.chan 0 #[] false 0 0 false)).upd r4 (true,.cells #[.chan (some q)] 147 (0,0))) ⟨r4,0,none⟩ = some (.chan (some q)) := cell_upd rfl
 have hq' := le9.1 q _ (Cells.upd_self _ _ _)
 refine gL1 g5 ?_
 have h256:2 ^ f.n5 <= 2 ^ 8 := Nat.pow_le_pow_right (by omega) (by omega)
 have hNe:(2:Nat) ^ f.n5 = 2 ^ u.papers.length := by rw [hn5]
 rw [sets_wrap (by omega)]
 generalize hN:(2:Nat) ^ f.n5 = N at h256 hNe ⊢
 refine gZ ?_
 refine t_loop (fun mm vs h' => ∃ j:Nat,vs = [.int .i64 j] /\ j <= N /\ mm = N - j /\ Rd (((h₅.get.upd r3 (true,.cells #[.slice p0 n0 c0] 50 (0,0))).upd q (true,.chan 0 #[] false 0 0 false)).upd r4 (true,.cells #[.chan (some q)] 147 (0,0))) h'.get /\ h'.todo = h.todo /\ h'.pend = (List.range j).map (fun i => [(q,Sent u land day i)]) /\ Hand q h' /\ (0 < j -> h'.chans = [q]))
  ⟨0,rfl,Nat.zero_le _,rfl,Rd.refl _,le08.2.2.2,by rw [le08.2.2.1,hpe]; rfl,.inl ⟨by rw [le08.2.1,hch],0,hq'⟩,fun hh => absurd hh (by omega)⟩ ?_
 rintro Y mm vs h₇ hY ⟨j,rfl,hj,rfl,rd7,td7,pd7,hand7,ch7⟩
 refine gZ ?_
 refine t_if (fun e1 => ?_) (fun e1 => ?_)
 ·refine t_newSt rfl fun r5 hr5 => ?_
  have le10 := LH.upd_le (x := (true,.cells #[.int .i64 (j:Int)] 3 (0,0))) hr5
  have z5:Cells.cell? (h₇.get.upd r5 (true,.cells #[.int .i64 (j:Int)] 3 (0,0))) ⟨r5,0,none⟩ = some (.int .i64 (j:Int)) := cell_upd rfl
  have hand8:Hand q { h₇ with get := h₇.get.upd r5 (true,.cells #[.int .i64 (j:Int)] 3 (0,0)) } := by
   rcases hand7 with ⟨a1,s,a2⟩ | a1
   ·exact .inl ⟨a1,s,le10.1 _ _ a2⟩
   ·exact .inr a1
  have rd8 := rd7.trans (Rd.of_le le10.1)
  refine t_spawn (spawnW_all q (φ := Sent u land day j) hand8 (fun hc hrd => ?_) (fun h₈ r8 c8 t8 p8 => ?_))
  ·have rdc := rd8.trans hrd
   exact c74 ((hp.le le08.1).rd rdc) ((hu.le le08.1).rd rdc) (hat.rd rdc) hpap (by omega) (hrd _ _ z5) (rdc _ _ z1) (rdc _ _ z2) (rdc _ _ z3) (hsl.rd IntE.grow rdc) (rdc _ _ z4)
  ·refine t_again (hY (N - (j + 1)) _ _ (by omega) ⟨j + 1,?_,by omega,rfl,rd8.trans r8,t8.trans td7,?_,.inr c8,fun _ => c8⟩)
   ·rw [wrap_id (by omega) (by omega)]; rfl
   ·rw [p8,pd7,List.range_succ,List.map_append]; rfl
 ·refine gZ ?_
  have hjN:j = N := by omega
  subst hjN
  have hpos:0 < j := by rw [hNe]; exact Nat.pow_pos (by omega)
  refine t_loop (fun mm vs h' => ∃ (k:Nat) (rem:List Nat) (p:Option Addr) (n c:Nat),vs = [.slice p n c,.int .i64 k] /\ rem.length + k = j /\ mm = j - k /\ (∀ i ∈ rem,i < j) /\ Rd (((h₅.get.upd r3 (true,.cells #[.slice p0 n0 c0] 50 (0,0))).upd q (true,.chan 0 #[] false 0 0 false)).upd r4 (true,.cells #[.chan (some q)] 147 (0,0))) h'.get /\ h'.todo = h.todo /\ h'.pend = rem.map (fun i => [(q,Sent u land day i)]) /\
    ((rem ≠ [] /\ h'.chans = [q]) \/ (rem = [] /\ h'.chans = [] /\ ∃ s,h'.get q = some (true,.chan 0 #[] false s s false))) /\ BestR h'.get u land day rem p n /\ n <= c)
   ⟨0,List.range j,none,0,0,rfl,by simp,rfl,fun i hi => List.mem_range.1 hi,rd7,td7,pd7,.inl ⟨by simp; omega,ch7 hpos⟩,.inl ⟨rfl,rfl,fun i hi hn => absurd (List.mem_range.2 (by omega)) hn⟩,Nat.le_refl _⟩ ?_
  rintro Y2 mm vs h₈ hY2 ⟨k,rem,p,n,c,rfl,hk,rfl,hrem,rd8,td8,pd8,hst8,best,hcap⟩
  refine gZ ?_
  refine t_if (fun e2 => ?_) (fun e2 => ?_)
  ·have hne:rem ≠ [] := by rintro rfl; simp at hk; omega
   have hc8:h₈.chans = [q] := by
    rcases hst8 with ⟨_,a⟩ | ⟨a,_⟩
    ·exact a
    ·exact absurd a hne
   refine t_loadC (rd8 _ _ z4) ?_
   refine t_comm (commW_gather (φ := Sent u land day) pd8 hc8 hne ?_)
   intro i rest v h₉ hi h1 h2 hlen ht hpd hst ⟨hv,hsent,hle⟩ hle9
   have hcr:commResult #[Conc.rcase q (.slice none 0 0)] (CommShape.recv false) 0 v true = v := rfl
   rw [hcr]
   have rd9 := Rd.of_le hle9
   have next:∀ p' n' c',BestR h₉.get u land day rest p' n' -> n' <= c' -> Y2 [.slice p' n' c',.int .i64 (IntKind.wrap .i64 ((k:Int) + 1))] h₉ := by
    intro p' n' c' hb hcap'
    refine hY2 (j - (k + 1)) _ _ (by omega) ⟨k + 1,rest,p',n',c',?_,by omega,rfl,fun i hi => hrem i (h2 i hi),rd8.trans rd9,ht.trans td8,hpd,hst,hb,hcap'⟩
    rw [wrap_id (by omega) (by omega)]; rfl
   change (if okF u land day i = true then _ else _) at hsent
   by_cases ok:okF u land day i = true
   ·rw [if_pos ok] at hsent
    obtain ⟨a,n',c',rfl,hs9,hcap9⟩ := hsent
    have hs9 := hs9.rd IntE.grow (Rd.of_le hle)
    refine gZ ?_
    refine t_neNil und50 ?_
    refine gZ ?_
    refine t_cond (fun _ => ?_) (fun e => by cases e)
    refine t_eqNil und50 ?_
    refine gZ ?_
    refine t_cond (fun b => ?_) (fun b => ?_)
    ·exact t_again (next _ _ _ (best.take h1 ok (by have := hrem i hi; omega) hs9 (.inl (by simpa using b))) hcap9)
    ·have hpn:p ≠ none := by rintro rfl; cases b
     obtain ⟨k',a',hk',hs'⟩ : ∃ k' a',p = some a' /\ Sl IntE 1 h₈.get (some a') n (subsetL u.papers.length k') := by
      rcases best with ⟨b1,_⟩ | ⟨k',a',b1,_,_,b4,_⟩
      ·exact absurd b1 hpn
      ·exact ⟨k',a',b1,b4⟩
     subst hk'
     have hs'9 := hs'.rd IntE.grow rd9
     refine t_pu (c75 hs9 hs'9) ?_
     have same:∀ k2,Sl IntE 1 h₈.get (some a') n (subsetL u.papers.length k2) -> subsetL u.papers.length k2 = subsetL u.papers.length k' := by
      intro k2 h3
      exact Sl.same h3 hs'
     refine gZ ?_
     refine t_if (fun e3 => ?_) (fun e3 => ?_)
     ·refine t_again (next _ _ _ (best.take h1 ok (by have := hrem i hi; omega) hs9 (.inr fun k2 _ h3 => ?_)) hcap9)
      rw [same k2 h3]; omega
     ·refine t_again (next _ _ _ (best.stay h1 hpn rd9 fun k2 h3 => ?_) hcap)
      rw [same k2 h3,fewer_neg]; omega
   ·rw [if_neg ok] at hsent
    subst hsent
    refine gZ ?_
    refine t_neNil und50 ?_
    refine gZ ?_
    refine t_cond (fun e => by cases e) (fun _ => ?_)
    exact t_again (next _ _ _ (best.skip h1 (by simpa using ok) rd9) hcap)
  ·refine gZ ?_
   have hrem0:rem = [] := List.length_eq_zero_iff.1 (by omega)
   subst hrem0
   obtain ⟨hc8,s,hq8⟩ : h₈.chans = [] /\ ∃ s,h₈.get q = some (true,.chan 0 #[] false s s false) := by
    rcases hst8 with ⟨a,_⟩ | ⟨_,a,b⟩
    ·exact absurd rfl a
    ·exact ⟨a,b⟩
   refine t_loadC (rd8 _ _ z4) ?_
   refine t_close hq8 ?_
   have rd9:Rd h₈.get (h₈.get.upd q (true,.chan 0 #[] true s s false)) := by
    intro a v hc
    have hne:a.block ≠ q := by
     intro e
     unfold Cells.cell? at hc
     rw [e,hq8] at hc; cases hc
    unfold Cells.cell? at hc ⊢
    rw [Cells.upd_ne _ _ hne]; exact hc
   have b9:BestR (h₈.get.upd q (true,.chan 0 #[] true s s false)) u land day [] p n := by
    rcases best with b1 | ⟨k2,a,b1,b2,b3,b4,b5⟩
    ·exact .inl b1
    ·exact .inr ⟨k2,a,b1,b2,b3,b4.rd IntE.grow rd9,b5⟩
   exact t_ret ⟨((Rd.of_le le08.1).trans rd8).trans rd9,hc8,pd8,td8,.inr ⟨ho,p,n,c,rfl,b9,hcap⟩⟩
end Go.Proofs.YtgljffachdhigaaGreatDoor
end
section
namespace Go.Proofs.YtgljffachdhigaaGreatDoor
open Go Go.TM Go.Proofs
set_option linter.unusedVariables false
set_option maxRecDepth 100000
variable {X:XP} {h:LH} {A:Value -> LH -> Prop}
noncomputable def n16  : T := .call false 32 #[] fun v => .unAgg v fun l => .popI .i64 l fun n vs => .popI .i64 vs fun n_1 vs => .popI .i64 vs fun n_2 vs => .popI .i64 vs fun n_3 vs => .popS vs fun a n_4 c vs => .popS vs fun a_1 n_5 c_1 vs => .popS vs fun a_2 n_6 c_2 vs => .unNil vs (.call false 33 #[.agg #[.int .i64 n,.int .i64 n_1,.int .i64 n_2,.int .i64 n_3,.slice a n_4 c,.slice a_1 n_5 c_1,.slice a_2 n_6 c_2],.int .i64 20] fun v => .unTup v fun l => .unCons l fun v vs => .unAgg v fun l => .popI .i64 l fun n_7 vs_1 => .popI .i64 vs_1 fun n_8 vs_2 => .unNil vs_2 (.unCons vs fun v vs => .unI .i64 v fun n_9 => .unNil vs (.call false 33 #[.agg #[.int .i64 n,.int .i64 n_1,.int .i64 n_2,.int .i64 n_3,.slice a n_4 c,.slice a_1 n_5 c_1,.slice a_2 n_6 c_2],.int .i64 25] fun v => .unTup v fun l => .unCons l fun v vs => .unAgg v fun l => .popI .i64 l fun n_10 vs_3 => .popI .i64 vs_3 fun n_11 vs_4 => .unNil vs_4 (.unCons vs fun v vs => .unI .i64 v fun n_12 => .unNil vs (.call false 34 #[.agg #[.int .i64 n,.int .i64 n_1,.int .i64 n_2,.int .i64 n_3,.slice a n_4 c,.slice a_1 n_5 c_1,.slice a_2 n_6 c_2],.int .i64 0,.int .i64 1,.int .i64 16] fun v => .unTup v fun l => .unCons l fun v vs => .unI .i64 v fun n_13 => .unCons vs fun v vs => .unI .i64 v fun n_14 => .unNil vs (.call false 34 #[.agg #[.int .i64 n,.int .i64 n_1,.int .i64 n_2,.int .i64 n_3,.slice a n_4 c,.slice a_1 n_5 c_1,.slice a_2 n_6 c_2],.int .i64 0,.int .i64 1,.int .i64 18] fun v => .unTup v fun l => .unCons l fun v vs => .unI .i64 v fun n_15 => .unCons vs fun v vs => .unI .i64 v fun n_16 => .unNil vs (.call false 34 #[.agg #[.int .i64 n,.int .i64 n_1,.int .i64 n_2,.int .i64 n_3,.slice a n_4 c,.slice a_1 n_5 c_1,.slice a_2 n_6 c_2],.int .i64 0,.int .i64 1,.int .i64 19] fun v => .unTup v fun l => .unCons l fun v vs => .unI .i64 v fun n_17 => .unCons vs fun v vs => .unI .i64 v fun n_18 => .unNil vs (.call false 35 #[.agg #[.int .i64 n,.int .i64 n_1,.int .i64 n_2,.int .i64 n_3,.slice a n_4 c,.slice a_1 n_5 c_1,.slice a_2 n_6 c_2],.int .i64 0,.int .i64 1] fun v => .unTup v fun l => .unCons l fun v vs => .unI .i64 v fun n_19 => .unCons vs fun v vs => .unI .i64 v fun n_20 => .unNil vs (.call false 35 #[.agg #[.int .i64 n,.int .i64 n_1,.int .i64 n_2,.int .i64 n_3,.slice a n_4 c,.slice a_1 n_5 c_1,.slice a_2 n_6 c_2],.int .i64 1,.int .i64 2] fun v => .unTup v fun l => .unCons l fun v vs => .unI .i64 v fun n_21 => .unCons vs fun v vs => .unI .i64 v fun n_22 => .unNil vs (.call false 36 #[.agg #[.int .i64 n,.int .i64 n_1,.int .i64 n_2,.int .i64 n_3,.slice a n_4 c,.slice a_1 n_5 c_1,.slice a_2 n_6 c_2],.int .i64 0,.int .i64 25] fun v => .unTup v fun l => .unCons l fun v vs => .unS v fun a_3 n_23 c_3 => .unCons vs fun v vs => .unI .i64 v fun n_24 => .unNil vs (.call false 37 #[.agg #[.int .i64 n,.int .i64 n_1,.int .i64 n_2,.int .i64 n_3,.slice a n_4 c,.slice a_1 n_5 c_1,.slice a_2 n_6 c_2],.int .i64 0,.int .i64 20] fun v => .unTup v fun l => .unCons l fun v vs => .unS v fun a_4 n_25 c_4 => .unCons vs fun v vs => .unI .i64 v fun n_26 => .unNil vs (.call false 38 #[.agg #[.int .i64 n,.int .i64 n_1,.int .i64 n_2,.int .i64 n_3,.slice a n_4 c,.slice a_1 n_5 c_1,.slice a_2 n_6 c_2],.int .i64 0,.int .i64 25] fun v => .unTup v fun l => .unCons l fun v vs => .unS v fun a_5 n_27 c_5 => .unCons vs fun v vs => .unI .i64 v fun n_28 => .unNil vs (.sem false (Instr.buildSlice 30 2 #[(0,.int .i64 0),(1,.int .i64 2)]) fun v => .unS v fun a_6 n_29 c_6 => .call false 39 #[.agg #[.int .i64 n,.int .i64 n_1,.int .i64 n_2,.int .i64 n_3,.slice a n_4 c,.slice a_1 n_5 c_1,.slice a_2 n_6 c_2],.int .i64 0,.int .i64 25,.slice a_6 n_29 c_6] fun v => .unTup v fun l => .unCons l fun v vs => .unB v fun b => .unCons vs fun v vs => .unI .i64 v fun n => .unNil vs (.blk (bif n_9 != 0 then .leaf (.retn [.bool false]) else bif n_12 != 0 then .leaf (.retn [.bool false]) else bif n_14 != 0 then .leaf (.retn [.bool false]) else bif n_16 != 0 then .leaf (.retn [.bool false]) else bif n_18 != 0 then .leaf (.retn [.bool false]) else bif n_20 != 0 then .leaf (.retn [.bool false]) else bif n_22 != 0 then .leaf (.retn [.bool false]) else bif n_24 != 0 then .leaf (.retn [.bool false]) else bif n_26 != 0 then .leaf (.retn [.bool false]) else bif n_28 != 0 then .leaf (.retn [.bool false]) else bif n != 0 then .leaf (.retn [.bool false]) else .leaf (.again [.bool false])) (fun vs => .popB vs fun b_1 vs => .unNil vs (.blk (.call false 40 #[.int .i64 16,.int .i64 20] fun v => .unAgg v fun l => .popI .i64 l fun n vs => .popI .i64 vs fun n_30 vs => .unNil vs (.nd (.agg #[.int .i64 n_7,.int .i64 n_8]) (.sem false (Sem.bind (eqGuard BinOp.neq 29 (Operand.tmp 123) (Operand.tmp 124) (.agg #[.int .i64 n_7,.int .i64 n_8]) (.agg #[.int .i64 n,.int .i64 n_30])) fun __r => binOp BinOp.neq 29 (.agg #[.int .i64 n_7,.int .i64 n_8]) (.agg #[.int .i64 n,.int .i64 n_30])) fun v => .unB v fun b_2 => bif b_2 then .nd (.tuple #[]) (.nd (.bool true) (.nd (.bool true) (.nd (.bool true) (.nd (.bool true) (.nd (.bool true) (.nd (.bool true) (.nd (.bool true) (.nd (.bool true) (.nd (.bool true) (.nd (.bool true) (.nd (.bool true) (.nd (.bool true) (.nd (.bool true) (.nd (.bool true) (.nd (.bool true) (.nd (.tuple #[]) (.nd (.bool true) (.nd (.tuple #[]) (.nd (.bool true) (.nd (.bool true) (.nd (.bool true) (.nd (.bool true) (.nd (.bool true) (.nd (.bool true) (.nd (.bool true) (.nd (.bool true) (.nd (.tuple #[]) (.nd (.bool true) (.nd (.bool true) (.nd (.bool true) (.nd (.bool true) (.nd (.bool true) (.nd (.bool true) (.nd (.bool true) (.nd (.bool true) (.nd (.tuple #[]) (.nd (.bool true) (.nd (.bool true) (.nd (.bool true) (.nd (.bool true) (.nd (.bool true) (.nd (.bool true) (.nd (.bool true) (.leaf (.retn [.bool false]))))))))))))))))))))))))))))))))))))))))))))) else .call false 40 #[.int .i64 18,.int .i64 25] fun v => .unAgg v fun l => .popI .i64 l fun n vs => .popI .i64 vs fun n_31 vs => .unNil vs (.nd (.agg #[.int .i64 n_10,.int .i64 n_11]) (.sem false (Sem.bind (eqGuard BinOp.neq 29 (Operand.tmp 127) (Operand.tmp 128) (.agg #[.int .i64 n_10,.int .i64 n_11]) (.agg #[.int .i64 n,.int .i64 n_31])) fun __r => binOp BinOp.neq 29 (.agg #[.int .i64 n_10,.int .i64 n_11]) (.agg #[.int .i64 n,.int .i64 n_31])) fun v => .unB v fun b_3 => bif b_3 then .nd (.bool b_3) (.nd (.bool true) (.nd (.bool b_3) (.nd (.bool true) (.nd (.bool true) (.nd (.bool b_3) (.nd (.bool true) (.nd (.bool true) (.nd (.bool true) (.nd (.bool b_3) (.nd (.bool true) (.nd (.bool true) (.nd (.bool true) (.nd (.bool true) (.nd (.bool b_3) (.nd (.tuple #[]) (.nd (.bool true) (.nd (.tuple #[]) (.nd (.bool true) (.nd (.bool true) (.nd (.bool true) (.nd (.bool true) (.nd (.bool true) (.nd (.bool true) (.nd (.bool b_3) (.nd (.bool true) (.nd (.tuple #[]) (.nd (.bool true) (.nd (.bool true) (.nd (.bool true) (.nd (.bool true) (.nd (.bool true) (.nd (.bool true) (.nd (.bool b_3) (.nd (.bool true) (.nd (.tuple #[]) (.nd (.bool true) (.nd (.bool true) (.nd (.bool true) (.nd (.bool true) (.nd (.bool true) (.nd (.bool true) (.nd (.bool b_3) (.leaf (.retn [.bool false])))))))))))))))))))))))))))))))))))))))))))) else bif n_13 != 1 then .nd (.bool (n_13 != 1)) (.nd (.bool (n_13 != 1)) (.nd (.int .i64 n_13) (.need (AV.val (.bool b_3) = AV.val (.bool false)) (.nd (.bool b_3) (.nd (.bool true) (.nd (.bool (n_13 != 1)) (.nd (.bool (n_13 != 1)) (.nd (.int .i64 n_13) (.need (AV.val (.bool b_3) = AV.val (.bool false)) (.nd (.bool b_3) (.nd (.bool true) (.nd (.bool true) (.nd (.bool (n_13 != 1)) (.nd (.bool (n_13 != 1)) (.nd (.int .i64 n_13) (.need (AV.val (.bool b_3) = AV.val (.bool false)) (.nd (.bool b_3) (.nd (.bool true) (.nd (.bool true) (.nd (.bool true) (.nd (.bool (n_13 != 1)) (.nd (.bool (n_13 != 1)) (.nd (.int .i64 n_13) (.need (AV.val (.bool b_3) = AV.val (.bool false)) (.nd (.bool b_3) (.nd (.tuple #[]) (.nd (.bool true) (.nd (.tuple #[]) (.nd (.bool true) (.nd (.bool true) (.nd (.bool true) (.nd (.bool true) (.nd (.bool true) (.nd (.bool (n_13 != 1)) (.nd (.bool (n_13 != 1)) (.nd (.int .i64 n_13) (.need (AV.val (.bool b_3) = AV.val (.bool false)) (.nd (.bool b_3) (.nd (.bool true) (.nd (.tuple #[]) (.nd (.bool true) (.nd (.bool true) (.nd (.bool true) (.nd (.bool true) (.nd (.bool true) (.nd (.bool (n_13 != 1)) (.nd (.bool (n_13 != 1)) (.nd (.int .i64 n_13) (.need (AV.val (.bool b_3) = AV.val (.bool false)) (.nd (.bool b_3) (.nd (.bool true) (.nd (.tuple #[]) (.nd (.bool true) (.nd (.bool true) (.nd (.bool true) (.nd (.bool true) (.nd (.bool true) (.nd (.bool (n_13 != 1)) (.nd (.bool (n_13 != 1)) (.nd (.int .i64 n_13) (.need (AV.val (.bool b_3) = AV.val (.bool false)) (.nd (.bool b_3) (.leaf (.retn [.bool false])))))))))))))))))))))))))))))))))))))))))))))))))))))))))))))))) else bif n_15 != 0 then .nd (.bool (n_15 != 0)) (.nd (.bool (n_15 != 0)) (.nd (.int .i64 n_15) (.need (AV.val (.bool (n_13 != 1)) = AV.val (.bool false)) (.nd (.bool (n_13 != 1)) (.nd (.bool (n_13 != 1)) (.nd (.int .i64 n_13) (.need (AV.val (.bool b_3) = AV.val (.bool false)) (.nd (.bool b_3) (.nd (.bool true) (.nd (.bool (n_15 != 0)) (.nd (.bool (n_15 != 0)) (.nd (.int .i64 n_15) (.need (AV.val (.bool (n_13 != 1)) = AV.val (.bool false)) (.nd (.bool (n_13 != 1)) (.nd (.bool (n_13 != 1)) (.nd (.int .i64 n_13) (.need (AV.val (.bool b_3) = AV.val (.bool false)) (.nd (.bool b_3) (.nd (.bool true) (.nd (.bool true) (.nd (.bool (n_15 != 0)) (.nd (.bool (n_15 != 0)) (.nd (.int .i64 n_15) (.need (AV.val (.bool (n_13 != 1)) = AV.val (.bool false)) (.nd (.bool (n_13 != 1)) (.nd (.bool (n_13 != 1)) (.nd (.int .i64 n_13) (.need (AV.val (.bool b_3) = AV.val (.bool false)) (.nd (.bool b_3) (.nd (.tuple #[]) (.nd (.bool true) (.nd (.tuple #[]) (.nd (.bool true) (.nd (.bool true) (.nd (.bool true) (.nd (.bool true) (.nd (.bool (n_15 != 0)) (.nd (.bool (n_15 != 0)) (.nd (.int .i64 n_15) (.need (AV.val (.bool (n_13 != 1)) = AV.val (.bool false)) (.nd (.bool (n_13 != 1)) (.nd (.bool (n_13 != 1)) (.nd (.int .i64 n_13) (.need (AV.val (.bool b_3) = AV.val (.bool false)) (.nd (.bool b_3) (.nd (.bool true) (.nd (.tuple #[]) (.nd (.bool true) (.nd (.bool true) (.nd (.bool true) (.nd (.bool true) (.nd (.bool (n_15 != 0)) (.nd (.bool (n_15 != 0)) (.nd (.int .i64 n_15) (.need (AV.val (.bool (n_13 != 1)) = AV.val (.bool false)) (.nd (.bool (n_13 != 1)) (.nd (.bool (n_13 != 1)) (.nd (.int .i64 n_13) (.need (AV.val (.bool b_3) = AV.val (.bool false)) (.nd (.bool b_3) (.nd (.bool true) (.nd (.tuple #[]) (.nd (.bool true) (.nd (.bool true) (.nd (.bool true) (.nd (.bool true) (.nd (.bool (n_15 != 0)) (.nd (.bool (n_15 != 0)) (.nd (.int .i64 n_15) (.need (AV.val (.bool (n_13 != 1)) = AV.val (.bool false)) (.nd (.bool (n_13 != 1)) (.nd (.bool (n_13 != 1)) (.nd (.int .i64 n_13) (.need (AV.val (.bool b_3) = AV.val (.bool false)) (.nd (.bool b_3) (.leaf (.retn [.bool false]))))))))))))))))))))))))))))))))))))))))))))))))))))))))))))))))))))))))))))) else bif n_17 != 2 then .nd (.bool (n_17 != 2)) (.nd (.bool (n_17 != 2)) (.nd (.int .i64 n_17) (.need (AV.val (.bool (n_15 != 0)) = AV.val (.bool false)) (.nd (.bool (n_15 != 0)) (.nd (.bool (n_15 != 0)) (.nd (.int .i64 n_15) (.need (AV.val (.bool (n_13 != 1)) = AV.val (.bool false)) (.nd (.bool (n_13 != 1)) (.nd (.bool (n_13 != 1)) (.nd (.int .i64 n_13) (.need (AV.val (.bool b_3) = AV.val (.bool false)) (.nd (.bool b_3) (.nd (.bool true) (.nd (.bool (n_17 != 2)) (.nd (.bool (n_17 != 2)) (.nd (.int .i64 n_17) (.need (AV.val (.bool (n_15 != 0)) = AV.val (.bool false)) (.nd (.bool (n_15 != 0)) (.nd (.bool (n_15 != 0)) (.nd (.int .i64 n_15) (.need (AV.val (.bool (n_13 != 1)) = AV.val (.bool false)) (.nd (.bool (n_13 != 1)) (.nd (.bool (n_13 != 1)) (.nd (.int .i64 n_13) (.need (AV.val (.bool b_3) = AV.val (.bool false)) (.nd (.bool b_3) (.nd (.tuple #[]) (.nd (.bool true) (.nd (.tuple #[]) (.nd (.bool true) (.nd (.bool true) (.nd (.bool true) (.nd (.bool (n_17 != 2)) (.nd (.bool (n_17 != 2)) (.nd (.int .i64 n_17) (.need (AV.val (.bool (n_15 != 0)) = AV.val (.bool false)) (.nd (.bool (n_15 != 0)) (.nd (.bool (n_15 != 0)) (.nd (.int .i64 n_15) (.need (AV.val (.bool (n_13 != 1)) = AV.val (.bool false)) (.nd (.bool (n_13 != 1)) (.nd (.bool (n_13 != 1)) (.nd (.int .i64 n_13) (.need (AV.val (.bool b_3) = AV.val (.bool false)) (.nd (.bool b_3) (.nd (.bool true) (.nd (.tuple #[]) (.nd (.bool true) (.nd (.bool true) (.nd (.bool true) (.nd (.bool (n_17 != 2)) (.nd (.bool (n_17 != 2)) (.nd (.int .i64 n_17) (.need (AV.val (.bool (n_15 != 0)) = AV.val (.bool false)) (.nd (.bool (n_15 != 0)) (.nd (.bool (n_15 != 0)) (.nd (.int .i64 n_15) (.need (AV.val (.bool (n_13 != 1)) = AV.val (.bool false)) (.nd (.bool (n_13 != 1)) (.nd (.bool (n_13 != 1)) (.nd (.int .i64 n_13) (.need (AV.val (.bool b_3) = AV.val (.bool false)) (.nd (.bool b_3) (.nd (.bool true) (.nd (.tuple #[]) (.nd (.bool true) (.nd (.bool true) (.nd (.bool true) (.nd (.bool (n_17 != 2)) (.nd (.bool (n_17 != 2)) (.nd (.int .i64 n_17) (.need (AV.val (.bool (n_15 != 0)) = AV.val (.bool false)) (.nd (.bool (n_15 != 0)) (.nd (.bool (n_15 != 0)) (.nd (.int .i64 n_15) (.need (AV.val (.bool (n_13 != 1)) = AV.val (.bool false)) (.nd (.bool (n_13 != 1)) (.nd (.bool (n_13 != 1)) (.nd (.int .i64 n_13) (.need (AV.val (.bool b_3) = AV.val (.bool false)) (.nd (.bool b_3) (.leaf (.retn [.bool false]))))))))))))))))))))))))))))))))))))))))))))))))))))))))))))))))))))))))))))))))))) else bif n_19 != 17 then .nd (.bool (n_19 != 17)) (.nd (.bool (n_19 != 17)) (.nd (.int .i64 n_19) (.need (AV.val (.bool (n_17 != 2)) = AV.val (.bool false)) (.nd (.bool (n_17 != 2)) (.nd (.bool (n_17 != 2)) (.nd (.int .i64 n_17) (.need (AV.val (.bool (n_15 != 0)) = AV.val (.bool false)) (.nd (.bool (n_15 != 0)) (.nd (.bool (n_15 != 0)) (.nd (.int .i64 n_15) (.need (AV.val (.bool (n_13 != 1)) = AV.val (.bool false)) (.nd (.bool (n_13 != 1)) (.nd (.bool (n_13 != 1)) (.nd (.int .i64 n_13) (.need (AV.val (.bool b_3) = AV.val (.bool false)) (.nd (.bool b_3) (.nd (.tuple #[]) (.nd (.bool true) (.nd (.tuple #[]) (.nd (.bool true) (.nd (.bool true) (.nd (.bool (n_19 != 17)) (.nd (.bool (n_19 != 17)) (.nd (.int .i64 n_19) (.need (AV.val (.bool (n_17 != 2)) = AV.val (.bool false)) (.nd (.bool (n_17 != 2)) (.nd (.bool (n_17 != 2)) (.nd (.int .i64 n_17) (.need (AV.val (.bool (n_15 != 0)) = AV.val (.bool false)) (.nd (.bool (n_15 != 0)) (.nd (.bool (n_15 != 0)) (.nd (.int .i64 n_15) (.need (AV.val (.bool (n_13 != 1)) = AV.val (.bool false)) (.nd (.bool (n_13 != 1)) (.nd (.bool (n_13 != 1)) (.nd (.int .i64 n_13) (.need (AV.val (.bool b_3) = AV.val (.bool false)) (.nd (.bool b_3) (.nd (.bool true) (.nd (.tuple #[]) (.nd (.bool true) (.nd (.bool true) (.nd (.bool (n_19 != 17)) (.nd (.bool (n_19 != 17)) (.nd (.int .i64 n_19) (.need (AV.val (.bool (n_17 != 2)) = AV.val (.bool false)) (.nd (.bool (n_17 != 2)) (.nd (.bool (n_17 != 2)) (.nd (.int .i64 n_17) (.need (AV.val (.bool (n_15 != 0)) = AV.val (.bool false)) (.nd (.bool (n_15 != 0)) (.nd (.bool (n_15 != 0)) (.nd (.int .i64 n_15) (.need (AV.val (.bool (n_13 != 1)) = AV.val (.bool false)) (.nd (.bool (n_13 != 1)) (.nd (.bool (n_13 != 1)) (.nd (.int .i64 n_13) (.need (AV.val (.bool b_3) = AV.val (.bool false)) (.nd (.bool b_3) (.nd (.bool true) (.nd (.tuple #[]) (.nd (.bool true) (.nd (.bool true) (.nd (.bool (n_19 != 17)) (.nd (.bool (n_19 != 17)) (.nd (.int .i64 n_19) (.need (AV.val (.bool (n_17 != 2)) = AV.val (.bool false)) (.nd (.bool (n_17 != 2)) (.nd (.bool (n_17 != 2)) (.nd (.int .i64 n_17) (.need (AV.val (.bool (n_15 != 0)) = AV.val (.bool false)) (.nd (.bool (n_15 != 0)) (.nd (.bool (n_15 != 0)) (.nd (.int .i64 n_15) (.need (AV.val (.bool (n_13 != 1)) = AV.val (.bool false)) (.nd (.bool (n_13 != 1)) (.nd (.bool (n_13 != 1)) (.nd (.int .i64 n_13) (.need (AV.val (.bool b_3) = AV.val (.bool false)) (.nd (.bool b_3) (.leaf (.retn [.bool false])))))))))))))))))))))))))))))))))))))))))))))))))))))))))))))))))))))))))))))))))) else bif n_21 != 15 then .nd (.tuple #[]) (.nd (.bool true) (.nd (.tuple #[]) (.need (AV.val (.bool (n_21 != 15)) = AV.val (.bool true)) (.nd (.bool (n_21 != 15)) (.nd (.bool (n_21 != 15)) (.nd (.int .i64 n_21) (.need (AV.val (.bool (n_19 != 17)) = AV.val (.bool false)) (.nd (.bool (n_19 != 17)) (.nd (.bool (n_19 != 17)) (.nd (.int .i64 n_19) (.need (AV.val (.bool (n_17 != 2)) = AV.val (.bool false)) (.nd (.bool (n_17 != 2)) (.nd (.bool (n_17 != 2)) (.nd (.int .i64 n_17) (.need (AV.val (.bool (n_15 != 0)) = AV.val (.bool false)) (.nd (.bool (n_15 != 0)) (.nd (.bool (n_15 != 0)) (.nd (.int .i64 n_15) (.need (AV.val (.bool (n_13 != 1)) = AV.val (.bool false)) (.nd (.bool (n_13 != 1)) (.nd (.bool (n_13 != 1)) (.nd (.int .i64 n_13) (.need (AV.val (.bool b_3) = AV.val (.bool false)) (.nd (.bool b_3) (.nd (.bool true) (.nd (.tuple #[]) (.need (AV.val (.bool (n_21 != 15)) = AV.val (.bool true)) (.nd (.bool (n_21 != 15)) (.nd (.bool (n_21 != 15)) (.nd (.int .i64 n_21) (.need (AV.val (.bool (n_19 != 17)) = AV.val (.bool false)) (.nd (.bool (n_19 != 17)) (.nd (.bool (n_19 != 17)) (.nd (.int .i64 n_19) (.need (AV.val (.bool (n_17 != 2)) = AV.val (.bool false)) (.nd (.bool (n_17 != 2)) (.nd (.bool (n_17 != 2)) (.nd (.int .i64 n_17) (.need (AV.val (.bool (n_15 != 0)) = AV.val (.bool false)) (.nd (.bool (n_15 != 0)) (.nd (.bool (n_15 != 0)) (.nd (.int .i64 n_15) (.need (AV.val (.bool (n_13 != 1)) = AV.val (.bool false)) (.nd (.bool (n_13 != 1)) (.nd (.bool (n_13 != 1)) (.nd (.int .i64 n_13) (.need (AV.val (.bool b_3) = AV.val (.bool false)) (.nd (.bool b_3) (.nd (.bool true) (.nd (.tuple #[]) (.need (AV.val (.bool (n_21 != 15)) = AV.val (.bool true)) (.nd (.bool (n_21 != 15)) (.nd (.bool (n_21 != 15)) (.nd (.int .i64 n_21) (.need (AV.val (.bool (n_19 != 17)) = AV.val (.bool false)) (.nd (.bool (n_19 != 17)) (.nd (.bool (n_19 != 17)) (.nd (.int .i64 n_19) (.need (AV.val (.bool (n_17 != 2)) = AV.val (.bool false)) (.nd (.bool (n_17 != 2)) (.nd (.bool (n_17 != 2)) (.nd (.int .i64 n_17) (.need (AV.val (.bool (n_15 != 0)) = AV.val (.bool false)) (.nd (.bool (n_15 != 0)) (.nd (.bool (n_15 != 0)) (.nd (.int .i64 n_15) (.need (AV.val (.bool (n_13 != 1)) = AV.val (.bool false)) (.nd (.bool (n_13 != 1)) (.nd (.bool (n_13 != 1)) (.nd (.int .i64 n_13) (.need (AV.val (.bool b_3) = AV.val (.bool false)) (.nd (.bool b_3) (.leaf (.retn [.bool false])))))))))))))))))))))))))))))))))))))))))))))))))))))))))))))))))))))))))) else bif b then .nd (.tuple #[]) (.nd (.bool b) (.nd (.bool b) (.need (AV.val (.bool (n_21 != 15)) = AV.val (.bool false)) (.nd (.bool (n_21 != 15)) (.nd (.bool (n_21 != 15)) (.nd (.int .i64 n_21) (.need (AV.val (.bool (n_19 != 17)) = AV.val (.bool false)) (.nd (.bool (n_19 != 17)) (.nd (.bool (n_19 != 17)) (.nd (.int .i64 n_19) (.need (AV.val (.bool (n_17 != 2)) = AV.val (.bool false)) (.nd (.bool (n_17 != 2)) (.nd (.bool (n_17 != 2)) (.nd (.int .i64 n_17) (.need (AV.val (.bool (n_15 != 0)) = AV.val (.bool false)) (.nd (.bool (n_15 != 0)) (.nd (.bool (n_15 != 0)) (.nd (.int .i64 n_15) (.need (AV.val (.bool (n_13 != 1)) = AV.val (.bool false)) (.nd (.bool (n_13 != 1)) (.nd (.bool (n_13 != 1)) (.nd (.int .i64 n_13) (.need (AV.val (.bool b_3) = AV.val (.bool false)) (.nd (.bool b_3) (.nd (.bool b) (.nd (.bool b) (.need (AV.val (.bool (n_21 != 15)) = AV.val (.bool false)) (.nd (.bool (n_21 != 15)) (.nd (.bool (n_21 != 15)) (.nd (.int .i64 n_21) (.need (AV.val (.bool (n_19 != 17)) = AV.val (.bool false)) (.nd (.bool (n_19 != 17)) (.nd (.bool (n_19 != 17)) (.nd (.int .i64 n_19) (.need (AV.val (.bool (n_17 != 2)) = AV.val (.bool false)) (.nd (.bool (n_17 != 2)) (.nd (.bool (n_17 != 2)) (.nd (.int .i64 n_17) (.need (AV.val (.bool (n_15 != 0)) = AV.val (.bool false)) (.nd (.bool (n_15 != 0)) (.nd (.bool (n_15 != 0)) (.nd (.int .i64 n_15) (.need (AV.val (.bool (n_13 != 1)) = AV.val (.bool false)) (.nd (.bool (n_13 != 1)) (.nd (.bool (n_13 != 1)) (.nd (.int .i64 n_13) (.need (AV.val (.bool b_3) = AV.val (.bool false)) (.nd (.bool b_3) (.nd (.bool b) (.nd (.bool b) (.need (AV.val (.bool (n_21 != 15)) = AV.val (.bool false)) (.nd (.bool (n_21 != 15)) (.nd (.bool (n_21 != 15)) (.nd (.int .i64 n_21) (.need (AV.val (.bool (n_19 != 17)) = AV.val (.bool false)) (.nd (.bool (n_19 != 17)) (.nd (.bool (n_19 != 17)) (.nd (.int .i64 n_19) (.need (AV.val (.bool (n_17 != 2)) = AV.val (.bool false)) (.nd (.bool (n_17 != 2)) (.nd (.bool (n_17 != 2)) (.nd (.int .i64 n_17) (.need (AV.val (.bool (n_15 != 0)) = AV.val (.bool false)) (.nd (.bool (n_15 != 0)) (.nd (.bool (n_15 != 0)) (.nd (.int .i64 n_15) (.need (AV.val (.bool (n_13 != 1)) = AV.val (.bool false)) (.nd (.bool (n_13 != 1)) (.nd (.bool (n_13 != 1)) (.nd (.int .i64 n_13) (.need (AV.val (.bool b_3) = AV.val (.bool false)) (.nd (.bool b_3) (.leaf (.retn [.bool false])))))))))))))))))))))))))))))))))))))))))))))))))))))))))))))))))))))))))) else .sem false (Instr.buildSlice 30 1 #[(0,.int .i64 1)]) fun v => .unS v fun a n c => .nd (.slice a_5 n_27 c_5) (.nd (.bool b) (.nd (.bool b) (.need (AV.val (.bool (n_21 != 15)) = AV.val (.bool false)) (.nd (.bool (n_21 != 15)) (.nd (.bool (n_21 != 15)) (.nd (.int .i64 n_21) (.need (AV.val (.bool (n_19 != 17)) = AV.val (.bool false)) (.nd (.bool (n_19 != 17)) (.nd (.bool (n_19 != 17)) (.nd (.int .i64 n_19) (.need (AV.val (.bool (n_17 != 2)) = AV.val (.bool false)) (.nd (.bool (n_17 != 2)) (.nd (.bool (n_17 != 2)) (.nd (.int .i64 n_17) (.need (AV.val (.bool (n_15 != 0)) = AV.val (.bool false)) (.nd (.bool (n_15 != 0)) (.nd (.bool (n_15 != 0)) (.nd (.int .i64 n_15) (.need (AV.val (.bool (n_13 != 1)) = AV.val (.bool false)) (.nd (.bool (n_13 != 1)) (.nd (.bool (n_13 != 1)) (.nd (.int .i64 n_13) (.need (AV.val (.bool b_3) = AV.val (.bool false)) (.nd (.bool b_3) (.call false 41 #[.slice a_5 n_27 c_5,.slice a n c] fun v => .unB v fun b_4 => .nd (.bool b) (.nd (.bool b) (.need (AV.val (.bool (n_21 != 15)) = AV.val (.bool false)) (.nd (.bool (n_21 != 15)) (.nd (.bool (n_21 != 15)) (.nd (.int .i64 n_21) (.need (AV.val (.bool (n_19 != 17)) = AV.val (.bool false)) (.nd (.bool (n_19 != 17)) (.nd (.bool (n_19 != 17)) (.nd (.int .i64 n_19) (.need (AV.val (.bool (n_17 != 2)) = AV.val (.bool false)) (.nd (.bool (n_17 != 2)) (.nd (.bool (n_17 != 2)) (.nd (.int .i64 n_17) (.need (AV.val (.bool (n_15 != 0)) = AV.val (.bool false)) (.nd (.bool (n_15 != 0)) (.nd (.bool (n_15 != 0)) (.nd (.int .i64 n_15) (.need (AV.val (.bool (n_13 != 1)) = AV.val (.bool false)) (.nd (.bool (n_13 != 1)) (.nd (.bool (n_13 != 1)) (.nd (.int .i64 n_13) (.need (AV.val (.bool b_3) = AV.val (.bool false)) (.nd (.bool b_3) (bif !b_4 then .leaf (.retn [.bool false]) else .leaf (.again [.bool b_1]))))))))))))))))))))))))))))))))))))))))))))))))))))))) (fun vs => .popB vs fun b vs => .unNil vs (.sem false (Instr.buildSlice 50 3 #[(0,.int .i64 1),(1,.int .i64 2),(2,.int .i64 0)]) fun v => .unS v fun a n c => .call false 42 #[.slice a_3 n_23 c_3,.slice a n c] fun v => .unB v fun b => bif b then .call false 40 #[.int .i64 16,.int .i64 20] fun v => .unAgg v fun l => .popI .i64 l fun n vs => .popI .i64 vs fun n_30 vs => .unNil vs (.call false 40 #[.int .i64 16,.int .i64 20] fun v => .unAgg v fun l => .popI .i64 l fun n_31 vs => .popI .i64 vs fun n_32 vs => .unNil vs (.sem false (Instr.buildSlice 90 2 #[(0,.agg #[.int .i64 1,.int .i64 0,.int .i64 n,.int .i64 n_30]),(1,.agg #[.int .i64 2,.int .i64 0,.int .i64 n_31,.int .i64 n_32])]) fun v => .unS v fun a n c => .call false 43 #[.slice a_4 n_25 c_4,.slice a n c] fun v => .unB v fun b => .leaf (.ret (.bool b)))) else .leaf (.ret (.bool false)))) (fun vs => .popB vs fun b vs => .unNil vs (.leaf (.ret (.bool b)))) fun x x_1 => .fail)) (fun vs => .popB vs fun b vs => .unNil vs (.leaf (.ret (.bool b)))) fun x x_1 => .fail))))))))))))))
theorem w16  (hX:XOK X) (hw:(n16 ).wp X Tryz.prog (retQ A) h):FWK X Tryz.prog .normal 8 #[] h A := fwk_neat (priv := [1,2,4]) (loops := []) (joins := [{ id := 17,slots := [(0,.bool)],ro := [1,2,4],outs := [] },{ id := 15,slots := [(0,.bool)],ro := [1,2,4],outs := [] }]) (fd := Tryz.f8) (by kernel_rfl) (by simp) (by kernel_rfl) (by kernel_rfl) hX hw
end Go.Proofs.YtgljffachdhigaaGreatDoor
end
section
namespace Go.Proofs.YtgljffachdhigaaGreatDoor
open Go Go.TM Go.Proofs
attribute [local irreducible] T.wp CV FWK
def exU:UseFile := ⟨3,2,10,5,[⟨21,23⟩],[⟨⟨12,14⟩,0,[0,1]⟩,⟨⟨19,19⟩,0,[0]⟩,⟨⟨17,26⟩,0,[2]⟩,⟨⟨18,18⟩,1,[0,1]⟩],[⟨20,0,[0,1,2]⟩,⟨25,0,[0,2]⟩]⟩
theorem c42 {h:LH} (a b:Int):Pu Tryz.prog 40 #[.int .i64 a,.int .i64 b] h (.agg #[.int .i64 a,.int .i64 b]) := by
 refine w42 _ _ X0_ok ?_
 unfold n42
 exact t_ret ⟨rfl,rfl⟩
theorem c35 {h:LH} {p q:Option Addr} {n c m d:Nat} {a b:List Int} (ha:Sl IntE 1 h.get p n a) (hb:Sl IntE 1 h.get q m b):Pu Tryz.prog 41 #[.slice p n c,.slice q m d] h (.bool (decide (a = b))) := by
 refine w35 _ _ _ _ _ _ X0_ok ?_
 unfold n35
 have hn := ha.1
 have hm := hb.1
 have hbn := ha.2.1
 have hbm := hb.2.1
 refine t_cond (fun e => ?_) (fun e => ?_)
 ·have:a ≠ b := by rintro rfl; simp at e; omega
  exact t_ret ⟨by simp [this],rfl⟩
 have hnm:n = m := by simp at e; omega
 refine t_loop (fun mm vs h' => h = h' /\ ∃ i:Nat,vs = [.bool false,.int .i64 i] /\ i <= n /\ mm = n - i /\ a.take i = b.take i) ⟨rfl,0,rfl,Nat.zero_le _,rfl,rfl⟩ ?_
 rintro Y mm vs _ hY ⟨rfl,i,rfl,hi,rfl,hc⟩
 refine gZ ?_
 refine t_if (fun e => ?_) (fun e => ?_)
 ·obtain ⟨x,a1,hx,ha1,e1⟩ := ha.at (i := i) (by omega)
  obtain ⟨y,a2,hy,ha2,e2⟩ := hb.at (i := i) (by omega)
  unfold IntE at e1 e2
  refine gZ ?_
  refine t_cond (fun b1 => ?_) (fun b1 => ?_)
  ·refine gZ ?_
   have:a ≠ b := by rintro rfl; rw [hx] at hy; cases hy; simp at b1
   exact t_ret ⟨by simp [this],rfl⟩
  ·have b2:x = y := by simpa using b1
   refine t_again (hY (n - (i + 1)) _ _ (by omega) ⟨rfl,i + 1,?_,by omega,rfl,?_⟩)
   ·rw [wrap_id (by omega) (by omega)]; rfl
   ·rw [List.take_add_one,List.take_add_one,hc,hx,hy,b2]
 ·refine gZ ?_
  rw [List.take_of_length_le (by omega),List.take_of_length_le (by omega)] at hc
  exact t_ret ⟨by simp [hc],rfl⟩
theorem c25 {h:LH} {p q:Option Addr} {n c m d:Nat} {a b:List Int} (ha:Sl IntE 1 h.get p n a) (hb:Sl IntE 1 h.get q m b):Pu Tryz.prog 42 #[.slice p n c,.slice q m d] h (.bool (decide (a = b))) := by
 refine w25 _ _ _ _ _ _ X0_ok ?_
 unfold n25
 have hn := ha.1
 have hm := hb.1
 have hbn := ha.2.1
 have hbm := hb.2.1
 refine t_cond (fun e => ?_) (fun e => ?_)
 ·have:a ≠ b := by rintro rfl; simp at e; omega
  exact t_ret ⟨by simp [this],rfl⟩
 have hnm:n = m := by simp at e; omega
 refine t_loop (fun mm vs h' => h = h' /\ ∃ i:Nat,vs = [.bool false,.int .i64 i] /\ i <= n /\ mm = n - i /\ a.take i = b.take i) ⟨rfl,0,rfl,Nat.zero_le _,rfl,rfl⟩ ?_
 rintro Y mm vs _ hY ⟨rfl,i,rfl,hi,rfl,hc⟩
 refine gZ ?_
 refine t_if (fun e => ?_) (fun e => ?_)
 ·obtain ⟨x,a1,hx,ha1,e1⟩ := ha.at (i := i) (by omega)
  obtain ⟨y,a2,hy,ha2,e2⟩ := hb.at (i := i) (by omega)
  unfold IntE at e1 e2
  refine gZ ?_
  refine t_cond (fun b1 => ?_) (fun b1 => ?_)
  ·refine gZ ?_
   have:a ≠ b := by rintro rfl; rw [hx] at hy; cases hy; simp at b1
   exact t_ret ⟨by simp [this],rfl⟩
  ·have b2:x = y := by simpa using b1
   refine t_again (hY (n - (i + 1)) _ _ (by omega) ⟨rfl,i + 1,?_,by omega,rfl,?_⟩)
   ·rw [wrap_id (by omega) (by omega)]; rfl
   ·rw [List.take_add_one,List.take_add_one,hc,hx,hy,b2]
 ·refine gZ ?_
  rw [List.take_of_length_le (by omega),List.take_of_length_le (by omega)] at hc
  exact t_ret ⟨by simp [hc],rfl⟩
end Go.Proofs.YtgljffachdhigaaGreatDoor
end
section
namespace Go.Proofs.YtgljffachdhigaaGreatDoor
open Go Go.TM Go.Proofs
attribute [local irreducible] T.wp CV FWK
theorem t_buildG {X:XP} {Q:Leaf -> LH -> Prop} {h:LH} {k:Value -> T} {t el:TypeId} {n s b:Nat} {parts:Array (Nat × Value)} {z:Value} {cells:Array Value} (hu:Tryz.prog.underlying t = some (.slice el)) (hi:(Tryz.prog.info? el).map (fun i => (i.size,i.bytes,i.zero)) = some (s,b,some z)) (hn:n * s <= 2 ^ 24) (hpos:n * s ≠ 0)
  (hf:Instr.fill (fun i => some (i * s,s)) ((Array.range (n * s)).map (z.cells[· % z.cells.size]!)) parts.toList = some cells)
  (hk:∀ r h',h.le h' -> h.get r = none -> h'.get r = some (true,.cells cells el (0,0)) -> (k (.slice (some ⟨r,0,none⟩) n n)).wp X Tryz.prog Q h'):(T.sem false (Instr.buildSlice t n parts) k).wp X Tryz.prog Q h :=
 t_build hu hi hn hpos hf fun r hr => hk r _ (LH.upd_le hr) hr (Cells.upd_self _ _ _)
theorem sl_ints {h:Cells} {r:Nat} {m:Bool} {el:TypeId} {l:List Int} {cs:Array Value} (hcs:cs = (l.map (Value.int .i64)).toArray) (hr:h r = some (m,.cells cs el (0,0))) (hb:l.length < 4611686018427387904):Sl IntE 1 h (some ⟨r,0,none⟩) l.length l := by
 refine ⟨rfl,hb,fun i x hx => ⟨_,rfl,?_⟩⟩
 unfold IntE
 rw [add_plain,add_plain]
 subst hcs
 simp [Cells.cell?,hr,hx]
theorem cell_row {h:Cells} {r i:Nat} {m:Bool} {cs:Array Value} {el:TypeId} {v:Value} (hr:h r = some (m,.cells cs el (0,0))) (hv:cs[i]? = some v):h.cell? ⟨r,i,none⟩ = some v := by
 simp [Cells.cell?,hr,hv]
theorem exRep {h:Cells} {r1 r2 r3 r4 r5 r6 r7 r8 r9:Nat} (e1:h r1 = some (true,.cells #[.int .i64 21,.int .i64 23] 29 (0,0))) (e2:h r2 = some (true,.cells #[.int .i64 0,.int .i64 1] 3 (0,0))) (e3:h r3 = some (true,.cells #[.int .i64 0] 3 (0,0))) (e4:h r4 = some (true,.cells #[.int .i64 2] 3 (0,0))) (e5:h r5 = some (true,.cells #[.int .i64 0,.int .i64 1] 3 (0,0)))
  (e6:h r6 = some (true,.cells #[.int .i64 12,.int .i64 14,.int .i64 0,.slice (some ⟨r2,0,none⟩) 2 2,.int .i64 19,.int .i64 19,.int .i64 0,.slice (some ⟨r3,0,none⟩) 1 1,.int .i64 17,.int .i64 26,.int .i64 0,.slice (some ⟨r4,0,none⟩) 1 1,.int .i64 18,.int .i64 18,.int .i64 1,.slice (some ⟨r5,0,none⟩) 2 2] 32 (0,0)))
  (e7:h r7 = some (true,.cells #[.int .i64 0,.int .i64 1,.int .i64 2] 3 (0,0))) (e8:h r8 = some (true,.cells #[.int .i64 0,.int .i64 2] 3 (0,0))) (e9:h r9 = some (true,.cells #[.int .i64 20,.int .i64 0,.slice (some ⟨r7,0,none⟩) 3 3,.int .i64 25,.int .i64 0,.slice (some ⟨r8,0,none⟩) 2 2] 135 (0,0))) :
  FileR h ⟨some ⟨r1,0,none⟩,1,1,some ⟨r6,0,none⟩,4,4,some ⟨r9,0,none⟩,2,2⟩ exU := by
 have cr:∀ {r i j:Nat} {m:Bool} {cs:Array Value} {el:TypeId} {v:Value},h r = some (m,.cells cs el (0,0)) -> cs[i + j]? = some v -> h.cell? (Addr.add (Addr.add ⟨r,0,none⟩ i) j) = some v := by
  intro r i j m cs el v hr hv
  rw [add_plain,add_plain,Nat.zero_add]; exact cell_row hr hv
 refine ⟨⟨rfl,by show (1:Nat) < _; omega,?_⟩,⟨rfl,by show (4:Nat) < _; omega,?_⟩,⟨rfl,by show (2:Nat) < _; omega,?_⟩⟩
 ·intro i x hx
  match i,hx with
  | 0,hx => cases hx; exact ⟨_,rfl,cr e1 rfl,cr e1 rfl⟩
  | i + 1,hx => simp [exU] at hx
 ·intro i x hx
  match i,hx with
  | 0,hx => cases hx; exact ⟨_,rfl,cr e6 rfl,cr e6 rfl,cr e6 rfl,_,_,_,cr e6 rfl,sl_ints (l := [0,1]) rfl e2 (by show (2:Nat) < _; omega)⟩
  | 1,hx => cases hx; exact ⟨_,rfl,cr e6 rfl,cr e6 rfl,cr e6 rfl,_,_,_,cr e6 rfl,sl_ints (l := [0]) rfl e3 (by show (1:Nat) < _; omega)⟩
  | 2,hx => cases hx; exact ⟨_,rfl,cr e6 rfl,cr e6 rfl,cr e6 rfl,_,_,_,cr e6 rfl,sl_ints (l := [2]) rfl e4 (by show (1:Nat) < _; omega)⟩
  | 3,hx => cases hx; exact ⟨_,rfl,cr e6 rfl,cr e6 rfl,cr e6 rfl,_,_,_,cr e6 rfl,sl_ints (l := [0,1]) rfl e5 (by show (2:Nat) < _; omega)⟩
  | i + 4,hx => simp [exU] at hx
 ·intro i x hx
  match i,hx with
  | 0,hx => cases hx; exact ⟨_,rfl,cr e9 rfl,cr e9 rfl,_,_,_,cr e9 rfl,sl_ints (l := [0,1,2]) rfl e7 (by show (3:Nat) < _; omega)⟩
  | 1,hx => cases hx; exact ⟨_,rfl,cr e9 rfl,cr e9 rfl,_,_,_,cr e9 rfl,sl_ints (l := [0,2]) rfl e8 (by show (2:Nat) < _; omega)⟩
  | i + 2,hx => simp [exU] at hx
set_option maxRecDepth 100000 in
theorem c52 {h:LH}:Gr Tryz.prog 32 #[] h fun r h' => ∃ f,r = fileV f exU /\ FileR h'.get f exU := by
 refine w52 X0_ok ?_
 unfold n52
 refine t_pu (c42 _ _) ?_
 refine gZ ?_
 refine t_buildG und22 inf30 (by decide) (by decide) (cells := #[.int .i64 21,.int .i64 23]) (by kernel_rfl) fun r1 h1 le1 _ e1 => ?_
 refine gZ ?_
 refine t_pu (c42 _ _) ?_
 refine gZ ?_
 refine t_buildG und50 inf3 (by decide) (by decide) (cells := #[.int .i64 0,.int .i64 1]) (by kernel_rfl) fun r2 h2 le2 _ e2 => ?_
 refine gZ ?_
 refine t_pu (c42 _ _) ?_
 refine gZ ?_
 refine t_buildG und50 inf3 (by decide) (by decide) (cells := #[.int .i64 0]) (by kernel_rfl) fun r3 h3 le3 _ e3 => ?_
 refine gZ ?_
 refine t_pu (c42 _ _) ?_
 refine gZ ?_
 refine t_buildG und50 inf3 (by decide) (by decide) (cells := #[.int .i64 2]) (by kernel_rfl) fun r4 h4 le4 _ e4 => ?_
 refine gZ ?_
 refine t_pu (c42 _ _) ?_
 refine gZ ?_
 refine t_buildG und50 inf3 (by decide) (by decide) (cells := #[.int .i64 0,.int .i64 1]) (by kernel_rfl) fun r5 h5 le5 _ e5 => ?_
 refine gZ ?_
 refine t_buildG und23 inf69 (by decide) (by decide) (cells := #[.int .i64 12,.int .i64 14,.int .i64 0,.slice (some ⟨r2,0,none⟩) 2 2,.int .i64 19,.int .i64 19,.int .i64 0,.slice (some ⟨r3,0,none⟩) 1 1,.int .i64 17,.int .i64 26,.int .i64 0,.slice (some ⟨r4,0,none⟩) 1 1,.int .i64 18,.int .i64 18,.int .i64 1,.slice (some ⟨r5,0,none⟩) 2 2]) (by kernel_rfl) fun r6 h6 le6 _ e6 => ?_
 refine gZ ?_
 refine t_buildG und50 inf3 (by decide) (by decide) (cells := #[.int .i64 0,.int .i64 1,.int .i64 2]) (by kernel_rfl) fun r7 h7 le7 _ e7 => ?_
 refine gZ ?_
 refine t_buildG und50 inf3 (by decide) (by decide) (cells := #[.int .i64 0,.int .i64 2]) (by kernel_rfl) fun r8 h8 le8 _ e8 => ?_
 refine gZ ?_
 refine t_buildG und24 inf64 (by decide) (by decide) (cells := #[.int .i64 20,.int .i64 0,.slice (some ⟨r7,0,none⟩) 3 3,.int .i64 25,.int .i64 0,.slice (some ⟨r8,0,none⟩) 2 2]) (by kernel_rfl) fun r9 h9 le9 _ e9 => ?_
 refine gZ ?_
 have l89 := le9
 have l79 := LH.le_trans le8 l89
 have l69 := LH.le_trans le7 l79
 have l59 := LH.le_trans le6 l69
 have l49 := LH.le_trans le5 l59
 have l39 := LH.le_trans le4 l49
 have l29 := LH.le_trans le3 l39
 have l19 := LH.le_trans le2 l29
 have e1 := l19.1 _ _ e1
 have e2 := l29.1 _ _ e2
 have e3 := l39.1 _ _ e3
 have e4 := l49.1 _ _ e4
 have e5 := l59.1 _ _ e5
 have e6 := l69.1 _ _ e6
 have e7 := l79.1 _ _ e7
 have e8 := l89.1 _ _ e8
 refine t_ret ⟨LH.le_trans le1 l19,⟨some ⟨r1,0,none⟩,1,1,some ⟨r6,0,none⟩,4,4,some ⟨r9,0,none⟩,2,2⟩,rfl,?_⟩
 exact exRep e1 e2 e3 e4 e5 e6 e7 e8 e9
end Go.Proofs.YtgljffachdhigaaGreatDoor
end
section
namespace Go.TM
open Go Go.Conc
variable {P:Program} {E:Halt -> Cells -> Prop} {h:Cells}
theorem lwp_equalIn2 {Q:Bool -> Cells -> Prop} {t:TypeId} {k:Nat} {a b c d:Int} (ht:twoInts P t = true) (hq:Q (decide (a = c /\ b = d)) h):Sem.lwp P (Op.equalIn (k + 1 + 1) t (.agg #[.int .i64 a,.int .i64 b]) (.agg #[.int .i64 c,.int .i64 d])) Q E h := by
 obtain ⟨f,g,hu,n1,n2,i1,i2,o1,o2,hs⟩ := twoInts_spec ht
 rw [Op.equalIn]
 rw [lwp_bind,lwp_underlying hu]
 simp only [lwp_bind,lwp_program,hs,Bool.false_eq_true,if_false,List.forIn_toArray,List.forIn_cons,List.forIn_nil,n1,n2,ne_eq,not_false_eq_true,if_true]
 refine lwp_partI i1 (v := .int .i64 a) (by rw [o1]; rfl) ?_
 refine lwp_partI i1 (v := .int .i64 c) (by rw [o1]; rfl) ?_
 refine lwp_equalI i1 ?_
 by_cases e1:a = c
 ·subst e1
  simp only [beq_self_eq_true,Bool.not_true,Bool.false_eq_true,if_false,lwp_pure,lwp_bind]
  refine lwp_partI i2 (v := .int .i64 b) (by rw [o2]; rfl) ?_
  refine lwp_partI i2 (v := .int .i64 d) (by rw [o2]; rfl) ?_
  refine lwp_equalI i2 ?_
  by_cases e2:b = d
  ·subst e2
   simpa [lwp_pure] using hq
  ·have e3:(b == d) = false := by simpa using e2
   simpa [lwp_pure,e2,e3] using hq
 ·have e3:(a == c) = false := by simpa using e1
  simpa [lwp_pure,e1,e3] using hq
def twoAndTwo (P:Program) (t:TypeId):Bool := match P.underlying t with
 | some (.struct fs) => (match fs.toList with
  | [a, b, w] => a.name != "_" && b.name != "_" && w.name != "_" && isI64 P a.type && isI64 P b.type && twoInts P w.type && Nat.beq a.offset 0 && Nat.beq b.offset 1 && Nat.beq w.offset 2 && (match P.info? w.type with | some i => Nat.beq i.size 2 | none => false)
  | _ => false) && !P.stoodInHeld t
 | _ => false
theorem twoInts_agg {t:TypeId} (ht:twoInts P t = true):isAggT P t = true := by
 obtain ⟨f,g,hu,_⟩ := twoInts_spec ht
 unfold isAggT; rw [hu]
theorem lwp_part2 {Q:Value -> Cells -> Prop} {t:TypeId} {cs:Array Value} {o:Nat} {i:TypeInfo} (ht:twoInts P t = true) (hi:P.info? t = some i) (hs:i.size = 2) (hq:Q (.agg (cs.extract o (o + 2))) h):Sem.lwp P (part t cs o) Q E h := by
 unfold part
 rw [lwp_bind,lwp_isAgg_true (twoInts_agg ht)]
 simp only [if_true,lwp_bind,lwp_sizeOf hi,hs,lwp_pure]
 exact hq
theorem lwp_equal4 {Q:Bool -> Cells -> Prop} {t:TypeId} {a b c d a' b' c' d':Int} (ht:twoAndTwo P t = true) (hq:Q (decide (a = a' /\ b = b' /\ c = c' /\ d = d')) h):Sem.lwp P (Op.equal t (.agg #[.int .i64 a,.int .i64 b,.int .i64 c,.int .i64 d]) (.agg #[.int .i64 a',.int .i64 b',.int .i64 c',.int .i64 d'])) Q E h := by
 unfold twoAndTwo at ht
 split at ht
 next fs hu =>
  simp only [Bool.and_eq_true,Bool.not_eq_true'] at ht
  obtain ⟨h1,hs⟩ := ht
  split at h1
  next x y w hfs =>
   simp only [Bool.and_eq_true,bne_iff_ne] at h1
   obtain ⟨⟨⟨⟨⟨⟨⟨⟨⟨n1,n2⟩,n3⟩,i1⟩,i2⟩,i3⟩,o1⟩,o2⟩,o3⟩,sz⟩ := h1
   have hfs':fs = #[x,y,w] := by rw [<- hfs]
   subst hfs'
   have o1 := nbeq_true o1
   have o2 := nbeq_true o2
   have o3 := nbeq_true o3
   cases hi:P.info? w.type with
   | none => rw [hi] at sz; cases sz
   | some inf =>
    rw [hi] at sz
    have sz := nbeq_true sz
    unfold Op.equal
    have hmd:Op.maxDepth = 9997 + 1 + 1 + 1 := rfl
    rw [hmd,Op.equalIn]
    rw [lwp_bind,lwp_underlying hu]
    simp only [lwp_bind,lwp_program,hs,Bool.false_eq_true,if_false,List.forIn_toArray,List.forIn_cons,List.forIn_nil,n1,n2,n3,ne_eq,not_false_eq_true,if_true]
    refine lwp_partI i1 (v := .int .i64 a) (by rw [o1]; rfl) ?_
    refine lwp_partI i1 (v := .int .i64 a') (by rw [o1]; rfl) ?_
    refine lwp_equalI i1 ?_
    by_cases e1:a = a'
    ·subst e1
     simp only [beq_self_eq_true,Bool.not_true,Bool.false_eq_true,if_false,lwp_pure,lwp_bind]
     refine lwp_partI i2 (v := .int .i64 b) (by rw [o2]; rfl) ?_
     refine lwp_partI i2 (v := .int .i64 b') (by rw [o2]; rfl) ?_
     refine lwp_equalI i2 ?_
     by_cases e2:b = b'
     ·subst e2
      simp only [beq_self_eq_true,Bool.not_true,Bool.false_eq_true,if_false,lwp_pure,lwp_bind]
      refine lwp_part2 i3 hi sz ?_
      refine lwp_part2 i3 hi sz ?_
      rw [o3]
      refine lwp_equalIn2 (a := c) (b := d) (c := c') (d := d') i3 ?_
      by_cases e3:c = c' /\ d = d'
      ·simpa [lwp_pure,e3] using hq
      ·simpa [lwp_pure,e3] using hq
     ·have e3:(b == b') = false := by simpa using e2
      simpa [lwp_pure,e2,e3] using hq
    ·have e3:(a == a') = false := by simpa using e1
     simpa [lwp_pure,e1,e3] using hq
  next => cases h1
 next => cases ht
variable {X:XP} {Q:Leaf -> LH -> Prop}
theorem t_ne4 {h:LH} {K:Value -> T} {t:TypeId} {x y:Operand} {a b c d a' b' c' d':Int} (ht:twoAndTwo P t = true) (hg:P.eqGuardType P.depth t = false) (hk:(K (.bool (!decide (a = a' /\ b = b' /\ c = c' /\ d = d')))).wp X P Q h) :
  (T.sem false (Sem.bind (eqGuard .neq t x y (.agg #[.int .i64 a,.int .i64 b,.int .i64 c,.int .i64 d]) (.agg #[.int .i64 a',.int .i64 b',.int .i64 c',.int .i64 d'])) fun _ => binOp .neq t (.agg #[.int .i64 a,.int .i64 b,.int .i64 c,.int .i64 d]) (.agg #[.int .i64 a',.int .i64 b',.int .i64 c',.int .i64 d'])) K).wp X P Q h := by
 refine t_sem (A := fun w h' => w = .bool (!decide (a = a' /\ b = b' /\ c = c' /\ d = d')) /\ h' = h.get) (Sem.lwp_bind _ _ ?_) (by rintro w h' ⟨rfl,rfl⟩; exact hk)
 unfold eqGuard
 simp only [Bool.not_true,Bool.false_eq_true,if_false,lwp_bind,lwp_program,hg,Bool.not_false,if_true,lwp_pure]
 unfold binOp
 rw [lwp_bind]
 exact lwp_equal4 ht ⟨rfl,rfl⟩
end Go.TM
end
section
namespace Go.Proofs.YtgljffachdhigaaGreatDoor
open Go Go.TM Go.Proofs
attribute [local irreducible] T.wp CV FWK
theorem two79:twoAndTwo Tryz.prog 100 = true := by kernel_rfl
theorem g79:Tryz.prog.eqGuardType Tryz.prog.depth 100 = false := by kernel_rfl
theorem c30 {h:LH} {p q:Option Addr} {n c m d:Nat} {a b:List Lack} (ha:Sl LackE 4 h.get p n a) (hb:Sl LackE 4 h.get q m b):Pu Tryz.prog 43 #[.slice p n c,.slice q m d] h (.bool (decide (a = b))) := by
 refine w30 _ _ _ _ _ _ X0_ok ?_
 unfold n30
 have hn := ha.1
 have hm := hb.1
 have hbn := ha.2.1
 have hbm := hb.2.1
 refine t_cond (fun e => ?_) (fun e => ?_)
 ·have:a ≠ b := by rintro rfl; simp at e; omega
  exact t_ret ⟨by simp [this],rfl⟩
 have hnm:n = m := by simp at e; omega
 refine t_loop (fun mm vs h' => h = h' /\ ∃ i:Nat,vs = [.bool false,.int .i64 i] /\ i <= n /\ mm = n - i /\ a.take i = b.take i) ⟨rfl,0,rfl,Nat.zero_le _,rfl,rfl⟩ ?_
 rintro Y mm vs _ hY ⟨rfl,i,rfl,hi,rfl,hc⟩
 refine gZ ?_
 refine t_if (fun e => ?_) (fun e => ?_)
 ·obtain ⟨x,a1,hx,ha1,e1,e2,e3,e4⟩ := ha.at (i := i) (by omega)
  obtain ⟨y,a2,hy,ha2,f1,f2,f3,f4⟩ := hb.at (i := i) (by omega)
  refine gZ ?_
  refine t_ne4 two79 g79 ?_
  refine gZ ?_
  refine t_cond (fun b1 => ?_) (fun b1 => ?_)
  ·refine gZ ?_
   have:a ≠ b := by rintro rfl; rw [hx] at hy; cases hy; simp at b1
   exact t_ret ⟨by simp [this],rfl⟩
  ·have b2:x = y := by
    obtain ⟨x1,x2,x3,x4⟩ := x
    obtain ⟨y1,y2,y3,y4⟩ := y
    simp at b1
    obtain ⟨rfl,rfl,rfl,rfl⟩ := b1
    rfl
   refine t_again (hY (n - (i + 1)) _ _ (by omega) ⟨rfl,i + 1,?_,by omega,rfl,?_⟩)
   ·rw [wrap_id (by omega) (by omega)]; rfl
   ·rw [List.take_add_one,List.take_add_one,hc,hx,hy,b2]
 ·refine gZ ?_
  rw [List.take_of_length_le (by omega),List.take_of_length_le (by omega)] at hc
  exact t_ret ⟨by simp [hc],rfl⟩
theorem c15 {h:LH} {f:FileC} {u:UseFile} (hu:FileR h.get f u):FW X0 Tryz.prog 26 #[fileV f u] h fun r h' => h = h' /\ ∃ b:Bool,r = .bool b /\ (b = false -> u.excuses.length <= 20 /\ u.papers.length <= 20 /\ u.requests.length <= 20) := by
 refine w15 _ _ _ _ _ _ _ _ _ _ _ _ _ X0_ok ?_
 unfold n15
 have x0 := hu.excuses.1
 have p0 := hu.papers.1
 have r0 := hu.requests.1
 have pb := hu.papers.2.1
 have rb := hu.requests.2.1
 refine t_blk (fun vs h' => vs = [.bool false] /\ h = h' /\ u.excuses.length <= 20 /\ u.papers.length <= 20 /\ u.requests.length <= 20) ?_ ?_
 ·refine t_if (fun e1 => ?_) (fun e1 => ?_)
  ·refine gZ ?_
   exact t_ret ⟨rfl,true,rfl,fun e => by cases e⟩
  refine t_if (fun e2 => ?_) (fun e2 => ?_)
  ·refine gZ ?_
   exact t_ret ⟨rfl,true,rfl,fun e => by cases e⟩
  refine t_if (fun e3 => ?_) (fun e3 => ?_)
  ·refine gZ ?_
   exact t_ret ⟨rfl,true,rfl,fun e => by cases e⟩
  exact t_again ⟨rfl,rfl,by omega,by omega,by omega⟩
 rintro vs _ ⟨rfl,rfl,h1,h2,h3⟩
 refine gZ ?_
 refine t_loop (fun mm vs h' => h = h' /\ ∃ i:Nat,vs = [.bool false,.int .i64 i] /\ i <= f.n5 /\ mm = f.n5 - i) ⟨rfl,0,rfl,Nat.zero_le _,rfl⟩ ?_
 rintro Y mm vs _ hY ⟨rfl,i,rfl,hi,rfl⟩
 refine gZ ?_
 refine t_if (fun e => ?_) (fun e => ?_)
 ·obtain ⟨x,a1,hx,ha1,e1,e2,e3,q,m,c,e4,e5⟩ := hu.papers.at (i := i) (by omega)
  refine gZ ?_
  refine t_if (fun e6 => ?_) (fun e6 => ?_)
  ·refine gZ ?_
   exact t_ret ⟨rfl,true,rfl,fun e => by cases e⟩
  ·refine t_again (hY (f.n5 - (i + 1)) _ _ (by omega) ⟨rfl,i + 1,?_,by omega,rfl⟩)
   rw [wrap_id (by omega) (by omega)]; rfl
 ·refine gZ ?_
  refine t_loop (fun mm vs h' => h = h' /\ ∃ i:Nat,vs = [.bool false,.int .i64 i] /\ i <= f.n6 /\ mm = f.n6 - i) ⟨rfl,0,rfl,Nat.zero_le _,rfl⟩ ?_
  rintro Y2 mm vs _ hY2 ⟨rfl,i,rfl,hi,rfl⟩
  refine gZ ?_
  refine t_if (fun e => ?_) (fun e => ?_)
  ·obtain ⟨x,a1,hx,ha1,e1,e2,q,m,c,e4,e5⟩ := hu.requests.at (i := i) (by omega)
   refine gZ ?_
   refine t_if (fun e6 => ?_) (fun e6 => ?_)
   ·refine gZ ?_
    exact t_ret ⟨rfl,true,rfl,fun e => by cases e⟩
   ·refine t_again (hY2 (f.n6 - (i + 1)) _ _ (by omega) ⟨rfl,i + 1,?_,by omega,rfl⟩)
    rw [wrap_id (by omega) (by omega)]; rfl
  ·refine gZ ?_
   exact t_ret ⟨rfl,false,rfl,fun _ => ⟨h1,h2,h3⟩⟩
end Go.Proofs.YtgljffachdhigaaGreatDoor
end
section
namespace Go.Proofs.YtgljffachdhigaaGreatDoor
open Go Go.TM Go.Proofs
attribute [local irreducible] T.wp CV FWK
theorem t_pushS {X:XP} {Q:Leaf -> LH -> Prop} {h h₀:LH} {k:Value -> T} {p:Option Addr} {n c:Nat} {l:List Int} {x:Int} (g:Growing IntEnc 56 1 h₀.get h.get p n c l) (hle:h₀.le h) (hn:n + 1 <= 2 ^ 30)
  (hk:∀ p' c' h',h₀.le h' -> Growing IntEnc 56 1 h₀.get h'.get p' (n + 1) c' (l ++ [x]) -> (k (.slice p' (n + 1) c')).wp X Tryz.prog Q h') :
  (T.sem false (Instr.buildSlice 50 1 #[(0,.int .i64 x)]) fun v => T.unS v fun a m c2 => T.sem false (Builtin.append_ #[50,50] 50 #[.slice p n c,.slice a m c2]) k).wp X Tryz.prog Q h := by
 refine t_build und40 inf34 (by decide) (by decide) (cells := #[.int .i64 x]) (by kernel_rfl) fun r hr => ?_
 have le2:h.le _ := LH.upd_le (x := (true,.cells #[.int .i64 x] 56 (0,0))) hr
 refine gG ?_
 refine t_grow (h₀ := h₀) (x := x) (ws := [.int .i64 x]) rfl rfl und40 und40 inf34 rfl (by omega) hn (g.le le2.1) (LH.le_trans hle le2) rfl rfl ?_ ?_ ?_
 ·intro j w hj
  rw [add_plain,Nat.zero_add]
  exact cell_upd (by simpa using hj)
 ·intro w hw; simp at hw; subst hw; rfl
 ·intro p' c' h₂ hle2 _ g2
  exact hk p' c' h₂ hle2 g2
end Go.Proofs.YtgljffachdhigaaGreatDoor
end
section
namespace Go.Proofs.YtgljffachdhigaaGreatDoor
open Go Go.TM Go.Proofs Go.TM.Rv
attribute [local irreducible] T.wp CV FWK
def IntsV (l:List Int):Array Value := (l.map (Value.int .i64)).toArray
theorem intsV_size (l:List Int):(IntsV l).size = l.length := by simp [IntsV]
theorem intsV_set (l:List Int) (j:Nat) (v:Int):(IntsV l).setIfInBounds j (.int .i64 v) = IntsV (l.set j v) := by
 unfold IntsV
 rw [List.setIfInBounds_toArray,List.map_set]
theorem intsV_at {l:List Int} {j:Nat} {v:Int} (h:l[j]? = some v):(IntsV l)[j]? = some (.int .i64 v) := by simp [IntsV,h]
theorem ints_cell {h:Cells} {r j:Nat} {el:TypeId} {l:List Int} {m:Bool} {v:Int} (hr:h r = some (m,.cells (IntsV l) el (0,0))) (hv:l[j]? = some v):h.cell? (Addr.add ⟨r,0,none⟩ j) = some (.int .i64 v) := by
 rw [add_plain,Nat.zero_add]
 unfold Cells.cell?
 rw [hr]
 exact intsV_at hv
theorem ints_of {cs:Array Value} {n:Nat} (h1:cs.size = n) (h2:∀ j,j < n -> cs[j]? = some (.int .i64 0)):cs = IntsV (List.replicate n 0) := by
 refine Array.ext_getElem? fun j => ?_
 by_cases e:j < n
 ·rw [h2 j e,intsV_at]
  rw [List.getElem?_replicate,if_pos e]
 ·rw [Array.getElem?_eq_none (by omega),Array.getElem?_eq_none (by rw [intsV_size,List.length_replicate]; omega)]
def encS (s:List Bool):Value := .agg (BoolsV s)
theorem encS_inj:∀ a b,encS a = encS b -> a = b := by
 intro a b h
 have h1:a.map Value.bool = b.map Value.bool := agg_inj.1 h
 have key:∀ a b:List Bool,a.map Value.bool = b.map Value.bool -> a = b := by
  intro a
  induction a with
  | nil => intro b h; cases b with
   | nil => rfl
   | cons x b => cases h
  | cons x a ih =>
   intro b h
   cases b with
   | nil => cases h
   | cons y b =>
    rw [List.map_cons,List.map_cons] at h
    injection h with h1 h2
    injection h1 with h1
    rw [h1,ih b h2]
 exact key a b h1
theorem und1182:Tryz.prog.underlying 128 = some (.array 6 4) := by kernel_rfl
theorem undBo:Tryz.prog.underlying 4 = some .bool := by kernel_rfl
theorem und1208:Tryz.prog.underlying 161 = some (.map 128 3) := by kernel_rfl
theorem infBo:(Tryz.prog.info? 4).map (fun i => (i.size,i.bytes,i.zero)) = some (1,1,some (.bool false)) := by kernel_rfl
theorem eg1182:Tryz.prog.eqGuardType Tryz.prog.depth 128 = false := by kernel_rfl
theorem flatS {s:List Bool} (h:s.length = 6):FlatAgg Tryz.prog 128 (s.map Value.bool) := by
 obtain ⟨inf,g1,g2,_,_⟩ := info_of infBo
 exact .arr 6 4 inf und1182 g1 g2 (by rw [List.length_map,h]) fun v hv => by
  obtain ⟨b,_,rfl⟩ := List.mem_map.1 hv
  exact .inr (.inl ⟨undBo,b,rfl⟩)
theorem keyS6 {s:List Bool} (h:s.length = 6):FKey Tryz.prog 128 (encS s) := .inr ⟨s.map Value.bool,rfl,flatS h⟩
theorem six_of {s:List Bool} (h:s.length = 6):∃ s0 s1 s2 s3 s4 s5,s = [s0,s1,s2,s3,s4,s5] := by
 match s,h with
 | [a,b,c,d,e,f],_ => exact ⟨a,b,c,d,e,f,rfl⟩
theorem say_any {h:LH} (v w:Int):FW X0 Tryz.prog 95 #[.int .i64 v,.int .i64 w] h fun r h' => h = h' /\ ∃ z,r = .int .i64 z := by
 refine w3176 _ _ X0_ok ?_
 unfold n3176
 refine t_cond (fun _ => t_ret ⟨rfl,_,rfl⟩) (fun _ => ?_)
 exact t_cond (fun _ => t_ret ⟨rfl,_,rfl⟩) (fun _ => t_ret ⟨rfl,_,rfl⟩)
def manyT (L:List RvRun) (k:List Bool):Int := (L.countP fun x => decide (x.s = k):Nat)
theorem many_next (L:List RvRun) (x:RvRun):updK (manyT L) x.s (manyT L x.s + 1) = manyT (L ++ [x]) := by
 funext k
 unfold updK manyT
 rw [List.countP_append,List.countP_cons,List.countP_nil]
 by_cases e:k = x.s
 ·subst e; simp
 ·rw [if_neg e,if_neg (by simpa using fun hh:x.s = k => e hh.symm)]; simp
theorem many_none {L:List RvRun} {ks:List (List Bool)} (h:∀ x ∈ L,x.s ∈ ks) {k:List Bool} (hk:k ∉ ks):manyT L k = 0 := by
 unfold manyT
 rw [List.countP_eq_zero.2]
 ·rfl
 ·intro x hx e
  have e:x.s = k := by simpa using e
  exact hk (e ▸ h x hx)
theorem many_le {b:RvBook} (h5:b.cases.length <= 5) {L1 s:List RvRun} (h:allRuns b = L1 ++ s):L1.length <= 3125 := by
 have := all_len h5
 rw [h,List.length_append] at this
 omega
structure Went (h:LH) (m rw_ n:Nat) (L1:List RvRun) (h':LH):Prop where
 le:h.le h'
 map:∃ es c ks,h'.get m = some (true,.map es c) /\ MapK encS es c ks (manyT L1) /\ (∀ k ∈ ks,k.length = 6) /\ ∀ x ∈ L1,x.s ∈ ks
 won:∃ ws,h'.get rw_ = some (true,.cells (IntsV ws) 3 (0,0)) /\ ws.length = n
theorem went_put {h h1:LH} {m r n c1 c2:Nat} {es1 es2:Array MapEntry} {L1:List RvRun} {x:RvRun} {ks ks':List (List Bool)} (hm0:h.get m = none) (hmr:r ≠ m) (w:Went h m r n L1 h1) (hks:∀ y,y ∈ ks' ↔ y = x.s \/ y ∈ ks) (h6:∀ k ∈ ks,k.length = 6) (hx6:x.s.length = 6) (hin:∀ y ∈ L1,y.s ∈ ks) (M:MapK encS es2 c2 ks' (updK (manyT L1) x.s (manyT L1 x.s + 1))) :
  Went h m r n (L1 ++ [x]) { h1 with get := (h1.get.upd m (true,.map es1 c1)).upd m (true,.map es2 c2) } := by
 have l1 := le_updNew0 (x := (true,.map es1 c1)) w.le hm0
 have l2 := le_updNew0 (x := (true,.map es2 c2)) l1 hm0
 rw [many_next] at M
 refine ⟨l2,⟨es2,c2,ks',Cells.upd_self _ _ _,M,fun k hk => ?_,fun y hy => ?_⟩,?_⟩
 ·rcases (hks k).1 hk with rfl | hk
  ·exact hx6
  ·exact h6 k hk
 ·rcases List.mem_append.1 hy with hy | hy
  ·exact (hks _).2 (.inr (hin y hy))
  ·rw [List.mem_singleton] at hy
   subst hy
   exact (hks _).2 (.inl rfl)
 ·obtain ⟨ws,h2,h3⟩ := w.won
  refine ⟨ws,?_,h3⟩
  show ((h1.get.upd m _).upd m _) r = _
  rw [Cells.upd_ne _ _ hmr,Cells.upd_ne _ _ hmr]
  exact h2
def weigh (r:Nat) (e:MapEntry):Int := match e.key,e.val with
 | .agg cs,.int _ v => match cs[r]? with | some (.bool true) => v | _ => 0
 | _,_ => 0
theorem weigh_is {r:Nat} {e:MapEntry} {k:List Bool} {v:Int} (hk:e.key = encS k) (hv:e.val = .int .i64 v):weigh r e = if k.getD r false then v else 0 := by
 unfold weigh
 rw [hk,hv]
 have:(BoolsV k)[r]? = k[r]?.map Value.bool := by
  unfold BoolsV
  rw [List.getElem?_toArray,List.getElem?_map]
 show (match (BoolsV k)[r]? with | some (Value.bool true) => v | _ => 0) = _
 rw [this,List.getD_eq_getElem?_getD]
 cases k[r]? with
 | none => rfl
 | some b => cases b <;> rfl
theorem weigh_sum {r c:Nat} {es:Array MapEntry} {ks:List (List Bool)} {L:List RvRun} (M:MapK encS es c ks (manyT L)) (hin:∀ x ∈ L,x.s ∈ ks):(es.toList.map (weigh r)).sum = ((L.countP fun x => x.s.getD r false:Nat):Int) := by
 have h1:es.toList.map (weigh r) = ks.map fun k => if k.getD r false then manyT L k else 0 := by
  refine List.ext_getElem? fun i => ?_
  rw [List.getElem?_map,List.getElem?_map]
  cases he:es.toList[i]? with
  | none =>
   cases hk:ks[i]? with
   | none => rfl
   | some k => obtain ⟨e,h2,_⟩ := M.of hk; rw [he] at h2; cases h2
  | some e =>
   obtain ⟨k,h2,h3,h4⟩ := M.at he
   rw [h2]
   simp only [Option.map_some,weigh_is h3 h4]
 rw [h1]
 have h2 := count_sum (fun k:List Bool => k.getD r false) M.nodup (L := L.map (·.s)) fun x hx => by
  obtain ⟨y,hy,rfl⟩ := List.mem_map.1 hx
  exact hin y hy
 have h3:(L.map (·.s)).countP (fun k => k.getD r false) = L.countP fun x => x.s.getD r false := by rw [List.countP_map]; rfl
 rw [<- h3,<- h2]
 congr 1
 refine List.map_congr_left fun k _ => ?_
 have h4:manyT L k = ((@List.count _ instBEqOfDecidableEq k (L.map (·.s)):Nat):Int) := by
  unfold manyT List.count
  rw [List.countP_map]
  rfl
 rw [h4]
theorem set_same {s:List Bool} {r:Nat} (hr:r < s.length):s = s.set r true ↔ s.getD r false = true := by
 rw [List.getD_eq_getElem?_getD,List.getElem?_eq_getElem hr]
 constructor
 ·intro h
  have := congrArg (fun l => l[r]?) h
  simp only [List.getElem?_set_self hr,List.getElem?_eq_getElem hr,Option.some.injEq] at this
  simpa using this
 ·intro h
  have h:s[r] = true := by simpa using h
  rw [<- h,List.set_getElem_self]
set_option maxRecDepth 20000 in
theorem c3152 {h:LH} {f:BookC} {b:RvBook} (hr:BookR h.get f b) (o:BookShape b):Gr Tryz.prog 52 #[bookV f] h fun r h' => ∃ p n c q m k,r = .tuple #[.slice p n c,.slice q m k] /\ Sl IntE 1 h'.get p n (fatesT b) := by
 refine w3152 _ _ _ _ _ _ X0_ok ?_
 unfold n3152
 have hn0 := hr.rights.1
 have hn1 := hr.cases.1
 have h5 := o.cases
 have h6 := o.rights
 refine t_makeMap fun m hm0 => ?_
 refine gZ ?_
 have l1 := LH.upd_le (h := h) (x := (true,.map #[] 0)) hm0
 have e1:(h.get.upd m (true,.map #[] 0)) m = some (true,.map #[] 0) := Cells.upd_self _ _ _
 generalize hh1:({ h with get := h.get.upd m (true,.map #[] 0) }:LH) = h1 at *
 replace e1:h1.get m = some (true,.map #[] 0) := by rw [<- hh1]; exact e1
 refine t_makeSlice und50 inf3 rfl (by decide) (by omega) fun r cs hr1 hcs hz => ?_
 have hmr:r ≠ m := by rintro rfl; rw [e1] at hr1; cases hr1
 have hr0:h.get r = none := none_le l1 hr1
 have e2 := ints_of hcs hz
 subst e2
 have l2 := LH.upd_le (h := h1) (x := (true,.cells (IntsV (List.replicate f.n1 0)) 3 (0,0))) hr1
 have e3:(h1.get.upd r (true,.cells (IntsV (List.replicate f.n1 0)) 3 (0,0))) r = some (true,.cells (IntsV (List.replicate f.n1 0)) 3 (0,0)) := Cells.upd_self _ _ _
 generalize hh2:({ h1 with get := h1.get.upd r (true,.cells (IntsV (List.replicate f.n1 0)) 3 (0,0)) }:LH) = h2 at *
 replace e3:h2.get r = some (true,.cells (IntsV (List.replicate f.n1 0)) 3 (0,0)) := by rw [<- hh2]; exact e3
 have l02 := LH.le_trans l1 l2
 have w0:Went h m r f.n1 [] h2 := ⟨l02,⟨#[],0,[],l2.1 _ _ e1,MapK.nil,(by intro k hk; cases hk),(by intro x hx; cases hx)⟩,⟨_,e3,List.length_replicate⟩⟩
 refine gZ ?_
 refine t_call (FW.top (c3175 f)) ?_
 rintro _ _ ⟨rb,hrb,rfl,rfl⟩
 have hrb0:h.get rb = none := none_le l02 hrb
 refine t_eachF (fun s => s.length) next_less rfl (disj_oneC hrb) l02 (hands3196 hr o hrb0)
  (fun s vs h' => ∃ L1,allRuns b = L1 ++ s /\ vs = [.int .i64 (L1.length:Int)] /\ Went h m r f.n1 L1 h') ⟨[],rfl,rfl,w0⟩ ?_ ?_
 ·rintro s vs h3 rfl hle ⟨L1,hL,rfl,w⟩
  rw [List.append_nil] at hL
  subst hL
  obtain ⟨es,c0,ks,g1,M,hk6,hin⟩ := w.map
  have hal := all_len h5
  have hnn:∀ i,∀ e ∈ es.toList,0 <= weigh i e := fun i e he => by
   obtain ⟨k,_,h2,h3⟩ := M.mem he
   rw [weigh_is h2 h3]
   unfold manyT
   split <;> omega
  refine gZ ?_
  refine t_loop (fun mm vs h' => h3.le h' /\ ∃ (i:Nat) (p:Option Addr) (n c:Nat),vs = [.slice p n c,.int .i64 i] /\ i <= f.n0 /\ mm = f.n0 - i /\ Growing IntEnc 56 1 h3.get h'.get p n c ((fatesT b).take i))
   ⟨LH.le_refl _,0,none,0,0,rfl,Nat.zero_le _,rfl,Growing.nil⟩ ?_
  rintro Y mm vs h4 hY ⟨le4,i,p,n,c,rfl,hi,rfl,gr⟩
  have hng := gr.count IntEnc.len (by omega)
  rw [List.length_take] at hng
  refine gZ ?_
  refine t_if (fun e1 => ?_) (fun e1 => ?_)
  ·have hi6:i < 6 := by omega
   have hin6:0 <= (i:Int) /\ (i:Int) < ((6:Nat):Int) := by omega
   have htot := weigh_sum (r := i) M hin
   have hct := List.countP_le_length (p := fun x:RvRun => x.s.getD i false) (l := allRuns b)
   refine t_range und1208 (le4.1 _ _ g1) fun it hit => ?_
   have l5 := LH.upd_le (h := h4) (x := (true,.mapIter (some m) c0 #[] c0)) hit
   refine gZ ?_
   refine t_loop (fun mm vs h' => h4.le h' /\ ∃ seen,vs = [.int .i64 (sumSeen (weigh i) es seen)] /\ mm = unseen es seen /\ h'.get it = some (true,.mapIter (some m) c0 seen c0)) ⟨l5,#[],by rw [sum_none],rfl,Cells.upd_self _ _ _⟩ ?_
   rintro Y2 mm vs h5' hY2 ⟨le5,seen,rfl,rfl,e5⟩
   refine gZ ?_
   refine t_next e5 (le5.1 _ _ (le4.1 _ _ g1)) M.lt (fun hall => ?_) (fun e he hb => ?_)
   ·refine gZ ?_
    refine t_cond (fun e => by cases e) (fun _ => ?_)
    refine gZ ?_
    rw [sum_all hall,htot]
    refine t_pu (c3176 _ _) ?_
    refine gZ ?_
    refine t_pushS (h₀ := h3) (gr.le le5.1) (LH.le_trans le4 le5) (by omega) fun p' c' h6' le6 gr' => ?_
    have hf:(fatesT b)[i]? = some (fateT b i) := by
     unfold fatesT
     rw [List.getElem?_map,List.getElem?_range (by omega)]; rfl
    refine t_again (hY (f.n0 - (i + 1)) _ _ (by omega) ⟨le6,i + 1,p',n + 1,c',?_,by omega,rfl,?_⟩)
    ·rw [wrap_id (by omega) (by omega)]; rfl
    ·rw [List.take_add_one,hf]
     exact gr'
   ·obtain ⟨k,hk,hek,hev⟩ := M.mem he
    have hkl := hk6 k hk
    obtain ⟨k0,k1,k2,k3,k4,k5,hks⟩ := six_of hkl
    have l6 := le_updNew0 (x := (true,.mapIter (some m) c0 (seen.push e.born) c0)) le5 hit
    have e6:(h5'.get.upd it (true,.mapIter (some m) c0 (seen.push e.born) c0)) it = some (true,.mapIter (some m) c0 (seen.push e.born) c0) := Cells.upd_self _ _ _
    generalize hh6:({ h5' with get := h5'.get.upd it (true,.mapIter (some m) c0 (seen.push e.born) c0) }:LH) = h6' at *
    replace e6:h6'.get it = some (true,.mapIter (some m) c0 (seen.push e.born) c0) := by rw [<- hh6]; exact e6
    have hekv:e.key = .agg #[.bool k0,.bool k1,.bool k2,.bool k3,.bool k4,.bool k5] := by rw [hek,hks]; rfl
    refine gZ ?_
    refine t_cond (fun _ => ?_) (fun e => by cases e)
    refine gZ ?_
    refine t_entry (m := m) (c := c0) e6 (l6.1 _ _ (le4.1 _ _ g1)) he M.born ?_
    rw [hekv,hev]
    refine gZ ?_
    refine t_new fun r2 hr2 => ?_
    have l7 := LH.upd_le (h := h6') (x := (true,.cells #[.bool false,.bool false,.bool false,.bool false,.bool false,.bool false] 128 (0,0))) hr2
    have z0:(h6'.get.upd r2 (true,.cells #[.bool false,.bool false,.bool false,.bool false,.bool false,.bool false] 128 (0,0))) r2 = some (true,.cells #[.bool false,.bool false,.bool false,.bool false,.bool false,.bool false] 128 (0,0)) := Cells.upd_self _ _ _
    generalize hh7:({ h6' with get := h6'.get.upd r2 (true,.cells #[.bool false,.bool false,.bool false,.bool false,.bool false,.bool false] 128 (0,0)) }:LH) = h7' at *
    replace z0:h7'.get r2 = some (true,.cells #[.bool false,.bool false,.bool false,.bool false,.bool false,.bool false] 128 (0,0)) := by rw [<- hh7]; exact z0
    have hri:r2 ≠ it := by rintro rfl; rw [e6] at hr2; cases hr2
    refine t_storeC (j := 0) (by rw [add_plain]) z0 (by show 0 < 6; omega) rfl fun a1 t1 z1 => ?_
    refine t_storeC (j := 1) (by rw [add_plain]) z1 (by show 1 < 6; omega) rfl fun a2 t2 z2 => ?_
    refine t_storeC (j := 2) (by rw [add_plain]) z2 (by show 2 < 6; omega) rfl fun a3 t3 z3 => ?_
    refine t_storeC (j := 3) (by rw [add_plain]) z3 (by show 3 < 6; omega) rfl fun a4 t4 z4 => ?_
    refine t_storeC (j := 4) (by rw [add_plain]) z4 (by show 4 < 6; omega) rfl fun a5 t5 z5 => ?_
    refine t_storeC (j := 5) (by rw [add_plain]) z5 (by show 5 < 6; omega) rfl fun a6 t6 z6 => ?_
    have z6':a6.get r2 = some (true,.cells (BoolsV k) 128 (0,0)) := by rw [hks]; exact z6
    refine gZ ?_
    refine t_storeC (j := i) (by rw [add_plain,add_plain]; simp) z6' (by rw [boolsV_size]; omega) rfl fun a7 t7 z7 => ?_
    rw [boolsV_set] at z7
    obtain ⟨u0,u1,u2,u3,u4,u5,hus⟩ := six_of (s := k.set i true) (by rw [List.length_set]; exact hkl)
    have v0 := bools_cell (j := 0) (b := u0) z7 (by rw [hus]; rfl)
    have v1 := bools_cell (j := 1) (b := u1) z7 (by rw [hus]; rfl)
    have v2 := bools_cell (j := 2) (b := u2) z7 (by rw [hus]; rfl)
    have v3 := bools_cell (j := 3) (b := u3) z7 (by rw [hus]; rfl)
    have v4 := bools_cell (j := 4) (b := u4) z7 (by rw [hus]; rfl)
    have v5 := bools_cell (j := 5) (b := u5) z7 (by rw [hus]; rfl)
    have tt := t1.trans (t2.trans (t3.trans (t4.trans (t5.trans (t6.trans t7)))))
    have hr25:h4.get r2 = none := none_le l6 hr2
    have l8:h4.le a7 := tt.le (LH.le_trans l6 l7) hr25
    have e8:a7.get it = some (true,.mapIter (some m) c0 (seen.push e.born) c0) := by
     rw [tt.keep _ hri.symm,<- hh7]
     show h6'.get.upd r2 _ it = _
     rw [Cells.upd_ne _ _ hri.symm]
     exact e6
    refine gZ ?_
    have hstep := sum_step (W := weigh i) M.born he hb
    have hw := weigh_is (r := i) hek hev
    have hS := sum_filter (p := fun x => seen.toList.contains x.born) (hnn i)
    have hS2 := sum_filter (p := fun x => (seen.push e.born).toList.contains x.born) (hnn i)
    have hnext:∀ v,v = weigh i e -> Y2 [.int .i64 (sumSeen (weigh i) es seen + v)] a7 := fun v hv => by
     refine hY2 _ _ _ (unseen_less he hb) ⟨l8,seen.push e.born,?_,rfl,e8⟩
     rw [hstep,hv]
    have hset := set_same (s := k) (r := i) (by omega)
    refine t_eqK (ys := [.bool k0,.bool k1,.bool k2,.bool k3,.bool k4,.bool k5]) (bs := [.bool u0,.bool u1,.bool u2,.bool u3,.bool u4,.bool u5]) (flatS (s := [k0,k1,k2,k3,k4,k5]) rfl) (flatS (s := [u0,u1,u2,u3,u4,u5]) rfl) eg1182 fun cb hcb => ?_
    have hcb':cb = true ↔ k.getD i false = true := by
     rw [hcb,<- hset,hus,hks]
     simp
    refine gZ ?_
    refine t_cond (fun q => ?_) (fun q => ?_)
    ·have := hcb'.1 q
     rw [if_pos this] at hw
     have hsum := hS2.2
     unfold sumSeen at hstep
     rw [hstep,hw,htot] at hsum
     have hfw:IntKind.wrap .i64 (sumSeen (weigh i) es seen + manyT (allRuns b) k) = sumSeen (weigh i) es seen + manyT (allRuns b) k := by
      have h1 := hS.1
      unfold sumSeen
      refine wrap_id ?_ ?_
      ·unfold manyT; omega
      ·omega
     rw [hfw]
     exact t_again (hnext _ hw.symm)
    ·have hne:¬ k.getD i false = true := fun hh => by rw [hcb'.2 hh] at q; cases q
     rw [if_neg hne] at hw
     have := hnext 0 hw.symm
     rw [Int.add_zero] at this
     exact t_again this
  ·have hT:(fatesT b).take i = fatesT b := List.take_of_length_le (by unfold fatesT; rw [List.length_map,List.length_range]; omega)
   rw [hT] at gr
   have hfl:(fatesT b).length = b.rights.length := by unfold fatesT; rw [List.length_map,List.length_range]
   obtain ⟨ws,g2,hws⟩ := w.won
   refine gZ ?_
   refine t_loop (fun mm vs h' => h4.le h' /\ ∃ (j:Nat) (p:Option Addr) (n c:Nat) (l:List Int),vs = [.slice p n c,.int .i64 j] /\ j <= f.n1 /\ mm = f.n1 - j /\ l.length = j /\ Growing IntEnc 56 1 h4.get h'.get p n c l)
    ⟨LH.le_refl _,0,none,0,0,[],rfl,Nat.zero_le _,rfl,rfl,Growing.nil⟩ ?_
   rintro Y2 mm vs h5' hY2 ⟨le5,j,p2,n2,c2,l,rfl,hj,rfl,hl,gr2⟩
   have hng2 := gr2.count IntEnc.len (by omega)
   refine gZ ?_
   refine t_if (fun e2 => ?_) (fun e2 => ?_)
   ·have hlt:j < ws.length := by omega
    have hv := List.getElem?_eq_getElem hlt
    generalize ws[j] = wv at hv
    have hcell := ints_cell (le5.1 _ _ (le4.1 _ _ g2)) hv
    have hin2:0 <= (j:Int) /\ (j:Int) < (f.n1:Int) := by omega
    have hcell':h5'.get.cell? (Addr.add { block := r,off := 0 } (Int.toNat (j:Int) * 1)) = some (.int .i64 wv) := by rw [Int.toNat_natCast,Nat.mul_one]; exact hcell
    refine gZ ?_
    refine t_call (FW.top (say_any _ _)) ?_
    rintro _ _ ⟨rfl,z,rfl⟩
    refine gZ ?_
    refine t_pushS (h₀ := h4) gr2 le5 (by omega) fun p' c' h6' le6 gr' => ?_
    refine t_again (hY2 (f.n1 - (j + 1)) _ _ (by omega) ⟨le6,j + 1,p',n2 + 1,c',l ++ [z],?_,by omega,rfl,by simp [hl],gr'⟩)
    rw [wrap_id (by omega) (by omega)]; rfl
   ·refine gZ ?_
    exact t_ret ⟨LH.le_trans w.le (LH.le_trans le4 le5),p,n,c,p2,n2,c2,rfl,(gr.le le5.1).sl IntEnc.len (by omega) IntEnc.e (by omega)⟩
 ·rintro s xs s' vs h3 ⟨x,p,n,c,rfl,rfl⟩ hle ⟨L1,hL,rfl,w⟩ Y hY
  have hL5 := many_le h5 hL
  have hx6 := all_s b x (by rw [hL]; simp)
  obtain ⟨s0,s1,s2,s3,s4,s5,hs⟩ := six_of hx6
  rw [show runV p n c x.s x.won = .agg #[.slice p n c,.bool s0,.bool s1,.bool s2,.bool s3,.bool s4,.bool s5,.int .i64 (x.won:Int)] by rw [hs]; rfl]
  refine gZ ?_
  obtain ⟨es,c0,ks,g1,M,hk6,hin⟩ := w.map
  have hcnt:0 <= manyT L1 x.s /\ manyT L1 x.s <= 3125 := by
   unfold manyT
   have := List.countP_le_length (p := fun y:RvRun => decide (y.s = x.s)) (l := L1)
   omega
  have hke:(.agg #[.bool s0,.bool s1,.bool s2,.bool s3,.bool s4,.bool s5]:Value) = encS x.s := by rw [hs]; rfl
  have hkf:∀ y,y = x.s \/ y ∈ ks -> FKey Tryz.prog 128 (encS y) := fun y hy => keyS6 (by rcases hy with rfl | hy; exact hx6; exact hk6 y hy)
  have hw1:IntKind.wrap .i64 (manyT L1 x.s + 1) = manyT L1 x.s + 1 := wrap_id (by omega) (by omega)
  refine t_blk (fun vs h' => vs = [] /\ Went h m r f.n1 (L1 ++ [x]) h') ?_ ?_
  ·refine t_both ?_ ?_
   ·refine t_mapGet x.s hke encS_inj und1208 inf3 g1 M hkf (fun _ => ?_) (fun hno => ?_)
    all_goals simp only [Bool.false_eq_true,if_false]
    ·refine gZ ?_
     refine t_mapEntry x.s hke encS_inj und1208 inf3 g1 M hkf (fun hno => many_none hin hno) fun es' c' ks' j e M' hks' he hj => ?_
     refine gZ ?_
     rw [hw1]
     refine t_entryStore rfl ?_ M' he hj fun es2 M2 => ?_
     ·exact Cells.upd_self _ _ _
     exact t_again ⟨rfl,went_put hm0 hmr w hks' hk6 hx6 hin M2⟩
    ·have hz := many_none hin hno
     refine gZ ?_
     refine t_mapEntry x.s hke encS_inj und1208 inf3 g1 M hkf (fun hno => many_none hin hno) fun es' c' ks' j e M' hks' he hj => ?_
     refine gZ ?_
     rw [<- hz,hw1]
     refine t_entryStore rfl ?_ M' he hj fun es2 M2 => ?_
     ·exact Cells.upd_self _ _ _
     exact t_again ⟨rfl,went_put hm0 hmr w hks' hk6 hx6 hin M2⟩
   ·refine t_mapEntry x.s hke encS_inj und1208 inf3 g1 M hkf (fun hno => many_none hin hno) fun es' c' ks' j e M' hks' he hj => ?_
    refine gZ ?_
    refine t_mapGet x.s hke encS_inj und1208 inf3 (by exact Cells.upd_self _ _ _) M' (fun y hy => hkf y (by rcases hy with rfl | hy; exact .inl rfl; exact (hks' y).1 hy)) (fun _ => ?_) (fun hno => absurd ((hks' _).2 (.inl rfl)) hno)
    simp only [Bool.false_eq_true,if_false]
    refine gZ ?_
    rw [hw1]
    refine t_entryStore rfl ?_ M' he hj fun es2 M2 => ?_
    ·exact Cells.upd_self _ _ _
    exact t_again ⟨rfl,went_put hm0 hmr w hks' hk6 hx6 hin M2⟩
  rintro vs h4 ⟨rfl,w4⟩
  refine gZ ?_
  refine t_loop (fun mm vs h' => Went h m r f.n1 (L1 ++ [x]) h' /\ ∃ i:Nat,vs = [.int .i64 i] /\ i <= f.n1 /\ mm = f.n1 - i) ⟨w4,0,rfl,Nat.zero_le _,rfl⟩ ?_
  rintro Y2 mm vs h5' hY2 ⟨w5,i,rfl,hi,rfl⟩
  refine gZ ?_
  refine t_if (fun e1 => ?_) (fun e1 => ?_)
  ·obtain ⟨ws,g2,hws⟩ := w5.won
   have hlt:i < ws.length := by omega
   have hv := List.getElem?_eq_getElem hlt
   generalize ws[i] = wv at hv
   have hcell := ints_cell g2 hv
   have hin2:0 <= (i:Int) /\ (i:Int) < (f.n1:Int) := by omega
   have hcell':h5'.get.cell? (Addr.add { block := r,off := 0 } (Int.toNat (i:Int) * 1)) = some (.int .i64 wv) := by rw [Int.toNat_natCast,Nat.mul_one]; exact hcell
   refine gZ ?_
   refine t_storeC (j := i) (by rw [add_plain,add_plain]; simp) g2 (by rw [intsV_size]; omega) rfl fun h6' t6 e6 => ?_
   rw [intsV_set] at e6
   obtain ⟨es',c',ks',q1,q2⟩ := w5.map
   refine t_again (hY2 (f.n1 - (i + 1)) _ _ (by omega) ⟨⟨t6.le w5.le hr0,⟨es',c',ks',by rw [t6.keep _ hmr.symm]; exact q1,q2⟩,⟨_,e6,by rw [List.length_set]; exact hws⟩⟩,i + 1,?_,by omega,rfl⟩)
   rw [wrap_id (by omega) (by omega)]; rfl
  ·refine gZ ?_
   refine t_againE w5.le (hY _ _ w5.le ⟨L1 ++ [x],by rw [hL]; simp,?_,w5⟩)
   rw [wrap_id (by omega) (by omega),List.length_append]; rfl
end Go.Proofs.YtgljffachdhigaaGreatDoor
end
section
namespace Go.Proofs.YtgljffachdhigaaGreatDoor
open Go Go.TM Go.Proofs
attribute [local irreducible] T.wp CV FWK
theorem t_sliceHigh {P:Program} {X:XP} {Q:Leaf -> LH -> Prop} {h:LH} {K:Value -> T} {t el:TypeId} {s b:Nat} {z:Option Value} {p:Option Addr} {n c i:Nat} (hu:P.underlying t = some (.slice el)) (hi:(P.info? el).map (fun i => (i.size,i.bytes,i.zero)) = some (s,b,z)) (hin:i <= c)
  (hk:(K (.slice p i c)).wp X P Q h):(T.sem false (Instr.sliceAt t (.slice p n c) none (some (.int .i64 (i:Int))) none) K).wp X P Q h := by
 obtain ⟨inf,g1,g2,_,_⟩ := info_of hi
 refine t_sem (A := fun v h' => v = .slice p i c /\ h' = h.get) ?_ (by rintro v h' ⟨rfl,rfl⟩; exact hk)
 unfold Instr.sliceAt
 simp only [lwp_bind,lwp_underlying hu]
 unfold Instr.slice
 simp only [lwp_bind,lwp_underlying hu]
 unfold Instr.sliceBounds Instr.sliceBound
 simp only [lwp_bind,lwp_pure,asIntOf]
 rw [if_pos (show 0 <= (i:Int) /\ (i:Int) <= (c:Int) by omega)]
 simp only [lwp_pure,lwp_sizeOf g1,Int.toNat_natCast,g2,Nat.zero_mul,Nat.sub_zero]
 have e:(p.map fun x:Addr => x.add 0) = p := by cases p <;> simp [Addr.add]
 rw [e]
 simp
theorem slTake {α:Type} {E:Cells -> Addr -> α -> Prop} {k:Nat} {h:Cells} {p:Option Addr} {n:Nat} {l:List α} (s:Sl E k h p n l) {i:Nat} (hi:i <= n):Sl E k h p i (l.take i) := by
 have hn := s.1
 refine ⟨by rw [List.length_take]; omega,by rw [List.length_take]; have := s.2.1; omega,fun j x hx => ?_⟩
 rw [List.getElem?_take] at hx
 split at hx
 ·exact s.2.2 j x hx
 ·cases hx
end Go.Proofs.YtgljffachdhigaaGreatDoor
end
section
namespace Go.Proofs.YtgljffachdhigaaGreatDoor
open Go Go.TM Go.Proofs
set_option linter.unusedVariables false
set_option maxRecDepth 100000
variable {X:XP} {h:LH} {A:Value -> LH -> Prop}
noncomputable def n3115 (b_0p:Option Addr) (b_0n b_0c:Nat) (b_1p:Option Addr) (b_1n b_1c:Nat):T := .blk (bif decide ((↑b_0n:Int) > 40) then .leaf (.retn [.bool true]) else bif decide ((↑b_1n:Int) > 40) then .leaf (.retn [.bool true]) else .leaf (.again [.bool false])) (fun vs => .popB vs fun b vs => .unNil vs (.loop [.int .i64 0,.int .i64 0] (fun vs => .popI .i64 vs fun n vs => .popI .i64 vs fun n_1 vs => .unNil vs (bif decide (n_1 < (↑b_0n:Int)) then .need (0 <= n_1 /\ n_1 < (↑b_0n:Int)) (.someA b_0p fun a => .loadStr (a.add (n_1.toNat * 1)) fun s => .sem false (Builtin.len_ #[9] 3 #[.string s]) fun v => .unI .i64 v fun n_2 => .leaf (.again [.int .i64 (IntKind.wrap .i64 (n + n_2)),.int .i64 (IntKind.wrap .i64 (n_1 + 1))])) else .leaf (.brk [.int .i64 n,.int .i64 n_1]))) (fun vs => .popI .i64 vs fun n vs => .popI .i64 vs fun n_1 vs => .unNil vs (.loop [.bool b,.int .i64 n,.int .i64 0] (fun vs => .popB vs fun b vs => .popI .i64 vs fun n vs => .popI .i64 vs fun n_2 vs => .unNil vs (bif decide (n_2 < (↑b_1n:Int)) then .need (0 <= n_2 /\ n_2 < (↑b_1n:Int)) (.someA b_1p fun a => .loadStr ((a.add (n_2.toNat * 4)).add 0) fun s => .loadI .i64 ((a.add (n_2.toNat * 4)).add 1) fun n_3 => .loadS ((a.add (n_2.toNat * 4)).add 2) fun p n_4 c => .loadS ((a.add (n_2.toNat * 4)).add 3) fun p_1 n_5 c => .blk (bif decide ((↑n_4:Int) > 40) then .leaf (.retn [.bool true]) else bif decide ((↑n_5:Int) > 40) then .leaf (.retn [.bool true]) else .leaf (.again [.bool b])) (fun vs => .popB vs fun b vs => .unNil vs (.loop [.bool b,.int .i64 0] (fun vs => .popB vs fun b vs => .popI .i64 vs fun n vs => .unNil vs (bif decide (n < (↑n_4:Int)) then .need (0 <= n /\ n < (↑n_4:Int)) (.someA p fun a => .loadS (a.add (n.toNat * 1)) fun p n_6 c => bif decide ((↑n_6:Int) > 40) then .leaf (.retn [.bool true,.int .i64 n]) else .leaf (.again [.bool b,.int .i64 (IntKind.wrap .i64 (n + 1))])) else .leaf (.brk [.bool b,.int .i64 n]))) (fun vs => .popB vs fun b vs => .popI .i64 vs fun n_6 vs => .unNil vs (.sem false (Builtin.len_ #[9] 3 #[.string s]) fun v => .unI .i64 v fun n_7 => .leaf (.again [.bool b,.int .i64 (IntKind.wrap .i64 (n + n_7)),.int .i64 (IntKind.wrap .i64 (n_2 + 1))]))) (fun vs => .popB vs fun b vs => .popI .i64 vs fun n_6 vs => .unNil vs (.leaf (.retn [.bool b,.int .i64 n,.int .i64 n_2]))) fun x x_1 => .fail)) (fun vs => .popB vs fun b vs => .unNil vs (.leaf (.retn [.bool b,.int .i64 n,.int .i64 n_2]))) fun x x_1 => .fail) else .leaf (.brk [.bool b,.int .i64 n,.int .i64 n_2]))) (fun vs => .popB vs fun b vs => .popI .i64 vs fun n vs => .popI .i64 vs fun n_2 vs => .unNil vs (.leaf (.ret (.bool (decide (n > 1000)))))) (fun vs => .popB vs fun b vs => .popI .i64 vs fun n vs => .popI .i64 vs fun n vs => .unNil vs (.leaf (.ret (.bool b)))) fun x x_1 => .fail)) (fun vs => .popI .i64 vs fun n vs => .popI .i64 vs fun n vs => .unNil vs (.leaf (.ret (.bool b)))) fun x x_1 => .fail)) (fun vs => .popB vs fun b vs => .unNil vs (.leaf (.ret (.bool b)))) fun x x_1 => .fail
theorem w3115 (b_0p:Option Addr) (b_0n b_0c:Nat) (b_1p:Option Addr) (b_1n b_1c:Nat) (hX:XOK X) (hw:(n3115 b_0p b_0n b_0c b_1p b_1n b_1c).wp X Tryz.prog (retQ A) h):FWK X Tryz.prog .normal 6 #[.agg #[.slice b_0p b_0n b_0c,.slice b_1p b_1n b_1c]] h A := fwk_neat (priv := [1,6]) (loops := [{ id := 0,slots := [(3,.int .i64),(4,.int .i64)],ro := [1],outs := [] },{ id := 4,slots := [(2,.bool),(7,.int .i64)],ro := [1,6],outs := [] },{ id := 2,slots := [(2,.bool),(3,.int .i64),(5,.int .i64)],ro := [1],outs := [] }]) (joins := [{ id := 14,slots := [(2,.bool)],ro := [1,6],outs := [] },{ id := 3,slots := [(2,.bool)],ro := [1],outs := [] }]) (fd := Tryz.f6) (by kernel_rfl) (by simp) (by kernel_rfl) (by kernel_rfl) hX hw
noncomputable def n3116 (b_0p:Option Addr) (b_0n b_0c:Nat) (b_1p:Option Addr) (b_1n b_1c:Nat):T := bif decide ((↑b_0n:Int) > 6) then .leaf (.ret (.int .i64 2)) else .loop [.int .i64 0,.int .i64 0] (fun vs => .popI .i64 vs fun n vs => .popI .i64 vs fun n_1 vs => .unNil vs (bif decide (n_1 < (↑b_0n:Int)) then .need (0 <= n_1 /\ n_1 < (↑b_0n:Int)) (.someA b_0p fun a => .loadStr (a.add (n_1.toNat * 1)) fun s => .call false 28 #[.string s] fun v => .unB v fun b => bif !b then .leaf (.retn [.int .i64 4,.int .i64 n_1]) else .need (0 <= n_1 /\ n_1 < (↑b_0n:Int)) (.someA b_0p fun a => .loadStr (a.add (n_1.toNat * 1)) fun s => .sem false (Instr.sliceAt 33 (.slice b_0p b_0n b_0c) none (some (.int .i64 n_1)) none) fun w => .unS w fun a_1 n_2 c => .loadStr (a.add (n_1.toNat * 1)) fun s_1 => .need (AV.val (.string s_1) = AV.val (.string s)) (.need (0 <= n_1 /\ n_1 < (↑b_0n:Int)) (.someA b_0p fun a_2 => .need (AV.val (.pointer (some (a_2.add (n_1.toNat * 1)))) = AV.val (.pointer (some (a.add (n_1.toNat * 1))))) (.nd (.int .i64 n_1) (.nd (.slice b_0p b_0n b_0c) (.need (AV.pp 1 0 = AV.pp 1 0) (.need (AV.pp 1 0 = AV.pp 1 0) (.call false 29 #[.slice a_1 n_2 c,.string s] fun v => .unI .i64 v fun n_3 => .need (0 <= n_1 /\ n_1 < (↑b_0n:Int)) (.someA b_0p fun a_3 => .need (AV.val (.pointer (some (a_3.add (n_1.toNat * 1)))) = AV.val (.pointer (some (a.add (n_1.toNat * 1))))) (.nd (.int .i64 n_1) (.nd (.slice b_0p b_0n b_0c) (.need (AV.pp 1 0 = AV.pp 1 0) (.need (AV.pp 1 0 = AV.pp 1 0) (bif decide (n_3 >= 0) then .leaf (.retn [.int .i64 5,.int .i64 n_1]) else .leaf (.again [.int .i64 n,.int .i64 (IntKind.wrap .i64 (n_1 + 1))])))))))))))))))) else .leaf (.brk [.int .i64 n,.int .i64 n_1]))) (fun vs => .popI .i64 vs fun n vs => .popI .i64 vs fun n_1 vs => .unNil vs (bif decide ((↑b_1n:Int) > 5) then .leaf (.ret (.int .i64 2)) else .loop [.int .i64 n,.int .i64 0] (fun vs => .popI .i64 vs fun n vs => .popI .i64 vs fun n_2 vs => .unNil vs (bif decide (n_2 < (↑b_1n:Int)) then .call false 30 #[.agg #[.slice b_0p b_0n b_0c,.slice b_1p b_1n b_1c],.int .i64 n_2] fun v => .unI .i64 v fun n_3 => bif n_3 != 0 then .leaf (.retn [.int .i64 n_3,.int .i64 n_2]) else .leaf (.again [.int .i64 n,.int .i64 (IntKind.wrap .i64 (n_2 + 1))]) else .leaf (.brk [.int .i64 n,.int .i64 n_2]))) (fun vs => .popI .i64 vs fun n vs => .popI .i64 vs fun n vs => .unNil vs (.call false 31 #[.agg #[.slice b_0p b_0n b_0c,.slice b_1p b_1n b_1c]] fun v => .unB v fun b => bif b then .leaf (.ret (.int .i64 8)) else .leaf (.ret (.int .i64 0)))) (fun vs => .popI .i64 vs fun n vs => .popI .i64 vs fun n_2 vs => .unNil vs (.leaf (.ret (.int .i64 n)))) fun x x_1 => .fail)) (fun vs => .popI .i64 vs fun n vs => .popI .i64 vs fun n_1 vs => .unNil vs (.leaf (.ret (.int .i64 n)))) fun x x_1 => .fail
theorem w3116 (b_0p:Option Addr) (b_0n b_0c:Nat) (b_1p:Option Addr) (b_1n b_1c:Nat) (hX:XOK X) (hw:(n3116 b_0p b_0n b_0c b_1p b_1n b_1c).wp X Tryz.prog (retQ A) h):FWK X Tryz.prog .normal 7 #[.agg #[.slice b_0p b_0n b_0c,.slice b_1p b_1n b_1c]] h A := fwk_neat (priv := [1]) (loops := [{ id := 0,slots := [(2,.int .i64),(3,.int .i64)],ro := [1],outs := [] },{ id := 2,slots := [(2,.int .i64),(4,.int .i64)],ro := [1],outs := [] }]) (joins := []) (fd := Tryz.f7) (by kernel_rfl) (by simp) (by kernel_rfl) (by kernel_rfl) hX hw
noncomputable def n3142 (b_0p:Option Addr) (b_0n b_0c:Nat) (b_1p:Option Addr) (b_1n b_1c:Nat) (i:Int):T := .need (0 <= i /\ i < (↑b_1n:Int)) (.someA b_1p fun a => .loadStr ((a.add (i.toNat * 4)).add 0) fun s => .loadI .i64 ((a.add (i.toNat * 4)).add 1) fun n => .loadS ((a.add (i.toNat * 4)).add 2) fun p n_1 c => .loadS ((a.add (i.toNat * 4)).add 3) fun p_1 n_2 c_1 => .call false 28 #[.string s] fun v => .unB v fun b => bif !b then .leaf (.ret (.int .i64 4)) else .loop [.int .i64 0,.int .i64 0] (fun vs => .popI .i64 vs fun n vs => .popI .i64 vs fun n_3 vs => .unNil vs (bif decide (n_3 < i) then .need (0 <= n_3 /\ n_3 < (↑b_1n:Int)) (.someA b_1p fun a => .loadStr ((a.add (n_3.toNat * 4)).add 0) fun s_1 => .sem false (Sem.bind (eqGuard BinOp.eql 9 (Operand.tmp 28) (Operand.tmp 30) (.string s_1) (.string s)) fun __r => binOp BinOp.eql 9 (.string s_1) (.string s)) fun v => .unB v fun b => .need (AV.pp 5 0 = AV.pp 5 0) (.nd (.pointer (some ((a.add (n_3.toNat * 4)).add 0))) (.need (0 <= n_3 /\ n_3 < (↑b_1n:Int)) (.someA b_1p fun a_1 => .need (AV.val (.pointer (some (a_1.add (n_3.toNat * 4)))) = AV.val (.pointer (some (a.add (n_3.toNat * 4))))) (.nd (.int .i64 n_3) (.nd (.slice b_1p b_1n b_1c) (.need (AV.pp 2 1 = AV.pp 2 1) (bif b then .leaf (.retn [.int .i64 5,.int .i64 n_3]) else .leaf (.again [.int .i64 n,.int .i64 (IntKind.wrap .i64 (n_3 + 1))]))))))))) else .leaf (.brk [.int .i64 n,.int .i64 n_3]))) (fun vs => .popI .i64 vs fun n_3 vs => .popI .i64 vs fun n_4 vs => .unNil vs (.call false 55 #[.int .i64 n,.int .i64 0,.int .i64 (IntKind.wrap .i64 ((↑b_0n:Int) - 1))] fun v => .unB v fun b => bif !b then .leaf (.ret (.int .i64 6)) else bif decide ((↑n_1:Int) > 3) then .leaf (.ret (.int .i64 2)) else .loop [.int .i64 n_3,.int .i64 0] (fun vs => .popI .i64 vs fun n vs => .popI .i64 vs fun n_5 vs => .unNil vs (bif decide (n_5 < (↑n_1:Int)) then .need (0 <= n_5 /\ n_5 < (↑n_1:Int)) (.someA p fun a => .loadS (a.add (n_5.toNat * 1)) fun p_2 n_6 c_2 => bif decide ((↑n_6:Int) > 3) then .leaf (.retn [.int .i64 2,.int .i64 n_5]) else .need (0 <= n_5 /\ n_5 < (↑n_1:Int)) (.someA p fun a => .loadS (a.add (n_5.toNat * 1)) fun p_3 n_7 c_3 => .call false 76 #[.slice p_3 n_7 c_3,.int .i64 (↑b_0n:Int)] fun v => .unI .i64 v fun n_8 => .nd (.slice b_0p b_0n b_0c) (.need (AV.pp 2 0 = AV.pp 2 0) (.need (0 <= n_5 /\ n_5 < (↑n_1:Int)) (.someA p fun a_1 => .need (AV.val (.pointer (some (a_1.add (n_5.toNat * 1)))) = AV.val (.pointer (some (a.add (n_5.toNat * 1))))) (.nd (.int .i64 n_5) (.nd (.slice p n_1 c) (.need (AV.pp 5 2 = AV.pp 5 2) (bif n_8 != 0 then .leaf (.retn [.int .i64 n_8,.int .i64 n_5]) else .leaf (.again [.int .i64 n,.int .i64 (IntKind.wrap .i64 (n_5 + 1))])))))))))) else .leaf (.brk [.int .i64 n,.int .i64 n_5]))) (fun vs => .popI .i64 vs fun n vs => .popI .i64 vs fun n vs => .unNil vs (.call false 76 #[.slice p_1 n_2 c_1,.int .i64 (↑b_1n:Int)] fun v => .unI .i64 v fun n => .leaf (.ret (.int .i64 n)))) (fun vs => .popI .i64 vs fun n vs => .popI .i64 vs fun n_5 vs => .unNil vs (.leaf (.ret (.int .i64 n)))) fun x x_1 => .fail)) (fun vs => .popI .i64 vs fun n vs => .popI .i64 vs fun n_3 vs => .unNil vs (.leaf (.ret (.int .i64 n)))) fun x x_1 => .fail)
theorem w3142 (b_0p:Option Addr) (b_0n b_0c:Nat) (b_1p:Option Addr) (b_1n b_1c:Nat) (i:Int) (hX:XOK X) (hw:(n3142 b_0p b_0n b_0c b_1p b_1n b_1c i).wp X Tryz.prog (retQ A) h):FWK X Tryz.prog .normal 30 #[.agg #[.slice b_0p b_0n b_0c,.slice b_1p b_1n b_1c],.int .i64 i] h A := fwk_neat (priv := [2,5]) (loops := [{ id := 0,slots := [(4,.int .i64),(6,.int .i64)],ro := [2,5],outs := [] },{ id := 2,slots := [(4,.int .i64),(7,.int .i64)],ro := [2,5],outs := [] }]) (joins := []) (fd := Tryz.f30) (by kernel_rfl) (by simp) (by kernel_rfl) (by kernel_rfl) hX hw
noncomputable def n3143 (b_0p:Option Addr) (b_0n b_0c:Nat) (b_1p:Option Addr) (b_1n b_1c:Nat):T := .loop [.bool false,.int .i64 0] (fun vs => .popB vs fun b vs => .popI .i64 vs fun n vs => .unNil vs (bif decide (n < (↑b_1n:Int)) then .call false 77 #[.agg #[.slice b_0p b_0n b_0c,.slice b_1p b_1n b_1c],.int .i64 n,.int .i64 n,.int .i64 (↑b_1n:Int)] fun v => .unB v fun b_1 => bif b_1 then .leaf (.retn [.bool true,.int .i64 n]) else .leaf (.again [.bool b,.int .i64 (IntKind.wrap .i64 (n + 1))]) else .leaf (.brk [.bool b,.int .i64 n]))) (fun vs => .popB vs fun b vs => .popI .i64 vs fun n vs => .unNil vs (.leaf (.ret (.bool false)))) (fun vs => .popB vs fun b vs => .popI .i64 vs fun n vs => .unNil vs (.leaf (.ret (.bool b)))) fun x x_1 => .fail
theorem w3143 (b_0p:Option Addr) (b_0n b_0c:Nat) (b_1p:Option Addr) (b_1n b_1c:Nat) (hX:XOK X) (hw:(n3143 b_0p b_0n b_0c b_1p b_1n b_1c).wp X Tryz.prog (retQ A) h):FWK X Tryz.prog .normal 31 #[.agg #[.slice b_0p b_0n b_0c,.slice b_1p b_1n b_1c]] h A := fwk_neat (priv := [1]) (loops := [{ id := 0,slots := [(2,.bool),(3,.int .i64)],ro := [1],outs := [] }]) (joins := []) (fd := Tryz.f31) (by kernel_rfl) (by simp) (by kernel_rfl) (by kernel_rfl) hX hw
noncomputable def n3169 (lp:Option Addr) (ln lc:Nat) (below:Int):T := .loop [.int .i64 0,.int .i64 0] (fun vs => .popI .i64 vs fun n vs => .popI .i64 vs fun n_1 vs => .unNil vs (bif decide (n_1 < (↑ln:Int)) then .need (0 <= n_1 /\ n_1 < (↑ln:Int)) (.someA lp fun a => .loadI .i64 (a.add (n_1.toNat * 1)) fun n_2 => .call false 55 #[.int .i64 n_2,.int .i64 0,.int .i64 (IntKind.wrap .i64 (below - 1))] fun v => .unB v fun b => bif !b then .leaf (.retn [.int .i64 6,.int .i64 n_1]) else bif decide (n_1 > 0) then .need (0 <= n_1 /\ n_1 < (↑ln:Int)) (.someA lp fun a => .loadI .i64 (a.add (n_1.toNat * 1)) fun n_3 => .need (0 <= IntKind.wrap .i64 (n_1 - 1) /\ IntKind.wrap .i64 (n_1 - 1) < (↑ln:Int)) (.someA lp fun a => .loadI .i64 (a.add ((IntKind.wrap .i64 (n_1 - 1)).toNat * 1)) fun n_4 => bif decide (n_3 <= n_4) then .leaf (.retn [.int .i64 7,.int .i64 n_1]) else .leaf (.again [.int .i64 n,.int .i64 (IntKind.wrap .i64 (n_1 + 1))]))) else .nd (.tuple #[]) (.nd (.tuple #[]) (.nd (.tuple #[]) (.nd (.tuple #[]) (.nd (.tuple #[]) (.nd (.bool (decide (n_1 > 0))) (.nd (.int .i64 n_1) (.nd (.tuple #[]) (.nd (.tuple #[]) (.nd (.tuple #[]) (.nd (.tuple #[]) (.nd (.tuple #[]) (.nd (.bool (decide (n_1 > 0))) (.nd (.int .i64 n_1) (.leaf (.again [.int .i64 n,.int .i64 (IntKind.wrap .i64 (n_1 + 1))])))))))))))))))) else .leaf (.brk [.int .i64 n,.int .i64 n_1]))) (fun vs => .popI .i64 vs fun n vs => .popI .i64 vs fun n vs => .unNil vs (.leaf (.ret (.int .i64 0)))) (fun vs => .popI .i64 vs fun n vs => .popI .i64 vs fun n_1 vs => .unNil vs (.leaf (.ret (.int .i64 n)))) fun x x_1 => .fail
theorem w3169 (lp:Option Addr) (ln lc:Nat) (below:Int) (hX:XOK X) (hw:(n3169 lp ln lc below).wp X Tryz.prog (retQ A) h):FWK X Tryz.prog .normal 76 #[.slice lp ln lc,.int .i64 below] h A := fwk_neat (priv := []) (loops := [{ id := 0,slots := [(4,.int .i64),(5,.int .i64)],ro := [],outs := [] }]) (joins := []) (fd := Tryz.f76) (by kernel_rfl) (by simp) (by kernel_rfl) (by kernel_rfl) hX hw
noncomputable def n3170 (b_0p:Option Addr) (b_0n b_0c:Nat) (b_1p:Option Addr) (b_1n b_1c:Nat) (one two steps:Int):T := .loop [.bool false,.int .i64 0] (fun vs => .popB vs fun b vs => .popI .i64 vs fun n vs => .unNil vs (.blk (.need (0 <= one /\ one < (↑b_1n:Int)) (.someA b_1p fun a => .loadS ((a.add (one.toNat * 4)).add 3) fun p n_1 c => bif decide (n < (↑n_1:Int)) then bif decide (steps > 0) then .leaf (.again []) else .leaf (.out 0 []) else .leaf (.out 0 []))) (fun vs => .unNil vs (.need (0 <= one /\ one < (↑b_1n:Int)) (.someA b_1p fun a => .loadS ((a.add (one.toNat * 4)).add 3) fun p n_1 c => .need (0 <= n /\ n < (↑n_1:Int)) (.someA p fun a => .loadI .i64 (a.add (n.toNat * 1)) fun n_2 => bif n_2 == two then .leaf (.retn [.bool true,.int .i64 n]) else .call false 77 #[.agg #[.slice b_0p b_0n b_0c,.slice b_1p b_1n b_1c],.int .i64 n_2,.int .i64 two,.int .i64 (IntKind.wrap .i64 (steps - 1))] fun v => .unB v fun b_1 => bif b_1 then .leaf (.retn [.bool true,.int .i64 n]) else .leaf (.again [.bool b,.int .i64 (IntKind.wrap .i64 (n + 1))]))))) (fun vs => .unNil vs (.leaf (.retn [.bool b,.int .i64 n]))) fun x x_1 => bif Nat.beq x 0 then .unNil x_1 (.leaf (.brk [.bool b,.int .i64 n])) else .fail)) (fun vs => .popB vs fun b vs => .popI .i64 vs fun n vs => .unNil vs (.leaf (.ret (.bool false)))) (fun vs => .popB vs fun b vs => .popI .i64 vs fun n vs => .unNil vs (.leaf (.ret (.bool b)))) fun x x_1 => .fail
theorem w3170 (b_0p:Option Addr) (b_0n b_0c:Nat) (b_1p:Option Addr) (b_1n b_1c:Nat) (one two steps:Int) (hX:XOK X) (hw:(n3170 b_0p b_0n b_0c b_1p b_1n b_1c one two steps).wp X Tryz.prog (retQ A) h):FWK X Tryz.prog .normal 77 #[.agg #[.slice b_0p b_0n b_0c,.slice b_1p b_1n b_1c],.int .i64 one,.int .i64 two,.int .i64 steps] h A := fwk_neat (priv := [4]) (loops := [{ id := 0,slots := [(8,.bool),(9,.int .i64)],ro := [4],outs := [] }]) (joins := [{ id := 4,slots := [],ro := [4],outs := [0] }]) (fd := Tryz.f77) (by kernel_rfl) (by simp) (by kernel_rfl) (by kernel_rfl) hX hw
end Go.Proofs.YtgljffachdhigaaGreatDoor
end

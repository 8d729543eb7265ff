/- A case that rests on a right is left out if the item with its index (in turn) is not always left: as long as none of the cases is left out on which another right's fate hangs, that right's fate is as it was; one more paper never leaves out more. The tied card; no further condition. -/
import Derived.Test.YtgljffachdhigaaGreatDoorM5
set_option linter.all false
section
namespace Go.Proofs.YtgljffachdhigaaGreatDoor
open Go Go.TM Go.Proofs
set_option linter.unusedVariables false
set_option maxRecDepth 100000
variable {X:XP} {h:LH} {A:Value -> LH -> Prop}
noncomputable def n3117 (u_0 u_1 u_2 u_3:Int) (u_4p:Option Addr) (u_4n u_4c:Nat) (u_5p:Option Addr) (u_5n u_5c:Nat) (u_6p:Option Addr) (u_6n u_6c:Nat) (land day:Int) (b_0p:Option Addr) (b_0n b_0c:Nat) (b_1p:Option Addr) (b_1n b_1c:Nat):T := .call false 36 #[.agg #[.int .i64 u_0,.int .i64 u_1,.int .i64 u_2,.int .i64 u_3,.slice u_4p u_4n u_4c,.slice u_5p u_5n u_5c,.slice u_6p u_6n u_6c],.int .i64 land,.int .i64 day] fun v => .unTup v fun l => .unCons l fun v vs => .unS v fun a n c => .unCons vs fun v vs => .unI .i64 v fun n_1 => .unNil vs (.blk (bif n_1 != 0 then .leaf (.retn [.slice none 0 0,.bool false]) else bif (↑n:Int) != u_0 then .leaf (.retn [.slice none 0 0,.bool false]) else .leaf (.again [.slice none 0 0,.bool false])) (fun vs => .popS vs fun a_1 n_2 c vs => .popB vs fun b vs => .unNil vs (.loop [.slice none 0 0,.int .i64 0] (fun vs => .popS vs fun a_2 n_3 c vs => .popI .i64 vs fun n_4 vs => .unNil vs (bif decide (n_4 < (↑b_1n:Int)) then .need ((↑n:Int) ≠ 0) (.need (0 <= Int.tmod n_4 (↑n:Int) /\ Int.tmod n_4 (↑n:Int) < (↑n:Int)) (.someA a fun a => .loadI .i64 (a.add ((Int.tmod n_4 (↑n:Int)).toNat * 1)) fun n => bif n != 1 then .sem false (Instr.buildSlice 30 1 #[(0,.int .i64 n_4)]) fun v => .unS v fun a n c_1 => .sem false (Builtin.append_ #[30,30] 30 #[.slice a_2 n_3 c,.slice a n c_1]) fun v => .unS v fun a n c => .leaf (.again [.slice a n c,.int .i64 (IntKind.wrap .i64 (n_4 + 1))]) else .leaf (.again [.slice a_2 n_3 c,.int .i64 (IntKind.wrap .i64 (n_4 + 1))]))) else .leaf (.brk [.slice a_2 n_3 c,.int .i64 n_4]))) (fun vs => .popS vs fun a n c vs => .popI .i64 vs fun n_3 vs => .unNil vs (.leaf (.ret (.tuple #[.slice a n c,.bool true])))) (fun vs => .popS vs fun a n c_1 vs => .popI .i64 vs fun n vs => .unNil vs (.leaf (.ret (.tuple #[.slice a_1 n_2 c,.bool b])))) fun x x_1 => .fail)) (fun vs => .popS vs fun a n c vs => .popB vs fun b vs => .unNil vs (.leaf (.ret (.tuple #[.slice a n c,.bool b])))) fun x x_1 => .fail)
theorem w3117 (u_0 u_1 u_2 u_3:Int) (u_4p:Option Addr) (u_4n u_4c:Nat) (u_5p:Option Addr) (u_5n u_5c:Nat) (u_6p:Option Addr) (u_6n u_6c:Nat) (land day:Int) (b_0p:Option Addr) (b_0n b_0c:Nat) (b_1p:Option Addr) (b_1n b_1c:Nat) (hX:XOK X) (hw:(n3117 u_0 u_1 u_2 u_3 u_4p u_4n u_4c u_5p u_5n u_5c u_6p u_6n u_6c land day b_0p b_0n b_0c b_1p b_1n b_1c).wp X Tryz.prog (retQ A) h):FWK X Tryz.prog .normal 10 #[.agg #[.int .i64 u_0,.int .i64 u_1,.int .i64 u_2,.int .i64 u_3,.slice u_4p u_4n u_4c,.slice u_5p u_5n u_5c,.slice u_6p u_6n u_6c],.int .i64 land,.int .i64 day,.agg #[.slice b_0p b_0n b_0c,.slice b_1p b_1n b_1c]] h A := fwk_neat (priv := [4,7]) (loops := [{ id := 0,slots := [(12,.slice),(13,.int .i64)],ro := [4,7],outs := [] }]) (joins := [{ id := 4,slots := [(8,.slice),(9,.bool)],ro := [4,7],outs := [] }]) (fd := Tryz.f10) (by kernel_rfl) (by simp) (by kernel_rfl) (by kernel_rfl) hX hw
noncomputable def n3141 (lp:Option Addr) (ln lc:Nat) (s:ByteArray):T := .loop [.int .i64 0,.int .i64 0] (fun vs => .popI .i64 vs fun n vs => .popI .i64 vs fun n_1 vs => .unNil vs (bif decide (n_1 < (↑ln:Int)) then .need (0 <= n_1 /\ n_1 < (↑ln:Int)) (.someA lp fun a => .loadStr (a.add (n_1.toNat * 1)) fun s_1 => .sem false (Sem.bind (eqGuard BinOp.eql 9 (Operand.tmp 15) (Operand.tmp 16) (.string s_1) (.string s)) fun __r => binOp BinOp.eql 9 (.string s_1) (.string s)) fun v => .unB v fun b => bif b then .leaf (.retn [.int .i64 n_1,.int .i64 n_1]) else .leaf (.again [.int .i64 n,.int .i64 (IntKind.wrap .i64 (n_1 + 1))])) else .leaf (.brk [.int .i64 n,.int .i64 n_1]))) (fun vs => .popI .i64 vs fun n vs => .popI .i64 vs fun n vs => .unNil vs (.leaf (.ret (.int .i64 (-1))))) (fun vs => .popI .i64 vs fun n vs => .popI .i64 vs fun n_1 vs => .unNil vs (.leaf (.ret (.int .i64 n)))) fun x x_1 => .fail
theorem w3141 (lp:Option Addr) (ln lc:Nat) (s:ByteArray) (hX:XOK X) (hw:(n3141 lp ln lc s).wp X Tryz.prog (retQ A) h):FWK X Tryz.prog .normal 29 #[.slice lp ln lc,.string s] h A := fwk_neat (priv := []) (loops := [{ id := 0,slots := [(4,.int .i64),(5,.int .i64)],ro := [],outs := [] }]) (joins := []) (fd := Tryz.f29) (by kernel_rfl) (by simp) (by kernel_rfl) (by kernel_rfl) hX hw
noncomputable def n3144 (b_0p:Option Addr) (b_0n b_0c:Nat) (b_1p:Option Addr) (b_1n b_1c:Nat) (right:Int):T := .call false 51 #[.agg #[.slice b_0p b_0n b_0c,.slice b_1p b_1n b_1c]] fun v => .unI .i64 v fun n => bif n != 0 then .leaf (.ret (.tuple #[.agg #[.slice none 0 0,.slice none 0 0],.int .i64 n])) else .call false 67 #[.int .i64 right,.int .i64 0,.int .i64 (IntKind.wrap .i64 ((↑b_0n:Int) - 1))] fun v => .unB v fun b => bif !b then .leaf (.ret (.tuple #[.agg #[.slice none 0 0,.slice none 0 0],.int .i64 6])) else .leaf (.ret (.tuple #[.agg #[.slice b_0p b_0n b_0c,.slice b_1p b_1n b_1c],.int .i64 0]))
theorem w3144 (b_0p:Option Addr) (b_0n b_0c:Nat) (b_1p:Option Addr) (b_1n b_1c:Nat) (right:Int) (hX:XOK X) (hw:(n3144 b_0p b_0n b_0c b_1p b_1n b_1c right).wp X Tryz.prog (retQ A) h):FWK X Tryz.prog .normal 44 #[.agg #[.slice b_0p b_0n b_0c,.slice b_1p b_1n b_1c],.int .i64 right] h A := fwk_neat (priv := [2,4]) (loops := []) (joins := []) (fd := Tryz.f44) (by kernel_rfl) (by simp) (by kernel_rfl) (by kernel_rfl) hX hw
noncomputable def n3145 (b_0p:Option Addr) (b_0n b_0c:Nat) (b_1p:Option Addr) (b_1n b_1c:Nat) (out:Int):T := .sem false (Instr.makeSlice 30 (.int .i64 (↑b_1n:Int)) (.int .i64 (↑b_1n:Int))) fun v => .unS v fun a n c => .loop [.int .i64 0] (fun vs => .popI .i64 vs fun n_1 vs => .unNil vs (bif decide (n_1 < (↑b_1n:Int)) then .need (0 <= n_1 /\ n_1 < (↑b_1n:Int)) (.someA b_1p fun a_1 => .loadStr ((a_1.add (n_1.toNat * 4)).add 0) fun s => .loadI .i64 ((a_1.add (n_1.toNat * 4)).add 1) fun n_2 => .loadS ((a_1.add (n_1.toNat * 4)).add 2) fun p n_3 c => .loadS ((a_1.add (n_1.toNat * 4)).add 3) fun p n_4 c => .call false 50 #[.slice p n_4 c] fun v => .unI .i64 v fun n_5 => .need (0 <= n_1 /\ n_1 < (↑n:Int)) (.someA a fun a => .store ((a.add (n_1.toNat * 1)).add 0) (.int .i64 n_5) (.leaf (.again [.int .i64 (IntKind.wrap .i64 (n_1 + 1))])))) else .leaf (.brk [.int .i64 n_1]))) (fun vs => .popI .i64 vs fun n_1 vs => .unNil vs (.loop [.int .i64 0] (fun vs => .popI .i64 vs fun n_2 vs => .unNil vs (bif decide (n_2 < (↑b_1n:Int)) then .loop [.int .i64 0] (fun vs => .popI .i64 vs fun n_3 vs => .unNil vs (bif decide (n_3 < (↑n:Int)) then .loop [.int .i64 0] (fun vs => .popI .i64 vs fun n_4 vs => .unNil vs (bif decide (n_4 < (↑b_1n:Int)) then .need (0 <= n_3 /\ n_3 < (↑n:Int)) (.someA a fun a_1 => .loadI .i64 (a_1.add (n_3.toNat * 1)) fun n_5 => .need (0 <= n_4) (bif IntKind.wrap .i64 (↑(BitVec.toNat (BitVec.ofInt 64 (Int.fdiv n_5 (2 ^ min (n_4.toNat) 64)) &&& BitVec.ofInt 64 1)):Int) == 1 then .need (0 <= n_4) (bif IntKind.wrap .i64 (↑(BitVec.toNat (BitVec.ofInt 64 (Int.fdiv out (2 ^ min (n_4.toNat) 64)) &&& BitVec.ofInt 64 1)):Int) == 1 then .need (0 <= n_3 /\ n_3 < (↑n:Int)) (.someA a fun a_2 => .loadI .i64 (a_2.add (n_3.toNat * 1)) fun n_6 => .need (0 <= n_4 /\ n_4 < (↑n:Int)) (.someA a fun a_3 => .loadI .i64 (a_3.add (n_4.toNat * 1)) fun n_7 => .need (0 <= n_3 /\ n_3 < (↑n:Int)) (.someA a fun a => .store ((a.add (n_3.toNat * 1)).add 0) (.int .i64 (IntKind.wrap .i64 (↑(BitVec.toNat (BitVec.ofInt 64 n_6 ||| BitVec.ofInt 64 n_7)):Int))) (.leaf (.again [.int .i64 (IntKind.wrap .i64 (n_4 + 1))]))))) else .leaf (.again [.int .i64 (IntKind.wrap .i64 (n_4 + 1))])) else .leaf (.again [.int .i64 (IntKind.wrap .i64 (n_4 + 1))]))) else .leaf (.brk [.int .i64 n_4]))) (fun vs => .popI .i64 vs fun n vs => .unNil vs (.leaf (.again [.int .i64 (IntKind.wrap .i64 (n_3 + 1))]))) (fun vs => .popI .i64 vs fun n vs => .unNil vs (.leaf (.retn [.int .i64 n_3]))) fun x x_1 => .fail else .leaf (.brk [.int .i64 n_3]))) (fun vs => .popI .i64 vs fun n vs => .unNil vs (.leaf (.again [.int .i64 (IntKind.wrap .i64 (n_2 + 1))]))) (fun vs => .popI .i64 vs fun n vs => .unNil vs (.leaf (.retn [.int .i64 n_2]))) fun x x_1 => .fail else .leaf (.brk [.int .i64 n_2]))) (fun vs => .popI .i64 vs fun n_2 vs => .unNil vs (.call false 90 #[.slice b_0p b_0n b_0c] fun v => .unS v fun a_1 n_3 c => .sem false (Instr.makeMap 153 none) fun v => .unM v fun a_2 => .loop [.int .i64 0,.slice a_1 n_3 c,.slice none 0 0] (fun vs => .popI .i64 vs fun n vs => .popS vs fun a n_4 c vs => .popS vs fun a_3 n_5 c_1 vs => .unNil vs (bif decide (n < (↑b_1n:Int)) then .need (0 <= n /\ n < (↑b_1n:Int)) (.someA b_1p fun a_4 => .loadStr ((a_4.add (n.toNat * 4)).add 0) fun s => .loadI .i64 ((a_4.add (n.toNat * 4)).add 1) fun n_6 => .loadS ((a_4.add (n.toNat * 4)).add 2) fun p n_7 c_2 => .loadS ((a_4.add (n.toNat * 4)).add 3) fun p_1 n_8 c_3 => .need (0 <= n) (bif IntKind.wrap .i64 (↑(BitVec.toNat (BitVec.ofInt 64 (Int.fdiv out (2 ^ min (n.toNat) 64)) &&& BitVec.ofInt 64 1)):Int) == 1 then .leaf (.again [.int .i64 (IntKind.wrap .i64 (n + 1)),.slice a n_4 c,.slice a_3 n_5 c_1]) else .sem false (Sem.bind (Instr.mapUpdate 153 (.map a_2) (.int .i64 n) (.int .i64 (↑n_5:Int))) fun __r => pure (.tuple #[])) fun x => .call false 91 #[.agg #[.string s,.int .i64 n_6,.slice p n_7 c_2,.slice p_1 n_8 c_3]] fun v => .unAgg v fun l => .popStr l fun s vs => .popI .i64 vs fun n_9 vs => .popS vs fun a_5 n_10 c_4 vs => .popS vs fun a_6 n_11 c_5 vs => .unNil vs (.sem false (Instr.buildSlice 34 1 #[(0,.agg #[.string s,.int .i64 n_9,.slice a_5 n_10 c_4,.slice none 0 0])]) fun v => .unS v fun a_7 n_12 c_6 => .sem false (Builtin.append_ #[34,34] 34 #[.slice a_3 n_5 c_1,.slice a_7 n_12 c_6]) fun v => .unS v fun a_8 n_13 c_7 => .leaf (.again [.int .i64 (IntKind.wrap .i64 (n + 1)),.slice a n_4 c,.slice a_8 n_13 c_7])))) else .leaf (.brk [.int .i64 n,.slice a n_4 c,.slice a_3 n_5 c_1]))) (fun vs => .popI .i64 vs fun n_4 vs => .popS vs fun a_3 n_5 c vs => .popS vs fun a_4 n_6 c_1 vs => .unNil vs (.sem false (Instr.range 153 (.map a_2)) fun v => .unP v fun a_5 => .loop [] (fun vs => .unNil vs (.sem false (Instr.next (.pointer a_5) false 0) fun v => .unTup v fun l => .unCons l fun b l => .unB b fun b => bif b then .unCons l fun v vs => .unCons vs fun v vs => .unNil vs (.sem false (Instr.entry (.pointer a_5)) fun v => .unTup v fun l => .unCons l fun v vs => .unCons vs fun v_1 vs => .unNil vs (.unI .i64 v fun n_7 => .unI .i64 v_1 fun n_8 => .loop [.int .i64 0] (fun vs => .popI .i64 vs fun n_9 vs => .unNil vs (bif decide (n_9 < (↑b_1n:Int)) then .sem false (Instr.lookup 153 (.map a_2) (.int .i64 n_9) true) fun v => .unTup v fun l => .unCons l fun v vs => .unI .i64 v fun n_10 => .unCons vs fun v vs => .unB v fun b => .unNil vs (bif b then .need (0 <= n_7 /\ n_7 < (↑n:Int)) (.someA a fun a => .loadI .i64 (a.add (n_7.toNat * 1)) fun n => .need (0 <= n_9) (bif IntKind.wrap .i64 (↑(BitVec.toNat (BitVec.ofInt 64 (Int.fdiv n (2 ^ min (n_9.toNat) 64)) &&& BitVec.ofInt 64 1)):Int) == 1 then .need (0 <= n_8 /\ n_8 < (↑n_6:Int)) (.someA a_4 fun a => .loadS ((a.add (n_8.toNat * 4)).add 3) fun p n c => .sem false (Instr.buildSlice 30 1 #[(0,.int .i64 n_10)]) fun v => .unS v fun a_6 n_11 c_2 => .loadS ((a.add (n_8.toNat * 4)).add 3) fun p_1 n_12 c_3 => .need (AV.val (.slice p_1 n_12 c_3) = AV.val (.slice p n c)) (.nd (.pointer (some ((a.add (n_8.toNat * 4)).add 3))) (.need (0 <= n_8 /\ n_8 < (↑n_6:Int)) (.someA a_4 fun a_7 => .need (AV.val (.pointer (some (a_7.add (n_8.toNat * 4)))) = AV.val (.pointer (some (a.add (n_8.toNat * 4))))) (.nd (.int .i64 n_8) (.nd (.slice a_4 n_6 c_1) (.need (AV.pp 10 1 = AV.pp 10 1) (.nd (.int .i64 n_8) (.nd (.slice a_4 n_6 c_1) (.need (AV.pp 10 1 = AV.pp 10 1) (.sem false (Builtin.append_ #[30,30] 30 #[.slice p n c,.slice a_6 n_11 c_2]) fun v => .unS v fun a_8 n c => .nd (.pointer (some ((a.add (n_8.toNat * 4)).add 3))) (.need (0 <= n_8 /\ n_8 < (↑n_6:Int)) (.someA a_4 fun a_9 => .need (AV.val (.pointer (some (a_9.add (n_8.toNat * 4)))) = AV.val (.pointer (some (a.add (n_8.toNat * 4))))) (.nd (.int .i64 n_8) (.nd (.slice a_4 n_6 c_1) (.need (AV.pp 10 1 = AV.pp 10 1) (.nd (.int .i64 n_8) (.nd (.slice a_4 n_6 c_1) (.need (AV.pp 10 1 = AV.pp 10 1) (.need (0 <= n_8 /\ n_8 < (↑n_6:Int)) (.someA a_4 fun a => .store (((a.add (n_8.toNat * 4)).add 3).add 0) (.slice a_8 n c) (.need (0 <= n_8 /\ n_8 < (↑n_6:Int)) (.someA a_4 fun a_10 => .need (AV.val (.pointer (some (a_10.add (n_8.toNat * 4)))) = AV.val (.pointer (some (a.add (n_8.toNat * 4))))) (.leaf (.again [.int .i64 (IntKind.wrap .i64 (n_9 + 1))]))))))))))))))))))))))))) else .leaf (.again [.int .i64 (IntKind.wrap .i64 (n_9 + 1))]))) else .leaf (.again [.int .i64 (IntKind.wrap .i64 (n_9 + 1))])) else .leaf (.brk [.int .i64 n_9]))) (fun vs => .popI .i64 vs fun n vs => .unNil vs (.leaf (.again []))) (fun vs => .popI .i64 vs fun n vs => .unNil vs (.leaf (.retn []))) fun x x_1 => .fail)) else .unNil l (.leaf (.brk [])))) (fun vs => .unNil vs (.leaf (.ret (.agg #[.slice a_3 n_5 c,.slice a_4 n_6 c_1])))) (fun vs => .unNil vs (.leaf (.ret (.agg #[.slice none 0 0,.slice none 0 0])))) fun x x_1 => .fail)) (fun vs => .popI .i64 vs fun n vs => .popS vs fun a n c vs => .popS vs fun a n c vs => .unNil vs (.leaf (.ret (.agg #[.slice none 0 0,.slice none 0 0])))) fun x x_1 => .fail)) (fun vs => .popI .i64 vs fun n vs => .unNil vs (.leaf (.ret (.agg #[.slice none 0 0,.slice none 0 0])))) fun x x_1 => .fail)) (fun vs => .popI .i64 vs fun n vs => .unNil vs (.leaf (.ret (.agg #[.slice none 0 0,.slice none 0 0])))) fun x x_1 => .fail
theorem w3145 (b_0p:Option Addr) (b_0n b_0c:Nat) (b_1p:Option Addr) (b_1n b_1c:Nat) (out:Int) (hX:XOK X) (hw:(n3145 b_0p b_0n b_0c b_1p b_1n b_1c out).wp X Tryz.prog (retQ A) h):FWK X Tryz.prog .normal 45 #[.agg #[.slice b_0p b_0n b_0c,.slice b_1p b_1n b_1c],.int .i64 out] h A := fwk_neat (priv := [2,4,7,10,13]) (loops := [{ id := 0,slots := [(28,.int .i64)],ro := [2,4],outs := [] },{ id := 6,slots := [(55,.int .i64)],ro := [2,4],outs := [] },{ id := 4,slots := [(48,.int .i64)],ro := [2,4],outs := [] },{ id := 2,slots := [(44,.int .i64)],ro := [2,4],outs := [] },{ id := 8,slots := [(96,.int .i64),(45056,.slice),(45057,.slice)],ro := [2,4],outs := [] },{ id := 12,slots := [(132,.int .i64)],ro := [2,4,10],outs := [] },{ id := 10,slots := [],ro := [2,4,10],outs := [] }]) (joins := []) (fd := Tryz.f45) (by kernel_rfl) (by simp) (by kernel_rfl) (by kernel_rfl) hX hw
noncomputable def n3146 (b_0p:Option Addr) (b_0n b_0c:Nat) (b_1p:Option Addr) (b_1n b_1c:Nat) (right:Int):T := .call false 52 #[.agg #[.slice b_0p b_0n b_0c,.slice b_1p b_1n b_1c]] fun v => .unTup v fun l => .unCons l fun v vs => .unS v fun a n c => .unCons vs fun v vs => .unS v fun a_1 n_1 c => .unNil vs (.need (0 <= right /\ right < (↑n:Int)) (.someA a fun a => .loadI .i64 (a.add (right.toNat * 1)) fun n => .leaf (.ret (.int .i64 n))))
theorem w3146 (b_0p:Option Addr) (b_0n b_0c:Nat) (b_1p:Option Addr) (b_1n b_1c:Nat) (right:Int) (hX:XOK X) (hw:(n3146 b_0p b_0n b_0c b_1p b_1n b_1c right).wp X Tryz.prog (retQ A) h):FWK X Tryz.prog .normal 46 #[.agg #[.slice b_0p b_0n b_0c,.slice b_1p b_1n b_1c],.int .i64 right] h A := fwk_neat (priv := [2]) (loops := []) (joins := []) (fd := Tryz.f46) (by kernel_rfl) (by simp) (by kernel_rfl) (by kernel_rfl) hX hw
noncomputable def n3148 (b_0p:Option Addr) (b_0n b_0c:Nat) (b_1p:Option Addr) (b_1n b_1c:Nat):T := .loop [.slice none 0 0,.int .i64 0] (fun vs => .popS vs fun a n c vs => .popI .i64 vs fun n_1 vs => .unNil vs (bif decide (n_1 < (↑b_1n:Int)) then .sem false (Instr.buildSlice 30 1 #[(0,.int .i64 n_1)]) fun v => .unS v fun a_1 n_2 c_1 => .sem false (Builtin.append_ #[30,30] 30 #[.slice a n c,.slice a_1 n_2 c_1]) fun v => .unS v fun a n c => .leaf (.again [.slice a n c,.int .i64 (IntKind.wrap .i64 (n_1 + 1))]) else .leaf (.brk [.slice a n c,.int .i64 n_1]))) (fun vs => .popS vs fun a n c vs => .popI .i64 vs fun n_1 vs => .unNil vs (.leaf (.ret (.slice a n c)))) (fun vs => .popS vs fun a n c vs => .popI .i64 vs fun n vs => .unNil vs (.leaf (.ret (.slice none 0 0)))) fun x x_1 => .fail
theorem w3148 (b_0p:Option Addr) (b_0n b_0c:Nat) (b_1p:Option Addr) (b_1n b_1c:Nat) (hX:XOK X) (hw:(n3148 b_0p b_0n b_0c b_1p b_1n b_1c).wp X Tryz.prog (retQ A) h):FWK X Tryz.prog .normal 48 #[.agg #[.slice b_0p b_0n b_0c,.slice b_1p b_1n b_1c]] h A := fwk_neat (priv := [1]) (loops := [{ id := 0,slots := [(3,.slice),(9,.int .i64)],ro := [1],outs := [] }]) (joins := []) (fd := Tryz.f48) (by kernel_rfl) (by simp) (by kernel_rfl) (by kernel_rfl) hX hw
noncomputable def n3149 (xp:Option Addr) (xn xc:Nat) (z0:Addr):T := .loadM z0 fun p => .sem false (Instr.range 105 (.map p)) fun v => .unP v fun a => .loop [.bool false] (fun vs => .popB vs fun b vs => .unNil vs (.sem false (Instr.next (.pointer a) false 0) fun v => .unTup v fun l => .unCons l fun b_1 l => .unB b_1 fun b_2 => bif b_2 then .unCons l fun v vs => .unCons vs fun v vs => .unNil vs (.sem false (Instr.entry (.pointer a)) fun v => .unTup v fun l => .unCons l fun v vs => .unCons vs fun v_1 vs => .unNil vs (.unI .i64 v fun n => .unI .i64 v_1 fun n_1 => .call false 50 #[.slice xp xn xc] fun v => .unI .i64 v fun n_2 => bif IntKind.wrap .i64 (↑(BitVec.toNat (BitVec.ofInt 64 n &&& BitVec.ofInt 64 n_2)):Int) == 0 then .loadM z0 fun p => .sem false (Instr.lookup 105 (.map p) (.int .i64 0) false) fun v => .unI .i64 v fun n => bif n_1 != n then .leaf (.retn [.bool false]) else .leaf (.again [.bool b]) else .leaf (.again [.bool b]))) else .unNil l (.leaf (.brk [.bool b])))) (fun vs => .popB vs fun b vs => .unNil vs (.leaf (.ret (.bool true)))) (fun vs => .popB vs fun b vs => .unNil vs (.leaf (.ret (.bool b)))) fun x x_1 => .fail
theorem w3149 (xp:Option Addr) (xn xc:Nat) (z0:Addr) (hX:XOK X) (hw:(n3149 xp xn xc z0).wp X Tryz.prog (retQ A) h):FWK X Tryz.prog .normal 49 #[.slice xp xn xc,.pointer (some z0)] h A := fwk_neat (priv := []) (loops := [{ id := 0,slots := [(3,.bool)],ro := [],outs := [] }]) (joins := []) (fd := Tryz.f49) (by kernel_rfl) (by simp) (by kernel_rfl) (by kernel_rfl) hX hw
end Go.Proofs.YtgljffachdhigaaGreatDoor
end
section
namespace Go.Proofs.YtgljffachdhigaaGreatDoor
open Go Go.TM Go.Proofs Go.TM.Rv
attribute [local irreducible] T.wp CV FWK
theorem pw_snoc {l:List Int} {x:Int} (h:l.Pairwise (· < ·)) (hl:∀ (i:Nat) y,l[i]? = some y -> i + 1 = l.length -> y < x):(l ++ [x]).Pairwise (· < ·) := by
 rw [List.pairwise_append]
 refine ⟨h,by simp,fun a ha b hb => ?_⟩
 rw [List.mem_singleton] at hb
 subst hb
 obtain ⟨j,hj⟩ := List.mem_iff_getElem?.1 ha
 have hjl := (List.getElem?_eq_some_iff.1 hj).1
 by_cases e:j + 1 = l.length
 ·exact hl j a hj e
 ·have hlast:l.length - 1 < l.length := by omega
  have h1 := List.pairwise_iff_getElem.1 h j (l.length - 1) hjl hlast (by omega)
  have h2 := hl (l.length - 1) _ (List.getElem?_eq_getElem hlast) (by omega)
  have h3:l[j] = a := (List.getElem?_eq_some_iff.1 hj).2
  omega
theorem isIn_iff {n a b:Int}:isIn n a b = true ↔ a <= n /\ n <= b := by unfold isIn; simp
theorem und33:Tryz.prog.underlying 33 = some (.slice 9) := by kernel_rfl
theorem inf9:(Tryz.prog.info? 9).map (fun i => (i.size,i.bytes,i.zero)) = some (1,16,some (.string ⟨#[]⟩)) := by kernel_rfl
theorem c3115 {h:LH} {f:BookC} {b:RvBook} (hr:BookR h.get f b):FW X0 Tryz.prog 6 #[bookV f] h fun r h' => h = h' /\ ∃ b,r = .bool b := by
 refine w3115 _ _ _ _ _ _ X0_ok ?_
 unfold n3115
 have hn0 := hr.rights.1
 have hb0 := hr.rights.2.1
 have hn1 := hr.cases.1
 have hb1 := hr.cases.2.1
 refine t_blk (fun vs h' => vs = [.bool false] /\ h = h') ?_ ?_
 ·refine t_if (fun _ => ?_) (fun _ => ?_)
  ·refine gI ?_
   refine gZ ?_
   exact t_ret ⟨rfl,_,rfl⟩
  refine t_if (fun _ => ?_) (fun _ => ?_)
  ·refine gI ?_
   refine gZ ?_
   exact t_ret ⟨rfl,_,rfl⟩
  exact t_again ⟨rfl,rfl⟩
 rintro vs _ ⟨rfl,rfl⟩
 refine gZ ?_
 refine t_loop (fun mm vs h' => h = h' /\ ∃ (i:Nat) (s:Int),vs = [.int .i64 s,.int .i64 i] /\ i <= f.n0 /\ mm = f.n0 - i) ⟨rfl,0,0,rfl,Nat.zero_le _,rfl⟩ ?_
 rintro Y mm vs _ hY ⟨rfl,i,s,rfl,hi,rfl⟩
 refine gZ ?_
 refine t_if (fun e1 => ?_) (fun e1 => ?_)
 ·obtain ⟨x,a,hx,ha,e2⟩ := hr.rights.at (i := i) (by omega)
  unfold StrE at e2
  have hin:0 <= (i:Int) /\ (i:Int) < (f.n0:Int) := by omega
  refine gZ ?_
  repeat ((first | refine t_loadStr (by assumption) ?_ | refine t_loadV (by assumption) ?_ | refine gL0 (by assumption) ?_); refine gZ ?_)
  refine t_lenStr und9 ?_
  refine gZ ?_
  refine t_again (hY (f.n0 - (i + 1)) _ _ (by omega) ⟨rfl,i + 1,IntKind.wrap .i64 (s + (x.size:Int)),?_,by omega,rfl⟩)
  rw [wrap_id (n := (i:Int) + 1) (by omega) (by omega)]; rfl
 refine gZ ?_
 refine t_loop (fun mm vs h' => h = h' /\ ∃ (i:Nat) (s:Int) (q:Bool),vs = [.bool q,.int .i64 s,.int .i64 i] /\ i <= f.n1 /\ mm = f.n1 - i) ⟨rfl,0,s,false,rfl,Nat.zero_le _,rfl⟩ ?_
 rintro Y2 mm vs _ hY2 ⟨rfl,i,s,q,rfl,hi,rfl⟩
 refine gZ ?_
 refine t_if (fun e1 => ?_) (fun e1 => ?_)
 ·obtain ⟨c,a,hx,ha,e2,e3,⟨q1,n1,k1,e4,e5⟩,q2,n2,k2,e6,e7⟩ := hr.cases.at (i := i) (by omega)
  have hin:0 <= (i:Int) /\ (i:Int) < (f.n1:Int) := by omega
  have hg1 := e5.1
  have hg2 := e5.2.1
  refine gZ ?_
  repeat ((first | refine t_loadStr (by assumption) ?_ | refine t_loadV (by assumption) ?_ | refine gL0 (by assumption) ?_); refine gZ ?_)
  refine t_blk (fun vs h' => vs = [.bool q] /\ h = h') ?_ ?_
  ·refine t_if (fun _ => ?_) (fun _ => ?_)
   ·refine gI ?_
    refine gZ ?_
    exact t_ret ⟨rfl,_,rfl⟩
   refine t_if (fun _ => ?_) (fun _ => ?_)
   ·refine gI ?_
    refine gZ ?_
    exact t_ret ⟨rfl,_,rfl⟩
   exact t_again ⟨rfl,rfl⟩
  rintro vs _ ⟨rfl,rfl⟩
  refine gZ ?_
  refine t_loop (fun mm vs h' => h = h' /\ ∃ (j:Nat),vs = [.bool q,.int .i64 j] /\ j <= n1 /\ mm = n1 - j) ⟨rfl,0,rfl,Nat.zero_le _,rfl⟩ ?_
  rintro Y3 mm vs _ hY3 ⟨rfl,j,rfl,hj,rfl⟩
  refine gZ ?_
  refine t_if (fun e8 => ?_) (fun e8 => ?_)
  ·obtain ⟨g,a',hx',ha',q3,n3,k3,e9,e10⟩ := e5.at (i := j) (by omega)
   have hin2:0 <= (j:Int) /\ (j:Int) < (n1:Int) := by omega
   refine gZ ?_
   refine t_if (fun _ => ?_) (fun _ => ?_)
   ·refine gI ?_
    refine gZ ?_
    exact t_ret ⟨rfl,_,rfl⟩
   ·refine t_again (hY3 (n1 - (j + 1)) _ _ (by omega) ⟨rfl,j + 1,?_,by omega,rfl⟩)
    rw [wrap_id (n := (j:Int) + 1) (by omega) (by omega)]; rfl
  ·refine gZ ?_
   refine t_lenStr und9 ?_
   refine gZ ?_
   refine t_again (hY2 (f.n1 - (i + 1)) _ _ (by omega) ⟨rfl,i + 1,IntKind.wrap .i64 (s + (c.name.size:Int)),q,?_,by omega,rfl⟩)
   rw [wrap_id (n := (i:Int) + 1) (by omega) (by omega)]; rfl
 ·refine gZ ?_
  exact t_ret ⟨rfl,_,rfl⟩
theorem c3169 {h:LH} {p:Option Addr} {n c:Nat} {l:List Int} (hl:Sl IntE 1 h.get p n l) {b:Int} (hb:0 <= b /\ b < 4611686018427387904):FW X0 Tryz.prog 76 #[.slice p n c,.int .i64 b] h fun r h' => h = h' /\ ∃ g:Int,r = .int .i64 g /\ (g = 0 -> l.Pairwise (· < ·) /\ ∀ v ∈ l,0 <= v /\ v < b) := by
 refine w3169 _ _ _ _ X0_ok ?_
 unfold n3169
 have hn := hl.1
 have hbb := hl.2.1
 rw [wrap_id (n := b - 1) (by omega) (by omega)]
 refine t_loop (fun m vs h' => h = h' /\ ∃ i:Nat,vs = [.int .i64 0,.int .i64 i] /\ i <= n /\ m = n - i /\ (l.take i).Pairwise (· < ·) /\ ∀ v ∈ l.take i,0 <= v /\ v < b) ⟨rfl,0,rfl,Nat.zero_le _,rfl,List.Pairwise.nil,(by intro v hv; cases hv)⟩ ?_
 rintro Y m vs _ hY ⟨rfl,i,rfl,hi,rfl,hp,hin⟩
 refine gZ ?_
 refine t_if (fun e1 => ?_) (fun e1 => ?_)
 ·obtain ⟨x,a,hx,ha,e2⟩ := hl.at (i := i) (by omega)
  unfold IntE at e2
  refine gZ ?_
  refine t_pu (c49 _ _ _) ?_
  refine gZ ?_
  refine t_cond (fun _ => ?_) (fun g1 => ?_)
  ·refine gI ?_
   refine gZ ?_
   exact t_ret ⟨rfl,6,rfl,fun e => by cases e⟩
  have hxin:0 <= x /\ x <= b - 1 := by
   have:isIn x 0 (b - 1) = true := by simpa using g1
   exact isIn_iff.1 this
  have next:(∀ (k:Nat) y,(l.take i)[k]? = some y -> k + 1 = (l.take i).length -> y < x) -> Y [.int .i64 0,.int .i64 (IntKind.wrap .i64 ((i:Int) + 1))] h := fun hlast => by
   refine hY (n - (i + 1)) _ _ (by omega) ⟨rfl,i + 1,by rw [wrap_id (by omega) (by omega)]; rfl,by omega,rfl,?_,?_⟩
   ·rw [List.take_add_one,hx]; exact pw_snoc hp hlast
   ·rw [List.take_add_one,hx]
    intro v hv
    rcases List.mem_append.1 hv with hv | hv
    ·exact hin v hv
    ·have:v = x := by simpa using hv
     omega
  refine t_if (fun e3 => ?_) (fun e3 => ?_)
  ·obtain ⟨y,a',hy,ha',e4⟩ := hl.at (i := i - 1) (by omega)
   obtain rfl:a = a' := Option.some.inj (ha.symm.trans ha')
   unfold IntE at e4
   have ew:IntKind.wrap .i64 ((i:Int) - 1) = ((i - 1:Nat):Int) := by rw [wrap_id (by omega) (by omega)]; omega
   rw [ew]
   refine gZ ?_
   refine t_if (fun _ => ?_) (fun e5 => ?_)
   ·refine gI ?_
    refine gZ ?_
    exact t_ret ⟨rfl,7,rfl,fun e => by cases e⟩
   ·refine t_again (next fun k z hk hkl => ?_)
    rw [List.length_take] at hkl
    have:k = i - 1 := by omega
    subst this
    rw [List.getElem?_take_of_lt (by omega),hy] at hk
    cases hk
    omega
  ·refine gZ ?_
   refine t_again (next fun k z hk hkl => ?_)
   rw [List.length_take] at hkl
   omega
 ·refine gZ ?_
  have:l.take i = l := List.take_of_length_le (by omega)
  rw [this] at hp hin
  exact t_ret ⟨rfl,0,rfl,fun _ => ⟨hp,hin⟩⟩
theorem c3141 {h:LH} {p:Option Addr} {n c:Nat} {l:List ByteArray} (hl:Sl StrE 1 h.get p n l) (s:ByteArray):FW X0 Tryz.prog 29 #[.slice p n c,.string s] h fun r h' => h = h' /\ ∃ g:Int,r = .int .i64 g /\ (g < 0 -> s ∉ l) := by
 refine w3141 _ _ _ _ X0_ok ?_
 unfold n3141
 have hn := hl.1
 have hbb := hl.2.1
 refine t_loop (fun m vs h' => h = h' /\ ∃ i:Nat,vs = [.int .i64 0,.int .i64 i] /\ i <= n /\ m = n - i /\ s ∉ l.take i) ⟨rfl,0,rfl,Nat.zero_le _,rfl,(by intro hh; cases hh)⟩ ?_
 rintro Y m vs _ hY ⟨rfl,i,rfl,hi,rfl,hno⟩
 refine gZ ?_
 refine t_if (fun e1 => ?_) (fun e1 => ?_)
 ·obtain ⟨x,a,hx,ha,e2⟩ := hl.at (i := i) (by omega)
  unfold StrE at e2
  have hin:0 <= (i:Int) /\ (i:Int) < (n:Int) := by omega
  refine gZ ?_
  repeat ((first | refine t_loadStr (by assumption) ?_ | refine t_loadV (by assumption) ?_ | refine gL0 (by assumption) ?_); refine gZ ?_)
  refine t_eqStr und9 fun cb hcb => ?_
  refine gZ ?_
  refine t_cond (fun _ => ?_) (fun g => ?_)
  ·refine gI ?_
   refine gZ ?_
   exact t_ret ⟨rfl,i,rfl,fun e => by omega⟩
  ·refine t_again (hY (n - (i + 1)) _ _ (by omega) ⟨rfl,i + 1,by rw [wrap_id (by omega) (by omega)]; rfl,by omega,rfl,?_⟩)
   rw [take_snoc hx,List.mem_append,List.mem_singleton]
   rintro (hh | rfl)
   ·exact hno hh
   ·rw [hcb.2 rfl] at g; cases g
 ·refine gZ ?_
  rw [List.take_of_length_le (by omega)] at hno
  exact t_ret ⟨rfl,-1,rfl,fun _ => hno⟩
structure CaseOk (b:RvBook) (i:Nat) (c:RvCase):Prop where
 name:NameOk c.name
 fresh:∀ (k:Nat) d,k < i -> b.cases[k]? = some d -> d.name ≠ c.name
 against:0 <= c.against /\ c.against < (b.rights.length:Int)
 grounds:c.grounds.length <= 3 /\ ∀ g ∈ c.grounds,g.length <= 3 /\ g.Pairwise (· < ·) /\ ∀ v ∈ g,0 <= v /\ v < (b.rights.length:Int)
 after:c.after.Pairwise (· < ·) /\ ∀ v ∈ c.after,0 <= v /\ v < (b.cases.length:Int)
set_option maxRecDepth 10000 in
theorem c3142 {h:LH} {f:BookC} {b:RvBook} (hr:BookR h.get f b) {i:Nat} {c:RvCase} (hc:b.cases[i]? = some c):FW X0 Tryz.prog 30 #[bookV f,.int .i64 i] h fun r h' => h = h' /\ ∃ g:Int,r = .int .i64 g /\ (g = 0 -> CaseOk b i c) := by
 refine w3142 _ _ _ _ _ _ _ X0_ok ?_
 unfold n3142
 have hn0 := hr.rights.1
 have hb0 := hr.rights.2.1
 have hn1 := hr.cases.1
 have hb1 := hr.cases.2.1
 have hil := (List.getElem?_eq_some_iff.1 hc).1
 obtain ⟨a,ha,x0,x1,⟨q,m,k,x2,x3⟩,q',m',k',x6,x7⟩ := book_at hr hc
 have hin:0 <= (i:Int) /\ (i:Int) < (f.n1:Int) := by omega
 have hm := x3.1
 have hmb := x3.2.1
 refine gZ ?_
 repeat ((first | refine t_loadStr (by assumption) ?_ | refine t_loadV (by assumption) ?_ | refine gL0 (by assumption) ?_); refine gZ ?_)
 refine t_call (FW.top (c3140 c.name)) ?_
 rintro _ _ ⟨rfl,bn,rfl,hbn⟩
 refine gZ ?_
 refine t_cond (fun _ => t_ret ⟨rfl,4,rfl,fun e => by cases e⟩) (fun g1 => ?_)
 have hname := hbn (by simpa using g1)
 refine t_loop (fun mm vs h' => h = h' /\ ∃ j:Nat,vs = [.int .i64 0,.int .i64 j] /\ j <= i /\ mm = i - j /\ ∀ (k:Nat) d,k < j -> b.cases[k]? = some d -> d.name ≠ c.name) ⟨rfl,0,rfl,Nat.zero_le _,rfl,fun k d hk => absurd hk (Nat.not_lt_zero _)⟩ ?_
 rintro Y mm vs _ hY ⟨rfl,j,rfl,hj,rfl,hfr⟩
 refine gZ ?_
 refine t_if (fun e1 => ?_) (fun e1 => ?_)
 ·obtain ⟨d,a',hd,ha',y0,_⟩ := hr.cases.at (i := j) (by omega)
  have hin2:0 <= (j:Int) /\ (j:Int) < (f.n1:Int) := by omega
  refine gZ ?_
  repeat ((first | refine t_loadStr (by assumption) ?_ | refine t_loadV (by assumption) ?_ | refine gL0 (by assumption) ?_); refine gZ ?_)
  refine t_eqStr und9 fun cb hcb => ?_
  refine gZ ?_
  refine t_cond (fun _ => ?_) (fun g2 => ?_)
  ·refine gI ?_
   refine gZ ?_
   exact t_ret ⟨rfl,5,rfl,fun e => by cases e⟩
  ·refine t_again (hY (i - (j + 1)) _ _ (by omega) ⟨rfl,j + 1,by rw [wrap_id (by omega) (by omega)]; rfl,by omega,rfl,fun k e hk he => ?_⟩)
   by_cases ek:k = j
   ·subst ek
    rw [hd] at he; cases he
    intro hh
    rw [hcb.2 hh] at g2; cases g2
   ·exact hfr k e (by omega) he
 have hji:j = i := by omega
 subst hji
 refine gZ ?_
 rw [wrap_id (n := (f.n0:Int) - 1) (by omega) (by omega)]
 refine t_pu (c49 _ _ _) ?_
 refine gZ ?_
 refine t_cond (fun _ => t_ret ⟨rfl,6,rfl,fun e => by cases e⟩) (fun g2 => ?_)
 have hag:0 <= c.against /\ c.against <= (f.n0:Int) - 1 := by
  have:isIn c.against 0 ((f.n0:Int) - 1) = true := by simpa using g2
  exact isIn_iff.1 this
 refine t_if (fun _ => t_ret ⟨rfl,2,rfl,fun e => by cases e⟩) (fun g3 => ?_)
 refine t_loop (fun mm vs h' => h = h' /\ ∃ (s:Nat),vs = [.int .i64 0,.int .i64 s] /\ s <= m /\ mm = m - s /\ ∀ g ∈ c.grounds.take s,g.length <= 3 /\ g.Pairwise (· < ·) /\ ∀ v ∈ g,0 <= v /\ v < (b.rights.length:Int)) ⟨rfl,0,rfl,Nat.zero_le _,rfl,(by intro g hg; cases hg)⟩ ?_
 rintro Y2 mm vs _ hY2 ⟨rfl,s,rfl,hs,rfl,hgr⟩
 refine gZ ?_
 refine t_if (fun e2 => ?_) (fun e2 => ?_)
 ·obtain ⟨g,a',hx,ha',q3,n3,k3,e9,e10⟩ := x3.at (i := s) (by omega)
  have hin3:0 <= (s:Int) /\ (s:Int) < (m:Int) := by omega
  have hn3 := e10.1
  refine gZ ?_
  refine t_if (fun _ => ?_) (fun g4 => ?_)
  ·refine gI ?_
   refine gZ ?_
   exact t_ret ⟨rfl,2,rfl,fun e => by cases e⟩
  refine gZ ?_
  refine t_call (FW.top (c3169 e10 (b := (f.n0:Int)) (by omega))) ?_
  rintro _ _ ⟨rfl,z,rfl,hz⟩
  refine gZ ?_
  refine t_cond (fun g5 => ?_) (fun g5 => ?_)
  ·refine gI ?_
   refine gZ ?_
   exact t_ret ⟨rfl,z,rfl,fun e => by rw [e] at g5; cases g5⟩
  ·have hz0:z = 0 := by simpa using g5
   obtain ⟨p1,p2⟩ := hz hz0
   refine t_again (hY2 (m - (s + 1)) _ _ (by omega) ⟨rfl,s + 1,by rw [wrap_id (by omega) (by omega)]; rfl,by omega,rfl,fun g' hg' => ?_⟩)
   rw [List.take_add_one,hx] at hg'
   rcases List.mem_append.1 hg' with hg' | hg'
   ·exact hgr g' hg'
   ·have:g' = g := by simpa using hg'
    subst this
    exact ⟨by omega,p1,fun v hv => by have := p2 v hv; omega⟩
 ·refine gZ ?_
  rw [List.take_of_length_le (by omega)] at hgr
  refine t_call (FW.top (c3169 x7 (b := (f.n1:Int)) (by omega))) ?_
  rintro _ _ ⟨rfl,z,rfl,hz⟩
  refine gZ ?_
  exact t_ret ⟨rfl,z,rfl,fun e => ⟨hname,fun k d hk hd => hfr k d hk hd,by omega,⟨by omega,hgr⟩,(hz e).1,fun v hv => by have := (hz e).2 v hv; omega⟩⟩
theorem c3170 {h:LH} {f:BookC} {b:RvBook} (hr:BookR h.get f b) (o:BookShape b):∀ (s one two:Nat),one < b.cases.length -> s <= 100 -> Pu Tryz.prog 77 #[bookV f,.int .i64 one,.int .i64 two,.int .i64 s] h (.bool (mustG (afterN b) s one two)) := by
 intro s
 induction s with
 | zero =>
  intro one two h1 hs
  refine w3170 _ _ _ _ _ _ _ _ _ X0_ok ?_
  unfold n3170
  have hn1 := hr.cases.1
  obtain ⟨a,ha,x0,x1,⟨q,m,k,x2,x3⟩,q',m',k',x6,x7⟩ := book_at hr (List.getElem?_eq_getElem h1)
  have hin:0 <= (one:Int) /\ (one:Int) < (f.n1:Int) := by omega
  refine t_loop (fun mm vs h' => h = h' /\ vs = [.bool false,.int .i64 0] /\ mm = 0) ⟨rfl,rfl,rfl⟩ ?_
  rintro Y mm vs _ hY ⟨rfl,rfl,rfl⟩
  refine gZ ?_
  refine t_blk (fun _ _ => False) ?_ (fun _ _ hh => hh.elim)
  refine gZ ?_
  refine t_if (fun _ => ?_) (fun _ => ?_)
  ·refine t_if (fun e => by omega) (fun _ => ?_)
   refine gZ ?_
   refine gH ?_
   refine gZ ?_
   exact t_ret ⟨rfl,rfl⟩
  ·refine gZ ?_
   refine gH ?_
   refine gZ ?_
   exact t_ret ⟨rfl,rfl⟩
 | succ s ih =>
  intro one two h1 hs
  refine w3170 _ _ _ _ _ _ _ _ _ X0_ok ?_
  unfold n3170
  have hn1 := hr.cases.1
  obtain ⟨a,ha,x0,x1,⟨q,m,k,x2,x3⟩,q',m',k',x6,x7⟩ := book_at hr (List.getElem?_eq_getElem h1)
  have hin:0 <= (one:Int) /\ (one:Int) < (f.n1:Int) := by omega
  have hal:m' = b.cases[one].after.length := x7.1
  have hab := x7.2.1
  have hA:afterN b one = b.cases[one].after.map Int.toNat := by
   unfold afterN; rw [List.getElem?_eq_getElem h1]; rfl
  refine t_loop (fun mm vs h' => h = h' /\ ∃ i:Nat,vs = [.bool false,.int .i64 i] /\ i <= m' /\ mm = m' - i /\ mustG (afterN b) (s + 1) one two = ((afterN b one).drop i).any fun x => x == two || mustG (afterN b) s x two) ⟨rfl,0,rfl,Nat.zero_le _,rfl,rfl⟩ ?_
  rintro Y mm vs _ hY ⟨rfl,i,rfl,hi,rfl,hm⟩
  refine gZ ?_
  refine t_blk (fun vs h' => vs = [] /\ h = h' /\ i < m') ?_ ?_
  ·refine gZ ?_
   refine t_if (fun e1 => ?_) (fun e1 => ?_)
   ·refine t_if (fun _ => t_again ⟨rfl,rfl,by omega⟩) (fun e => by omega)
   ·refine gZ ?_
    refine gH ?_
    refine gZ ?_
    refine t_ret ⟨?_,rfl⟩
    rw [hm,hA,List.drop_eq_nil_of_le (by rw [List.length_map]; omega)]
    rfl
  rintro vs _ ⟨rfl,rfl,him⟩
  obtain ⟨v,av,hv,hav,e4⟩ := x7.at (i := i) him
  unfold IntE at e4
  have hvin := (o.after _ (List.getElem_mem h1)).2 v (List.mem_of_getElem? hv)
  obtain ⟨x,rfl⟩ : ∃ x:Nat,v = (x:Int) := ⟨v.toNat,by omega⟩
  have hAi:(afterN b one)[i]? = some x := by rw [hA,List.getElem?_map,hv]; simp
  have hin2:0 <= (i:Int) /\ (i:Int) < (m':Int) := by omega
  rw [drop_of hAi,List.any_cons] at hm
  refine gZ ?_
  refine t_cond (fun g1 => ?_) (fun g1 => ?_)
  ·have:x = two := by have := eq_of_beq g1; omega
   subst this
   refine gI ?_
   refine gZ ?_
   refine t_ret ⟨?_,rfl⟩
   rw [hm]; simp
  have hne:(x == two) = false := by
   cases hb:(x == two) with
   | false => rfl
   | true =>
    have := eq_of_beq hb
    subst this
    simp at g1
  have hw:IntKind.wrap .i64 (((s + 1:Nat):Int) - 1) = (s:Int) := by rw [wrap_id (by omega) (by omega)]; omega
  rw [hw]
  refine t_pu (ih x two (by omega) (by omega)) ?_
  refine gZ ?_
  rw [hne,Bool.false_or] at hm
  refine t_cond (fun g2 => ?_) (fun g2 => ?_)
  ·refine gI ?_
   refine gZ ?_
   refine t_ret ⟨?_,rfl⟩
   rw [hm,g2]; rfl
  ·refine t_again (hY (m' - (i + 1)) _ _ (by omega) ⟨rfl,i + 1,by rw [wrap_id (by omega) (by omega)]; rfl,by omega,rfl,?_⟩)
   rw [hm,g2,Bool.false_or]
theorem c3143 {h:LH} {f:BookC} {b:RvBook} (hr:BookR h.get f b) (o:BookShape b):FW X0 Tryz.prog 31 #[bookV f] h fun r h' => h = h' /\ ∃ g,r = .bool g /\ (g = false -> Acyc b) := by
 refine w3143 _ _ _ _ _ _ X0_ok ?_
 unfold n3143
 have hn1 := hr.cases.1
 have h5 := o.cases
 refine t_loop (fun mm vs h' => h = h' /\ ∃ i:Nat,vs = [.bool false,.int .i64 i] /\ i <= f.n1 /\ mm = f.n1 - i /\ ∀ j,j < i -> mustG (afterN b) b.cases.length j j = false) ⟨rfl,0,rfl,Nat.zero_le _,rfl,fun j hj => absurd hj (Nat.not_lt_zero _)⟩ ?_
 rintro Y mm vs _ hY ⟨rfl,i,rfl,hi,rfl,hno⟩
 refine gZ ?_
 refine t_if (fun e1 => ?_) (fun e1 => ?_)
 ·rw [show (f.n1:Int) = ((b.cases.length:Nat):Int) by omega]
  refine t_pu (c3170 hr o b.cases.length i i (by omega) (by omega)) ?_
  refine gZ ?_
  refine t_cond (fun _ => ?_) (fun g => ?_)
  ·refine gI ?_
   refine gZ ?_
   exact t_ret ⟨rfl,true,rfl,fun e => by cases e⟩
  ·refine t_again (hY (f.n1 - (i + 1)) _ _ (by omega) ⟨rfl,i + 1,by rw [wrap_id (by omega) (by omega)]; rfl,by omega,rfl,fun j hj => ?_⟩)
   by_cases e:j = i
   ·subst e; exact g
   ·exact hno j (by omega)
 ·refine gZ ?_
  exact t_ret ⟨rfl,false,rfl,fun _ => acyc_of o fun i hi => hno i (by omega)⟩
theorem c3116 {h:LH} {f:BookC} {b:RvBook} (hr:BookR h.get f b):FW X0 Tryz.prog 7 #[bookV f] h fun r h' => h = h' /\ ∃ g:Int,r = .int .i64 g /\ (g = 0 -> BookOk b) := by
 refine w3116 _ _ _ _ _ _ X0_ok ?_
 unfold n3116
 have hn0 := hr.rights.1
 have hb0 := hr.rights.2.1
 have hn1 := hr.cases.1
 have hb1 := hr.cases.2.1
 have hc0 := hr.caps.1
 refine t_if (fun _ => t_ret ⟨rfl,2,rfl,fun e => by cases e⟩) (fun e0 => ?_)
 refine t_loop (fun mm vs h' => h = h' /\ ∃ i:Nat,vs = [.int .i64 0,.int .i64 i] /\ i <= f.n0 /\ mm = f.n0 - i /\ (∀ s ∈ b.rights.take i,NameOk s) /\ (b.rights.take i).Nodup) ⟨rfl,0,rfl,Nat.zero_le _,rfl,(by intro s hs; cases hs),List.nodup_nil⟩ ?_
 rintro Y mm vs _ hY ⟨rfl,i,rfl,hi,rfl,hnm,hnd⟩
 refine gZ ?_
 refine t_if (fun e1 => ?_) (fun e1 => ?_)
 ·obtain ⟨s,a,hx,ha,e2⟩ := hr.rights.at (i := i) (by omega)
  unfold StrE at e2
  have hin:0 <= (i:Int) /\ (i:Int) < (f.n0:Int) := by omega
  refine gZ ?_
  repeat ((first | refine t_loadStr (by assumption) ?_ | refine t_loadV (by assumption) ?_ | refine gL0 (by assumption) ?_); refine gZ ?_)
  refine t_call (FW.top (c3140 s)) ?_
  rintro _ _ ⟨rfl,bn,rfl,hbn⟩
  refine gZ ?_
  refine t_cond (fun _ => ?_) (fun g1 => ?_)
  ·refine gI ?_
   refine gZ ?_
   exact t_ret ⟨rfl,4,rfl,fun e => by cases e⟩
  have hname := hbn (by simpa using g1)
  refine gZ ?_
  repeat ((first | refine t_loadStr (by assumption) ?_ | refine t_loadV (by assumption) ?_ | refine gL0 (by assumption) ?_); refine gZ ?_)
  refine t_sliceHigh und33 inf9 (by omega) ?_
  refine gZ ?_
  repeat ((first | refine t_loadStr (by assumption) ?_ | refine t_loadV (by assumption) ?_ | refine gL0 (by assumption) ?_); refine gZ ?_)
  refine t_call (FW.top (c3141 (slTake hr.rights hi) s)) ?_
  rintro _ _ ⟨rfl,z,rfl,hz⟩
  refine gZ ?_
  refine t_if (fun _ => ?_) (fun g2 => ?_)
  ·refine gI ?_
   refine gZ ?_
   exact t_ret ⟨rfl,5,rfl,fun e => by cases e⟩
  ·have hno := hz (by omega)
   refine t_again (hY (f.n0 - (i + 1)) _ _ (by omega) ⟨rfl,i + 1,by rw [wrap_id (by omega) (by omega)]; rfl,by omega,rfl,fun t ht => ?_,?_⟩)
   ·rw [take_snoc hx,List.mem_append,List.mem_singleton] at ht
    rcases ht with ht | rfl
    ·exact hnm t ht
    ·exact hname
   ·rw [take_snoc hx,List.nodup_append]
    refine ⟨hnd,by simp,fun x hxm y hy => ?_⟩
    rw [List.mem_singleton] at hy
    subst hy
    exact fun e => hno (e ▸ hxm)
 rw [List.take_of_length_le (by omega)] at hnm hnd
 refine gZ ?_
 refine t_if (fun _ => t_ret ⟨rfl,2,rfl,fun e => by cases e⟩) (fun e5 => ?_)
 refine t_loop (fun mm vs h' => h = h' /\ ∃ j:Nat,vs = [.int .i64 0,.int .i64 j] /\ j <= f.n1 /\ mm = f.n1 - j /\ ∀ (k:Nat) c,k < j -> b.cases[k]? = some c -> CaseOk b k c) ⟨rfl,0,rfl,Nat.zero_le _,rfl,fun k c hk => absurd hk (Nat.not_lt_zero _)⟩ ?_
 rintro Y2 mm vs _ hY2 ⟨rfl,j,rfl,hj,rfl,hok⟩
 refine gZ ?_
 refine t_if (fun e2 => ?_) (fun e2 => ?_)
 ·have hcj := List.getElem?_eq_getElem (show j < b.cases.length by omega)
  refine t_call (FW.top (c3142 hr hcj)) ?_
  rintro _ _ ⟨rfl,z,rfl,hz⟩
  refine gZ ?_
  refine t_cond (fun g => ?_) (fun g => ?_)
  ·refine gI ?_
   refine gZ ?_
   exact t_ret ⟨rfl,z,rfl,fun e => by rw [e] at g; cases g⟩
  ·refine t_again (hY2 (f.n1 - (j + 1)) _ _ (by omega) ⟨rfl,j + 1,by rw [wrap_id (by omega) (by omega)]; rfl,by omega,rfl,fun k c hk hc => ?_⟩)
   by_cases e:k = j
   ·subst e
    rw [hcj] at hc; cases hc
    exact hz (by simpa using g)
   ·exact hok k c (by omega) hc
 have hall:∀ c ∈ b.cases,∃ k,b.cases[k]? = some c /\ CaseOk b k c := fun c hc => by
  obtain ⟨k,hk⟩ := List.mem_iff_getElem?.1 hc
  exact ⟨k,hk,hok k c (by have := (List.getElem?_eq_some_iff.1 hk).1; omega) hk⟩
 have o:BookShape b := ⟨by omega,by omega,fun c hc => by obtain ⟨k,_,q⟩ := hall c hc; exact q.against,fun c hc => by obtain ⟨k,_,q⟩ := hall c hc; exact q.grounds,fun c hc => by obtain ⟨k,_,q⟩ := hall c hc; exact q.after⟩
 refine gZ ?_
 refine t_call (FW.top (c3143 hr o)) ?_
 rintro _ _ ⟨rfl,g,rfl,hg⟩
 refine gZ ?_
 refine t_cond (fun _ => t_ret ⟨rfl,8,rfl,fun e => by cases e⟩) (fun g3 => ?_)
 refine t_ret ⟨rfl,0,rfl,fun _ => { toBookShape := o,names := hnm,fresh := hnd,cnames := fun c hc => by obtain ⟨k,_,q⟩ := hall c hc; exact q.name,cfresh := ?_,acyc := hg g3 }⟩
 refine List.pairwise_iff_getElem.2 fun p q hp hq hpq => ?_
 rw [List.length_map] at hp hq
 rw [List.getElem_map,List.getElem_map]
 exact (hok q _ (by omega) (List.getElem?_eq_getElem hq)).fresh p _ hpq (List.getElem?_eq_getElem hp)
end Go.Proofs.YtgljffachdhigaaGreatDoor
end
section
namespace Go.Proofs.YtgljffachdhigaaGreatDoor
open Go Go.TM Go.Proofs Go.TM.Rv
attribute [local irreducible] T.wp CV FWK
theorem c3120 {h:LH} (hc:Checks h.get) {f:BookC} {b:RvBook} (hr:BookR h.get f b) (ok:BookOk b):Gr Tryz.prog 14 #[bookV f] h fun r h' => ∃ p n c q m k,r = .tuple #[.slice p n c,.slice q m k,.int .i64 0] /\ Sl IntE 1 h'.get p n (fatesT b) := by
 refine w3120 _ _ _ _ _ _ X0_ok ?_
 unfold n3120
 refine t_gr (c3151 (f := f) hc hr ok) ?_
 rintro _ h1 le1 rfl
 refine gZ ?_
 refine t_cond (fun e => by cases e) (fun _ => ?_)
 refine t_gr (c3152 (f := f) (hr.le le1.1) ok.toBookShape) ?_
 rintro _ h2 le2 ⟨p,n,c,q,m,k,rfl,s⟩
 refine gZ ?_
 exact t_ret ⟨LH.le_trans le1 le2,p,n,c,q,m,k,rfl,s⟩
theorem c3146 {h:LH} {f:BookC} {b:RvBook} (hr:BookR h.get f b) (o:BookShape b) {i:Nat} (hi:i < b.rights.length):Gr Tryz.prog 46 #[bookV f,.int .i64 i] h fun r _ => r = .int .i64 (fateT b i) := by
 refine w3146 _ _ _ _ _ _ _ X0_ok ?_
 unfold n3146
 refine t_gr (c3152 (f := f) hr o) ?_
 rintro _ h2 le2 ⟨p,n,c,q,m,k,rfl,s⟩
 have hf:(fatesT b)[i]? = some (fateT b i) := by
  unfold fatesT
  rw [List.getElem?_map,List.getElem?_range (by omega)]; rfl
 have hn := s.1
 have hfl:(fatesT b).length = b.rights.length := by unfold fatesT; rw [List.length_map,List.length_range]
 obtain ⟨a,ha,he⟩ := s.2.2 i _ hf
 unfold IntE at he
 have hin:0 <= (i:Int) /\ (i:Int) < (n:Int) := by omega
 refine gZ ?_
 exact t_ret ⟨le2,rfl⟩
end Go.Proofs.YtgljffachdhigaaGreatDoor
end
section
namespace Go.Proofs.YtgljffachdhigaaGreatDoor
open Go Go.TM Go.Proofs Go.ChangeShapes Go.WideShapes Go.RowKit
set_option maxRecDepth 100000
theorem RT:RivalTy Tryz.prog 3 9 30 75 77 34 33 36 where
 int := by kernel_rfl
 int1 := by kernel_rfl
 str := by kernel_rfl
 str1 := by kernel_rfl
 bytes := ⟨of_decide_eq_true (by kernel_rfl),of_decide_eq_true (by kernel_rfl),of_decide_eq_true (by kernel_rfl),of_decide_eq_true (by kernel_rfl)⟩
 ints := by kernel_rfl
 ints1 := by kernel_rfl
 lists := by kernel_rfl
 lists1 := by kernel_rfl
 case := ⟨_,Tryz.underlying77,rfl⟩
 case4 := by kernel_rfl
 cases := by kernel_rfl
 cases1 := by kernel_rfl
 strs := by kernel_rfl
 strs1 := by kernel_rfl
 book := ⟨_,Tryz.underlying36,rfl⟩
 book2 := by kernel_rfl
def checksN : String := "touchmark/rival.checks"
theorem gChecks:Tryz.prog.globalNamed checksN = some 0 := by kernel_rfl
theorem tChecks:(Tryz.prog.globals[0]?).map (·.type) = some 160 := by kernel_rfl
theorem cells1207:Tryz.prog.cellsOf 160 = 3 := by kernel_rfl
theorem array3 {α:Type}:∀ {l:List α},l.length = 3 -> ∃ a b c,l = [a,b,c]
 | [a,b,c],_ => ⟨a,b,c,rfl⟩
theorem checks_of_laid {l:List (String × DataW Unit)} {W:World} (h:laidMetH Tryz.prog l W) (hm:(checksN,Rows.laid_touchmark_rival_checks) ∈ l):Checks (getW W) := by
 obtain ⟨g,t,cs,fuel,p,hg,ht,hv,hd⟩ := laidMetH.funcs h (n := checksN) hm
 obtain rfl := Option.some.inj (gChecks.symm.trans hg)
 obtain rfl := Option.some.inj (tChecks.symm.trans ht)
 obtain ⟨xs,m,_,hx,hl,hn,hel⟩ := DataW.trod_array Tryz.underlying160 hd
 rw [cells1207] at hl
 have hcell:∀ j:Nat,W.cell? ⟨0,j,none⟩ = cs[j]? := World.var?_cell gChecks hv
 obtain ⟨x0,x1,x2,rfl⟩ := array3 hn
 obtain ⟨v0,v1,v2,hc⟩ := array3 hl
 have e1:Tryz.prog.cellsOf 159 = 1 := by kernel_rfl
 have ec:∀ j:Nat,cs[j]? = [v0,v1,v2][j]? := fun j => by rw [<- hc]; simp
 simp only [Prod.mk.injEq] at hx
 obtain ⟨hx,_⟩ := hx
 simp only [DataW.funcsOut,DataW.funcsOutAll,List.map_cons,List.map_nil,DataW.agg.injEq,List.cons.injEq,beq_self_eq_true,if_true,and_true] at hx
 obtain ⟨h0,h1,h2⟩ := hx
 have k0 := hel 0 (by decide)
 have k1 := hel 1 (by decide)
 have k2 := hel 2 (by decide)
 rw [hc,e1] at k0 k1 k2
 obtain ⟨d0,q0⟩ := x0; obtain ⟨d1,q1⟩ := x1; obtain ⟨d2,q2⟩ := x2
 simp only at h0 h1 h2
 subst h0; subst h1; subst h2
 have r0:v0 = .func (.func 201) #[] #[] := func_of_trod (P := Tryz.prog) Tryz.underlying159 (by kernel_rfl) k0
 have r1:v1 = .func (.func 202) #[] #[] := func_of_trod (P := Tryz.prog) Tryz.underlying159 (by kernel_rfl) k1
 have r2:v2 = .func (.func 203) #[] #[] := func_of_trod (P := Tryz.prog) Tryz.underlying159 (by kernel_rfl) k2
 refine ⟨getW_cell ?_,getW_cell ?_,getW_cell ?_⟩
 ·rw [hcell,ec]; simp [r0]
 ·rw [hcell,ec]; simp [r1]
 ·rw [hcell,ec]; simp [r2]
end Go.Proofs.YtgljffachdhigaaGreatDoor
end
section
namespace Go.TM.Rv
open Go Go.Conc Go.TM
section
variable {P:Program} {X:XP} {Q:Leaf -> LH -> Prop}
theorem t_makeSlice0 {h:LH} {K:Value -> T} {t el:TypeId} {m b:Nat} {z:Value} (hu:P.underlying t = some (.slice el)) (hi:(P.info? el).map (fun i => (i.size,i.bytes,i.zero)) = some (1,b,some z)) (hz:z.cells = #[z]) (hb:b <= 1024) (hn:m <= 2 ^ 30)
  (hk:∀ r cs,h.get r = none -> cs.size = m -> (K (.slice (some ⟨r,0,none⟩) 0 m)).wp X P Q { h with get := h.get.upd r (true,.cells cs el (0,0)) }):(T.sem false (Instr.makeSlice t (.int .i64 0) (.int .i64 (m:Int))) K).wp X P Q h := by
 obtain ⟨inf,g1,g2,g3,g4⟩ := info_of hi
 refine t_sem (A := fun v h' => ∃ r cs,h.get r = none /\ cs.size = m /\ v = .slice (some ⟨r,0,none⟩) 0 m /\ h' = h.get.upd r (true,.cells cs el (0,0))) ?_ (by rintro v h' ⟨r,cs,h1,h2,rfl,rfl⟩; exact hk r cs h1 h2)
 unfold Instr.makeSlice
 have hw:IntKind.i64.wrap (m:Int) = m := wrap_id (by omega) (by omega)
 have hw0:IntKind.i64.wrap 0 = 0 := wrap_id (by omega) (by omega)
 simp only [lwp_bind,lwp_underlying hu,asInt,asIntOf,lwp_pure,lwp_typeInfo g1,hw,hw0,g3]
 have hbn:b * m <= 1024 * 2 ^ 30 := Nat.mul_le_mul hb hn
 have hle:((b:Int) * (m:Int)) <= 1024 * 2 ^ 30 := by
  have:((b * m:Nat):Int) <= ((1024 * 2 ^ 30:Nat):Int) := Int.ofNat_le.2 hbn
  simpa using this
 rw [if_neg (by simp; omega)]
 have hroom':∀ {k:Nat} {K:Unit -> Cells -> Prop},K () h.get -> Sem.lwp P (askRoom k) K (fun _ _ => False) h.get := by
  intro k K hK
  unfold askRoom
  split
  ·exact ⟨rfl,hK⟩
  ·exact hK
 simp only [lwp_bind]
 refine hroom' ?_
 simp only [lwp_sizeOf g1,g2,Nat.mul_one,Int.toNat_natCast]
 have fin:∀ zs:Array Value,Sem.lwp P (newRow el ((Array.range m).map fun x => zs[x % zs.size]!)) (fun a h' => Sem.lwp P (pure (Value.slice (some a) 0 m)) (fun v h' => ∃ r cs,h.get r = none /\ cs.size = m /\ v = .slice (some ⟨r,0,none⟩) 0 m /\ h' = h.get.upd r (true,.cells cs el (0,0))) (fun _ _ => False) h') (fun _ _ => False) h.get := by
  intro zs
  refine lwp_newRow fun r hr => ?_
  rw [lwp_pure]
  exact ⟨r,_,hr,by simp,rfl,rfl⟩
 by_cases h0:m = 0
 ·simp only [h0,if_true,lwp_pure]
  subst h0
  exact fin #[]
 ·simp only [if_neg h0,lwp_bind,lwp_zeroValue g1 g4,lwp_pure,hz]
  exact fin #[z]
theorem vis_rd {h₀ h1 h2:Cells} {p:Option Addr} (hl:Rd h1 h2):Rd (vis h₀ p h1) (vis h₀ p h2) := by
 intro a v hv
 have key:∀ (g:Cells) w,(vis h₀ p g).cell? a = some w ↔ ((h₀ a.block).isNone && decide (p.map (·.block) ≠ some a.block)) = true /\ g.cell? a = some w := by
  intro g w
  unfold Cells.cell? vis
  by_cases e:((h₀ a.block).isNone && decide (p.map (·.block) ≠ some a.block)) = true
  ·simp only [if_pos e]
   exact ⟨fun h => ⟨e,h⟩,fun h => h.2⟩
  ·simp only [if_neg e]
   constructor
   ·intro h
    cases h
   ·intro h; exact absurd h.1 e
 obtain ⟨h1',h2'⟩ := (key _ _).1 hv
 exact (key _ _).2 ⟨h1',hl _ _ h2'⟩
theorem t_pushV {α:Type} {En:Cells -> α -> List Value -> Prop} (up:∀ g g' x ws,Rd g g' -> En g x ws -> En g' x ws) {h h₀:LH} {K:Value -> T} {ts:Array TypeId} {ty t el:TypeId} {s by_:Nat} {z:Value} {parts:Array (Nat × Value)} {p:Option Addr} {n c:Nat} {l:List α} (x:α) (ws:List Value) (h0:ts[0]? = some t) (h1:ts[1]? = some t) (hu:P.underlying t = some (.slice el))
  (hi:(P.info? el).map (fun i => (i.size,i.bytes,i.zero)) = some (s,by_,some z)) (hsz:z.cells.size = s) (hb:by_ <= 1024) (hs:1 * s <= 2 ^ 24 /\ 1 * s ≠ 0) (hf:Instr.fill (fun i => some (i * s,s)) ((Array.range (1 * s)).map (z.cells[· % z.cells.size]!)) parts.toList = some ws.toArray)
  (hl:ws.length = s) (one:∀ v ∈ ws,isOne v = true) (hn:n + 1 <= 2 ^ 30) (g:Growing (En (vis h₀.get p h.get)) el s h₀.get h.get p n c l) (hle:h₀.le h) (he:En (vis h₀.get p h.get) x ws)
  (hk:∀ p' c' h',h₀.le h' -> (∀ r y,(∀ a,p = some a -> a.block ≠ r) -> h.get r = some y -> h'.get r = some y) -> Growing (En (vis h₀.get p' h'.get)) el s h₀.get h'.get p' (n + 1) c' (l ++ [x]) -> (K (.slice p' (n + 1) c')).wp X P Q h') :
  (T.sem false (Instr.buildSlice t 1 parts) fun v => T.unS v fun a m mc => T.sem false (Builtin.append_ ts ty #[.slice p n c,.slice a m mc]) K).wp X P Q h := by
 refine t_build hu hi hs.1 hs.2 hf fun r hr => ?_
 have le2:h.le _ := LH.upd_le (x := (true,.cells ws.toArray el (0,0))) hr
 refine gG ?_
 have up2:∀ y w,En (vis h₀.get p h.get) y w -> En (vis h₀.get p (h.get.upd r (true,.cells ws.toArray el (0,0)))) y w := fun y w hy => up _ _ _ _ (Rd.of_le (vis_le le2.1)) hy
 refine t_growP (h₀ := h₀) (x := x) (ws := ws) (Enc := En (vis h₀.get p (h.get.upd r (true,.cells ws.toArray el (0,0))))) h0 h1 hu hu hi hsz hb hn ((g.le le2.1).mono up2) (LH.le_trans hle le2) (up2 _ _ he) hl ?_ one fun p' c' h' hle' hkept hp' g' => ?_
 ·intro j w hj
  rw [add_plain,Nat.zero_add]
  exact cell_upd (by simpa using hj)
 ·refine hk p' c' h' hle' (fun b y hb hy => hkept b y hb (le2.1 _ _ hy)) (g'.mono fun y w hy => up _ _ _ _ (Rd.of_le (vis_up hkept hp')) hy)
theorem vis_own {α β:Type} {E:Cells -> Addr -> β -> Prop} {Enc:α -> List Value -> Prop} {Enc':β -> List Value -> Prop} {el el':TypeId} {s s':Nat} {h₀ h1 h2:LH} {p q:Option Addr} {n c m k:Nat} {l:List α} {x:List β} (hk:∀ x ws,Enc' x ws -> ws.length = s') (hpos:0 < s') (hE:∀ (g:Cells) a x ws,Enc' x ws -> (∀ (j:Nat) w,ws[j]? = some w -> g.cell? (a.add j) = some w) -> E g a x)
  (hle:h₀.le h1) (gp:Growing Enc el s h₀.get h1.get p n c l) (g:Growing Enc' el' s' h1.get h2.get q m k x) (hb:x.length < 4611686018427387904):Sl E s' (vis h₀.get p h2.get) q m x := by
 obtain ⟨vs,o,r⟩ := g.row
 refine r.sl hk hpos (hE _) (o.vis g.new hle.1 fun a ha => ?_) hb
 obtain ⟨ws,⟨_,hh⟩,_⟩ := gp.row
 rcases hh with ⟨hp,_⟩ | ⟨r',cs,hp,hr,_⟩
 ·rw [hp] at ha; cases ha
 ·rw [hp] at ha
  cases ha
  exact ⟨_,hr⟩
end
def StrEnc (s:ByteArray) (ws:List Value):Prop := ws = [.string s]
theorem StrEnc.len:∀ x ws,StrEnc x ws -> ws.length = 1 := by rintro x _ rfl; rfl
theorem StrE.told {h:Cells}:ToldE StrE StrEnc 1 h := by
 rintro a x h1
 refine ⟨_,rfl,rfl,fun j w hj => ?_,fun w hw => by simp at hw; subst hw; rfl⟩
 match j,hj with
 | 0,hj =>
  cases hj
  have e:a.add 0 = a := by simp [Addr.add]
  rw [e]; exact h1
 | j + 1,hj => simp at hj
theorem StrEnc.e {h':Cells}:∀ a x ws,StrEnc x ws -> (∀ (j:Nat) w,ws[j]? = some w -> h'.cell? (a.add j) = some w) -> StrE h' a x := by
 rintro a x _ rfl hc
 have := hc 0 _ rfl
 have e:a.add 0 = a := by simp [Addr.add]
 rw [e] at this
 exact this
def LsEnc (g:Cells) (x:List Int) (ws:List Value):Prop := ∃ q m c,ws = [.slice q m c] /\ Sl IntE 1 g q m x
theorem LsEnc.len {g:Cells}:∀ x ws,LsEnc g x ws -> ws.length = 1 := by rintro x _ ⟨q,m,c,rfl,_⟩; rfl
theorem LsEnc.up:∀ g g' x ws,Rd g g' -> LsEnc g x ws -> LsEnc g' x ws := by
 rintro g g' x ws hl ⟨q,m,c,h1,h2⟩
 exact ⟨q,m,c,h1,h2.rd IntE.grow hl⟩
theorem LsEnc.e {g h':Cells} (hl:Rd g h'):∀ a x ws,LsEnc g x ws -> (∀ (j:Nat) w,ws[j]? = some w -> h'.cell? (a.add j) = some w) -> LsE h' a x := by
 rintro a x _ ⟨q,m,c,rfl,h2⟩ hc
 have := hc 0 _ rfl
 have e:a.add 0 = a := by simp [Addr.add]
 rw [e] at this
 exact ⟨q,m,c,this,h2.rd IntE.grow hl⟩
end Go.TM.Rv
namespace Go.Proofs.YtgljffachdhigaaGreatDoor
open Go Go.TM Go.Proofs Go.TM.Rv
attribute [local irreducible] T.wp CV FWK
theorem c3137 {h:LH} {p:Option Addr} {n c:Nat} {l:List Int} (hl:Sl IntE 1 h.get p n l) (h30:l.length <= 2 ^ 29):Gr Tryz.prog 128 #[.slice p n c] h fun r h' => ∃ p' c',r = .slice p' n c' /\ Growing IntEnc 3 1 h.get h'.get p' n c' l := by
 refine w3137 _ _ _ X0_ok ?_
 unfold n3137
 have hn := hl.1
 refine t_eqNil und50 ?_
 refine gZ ?_
 refine t_cond (fun e1 => ?_) (fun e1 => ?_)
 ·have hp:p = none := by cases p with | none => rfl | some a => cases e1
  subst hp
  have h0:l = [] := by
   cases l with
   | nil => rfl
   | cons x l =>
    obtain ⟨a,ha,_⟩ := hl.2.2 0 x rfl
    cases ha
  subst h0
  have hn0:n = 0 := hn
  subst hn0
  exact t_ret ⟨LH.le_refl _,none,0,rfl,Growing.nil⟩
 ·refine t_build0G (h₀ := h) (Enc := IntEnc) und50 inf3 (LH.le_refl _) fun r0 h1 hr0 le1 g1 => ?_
  refine gZ ?_
  refine t_copy (h₀ := h) rfl rfl und50 und50 inf3 rfl (by omega) (by omega) g1 le1 (hl.le IntE.grow le1.1) IntE.told fun p2 c2 h2 le2 _ g2 => ?_
  refine gZ ?_
  rw [List.nil_append,Nat.zero_add] at g2
  rw [Nat.zero_add]
  exact t_ret ⟨le2,p2,c2,rfl,g2⟩
theorem c3171 {h:LH} {p:Option Addr} {n c:Nat} {l:List ByteArray} (hl:Sl StrE 1 h.get p n l) (h30:l.length <= 2 ^ 29):Gr Tryz.prog 90 #[.slice p n c] h fun r h' => ∃ p' c',r = .slice p' n c' /\ n <= c' /\ Sl StrE 1 h'.get p' n l := by
 refine w3171 _ _ _ X0_ok ?_
 unfold n3171
 have hn := hl.1
 refine t_eqNil und33 ?_
 refine gZ ?_
 refine t_cond (fun e1 => ?_) (fun e1 => ?_)
 ·have hp:p = none := by cases p with | none => rfl | some a => cases e1
  subst hp
  have h0:l = [] := by
   cases l with
   | nil => rfl
   | cons x l =>
    obtain ⟨a,ha,_⟩ := hl.2.2 0 x rfl
    cases ha
  subst h0
  have hn0:n = 0 := hn
  subst hn0
  exact t_ret ⟨LH.le_refl _,none,0,rfl,Nat.le_refl _,Sl.nil⟩
 ·refine t_build0G (h₀ := h) (Enc := StrEnc) und33 inf9 (LH.le_refl _) fun r0 h1 hr0 le1 g1 => ?_
  refine gZ ?_
  refine t_copy (h₀ := h) rfl rfl und33 und33 inf9 rfl (by omega) (by omega) g1 le1 (hl.le StrE.grow le1.1) StrE.told fun p2 c2 h2 le2 _ g2 => ?_
  refine gZ ?_
  have hcap:0 + n <= c2 := by obtain ⟨vs,o,_⟩ := g2.row; exact o.le_cap
  rw [List.nil_append,Nat.zero_add] at g2
  rw [Nat.zero_add] at hcap ⊢
  exact t_ret ⟨le2,p2,c2,rfl,hcap,g2.sl StrEnc.len (by omega) StrEnc.e (by omega)⟩
theorem und106':Tryz.prog.underlying 75 = some (.slice 30) := by kernel_rfl
theorem inf50':(Tryz.prog.info? 30).map (fun i => (i.size,i.bytes,i.zero)) = some (1,24,some (.slice none 0 0)) := by kernel_rfl
theorem c3172 {h:LH} {nm:ByteArray} {ag:Int} {p1 p2:Option Addr} {n1 k1 n2 k2:Nat} {gs:List (List Int)} {af:List Int} (hg:Sl LsE 1 h.get p1 n1 gs) (hg3:gs.length <= 3 /\ ∀ g ∈ gs,g.length <= 3) (ha:Sl IntE 1 h.get p2 n2 af) (ha5:af.length <= 100) :
  Gr Tryz.prog 91 #[.agg #[.string nm,.int .i64 ag,.slice p1 n1 k1,.slice p2 n2 k2]] h fun r h' => ∃ q c q' m' c',r = .agg #[.string nm,.int .i64 ag,.slice q n1 c,.slice q' m' c'] /\ Growing (LsEnc (vis h.get q h'.get)) 30 1 h.get h'.get q n1 c gs := by
 refine w3172 _ _ _ _ _ _ _ _ X0_ok ?_
 unfold n3172
 have hn := hg.1
 refine t_makeSlice0 und106' inf50' rfl (by decide) (by omega) fun r cs hr hcs => ?_
 have l1 := LH.upd_le (h := h) (x := (true,.cells cs 30 (0,0))) hr
 refine gZ ?_
 refine t_loop (fun mm vs h' => h.le h' /\ ∃ (i:Nat) (p:Option Addr) (c:Nat),vs = [.slice p i c,.int .i64 i] /\ i <= n1 /\ mm = n1 - i /\ Growing (LsEnc (vis h.get p h'.get)) 30 1 h.get h'.get p i c (gs.take i))
  ⟨l1,0,some ⟨r,0,none⟩,n1,rfl,Nat.zero_le _,rfl,⟨⟨[],⟨by simp,.inr ⟨r,cs,rfl,Cells.upd_self _ _ _,by rw [hcs,Nat.mul_one],Nat.zero_le _,fun j v hv => by simp at hv⟩⟩,.nil⟩,fun a ha => by cases ha; exact hr⟩⟩ ?_
 rintro Y mm vs h1 hY ⟨le1,i,p,c,rfl,hi,rfl,gr⟩
 refine gZ ?_
 refine t_if (fun e1 => ?_) (fun e1 => ?_)
 ·obtain ⟨x,a,hx,hax,q,m,k,e2,e3⟩ := (hg.le LsE.grow le1.1).at (i := i) (by omega)
  have hin:0 <= (i:Int) /\ (i:Int) < (n1:Int) := by omega
  have hx3 := hg3.2 x (List.mem_of_getElem? hx)
  refine gZ ?_
  refine t_gr (c3137 e3 (by omega)) ?_
  rintro _ h2 le2 ⟨p',c',rfl,g2⟩
  refine gZ ?_
  refine t_pushV (h₀ := h) (En := LsEnc) LsEnc.up x [.slice p' m c'] rfl rfl und106' inf50' rfl (by decide) (by decide) (by kernel_rfl) rfl (by simp; rfl) (by omega) ((gr.le le2.1).mono fun y w hy => LsEnc.up _ _ y w (Rd.of_le (vis_le le2.1)) hy) (LH.le_trans le1 le2) ⟨p',m,c',rfl,vis_own IntEnc.len (by omega) (fun g => IntEnc.e) le1 gr g2 (by omega)⟩ fun p3 c3 h3 le3 _ g3 => ?_
  refine gZ ?_
  refine t_again (hY (n1 - (i + 1)) _ _ (by omega) ⟨le3,i + 1,p3,c3,?_,by omega,rfl,?_⟩)
  ·rw [wrap_id (by omega) (by omega)]; rfl
  ·rw [List.take_add_one,hx]; exact g3
 ·have hin:i = n1 := by omega
  subst hin
  rw [List.take_of_length_le (by omega)] at gr
  refine gZ ?_
  refine t_gr (c3137 (ha.le IntE.grow le1.1) (by omega)) ?_
  rintro _ h2 le2 ⟨p',c',rfl,g2⟩
  refine gZ ?_
  exact t_ret ⟨LH.le_trans le1 le2,p,c,p',n2,c',rfl,(gr.le le2.1).mono fun y w hy => LsEnc.up _ _ y w (Rd.of_le (vis_le le2.1)) hy⟩
end Go.Proofs.YtgljffachdhigaaGreatDoor
end
section
namespace Go.TM.Rv
open Go Go.Conc Go.TM
section
variable {P:Program} {X:XP} {Q:Leaf -> LH -> Prop}
theorem t_appendKeep {h B:LH} {K:Value -> T} {ts:Array TypeId} {ty sT xT el xe:TypeId} {by_:Nat} {p:Option Addr} {n c mc:Nat} {b:Addr} {l:List Int} {x:Int} (h0:ts[0]? = some sT) (h1:ts[1]? = some xT) (hu:P.underlying sT = some (.slice el)) (hx:P.underlying xT = some (.slice xe))
  (hi:(P.info? el).map (fun i => (i.size,i.bytes,i.zero)) = some (1,by_,some (.int .i64 0))) (hb:by_ <= 1024) (hn:n + 1 <= 2 ^ 30) (hB:B.le h) (g:Growing IntEnc el 1 B.get h.get p n c l) (hc:h.get.cell? (b.add 0) = some (.int .i64 x))
  (hk:∀ p' c' h',B.le h' -> (∀ r y,(∀ a,p = some a -> a.block ≠ r) -> h.get r = some y -> h'.get r = some y) -> ((p' = p /\ c' = c) \/ ((∃ r,p' = some ⟨r,0,none⟩ /\ h.get r = none) /\ h.le h')) -> Growing IntEnc el 1 B.get h'.get p' (n + 1) c' (l ++ [x]) -> (K (.slice p' (n + 1) c')).wp X P Q h'):(T.sem false (Builtin.append_ ts ty #[.slice p n c,.slice (some b) 1 mc]) K).wp X P Q h := by
 obtain ⟨inf,g1,g2,g3,g4⟩ := info_of hi
 refine t_sem (A := fun v h' => (K v).wp X P Q { h with get := h' }) ?_ (by intro v h' hh; exact hh)
 obtain ⟨vs,⟨hvl,hown⟩,hrows⟩ := g.row
 have hnew := g.new
 unfold Builtin.append_
 rw [h0,h1]
 simp only [List.getElem?_toArray,List.getElem?_cons_zero,List.getElem?_cons_succ]
 simp only [lwp_bind,lwp_underlying hu,lwp_sizeOf g1,lwp_underlying hx,lwp_pure,Bool.false_eq_true,if_false,Bool.not_false,if_true,Builtin.lenOf]
 by_cases hroom:n + 1 <= c
 ·simp only [if_pos hroom,lwp_bind,Builtin.firstCells]
  refine lwp_loads (l := [Value.int .i64 x]) (by rw [g2]; rfl) (fun j v hj => by match j,hj with | 0,hj => cases hj; exact hc) ?_
  rcases hown with ⟨rfl,rfl,rfl⟩ | ⟨r,cs,rfl,hr,hcs,hnc,hv⟩
  ·omega
  ·simp only []
   have ha:Addr.add ⟨r,0,none⟩ (n * inf.size) = ⟨r,n,none⟩ := by rw [g2]; unfold Addr.add; split <;> simp_all
   rw [ha]
   rw [lwp_bind]
   refine lwp_storeCells [Value.int .i64 x] 0 h.get r n cs el hr (by simp; omega) (fun v hv => by simp at hv; subst hv; rfl) ?_
   rw [lwp_pure]
   have hBr:B.get r = none := hnew _ rfl
   refine hk _ c { h with get := h.get.upd r (true,.cells (setMany cs n [Value.int .i64 x]) el (0,0)) } (le_updNew0 hB hBr) ?_ (.inl ⟨rfl,rfl⟩) ⟨⟨vs ++ [.int .i64 x],⟨by simp at hvl ⊢; omega,.inr ⟨r,_,rfl,Cells.upd_self _ _ _,?_,hroom,?_⟩⟩,.snoc hrows (show IntEnc x [Value.int .i64 x] from rfl)⟩,hnew⟩
   ·intro r' x' hne hx'
    have:r' ≠ r := fun e => hne _ rfl e.symm
    show h.get.upd r _ r' = _
    rw [Cells.upd_ne _ _ this]; exact hx'
   ·rw [size_setMany]; exact hcs
   ·intro j v hj
    rw [setMany_get (by simp; omega)]
    by_cases hlt:j < vs.length
    ·rw [if_neg (by simp at hvl; omega)]
     rw [List.getElem?_append_left hlt] at hj
     exact hv j v hj
    ·rw [List.getElem?_append_right (by omega)] at hj
     have hj':j - vs.length < 1 := (List.getElem?_eq_some_iff.1 hj).1
     rw [if_pos (by simp at hvl ⊢; omega),<- hj]; congr 1; simp at hvl; omega
 ·have hnot:¬ ((((n + 1:Nat):Int) > IntKind.i64.max) /\ (False \/ inf.bytes = 0)) := by
   rintro ⟨h1,_⟩
   have e:IntKind.i64.max = 9223372036854775807 := rfl
   rw [e] at h1; omega
  have hcap := nextslicecap_le (Nat.lt_of_not_le hroom)
  have hbytes:¬ (Builtin.nextslicecap (n + 1) c * inf.bytes > 2 ^ 48) := by
   have := Nat.mul_le_mul hcap (show inf.bytes <= 1024 by omega)
   have h2:(2 * (n + 1) + 400) * 1024 <= (2 * 2 ^ 30 + 400) * 1024 := Nat.mul_le_mul_right _ (by omega)
   have:(2 * 2 ^ 30 + 400) * 1024 <= 2 ^ 48 := by decide
   omega
  simp only [if_neg hroom,lwp_bind,lwp_typeInfo g1,if_neg hnot,if_neg hbytes,lwp_pure]
  have hch:∀ {K:Nat -> Cells -> Prop},(∀ a,n + 1 <= a -> K a h.get) -> Sem.lwp P (choose (Question.appendCap (n + 1) c el)) K (fun _ _ => False) h.get := by
   intro K hK
   show (if _ then _ else _)
   split
   ·rename_i hf; simp [Question.forced] at hf
   ·intro t; exact hK _ (Nat.le_add_right _ _)
  refine hch fun a ha => ?_
  have hroom':∀ {K:Unit -> Cells -> Prop},K () h.get -> Sem.lwp P (askRoom (a * inf.bytes)) K (fun _ _ => False) h.get := by
   intro K hK
   unfold askRoom
   split
   ·exact ⟨rfl,hK⟩
   ·exact hK
  refine hroom' ?_
  have hold:∀ {K:Array Value -> Cells -> Prop},(∀ old:Array Value,old.toList = vs -> K old h.get) -> Sem.lwp P (Builtin.firstCells inf.size n (Value.slice p n c)) K (fun _ _ => False) h.get := by
   intro K hK
   rw [g2]
   rcases hown with ⟨rfl,rfl,rfl⟩ | ⟨r,cs,rfl,hr,hcs,hnc,hv⟩
   ·have:vs = [] := List.eq_nil_of_length_eq_zero (by rw [hvl])
    simp only [Builtin.firstCells,lwp_pure]
    exact hK #[] (by rw [this])
   ·simp only [Builtin.firstCells]
    refine lwp_loads (l := vs) hvl (fun j v hj => ?_) (hK _ rfl)
    have e:Addr.add ⟨r,0,none⟩ j = ⟨r,j,none⟩ := by unfold Addr.add; split <;> simp_all
    rw [e]
    simp only [Cells.cell?,hr,Option.isSome_none,Bool.false_eq_true,if_false]
    exact hv j v hj
  refine hold fun old hold => ?_
  simp only [Builtin.firstCells]
  refine lwp_loads (l := [Value.int .i64 x]) (by rw [g2]; rfl) (fun j v hj => by match j,hj with | 0,hj => cases hj; exact hc) ?_
  simp only [lwp_zeroValue g1 g4]
  refine lwp_newRow fun r hr => ?_
  have e1:old.size = n := by rw [<- Array.length_toList,hold,hvl]; simp
  have hzs:(Builtin.zeroCells (Value.int .i64 0).cells (a - (n + 1))).size = a - (n + 1) := by simp [Builtin.zeroCells,Value.cells]
  have hle:h.le { h with get := h.get.upd r (true,.cells (old ++ [Value.int .i64 x].toArray ++ Builtin.zeroCells (Value.int .i64 0).cells (a - (n + 1))) el (0,0)) } := LH.upd_le hr
  refine hk (some ⟨r,0,none⟩) a _ (LH.le_trans hB hle) (fun r' y _ hy => hle.1 _ _ hy) (.inr ⟨⟨r,rfl,hr⟩,hle⟩) ⟨⟨vs ++ [.int .i64 x],⟨by simp at hvl ⊢; omega,.inr ⟨r,_,rfl,Cells.upd_self _ _ _,?_,ha,fun j v hj => ?_⟩⟩,.snoc hrows (show IntEnc x [Value.int .i64 x] from rfl)⟩,fun ad hh => by cases hh; exact none_le hB hr⟩
  ·simp only [Array.size_append,e1,hzs]
   show n + 1 + (a - (n + 1)) = a * 1
   omega
  ·have hlt:j < (vs ++ [Value.int .i64 x]).length := (List.getElem?_eq_some_iff.1 hj).1
   rw [<- Array.getElem?_toList,Array.toList_append,Array.toList_append,hold,List.getElem?_append_left (by simpa using hlt)]
   exact hj
end
theorem grow_prefix {B:Cells} {h:Cells} {el:TypeId} {p:Option Addr} {n c:Nat} {l:List Int} {x:Int} (hn:n = l.length) (hp:n <= c) (g:Growing IntEnc el 1 B h p (n + 1) c (l ++ [x])):Growing IntEnc el 1 B h p n c l := by
 obtain ⟨vs,⟨h1,h2⟩,h3⟩ := g.row
 have hvs:vs = (l ++ [x]).map (Value.int .i64) := by
  have key:∀ {vs:List Value} {l:List Int},Rows IntEnc vs l -> vs = l.map (Value.int .i64) := by
   intro vs l r
   induction r with
   | nil => rfl
   | snoc _ he ih => rw [ih,he,List.map_append]; rfl
  exact key h3
 refine ⟨⟨l.map (Value.int .i64),⟨by rw [List.length_map]; omega,?_⟩,rows_ints l⟩,g.new⟩
 rcases h2 with ⟨_,h2,_⟩ | ⟨r,cs,e1,e2,e3,e4,e5⟩
 ·omega
 ·refine .inr ⟨r,cs,e1,e2,e3,hp,fun j v hj => e5 j v ?_⟩
  rw [hvs,List.map_append,List.getElem?_append_left (List.getElem?_eq_some_iff.1 hj).1]
  exact hj
def combT (of:List Int):Nat -> List Int -> Nat -> List (List Int)
 | 0,x,_ => [x]
 | k + 1,x,i => ((List.range of.length).drop i).flatMap fun j => combT of k (x ++ [of.getD j 0]) (j + 1)
theorem comb_all (of:List Int):∀ (k i:Nat) (x:List Int),i + k = of.length -> (x ++ of.drop i) ∈ combT of k x i
 | 0,i,x,h => by
  rw [List.drop_eq_nil_of_le (by omega)]
  simp [combT]
 | k + 1,i,x,h => by
  have hi:i < of.length := by omega
  rw [combT,List.mem_flatMap]
  refine ⟨i,?_,?_⟩
  ·rw [List.drop_eq_getElem_cons (by rw [List.length_range]; exact hi),List.getElem_range]
   simp
  ·have := comb_all of k (i + 1) (x ++ [of.getD i 0]) (by omega)
   rw [List.append_assoc] at this
   have e:[of.getD i 0] ++ of.drop (i + 1) = of.drop i := by
    rw [List.drop_eq_getElem_cons hi,List.getD_eq_getElem?_getD,List.getElem?_eq_getElem hi]; rfl
   rw [e] at this
   exact this
theorem comb_in (of:List Int):∀ (k i:Nat) (x:List Int),(∀ v ∈ x,v ∈ of) -> ∀ y ∈ combT of k x i,∀ v ∈ y,v ∈ of
 | 0,i,x,h,y,hy => by simp [combT] at hy; rw [hy]; exact h
 | k + 1,i,x,h,y,hy => by
  rw [combT,List.mem_flatMap] at hy
  obtain ⟨j,hj,hy⟩ := hy
  have hjl:j < of.length := by
   have := List.mem_of_mem_drop hj
   exact List.mem_range.1 this
  refine comb_in of k (j + 1) _ (fun v hv => ?_) y hy
  rcases List.mem_append.1 hv with hv | hv
  ·exact h v hv
  ·have:v = of.getD j 0 := by simpa using hv
   rw [this,List.getD_eq_getElem?_getD,List.getElem?_eq_getElem hjl]
   exact List.getElem_mem hjl
theorem comb_len (of:List Int):∀ (k i:Nat) (x:List Int),∀ y ∈ combT of k x i,y.length = x.length + k
 | 0,i,x,y,hy => by simp [combT] at hy; rw [hy]; rfl
 | k + 1,i,x,y,hy => by
  rw [combT,List.mem_flatMap] at hy
  obtain ⟨j,_,hy⟩ := hy
  rw [comb_len of k (j + 1) _ y hy,List.length_append,List.length_singleton]
  omega
end Go.TM.Rv
end
section
namespace Go.TM.Rv
open Go Go.Conc Go.TM
theorem sem_frame {P:Program} {X:XP} {Q:Leaf -> LH -> Prop} {s:Sem Value} {a:LH} {M:Cells} {K:Value -> T} (d:Disj a.get M) {V:Value -> LH -> Prop} (hs:(T.sem false s fun v => .leaf (.ret v)).wp X P (retQ V) a) (hk:∀ v a',Disj a'.get M -> V v a' -> (K v).wp X P Q (a'.add M)):(T.sem false s K).wp X P Q (a.add M) := by
 have h1:Sem.lwp P s (fun v h' => (false = true -> a.get.le h') /\ V v { a with get := h' }) (fun _ _ => False) a.get := hs
 refine t_sem (A := fun v h' => ∃ g,Disj g M /\ h' = g.add M /\ V v { a with get := g }) (Sem.lwp_mono _ (lwp_frame _ h1 d) ?_ ?_) ?_
 ·rintro v h2 ⟨g,d',e,_,hv⟩
  exact ⟨g,d',e,hv⟩
 ·rintro e h2 ⟨_,_,_,hf⟩
  exact hf.elim
 ·rintro v h2 ⟨g,d',rfl,hv⟩
  exact hk v { a with get := g } d' hv
theorem grow_kept {B:Cells} {a a':LH} {el:TypeId} {p:Option Addr} {n c:Nat} {l:List Int} (hk:∀ ad y,p = some ad -> a.get ad.block = some y -> a'.get ad.block = some y) (g:Growing IntEnc el 1 B a.get p n c l):Growing IntEnc el 1 B a'.get p n c l := by
 obtain ⟨vs,⟨h1,h2⟩,h3⟩ := g.row
 refine ⟨⟨vs,⟨h1,?_⟩,h3⟩,g.new⟩
 rcases h2 with h2 | ⟨r,cs,e1,e2,e3⟩
 ·exact .inl h2
 ·exact .inr ⟨r,cs,e1,hk _ _ e1 e2,e3⟩
theorem grow_cap {B h:Cells} {el:TypeId} {p:Option Addr} {n c:Nat} {l:List Int} (g:Growing IntEnc el 1 B h p n c l):n <= c := by
 obtain ⟨vs,o,_⟩ := g.row
 exact o.le_cap
theorem hand {a a2:LH} {M:Cells} (hl:a.le a2) (d:Disj a2.get M):a2.add M = a.add ((diff a.get a2.get).add M) /\ Disj a.get ((diff a.get a2.get).add M) := by
 constructor
 ·have e:(a.add (diff a.get a2.get)).add M = a.add ((diff a.get a2.get).add M) := by
   show ({ a with get := (a.get.add _).add M }:LH) = { a with get := a.get.add _ }
   rw [Cells.add_assoc]
  rw [diff_add hl] at e
  exact e
 ·intro r
  rcases diff_disj a.get a2.get r with h | h
  ·exact .inl h
  ·rcases Disj.mono hl.1 d r with h2 | h2
   ·exact .inl h2
   ·refine .inr ?_
    unfold Cells.add
    rw [h]; exact h2
end Go.TM.Rv
namespace Go.Proofs.YtgljffachdhigaaGreatDoor
open Go Go.TM Go.Proofs Go.TM.Rv
attribute [local irreducible] T.wp CV FWK
structure EachM (h:Cells) (many:Nat) (lp:Option Addr) (ln lc:Nat) (z0 z1 z2 z3:Addr) (y:Value):Prop where
 many:h.cell? z0 = some (.int .i64 many)
 y:y.cells = #[y] -> h.cell? z1 = some y
 l:h.cell? (z2.add 0) = some (.slice lp ln lc)
 nx:h.cell? z3 = some (.func (.func 129) #[] #[.pointer (some z0),.pointer (some z1),.pointer (some z2),.pointer (some z3)])
theorem EachM.le {h h':Cells} {many:Nat} {lp:Option Addr} {ln lc:Nat} {z0 z1 z2 z3:Addr} {y:Value} (hl:h.le h') (m:EachM h many lp ln lc z0 z1 z2 z3 y):EachM h' many lp ln lc z0 z1 z2 z3 y :=
 ⟨Cells.cell?_le hl m.many,fun e => Cells.cell?_le hl (m.y e),Cells.cell?_le hl m.l,Cells.cell?_le hl m.nx⟩
set_option maxRecDepth 10000 in
theorem each_ok {h₀ B:LH} (hB:h₀.le B) {many:Nat} {lp:Option Addr} {ln lc:Nat} {z0 z1 z2 z3:Addr} {y:Value} (m:EachM B.get many lp ln lc z0 z1 z2 z3 y) {of:List Int} (hof:Sl IntE 1 h₀.get lp ln of) (ho:of.length <= 100) (hm100:many <= 100)
  {J:List (List Int) -> LH -> Prop} {E:LH -> Prop} (hJ:∀ s h k,J s h -> Disj h.get k -> J s (h.add k))
  (hyield:∀ x rest h q n c,h₀.le h -> J (x :: rest) h -> Growing IntEnc 3 1 h₀.get h.get q n c x -> CV X0 Tryz.prog y #[.slice q n c] h fun b h' => h₀.le h' /\ ((b = .bool false /\ J rest h') \/ (b = .bool true /\ E h'))) :
  ∀ (k:Nat) (x:List Int) (i:Nat) (a:LH) (M:Cells) (rest:List (List Int)) (p:Option Addr) (n c:Nat),x.length + k = many -> i <= of.length -> Growing IntEnc 3 1 B.get a.get p n c x -> B.le a -> Disj a.get M -> J (combT of k x i ++ rest) (h₀.add M) ->
   FW X0 Tryz.prog 129 #[.slice p n c,.int .i64 i,.pointer (some z0),.pointer (some z1),.pointer (some z2),.pointer (some z3)] (a.add M) fun r h' => ∃ a' M',h' = a'.add M' /\ B.le a' /\ (∀ r y,(∀ ad,p = some ad -> ad.block ≠ r) -> a.get r = some y -> a'.get r = some y) /\ Growing IntEnc 3 1 B.get a'.get p n c x /\ Disj a'.get M' /\
    ((r = .bool false /\ J rest (h₀.add M')) \/ (r = .bool true /\ E (h₀.add M'))) := by
 intro k
 induction k with
 | zero =>
  intro x i a M rest p n c hlen hi gx hBa d hJ0
  refine w3195 _ _ _ _ _ _ _ _ X0_ok ?_
  unfold n3195
  have hla := LH.le_trans hB hBa
  have mW := (m.le hBa.1).le (le_add a M).1
  have hn := gx.count IntEnc.len (by omega)
  have w0 := mW.many
  have w2 := mW.l
  have hsl := gx.sl IntEnc.len (by omega) IntEnc.e (by omega)
  refine gZ ?_
  refine t_cond (fun _ => ?_) (fun e => ?_)
  ·have step:∀ (a2:LH) (q:Option Addr) (kc:Nat),a.le a2 -> Disj a2.get M -> Growing IntEnc 3 1 a.get a2.get q n kc x -> ∃ M2,a2.add M = a.add M2 /\ Disj a.get M2 /\ J (x :: rest) (h₀.add M2) /\ Growing IntEnc 3 1 h₀.get (h₀.add M2).get q n kc x := by
    intro a2 q kc la2 d2 g2
    obtain ⟨e2,d3⟩ := hand la2 d2
    have dD:Disj (diff a.get a2.get) M := Disj.diff d2
    refine ⟨_,e2,d3,?_,?_⟩
    ·have e3:h₀.add ((diff a.get a2.get).add M) = (h₀.add M).add (diff a.get a2.get) := by
      show ({ h₀ with get := h₀.get.add _ }:LH) = { h₀ with get := (h₀.get.add M).add _ }
      rw [<- Cells.add_assoc,Cells.add_swap dD]
     rw [e3]
     refine hJ _ _ _ hJ0 ?_
     exact Disj.add (Disj.mono hla.1 (diff_disj _ _)) dD.symm
    ·obtain ⟨vs,⟨h1,h2⟩,h3⟩ := g2.row
     refine ⟨⟨vs,⟨h1,?_⟩,h3⟩,fun ad hh => none_le hla (g2.new ad hh)⟩
     rcases h2 with h2 | ⟨r,cs,e1,e2',e4⟩
     ·exact .inl h2
     ·refine .inr ⟨r,cs,e1,?_,e4⟩
      have hra := g2.new _ e1
      have hr0 := none_le hla hra
      show h₀.get.add ((diff a.get a2.get).add M) r = _
      rw [Cells.add_right hr0]
      have hD:diff a.get a2.get r = a2.get r := by
       unfold diff
       rw [show a.get r = none from hra]
      unfold Cells.add
      rw [hD,e2']
   have hy:y.cells = #[y] := by
    refine cv_one (hyield x rest (a.add M) p n c (LH.le_trans hla (le_add _ _)) ?_ ?_)
    ·rw [whole hla d]
     exact hJ _ _ _ hJ0 (whole_disj d)
    ·exact (gx.le (le_add a M).1).base fun r hr => none_le hB hr
   refine t_loadV (mW.y hy) ?_
   refine t_grF d (c3137 hsl (by omega)) ?_
   rintro _ a2 la2 d2 ⟨q,kc,rfl,g2⟩
   refine gZ ?_
   refine t_loadV (((m.le hBa.1).le la2.1).le (le_add a2 M).1 |>.y hy) ?_
   refine gZ ?_
   obtain ⟨M2,e2,d3,hJ2,g3⟩ := step a2 q kc la2 d2 g2
   rw [e2]
   refine t_yield X0_ok hla d3 (hyield x rest _ q n kc (le_add _ _) hJ2 g3) ?_
   rintro bv M' d' (⟨rfl,hJ'⟩ | ⟨rfl,hE'⟩)
   ·refine gZ ?_
    exact t_ret ⟨a,M',rfl,hBa,fun r y _ hh => hh,gx,d',.inl ⟨rfl,hJ'⟩⟩
   ·refine gZ ?_
    exact t_ret ⟨a,M',rfl,hBa,fun r y _ hh => hh,gx,d',.inr ⟨rfl,hE'⟩⟩
  ·exfalso
   have:((n:Int) == (many:Int)) = true := by rw [beq_iff_eq]; omega
   rw [this] at e; cases e
 | succ k ih =>
  intro x i a M rest p n c hlen hi gx hBa d hJ0
  refine w3195 _ _ _ _ _ _ _ _ X0_ok ?_
  unfold n3195
  have hla := LH.le_trans hB hBa
  have mW := (m.le hBa.1).le (le_add a M).1
  have hn := gx.count IntEnc.len (by omega)
  have hol := hof.1
  have w0 := mW.many
  refine gZ ?_
  refine t_cond (fun e => ?_) (fun _ => ?_)
  ·exfalso
   have := eq_of_beq e
   omega
  refine t_loop (fun mm vs h' => ∃ (j:Nat) (a':LH) (M':Cells),vs = [.bool false,.int .i64 j] /\ j <= of.length /\ mm = of.length - j /\ h' = a'.add M' /\ B.le a' /\ (∀ r y,(∀ ad,p = some ad -> ad.block ≠ r) -> a.get r = some y -> a'.get r = some y) /\ Growing IntEnc 3 1 B.get a'.get p n c x /\ Disj a'.get M' /\ J (((List.range of.length).drop j).flatMap (fun j => combT of k (x ++ [of.getD j 0]) (j + 1)) ++ rest) (h₀.add M'))
   ⟨i,a,M,rfl,hi,rfl,rfl,hBa,fun r y _ hh => hh,gx,d,hJ0⟩ ?_
  rintro Y mm vs _ hY ⟨j,a1,M1,rfl,hj,rfl,rfl,hBa1,kp1,g1,d1,hJ1⟩
  have mW1 := (m.le hBa1.1).le (le_add a1 M1).1
  have w2 := mW1.l
  refine gZ ?_
  refine t_if (fun e1 => ?_) (fun e1 => ?_)
  ·obtain ⟨v,av,hv,hav,e4⟩ := (((hof.le IntE.grow hB.1).le IntE.grow hBa1.1).le IntE.grow (le_add a1 M1).1).at (i := j) (by omega)
   unfold IntE at e4
   have hin:0 <= (j:Int) /\ (j:Int) < (ln:Int) := by omega
   have hg:of.getD j 0 = v := by rw [List.getD_eq_getElem?_getD,hv]; rfl
   rw [drop_range (show j < of.length by omega),List.flatMap_cons,List.append_assoc,hg] at hJ1
   refine t_loadV mW1.nx ?_
   refine gZ ?_
   refine sem_frame d1 (t_buildG und50 inf3 (by decide) (by decide) (cells := #[.int .i64 v]) (by kernel_rfl) fun r h' le' hr e => (?_:(T.leaf (.ret _)).wp X0 Tryz.prog (retQ fun v' h'' => ∃ r,v' = .slice (some ⟨r,0,none⟩) 1 1 /\ a1.le h'' /\ h''.get.cell? (Addr.add ⟨r,0,none⟩ 0) = some (.int .i64 v)) h')) ?_
   ·exact t_ret ⟨r,rfl,le',by rw [add_plain]; unfold Cells.cell?; rw [e]; rfl⟩
   rintro _ a2 d2 ⟨r,rfl,le12,e5⟩
   have mW2 := (m.le (LH.le_trans hBa1 le12).1).le (le_add a2 M1).1
   have w22 := mW2.l
   refine gZ ?_
   refine t_loadV mW2.nx ?_
   refine gZ ?_
   refine sem_frame d2 (t_appendKeep (B := B) rfl rfl und50 und50 inf3 (by decide) (by omega) (LH.le_trans hBa1 le12) (g1.le le12.1) e5 fun p' c' h' lB kp hor g' => (?_:(T.leaf (.ret _)).wp X0 Tryz.prog (retQ fun v' h'' => ∃ p' c',v' = .slice p' (n + 1) c' /\ B.le h'' /\ (∀ r y,(∀ ad,p = some ad -> ad.block ≠ r) -> a2.get r = some y -> h''.get r = some y) /\ ((p' = p /\ c' = c) \/ ((∃ r,p' = some ⟨r,0,none⟩ /\ a2.get r = none) /\ a2.le h'')) /\ Growing IntEnc 3 1 B.get h''.get p' (n + 1) c' (x ++ [v])) h')) ?_
   ·exact t_ret ⟨p',c',rfl,lB,kp,hor,g'⟩
   rintro _ a3 d3 ⟨p',c',rfl,lB3,kp3,hor,g3⟩
   have mW3 := (m.le lB3.1).le (le_add a3 M1).1
   have w23 := mW3.l
   refine gZ ?_
   refine t_loadV mW3.nx ?_
   refine gZ ?_
   rw [wrap_id (n := (j:Int) + 1) (by omega) (by omega)]
   have hcall := ih (x ++ [v]) (j + 1) a3 M1 _ p' (n + 1) c' (by rw [List.length_append,List.length_singleton]; omega) (by omega) g3 lB3 d3 hJ1
   refine t_callv (cv_fw (first := #[]) (args := #[.slice p' (n + 1) c',.int .i64 ((j + 1:Nat):Int)]) (cap := #[.pointer (some z0),.pointer (some z1),.pointer (some z2),.pointer (some z3)]) X0_ok rfl hcall) ?_
   rintro _ _ ⟨a4,M4,rfl,lB4,kp4,g4,d4,hres⟩
   have mW4 := (m.le lB4.1).le (le_add a4 M4).1
   have w24 := mW4.l
   -- what was before stays
   have hkeep:∀ r y,(∀ ad,p = some ad -> ad.block ≠ r) -> a.get r = some y -> a4.get r = some y := fun r y hr hy => by
    have h1 := kp3 r y hr (le12.1 _ _ (kp1 r y hr hy))
    refine kp4 r y (fun ad had => ?_) h1
    rcases hor with ⟨rfl,_⟩ | ⟨⟨r',rfl,hr'⟩,_⟩
    ·exact hr ad had
    ·cases had
     rintro rfl
     have h5 := le12.1 _ _ (kp1 _ y hr hy)
     have hr':a2.get r' = none := hr'
     rw [hr'] at h5; cases h5
   have gx4:Growing IntEnc 3 1 B.get a4.get p n c x := by
    rcases hor with ⟨rfl,rfl⟩ | ⟨⟨r',rfl,hr'⟩,le23⟩
    ·exact grow_prefix hn (grow_cap gx) g4
    ·refine grow_kept (a := a3) (fun ad y had hy => kp4 _ y (fun ad' had' => ?_) hy) (((g1.le le12.1).le le23.1))
     cases had'
     rintro rfl
     obtain ⟨vs,⟨_,hh⟩,_⟩ := (g1.le le12.1).row
     rcases hh with ⟨hp,_⟩ | ⟨r2,cs,hp,hr2,_⟩
     ·rw [hp] at had; cases had
     ·rw [hp] at had; cases had
      have hr':a2.get r2 = none := hr'
      rw [hr'] at hr2; cases hr2
   rcases hres with ⟨rfl,hJ4⟩ | ⟨rfl,hE4⟩
   ·refine gZ ?_
    refine t_cond (fun e => by cases e) (fun _ => ?_)
    refine t_again (hY (of.length - (j + 1)) _ _ (by omega) ⟨j + 1,a4,M4,rfl,by omega,rfl,rfl,lB4,hkeep,gx4,d4,hJ4⟩)
   ·refine gZ ?_
    refine t_cond (fun _ => ?_) (fun e => by cases e)
    refine gI ?_
    refine gZ ?_
    exact t_ret ⟨a4,M4,rfl,lB4,hkeep,gx4,d4,.inr ⟨rfl,hE4⟩⟩
  ·refine gZ ?_
   have hd:(List.range of.length).drop j = [] := List.drop_eq_nil_of_le (by rw [List.length_range]; omega)
   rw [hd] at hJ1
   exact t_ret ⟨a1,M1,rfl,hBa1,kp1,g1,d1,.inl ⟨rfl,hJ1⟩⟩
set_option maxRecDepth 10000 in
theorem c3173 {h₀ h:LH} (hle:h₀.le h) {lp:Option Addr} {ln lc:Nat} {y:Value} {of:List Int} (hof:Sl IntE 1 h₀.get lp ln of) (ho:of.length <= 100) {many:Nat} (hm100:many <= 100)
  {J:List (List Int) -> LH -> Prop} {E:LH -> Prop} (hJ:∀ s h k,J s h -> Disj h.get k -> J s (h.add k)) (hE:∀ h k,E h -> Disj h.get k -> E (h.add k))
  (hyield:∀ x rest h q n c,h₀.le h -> J (x :: rest) h -> Growing IntEnc 3 1 h₀.get h.get q n c x -> CV X0 Tryz.prog y #[.slice q n c] h fun b h' => h₀.le h' /\ ((b = .bool false /\ J rest h') \/ (b = .bool true /\ E h')))
  (hJ0:J (combT of many [] 0) h) :
  FW X0 Tryz.prog 92 #[.agg #[.slice lp ln lc],.int .i64 many,y] h fun r h' => h₀.le h' /\ ((r = .bool false /\ J [] h') \/ (r = .bool true /\ E h')) := by
 have hh:h = h₀.add (diff h₀.get h.get) := (diff_add hle).symm
 generalize hM:diff h₀.get h.get = M at hh
 have d0:Disj h₀.get M := by rw [<- hM]; exact diff_disj _ _
 subst hh
 refine w3173 _ _ _ _ _ X0_ok ?_
 unfold n3173
 refine t_newF d0 fun r a1 hr la1 d1 e1 k1 => ?_
 refine t_newF d1 fun r1 a2 hr1 la2 d2 e2 k2 => ?_
 refine t_newF d2 fun r2 a3 hr2 la3 d3 e3 k3 => ?_
 refine t_newF d3 fun r3 a4 hr3 la4 d4 e4 k4 => ?_
 refine t_storeF d4 (j := 0) (by rw [add_plain]) e4 (by show 0 < 1; omega) rfl fun a5 t5 e5 d5 => ?_
 have l03:h₀.le a3 := LH.le_trans la1 (LH.le_trans la2 la3)
 have l05:h₀.le a5 := t5.le (LH.le_trans l03 la4) (none_le l03 hr3)
 have l35:a3.le a5 := t5.le la4 hr3
 have m:EachM a5.get many lp ln lc ⟨r1,0,none⟩ ⟨r2,0,none⟩ ⟨r,0,none⟩ ⟨r3,0,none⟩ y := by
  have q1 := l35.1 _ _ (la3.1 _ _ e2)
  have q0 := l35.1 _ _ (la3.1 _ _ (la2.1 _ _ e1))
  have q2 := l35.1 _ _ e3
  refine ⟨?_,fun ey => ?_,?_,?_⟩
  ·unfold Cells.cell?; rw [q1]; rfl
  ·unfold Cells.cell?; rw [q2,ey]; rfl
  ·rw [add_plain]; unfold Cells.cell?; rw [q0]; rfl
  ·unfold Cells.cell?; rw [e5]; rfl
 have mW := m.le (le_add a5 M).1
 refine t_loadV mW.nx ?_
 have hJ1:J (combT of many [] 0 ++ []) (h₀.add M) := by rw [List.append_nil]; exact hJ0
 have hcall := each_ok (B := a5) l05 m hof ho hm100 hJ hyield many [] 0 a5 M [] none 0 0 (by simp) (Nat.zero_le _) Growing.nil (LH.le_refl _) d5 hJ1
 refine t_callv (cv_fw (first := #[]) (args := #[.slice none 0 0,.int .i64 0]) (cap := #[.pointer (some ⟨r1,0,none⟩),.pointer (some ⟨r2,0,none⟩),.pointer (some ⟨r,0,none⟩),.pointer (some ⟨r3,0,none⟩)]) X0_ok rfl hcall) ?_
 rintro _ _ ⟨a6,M6,rfl,l6,_,_,d6,hres⟩
 have l06 := LH.le_trans l05 l6
 have hlast:h₀.le (a6.add M6) := LH.le_trans l06 (le_add _ _)
 have hw := whole l06 d6
 have hwd := whole_disj (h₀ := h₀) d6
 rcases hres with ⟨rfl,hJ5⟩ | ⟨rfl,hE5⟩
 ·refine gZ ?_
  refine t_ret ⟨hlast,.inl ⟨rfl,?_⟩⟩
  rw [hw]
  exact hJ _ _ _ hJ5 hwd
 ·refine gZ ?_
  refine t_ret ⟨hlast,.inr ⟨rfl,?_⟩⟩
  rw [hw]
  exact hE _ _ hE5 hwd
def TryJ (h₀:LH) (r:Nat) (all:List (List Int)) (so:List Int -> Bool) (s:List (List Int)) (h:LH):Prop := h₀.le h /\ (∃ p n c,h.get r = some (true,.cells #[.slice p n c] 30 (0,0))) /\ ∃ done,all = done ++ s /\ ∀ x ∈ done,so x = false
def TryE (h₀:LH) (r:Nat) (all:List (List Int)) (so:List Int -> Bool) (h:LH):Prop := h₀.le h /\ ∃ p n c x,h.get r = some (true,.cells #[.slice p n c] 30 (0,0)) /\ Sl IntE 1 h.get p n x /\ x ∈ all /\ so x = true
theorem add_le {h₀ h:LH} {k:Cells} (hl:h₀.le h):h₀.le (h.add k) := LH.le_trans hl (le_add _ _)
theorem c3147 {h:LH} {lp:Option Addr} {ln lc:Nat} {y:Value} {of:List Int} (hof:Sl IntE 1 h.get lp ln of) (ho:of.length <= 100) (so:List Int -> Bool) (hall:so of = true)
  (hso:∀ x h' q n c,h.le h' -> (∀ v ∈ x,v ∈ of) -> Sl IntE 1 h'.get q n x -> CV X0 Tryz.prog y #[.slice q n c] h' fun b h'' => h'.le h'' /\ b = .bool (so x)) :
  Gr Tryz.prog 47 #[.slice lp ln lc,.int .i64 of.length,y] h fun r h' => ∃ p n c x,r = .tuple #[.slice p n c,.bool true] /\ Sl IntE 1 h'.get p n x /\ so x = true /\ ∀ v ∈ x,v ∈ of := by
 refine w3147 _ _ _ _ _ X0_ok ?_
 unfold n3147
 have hy:y.cells = #[y] := cv_one (hso [] h none 0 0 (LH.le_refl _) (by intro v hv; cases hv) Sl.nil)
 refine t_new fun rs hrs => ?_
 have l1 := LH.upd_le (h := h) (x := (true,.cells y.cells 111 (0,0))) hrs
 have e1:(h.get.upd rs (true,.cells y.cells 111 (0,0))) rs = some (true,.cells y.cells 111 (0,0)) := Cells.upd_self _ _ _
 generalize hh1:({ h with get := h.get.upd rs (true,.cells y.cells 111 (0,0)) }:LH) = h1 at *
 replace e1:h1.get rs = some (true,.cells y.cells 111 (0,0)) := by rw [<- hh1]; exact e1
 rw [wrap_id (n := (of.length:Int) + 1) (by omega) (by omega)]
 refine t_loop (fun mm vs h' => h1.le h' /\ ∃ i:Nat,vs = [.slice none 0 0,.bool false,.int .i64 i] /\ i <= of.length /\ mm = of.length - i) ⟨LH.le_refl _,0,rfl,Nat.zero_le _,rfl⟩ ?_
 rintro Y mm vs h2 hY ⟨le2,i,rfl,hi,rfl⟩
 refine gZ ?_
 refine t_if (fun e2 => ?_) (fun e2 => ?_)
 ·refine t_new fun rb hrb => ?_
  have l3 := LH.upd_le (h := h2) (x := (true,.cells #[.slice none 0 0] 30 (0,0))) hrb
  have e3:(h2.get.upd rb (true,.cells #[.slice none 0 0] 30 (0,0))) rb = some (true,.cells #[.slice none 0 0] 30 (0,0)) := Cells.upd_self _ _ _
  generalize hh3:({ h2 with get := h2.get.upd rb (true,.cells #[.slice none 0 0] 30 (0,0)) }:LH) = h3 at *
  replace e3:h3.get rb = some (true,.cells #[.slice none 0 0] 30 (0,0)) := by rw [<- hh3]; exact e3
  have l02 := LH.le_trans l1 le2
  refine t_call (FW.top (c3173 (h₀ := h2) (h := h3) l3 (hof.le IntE.grow l02.1) ho (many := i) (by omega) (J := TryJ h2 rb (combT of i [] 0) so) (E := TryE h2 rb (combT of i [] 0) so) ?_ ?_ ?_ ⟨l3,⟨_,_,_,e3⟩,[],rfl,by intro x hx; cases hx⟩)) ?_
  ·rintro s g k ⟨q1,⟨p,n,c,q2⟩,q3⟩ dk
   exact ⟨add_le q1,⟨p,n,c,Cells.add_left q2⟩,q3⟩
  ·rintro g k ⟨q1,p,n,c,x,q2,q3,q4⟩ dk
   exact ⟨add_le q1,p,n,c,x,Cells.add_left q2,q3.le IntE.grow (le_add g k).1,q4⟩
  ·rintro x rest g q n c hle ⟨q1,⟨p0,n0,c0,q2⟩,done,q3,q4⟩ gx
   have hxall:x ∈ combT of i [] 0 := by rw [q3]; simp
   have hxin := comb_in of i 0 [] (by intro v hv; cases hv) x hxall
   have hxl := comb_len of i 0 [] x hxall
   have hsl := gx.sl IntEnc.len (by omega) IntEnc.e (by rw [hxl,List.length_nil]; omega)
   refine cv_fw X0_ok (by rfl) (?_:FW X0 Tryz.prog 93 #[.slice q n c,.pointer (some ⟨rb,0,none⟩),.pointer (some ⟨rs,0,none⟩)] g _)
   refine w3174 _ _ _ _ _ X0_ok ?_
   unfold n3174
   refine t_storeC (j := 0) (by rw [add_plain]) q2 (by show 0 < 1; omega) rfl fun g1 t1 z1 => ?_
   have z1':g1.get rb = some (true,.cells #[.slice q n c] 30 (0,0)) := z1
   have l21 := t1.le q1 hrb
   have hrs1:g1.get rs = some (true,.cells y.cells 111 (0,0)) := l21.1 _ _ (le2.1 _ _ e1)
   have hyc:g1.get.cell? ⟨rs,0,none⟩ = some y := by unfold Cells.cell?; rw [hrs1,hy]; rfl
   have hsl1:Sl IntE 1 g1.get q n x := (grow_tn t1 (fun a ha e => by
    have := gx.new a ha
    rw [e] at this
    obtain ⟨vs,⟨_,hh⟩,_⟩ := gx.row
    rcases hh with ⟨hp,_⟩ | ⟨r',cs,hp,hr',_⟩
    ·rw [hp] at ha; cases ha
    ·rw [hp] at ha; cases ha
     have e:r' = rb := e
     rw [e,q2] at hr'
     simp at hr') gx).sl IntEnc.len (by omega) IntEnc.e (by rw [hxl,List.length_nil]; omega)
   refine t_loadV hyc ?_
   refine gZ ?_
   refine t_callv (hso x g1 q n c (LH.le_trans l02 l21) hxin hsl1) ?_
   rintro _ g2 ⟨lg,rfl⟩
   refine gZ ?_
   refine t_ret ⟨LH.le_trans l21 lg,?_⟩
   cases hs:so x with
   | false =>
    refine .inl ⟨rfl,LH.le_trans l21 lg,⟨q,n,c,lg.1 _ _ z1'⟩,done ++ [x],by rw [q3]; simp,fun w hw => ?_⟩
    rcases List.mem_append.1 hw with hw | hw
    ·exact q4 w hw
    ·rw [List.mem_singleton] at hw; rw [hw]; exact hs
   | true => exact .inr ⟨rfl,LH.le_trans l21 lg,q,n,c,x,lg.1 _ _ z1',hsl1.le IntE.grow lg.1,hxall,hs⟩
  rintro _ h4 ⟨le4,⟨rfl,_,_,done,q3,q4⟩ | ⟨rfl,_,p,n,c,x,q2,q3,q4,q5⟩⟩
  ·refine gZ ?_
   refine t_cond (fun e => by cases e) (fun _ => ?_)
   have hne:i ≠ of.length := by
    rintro rfl
    have hm := comb_all of of.length 0 [] (by omega)
    rw [q3,List.append_nil] at hm
    have := q4 _ hm
    rw [List.nil_append,List.drop_zero,hall] at this
    cases this
   refine t_again (hY (of.length - (i + 1)) _ _ (by omega) ⟨LH.le_trans le2 le4,i + 1,?_,by omega,rfl⟩)
   rw [wrap_id (by omega) (by omega)]; rfl
  ·have hc:h4.get.cell? ⟨rb,0,none⟩ = some (.slice p n c) := by unfold Cells.cell?; rw [q2]; rfl
   refine gZ ?_
   refine t_cond (fun _ => ?_) (fun e => by cases e)
   refine gZ ?_
   exact t_ret ⟨LH.le_trans l02 le4,p,n,c,x,rfl,q3,q5,comb_in of i 0 [] (by intro v hv; cases hv) x q4⟩
 ·exfalso; omega
end Go.Proofs.YtgljffachdhigaaGreatDoor
end
section
namespace Go.TM.Rv
open Go Go.Conc Go.TM
theorem vis_sub2 {h₀ h1 h2:LH} {p q:Option Addr} {α:Type} {Enc:α -> List Value -> Prop} {el:TypeId} {s n c:Nat} {l:List α} (hle:h₀.le h1) (gp:Growing Enc el s h₀.get h1.get p n c l):(vis h1.get q h2.get).le (vis h₀.get p h2.get) := by
 intro r y hy
 obtain ⟨⟨h3,_⟩,h5⟩ := vis_some.1 hy
 refine vis_some.2 ⟨⟨none_le hle h3,fun e => ?_⟩,h5⟩
 obtain ⟨ws,⟨_,hh⟩,_⟩ := gp.row
 rcases hh with ⟨hp,_⟩ | ⟨r',cs,hp,hr,_⟩
 ·rw [hp] at e; cases e
 ·rw [hp] at e
  simp at e
  rw [<- e,hr] at h3; cases h3
theorem sorted_le5 {n:Nat}:∀ {l:List Int} {k:Int},l.Pairwise (· < ·) -> (∀ v ∈ l,k <= v /\ v < n) -> (l.length:Int) <= max 0 (n - k) := by
 intro l
 induction l with
 | nil => intro k _ _; simp; omega
 | cons x l ih =>
  intro k hp hv
  obtain ⟨h1,h2⟩ := List.pairwise_cons.1 hp
  have hx := hv x (by simp)
  have := ih (k := x + 1) h2 fun v hm => ⟨by have := h1 v hm; omega,(hv v (by simp [hm])).2⟩
  simp only [List.length_cons]
  omega
def NatsV (A:List Nat):Array Value := (A.map fun x:Nat => Value.int .i64 (x:Int)).toArray
theorem natsV_size (l:List Nat):(NatsV l).size = l.length := by simp [NatsV]
theorem natsV_set (l:List Nat) (j v:Nat):(NatsV l).setIfInBounds j (.int .i64 (v:Int)) = NatsV (l.set j v) := by
 unfold NatsV
 rw [List.setIfInBounds_toArray,List.map_set]
theorem nats_cell {h:Cells} {r j:Nat} {el:TypeId} {l:List Nat} {m:Bool} (hr:h r = some (m,.cells (NatsV l) el (0,0))) (hj:j < l.length):h.cell? (Addr.add ⟨r,0,none⟩ (Int.toNat (j:Int) * 1)) = some (.int .i64 ((l.getD j 0:Nat):Int)) := by
 rw [Int.toNat_natCast,Nat.mul_one,add_plain,Nat.zero_add]
 unfold Cells.cell?
 rw [hr]
 show (NatsV l)[j]? = _
 simp [NatsV,hj]
theorem step_small {out i k:Nat} {A:List Nat} {n:Nat} (hl:A.length = n) (hs:∀ j,A.getD j 0 < 64):(closeStep out i k A).length = n /\ ∀ j,(closeStep out i k A).getD j 0 < 64 := by
 unfold closeStep
 split
 ·refine ⟨by rw [List.length_set]; exact hl,fun j => ?_⟩
  rw [List.getD_eq_getElem?_getD,List.getElem?_set]
  by_cases e:i = j
  ·rw [if_pos e]
   split
   ·exact Nat.or_lt_two_pow (n := 6) (hs i) (hs k)
   ·show 0 < 64; omega
  ·rw [if_neg e,<- List.getD_eq_getElem?_getD]; exact hs j
 ·exact ⟨hl,hs⟩
def CEnc (g:Cells) (c:RvCase) (ws:List Value):Prop := ∃ q m k,ws = [.string c.name,.int .i64 c.against,.slice q m k,.slice none 0 0] /\ Sl LsE 1 g q m c.grounds /\ c.after = []
theorem CEnc.len {g:Cells}:∀ x ws,CEnc g x ws -> ws.length = 4 := by rintro x _ ⟨q,m,c,rfl,_⟩; rfl
theorem CEnc.up:∀ g g' x ws,Rd g g' -> CEnc g x ws -> CEnc g' x ws := by
 rintro g g' x ws hl ⟨q,m,c,h1,h2,h3⟩
 exact ⟨q,m,c,h1,h2.rd LsE.grow hl,h3⟩
theorem new_step (out k a:Nat):newAfter out (k + 1) a = newAfter out k a ++ (if !out.testBit k && a.testBit k then [(idxT out k:Int)] else []) := by
 unfold newAfter
 rw [List.range_succ,List.filter_append,List.map_append,List.filter_cons,List.filter_nil]
 cases (!out.testBit k && a.testBit k) <;> rfl
def hid (h:Cells) (rc it:Nat):Cells := fun r => if r = rc \/ r = it then none else h r
theorem hid_le {h h':Cells} {rc it:Nat} (hk:∀ r y,r ≠ rc -> r ≠ it -> h r = some y -> h' r = some y):(hid h rc it).le (hid h' rc it) := by
 intro r y hr
 unfold hid at hr ⊢
 split at hr
 ·cases hr
 ·rename_i hn
  rw [if_neg hn]
  exact hk r y (fun e => hn (.inl e)) (fun e => hn (.inr e)) hr
theorem hid_sub {h:Cells} {rc it:Nat}:(hid h rc it).le h := by
 intro r y hr
 unfold hid at hr
 split at hr
 ·cases hr
 ·exact hr
def butB (h:LH) (rc:Nat):LH := { h with get := fun r => if r = rc then none else h.get r }
theorem butB_le {h h':LH} {rc:Nat} (hk:∀ r y,r ≠ rc -> h.get r = some y -> h'.get r = some y) (hr:h'.chans = h.chans /\ h'.pend = h.pend /\ h'.todo = h.todo):(butB h rc).le h' := by
 refine ⟨fun r y hy => ?_,hr⟩
 have hy:(if r = rc then none else h.get r) = some y := hy
 split at hy
 ·cases hy
 ·rename_i hn
  exact hk r y hn hy
theorem row_ne {α:Type} {Enc:α -> List Value -> Prop} {el:TypeId} {s n c m c':Nat} {l:List α} {h₀ h:Cells} {p:Option Addr} {b:Bool} {es:Array MapEntry} (g:Growing Enc el s h₀ h p n c l) (hm:h m = some (b,.map es c')):∀ a,p = some a -> a.block ≠ m := by
 intro a ha e
 obtain ⟨vs,⟨_,hh⟩,_⟩ := g.row
 rcases hh with ⟨hp,_⟩ | ⟨r,cs,hp,hr,_⟩
 ·rw [hp] at ha; cases ha
 ·rw [hp] at ha; cases ha
  have e:r = m := e
  rw [e,hm] at hr; cases hr
theorem rd_map {h:LH} {m c c':Nat} {b:Bool} {es es':Array MapEntry} (hm:h.get m = some (b,.map es c)):Rd h.get (h.get.upd m (true,.map es' c')) := by
 intro a v hv
 unfold Cells.cell? at hv ⊢
 by_cases e:a.block = m
 ·rw [e,hm] at hv; cases hv
 ·rw [Cells.upd_ne _ _ e]; exact hv
structure Filled (L:List RvCase) (g:Cells) (cs:Array Value) (Af:Nat -> List Int):Prop where
 size:L.length * 4 <= cs.size
 row:∀ (j:Nat) x,L[j]? = some x -> cs[j * 4]? = some (.string x.name) /\ cs[j * 4 + 1]? = some (.int .i64 x.against) /\ (∃ q m k,cs[j * 4 + 2]? = some (.slice q m k) /\ Sl LsE 1 g q m x.grounds) /\ ∃ q m k,cs[j * 4 + 3]? = some (.slice q m k) /\ Sl IntE 1 g q m (Af j)
theorem idx_back {out:Nat}:∀ {n j:Nat},j < idxT out n -> ∃ i,i < n /\ out.testBit i = false /\ idxT out i = j
 | 0,j,hj => absurd hj (Nat.not_lt_zero _)
 | n + 1,j,hj => by
  rw [idx_succ] at hj
  by_cases e:j < idxT out n
  ·obtain ⟨i,h1,h2,h3⟩ := idx_back e
   exact ⟨i,by omega,h2,h3⟩
  ·split at hj
   ·omega
   ·rename_i ho
    exact ⟨n,Nat.lt_succ_self _,by simpa using ho,by omega⟩
theorem idx_inj {out i k:Nat} (h1:out.testBit i = false) (h2:out.testBit k = false) (h3:idxT out i = idxT out k):i = k := by
 rcases Nat.lt_trichotomy i k with h | h | h
 ·have := idx_lt (out := out) h h1; omega
 ·exact h
 ·have := idx_lt (out := out) h h2; omega
theorem row_el {α:Type} {Enc:α -> List Value -> Prop} {el el':TypeId} {s n c r:Nat} {l:List α} {h₀ h:Cells} {p:Option Addr} {b:Bool} {cs:Array Value} (g:Growing Enc el s h₀ h p n c l) (hr:h r = some (b,.cells cs el' (0,0))) (hne:el ≠ el'):∀ a,p = some a -> a.block ≠ r := by
 intro a ha e
 obtain ⟨vs,⟨_,hh⟩,_⟩ := g.row
 rcases hh with ⟨hp,_⟩ | ⟨r',cs',hp,hr',_⟩
 ·rw [hp] at ha; cases ha
 ·rw [hp] at ha; cases ha
  have e:r' = r := e
  rw [e,hr] at hr'
  simp at hr'
  exact hne hr'.2.2.symm
theorem row_it {α:Type} {Enc:α -> List Value -> Prop} {el:TypeId} {s n c r:Nat} {l:List α} {h₀ h:Cells} {p:Option Addr} {b:Bool} {a1:Option Nat} {a2 a4:Nat} {a3:Array Nat} (g:Growing Enc el s h₀ h p n c l) (hr:h r = some (b,.mapIter a1 a2 a3 a4)):∀ a,p = some a -> a.block ≠ r := by
 intro a ha e
 obtain ⟨vs,⟨_,hh⟩,_⟩ := g.row
 rcases hh with ⟨hp,_⟩ | ⟨r',cs',hp,hr',_⟩
 ·rw [hp] at ha; cases ha
 ·rw [hp] at ha; cases ha
  have e:r' = r := e
  rw [e,hr] at hr'; cases hr'
theorem sl_hid {el:TypeId} {n c rc it:Nat} {l:List Int} {h₀ h:Cells} {p:Option Addr} (g:Growing IntEnc el 1 h₀ h p n c l) (h1:∀ a,p = some a -> a.block ≠ rc) (h2:∀ a,p = some a -> a.block ≠ it) (hb:l.length < 4611686018427387904):Sl IntE 1 (hid h rc it) p n l := by
 obtain ⟨vs,⟨q1,q2⟩,q3⟩ := g.row
 refine Rows.sl IntEnc.len (by omega) IntEnc.e (el := el) (c := c) (vs := vs) ⟨q1,?_⟩ q3 hb
 rcases q2 with q2 | ⟨r,cs,e1,e2,e3⟩
 ·exact .inl q2
 ·refine .inr ⟨r,cs,e1,?_,e3⟩
  unfold hid
  rw [if_neg (fun hh => by rcases hh with hh | hh; exact h1 _ e1 hh; exact h2 _ e1 hh)]
  exact e2
end Go.TM.Rv
namespace Go.Proofs.YtgljffachdhigaaGreatDoor
open Go Go.TM Go.Proofs Go.TM.Rv
attribute [local irreducible] T.wp CV FWK
theorem und1119:Tryz.prog.underlying 34 = some (.slice 77) := by kernel_rfl
theorem inf1163:(Tryz.prog.info? 77).map (fun i => (i.size,i.bytes,i.zero)) = some (4,72,some (.agg #[.string ⟨#[]⟩,.int .i64 0,.slice none 0 0,.slice none 0 0])) := by kernel_rfl
theorem und1201:Tryz.prog.underlying 153 = some (.map 3 3) := by kernel_rfl
theorem undI:Tryz.prog.underlying 3 = some (.int .i64) := by kernel_rfl
def encI (n:Int):Value := .int .i64 n
theorem encI_inj:∀ a b:Int,encI a = encI b -> a = b := fun a b h => by unfold encI at h; cases h; rfl
theorem keyI (n:Int):FKey Tryz.prog 3 (encI n) := .inl (.inl ⟨undI,n,rfl⟩)
def RowA (h h':LH) (ra:Nat) (A:List Nat):Prop := h.le h' /\ h'.get ra = some (true,.cells (NatsV A) 3 (0,0)) /\ ∀ j,A.getD j 0 < 64
set_option maxRecDepth 20000 in
theorem c3145 {h:LH} {f:BookC} {b:RvBook} (hr:BookR h.get f b) (ok:BookOk b) {out:Nat} (ho:out < 64):Gr Tryz.prog 45 #[bookV f,.int .i64 out] h fun r h' => ∃ f',r = bookV f' /\ BookR h'.get f' (withoutT b out) := by
 refine w3145 _ _ _ _ _ _ _ X0_ok ?_
 unfold n3145
 have hn0 := hr.rights.1
 have hn1 := hr.cases.1
 have h5 := ok.cases
 have h6 := ok.rights
 refine t_makeSlice und50 inf3 rfl (by decide) (by omega) fun ra cs hra hcs hz => ?_
 have e0:cs = NatsV (List.replicate f.n1 0) := by
  rw [ints_of hcs hz]
  unfold IntsV NatsV
  rw [List.map_replicate,List.map_replicate]; rfl
 subst e0
 have l1 := LH.upd_le (h := h) (x := (true,.cells (NatsV (List.replicate f.n1 0)) 3 (0,0))) hra
 refine gZ ?_
 refine t_loop (fun mm vs h' => ∃ (i:Nat) (A:List Nat),vs = [.int .i64 i] /\ i <= f.n1 /\ mm = f.n1 - i /\ RowA h h' ra A /\ A.length = f.n1 /\ ∀ j,j < i -> A.getD j 0 = (afters b).getD j 0)
  ⟨0,List.replicate f.n1 0,rfl,Nat.zero_le _,rfl,⟨l1,Cells.upd_self _ _ _,fun j => by rw [List.getD_eq_getElem?_getD,List.getElem?_replicate]; split <;> simp⟩,List.length_replicate,fun j hj => absurd hj (Nat.not_lt_zero _)⟩ ?_
 rintro Y mm vs h1 hY ⟨i,A,rfl,hi,rfl,⟨le1,eA,hsm⟩,hAl,hAi⟩
 refine gZ ?_
 refine t_if (fun e1 => ?_) (fun e1 => ?_)
 ·obtain ⟨c,a,hx,ha,x0,x1,⟨q,m,k,x2,x3⟩,q',m',k',x6,x7⟩ := (hr.le le1.1).cases.at (i := i) (by omega)
  have hin:0 <= (i:Int) /\ (i:Int) < (f.n1:Int) := by omega
  have hcm := List.mem_of_getElem? hx
  refine gZ ?_
  repeat ((first | refine t_loadStr (by assumption) ?_ | refine t_loadV (by assumption) ?_ | refine gL0 (by assumption) ?_); refine gZ ?_)
  refine t_pu (c3150 x7 (after_in ok.toBookShape hcm)) ?_
  refine gZ ?_
  refine t_storeC (j := i) (by rw [add_plain,add_plain]; simp) eA (by rw [natsV_size]; omega) rfl fun h2 t2 e2 => ?_
  rw [natsV_set] at e2
  have hb6 := bits_after ok.toBookShape hcm
  have haf:(afters b).getD i 0 = bitsT c.after := by unfold afters; rw [List.getD_eq_getElem?_getD,List.getElem?_map,hx]; rfl
  refine t_again (hY (f.n1 - (i + 1)) _ _ (by omega) ⟨i + 1,A.set i (bitsT c.after),?_,by omega,rfl,⟨t2.le le1 hra,e2,fun j => ?_⟩,by rw [List.length_set]; exact hAl,fun j hj => ?_⟩)
  ·rw [wrap_id (by omega) (by omega)]; rfl
  ·rw [List.getD_eq_getElem?_getD,List.getElem?_set]
   split
   ·split
    ·exact hb6
    ·show 0 < 64; omega
   ·rw [<- List.getD_eq_getElem?_getD]; exact hsm j
  ·rw [List.getD_eq_getElem?_getD,List.getElem?_set]
   by_cases e:i = j
   ·subst e
    rw [if_pos rfl,if_pos (by omega),haf]; rfl
   ·rw [if_neg e,<- List.getD_eq_getElem?_getD]; exact hAi j (by omega)
 have hA0:A = afters b := by
  refine List.ext_getElem? fun j => ?_
  by_cases hj:j < f.n1
  ·have := hAi j (by omega)
   rw [List.getD_eq_getElem?_getD,List.getD_eq_getElem?_getD,List.getElem?_eq_getElem (by omega),List.getElem?_eq_getElem (by unfold afters; rw [List.length_map]; omega)] at this
   rw [List.getElem?_eq_getElem (by omega),List.getElem?_eq_getElem (by unfold afters; rw [List.length_map]; omega)]
   simpa using this
  ·rw [List.getElem?_eq_none (by omega),List.getElem?_eq_none (by unfold afters; rw [List.length_map]; omega)]
 subst hA0
 clear hY hAi
 refine gZ ?_
 -- the sets are closed
 refine t_loop (fun mm vs h' => ∃ r:Nat,vs = [.int .i64 r] /\ r <= f.n1 /\ mm = f.n1 - r /\ RowA h h' ra (closeR out f.n1 r (afters b)) /\ (closeR out f.n1 r (afters b)).length = f.n1) ⟨0,rfl,Nat.zero_le _,rfl,⟨le1,eA,hsm⟩,hAl⟩ ?_
 rintro Y mm vs h2 hY ⟨r,rfl,hr2,rfl,RA,hRl⟩
 refine gZ ?_
 refine t_if (fun e2 => ?_) (fun e2 => ?_)
 ·refine t_loop (fun mm vs h' => ∃ i:Nat,vs = [.int .i64 i] /\ i <= f.n1 /\ mm = f.n1 - i /\ RowA h h' ra (closeI out f.n1 i (closeR out f.n1 r (afters b))) /\ (closeI out f.n1 i (closeR out f.n1 r (afters b))).length = f.n1) ⟨0,rfl,Nat.zero_le _,rfl,RA,hRl⟩ ?_
  rintro Y2 mm vs h3 hY2 ⟨i,rfl,hi2,rfl,RB,hRl2⟩
  generalize hB:closeI out f.n1 i (closeR out f.n1 r (afters b)) = Bs at *
  refine gZ ?_
  refine t_if (fun e3 => ?_) (fun e3 => ?_)
  ·refine t_loop (fun mm vs h' => ∃ k:Nat,vs = [.int .i64 k] /\ k <= f.n1 /\ mm = f.n1 - k /\ RowA h h' ra (closeK out i k Bs) /\ (closeK out i k Bs).length = f.n1) ⟨0,rfl,Nat.zero_le _,rfl,RB,hRl2⟩ ?_
   rintro Y3 mm vs h4 hY3 ⟨k,rfl,hk,rfl,RC,hRl3⟩
   refine gZ ?_
   refine t_if (fun e4 => ?_) (fun e4 => ?_)
   ·obtain ⟨le4,e5,hsm4⟩ := RC
    have hst := step_small (out := out) (i := i) (k := k) hRl3 hsm4
    have ci := nats_cell e5 (j := i) (by omega)
    have ck := nats_cell e5 (j := k) (by omega)
    have hin:0 <= (i:Int) /\ (i:Int) < (f.n1:Int) := by omega
    have hkn:0 <= (k:Int) /\ (k:Int) < (f.n1:Int) := by omega
    have b1 := bit_at (x := (closeK out i k Bs).getD i 0) (i := k) (hsm4 i) (by omega)
    have b2 := bit_at (x := out) (i := k) ho (by omega)
    have bo := or_nat' (hsm4 i) (hsm4 k)
    have next:∀ h':LH,RowA h h' ra (closeStep out i k (closeK out i k Bs)) -> Y3 [.int .i64 (IntKind.wrap .i64 ((k:Int) + 1))] h' := fun h' hh => hY3 (f.n1 - (k + 1)) _ _ (by omega) ⟨k + 1,by rw [wrap_id (by omega) (by omega)]; rfl,by omega,rfl,hh,hst.1⟩
    refine gZ ?_
    rw [b1]
    refine t_cond (fun g1 => ?_) (fun g1 => ?_)
    ·refine gZ ?_
     rw [b2]
     refine t_cond (fun g2 => ?_) (fun g2 => ?_)
     ·refine gZ ?_
      rw [bo]
      refine t_storeC (j := i) (by rw [add_plain,add_plain]; simp) e5 (by rw [natsV_size]; omega) rfl fun h5' t5 e6 => ?_
      rw [natsV_set] at e6
      have hcs:closeStep out i k (closeK out i k Bs) = (closeK out i k Bs).set i ((closeK out i k Bs).getD i 0 ||| (closeK out i k Bs).getD k 0) := by
       unfold closeStep; rw [if_pos (by rw [g1,g2]; rfl)]
      refine t_again (next h5' ⟨t5.le le4 hra,by rw [hcs]; exact e6,hst.2⟩)
     ·have hcs:closeStep out i k (closeK out i k Bs) = closeK out i k Bs := by
       unfold closeStep; rw [if_neg (by rw [g2]; simp)]
      refine t_again (next h4 ⟨le4,by rw [hcs]; exact e5,hst.2⟩)
    ·have hcs:closeStep out i k (closeK out i k Bs) = closeK out i k Bs := by
      unfold closeStep; rw [if_neg (by rw [g1]; simp)]
     refine t_again (next h4 ⟨le4,by rw [hcs]; exact e5,hst.2⟩)
   ·have hkn:k = f.n1 := by omega
    subst hkn
    refine gZ ?_
    have hcI:closeI out f.n1 (i + 1) (closeR out f.n1 r (afters b)) = closeK out i f.n1 Bs := by rw [<- hB]; rfl
    refine t_again (hY2 (f.n1 - (i + 1)) _ _ (by omega) ⟨i + 1,by rw [wrap_id (by omega) (by omega)]; rfl,by omega,rfl,by rw [hcI]; exact RC,by rw [hcI]; exact hRl3⟩)
  ·have hin:i = f.n1 := by omega
   subst hin
   refine gZ ?_
   have hcR:closeR out f.n1 (r + 1) (afters b) = Bs := by rw [<- hB]; rfl
   refine t_again (hY (f.n1 - (r + 1)) _ _ (by omega) ⟨r + 1,by rw [wrap_id (by omega) (by omega)]; rfl,by omega,rfl,by rw [hcR]; exact RB,by rw [hcR]; exact hRl2⟩)
 have hrn:r = f.n1 := by omega
 subst hrn
 have hAT:closeR out f.n1 f.n1 (afters b) = afterT b out := by unfold afterT; rw [hn1]
 rw [hAT] at RA hRl
 obtain ⟨le2,eT,hsT⟩ := RA
 clear hY
 refine gZ ?_
 refine t_gr (c3171 ((hr.le le2.1).rights) (by omega)) ?_
 rintro _ h3 le3 ⟨p0,c0,rfl,hc0,s0⟩
 refine gZ ?_
 have le03 := LH.le_trans le2 le3
 have eT3 := le3.1 _ _ eT
 refine t_makeMap fun m hm3 => ?_
 refine gZ ?_
 have l4 := LH.upd_le (h := h3) (x := (true,.map #[] 0)) hm3
 refine t_loop (fun mm vs h' => h3.le h' /\ ∃ (i:Nat) (es:Array MapEntry) (c:Nat) (ks:List Int) (F:Int -> Int) (p:Option Addr) (cc:Nat),vs = [.int .i64 i,.slice p0 f.n0 c0,.slice p (idxT out i) cc] /\ i <= f.n1 /\ mm = f.n1 - i /\ h'.get m = some (true,.map es c) /\ MapK encI es c ks F /\
   (∀ k:Int,k ∈ ks ↔ ∃ j:Nat,j < i /\ out.testBit j = false /\ k = (j:Int)) /\ (∀ j:Nat,j < i -> out.testBit j = false -> F j = (idxT out j:Int)) /\ Growing (CEnc (vis h3.get p h'.get)) 77 4 h3.get h'.get p (idxT out i) cc (stripT b out (fun _ => []) i))
  ⟨l4,0,#[],0,[],fun _ => 0,none,0,rfl,Nat.zero_le _,rfl,Cells.upd_self _ _ _,MapK.nil,fun k => ⟨fun hk => by (cases hk),fun ⟨j,hj,_⟩ => absurd hj (Nat.not_lt_zero _)⟩,fun j hj => absurd hj (Nat.not_lt_zero _),Growing.nil⟩ ?_
 rintro Y mm vs h4 hY ⟨le4,i,es,c,ks,F,p,cc,rfl,hi,rfl,em,MK,hks,hF,gr⟩
 have hidl:idxT out i <= i := by
  unfold idxT
  have := List.length_filter_le (fun j => !out.testBit j) (List.range i)
  rwa [List.length_range] at this
 refine gZ ?_
 refine t_if (fun e1 => ?_) (fun e1 => ?_)
 ·have le04 := LH.le_trans le03 le4
  obtain ⟨cs,a,hx,ha,x0,x1,⟨q,m',k,x2,x3⟩,q',m2,k',x6,x7⟩ := (hr.le le04.1).cases.at (i := i) (by omega)
  have hin:0 <= (i:Int) /\ (i:Int) < (f.n1:Int) := by omega
  have hcm := List.mem_of_getElem? hx
  have hss := strip_succ (out := out) (f := fun _ => []) hx
  have his := idx_succ out i
  have bo := bit_at (x := out) (i := i) ho (by omega)
  refine gZ ?_
  repeat ((first | refine t_loadStr (by assumption) ?_ | refine t_loadV (by assumption) ?_ | refine gL0 (by assumption) ?_); refine gZ ?_)
  rw [bo]
  refine t_cond (fun g1 => ?_) (fun g1 => ?_)
  ·rw [if_pos g1,List.append_nil] at hss
   rw [if_pos g1,Nat.add_zero] at his
   refine t_again (hY (f.n1 - (i + 1)) _ _ (by omega) ⟨le4,i + 1,es,c,ks,F,p,cc,?_,by omega,rfl,em,MK,fun k => ?_,fun j hj hb => ?_,by rw [hss,his]; exact gr⟩)
   ·rw [wrap_id (by omega) (by omega),his]; rfl
   ·rw [hks k]
    constructor
    ·rintro ⟨j,h1,h2⟩; exact ⟨j,by omega,h2⟩
    ·rintro ⟨j,h1,h2,h3⟩
     by_cases e:j = i
     ·subst e; rw [g1] at h2; cases h2
     ·exact ⟨j,by omega,h2,h3⟩
   ·by_cases e:j = i
    ·subst e; rw [g1] at hb; cases hb
    ·exact hF j (by omega) hb
  ·rw [if_neg (by rw [g1]; simp)] at hss his
   refine t_mapPut (enc := encI) (i:Int) rfl encI_inj und1201 em MK (fun x _ => keyI x) fun es' c' ks' MK' hk' => ?_
   have le5 := le_updNew0 (x := (true,.map es' c')) le4 hm3
   have t5:Tn m h4 { h4 with get := h4.get.upd m (true,.map es' c') } := ⟨fun b hb => Cells.upd_ne _ _ hb,rfl,rfl,rfl⟩
   have rd5:Rd h4.get (h4.get.upd m (true,.map es' c')) := rd_map em
   have em5:(h4.get.upd m (true,.map es' c')) m = some (true,.map es' c') := Cells.upd_self _ _ _
   have gr5 := (grow_tn t5 (row_ne gr em) gr).mono fun y w hy => CEnc.up _ _ y w (vis_rd rd5) hy
   generalize hh5:({ h4 with get := h4.get.upd m (true,.map es' c') }:LH) = h5 at *
   replace em5:h5.get m = some (true,.map es' c') := by rw [<- hh5]; exact em5
   replace gr5:Growing (CEnc (vis h3.get p h5.get)) 77 4 h3.get h5.get p (idxT out i) cc (stripT b out (fun _ => []) i) := by rw [<- hh5]; rw [<- hh5] at gr5; exact gr5
   have le05 := LH.le_trans le03 le5
   obtain ⟨a',ha',y0,y1,⟨q1,m1,k1,y2,y3⟩,q2,m3,k2,y6,y7⟩ := book_at (hr.le le05.1) hx
   obtain rfl:a = a' := Option.some.inj (ha.symm.trans ha')
   have hsame:∀ {j v w},h4.get.cell? ((a.add (i * 4)).add j) = some v -> h5.get.cell? ((a.add (i * 4)).add j) = some w -> v = w := fun {j v w} h1 h2 => by
    have := rd5 _ _ h1
    rw [<- hh5] at h2
    exact Option.some.inj (this.symm.trans h2)
   have e2 := hsame x2 y2
   cases e2
   have e6 := hsame x6 y6
   cases e6
   refine gZ ?_
   have hg3 := ok.grounds cs hcm
   have haf := after_in ok.toBookShape hcm
   refine t_gr (c3172 y3 ⟨hg3.1,fun g hg => (hg3.2 g hg).1⟩ y7 (by
    have := sorted_le5 (n := 5) (k := 0) (ok.after cs hcm).1 (fun v hv => by have := (ok.after cs hcm).2 v hv; omega)
    omega)) ?_
   rintro _ h6' le6 ⟨qg,cg,qa,ma,ca,rfl,gg⟩
   refine gZ ?_
   have hsl:Sl LsE 1 (vis h3.get p h6'.get) qg m' cs.grounds := by
    obtain ⟨vs,o,r⟩ := gg.row
    refine r.sl LsEnc.len (by omega) (LsEnc.e (Rd.of_le (vis_sub2 le5 gr5))) (o.vis gg.new le5.1 fun ad had => ?_) (by have := hg3.1; omega)
    obtain ⟨ws,⟨_,hh⟩,_⟩ := gr5.row
    rcases hh with ⟨hp,_⟩ | ⟨r',cs',hp,hr',_⟩
    ·rw [hp] at had; cases had
    ·rw [hp] at had; cases had
     exact ⟨_,hr'⟩
   refine t_pushV (h₀ := h3) (En := CEnc) CEnc.up { cs with after := [] } [.string cs.name,.int .i64 cs.against,.slice qg m' cg,.slice none 0 0] rfl rfl und1119 inf1163 rfl (by decide) (by decide) (by kernel_rfl) rfl (by simp; exact ⟨rfl,rfl,rfl,rfl⟩) (by omega) ((gr5.le le6.1).mono fun y w hy => CEnc.up _ _ y w (Rd.of_le (vis_le le6.1)) hy) (LH.le_trans le5 le6) ⟨qg,m',cg,rfl,hsl,rfl⟩ fun p7 c7 h7 le7 kp7 g7 => ?_
   refine gZ ?_
   have em7 := kp7 m _ (row_ne gr5 em5) (le6.1 _ _ em5)
   refine t_again (hY (f.n1 - (i + 1)) _ _ (by omega) ⟨le7,i + 1,es',c',ks',_,p7,c7,?_,by omega,rfl,em7,MK',fun k => ?_,fun j hj hb => ?_,by rw [hss,his]; exact g7⟩)
   ·rw [wrap_id (by omega) (by omega),his]; rfl
   ·rw [hk' k,hks k]
    constructor
    ·rintro (rfl | ⟨j,h1,h2⟩)
     ·exact ⟨i,by omega,g1,rfl⟩
     ·exact ⟨j,by omega,h2⟩
    ·rintro ⟨j,h1,h2,h3⟩
     by_cases e:j = i
     ·subst e; exact .inl h3
     ·exact .inr ⟨j,by omega,h2,h3⟩
   ·unfold updK
    by_cases e:j = i
    ·subst e; rw [if_pos rfl]
    ·rw [if_neg (by omega)]; exact hF j (by omega) hb
 have hin1:i = b.cases.length := by omega
 subst hin1
 clear hY
 have hAn:f.n1 = b.cases.length := hn1
 have hLl := strip_len (b := b) (out := out) (f := fun _ => []) (i := b.cases.length) (Nat.le_refl _)
 have hFl := strip_len (b := b) (out := out) (f := fun i => newAfter out b.cases.length ((afterT b out).getD i 0)) (i := b.cases.length) (Nat.le_refl _)
 have eT4 := le4.1 _ _ eT3
 refine gZ ?_
 obtain ⟨vs,⟨hv1,hv2⟩,hv3⟩ := gr.row
 rcases hv2 with ⟨rfl,hz,rfl⟩ | ⟨rc,cs0,rfl,hrc,hcz,hcap,hcv⟩
 ·-- no case is left
  refine t_range und1201 em fun it hit => ?_
  have l5 := LH.upd_le (h := h4) (x := (true,.mapIter (some m) c #[] c)) hit
  refine gZ ?_
  refine t_loop (fun mm vs h' => h4.le h' /\ vs = [] /\ mm = 0 /\ h'.get it = some (true,.mapIter (some m) c #[] c)) ⟨l5,rfl,rfl,Cells.upd_self _ _ _⟩ ?_
  rintro Y mm vs h5' hY ⟨le5,rfl,rfl,e5⟩
  refine gZ ?_
  refine t_next e5 (le5.1 _ _ em) MK.lt (fun _ => ?_) (fun e he _ => ?_)
  ·refine gZ ?_
   refine t_cond (fun e => by cases e) (fun _ => ?_)
   refine gZ ?_
   have hlen0:(withoutT b out).cases = [] := List.eq_nil_of_length_eq_zero (by
    show (stripT b out _ b.cases.length).length = 0
    rw [hFl]; exact hz)
   refine t_ret ⟨LH.le_trans le03 (LH.le_trans le4 le5),⟨p0,f.n0,c0,none,idxT out b.cases.length,0⟩,rfl,?_,?_,hc0,by show idxT out _ <= 0; omega⟩
   ·exact s0.le StrE.grow (LH.le_trans le4 le5).1
   ·rw [hlen0]
    show Sl CaseE 4 _ none (idxT out b.cases.length) []
    rw [hz]
    exact Sl.nil
  ·exfalso
   obtain ⟨k,hk,_⟩ := MK.mem he
   obtain ⟨j,h1,h2,_⟩ := (hks k).1 hk
   have := idx_lt (out := out) h1 h2
   omega
 have hmc:m ≠ rc := fun e => row_ne gr em _ rfl e.symm
 have hrc3:h3.get rc = none := gr.new _ rfl
 have hac:ra ≠ rc := by rintro rfl; rw [eT3] at hrc3; cases hrc3
 refine t_range und1201 em fun it hit => ?_
 have hitc:it ≠ rc := by rintro rfl; rw [hrc] at hit; cases hit
 have hitm:it ≠ m := by rintro rfl; rw [em] at hit; cases hit
 refine gZ ?_
 refine t_loop (fun mm vs h' => vs = [] /\ ∃ (seen:Array Nat) (cs:Array Value) (Af:Nat -> List Int),mm = unseen es seen /\ (∀ r y,r ≠ rc -> h4.get r = some y -> h'.get r = some y) /\ (h'.chans = h4.chans /\ h'.pend = h4.pend /\ h'.todo = h4.todo) /\ h'.get rc = some (true,.cells cs 77 (0,0)) /\ h'.get it = some (true,.mapIter (some m) c seen c) /\
   Filled (stripT b out (fun _ => []) b.cases.length) (hid h'.get rc it) cs Af /\ ∀ e ∈ es.toList,∀ i:Nat,e.key = encI i -> (e.born ∈ seen.toList -> Af (idxT out i) = newAfter out b.cases.length ((afterT b out).getD i 0)) /\ (e.born ∉ seen.toList -> cs[idxT out i * 4 + 3]? = some (.slice none 0 0)))
  ⟨rfl,#[],cs0,fun _ => [],rfl,fun r y _ hy => (LH.upd_le hit).1 r y hy,⟨rfl,rfl,rfl⟩,(LH.upd_le hit).1 _ _ hrc,Cells.upd_self _ _ _,⟨by rw [hLl,hcz]; exact Nat.mul_le_mul_right _ hcap,fun j x hx => ?_⟩,fun e he i hei => ⟨fun hh => by simp at hh,fun _ => ?_⟩⟩ ?_
 ·obtain ⟨ws,⟨q,m',k,hws,hsl,_⟩,hat⟩ := hv3.at CEnc.len j x hx
  subst hws
  have hvis:(vis h3.get (some ⟨rc,0,none⟩) h4.get).le (hid (h4.get.upd it (true,.mapIter (some m) c #[] c)) rc it) := by
   intro r y hy
   obtain ⟨⟨_,q4⟩,q5⟩ := vis_some.1 hy
   have hrr:r ≠ rc := fun e => q4 (by rw [e]; rfl)
   have hri:r ≠ it := by rintro rfl; rw [hit] at q5; cases q5
   unfold hid
   rw [if_neg (fun hh => by rcases hh with hh | hh; exact hrr hh; exact hri hh),Cells.upd_ne _ _ hri]
   exact q5
  refine ⟨?_,?_,⟨q,m',k,?_,hsl.le LsE.grow hvis⟩,none,0,0,?_,Sl.nil⟩
  ·exact hcv _ _ (by have := hat 0 _ rfl; simpa using this)
  ·exact hcv _ _ (hat 1 _ rfl)
  ·exact hcv _ _ (hat 2 _ rfl)
  ·exact hcv _ _ (hat 3 _ rfl)
 ·obtain ⟨k,hk,hek,_⟩ := MK.mem he
  have:k = (i:Int) := encI_inj _ _ (hek.symm.trans hei)
  obtain ⟨j,h1,h2,h3'⟩ := (hks k).1 hk
  have hji:j = i := by omega
  subst hji
  have hx := strip_at (b := b) (out := out) (f := fun _ => []) (Nat.le_refl _) h1 (List.getElem?_eq_getElem h1) h2
  obtain ⟨ws,⟨q,m',k',hws,_⟩,hat⟩ := hv3.at CEnc.len _ _ hx
  subst hws
  exact hcv _ _ (hat 3 _ rfl)
 rintro Y mm vs h5' hY ⟨rfl,seen,cs,Af,rfl,kp,rest,erc,eit,FL,hseen⟩
 have h3le:h3.le h5' := ⟨fun r y hy => kp r y (fun e => by rw [e,hrc3] at hy; cases hy) (le4.1 _ _ hy),by rw [rest.1]; exact le4.2.1,by rw [rest.2.1]; exact le4.2.2.1,by rw [rest.2.2]; exact le4.2.2.2⟩
 refine gZ ?_
 refine t_next eit (kp m _ hmc em) MK.lt (fun hall => ?_) (fun e he hb => ?_)
 ·refine gZ ?_
  refine t_cond (fun e => by cases e) (fun _ => ?_)
  refine gZ ?_
  refine t_ret ⟨LH.le_trans le03 h3le,⟨p0,f.n0,c0,some ⟨rc,0,none⟩,idxT out b.cases.length,cc⟩,rfl,s0.le StrE.grow h3le.1,?_,hc0,hcap⟩
  refine ⟨hFl.symm,?_,fun j y hy => ⟨_,rfl,?_⟩⟩
  ·show (stripT b out _ b.cases.length).length < _
   rw [hFl]; omega
  ·have hjl := (List.getElem?_eq_some_iff.1 hy).1
   have hjl:j < (stripT b out (fun i => newAfter out b.cases.length ((afterT b out).getD i 0)) b.cases.length).length := hjl
   rw [hFl] at hjl
   obtain ⟨i,h1,h2,h3'⟩ := idx_back hjl
   subst h3'
   have hci := List.getElem?_eq_getElem h1
   have hx := strip_at (b := b) (out := out) (f := fun _ => []) (Nat.le_refl _) h1 hci h2
   have hy' := strip_at (b := b) (out := out) (f := fun i => newAfter out b.cases.length ((afterT b out).getD i 0)) (Nat.le_refl _) h1 hci h2
   have hye:y = { b.cases[i] with after := newAfter out b.cases.length ((afterT b out).getD i 0) } := Option.some.inj (hy.symm.trans hy')
   subst hye
   obtain ⟨w0,w1,⟨q,m',k,w2,w3⟩,q',m2,k',w4,w5⟩ := FL.row _ _ hx
   have hki:((i:Nat):Int) ∈ ks := (hks _).2 ⟨i,h1,h2,rfl⟩
   obtain ⟨jj,hjj⟩ := List.mem_iff_getElem?.1 hki
   obtain ⟨e',he',hek',_⟩ := MK.of hjj
   have hAf := (hseen e' (List.mem_of_getElem? he') i hek').1 (hall e' (List.mem_of_getElem? he'))
   rw [hAf] at w5
   have cell:∀ (t:Nat) v,cs[idxT out i * 4 + t]? = some v -> h5'.get.cell? ((Addr.add ⟨rc,0,none⟩ (idxT out i * 4)).add t) = some v := fun t v hv => by
    rw [add_plain,add_plain,Nat.zero_add]
    unfold Cells.cell?
    rw [erc]
    exact hv
   exact ⟨cell 0 _ w0,cell 1 _ w1,⟨q,m',k,cell 2 _ w2,w3.le LsE.grow hid_sub⟩,q',m2,k',cell 3 _ w4,w5.le IntE.grow hid_sub⟩
 ·obtain ⟨k,hk,hek,hev⟩ := MK.mem he
  obtain ⟨i,hi1,hi2,rfl⟩ := (hks k).1 hk
  rw [hF i hi1 hi2] at hev
  have hij := idx_lt (out := out) hi1 hi2
  have e6:(h5'.get.upd it (true,.mapIter (some m) c (seen.push e.born) c)) it = some (true,.mapIter (some m) c (seen.push e.born) c) := Cells.upd_self _ _ _
  have kp6:∀ r y,r ≠ it -> h5'.get r = some y -> (h5'.get.upd it (true,.mapIter (some m) c (seen.push e.born) c)) r = some y := fun r y hr hy => by rw [Cells.upd_ne _ _ hr]; exact hy
  have rest6:({ h5' with get := h5'.get.upd it (true,.mapIter (some m) c (seen.push e.born) c) }:LH).chans = h5'.chans /\ ({ h5' with get := h5'.get.upd it (true,.mapIter (some m) c (seen.push e.born) c) }:LH).pend = h5'.pend /\ ({ h5' with get := h5'.get.upd it (true,.mapIter (some m) c (seen.push e.born) c) }:LH).todo = h5'.todo := ⟨rfl,rfl,rfl⟩
  generalize hh6:({ h5' with get := h5'.get.upd it (true,.mapIter (some m) c (seen.push e.born) c) }:LH) = h6' at *
  have hg6:h6'.get = h5'.get.upd it (true,.mapIter (some m) c (seen.push e.born) c) := by rw [<- hh6]
  rw [<- hg6] at e6 kp6
  have hekv:e.key = .int .i64 (i:Int) := hek
  have erc6 := kp6 rc _ hitc.symm erc
  have em6 := kp6 m _ hitm.symm (kp m _ hmc em)
  have hia:ra ≠ it := by rintro rfl; rw [eT4] at hit; cases hit
  have eT6 := kp6 ra _ hia (kp ra _ hac eT4)
  refine gZ ?_
  refine t_cond (fun _ => ?_) (fun e => by cases e)
  refine gZ ?_
  refine t_entry (m := m) (c := c) e6 em6 he MK.born ?_
  rw [hekv,hev]
  refine gZ ?_
  have hsl0 := (hseen e he i hek).2 hb
  have hB0:(butB h6' rc).get rc = none := if_pos rfl
  refine t_loop (fun mm vs h' => ∃ (k:Nat) (cs':Array Value) (q:Option Addr) (mq cq:Nat),vs = [.int .i64 k] /\ k <= f.n1 /\ mm = f.n1 - k /\ (butB h6' rc).le h' /\ h'.get rc = some (true,.cells cs' 77 (0,0)) /\ cs'.size = cs.size /\ cs'[idxT out i * 4 + 3]? = some (.slice q mq cq) /\ (∀ t,t ≠ idxT out i * 4 + 3 -> cs'[t]? = cs[t]?) /\
    Growing IntEnc 3 1 (butB h6' rc).get h'.get q mq cq (newAfter out k ((afterT b out).getD i 0)))
   ⟨0,cs,none,0,0,rfl,Nat.zero_le _,rfl,butB_le (fun r y _ hy => hy) ⟨rfl,rfl,rfl⟩,erc6,rfl,hsl0,fun _ _ => rfl,Growing.nil⟩ ?_
  rintro Y2 mm vs h7 hY2 ⟨k,cs',q,mq,cq,rfl,hk2,rfl,lB,erc7,hsz,hq7,hot,g7⟩
  have up:∀ r y,r ≠ rc -> h6'.get r = some y -> h7.get r = some y := fun r y hr hy => lB.1 r y (by show (if r = rc then none else h6'.get r) = _; rw [if_neg hr]; exact hy)
  have em7 := up m _ hmc em6
  have eT7 := up ra _ hac eT6
  have hnl:(newAfter out k ((afterT b out).getD i 0)).length <= k := by
   unfold newAfter
   rw [List.length_map]
   have := List.length_filter_le (fun j => !out.testBit j && ((afterT b out).getD i 0).testBit j) (List.range k)
   rwa [List.length_range] at this
  have hmq := g7.count IntEnc.len (by omega)
  refine gZ ?_
  refine t_if (fun e1 => ?_) (fun e1 => ?_)
  ·have hstep := new_step out k ((afterT b out).getD i 0)
   have hrcell:h7.get.cell? ((Addr.add (Addr.add ⟨rc,0,none⟩ (Int.toNat ((idxT out i:Nat):Int) * 4)) 3)) = some (.slice q mq cq) := by
    rw [Int.toNat_natCast,add_plain,add_plain,Nat.zero_add]
    unfold Cells.cell?
    rw [erc7]; exact hq7
   have hacell := nats_cell eT7 (j := i) (by omega)
   have hin:0 <= (i:Int) /\ (i:Int) < (f.n1:Int) := by omega
   have hinj:0 <= ((idxT out i:Nat):Int) /\ ((idxT out i:Nat):Int) < ((idxT out b.cases.length:Nat):Int) := by omega
   have skip:((!out.testBit k && ((afterT b out).getD i 0).testBit k) = false) -> Y2 [.int .i64 (IntKind.wrap .i64 ((k:Int) + 1))] h7 := fun hf => by
    rw [if_neg (by rw [hf]; simp),List.append_nil] at hstep
    exact hY2 (f.n1 - (k + 1)) _ _ (by omega) ⟨k + 1,cs',q,mq,cq,by rw [wrap_id (by omega) (by omega)]; rfl,by omega,rfl,lB,erc7,hsz,hq7,hot,by rw [hstep]; exact g7⟩
   refine t_mapGet (enc := encI) (k:Int) rfl encI_inj und1201 inf3 em7 MK (fun x _ => keyI x) (fun hin2 => ?_) (fun hno => ?_)
   all_goals simp only [if_true]
   ·obtain ⟨k',hk1,hk2',hk3⟩ := (hks _).1 hin2
    have:k' = k := by omega
    subst this
    rw [hF k' hk1 hk2']
    have bo := bit_at (x := (afterT b out).getD i 0) (i := k') (hsT i) (by omega)
    refine gZ ?_
    refine t_cond (fun _ => ?_) (fun e => by cases e)
    refine gZ ?_
    rw [bo]
    refine t_cond (fun g1 => ?_) (fun g1 => ?_)
    ·rw [hk2',g1] at hstep
     refine gZ ?_
     refine t_buildG und50 inf3 (by decide) (by decide) (cells := #[.int .i64 (idxT out k':Int)]) (by kernel_rfl) fun r8 h8 le8 hr8 e8 => ?_
     have erc8 := le8.1 _ _ erc7
     have hrcell8 := Cells.cell?_le le8.1 hrcell
     refine gZ ?_
     refine t_grow (h₀ := butB h6' rc) (Enc := IntEnc) (x := (idxT out k':Int)) (ws := [.int .i64 (idxT out k':Int)]) rfl rfl und50 und50 inf3 rfl (by decide) (by omega) (g7.le le8.1) (LH.le_trans lB le8) rfl rfl ?_ (by simp; rfl) ?_
     ·intro j v hj
      match j,hj with
      | 0,hj => cases hj; rw [add_plain]; unfold Cells.cell?; rw [e8]; rfl
      | j + 1,hj => simp at hj
     intro p9 c9 h9 le9 kp9 g9
     have erc9 := kp9 rc _ (row_el (g7.le le8.1) erc8 (by decide)) erc8
     refine gZ ?_
     refine t_storeC (j := idxT out i * 4 + 3) (by rw [Int.toNat_natCast,add_plain,add_plain,add_plain]; simp) erc9 (by have := (Array.getElem?_eq_some_iff.1 hq7).1; exact this) rfl fun h10 t10 e10 => ?_
     refine gZ ?_
     refine t_again (hY2 (f.n1 - (k' + 1)) _ _ (by omega) ⟨k' + 1,cs'.setIfInBounds (idxT out i * 4 + 3) (.slice p9 (mq + 1) c9),p9,mq + 1,c9,?_,by omega,rfl,t10.le le9 hB0,e10,by rw [Array.size_setIfInBounds]; exact hsz,?_,fun t ht => ?_,?_⟩)
     ·rw [wrap_id (by omega) (by omega)]; rfl
     ·rw [Array.getElem?_setIfInBounds,if_pos rfl,if_pos (Array.getElem?_eq_some_iff.1 hq7).1]
     ·rw [Array.getElem?_setIfInBounds,if_neg (fun hh => ht hh.symm)]
      exact hot t ht
     ·rw [hstep]
      exact grow_tn t10 (row_el g9 erc9 (by decide)) g9
    ·exact t_again (skip (by rw [g1]; simp))
   ·refine gZ ?_
    refine t_cond (fun e => by cases e) (fun _ => ?_)
    refine t_again (skip ?_)
    cases hbk:out.testBit k with
    | true => rfl
    | false => exact absurd ((hks _).2 ⟨k,by omega,hbk,rfl⟩) hno
  ·have hkn:k = b.cases.length := by omega
   subst hkn
   refine gZ ?_
   have eit7 := up it _ hitc e6
   have hle7:(hid h5'.get rc it).le (hid h7.get rc it) := hid_le fun r y h1 h2 hy => up r y h1 (kp6 r y h2 hy)
   refine t_again (hY (unseen es (seen.push e.born)) _ _ (unseen_less he hb) ⟨rfl,seen.push e.born,cs',fun t => if t = idxT out i then newAfter out b.cases.length ((afterT b out).getD i 0) else Af t,rfl,fun r y hr hy => up r y hr (kp6 r y (fun hh => by rw [hh,hit] at hy; cases hy) (kp r y hr hy)),?_,erc7,eit7,⟨by rw [hsz]; exact FL.size,fun t x hx => ?_⟩,fun e' he' i' hei' => ?_⟩)
   ·have := lB.2
    refine ⟨this.1.trans (rest6.1.trans rest.1),this.2.1.trans (rest6.2.1.trans rest.2.1),this.2.2.trans (rest6.2.2.trans rest.2.2)⟩
   ·obtain ⟨w0,w1,⟨qq,m',kk,w2,w3⟩,q',m2,k',w4,w5⟩ := FL.row t x hx
    refine ⟨by rw [hot _ (by omega)]; exact w0,by rw [hot _ (by omega)]; exact w1,⟨qq,m',kk,by rw [hot _ (by omega)]; exact w2,w3.le LsE.grow hle7⟩,?_⟩
    by_cases et:t = idxT out i
    ·rw [if_pos et,et]
     exact ⟨q,mq,cq,hq7,sl_hid g7 (row_el g7 erc7 (by decide)) (row_it g7 eit7) (by omega)⟩
    ·rw [if_neg et]
     exact ⟨q',m2,k',by rw [hot _ (by omega)]; exact w4,w5.le IntE.grow hle7⟩
   ·obtain ⟨kx,hkx,hekx,_⟩ := MK.mem he'
    have hkx':kx = (i':Int) := encI_inj _ _ (hekx.symm.trans hei')
    obtain ⟨j',hj1,hj2,hj3⟩ := (hks kx).1 hkx
    have hji:j' = i' := by omega
    subst hji
    have same:j' = i -> e' = e := fun hh => by
     subst hh
     obtain ⟨a1,ha1⟩ := List.mem_iff_getElem?.1 he'
     obtain ⟨a2,ha2⟩ := List.mem_iff_getElem?.1 he
     obtain ⟨x1,hx1,hx1',_⟩ := MK.at ha1
     obtain ⟨x2,hx2,hx2',_⟩ := MK.at ha2
     have h12:x1 = x2 := encI_inj _ _ (hx1'.symm.trans (hei'.trans (hek.symm.trans hx2')))
     subst h12
     have := nodup_idx MK.nodup hx1 hx2
     subst this
     exact Option.some.inj (ha1.symm.trans ha2)
    constructor
    ·intro hm2
     by_cases ej:j' = i
     ·subst ej; exact if_pos rfl
     ·have hne:¬ idxT out j' = idxT out i := fun hh => ej (idx_inj hj2 hi2 hh)
      show (if idxT out j' = idxT out i then _ else Af (idxT out j')) = _
      rw [if_neg hne]
      refine (hseen e' he' j' hei').1 ?_
      rw [Array.toList_push,List.mem_append,List.mem_singleton] at hm2
      rcases hm2 with hm2 | hm2
      ·exact hm2
      ·exfalso
       obtain ⟨a1,ha1⟩ := List.mem_iff_getElem?.1 he'
       obtain ⟨a2,ha2⟩ := List.mem_iff_getElem?.1 he
       have q1:(es.toList.map (·.born))[a1]? = some e.born := by rw [List.getElem?_map,ha1]; simp [hm2]
       have q2:(es.toList.map (·.born))[a2]? = some e.born := by rw [List.getElem?_map,ha2]; rfl
       have := nodup_idx MK.born q1 q2
       subst this
       have hee := Option.some.inj (ha1.symm.trans ha2)
       subst hee
       have := encI_inj _ _ (hei'.symm.trans hek)
       omega
    ·intro hn2
     have hne:e' ≠ e := fun hh => hn2 (by rw [hh,Array.toList_push]; simp)
     have hji:j' ≠ i := fun hh => hne (same hh)
     have hidn:idxT out j' ≠ idxT out i := fun hh => hji (idx_inj hj2 hi2 hh)
     rw [hot _ (by omega)]
     exact (hseen e' he' j' hei').2 fun hh => hn2 (by rw [Array.toList_push]; simp [hh])
end Go.Proofs.YtgljffachdhigaaGreatDoor
end
section
namespace Go.Proofs.YtgljffachdhigaaGreatDoor
open Go Go.TM Go.Proofs
set_option linter.unusedVariables false
set_option maxRecDepth 100000
variable {X:XP} {h:LH} {A:Value -> LH -> Prop}
noncomputable def n3119 (b_0p:Option Addr) (b_0n b_0c:Nat) (b_1p:Option Addr) (b_1n b_1c:Nat) (right:Int):T := .call false 44 #[.agg #[.slice b_0p b_0n b_0c,.slice b_1p b_1n b_1c],.int .i64 right] fun v => .unTup v fun l => .unCons l fun v vs => .unAgg v fun l => .popS l fun a n c vs_1 => .popS vs_1 fun a_1 n_1 c_1 vs_2 => .unNil vs_2 (.unCons vs fun v vs => .unI .i64 v fun n_2 => .unNil vs (bif n_2 != 0 then .leaf (.ret (.tuple #[.slice none 0 0,.int .i64 n_2])) else .sem false (Instr.makeMap 105 none) fun v => .unM v fun a_2 => .new 105 #[.map none] fun r => .store (Addr.add { block := r,off := 0 } 0) (.map a_2) (.need (0 <= (↑b_1n:Int)) (.loop [.int .i64 0] (fun vs => .popI .i64 vs fun n_3 vs => .unNil vs (bif decide (n_3 < IntKind.wrap .i64 (1 * 2 ^ min (Int.toNat (↑b_1n:Int)) 64)) then .loadM { block := r,off := 0 } fun p => .call false 45 #[.agg #[.slice a n c,.slice a_1 n_1 c_1],.int .i64 n_3] fun v => .unAgg v fun l => .popS l fun a n c vs => .popS vs fun a_3 n_4 c_2 vs => .unNil vs (.nd (.int .i64 right) (.nd (.int .i64 n_3) (.loadM { block := r,off := 0 } fun p_1 => .need (AV.val (.map p_1) = AV.val (.map p)) (.call false 46 #[.agg #[.slice a n c,.slice a_3 n_4 c_2],.int .i64 right] fun v => .unI .i64 v fun n => .nd (.int .i64 n_3) (.loadM { block := r,off := 0 } fun p_2 => .need (AV.val (.map p_2) = AV.val (.map p)) (.sem false (Sem.bind (Instr.mapUpdate 105 (.map p) (.int .i64 n_3) (.int .i64 n)) fun __r => pure (.tuple #[])) fun x => .leaf (.again [.int .i64 (IntKind.wrap .i64 (n_3 + 1))]))))))) else .leaf (.brk [.int .i64 n_3]))) (fun vs => .popI .i64 vs fun n_3 vs => .unNil vs (.call false 48 #[.agg #[.slice a n c,.slice a_1 n_1 c_1]] fun v => .unS v fun a n c => .nd (.func (Fn.func 49) #[] #[.pointer (some { block := r,off := 0 })]) (.nd (.int .i64 (↑b_1n:Int)) (.nd (.slice b_1p b_1n b_1c) (.need (AV.pp 2 1 = AV.pp 2 1) (.call false 47 #[.slice a n c,.int .i64 (↑b_1n:Int),.func (Fn.func 49) #[] #[.pointer (some { block := r,off := 0 })]] fun v => .unTup v fun l => .unCons l fun v vs => .unS v fun a n c => .unCons vs fun v vs => .unB v fun b => .unNil vs (.nd (.slice b_1p b_1n b_1c) (.need (AV.pp 2 1 = AV.pp 2 1) (.nd (.bool b) (.leaf (.ret (.tuple #[.slice a n c,.int .i64 0])))))))))))) (fun vs => .popI .i64 vs fun n vs => .unNil vs (.leaf (.ret (.tuple #[.slice none 0 0,.int .i64 0])))) fun x x_1 => .fail))))
theorem w3119 (b_0p:Option Addr) (b_0n b_0c:Nat) (b_1p:Option Addr) (b_1n b_1c:Nat) (right:Int) (hX:XOK X) (hw:(n3119 b_0p b_0n b_0c b_1p b_1n b_1c right).wp X Tryz.prog (retQ A) h):FWK X Tryz.prog .normal 13 #[.agg #[.slice b_0p b_0n b_0c,.slice b_1p b_1n b_1c],.int .i64 right] h A := fwk_neat (priv := [2,6]) (loops := [{ id := 0,slots := [(26,.int .i64)],ro := [2,6],outs := [] }]) (joins := []) (fd := Tryz.f13) (by kernel_rfl) (by simp) (by kernel_rfl) (by kernel_rfl) hX hw
noncomputable def n3121 (b_0p:Option Addr) (b_0n b_0c:Nat) (b_1p:Option Addr) (b_1n b_1c:Nat) (casesp:Option Addr) (casesn casesc:Nat):T := .call false 51 #[.agg #[.slice b_0p b_0n b_0c,.slice b_1p b_1n b_1c]] fun v => .unI .i64 v fun n => bif n != 0 then .leaf (.ret (.tuple #[.agg #[.slice none 0 0,.slice none 0 0],.int .i64 n])) else .call false 53 #[.slice casesp casesn casesc,.int .i64 (↑b_1n:Int)] fun v => .unI .i64 v fun n => bif n != 0 then .leaf (.ret (.tuple #[.agg #[.slice none 0 0,.slice none 0 0],.int .i64 n])) else .call false 50 #[.slice casesp casesn casesc] fun v => .unI .i64 v fun n => .nd (.agg #[.slice b_0p b_0n b_0c,.slice b_1p b_1n b_1c]) (.nd (.agg #[.slice b_0p b_0n b_0c,.slice b_1p b_1n b_1c]) (.call false 45 #[.agg #[.slice b_0p b_0n b_0c,.slice b_1p b_1n b_1c],.int .i64 n] fun v => .unAgg v fun l => .popS l fun a n c vs => .popS vs fun a_1 n_1 c_1 vs => .unNil vs (.nd (.agg #[.slice b_0p b_0n b_0c,.slice b_1p b_1n b_1c]) (.leaf (.ret (.tuple #[.agg #[.slice a n c,.slice a_1 n_1 c_1],.int .i64 0]))))))
theorem w3121 (b_0p:Option Addr) (b_0n b_0c:Nat) (b_1p:Option Addr) (b_1n b_1c:Nat) (casesp:Option Addr) (casesn casesc:Nat) (hX:XOK X) (hw:(n3121 b_0p b_0n b_0c b_1p b_1n b_1c casesp casesn casesc).wp X Tryz.prog (retQ A) h):FWK X Tryz.prog .normal 15 #[.agg #[.slice b_0p b_0n b_0c,.slice b_1p b_1n b_1c],.slice casesp casesn casesc] h A := fwk_neat (priv := [2,4]) (loops := []) (joins := []) (fd := Tryz.f15) (by kernel_rfl) (by simp) (by kernel_rfl) (by kernel_rfl) hX hw
end Go.Proofs.YtgljffachdhigaaGreatDoor
end
section
namespace Go.TM.Rv
open Go Go.TM
theorem and_at {x y:Nat} (hx:x < 64) (hy:y < 64):(IntKind.i64.wrap (((BitVec.ofInt 64 (x:Int)) &&& (BitVec.ofInt 64 (y:Int))).toNat:Int) == 0) = (x &&& y == 0) := by
 rw [BitVec.toNat_and,bv_nat' (by omega),bv_nat' (by omega)]
 have h2:x &&& y < 64 := Nat.lt_of_le_of_lt Nat.and_le_left hx
 rw [wrap_id (by omega) (by omega)]
 rw [Bool.eq_iff_iff,beq_iff_eq,beq_iff_eq]
 omega
theorem so_bad {b:RvBook} {r:Nat} {l:List Int} {j:Nat} (hj:j < 2 ^ b.cases.length) (h1:(j &&& bitsT l == 0) = true) (h2:saidT b r j ≠ saidT b r 0):soT b r l = false := by
 unfold soT
 rw [List.all_eq_false]
 refine ⟨j,List.mem_range.2 hj,?_⟩
 rw [h1]
 simpa using h2
theorem so_good {b:RvBook} {r:Nat} {l:List Int} (h:∀ j,j < 2 ^ b.cases.length -> (j &&& bitsT l == 0) = true -> saidT b r j = saidT b r 0):soT b r l = true := by
 unfold soT
 rw [List.all_eq_true]
 intro j hj
 cases e:(j &&& bitsT l == 0) with
 | false => rfl
 | true => rw [h j (List.mem_range.1 hj) e]; simp
theorem bits_lt6 {l:List Int} (h:∀ v ∈ l,0 <= v /\ v < 6):bitsT l < 64 := bits_lt (k := 6) fun v hv => by have := h v hv; omega
theorem pow_le5 {n:Nat} (h:n <= 5):2 ^ n <= 32 := Nat.pow_le_pow_right (n := 2) (by omega) h
end Go.TM.Rv
namespace Go.Proofs.YtgljffachdhigaaGreatDoor
open Go Go.TM Go.Proofs Go.TM.Rv
attribute [local irreducible] T.wp CV FWK
theorem und1171:Tryz.prog.underlying 105 = some (.map 3 56) := by kernel_rfl
set_option maxRecDepth 10000 in
theorem c3149 {h:LH} {z0:Addr} {m c:Nat} {es:Array MapEntry} {b:RvBook} {r:Nat} {F:Int -> Int} {ks:List Int} (hz:h.get.cell? z0 = some (.map (some m))) (em:h.get m = some (true,.map es c)) (MK:MapK encI es c ks F) (hks:∀ k:Int,k ∈ ks ↔ ∃ j:Nat,j < 2 ^ b.cases.length /\ k = j)
  (hF:∀ j:Nat,j < 2 ^ b.cases.length -> F j = saidT b r j) (h5:b.cases.length <= 5) {p:Option Addr} {n cc:Nat} {x:List Int} (hx:Sl IntE 1 h.get p n x) (hin:∀ v ∈ x,0 <= v /\ v < 6):Gr Tryz.prog 49 #[.slice p n cc,.pointer (some z0)] h fun v _ => v = .bool (soT b r x) := by
 refine w3149 _ _ _ _ X0_ok ?_
 unfold n3149
 have hp := pow_le5 h5
 refine gZ ?_
 refine t_range und1171 em fun it hit => ?_
 have l5 := LH.upd_le (h := h) (x := (true,.mapIter (some m) c #[] c)) hit
 refine gZ ?_
 refine t_loop (fun mm vs h' => h.le h' /\ ∃ seen,vs = [.bool false] /\ mm = unseen es seen /\ h'.get it = some (true,.mapIter (some m) c seen c) /\ ∀ e ∈ es.toList,e.born ∈ seen.toList -> ∀ j:Nat,e.key = encI j -> (j &&& bitsT x == 0) = true -> saidT b r j = saidT b r 0) ⟨l5,#[],rfl,rfl,Cells.upd_self _ _ _,fun e _ hh => by simp at hh⟩ ?_
 rintro Y mm vs h5' hY ⟨le5,seen,rfl,rfl,e5,hall⟩
 refine gZ ?_
 refine t_next e5 (le5.1 _ _ em) MK.lt (fun hend => ?_) (fun e he hb => ?_)
 ·refine gZ ?_
  refine t_cond (fun e => by cases e) (fun _ => ?_)
  refine gZ ?_
  refine t_ret ⟨le5,?_⟩
  rw [so_good fun j hj h1 => ?_]
  obtain ⟨a,ha⟩ := List.mem_iff_getElem?.1 ((hks j).2 ⟨j,hj,rfl⟩)
  obtain ⟨e,he,hek,_⟩ := MK.of ha
  have hem := List.mem_of_getElem? he
  exact hall e hem (hend e hem) j hek h1
 ·obtain ⟨k,hk,hek,hev⟩ := MK.mem he
  obtain ⟨j,hj,rfl⟩ := (hks k).1 hk
  rw [hF j hj] at hev
  have l6 := le_updNew0 (x := (true,.mapIter (some m) c (seen.push e.born) c)) le5 hit
  have e6:(h5'.get.upd it (true,.mapIter (some m) c (seen.push e.born) c)) it = some (true,.mapIter (some m) c (seen.push e.born) c) := Cells.upd_self _ _ _
  generalize hh6:({ h5' with get := h5'.get.upd it (true,.mapIter (some m) c (seen.push e.born) c) }:LH) = h6' at *
  replace e6:h6'.get it = some (true,.mapIter (some m) c (seen.push e.born) c) := by rw [<- hh6]; exact e6
  have hekv:e.key = .int .i64 (j:Int) := hek
  have em6 := l6.1 _ _ em
  have hz6 := Cells.cell?_le l6.1 hz
  refine gZ ?_
  refine t_cond (fun _ => ?_) (fun e => by cases e)
  refine gZ ?_
  refine t_entry (m := m) (c := c) e6 em6 he MK.born ?_
  rw [hekv,hev]
  refine gZ ?_
  refine t_pu (c3150 (hx.le IntE.grow l6.1) hin) ?_
  refine gZ ?_
  have hbx:bitsT x < 64 := bits_lt6 hin
  rw [and_at (by omega) hbx]
  have next:∀ h7,((j &&& bitsT x == 0) = true -> saidT b r j = saidT b r 0) -> h6' = h7 -> Y [.bool false] h7 := by
   rintro _ hnew rfl
   refine hY (unseen es (seen.push e.born)) _ _ (unseen_less he hb) ⟨l6,seen.push e.born,rfl,rfl,e6,fun e' he' hb' j' hek' h1 => ?_⟩
   rw [Array.toList_push,List.mem_append,List.mem_singleton] at hb'
   rcases hb' with hb' | hb'
   ·exact hall e' he' hb' j' hek' h1
   ·obtain ⟨a1,ha1⟩ := List.mem_iff_getElem?.1 he'
    obtain ⟨a2,ha2⟩ := List.mem_iff_getElem?.1 he
    have q1:(es.toList.map (·.born))[a1]? = some e.born := by rw [List.getElem?_map,ha1]; simp [hb']
    have q2:(es.toList.map (·.born))[a2]? = some e.born := by rw [List.getElem?_map,ha2]; rfl
    have := nodup_idx MK.born q1 q2
    subst this
    have hee := Option.some.inj (ha1.symm.trans ha2)
    subst hee
    have := encI_inj _ _ (hek'.symm.trans hek)
    have:j' = j := by omega
    subst this
    exact hnew h1
  refine t_cond (fun g1 => ?_) (fun g1 => ?_)
  ·refine gZ ?_
   have hz0:(0:Int) ∈ ks := (hks 0).2 ⟨0,Nat.pow_pos (by omega),rfl⟩
   refine t_mapGet (enc := encI) (0:Int) rfl encI_inj und1171 inf34 em6 MK (fun x _ => keyI x) (fun _ => ?_) (fun hno => absurd hz0 hno)
   have hF0:F 0 = saidT b r 0 := hF 0 (Nat.pow_pos (by omega))
   rw [hF0]
   simp only [Bool.false_eq_true,if_false]
   refine gZ ?_
   refine t_cond (fun g2 => ?_) (fun g2 => ?_)
   ·have g2:saidT b r j ≠ saidT b r 0 := by simpa using g2
    refine gI ?_
    refine gZ ?_
    refine t_ret ⟨l6,?_⟩
    rw [so_bad hj g1 g2]
   ·have g2:saidT b r j = saidT b r 0 := by simpa using g2
    exact t_again (next _ (fun _ => g2) rfl)
  ·exact t_again (next _ (fun hh => by rw [hh] at g1; cases g1) rfl)
theorem c3148 {h:LH} {p0:Option Addr} {n0 c0:Nat} {p1:Option Addr} {n1 c1:Nat} (hn:n1 <= 100):Gr Tryz.prog 48 #[.agg #[.slice p0 n0 c0,.slice p1 n1 c1]] h fun v h' => ∃ p c,v = .slice p n1 c /\ Sl IntE 1 h'.get p n1 ((List.range n1).map fun i:Nat => (i:Int)) := by
 refine w3148 _ _ _ _ _ _ X0_ok ?_
 unfold n3148
 refine t_loop (fun mm vs h' => h.le h' /\ ∃ (i:Nat) (p:Option Addr) (c:Nat),vs = [.slice p i c,.int .i64 i] /\ i <= n1 /\ mm = n1 - i /\ Growing IntEnc 3 1 h.get h'.get p i c ((List.range i).map fun i:Nat => (i:Int))) ⟨LH.le_refl _,0,none,0,rfl,Nat.zero_le _,rfl,Growing.nil⟩ ?_
 rintro Y mm vs h1 hY ⟨le1,i,p,c,rfl,hi,rfl,g⟩
 refine gZ ?_
 refine t_if (fun e1 => ?_) (fun e1 => ?_)
 ·refine t_pushI (h₀ := h) g le1 (by omega) fun p' c' h2 le2 g2 => ?_
  refine gZ ?_
  refine t_again (hY (n1 - (i + 1)) _ _ (by omega) ⟨le2,i + 1,p',c',?_,by omega,rfl,?_⟩)
  ·rw [wrap_id (by omega) (by omega)]; rfl
  ·rw [List.range_succ,List.map_append]
   exact g2
 ·have:i = n1 := by omega
  subst this
  refine gZ ?_
  exact t_ret ⟨le1,p,c,rfl,g.sl IntEnc.len (by omega) IntEnc.e (by simp; omega)⟩
theorem c3144 {h:LH} (hck:Checks h.get) {f:BookC} {b:RvBook} (hr:BookR h.get f b) (ok:BookOk b) {i:Nat} (hi:i < b.rights.length):Gr Tryz.prog 44 #[bookV f,.int .i64 i] h fun v _ => v = .tuple #[bookV f,.int .i64 0] := by
 refine w3144 _ _ _ _ _ _ _ X0_ok ?_
 unfold n3144
 have hn0 := hr.rights.1
 have h6 := ok.rights
 refine t_gr (c3151 hck hr ok) ?_
 rintro _ h1 le1 rfl
 refine gZ ?_
 refine t_cond (fun e => by cases e) (fun _ => ?_)
 rw [wrap_id (n := (f.n0:Int) - 1) (by omega) (by omega)]
 refine t_pu (c3157 _ _ _) ?_
 refine gZ ?_
 have:isIn (i:Int) 0 ((f.n0:Int) - 1) = true := isIn_iff.2 ⟨by omega,by omega⟩
 rw [this]
 refine t_cond (fun e => by cases e) (fun _ => ?_)
 exact t_ret ⟨le1,rfl⟩
theorem c3121 {h:LH} (hck:Checks h.get) {f:BookC} {b:RvBook} (hr:BookR h.get f b) (ok:BookOk b) {p:Option Addr} {n c:Nat} {l:List Int} (hl:Sl IntE 1 h.get p n l) (hp:l.Pairwise (· < ·)) (hin:∀ v ∈ l,0 <= v /\ v < (b.cases.length:Int)) :
  Gr Tryz.prog 15 #[bookV f,.slice p n c] h fun v h' => ∃ f',v = .tuple #[bookV f',.int .i64 0] /\ BookR h'.get f' (withoutT b (bitsT l)) := by
 refine w3121 _ _ _ _ _ _ _ _ _ X0_ok ?_
 unfold n3121
 have hn1 := hr.cases.1
 have h5 := ok.cases
 refine t_gr (c3151 hck hr ok) ?_
 rintro _ h1 le1 rfl
 refine gZ ?_
 refine t_cond (fun e => by cases e) (fun _ => ?_)
 refine t_pu (c3153 (hl.le IntE.grow le1.1) (by omega) hp fun v hv => by have := hin v hv; omega) ?_
 refine gZ ?_
 refine t_cond (fun e => by cases e) (fun _ => ?_)
 refine t_pu (c3150 (hl.le IntE.grow le1.1) fun v hv => by have := hin v hv; omega) ?_
 refine gZ ?_
 have hb:bitsT l < 64 := bits_lt6 fun v hv => by have := hin v hv; omega
 refine t_gr (c3145 (hr.le le1.1) ok hb) ?_
 rintro _ h2 le2 ⟨f',rfl,r2⟩
 unfold bookV
 refine gZ ?_
 exact t_ret ⟨LH.le_trans le1 le2,f',rfl,r2⟩
end Go.Proofs.YtgljffachdhigaaGreatDoor
end
section
namespace Go.Proofs.YtgljffachdhigaaGreatDoor
open Go Go.TM Go.Proofs
set_option linter.unusedVariables false
set_option maxRecDepth 100000
variable {X:XP} {h:LH} {A:Value -> LH -> Prop}
noncomputable def n3101 (u_0 u_1 u_2 u_3:Int) (u_4p:Option Addr) (u_4n u_4c:Nat) (u_5p:Option Addr) (u_5n u_5c:Nat) (u_6p:Option Addr) (u_6n u_6c:Nat) (land day p_0 p_1 p_2:Int) (p_3p:Option Addr) (p_3n p_3c:Nat) (b_0p:Option Addr) (b_0n b_0c:Nat) (b_1p:Option Addr) (b_1n b_1c:Nat) (right:Int):T := .blk (.call false 5 #[.agg #[.int .i64 u_0,.int .i64 u_1,.int .i64 u_2,.int .i64 u_3,.slice u_4p u_4n u_4c,.slice u_5p u_5n u_5c,.slice u_6p u_6n u_6c]] fun v => .unB v fun b => bif !b then .call false 8 #[] fun v => .unB v fun b => .leaf (.retn [.bool b]) else bif u_0 == 0 then .call false 8 #[] fun v => .unB v fun b => .leaf (.retn [.bool b]) else .call false 6 #[.agg #[.slice b_0p b_0n b_0c,.slice b_1p b_1n b_1c]] fun v => .unB v fun b => bif b then .call false 8 #[] fun v => .unB v fun b => .leaf (.retn [.bool b]) else .call false 7 #[.agg #[.slice b_0p b_0n b_0c,.slice b_1p b_1n b_1c]] fun v => .unI .i64 v fun n => bif n != 0 then .call false 8 #[] fun v => .unB v fun b => .leaf (.retn [.bool b]) else bif (↑b_0n:Int) == 0 then .call false 8 #[] fun v => .unB v fun b => .leaf (.retn [.bool b]) else .leaf (.again [.bool false])) (fun vs => .popB vs fun b vs => .unNil vs (.need (u_1 ≠ 0) (.need ((↑b_0n:Int) ≠ 0) (.call false 9 #[.int .u16 day] fun v => .unI .i64 v fun n => .need ((↑b_0n:Int) ≠ 0) (.nd (.int .i64 (Int.tmod (IntKind.wrap .i64 right) (↑b_0n:Int))) (.nd (.int .i64 (↑b_0n:Int)) (.nd (.slice b_0p b_0n b_0c) (.need (AV.pp 10 0 = AV.pp 10 0) (.nd (.int .i64 (IntKind.wrap .i64 right)) (.nd (.int .u8 right) (.need (u_1 ≠ 0) (.nd (.int .i64 (Int.tmod (IntKind.wrap .i64 land) u_1)) (.nd (.int .i64 u_1) (.need (AV.pp 6 1 = AV.pp 6 1) (.nd (.int .i64 (IntKind.wrap .i64 land)) (.nd (.int .u8 land) (.need ((↑b_0n:Int) ≠ 0) (.nd (.int .i64 (Int.tmod (IntKind.wrap .i64 right) (↑b_0n:Int))) (.nd (.int .i64 (↑b_0n:Int)) (.nd (.slice b_0p b_0n b_0c) (.need (AV.pp 10 0 = AV.pp 10 0) (.nd (.int .i64 (IntKind.wrap .i64 right)) (.nd (.int .u8 right) (.need ((↑b_0n:Int) ≠ 0) (.nd (.int .i64 (Int.tmod (IntKind.wrap .i64 right) (↑b_0n:Int))) (.nd (.int .i64 (↑b_0n:Int)) (.nd (.slice b_0p b_0n b_0c) (.need (AV.pp 10 0 = AV.pp 10 0) (.nd (.int .i64 (IntKind.wrap .i64 right)) (.nd (.int .u8 right) (.call false 10 #[.agg #[.int .i64 u_0,.int .i64 u_1,.int .i64 u_2,.int .i64 u_3,.slice u_4p u_4n u_4c,.slice u_5p u_5n u_5c,.slice u_6p u_6n u_6c],.int .i64 (Int.tmod (IntKind.wrap .i64 land) u_1),.int .i64 n,.agg #[.slice b_0p b_0n b_0c,.slice b_1p b_1n b_1c]] fun v => .unTup v fun l => .unCons l fun v vs => .unS v fun a n_1 c => .unCons vs fun v vs => .unB v fun b_1 => .unNil vs (bif !b_1 then .leaf (.ret (.bool false)) else .blk (.call false 11 #[.agg #[.int .i64 u_0,.int .i64 u_1,.int .i64 u_2,.int .i64 u_3,.slice u_4p u_4n u_4c,.slice u_5p u_5n u_5c,.slice u_6p u_6n u_6c],.agg #[.int .i64 p_0,.int .i64 p_1,.int .i64 p_2,.slice p_3p p_3n p_3c]] fun v => .unTup v fun l => .unCons l fun v vs => .unAgg v fun l => .popI .i64 l fun n_2 vs_1 => .popI .i64 vs_1 fun n_3 vs_2 => .popI .i64 vs_2 fun n_4 vs_3 => .popI .i64 vs_3 fun n_5 vs_4 => .popS vs_4 fun a_1 n_6 c_1 vs_5 => .popS vs_5 fun a_2 n_7 c_2 vs_6 => .popS vs_6 fun a_3 n_8 c_3 vs_7 => .unNil vs_7 (.unCons vs fun v vs => .unB v fun b_2 => .unNil vs (bif b_2 then .call false 10 #[.agg #[.int .i64 n_2,.int .i64 n_3,.int .i64 n_4,.int .i64 n_5,.slice a_1 n_6 c_1,.slice a_2 n_7 c_2,.slice a_3 n_8 c_3],.int .i64 (Int.tmod (IntKind.wrap .i64 land) u_1),.int .i64 n,.agg #[.slice b_0p b_0n b_0c,.slice b_1p b_1n b_1c]] fun v => .unTup v fun l => .unCons l fun v vs => .unS v fun a_4 n c_4 => .unCons vs fun v vs => .unB v fun b_3 => .unNil vs (bif !b_3 then .leaf (.retn [.bool false]) else .call false 12 #[.slice a_4 n c_4,.slice a n_1 c] fun v => .unB v fun b_4 => bif !b_4 then .leaf (.retn [.bool false]) else .leaf (.again [.bool b])) else .leaf (.again [.bool b])))) (fun vs => .popB vs fun b vs => .unNil vs (.call false 13 #[.agg #[.slice b_0p b_0n b_0c,.slice b_1p b_1n b_1c],.int .i64 (Int.tmod (IntKind.wrap .i64 right) (↑b_0n:Int))] fun v => .unTup v fun l => .unCons l fun v vs => .unS v fun a_1 n c_1 => .unCons vs fun v vs => .unI .i64 v fun n_2 => .unNil vs (.call false 14 #[.agg #[.slice b_0p b_0n b_0c,.slice b_1p b_1n b_1c]] fun v => .unTup v fun l => .unCons l fun v vs => .unS v fun a_2 n_3 c_2 => .unCons vs fun v vs => .unS v fun a_3 n_4 c_3 => .unCons vs fun v vs => .unI .i64 v fun n_5 => .unNil vs (.call false 15 #[.agg #[.slice b_0p b_0n b_0c,.slice b_1p b_1n b_1c],.slice a n_1 c] fun v => .unTup v fun l => .unCons l fun v vs => .unAgg v fun l => .popS l fun a_4 n_6 c_4 vs_1 => .popS vs_1 fun a_5 n_7 c_5 vs_2 => .unNil vs_2 (.unCons vs fun v vs => .unI .i64 v fun n_8 => .unNil vs (.call false 14 #[.agg #[.slice a_4 n_6 c_4,.slice a_5 n_7 c_5]] fun v => .unTup v fun l => .unCons l fun v vs => .unS v fun a_6 n_9 c_6 => .unCons vs fun v vs => .unS v fun a_7 n_10 c_7 => .unCons vs fun v vs => .unI .i64 v fun n_11 => .unNil vs (.blk (bif n_2 != 0 then .leaf (.retn [.bool false]) else bif n_5 != 0 then .leaf (.retn [.bool false]) else bif n_8 != 0 then .leaf (.retn [.bool false]) else bif n_11 != 0 then .leaf (.retn [.bool false]) else bif (↑n_3:Int) != (↑b_0n:Int) then .leaf (.retn [.bool false]) else bif (↑n_9:Int) != (↑n_3:Int) then .leaf (.retn [.bool false]) else .leaf (.again [.bool b])) (fun vs => .popB vs fun b vs => .unNil vs (.loop [.bool b,.int .i64 0] (fun vs => .popB vs fun b vs => .popI .i64 vs fun n_12 vs => .unNil vs (bif decide (n_12 < (↑n:Int)) then .need (0 <= n_12 /\ n_12 < (↑n:Int)) (.someA a_1 fun a_8 => .loadI .i64 (a_8.add (n_12.toNat * 1)) fun n => .call false 16 #[.slice a n_1 c,.int .i64 n] fun v => .unB v fun b_2 => bif b_2 then .call false 8 #[] fun v => .unB v fun b => .leaf (.retn [.bool b,.int .i64 n_12]) else .leaf (.again [.bool b,.int .i64 (IntKind.wrap .i64 (n_12 + 1))])) else .leaf (.brk [.bool b,.int .i64 n_12]))) (fun vs => .popB vs fun b vs => .popI .i64 vs fun n vs => .unNil vs (.need (0 <= Int.tmod (IntKind.wrap .i64 right) (↑b_0n:Int) /\ Int.tmod (IntKind.wrap .i64 right) (↑b_0n:Int) < (↑n_3:Int)) (.someA a_2 fun a => .loadI .i64 (a.add ((Int.tmod (IntKind.wrap .i64 right) (↑b_0n:Int)).toNat * 1)) fun n => .need (0 <= Int.tmod (IntKind.wrap .i64 right) (↑b_0n:Int) /\ Int.tmod (IntKind.wrap .i64 right) (↑b_0n:Int) < (↑n_9:Int)) (.someA a_6 fun a_8 => .loadI .i64 (a_8.add ((Int.tmod (IntKind.wrap .i64 right) (↑b_0n:Int)).toNat * 1)) fun n_12 => bif n == n_12 then .call false 8 #[] fun v => .unB v fun b => .nd (.bool (n == n_12)) (.loadI .i64 (a_8.add ((Int.tmod (IntKind.wrap .i64 right) (↑b_0n:Int)).toNat * 1)) fun n_13 => .need (AV.val (.int .i64 n_13) = AV.val (.int .i64 n_12)) (.need (0 <= Int.tmod (IntKind.wrap .i64 right) (↑b_0n:Int) /\ Int.tmod (IntKind.wrap .i64 right) (↑b_0n:Int) < (↑n_9:Int)) (.someA a_6 fun a_9 => .need (AV.val (.pointer (some (a_9.add ((Int.tmod (IntKind.wrap .i64 right) (↑b_0n:Int)).toNat * 1)))) = AV.val (.pointer (some (a_8.add ((Int.tmod (IntKind.wrap .i64 right) (↑b_0n:Int)).toNat * 1))))) (.nd (.int .i64 (Int.tmod (IntKind.wrap .i64 right) (↑b_0n:Int))) (.nd (.slice a_6 n_9 c_6) (.loadI .i64 (a.add ((Int.tmod (IntKind.wrap .i64 right) (↑b_0n:Int)).toNat * 1)) fun n_14 => .need (AV.val (.int .i64 n_14) = AV.val (.int .i64 n)) (.need (0 <= Int.tmod (IntKind.wrap .i64 right) (↑b_0n:Int) /\ Int.tmod (IntKind.wrap .i64 right) (↑b_0n:Int) < (↑n_3:Int)) (.someA a_2 fun a_10 => .need (AV.val (.pointer (some (a_10.add ((Int.tmod (IntKind.wrap .i64 right) (↑b_0n:Int)).toNat * 1)))) = AV.val (.pointer (some (a.add ((Int.tmod (IntKind.wrap .i64 right) (↑b_0n:Int)).toNat * 1))))) (.nd (.int .i64 (Int.tmod (IntKind.wrap .i64 right) (↑b_0n:Int))) (.nd (.slice a_2 n_3 c_2) (.leaf (.ret (.bool b))))))))))))) else .nd (.bool (n == n_12)) (.loadI .i64 (a_8.add ((Int.tmod (IntKind.wrap .i64 right) (↑b_0n:Int)).toNat * 1)) fun n_13 => .need (AV.val (.int .i64 n_13) = AV.val (.int .i64 n_12)) (.need (0 <= Int.tmod (IntKind.wrap .i64 right) (↑b_0n:Int) /\ Int.tmod (IntKind.wrap .i64 right) (↑b_0n:Int) < (↑n_9:Int)) (.someA a_6 fun a_9 => .need (AV.val (.pointer (some (a_9.add ((Int.tmod (IntKind.wrap .i64 right) (↑b_0n:Int)).toNat * 1)))) = AV.val (.pointer (some (a_8.add ((Int.tmod (IntKind.wrap .i64 right) (↑b_0n:Int)).toNat * 1))))) (.nd (.int .i64 (Int.tmod (IntKind.wrap .i64 right) (↑b_0n:Int))) (.nd (.slice a_6 n_9 c_6) (.loadI .i64 (a.add ((Int.tmod (IntKind.wrap .i64 right) (↑b_0n:Int)).toNat * 1)) fun n_14 => .need (AV.val (.int .i64 n_14) = AV.val (.int .i64 n)) (.need (0 <= Int.tmod (IntKind.wrap .i64 right) (↑b_0n:Int) /\ Int.tmod (IntKind.wrap .i64 right) (↑b_0n:Int) < (↑n_3:Int)) (.someA a_2 fun a_10 => .need (AV.val (.pointer (some (a_10.add ((Int.tmod (IntKind.wrap .i64 right) (↑b_0n:Int)).toNat * 1)))) = AV.val (.pointer (some (a.add ((Int.tmod (IntKind.wrap .i64 right) (↑b_0n:Int)).toNat * 1))))) (.nd (.int .i64 (Int.tmod (IntKind.wrap .i64 right) (↑b_0n:Int))) (.nd (.slice a_2 n_3 c_2) (.leaf (.ret (.bool false))))))))))))))))) (fun vs => .popB vs fun b vs => .popI .i64 vs fun n vs => .unNil vs (.leaf (.ret (.bool b)))) fun x x_1 => .fail)) (fun vs => .popB vs fun b vs => .unNil vs (.leaf (.ret (.bool b)))) fun x x_1 => .fail))))))) (fun vs => .popB vs fun b vs => .unNil vs (.leaf (.ret (.bool b)))) fun x x_1 => .fail)))))))))))))))))))))))))))))))) (fun vs => .popB vs fun b vs => .unNil vs (.leaf (.ret (.bool b)))) fun x x_1 => .fail
theorem w3101 (u_0 u_1 u_2 u_3:Int) (u_4p:Option Addr) (u_4n u_4c:Nat) (u_5p:Option Addr) (u_5n u_5c:Nat) (u_6p:Option Addr) (u_6n u_6c:Nat) (land day p_0 p_1 p_2:Int) (p_3p:Option Addr) (p_3n p_3c:Nat) (b_0p:Option Addr) (b_0n b_0c:Nat) (b_1p:Option Addr) (b_1n b_1c:Nat) (right:Int) (hX:XOK X) (hw:(n3101 u_0 u_1 u_2 u_3 u_4p u_4n u_4c u_5p u_5n u_5c u_6p u_6n u_6c land day p_0 p_1 p_2 p_3p p_3n p_3c b_0p b_0n b_0c b_1p
  b_1n b_1c right).wp X Tryz.prog (retQ A) h):FWK X Tryz.prog .normal 3 #[.agg #[.int .i64 u_0,.int .i64 u_1,.int .i64 u_2,.int .i64 u_3,.slice u_4p u_4n u_4c,.slice u_5p u_5n u_5c,.slice u_6p u_6n u_6c],.int .u8 land,.int .u16 day,.agg #[.int .i64 p_0,.int .i64 p_1,.int .i64 p_2,.slice p_3p p_3n p_3c],.agg #[.slice b_0p b_0n b_0c,.slice b_1p b_1n b_1c],.int .u8 right] h A := fwk_neat (priv := [6,9,10,18,27]) (loops := [{ id := 0,slots := [(12,.bool),(32,.int .i64)],ro := [6,9,10,18,27],outs := [] }]) (joins := [{ id := 18,slots := [(12,.bool)],ro := [6,9,10,18,27],outs := [] },{ id := 12,slots := [(12,.bool)],ro := [6,9,10],outs := [] },{ id := 3,slots := [(12,.bool)],ro := [6,9,10],outs := [] }]) (fd := Tryz.f3) (by kernel_rfl) (by simp) (by kernel_rfl) (by kernel_rfl) hX hw
end Go.Proofs.YtgljffachdhigaaGreatDoor
end
section
namespace Go.Proofs.YtgljffachdhigaaGreatDoor
open Go Go.TM Go.Proofs Go.TM.Rv
attribute [local irreducible] T.wp CV FWK
set_option maxRecDepth 10000 in
theorem c3119 {h:LH} (hck:Checks h.get) {f:BookC} {b:RvBook} (hr:BookR h.get f b) (ok:BookOk b) {r:Nat} (hrl:r < b.rights.length) :
  Gr Tryz.prog 13 #[bookV f,.int .i64 r] h fun v h' => ∃ p n c x,v = .tuple #[.slice p n c,.int .i64 0] /\ Sl IntE 1 h'.get p n x /\ soT b r x = true /\ ∀ v ∈ x,0 <= v /\ v < (b.cases.length:Int) := by
 refine w3119 _ _ _ _ _ _ _ X0_ok ?_
 unfold n3119
 have hn1 := hr.cases.1
 have h5 := ok.cases
 have hp := pow_le5 h5
 refine t_gr (c3144 hck hr ok hrl) ?_
 rintro _ h1 le1 rfl
 unfold bookV
 refine gZ ?_
 refine t_cond (fun e => by cases e) (fun _ => ?_)
 refine t_makeMap fun m hm => ?_
 refine gZ ?_
 have l2 := LH.upd_le (h := h1) (x := (true,.map #[] 0)) hm
 have e2:(h1.get.upd m (true,.map #[] 0)) m = some (true,.map #[] 0) := Cells.upd_self _ _ _
 generalize hh2:({ h1 with get := h1.get.upd m (true,.map #[] 0) }:LH) = h2 at *
 replace e2:h2.get m = some (true,.map #[] 0) := by rw [<- hh2]; exact e2
 refine t_new fun rb hrb => ?_
 have l3 := LH.upd_le (h := h2) (x := (true,.cells #[.map none] 105 (0,0))) hrb
 have e3:(h2.get.upd rb (true,.cells #[.map none] 105 (0,0))) rb = some (true,.cells #[.map none] 105 (0,0)) := Cells.upd_self _ _ _
 generalize hh3:({ h2 with get := h2.get.upd rb (true,.cells #[.map none] 105 (0,0)) }:LH) = h3 at *
 replace e3:h3.get rb = some (true,.cells #[.map none] 105 (0,0)) := by rw [<- hh3]; exact e3
 refine t_storeC (j := 0) (by rw [add_plain]) e3 (by show 0 < 1; omega) rfl fun h4 t4 e4 => ?_
 replace e4:h4.get rb = some (true,.cells #[.map (some m)] 105 (0,0)) := e4
 have hmb:m ≠ rb := by rintro rfl; rw [hrb] at e2; cases e2
 have l24:h2.le h4 := t4.le l3 hrb
 have em4 := l24.1 _ _ e2
 have l14 := LH.le_trans l2 l24
 refine gZ ?_
 have hpw:IntKind.i64.wrap (1 * 2 ^ (min ((f.n1:Int)).toNat 64)) = ((2 ^ b.cases.length:Nat):Int) := by
  rw [hn1]; exact shl_one (by omega)
 refine t_loop (fun mm vs h' => h1.le h' /\ ∃ (i:Nat) (es:Array MapEntry) (c:Nat) (ks:List Int) (F:Int -> Int),vs = [.int .i64 i] /\ i <= 2 ^ b.cases.length /\ mm = 2 ^ b.cases.length - i /\ h'.get m = some (true,.map es c) /\ h'.get rb = some (true,.cells #[.map (some m)] 105 (0,0)) /\ MapK encI es c ks F /\
   (∀ k:Int,k ∈ ks ↔ ∃ j:Nat,j < i /\ k = j) /\ ∀ j:Nat,j < i -> F j = saidT b r j)
  ⟨l14,0,#[],0,[],fun _ => 0,rfl,Nat.zero_le _,rfl,em4,e4,MapK.nil,fun k => ⟨fun hk => by (cases hk),fun ⟨j,hj,_⟩ => absurd hj (Nat.not_lt_zero _)⟩,fun j hj => absurd hj (Nat.not_lt_zero _)⟩ ?_
 rintro Y mm vs h5' hY ⟨le5,i,es,c,ks,F,rfl,hi,rfl,em,eb,MK,hks,hF⟩
 have hz:h5'.get.cell? ⟨rb,0,none⟩ = some (.map (some m)) := by unfold Cells.cell?; rw [eb]; rfl
 have hz':h5'.get.cell? (Addr.add ⟨rb,0,none⟩ 0) = some (.map (some m)) := by rw [add_plain]; exact hz
 rw [hpw]
 refine gZ ?_
 refine t_if (fun e1 => ?_) (fun e1 => ?_)
 ·refine gZ ?_
  refine t_gr (c3145 (hr.le (LH.le_trans le1 le5).1) ok (out := i) (by omega)) ?_
  rintro _ h6 le6 ⟨f',rfl,r6⟩
  have hz6 := Cells.cell?_le le6.1 hz
  unfold bookV
  refine gZ ?_
  refine t_gr (c3146 r6 (without_ok ok i).toBookShape (i := r) hrl) ?_
  rintro _ h7 le7 rfl
  have hz7 := Cells.cell?_le le7.1 hz6
  have em7 := le7.1 _ _ (le6.1 _ _ em)
  have eb7 := le7.1 _ _ (le6.1 _ _ eb)
  refine gZ ?_
  refine t_mapPut (enc := encI) (i:Int) rfl encI_inj und1171 em7 MK (fun x _ => keyI x) fun es' c' ks' MK' hk' => ?_
  have le8 := le_updNew0 (x := (true,.map es' c')) (LH.le_trans le5 (LH.le_trans le6 le7)) hm
  refine gZ ?_
  refine t_again (hY (2 ^ b.cases.length - (i + 1)) _ _ (by omega) ⟨le8,i + 1,es',c',ks',_,?_,by omega,rfl,Cells.upd_self _ _ _,?_,MK',fun k => ?_,fun j hj => ?_⟩)
  ·rw [wrap_id (by omega) (by omega)]; rfl
  ·show h7.get.upd m _ rb = _
   rw [Cells.upd_ne _ _ (fun e => hmb e.symm)]; exact eb7
  ·rw [hk',hks]
   constructor
   ·rintro (rfl | ⟨j,h1,h2⟩)
    ·exact ⟨i,by omega,rfl⟩
    ·exact ⟨j,by omega,h2⟩
   ·rintro ⟨j,h1,rfl⟩
    by_cases e:j = i
    ·subst e; exact .inl rfl
    ·exact .inr ⟨j,by omega,rfl⟩
  ·unfold updK
   by_cases e:j = i
   ·subst e; rw [if_pos rfl]; rfl
   ·rw [if_neg (by omega)]; exact hF j (by omega)
 ·have hie:i = 2 ^ b.cases.length := by omega
  subst hie
  refine gZ ?_
  refine t_gr (c3148 (by omega)) ?_
  rintro _ h6 le6 ⟨p,k,rfl,s6⟩
  have eb6 := le6.1 _ _ eb
  have em6 := le6.1 _ _ em
  refine gZ ?_
  rw [hn1] at s6 ⊢
  have hlen:((List.range b.cases.length).map fun i:Nat => (i:Int)).length = b.cases.length := by simp
  have hel:∀ v ∈ (List.range b.cases.length).map fun i:Nat => (i:Int),0 <= v /\ v < (b.cases.length:Int) := fun v hv => by
   obtain ⟨j,hj,rfl⟩ := List.mem_map.1 hv
   have := List.mem_range.1 hj
   omega
  have hc := c3147 (y := .func (.func 49) #[] #[.pointer (some ⟨rb,0,none⟩)]) (lc := k) s6 (by rw [hlen]; omega) (soT b r) so_all fun x h' q n' c' hle hxin hxs => by
   have hin:∀ v ∈ x,0 <= v /\ v < 6 := fun v hv => by have := hel v (hxin v hv); omega
   refine cv_fw (first := #[]) (args := #[.slice q n' c']) (cap := #[.pointer (some ⟨rb,0,none⟩)]) X0_ok rfl (c3149 (z0 := ⟨rb,0,none⟩) ?_ (hle.1 _ _ em6) MK hks hF h5 hxs hin)
   unfold Cells.cell?; rw [hle.1 _ _ eb6]; rfl
  rw [hlen] at hc
  refine t_gr hc ?_
  rintro _ h7 le7 ⟨q,n',c',x,rfl,s7,hso,hxin⟩
  refine gZ ?_
  exact t_ret ⟨LH.le_trans le1 (LH.le_trans le5 (LH.le_trans le6 le7)),q,n',c',x,rfl,s7,hso,fun v hv => hel v (hxin v hv)⟩
end Go.Proofs.YtgljffachdhigaaGreatDoor
end
section
namespace Go.Proofs.YtgljffachdhigaaGreatDoor
open Go Go.TM Go.Proofs
theorem lack_grow:Grow LackE := fun _ _ _ _ hl h => ⟨hl _ _ h.1,hl _ _ h.2.1,hl _ _ h.2.2.1,hl _ _ h.2.2.2⟩
theorem ev1:window exU 20 = ⟨16,20⟩ := by decide +kernel
theorem ev2:window exU 25 = ⟨18,25⟩ := by decide +kernel
theorem ev3:safe exU 0 1 16 = 1 := by decide +kernel
theorem ev4:safe exU 0 1 18 = 0 := by decide +kernel
theorem ev5:safe exU 0 1 19 = 2 := by decide +kernel
theorem ev6:weak exU 0 1 = 17 := by decide +kernel
theorem ev7:weak exU 1 2 = 15 := by decide +kernel
theorem ev8:leftAll exU 0 25 = [1,2,0] := by decide +kernel
theorem ev9:lacks exU 0 20 = [⟨1,0,⟨16,20⟩⟩,⟨2,0,⟨16,20⟩⟩] := by decide +kernel
theorem ev10:enoughB exU 0 25 [0,2] (leftAll exU 0 25) = false := by decide +kernel
theorem ev11:∀ i,i < 16 -> okF exU 0 25 i = true -> (∀ j,j < 16 -> okF exU 0 25 j = true -> fewerF (subsetL 4 i) (subsetL 4 j) <= 0) -> subsetL 4 i = [1] := by decide +kernel
theorem ev12:okF exU 0 25 2 = true := by decide +kernel
theorem exWindow20:windowR exU 20 = .tuple #[.agg #[.int .i64 16,.int .i64 20],.int .i64 0] := by rw [windowR,if_neg (by decide +kernel),ev1]
theorem exWindow25:windowR exU 25 = .tuple #[.agg #[.int .i64 18,.int .i64 25],.int .i64 0] := by rw [windowR,if_neg (by decide +kernel),ev2]
theorem exSafe16:safeR exU 0 1 16 = .tuple #[.int .i64 1,.int .i64 0] := by rw [safeR,if_neg (by decide +kernel),ev3]
theorem exSafe18:safeR exU 0 1 18 = .tuple #[.int .i64 0,.int .i64 0] := by rw [safeR,if_neg (by decide +kernel),ev4]
theorem exSafe19:safeR exU 0 1 19 = .tuple #[.int .i64 2,.int .i64 0] := by rw [safeR,if_neg (by decide +kernel),ev5]
theorem exWeak1:weakR exU 0 1 = .tuple #[.int .i64 17,.int .i64 0] := by rw [weakR,if_neg (by decide +kernel),ev6]
theorem exWeak2:weakR exU 1 2 = .tuple #[.int .i64 15,.int .i64 0] := by rw [weakR,if_neg (by decide +kernel),ev7]
theorem exEnough:enoughR exU 0 25 [0,2] = .tuple #[.bool false,.int .i64 0] := by rw [enoughR,if_neg (by decide +kernel),ev10]
theorem exOpen25:openF exU [landQ exU 0,dayQ 25] = 0 := by decide +kernel
theorem exOpen20:openF exU [landQ exU 0,dayQ 20] = 0 := by decide +kernel
attribute [local irreducible] T.wp CV FWK
set_option maxRecDepth 100000 in
theorem c16 {h:LH} (hch:h.chans = []) (hpe:h.pend = []) (hp:Parts h.get):FW XT Tryz.prog 8 #[] h fun r h' => r = .bool true /\ Rd h.get h'.get /\ h'.chans = [] /\ h'.pend = [] /\ h'.todo = h.todo := by
 refine w16 XT_ok ?_
 unfold n16
 refine t_gr c52 ?_
 rintro _ h1 le1 ⟨f,rfl,hu⟩
 have hp := hp.le le1.1
 refine gZ ?_
 refine t_gr (c17 hp hu 20) ?_
 rintro _ h2 le2 rfl
 rw [exWindow20]
 refine gZ ?_
 have hp := hp.le le2.1
 have hu := hu.le le2.1
 refine t_gr (c17 hp hu 25) ?_
 rintro _ h3 le3 rfl
 rw [exWindow25]
 refine gZ ?_
 have hp := hp.le le3.1
 have hu := hu.le le3.1
 refine t_gr (c19 hp hu 0 1 16) ?_
 rintro _ h4 le4 rfl
 rw [exSafe16]
 refine gZ ?_
 have hp := hp.le le4.1
 have hu := hu.le le4.1
 refine t_gr (c19 hp hu 0 1 18) ?_
 rintro _ h5 le5 rfl
 rw [exSafe18]
 refine gZ ?_
 have hp := hp.le le5.1
 have hu := hu.le le5.1
 refine t_gr (c19 hp hu 0 1 19) ?_
 rintro _ h6 le6 rfl
 rw [exSafe19]
 refine gZ ?_
 have hp := hp.le le6.1
 have hu := hu.le le6.1
 refine t_gr (c21 hp hu 0 1) ?_
 rintro _ h7 le7 rfl
 rw [exWeak1]
 refine gZ ?_
 have hp := hp.le le7.1
 have hu := hu.le le7.1
 refine t_gr (c21 hp hu 1 2) ?_
 rintro _ h8 le8 rfl
 rw [exWeak2]
 refine gZ ?_
 have hp := hp.le le8.1
 have hu := hu.le le8.1
 refine t_gr (c23 hp hu 0 25) ?_
 rintro _ h9 le9 (⟨hne,_⟩ | ⟨_,lp,ln,lc,rfl,hl⟩)
 ·exact absurd exOpen25 hne
 rw [ev8] at hl
 refine gZ ?_
 have hp := hp.le le9.1
 have hu := hu.le le9.1
 refine t_gr (c28 hp hu 0 20) ?_
 rintro _ h10 le10 (⟨hne,_⟩ | ⟨_,kp,kn,kc,rfl,hk⟩)
 ·exact absurd exOpen20 hne
 rw [ev9] at hk
 refine gZ ?_
 have hp := hp.le le10.1
 have hu := hu.le le10.1
 have hl := hl.le IntE.grow le10.1
 have le := LH.le_trans (LH.le_trans (LH.le_trans (LH.le_trans (LH.le_trans (LH.le_trans (LH.le_trans (LH.le_trans (LH.le_trans le1 le2) le3) le4) le5) le6) le7) le8) le9) le10
 refine t_call (c33 (by rw [le.2.1,hch]) (by rw [le.2.2.1,hpe]) hp hu 0 25) ?_
 rintro _ h11 ⟨rd11,ch11,pe11,td11,⟨hne,_⟩ | ⟨_,pp,pn,pc,rfl,hb,_⟩⟩
 ·exact absurd exOpen25 hne
 have hpk:Sl IntE 1 h11.get pp pn [1] := by
  rcases hb with ⟨_,_,hno⟩ | ⟨i,a,rfl,hi,hok,hs,hmin⟩
  ·have := hno 2 (by decide) (by simp)
   rw [ev12] at this; cases this
  ·have e := ev11 i hi hok fun j hj hj2 => hmin j hj (by simp) hj2
   rw [<- e]; exact hs
 refine gZ ?_
 have hp := hp.rd rd11
 have hu := hu.rd rd11
 have hl := hl.rd IntE.grow rd11
 have hk := hk.rd lack_grow rd11
 refine t_buildG und50 inf3 (by decide) (by decide) (cells := #[.int .i64 0,.int .i64 2]) (by kernel_rfl) fun r12 h12 le12 _ e12 => ?_
 refine gZ ?_
 have hp := hp.le le12.1
 have hu := hu.le le12.1
 refine t_gr (c31 hp hu 0 25 (pl := [0,2]) (sl_ints (l := [0,2]) rfl e12 (by show (2:Nat) < _; omega))) ?_
 rintro _ h13 le13 rfl
 rw [exEnough]
 refine gZ ?_
 have le1113 := LH.le_trans le12 le13
 have hl := hl.le IntE.grow le1113.1
 have hk := hk.le lack_grow le1113.1
 have hpk := hpk.le IntE.grow le1113.1
 refine t_blk (fun vs h' => vs = [.bool false] /\ h13 = h') ?_ ?_
 ·iterate 11 refine t_cond (fun e => absurd e (by decide)) (fun _ => ?_)
  exact t_again ⟨rfl,rfl⟩
 rintro vs _ ⟨rfl,rfl⟩
 refine gZ ?_
 refine t_blk (fun vs h' => vs = [.bool false] /\ h13.le h') ?_ ?_
 ·refine t_pu (c42 _ _) ?_
  refine gZ ?_
  refine t_ne2 two30 g30 ?_
  refine gZ ?_
  refine t_cond (fun e => absurd e (by decide)) (fun _ => ?_)
  refine t_pu (c42 _ _) ?_
  refine gZ ?_
  refine t_ne2 two30 g30 ?_
  refine gZ ?_
  refine t_cond (fun e => absurd e (by decide)) (fun _ => ?_)
  refine gZ ?_
  refine t_cond (fun e => absurd e (by decide)) (fun _ => ?_)
  refine gZ ?_
  refine t_cond (fun e => absurd e (by decide)) (fun _ => ?_)
  refine gZ ?_
  refine t_cond (fun e => absurd e (by decide)) (fun _ => ?_)
  refine gZ ?_
  refine t_cond (fun e => absurd e (by decide)) (fun _ => ?_)
  refine gZ ?_
  refine t_cond (fun e => absurd e (by decide)) (fun _ => ?_)
  refine gZ ?_
  refine t_cond (fun e => absurd e (by decide)) (fun _ => ?_)
  refine gZ ?_
  refine t_buildG und50 inf3 (by decide) (by decide) (cells := #[.int .i64 1]) (by kernel_rfl) fun r14 h14 le14 _ e14 => ?_
  refine gZ ?_
  refine t_pu (c35 (hpk.le IntE.grow le14.1) (sl_ints (l := [1]) rfl e14 (by show (1:Nat) < _; omega))) ?_
  refine gZ ?_
  refine t_cond (fun e => absurd e (by decide)) (fun _ => ?_)
  exact t_again ⟨rfl,le14⟩
 rintro vs h15 ⟨rfl,le15⟩
 have hl := hl.le IntE.grow le15.1
 have hk := hk.le lack_grow le15.1
 refine gZ ?_
 refine t_buildG und40 inf34 (by decide) (by decide) (cells := #[.int .i64 1,.int .i64 2,.int .i64 0]) (by kernel_rfl) fun r16 h16 le16 _ e16 => ?_
 refine gZ ?_
 refine t_pu (c25 (hl.le IntE.grow le16.1) (sl_ints (l := [1,2,0]) rfl e16 (by show (3:Nat) < _; omega))) ?_
 refine gZ ?_
 refine t_cond (fun _ => ?_) (fun e => absurd e (by decide))
 refine gZ ?_
 refine t_pu (c42 _ _) ?_
 refine gZ ?_
 refine t_pu (c42 _ _) ?_
 refine gZ ?_
 refine t_buildG und45 inf79 (by decide) (by decide) (cells := #[.int .i64 1,.int .i64 0,.int .i64 16,.int .i64 20,.int .i64 2,.int .i64 0,.int .i64 16,.int .i64 20]) (by kernel_rfl) fun r17 h17 le17 _ e17 => ?_
 refine gZ ?_
 have le1617 := LH.le_trans le16 le17
 refine t_pu (c30 (hk.le lack_grow le1617.1) (b := [⟨1,0,⟨16,20⟩⟩,⟨2,0,⟨16,20⟩⟩]) ?_) ?_
 ·refine ⟨rfl,by show (2:Nat) < _; omega,?_⟩
  have cr:∀ {i j:Nat} {v:Value},(#[.int .i64 1,.int .i64 0,.int .i64 16,.int .i64 20,.int .i64 2,.int .i64 0,.int .i64 16,.int .i64 20]:Array Value)[i + j]? = some v -> h17.get.cell? (Addr.add (Addr.add ⟨r17,0,none⟩ i) j) = some v := by
   intro i j v hv
   rw [add_plain,add_plain,Nat.zero_add]; exact cell_row e17 hv
  intro i x hx
  match i,hx with
  | 0,hx => cases hx; exact ⟨_,rfl,cr rfl,cr rfl,cr rfl,cr rfl⟩
  | 1,hx => cases hx; exact ⟨_,rfl,cr rfl,cr rfl,cr rfl,cr rfl⟩
  | i + 2,hx => simp at hx
 refine gZ ?_
 have leZ := LH.le_trans (LH.le_trans le1113 le15) le1617
 refine t_ret ⟨by simp,(Rd.of_le le.1).trans (rd11.trans (Rd.of_le leZ.1)),by rw [leZ.2.1,ch11],by rw [leZ.2.2.1,pe11],by rw [leZ.2.2.2,td11,le.2.2.2]⟩
end Go.Proofs.YtgljffachdhigaaGreatDoor
end
section
namespace Go.Proofs.YtgljffachdhigaaGreatDoor
open Go Go.TM Go.Proofs
attribute [local irreducible] T.wp CV FWK
theorem LeftR.form {h':Cells} {u:UseFile} {land day:Int} {r:Value} (hr:LeftR h' u land day r):∃ p n c,r = .tuple #[.slice p n c,.int .i64 (openF u [landQ u land,dayQ day])] /\ Sl IntE 1 h' p n (if openF u [landQ u land,dayQ day] = 0 then leftAll u land day else []) := by
 rcases hr with ⟨h1,rfl⟩ | ⟨h1,p,n,c,rfl,s⟩
 ·exact ⟨none,0,0,rfl,by rw [if_neg h1]; exact Sl.nil⟩
 ·exact ⟨p,n,c,by rw [h1],by rw [if_pos h1]; exact s⟩
def Fin (h:LH):Value -> LH -> Prop := fun r h' => r = .bool true /\ h'.chans = [] /\ h'.pend = [] /\ h'.todo = h.todo
theorem fin_shown {h h':LH} (hch:h.chans = []) (hpe:h.pend = []) (hp:Parts h.get) (hle:h.le h'):FW XT Tryz.prog 8 #[] h' (Fin h) := by
 refine FW.mono (c16 (by rw [hle.2.1,hch]) (by rw [hle.2.2.1,hpe]) (hp.le hle.1)) ?_
 rintro v h'' ⟨h1,_,h2,h3,h4⟩
 exact ⟨h1,h2,h3,by rw [h4,hle.2.2.2]⟩
theorem t_shown {h h':LH} {k:Bool -> T} {Q:Leaf -> LH -> Prop} (hch:h.chans = []) (hpe:h.pend = []) (hp:Parts h.get) (hle:h.le h') (hk:∀ h'',h''.chans = [] /\ h''.pend = [] /\ h''.todo = h.todo -> (k true).wp XT Tryz.prog Q h'') :
  (T.call false 8 #[] fun v => T.unB v k).wp XT Tryz.prog Q h' := by
 refine t_call (fin_shown hch hpe hp hle) ?_
 rintro _ h'' ⟨rfl,h2⟩
 exact gC (hk h'' h2)
end Go.Proofs.YtgljffachdhigaaGreatDoor
end
section
namespace Go.TM
open Go
def cum (c:Int -> Bool):Nat -> Int
 | 0 => 0
 | n + 1 => cum c n + (if c ((n + 1:Nat):Int) then 1 else 0)
theorem firstDay_spec (c:Int -> Bool) (idle:Int):∀ (d:Nat) (n:Int),n < idle -> ∃ w:Nat,firstDay c idle d n = w /\ w <= d /\ n + cum c d - cum c w < idle /\ (1 <= w -> n + cum c d - cum c (w - 1) >= idle) := by
 intro d
 induction d with
 | zero => intro n hn; exact ⟨0,rfl,Nat.le_refl _,by omega,fun h => by omega⟩
 | succ d ih =>
  intro n hn
  have hc:(if c ((d + 1:Nat):Int) then n + 1 else n) + cum c d = n + cum c (d + 1) := by
   rw [cum]; split <;> omega
  rw [firstDay]
  by_cases e:(if c ((d + 1:Nat):Int) then n + 1 else n) >= idle
  ·rw [if_pos e]
   refine ⟨d + 1,rfl,Nat.le_refl _,by omega,fun _ => ?_⟩
   rw [Nat.add_sub_cancel]; omega
  ·rw [if_neg e]
   obtain ⟨w,h1,h2,h3,h4⟩ := ih _ (by omega:(if c ((d + 1:Nat):Int) then n + 1 else n) < idle)
   exact ⟨w,h1,by omega,by omega,fun h => by have := h4 h; omega⟩
def cnt (u:UseFile) (a d:Int):Int := cum (counts u) d.toNat - cum (counts u) a.toNat
theorem window_bound {u:UseFile} (hi:1 <= u.idle) {day:Int} (hd:0 <= day):0 <= (window u day).first /\ (window u day).first <= day /\ (window u day).last = day /\ cnt u (window u day).first day < u.idle /\ (1 <= (window u day).first -> cnt u ((window u day).first - 1) day >= u.idle) := by
 obtain ⟨w,h1,h2,h3,h4⟩ := firstDay_spec (counts u) u.idle day.toNat 0 (by omega)
 unfold window cnt
 simp only [h1]
 refine ⟨by omega,by omega,trivial,?_,fun h => ?_⟩
 ·rw [show ((w:Nat):Int).toNat = w by omega]; omega
 ·have := h4 (by omega)
  rw [show (((w:Nat):Int) - 1).toNat = w - 1 by omega]; omega
end Go.TM
end
section
namespace Go.Proofs.YtgljffachdhigaaGreatDoor
open Go Go.TM Go.Proofs
attribute [local irreducible] T.wp CV FWK
theorem c36 {h:LH} {f:FileC} {u:UseFile} (hu:FileR h.get f u):FW X0 Tryz.prog 5 #[fileV f u] h fun r h' => h = h' /\ ∃ b:Bool,r = .bool b /\ (b = true -> checkF u = 0) := by
 refine w36 _ _ _ _ _ _ _ _ _ _ _ _ _ X0_ok ?_
 unfold n36
 refine t_call (c15 hu) ?_
 rintro _ _ ⟨rfl,b,rfl,hb⟩
 refine gZ ?_
 refine t_cond (fun _ => ?_) (fun _ => ?_)
 ·refine t_pu (c27 hu) ?_
  refine gZ ?_
  exact t_ret ⟨rfl,_,rfl,fun e => by simpa using e⟩
 ·exact t_ret ⟨rfl,_,rfl,fun e => by cases e⟩
theorem wrap_u16 {n:Int} (h:0 <= n /\ n <= 65535):IntKind.i64.wrap n = n := wrap_id (by omega) (by omega)
theorem wrap_u8 {n:Int} (h:0 <= n /\ n <= 255):IntKind.i64.wrap n = n := wrap_id (by omega) (by omega)
theorem tmod_nn {a b:Int} (ha:0 <= a):Int.tmod a b = a % b := by rw [Int.tmod_eq_emod_of_nonneg ha]
theorem mod_day {n:Int}:0 <= n % 2001 /\ n % 2001 <= 2000 := by omega
theorem c37 {h:LH} {n:Int} (hn:0 <= n /\ n <= 65535):Pu Tryz.prog 9 #[.int .u16 n] h (.int .i64 (n % 2001)) := by
 refine w37 _ X0_ok ?_
 unfold n37
 refine gT (by omega) ?_
 rw [wrap_u16 hn,tmod_nn hn.1]
 exact t_ret ⟨rfl,rfl⟩
end Go.Proofs.YtgljffachdhigaaGreatDoor
end
section
namespace Go.Proofs.YtgljffachdhigaaGreatDoor
open Go Go.TM Go.Proofs
attribute [local irreducible] T.wp CV FWK
theorem openF_all {u:UseFile} (hck:checkF u = 0):∀ {l:List Int},(∀ x ∈ l,x = 0) -> openF u l = 0 := by
 intro l hl
 rw [openF,if_neg (by simp [hck])]
 have key:∀ (l:List Int) (i:Nat),(∀ x ∈ l,x = 0) -> firstF (fun _ x => x) i l = 0 := by
  intro l
  induction l with
  | nil => intro i _; rfl
  | cons y l ih =>
   intro i h
   rw [firstF,if_neg (by simp [h y (by simp)])]
   exact ih _ fun x hx => h x (by simp [hx])
 exact key l 0 hl
theorem landQ_ok {u:UseFile} {k:Int} (h:0 <= k /\ k < u.lands):landQ u k = 0 := by
 unfold landQ isIn
 rw [if_pos]; simp; omega
theorem dayQ_ok {d:Int} (h:0 <= d /\ d <= 2000):dayQ d = 0 := by
 unfold dayQ isDay isIn
 rw [if_pos]; simp; omega
theorem leftQ_ok {u:UseFile} (hck:checkF u = 0) {k d:Int} (hk:0 <= k /\ k < u.lands) (hd:0 <= d /\ d <= 2000):openF u [landQ u k,dayQ d] = 0 :=
 openF_all hck (by intro x hx; simp at hx; rcases hx with rfl | rfl; exact landQ_ok hk; exact dayQ_ok hd)
theorem mod_pos {n b:Int} (hb:0 < b):0 <= n % b /\ n % b < b := ⟨Int.emod_nonneg _ (by omega),Int.emod_lt_of_pos _ hb⟩
end Go.Proofs.YtgljffachdhigaaGreatDoor
end
section
namespace Go.TM
open Go
theorem safeGo_one {w:Span}:∀ {l:List Paper} {out:Int},out ≠ 1 -> (safeGo w l out = 1 ↔ ∃ p ∈ l,insideB w p.days = true) := by
 intro l
 induction l with
 | nil => intro out h; simp [safeGo,h]
 | cons p l ih =>
  intro out h
  rw [safeGo]
  by_cases e:insideB w p.days = true
  ·rw [if_pos e]; simp [e]
  ·rw [if_neg e,ih (by split <;> omega)]
   simp [e]
theorem safeGo_two {w:Span}:∀ {l:List Paper} {out:Int},(safeGo w l out = 2 -> out = 2 /\ ∀ p ∈ l,meetsB w p.days = false /\ insideB w p.days = false) := by
 intro l
 induction l with
 | nil => intro out h; exact ⟨h,fun p hp => by simp at hp⟩
 | cons p l ih =>
  intro out h
  rw [safeGo] at h
  by_cases e:insideB w p.days = true
  ·rw [if_pos e] at h; omega
  ·rw [if_neg e] at h
   obtain ⟨h1,h2⟩ := ih h
   by_cases e2:meetsB w p.days = true
   ·rw [if_pos e2] at h1; omega
   ·rw [if_neg e2] at h1
    refine ⟨h1,fun q hq => ?_⟩
    rcases List.mem_cons.1 hq with rfl | hq
    ·exact ⟨by simpa using e2,by simpa using e⟩
    ·exact h2 q hq
theorem safeGo_two' {w:Span}:∀ {l:List Paper},(∀ p ∈ l,meetsB w p.days = false /\ insideB w p.days = false) -> safeGo w l 2 = 2 := by
 intro l
 induction l with
 | nil => intro _; rfl
 | cons p l ih =>
  intro h
  have := h p (by simp)
  rw [safeGo,if_neg (by rw [this.2]; simp),if_neg (by rw [this.1]; simp)]
  exact ih fun q hq => h q (by simp [hq])
theorem safeGo_vals {w:Span}:∀ {l:List Paper} {out:Int},(out = 0 \/ out = 1 \/ out = 2) -> (safeGo w l out = 0 \/ safeGo w l out = 1 \/ safeGo w l out = 2) := by
 intro l
 induction l with
 | nil => intro out h; exact h
 | cons p l ih =>
  intro out h
  rw [safeGo]
  split
  ·omega
  ·apply ih; split <;> omega
theorem safe_vals (u:UseFile) (k i d:Int):safe u k i d = 0 \/ safe u k i d = 1 \/ safe u k i d = 2 := by
 unfold safe
 split
 ·omega
 ·exact safeGo_vals (.inr (.inr rfl))
def InW (u:UseFile) (day d:Int):Prop := (window u day).first <= d /\ d <= day
theorem inside_def (w x:Span):insideB w x = true ↔ w.first <= x.first /\ x.last <= w.last := by
 unfold insideB mx mn
 rw [decide_eq_true_eq]
 constructor
 ·rintro ⟨h1,h2⟩; split at h1 <;> split at h2 <;> omega
 ·rintro ⟨h1,h2⟩; constructor
  ·split <;> omega
  ·split <;> omega
theorem meets_def {w x:Span} (hw:w.first <= w.last) (hx:x.first <= x.last):meetsB w x = true ↔ x.first <= w.last /\ w.first <= x.last := by
 unfold meetsB mx mn
 rw [decide_eq_true_eq]
 split <;> split <;> omega
def Choice:List Paper -> List Int -> Prop
 | [],[] => True
 | p :: ps,d :: ds => (p.days.first <= d /\ d <= p.days.last) /\ Choice ps ds
 | _,_ => False
theorem meetsGo_bit (u:UseFile) (day:Int):∀ (l:List Request) (k acc j:Nat),(meetsGo u day l k acc).testBit j = (acc.testBit j || (decide (k <= j) && (l[j - k]?).any fun r => isIn day (window u r.day).first r.day)) := by
 intro l
 induction l with
 | nil => intro k acc j; simp [meetsGo]
 | cons r l ih =>
  intro k acc j
  rw [meetsGo,ih]
  by_cases e:j = k
  ·subst e
   simp only [Nat.sub_self,List.getElem?_cons_zero,Option.any_some,Nat.le_refl,decide_true,Bool.true_and]
   rw [show decide (j + 1 <= j) = false by simp]
   split <;> rename_i hh <;> simp [hh,Nat.testBit_or,Nat.testBit_two_pow_self]
  ·have hacc:(if isIn day (window u r.day).first r.day then acc ||| 2 ^ k else acc).testBit j = acc.testBit j := by
    split
    ·rw [Nat.testBit_or,Nat.testBit_two_pow]; simp [Ne.symm e]
    ·rfl
   rw [hacc]
   by_cases e2:k <= j
   ·have h1:k + 1 <= j := by omega
    rw [show j - k = (j - (k + 1)) + 1 by omega,List.getElem?_cons_succ]
    simp [e2,h1]
   ·have h1:¬ k + 1 <= j := by omega
    simp [e2,h1]
theorem meets_bit (u:UseFile) (l:List Request) (day:Int) (j:Nat):(meets u l day).testBit j = (l[j]?).any fun r => isIn day (window u r.day).first r.day := by
 unfold meets
 rw [meetsGo_bit]; simp
def orAll (u:UseFile) (L:List Request):List Int -> Nat -> Nat
 | [],s => s
 | d :: ds,s => orAll u L ds (s ||| meets u L d)
theorem orAll_bit {u:UseFile} {L:List Request} (j:Nat):∀ {ds:List Int} {s:Nat},(orAll u L ds s).testBit j = (s.testBit j || ds.any fun d => (meets u L d).testBit j) := by
 intro ds
 induction ds with
 | nil => intro s; simp [orAll]
 | cons d ds ih => intro s; rw [orAll,ih,Nat.testBit_or,List.any_cons,Bool.or_assoc]
theorem daysOf_mem {x:Span} {d:Int}:d ∈ daysOf x ↔ x.first <= d /\ d <= x.last := by
 unfold daysOf
 rw [List.mem_map]
 constructor
 ·rintro ⟨i,h1,rfl⟩
  rw [List.mem_range] at h1; omega
 ·rintro ⟨h1,h2⟩
  exact ⟨(d - x.first).toNat,by rw [List.mem_range]; omega,by omega⟩
theorem mem_step {ms R:List Nat} {s:Nat}:s ∈ stepL ms R ↔ ∃ a ∈ R,∃ b ∈ ms,s = a ||| b := by
 unfold stepL
 simp only [List.mem_flatMap,List.mem_map]
 constructor
 ·rintro ⟨a,h1,b,h2,h3⟩; exact ⟨a,h1,b,h2,h3.symm⟩
 ·rintro ⟨a,h1,b,h2,h3⟩; exact ⟨a,h1,b,h2,h3.symm⟩
theorem reach_iff {u:UseFile} {L:List Request}:∀ {ps:List Paper} {R:List Nat} {s:Nat},s ∈ reachL u L ps R ↔ ∃ a ∈ R,∃ ds,Choice ps ds /\ s = orAll u L ds a := by
 intro ps
 induction ps with
 | nil =>
  intro R s
  rw [reachL]
  constructor
  ·intro h; exact ⟨s,h,[],trivial,rfl⟩
  ·rintro ⟨a,h,ds,hc,rfl⟩
   cases ds with
   | nil => exact h
   | cons d ds => exact hc.elim
 | cons p ps ih =>
  intro R s
  rw [reachL,ih]
  constructor
  ·rintro ⟨a,h,ds,hc,rfl⟩
   obtain ⟨b,hb,m,hm,rfl⟩ := mem_step.1 h
   obtain ⟨d,hd,rfl⟩ := List.mem_map.1 hm
   exact ⟨b,hb,d :: ds,⟨daysOf_mem.1 hd,hc⟩,rfl⟩
  ·rintro ⟨a,h,ds,hc,rfl⟩
   cases ds with
   | nil => exact hc.elim
   | cons d ds =>
    obtain ⟨h1,h2⟩ := hc
    exact ⟨_,mem_step.2 ⟨a,h,_,List.mem_map.2 ⟨d,daysOf_mem.2 h1,rfl⟩,rfl⟩,ds,h2,rfl⟩
theorem orAll_lt {u:UseFile} {L:List Request} {ds:List Int} {s:Nat} (j:Nat) (hs:s.testBit j = false) (hj:L.length <= j):(orAll u L ds s).testBit j = false := by
 rw [orAll_bit,hs,Bool.false_or,List.any_eq_false]
 intro d _
 rw [meets_bit,List.getElem?_eq_none hj]; simp
theorem can_iff {u:UseFile} {land item:Int} {L:List Request}:can u land item L = true ↔ ∃ ds,Choice (shown u land item) ds /\ ∀ r ∈ L,InW u r.day u.from_ \/ ∃ d ∈ ds,InW u r.day d := by
 have key:∀ ds,orAll u L ds (meets u L u.from_) = 2 ^ L.length - 1 ↔ ∀ r ∈ L,InW u r.day u.from_ \/ ∃ d ∈ ds,InW u r.day d := by
  intro ds
  constructor
  ·intro h r hr
   obtain ⟨j,hj⟩ := List.mem_iff_getElem?.1 hr
   have hjl := (List.getElem?_eq_some_iff.1 hj).1
   have hb:(orAll u L ds (meets u L u.from_)).testBit j = true := by rw [h,Nat.testBit_two_pow_sub_one]; simp [hjl]
   rw [orAll_bit,Bool.or_eq_true,meets_bit,hj,List.any_eq_true] at hb
   rcases hb with hb | ⟨d,hd,hb⟩
   ·simp [isIn] at hb; exact .inl hb
   ·rw [meets_bit,hj] at hb
    simp [isIn] at hb
    exact .inr ⟨d,hd,hb⟩
  ·intro h
   apply Nat.eq_of_testBit_eq
   intro j
   rw [Nat.testBit_two_pow_sub_one]
   by_cases hj:j < L.length
   ·have hr:L[j]? = some L[j] := List.getElem?_eq_getElem hj
    rw [orAll_bit,meets_bit,hr]
    simp only [Option.any_some,hj,decide_true]
    rcases h L[j] (List.getElem_mem _) with ⟨h1,h2⟩ | ⟨d,hd,h1,h2⟩
    ·rw [show isIn u.from_ (window u L[j].day).first L[j].day = true by simp [isIn]; exact ⟨h1,h2⟩]; rfl
    ·rw [Bool.or_eq_true]; right
     rw [List.any_eq_true]
     refine ⟨d,hd,?_⟩
     rw [meets_bit,hr]
     simp [isIn]; exact ⟨h1,h2⟩
   ·rw [orAll_lt j (by rw [meets_bit,List.getElem?_eq_none (by omega)]; rfl) (by omega)]
    simp [hj]
 unfold can
 rw [List.contains_iff_mem,reach_iff]
 constructor
 ·rintro ⟨a,ha,ds,hc,hs⟩
  rw [List.mem_singleton] at ha
  subst ha
  exact ⟨ds,hc,(key ds).1 hs.symm⟩
 ·rintro ⟨ds,hc,h⟩
  exact ⟨_,List.mem_singleton.2 rfl,ds,hc,((key ds).2 h).symm⟩
end Go.TM
end
section
namespace Go.TM
open Go
theorem Choice.snoc:∀ {ps:List Paper} {ds:List Int},Choice ps ds -> ∀ {p:Paper} {d:Int},p.days.first <= d -> d <= p.days.last -> Choice (ps ++ [p]) (ds ++ [d])
 | [],[],_,_,_,h1,h2 => ⟨⟨h1,h2⟩,trivial⟩
 | _ :: _,_ :: _,h,_,_,h1,h2 => ⟨h.1,Choice.snoc h.2 h1 h2⟩
 | [],_ :: _,h,_,_,_,_ => h.elim
 | _ :: _,[],h,_,_,_,_ => h.elim
theorem left_vals (u:UseFile) (k i d:Int):left u k i d = 0 \/ left u k i d = 1 \/ left u k i d = 2 := by
 unfold left
 split
 ·omega
 ·split <;> omega
end Go.TM
end
section
namespace Go.TM
open Go
def rk (s:Int):Int := if s = 2 then 0 else if s = 1 then 2 else 1
theorem rk_vals (s:Int):0 <= rk s /\ rk s <= 2 := by unfold rk; split <;> (try split) <;> omega
theorem safe_one_iff {u:UseFile} {k i d:Int} (hd:0 <= d) (hi:1 <= u.idle):safe u k i d = 1 ↔ InW u d u.from_ \/ ∃ p ∈ shown u k i,(window u d).first <= p.days.first /\ p.days.last <= d := by
 unfold safe
 by_cases e:isIn u.from_ (window u d).first d = true
 ·rw [if_pos e]
  simp only [true_iff]
  exact .inl (by simpa [isIn,InW] using e)
 ·rw [if_neg e,safeGo_one (by omega)]
  have h1:¬ InW u d u.from_ := fun h => e (by simp [isIn]; exact h)
  constructor
  ·rintro ⟨p,hp,hin⟩; exact .inr ⟨p,hp,(inside_def _ _).1 hin⟩
  ·rintro (h | ⟨p,hp,hin⟩)
   ·exact absurd h h1
   ·exact ⟨p,hp,(inside_def _ _).2 hin⟩
theorem safe_two_iff {u:UseFile} {k i d:Int} (hd:0 <= d) (hi:1 <= u.idle) (hv:∀ p ∈ shown u k i,p.days.first <= p.days.last):safe u k i d = 2 ↔ ¬ InW u d u.from_ /\ ∀ p ∈ shown u k i,¬ (p.days.first <= d /\ (window u d).first <= p.days.last) := by
 have hwb := window_bound hi (u := u) hd
 have hwl:(window u d).last = d := rfl
 unfold safe
 by_cases e:isIn u.from_ (window u d).first d = true
 ·rw [if_pos e]
  have:InW u d u.from_ := by simpa [isIn,InW] using e
  constructor
  ·intro h; omega
  ·intro h; exact absurd this h.1
 ·rw [if_neg e]
  have h1:¬ InW u d u.from_ := fun h => e (by simp [isIn]; exact h)
  constructor
  ·intro h
   obtain ⟨_,h2⟩ := safeGo_two h
   refine ⟨h1,fun p hp hm => ?_⟩
   have := (h2 p hp).1
   rw [(meets_def (by omega) (hv p hp)).2 ⟨by omega,hm.2⟩] at this; cases this
  ·rintro ⟨_,h2⟩
   refine safeGo_two' fun p hp => ?_
   have hno := h2 p hp
   have hvp := hv p hp
   constructor
   ·cases hm:meetsB (window u d) p.days with
    | false => rfl
    | true => exact absurd ((meets_def (by omega) hvp).1 hm) (by omega)
   ·cases hm:insideB (window u d) p.days with
    | false => rfl
    | true => have := (inside_def _ _).1 hm; exact absurd ⟨by omega,by omega⟩ hno
def Valid (u:UseFile):Prop := 1 <= u.idle /\ (∀ p ∈ u.papers,p.days.first <= p.days.last) /\ ∀ r ∈ u.requests,0 <= r.day /\ r.day <= 2000
theorem Valid.of {u:UseFile} (h:checkF u = 0):Valid u := ⟨(num_ok (check_num h)).2.2.2.1,fun p hp => ((check_papers h).2 p hp).2.1,(check_requests h).2⟩
theorem Valid.sh {u:UseFile} (v:Valid u) {k i:Int}:∀ p ∈ shown u k i,p.days.first <= p.days.last := fun p hp => v.2.1 p (List.mem_filter.1 hp).1
structure More (u o:UseFile) (k i:Int):Prop where
 frm:o.from_ = u.from_
 win:∀ d,0 <= d -> (window o d).first <= (window u d).first
 sub:∀ p ∈ shown u k i,p ∈ shown o k i
 ch:∀ ds,Choice (shown u k i) ds -> ∃ ds',Choice (shown o k i) ds' /\ ∀ d ∈ ds,d ∈ ds'
theorem More.inW {u o:UseFile} {k i:Int} (m:More u o k i) {d x:Int} (hd:0 <= d) (h:InW u d x):InW o d x := by
 have := m.win d hd
 unfold InW at *; omega
theorem More.safe {u o:UseFile} {k i:Int} (m:More u o k i) (vu:Valid u) (vo:Valid o) {d:Int} (hd:0 <= d):rk (safe u k i d) <= rk (safe o k i d) := by
 have ho := safe_vals o k i d
 have key1:TM.safe u k i d = 1 -> TM.safe o k i d = 1 := by
  rw [safe_one_iff hd vu.1,safe_one_iff hd vo.1]
  rintro (h | ⟨p,hp,h1,h2⟩)
  ·exact .inl (by rw [m.frm]; exact m.inW hd h)
  ·have := m.win d hd
   exact .inr ⟨p,m.sub p hp,by omega,h2⟩
 have key2:TM.safe o k i d = 2 -> TM.safe u k i d = 2 := by
  rw [safe_two_iff hd vu.1 vu.sh,safe_two_iff hd vo.1 vo.sh]
  rintro ⟨h1,h2⟩
  refine ⟨fun h => h1 (by rw [m.frm]; exact m.inW hd h),fun p hp hm => h2 p (m.sub p hp) ?_⟩
  have := m.win d hd
  omega
 rcases safe_vals u k i d with e | e | e
 ·rcases ho with e' | e' | e'
  ·rw [e,e']; exact Int.le_refl _
  ·rw [e,e']; decide
  ·rw [key2 e'] at e; omega
 ·rw [e,key1 e]; exact Int.le_refl _
 ·rw [e]; have := rk_vals (TM.safe o k i d); simp [rk]; exact this.1
theorem left_one_iff {u:UseFile} {k i d:Int}:left u k i d = 1 ↔ ∀ r ∈ against u k i d,safe u k i r.day = 1 := by
 unfold left
 by_cases e:((against u k i d).all fun r => decide (safe u k i r.day = 1)) = true
 ·rw [if_pos e]
  simp only [true_iff]
  intro r hr; simpa using List.all_eq_true.1 e r hr
 ·rw [if_neg e]
  constructor
  ·intro h; split at h <;> omega
  ·intro h
   exact absurd (List.all_eq_true.2 fun r hr => by simpa using h r hr) e
theorem left_two_iff {u:UseFile} {k i d:Int}:left u k i d = 2 ↔ left u k i d ≠ 1 /\ can u k i (against u k i d) = false := by
 unfold left
 by_cases e:((against u k i d).all fun r => decide (safe u k i r.day = 1)) = true
 ·rw [if_pos e]; simp
 ·rw [if_neg e]
  cases hc:can u k i (against u k i d) <;> simp
theorem rk_le {a b:Int} (ha:a = 0 \/ a = 1 \/ a = 2) (hb:b = 0 \/ b = 1 \/ b = 2) (h1:a = 1 -> b = 1) (h2:b = 2 -> a = 2):rk a <= rk b := by
 unfold rk
 rcases ha with rfl | rfl | rfl <;> rcases hb with rfl | rfl | rfl <;> simp at h1 h2 ⊢
theorem can_of_safe {u:UseFile} (vu:Valid u) {k i:Int} {L:List Request} (hL:∀ r ∈ L,0 <= r.day) (h:∀ r ∈ L,safe u k i r.day = 1):can u k i L = true := by
 rw [can_iff]
 have hch:∀ ps:List Paper,(∀ p ∈ ps,p.days.first <= p.days.last) -> Choice ps (ps.map fun p => p.days.first) := by
  intro ps
  induction ps with
  | nil => intro _; trivial
  | cons p ps ih => intro h; exact ⟨⟨Int.le_refl _,h p (by simp)⟩,ih fun q hq => h q (by simp [hq])⟩
 refine ⟨_,hch _ vu.sh,fun r hr => ?_⟩
 rcases (safe_one_iff (hL r hr) vu.1).1 (h r hr) with h1 | ⟨p,hp,h1,h2⟩
 ·exact .inl h1
 ·have := vu.sh p hp
  exact .inr ⟨_,List.mem_map.2 ⟨p,hp,rfl⟩,h1,by omega⟩
theorem More.left {u o:UseFile} {k i:Int} (m:More u o k i) (vu:Valid u) (vo:Valid o) (hr:o.requests = u.requests) (d:Int):rk (left u k i d) <= rk (left o k i d) := by
 have hag:against o k i d = against u k i d := by unfold against; rw [hr]
 have hmem:∀ r ∈ against u k i d,0 <= r.day /\ r.day <= 2000 := fun r h => vu.2.2 r (List.mem_filter.1 h).1
 refine rk_le (left_vals _ _ _ _) (left_vals _ _ _ _) ?_ ?_
 ·rw [left_one_iff,left_one_iff,hag]
  intro h r hr'
  have := m.safe vu vo (hmem r hr').1
  rw [h r hr'] at this
  rcases safe_vals o k i r.day with e | e | e
  ·rw [e] at this; exact absurd this (by decide)
  ·exact e
  ·rw [e] at this; exact absurd this (by decide)
 ·intro h
  obtain ⟨h1,h2⟩ := left_two_iff.1 h
  rw [hag] at h2
  have hnc:can u k i (against u k i d) = false := by
   cases hc:can u k i (against u k i d) with
   | false => rfl
   | true =>
    obtain ⟨ds,c1,c2⟩ := can_iff.1 hc
    obtain ⟨ds',c3,c4⟩ := m.ch ds c1
    rw [can_iff.2 ⟨ds',c3,fun r hr' => ?_⟩] at h2
    ·cases h2
    rcases c2 r hr' with hh | ⟨x,hx,hh⟩
    ·exact .inl (by rw [m.frm]; exact m.inW (hmem r hr').1 hh)
    ·exact .inr ⟨x,c4 x hx,m.inW (hmem r hr').1 hh⟩
  refine left_two_iff.2 ⟨fun h3 => ?_,hnc⟩
  rw [can_of_safe vu (fun r hr' => (hmem r hr').1) (left_one_iff.1 h3)] at hnc; cases hnc
theorem more_paper {u:UseFile} {p:Paper} (hp:p.days.first <= p.days.last) (k i:Int):More u { u with papers := u.papers ++ [p] } k i := by
 have hsh:shown { u with papers := u.papers ++ [p] } k i = shown u k i ++ (if showsB k i p then [p] else []) := by
  show (u.papers ++ [p]).filter (showsB k i) = _
  rw [List.filter_append]
  congr 1
  cases hs:showsB k i p <;> simp [hs]
 refine ⟨rfl,fun d _ => Int.le_refl _,fun q hq => by rw [hsh]; exact List.mem_append_left _ hq,fun ds hds => ?_⟩
 rw [hsh]
 by_cases hs:showsB k i p = true
 ·rw [if_pos hs]
  exact ⟨ds ++ [p.days.first],hds.snoc (Int.le_refl _) hp,fun d hd => List.mem_append_left _ hd⟩
 ·rw [if_neg hs,List.append_nil]
  exact ⟨ds,hds,fun d hd => hd⟩
end Go.TM
end
section
namespace Go.Proofs.YtgljffachdhigaaGreatDoor
open Go Go.TM Go.Proofs
attribute [local irreducible] T.wp CV FWK
def PaperB (h0:Cells) (h:Cells) (a:Addr) (x:Paper):Prop := ∃ q m c,(∀ (j:Nat) w,[Value.int .i64 x.days.first,.int .i64 x.days.last,.int .i64 x.land,.slice q m c][j]? = some w -> h.cell? (a.add j) = some w) /\ Sl IntE 1 h0 q m x.items
theorem paperTold {h0 h:Cells}:ToldE (PaperB h0) (PaperEnc h0) 4 h := by
 rintro a x ⟨q,m,c,h1,h2⟩
 exact ⟨_,⟨q,m,c,rfl,h2⟩,rfl,h1,fun w hw => by simp at hw; rcases hw with rfl | rfl | rfl | rfl <;> rfl⟩
theorem PaperB.of {h0 h:Cells} (hr:Rd h0 h) {p:Option Addr} {n:Nat} {l:List Paper} (s:Sl PaperE 4 h0 p n l):Sl (PaperB h0) 4 h p n l := by
 refine ⟨s.1,s.2.1,fun i x hx => ?_⟩
 obtain ⟨a,ha,h1,h2,h3,q,m,c,h4,h5⟩ := s.2.2 i x hx
 refine ⟨a,ha,q,m,c,fun j w hj => ?_,h5⟩
 match j,hj with
 | 0,hj => cases hj; exact hr _ _ h1
 | 1,hj => cases hj; exact hr _ _ h2
 | 2,hj => cases hj; exact hr _ _ h3
 | 3,hj => cases hj; exact hr _ _ h4
 | j + 4,hj => simp at hj
theorem row_stands {h h':Cells} {r:Nat} {cs:Array Value} {el:TypeId} {ws:List Value} (hr:h r = some (true,.cells cs el (0,0))) (hc:∀ (j:Nat) w,ws[j]? = some w -> cs[j]? = some w) (hk:h' r = h r) (j:Nat) (w:Value) (hj:ws[j]? = some w):h'.cell? ((⟨r,0,none⟩ : Addr).add j) = some w := by
 rw [add_plain,Nat.zero_add]
 unfold Cells.cell?
 rw [hk,hr]
 exact hc j w hj
section
variable {X:XP} {Q:Leaf -> LH -> Prop}
theorem copy_end1 {α:Type} {Enc:α -> List Value -> Prop} {h h₁:LH} {K:Value -> T} {tS el:TypeId} {s by_:Nat} {z:Value} {p:Option Addr} {n c:Nat} {l:List α} {x:α} {ws:List Value} {r:Nat} {cs:Array Value} (hu:Tryz.prog.underlying tS = some (.slice el)) (hi:(Tryz.prog.info? el).map (fun i => (i.size,i.bytes,i.zero)) = some (s,by_,some z)) (hsz:z.cells.size = s) (hb:by_ <= 1024) (hn:n + 1 <= 2 ^ 30)
  (g:Growing Enc el s h.get h₁.get p n c l) (hle:h.le h₁) (he:Enc x ws) (hl:ws.length = s) (one:∀ v ∈ ws,isOne v = true) (hr:h₁.get r = some (true,.cells cs el (0,0))) (hc:∀ (j:Nat) w,ws[j]? = some w -> cs[j]? = some w)
  (hk:∀ p' c' h',h.le h' -> Growing Enc el s h.get h'.get p' (n + 1) c' (l ++ [x]) -> (K (.slice p' (n + 1) c')).wp X Tryz.prog Q h'):(T.sem false (Builtin.append_ #[tS,tS] tS #[.slice p n c,.slice (some ⟨r,0,none⟩) 1 1]) K).wp X Tryz.prog Q h₁ :=
 t_grow (h₀ := h) (x := x) (ws := ws) rfl rfl hu hu hi hsz hb hn g hle he hl (fun j v hj => row_stands hr hc rfl j v hj) one fun p' c' h' a _ b => hk p' c' h' a b
end
def PaperEnd (h:LH) (f:FileC) (u:UseFile) (y:Paper) (vs:List Value) (h':LH):Prop := ∃ p n c,vs = [.int .i64 u.items,.int .i64 u.lands,.int .i64 u.from_,.int .i64 u.idle,.slice f.p4 f.n4 f.c4,.slice p n c,.slice f.p6 f.n6 f.c6] /\ h.le h' /\ FileR h'.get { f with p5 := p,n5 := n,c5 := c } { u with papers := u.papers ++ [y] }
theorem paperEnd_of {h h':LH} {f:FileC} {u:UseFile} {y:Paper} (hu:FileR h.get f u) (h8:u.papers.length <= 8) {p:Option Addr} {n c:Nat} (hle:h.le h') (g:Growing (PaperEnc h.get) 32 4 h.get h'.get p n c (u.papers ++ [y])):PaperEnd h f u y [.int .i64 u.items,.int .i64 u.lands,.int .i64 u.from_,.int .i64 u.idle,.slice f.p4 f.n4 f.c4,.slice p n c,.slice f.p6 f.n6 f.c6] h' :=
 ⟨p,n,c,rfl,hle,(hu.le hle.1).excuses,g.sl PaperEnc.len (by omega) (PaperEnc.e (Rd.of_le hle.1)) (by simp; omega),(hu.le hle.1).requests⟩
end Go.Proofs.YtgljffachdhigaaGreatDoor
end
section
namespace Go.Proofs.YtgljffachdhigaaGreatDoor
open Go Go.TM Go.Proofs
attribute [local irreducible] T.wp CV FWK
theorem leftAll_get {u:UseFile} {k d:Int} {j:Nat} {y:Int} (hj:j < u.items.toNat) (hy:(leftAll u k d)[j]? = some y):y = left u k j d := by
 unfold leftAll at hy
 rw [List.getElem?_map,List.getElem?_range hj] at hy
 simpa using hy.symm
theorem leftAll_len (u:UseFile) (k d:Int):(leftAll u k d).length = u.items.toNat := by unfold leftAll; rw [List.length_map,List.length_range]
end Go.Proofs.YtgljffachdhigaaGreatDoor
end
section
namespace Go.Proofs.YtgljffachdhigaaGreatDoor
open Go Go.TM Go.Proofs
set_option linter.unusedVariables false
set_option maxRecDepth 100000
variable {X:XP} {h:LH} {A:Value -> LH -> Prop}
noncomputable def n3110 (u_0 u_1 u_2 u_3:Int) (u_4p:Option Addr) (u_4n u_4c:Nat) (u_5p:Option Addr) (u_5n u_5c:Nat) (u_6p:Option Addr) (u_6n u_6c:Nat) (p_0 p_1 p_2:Int) (p_3p:Option Addr) (p_3n p_3c:Nat):T := .blk (.both (.sem false (Instr.buildSlice 23 0 #[]) fun v => .unS v fun a n c => .nd (.agg #[.int .i64 p_0,.int .i64 p_1,.int .i64 p_2,.slice p_3p p_3n p_3c]) (.nd (.slice u_5p u_5n u_5c) (.need (AV.pp 2 5 = AV.pp 2 5) (.both (.sem false (Builtin.append_ #[23,23] 23 #[.slice a n c,.slice u_5p u_5n u_5c]) fun v => .unS v fun a n c => .nd (.agg #[.int .i64 p_0,.int .i64 p_1,.int .i64 p_2,.slice p_3p p_3n p_3c]) (.need (AV.pp 2 5 = AV.pp 2 5) (.sem false (Instr.buildSlice 23 1 #[(0,.agg #[.int .i64 p_0,.int .i64 p_1,.int .i64 p_2,.slice p_3p p_3n p_3c])]) fun v => .unS v fun a_1 n_1 c_1 => .need (AV.pp 2 5 = AV.pp 2 5) (.sem false (Builtin.append_ #[23,23] 23 #[.slice a n c,.slice a_1 n_1 c_1]) fun v => .unS v fun a n c => .need (AV.pp 2 5 = AV.pp 2 5) (.leaf (.again [.int .i64 u_0,.int .i64 u_1,.int .i64 u_2,.int .i64 u_3,.slice u_4p u_4n u_4c,.slice a n c,.slice u_6p u_6n u_6c])))))) (.sem false (Instr.buildSlice 23 1 #[(0,.agg #[.int .i64 p_0,.int .i64 p_1,.int .i64 p_2,.slice p_3p p_3n p_3c])]) fun v => .unS v fun a_1 n_1 c_1 => .nd (.slice u_5p u_5n u_5c) (.need (AV.pp 2 5 = AV.pp 2 5) (.sem false (Builtin.append_ #[23,23] 23 #[.slice a n c,.slice u_5p u_5n u_5c]) fun v => .unS v fun a n c => .need (AV.pp 2 5 = AV.pp 2 5) (.sem false (Builtin.append_ #[23,23] 23 #[.slice a n c,.slice a_1 n_1 c_1]) fun v => .unS v fun a n c => .need (AV.pp 2 5 = AV.pp 2 5) (.leaf (.again [.int .i64 u_0,.int .i64 u_1,.int .i64 u_2,.int .i64 u_3,.slice u_4p u_4n u_4c,.slice a n c,.slice u_6p u_6n u_6c])))))))))) (.sem false (Instr.buildSlice 23 1 #[(0,.agg #[.int .i64 p_0,.int .i64 p_1,.int .i64 p_2,.slice p_3p p_3n p_3c])]) fun v => .unS v fun a n c => .nd (.slice u_5p u_5n u_5c) (.need (AV.pp 2 5 = AV.pp 2 5) (.sem false (Instr.buildSlice 23 0 #[]) fun v => .unS v fun a_1 n_1 c_1 => .nd (.slice u_5p u_5n u_5c) (.need (AV.pp 2 5 = AV.pp 2 5) (.sem false (Builtin.append_ #[23,23] 23 #[.slice a_1 n_1 c_1,.slice u_5p u_5n u_5c]) fun v => .unS v fun a_2 n_2 c_2 => .need (AV.pp 2 5 = AV.pp 2 5) (.sem false (Builtin.append_ #[23,23] 23 #[.slice a_2 n_2 c_2,.slice a n c]) fun v => .unS v fun a n c => .need (AV.pp 2 5 = AV.pp 2 5) (.leaf (.again [.int .i64 u_0,.int .i64 u_1,.int .i64 u_2,.int .i64 u_3,.slice u_4p u_4n u_4c,.slice a n c,.slice u_6p u_6n u_6c]))))))))) (fun vs => .popI .i64 vs fun n vs => .popI .i64 vs fun n_1 vs => .popI .i64 vs fun n_2 vs => .popI .i64 vs fun n_3 vs => .popS vs fun a n_4 c vs => .popS vs fun a_1 n_5 c_1 vs => .popS vs fun a_2 n_6 c_2 vs => .unNil vs (bif decide ((↑p_3n:Int) <= 20) then .call false 27 #[.agg #[.int .i64 n,.int .i64 n_1,.int .i64 n_2,.int .i64 n_3,.slice a n_4 c,.slice a_1 n_5 c_1,.slice a_2 n_6 c_2]] fun v => .unI .i64 v fun n_7 => .nd (.bool (decide ((↑p_3n:Int) <= 20))) (.nd (.int .i64 (↑p_3n:Int)) (.nd (.slice p_3p p_3n p_3c) (.need (AV.pp 3 3 = AV.pp 3 3) (.nd (.agg #[.int .i64 n,.int .i64 n_1,.int .i64 n_2,.int .i64 n_3,.slice a n_4 c,.slice a_1 n_5 c_1,.slice a_2 n_6 c_2]) (.nd (.bool (n_7 == 0)) (.nd (.bool (n_7 == 0)) (.nd (.bool (decide ((↑p_3n:Int) <= 20))) (.nd (.int .i64 (↑p_3n:Int)) (.nd (.slice p_3p p_3n p_3c) (.need (AV.pp 3 3 = AV.pp 3 3) (.leaf (.ret (.tuple #[.agg #[.int .i64 n,.int .i64 n_1,.int .i64 n_2,.int .i64 n_3,.slice a n_4 c,.slice a_1 n_5 c_1,.slice a_2 n_6 c_2],.bool (n_7 == 0)]))))))))))))) else .nd (.bool (decide ((↑p_3n:Int) <= 20))) (.nd (.int .i64 (↑p_3n:Int)) (.nd (.slice p_3p p_3n p_3c) (.need (AV.pp 3 3 = AV.pp 3 3) (.nd (.agg #[.int .i64 n,.int .i64 n_1,.int .i64 n_2,.int .i64 n_3,.slice a n_4 c,.slice a_1 n_5 c_1,.slice a_2 n_6 c_2]) (.both (.nd (.bool (decide ((↑p_3n:Int) <= 20))) (.nd (.int .i64 (↑p_3n:Int)) (.nd (.slice p_3p p_3n p_3c) (.need (AV.pp 3 3 = AV.pp 3 3) (.nd (.agg #[.int .i64 n,.int .i64 n_1,.int .i64 n_2,.int .i64 n_3,.slice a n_4 c,.slice a_1 n_5 c_1,.slice a_2 n_6 c_2]) (.nd (.bool false) (.nd (.bool (decide ((↑p_3n:Int) <= 20))) (.nd (.int .i64 (↑p_3n:Int)) (.nd (.slice p_3p p_3n p_3c) (.need (AV.pp 3 3 = AV.pp 3 3) (.leaf (.ret (.tuple #[.agg #[.int .i64 n,.int .i64 n_1,.int .i64 n_2,.int .i64 n_3,.slice a n_4 c,.slice a_1 n_5 c_1,.slice a_2 n_6 c_2],.bool false]))))))))))))) (.nd (.bool (decide ((↑p_3n:Int) <= 20))) (.nd (.int .i64 (↑p_3n:Int)) (.nd (.slice p_3p p_3n p_3c) (.need (AV.pp 3 3 = AV.pp 3 3) (.nd (.bool (decide ((↑p_3n:Int) <= 20))) (.nd (.int .i64 (↑p_3n:Int)) (.nd (.slice p_3p p_3n p_3c) (.need (AV.pp 3 3 = AV.pp 3 3) (.leaf (.ret (.tuple #[.agg #[.int .i64 n,.int .i64 n_1,.int .i64 n_2,.int .i64 n_3,.slice a n_4 c,.slice a_1 n_5 c_1,.slice a_2 n_6 c_2],.bool false])))))))))))))))))) (fun vs => .popI .i64 vs fun n vs => .popI .i64 vs fun n vs => .popI .i64 vs fun n vs => .popI .i64 vs fun n vs => .popS vs fun a n c vs => .popS vs fun a n c vs => .popS vs fun a n c vs => .unNil vs (.leaf (.ret (.tuple #[.agg #[.int .i64 0,.int .i64 0,.int .i64 0,.int .i64 0,.slice none 0 0,.slice none 0 0,.slice none 0 0],.bool false])))) fun x x_1 => .fail
theorem w3110 (u_0 u_1 u_2 u_3:Int) (u_4p:Option Addr) (u_4n u_4c:Nat) (u_5p:Option Addr) (u_5n u_5c:Nat) (u_6p:Option Addr) (u_6n u_6c:Nat) (p_0 p_1 p_2:Int) (p_3p:Option Addr) (p_3n p_3c:Nat) (hX:XOK X) (hw:(n3110 u_0 u_1 u_2 u_3 u_4p u_4n u_4c u_5p u_5n u_5c u_6p u_6n u_6c p_0 p_1 p_2 p_3p p_3n p_3c).wp X Tryz.prog (retQ A) h):FWK X Tryz.prog .normal 11 #[.agg #[.int .i64 u_0,.int .i64 u_1,.int .i64 u_2,.int .i64 u_3,.slice u_4p u_4n u_4c,.slice u_5p u_5n u_5c,.slice u_6p u_6n u_6c],.agg #[.int .i64 p_0,.int .i64 p_1,.int .i64 p_2,.slice p_3p p_3n p_3c]] h A := fwk_neat (priv := [2,3,4,6]) (loops := []) (joins := [{ id := 3,slots := [(28672,.int .i64),(28673,.int .i64),(28674,.int .i64),(28675,.int .i64),(28676,.slice),(28677,.slice),(28678,.slice)],ro := [2,3,4],outs := [] }]) (fd := Tryz.f11) (by kernel_rfl) (by simp) (by kernel_rfl) (by kernel_rfl) hX hw
noncomputable def n3118 (lp:Option Addr) (ln lc:Nat) (in0p:Option Addr) (in0n in0c:Nat):T := .loop [.bool false,.int .i64 0] (fun vs => .popB vs fun b vs => .popI .i64 vs fun n vs => .unNil vs (bif decide (n < (↑ln:Int)) then .need (0 <= n /\ n < (↑ln:Int)) (.someA lp fun a => .loadI .i64 (a.add (n.toNat * 1)) fun n_1 => .call false 16 #[.slice in0p in0n in0c,.int .i64 n_1] fun v => .unB v fun b_1 => bif !b_1 then .leaf (.retn [.bool false,.int .i64 n]) else .leaf (.again [.bool b,.int .i64 (IntKind.wrap .i64 (n + 1))])) else .leaf (.brk [.bool b,.int .i64 n]))) (fun vs => .popB vs fun b vs => .popI .i64 vs fun n vs => .unNil vs (.leaf (.ret (.bool true)))) (fun vs => .popB vs fun b vs => .popI .i64 vs fun n vs => .unNil vs (.leaf (.ret (.bool b)))) fun x x_1 => .fail
theorem w3118 (lp:Option Addr) (ln lc:Nat) (in0p:Option Addr) (in0n in0c:Nat) (hX:XOK X) (hw:(n3118 lp ln lc in0p in0n in0c).wp X Tryz.prog (retQ A) h):FWK X Tryz.prog .normal 12 #[.slice lp ln lc,.slice in0p in0n in0c] h A := fwk_neat (priv := []) (loops := [{ id := 0,slots := [(4,.bool),(5,.int .i64)],ro := [],outs := [] }]) (joins := []) (fd := Tryz.f12) (by kernel_rfl) (by simp) (by kernel_rfl) (by kernel_rfl) hX hw
end Go.Proofs.YtgljffachdhigaaGreatDoor
end
section
namespace Go.Proofs.YtgljffachdhigaaGreatDoor
open Go Go.TM Go.Proofs
attribute [local irreducible] T.wp CV FWK
theorem c3118 {h:LH} {p q:Option Addr} {n c m d:Nat} {a b:List Int} (ha:Sl IntE 1 h.get p n a) (hb:Sl IntE 1 h.get q m b) (hs:∀ v ∈ a,v ∈ b):Pu Tryz.prog 12 #[.slice p n c,.slice q m d] h (.bool true) := by
 refine w3118 _ _ _ _ _ _ X0_ok ?_
 unfold n3118
 have hn := ha.1
 have hbd := ha.2.1
 refine t_loop (fun mm vs h' => h = h' /\ ∃ i:Nat,vs = [.bool false,.int .i64 i] /\ i <= n /\ mm = n - i) ⟨rfl,0,rfl,Nat.zero_le _,rfl⟩ ?_
 rintro Y mm vs _ hY ⟨rfl,i,rfl,hi,rfl⟩
 refine gZ ?_
 refine t_if (fun e1 => ?_) (fun e1 => ?_)
 ·obtain ⟨x,a',hx,ha',e2⟩ := ha.at (i := i) (by omega)
  unfold IntE at e2
  have hin:0 <= (i:Int) /\ (i:Int) < (n:Int) := by omega
  refine gZ ?_
  refine t_pu (c41 hb x) ?_
  rw [List.contains_iff_mem.2 (hs x (List.mem_of_getElem? hx))]
  refine gZ ?_
  refine t_cond (fun e => by cases e) (fun _ => ?_)
  refine t_again (hY (n - (i + 1)) _ _ (by omega) ⟨rfl,i + 1,?_,by omega,rfl⟩)
  rw [wrap_id (by omega) (by omega)]; rfl
 ·refine gZ ?_
  exact t_ret ⟨rfl,rfl⟩
theorem c3110 {h:LH} {f:FileC} {u:UseFile} (hu:FileR h.get f u) (hck:checkF u = 0) {y:Paper} {q:Option Addr} {m cq:Nat} (hy:Sl IntE 1 h.get q m y.items) :
  Gr Tryz.prog 11 #[fileV f u,paperV y q m cq] h fun r h' => ∃ f' b,r = .tuple #[fileV f' { u with papers := u.papers ++ [y] },.bool b] /\ FileR h'.get f' { u with papers := u.papers ++ [y] } /\ (b = true -> checkF { u with papers := u.papers ++ [y] } = 0) := by
 refine w3110 _ _ _ _ _ _ _ _ _ _ _ _ _ _ _ _ _ _ _ X0_ok ?_
 unfold n3110
 have h8 := (check_papers hck).1
 have hn5 := hu.papers.1
 refine t_blk (PaperEnd h f u y) ?_ ?_
 ·have ones:∀ v ∈ [Value.int .i64 y.days.first,.int .i64 y.days.last,.int .i64 y.land,.slice q m cq],isOne v = true := by
   intro w hw; simp at hw; rcases hw with rfl | rfl | rfl | rfl <;> rfl
  have enc:PaperEnc h.get y [Value.int .i64 y.days.first,.int .i64 y.days.last,.int .i64 y.land,.slice q m cq] := ⟨q,m,cq,rfl,hy⟩
  obtain ⟨hB,hBe⟩ : ∃ hB,hB = h := ⟨_,rfl⟩
  have huB:FileR hB.get f u := by rw [hBe]; exact hu
  rw [<- hBe] at enc ⊢
  refine t_both ?_ ?_
  ·refine t_build0G (h₀ := hB) (Enc := PaperEnc hB.get) und23 inf69 (LH.le_refl _) fun r0 h1 hr0 le1 g1 => ?_
   refine gZ ?_
   refine t_both ?_ ?_
   ·refine t_copy (h₀ := hB) rfl rfl und23 und23 inf69 rfl (by omega) (by omega) g1 le1 (PaperB.of (Rd.of_le le1.1) huB.papers) paperTold fun p2 c2 h2 le2 _ g2 => ?_
    refine gZ ?_
    refine t_buildG und23 inf69 (by decide) (by decide) (cells := #[.int .i64 y.days.first,.int .i64 y.days.last,.int .i64 y.land,.slice q m cq]) (by kernel_rfl) fun r h3 le3 hr3 e3 => ?_
    refine gZ ?_
    refine copy_end1 (h := hB) und23 inf69 rfl (by omega) (by omega) (g2.le le3.1) (LH.le_trans le2 le3) enc rfl ones e3 (fun j w hj => by simpa using hj) fun p' c' h' le' g' => ?_
    refine gZ ?_
    exact t_again (paperEnd_of huB (by omega) le' g')
   ·refine t_buildG und23 inf69 (by decide) (by decide) (cells := #[.int .i64 y.days.first,.int .i64 y.days.last,.int .i64 y.land,.slice q m cq]) (by kernel_rfl) fun r h2 le2 hr2 e2 => ?_
    refine gZ ?_
    have le02 := LH.le_trans le1 le2
    refine t_copy (h₀ := hB) rfl rfl und23 und23 inf69 rfl (by omega) (by omega) (g1.le le2.1) le02 (PaperB.of (Rd.of_le le02.1) huB.papers) paperTold fun p3 c3 h3 le3 kp g3 => ?_
    refine gZ ?_
    have hne:r ≠ r0 := by
     rintro rfl
     obtain ⟨vs,⟨_,hh⟩,_⟩ := g1.row
     rcases hh with ⟨hh,_⟩ | ⟨r',cs,hh,h5,_⟩
     ·cases hh
     ·cases hh; rw [hr2] at h5; cases h5
    have e3 := kp r _ (fun a ha e => by cases ha; exact hne e.symm) e2
    refine copy_end1 (h := hB) und23 inf69 rfl (by omega) (by omega) g3 le3 enc rfl ones e3 (fun j w hj => by simpa using hj) fun p' c' h' le' g' => ?_
    refine gZ ?_
    exact t_again (paperEnd_of huB (by omega) le' g')
  ·refine t_buildG und23 inf69 (by decide) (by decide) (cells := #[.int .i64 y.days.first,.int .i64 y.days.last,.int .i64 y.land,.slice q m cq]) (by kernel_rfl) fun r h1 le1 hr1 e1 => ?_
   refine gZ ?_
   refine t_build0G (h₀ := hB) (Enc := PaperEnc hB.get) und23 inf69 le1 fun r0 h2 hr0 le2 g2 => ?_
   refine gZ ?_
   have le02 := LH.le_trans le1 le2
   refine t_copy (h₀ := hB) rfl rfl und23 und23 inf69 rfl (by omega) (by omega) g2 le02 (PaperB.of (Rd.of_le le02.1) huB.papers) paperTold fun p3 c3 h3 le3 kp g3 => ?_
   refine gZ ?_
   have hne:r ≠ r0 := by rintro rfl; rw [e1] at hr0; cases hr0
   have e3 := kp r _ (fun a ha e => by cases ha; exact hne e.symm) (le2.1 _ _ e1)
   refine copy_end1 (h := hB) und23 inf69 rfl (by omega) (by omega) g3 le3 enc rfl ones e3 (fun j w hj => by simpa using hj) fun p' c' h' le' g' => ?_
   refine gZ ?_
   exact t_again (paperEnd_of huB (by omega) le' g')
 rintro vs h1 ⟨p1,n1,c1,rfl,le1,ho⟩
 refine gZ ?_
 refine t_cond (fun _ => ?_) (fun _ => ?_)
 ·refine t_pu (c27 ho) ?_
  refine gZ ?_
  exact t_ret ⟨le1,_,_,rfl,ho,fun e => by simpa using e⟩
 ·refine gZ ?_
  refine t_both ?_ ?_
  ·refine gZ ?_
   exact t_ret ⟨le1,_,_,rfl,ho,fun e => by cases e⟩
  ·refine gZ ?_
   exact t_ret ⟨le1,_,_,rfl,ho,fun e => by cases e⟩
end Go.Proofs.YtgljffachdhigaaGreatDoor
end
section
namespace Go.TM.Rv
open Go Go.TM
def leftOutT (u:UseFile) (k d:Int) (n:Nat):List Int := ((List.range n).filter fun i:Nat => left u k ((i % u.items.toNat:Nat):Int) d != 1).map fun i:Nat => (i:Int)
theorem leftOut_succ (u:UseFile) (k d:Int) (n:Nat):leftOutT u k d (n + 1) = leftOutT u k d n ++ (if left u k ((n % u.items.toNat:Nat):Int) d != 1 then [(n:Int)] else []) := by
 unfold leftOutT
 rw [List.range_succ,List.filter_append,List.map_append]
 congr 1
 simp only [List.filter_cons,List.filter_nil]
 split <;> rfl
theorem leftOut_len (u:UseFile) (k d:Int) (n:Nat):(leftOutT u k d n).length <= n := by
 unfold leftOutT
 rw [List.length_map]
 exact Nat.le_trans (List.length_filter_le _ _) (by simp)
theorem leftOut_mem {u:UseFile} {k d:Int} {n:Nat} {v:Int}:v ∈ leftOutT u k d n ↔ ∃ i:Nat,i < n /\ left u k ((i % u.items.toNat:Nat):Int) d ≠ 1 /\ v = (i:Int) := by
 unfold leftOutT
 simp only [List.mem_map,List.mem_filter,List.mem_range,bne_iff_ne,ne_eq]
 constructor
 ·rintro ⟨j,⟨h1,h2⟩,rfl⟩; exact ⟨j,h1,h2,rfl⟩
 ·rintro ⟨j,h1,h2,rfl⟩; exact ⟨j,⟨h1,h2⟩,rfl⟩
theorem leftOut_asc (u:UseFile) (k d:Int) (n:Nat):(leftOutT u k d n).Pairwise (· < ·) := by
 unfold leftOutT
 rw [List.pairwise_map]
 exact (List.Pairwise.sublist List.filter_sublist List.pairwise_lt_range).imp fun h => by omega
theorem leftOut_sub {u x:UseFile} {k d:Int} {n:Nat} (e:x.items = u.items) (h:∀ j:Nat,rk (left u k (j:Int) d) <= rk (left x k (j:Int) d)):∀ v ∈ leftOutT x k d n,v ∈ leftOutT u k d n := by
 intro v hv
 obtain ⟨i,h1,h2,rfl⟩ := leftOut_mem.1 hv
 refine leftOut_mem.2 ⟨i,h1,fun hh => h2 ?_,rfl⟩
 rw [e]
 have := h (i % u.items.toNat)
 unfold rk at this
 rw [hh] at this
 simp only [if_neg (show ¬ (1:Int) = 2 by decide),if_true] at this
 split at this
 ·omega
 ·split at this
  ·assumption
  ·omega
end Go.TM.Rv
namespace Go.Proofs.YtgljffachdhigaaGreatDoor
open Go Go.TM Go.Proofs Go.TM.Rv
attribute [local irreducible] T.wp CV FWK
set_option maxRecDepth 10000 in
theorem c3117 {h:LH} (hp:Parts h.get) {f:FileC} {u:UseFile} (hu:FileR h.get f u) (hck:checkF u = 0) (hit:u.items ≠ 0) {k d:Int} (hk:0 <= k /\ k < u.lands) (hd:0 <= d /\ d <= 2000) {fb:BookC} {b:RvBook} (hb:BookR h.get fb b) (h5:b.cases.length <= 5) :
  Gr Tryz.prog 10 #[fileV f u,.int .i64 k,.int .i64 d,bookV fb] h fun r h' => ∃ p n c,r = .tuple #[.slice p n c,.bool true] /\ Sl IntE 1 h'.get p n (leftOutT u k d b.cases.length) := by
 refine w3117 _ _ _ _ _ _ _ _ _ _ _ _ _ _ _ _ _ _ _ _ _ X0_ok ?_
 unfold n3117
 obtain ⟨⟨i1,i2⟩,_,_,_⟩ := num_ok (check_num hck)
 refine t_gr (c23 hp hu k d) ?_
 intro r1 g1 le1 hr1
 obtain ⟨p1,n1,k1,rfl,s1⟩ := hr1.form
 rw [leftQ_ok hck hk hd,if_pos rfl] at s1
 rw [leftQ_ok hck hk hd]
 have hl1:n1 = u.items.toNat := s1.1.trans (leftAll_len u k d)
 have hn1 := hb.cases.1
 have hb1 := s1.2.1
 refine gZ ?_
 refine t_blk (fun vs h' => vs = [.slice none 0 0,.bool false] /\ g1 = h') ?_ ?_
 ·refine t_cond (fun e => by cases e) (fun _ => ?_)
  refine t_cond (fun e => ?_) (fun _ => ?_)
  ·exfalso
   have:((n1:Int) == u.items) = true := by rw [beq_iff_eq]; omega
   rw [bne,this] at e; cases e
  exact t_again ⟨rfl,rfl⟩
 rintro vs _ ⟨rfl,rfl⟩
 refine gZ ?_
 refine t_loop (fun mm vs h' => g1.le h' /\ ∃ (i:Nat) (p:Option Addr) (n c:Nat),vs = [.slice p n c,.int .i64 i] /\ i <= fb.n1 /\ mm = fb.n1 - i /\ Growing IntEnc 3 1 g1.get h'.get p n c (leftOutT u k d i))
  ⟨LH.le_refl _,0,none,0,0,rfl,Nat.zero_le _,rfl,Growing.nil⟩ ?_
 rintro Y mm vs h2 hY ⟨le2,i,p,n,c,rfl,hi,rfl,gr⟩
 have hkl := leftOut_len u k d i
 have hng := gr.count IntEnc.len (by omega)
 refine gZ ?_
 refine t_if (fun e1 => ?_) (fun e1 => ?_)
 ·have hn0:(n1:Int) ≠ 0 := by omega
  have emod:Int.tmod (i:Int) (n1:Int) = ((i % n1:Nat):Int) := by rw [tmod_nn (by omega)]; omega
  have hmlt:i % n1 < n1 := Nat.mod_lt _ (by omega)
  rw [emod]
  obtain ⟨x,a,hx,ha,e4⟩ := (s1.le IntE.grow le2.1).at (i := i % n1) hmlt
  unfold IntE at e4
  have hxl:x = left u k ((i % n1:Nat):Int) d := leftAll_get (by omega) hx
  have hin:0 <= ((i % n1:Nat):Int) /\ ((i % n1:Nat):Int) < (n1:Int) := by omega
  have hks := leftOut_succ u k d i
  rw [<- hl1,<- hxl] at hks
  refine gZ ?_
  refine t_cond (fun b1 => ?_) (fun b1 => ?_)
  ·rw [b1,if_pos rfl] at hks
   refine t_pushI gr le2 (by omega) fun p' c' h3 le3 g3 => ?_
   refine gZ ?_
   refine t_again (hY (fb.n1 - (i + 1)) _ _ (by omega) ⟨le3,i + 1,p',n + 1,c',?_,by omega,rfl,by rw [hks]; exact g3⟩)
   rw [wrap_id (by omega) (by omega)]; rfl
  ·rw [b1,if_neg (by simp),List.append_nil] at hks
   refine t_again (hY (fb.n1 - (i + 1)) _ _ (by omega) ⟨le2,i + 1,p,n,c,?_,by omega,rfl,by rw [hks]; exact gr⟩)
   rw [wrap_id (by omega) (by omega)]; rfl
 ·have hie:i = b.cases.length := by omega
  subst hie
  refine gZ ?_
  exact t_ret ⟨LH.le_trans le1 le2,p,n,c,rfl,gr.sl IntEnc.len (by omega) IntEnc.e (by omega)⟩
theorem t_shownRd {h h':LH} {k:Bool -> T} {Q:Leaf -> LH -> Prop} (hch:h.chans = []) (hpe:h.pend = []) (hp:Parts h.get) (hle:h.le h') (hk:∀ h'',Rd h'.get h''.get -> h''.chans = [] /\ h''.pend = [] /\ h''.todo = h.todo -> (k true).wp XT Tryz.prog Q h'') :
  (T.call false 8 #[] fun v => T.unB v k).wp XT Tryz.prog Q h' := by
 refine t_call (c16 (by rw [hle.2.1,hch]) (by rw [hle.2.2.1,hpe]) (hp.le hle.1)) ?_
 rintro _ h'' ⟨rfl,h1,h2,h3,h4⟩
 exact gC (hk h'' h1 ⟨h2,h3,by rw [h4,hle.2.2.2]⟩)
set_option maxRecDepth 20000 in
theorem c3101 {h:LH} (hch:h.chans = []) (hpe:h.pend = []) (hp:Parts h.get) (hcs:Checks h.get) {f:FileC} {u:UseFile} (hu:FileR h.get f u) (land:Int) (hl:0 <= land /\ land <= 255) (day:Int) (hd:0 <= day /\ day <= 65535) {q:Option Addr} {m cq:Nat} {y:Paper} (hy:Sl IntE 1 h.get q m y.items)
  {fb:BookC} {b:RvBook} (hb:BookR h.get fb b) (right:Int) (hr:0 <= right /\ right <= 255) :
  FW XT Tryz.prog 3 #[fileV f u,.int .u8 land,.int .u16 day,paperV y q m cq,bookV fb,.int .u8 right] h (Fin h) := by
 refine w3101 _ _ _ _ _ _ _ _ _ _ _ _ _ _ _ _ _ _ _ _ _ _ _ _ _ _ _ _ XT_ok ?_
 unfold n3101
 have hn0 := hb.rights.1
 refine t_blk (fun vs h' => vs = [.bool false] /\ h = h' /\ checkF u = 0 /\ u.items ≠ 0 /\ BookOk b /\ b.rights.length ≠ 0) ?_ ?_
 ·refine t_call (FW.top (c36 hu)) ?_
  rintro _ _ ⟨rfl,bu,rfl,hbu⟩
  refine gZ ?_
  refine t_cond (fun _ => ?_) (fun hbf => ?_)
  ·refine t_shown hch hpe hp (LH.le_refl _) fun h' hh => ?_
   refine gZ ?_
   exact t_ret ⟨rfl,hh⟩
  have hck := hbu (by simpa using hbf)
  refine t_cond (fun _ => ?_) (fun hi0 => ?_)
  ·refine t_shown hch hpe hp (LH.le_refl _) fun h' hh => ?_
   refine gZ ?_
   exact t_ret ⟨rfl,hh⟩
  refine t_call (FW.top (c3115 (f := fb) hb)) ?_
  rintro _ _ ⟨rfl,bg,rfl⟩
  refine gZ ?_
  refine t_cond (fun _ => ?_) (fun _ => ?_)
  ·refine t_shown hch hpe hp (LH.le_refl _) fun h' hh => ?_
   refine gZ ?_
   exact t_ret ⟨rfl,hh⟩
  refine t_call (FW.top (c3116 (f := fb) hb)) ?_
  rintro _ _ ⟨rfl,z,rfl,hz⟩
  refine gZ ?_
  refine t_cond (fun _ => ?_) (fun ez => ?_)
  ·refine t_shown hch hpe hp (LH.le_refl _) fun h' hh => ?_
   refine gZ ?_
   exact t_ret ⟨rfl,hh⟩
  have hok := hz (by simpa using ez)
  refine t_cond (fun _ => ?_) (fun e0 => ?_)
  ·refine t_shown hch hpe hp (LH.le_refl _) fun h' hh => ?_
   refine gZ ?_
   exact t_ret ⟨rfl,hh⟩
  have hne:b.rights.length ≠ 0 := by
   intro hh
   have:((fb.n0:Int) == 0) = true := by rw [beq_iff_eq]; omega
   rw [this] at e0; cases e0
  exact t_again ⟨rfl,rfl,hck,by simpa using hi0,hok,hne⟩
 rintro vs _ ⟨rfl,rfl,hck,hit,hok,hne⟩
 obtain ⟨⟨i1,i2⟩,⟨l1,l2⟩,⟨f1,f2⟩,⟨d1,d2⟩⟩ := num_ok (check_num hck)
 have h5 := hok.cases
 have h6 := hok.rights
 have hl0:u.lands ≠ 0 := by omega
 have ht0:(fb.n0:Int) ≠ 0 := by omega
 have ek:Int.tmod (IntKind.wrap .i64 land) u.lands = land % u.lands := by rw [wrap_u8 hl,tmod_nn hl.1]
 have er:Int.tmod (IntKind.wrap .i64 right) (fb.n0:Int) = right % (fb.n0:Int) := by rw [wrap_u8 hr,tmod_nn hr.1]
 have hk := mod_pos (n := land) (b := u.lands) (by omega)
 have hr1 := mod_pos (n := right) (b := (fb.n0:Int)) (by omega)
 rw [ek,er]
 generalize land % u.lands = k at *
 obtain ⟨r,hrn⟩ : ∃ r:Nat,right % (fb.n0:Int) = (r:Int) := ⟨(right % (fb.n0:Int)).toNat,by omega⟩
 rw [hrn] at hr1 ⊢
 clear ek er
 refine gZ ?_
 refine t_pu (c37 hd) ?_
 have hdd := mod_day (n := day)
 generalize day % 2001 = d at hdd
 refine gZ ?_
 have vu := Valid.of hck
 refine t_gr (c3117 (fb := fb) hp hu hck hit hk hdd hb h5) ?_
 rintro _ h1 le1 ⟨p1,n1,c1,rfl,s1⟩
 refine gZ ?_
 refine t_cond (fun e => by cases e) (fun _ => ?_)
 refine t_blk (fun vs h' => vs = [.bool false] /\ h1.le h') ?_ ?_
 ·refine t_gr (c3110 (hu.le le1.1) hck (hy.le IntE.grow le1.1)) ?_
  rintro _ h2 le2 ⟨f2,b2,rfl,hu2,hb2⟩
  unfold fileV
  refine gZ ?_
  refine t_cond (fun e2 => ?_) (fun _ => t_again ⟨rfl,le2⟩)
  have ck2 := hb2 e2
  have le02 := LH.le_trans le1 le2
  refine t_gr (c3117 (fb := fb) (hp.le le02.1) hu2 ck2 hit hk hdd (hb.le le02.1) h5) ?_
  rintro _ h3 le3 ⟨p3,n3,c3,rfl,s3⟩
  have le13 := LH.le_trans le2 le3
  refine gZ ?_
  refine t_cond (fun e => by cases e) (fun _ => ?_)
  have hyd := ((check_papers ck2).2 y (List.mem_append_right _ (List.mem_singleton.2 rfl))).2.1
  refine t_pu (c3118 s3 (s1.le IntE.grow le13.1) (leftOut_sub (u := u) (by rfl) fun j => (more_paper hyd k j).left vu (Valid.of ck2) rfl d)) ?_
  refine gZ ?_
  refine t_cond (fun e => by cases e) (fun _ => ?_)
  exact t_again ⟨rfl,le13⟩
 rintro vs h5' ⟨rfl,le15⟩
 have le05 := LH.le_trans le1 le15
 refine gZ ?_
 have hrl:r < b.rights.length := by omega
 refine t_gr (c3119 (f := fb) (hcs.le le05.1) (hb.le le05.1) hok hrl) ?_
 rintro _ g1 gl1 ⟨pl,nl,cl,L,rfl,sL,hso,hLin⟩
 have l0g1 := LH.le_trans le05 gl1
 refine gZ ?_
 refine t_gr (c3120 (f := fb) (hcs.le l0g1.1) (hb.le l0g1.1) hok) ?_
 rintro _ g2 gl2 ⟨pw,nw,cw,pw',nw',cw',rfl,sW⟩
 have l0g2 := LH.le_trans l0g1 gl2
 refine gZ ?_
 have s1g2 := s1.le IntE.grow (LH.le_trans le15 (LH.le_trans gl1 gl2)).1
 have hOin:∀ v ∈ leftOutT u k d b.cases.length,0 <= v /\ v < (b.cases.length:Int) := fun v hv => by
  obtain ⟨i,h1,_,rfl⟩ := leftOut_mem.1 hv
  omega
 refine t_gr (c3121 (f := fb) (hcs.le l0g2.1) (hb.le l0g2.1) hok s1g2 (leftOut_asc u k d _) hOin) ?_
 rintro _ g3 gl3 ⟨fo,rfl,hbo⟩
 have l0g3 := LH.le_trans l0g2 gl3
 unfold bookV
 refine gZ ?_
 refine t_gr (c3120 (f := fo) (hcs.le l0g3.1) hbo (without_ok hok _)) ?_
 rintro _ g4 gl4 ⟨pn,nn,cn,pn',nn',cn',rfl,sN⟩
 have l0g4 := LH.le_trans l0g3 gl4
 refine gZ ?_
 have hfl:∀ b:RvBook,(fatesT b).length = b.rights.length := fun b => by unfold fatesT; rw [List.length_map,List.length_range]
 have hnw := sW.1
 have hnn := sN.1
 rw [hfl] at hnw hnn
 have hnn:nn = b.rights.length := hnn
 refine t_blk (fun vs h' => vs = [.bool false] /\ g4 = h') ?_ ?_
 ·refine t_cond (fun e => by cases e) (fun _ => ?_)
  refine t_cond (fun e => by cases e) (fun _ => ?_)
  refine t_cond (fun e => by cases e) (fun _ => ?_)
  refine t_cond (fun e => by cases e) (fun _ => ?_)
  refine t_cond (fun e => ?_) (fun _ => ?_)
  ·exfalso
   have:((nw:Int) == (fb.n0:Int)) = true := by rw [beq_iff_eq]; omega
   rw [bne,this] at e; cases e
  refine t_cond (fun e => ?_) (fun _ => ?_)
  ·exfalso
   have:((nn:Int) == (nw:Int)) = true := by rw [beq_iff_eq]; omega
   rw [bne,this] at e; cases e
  exact t_again ⟨rfl,rfl⟩
 rintro vs _ ⟨rfl,rfl⟩
 refine gZ ?_
 have hnl := sL.1
 have hbl := sL.2.1
 have sL4 := sL.le IntE.grow (LH.le_trans gl2 (LH.le_trans gl3 gl4)).1
 have s14 := s1g2.le IntE.grow (LH.le_trans gl3 gl4).1
 refine t_loop (fun mm vs h' => g4 = h' /\ ∃ i:Nat,vs = [.bool false,.int .i64 i] /\ i <= nl /\ mm = nl - i /\ ∀ v ∈ L.take i,v ∉ leftOutT u k d b.cases.length) ⟨rfl,0,rfl,Nat.zero_le _,rfl,by intro v hv; simp at hv⟩ ?_
 rintro Y mm vs _ hY ⟨rfl,i,rfl,hi,rfl,hno⟩
 refine gZ ?_
 refine t_if (fun e1 => ?_) (fun e1 => ?_)
 ·obtain ⟨x,a',hx,ha',e2⟩ := sL4.at (i := i) (by omega)
  unfold IntE at e2
  have hin:0 <= (i:Int) /\ (i:Int) < (nl:Int) := by omega
  refine gZ ?_
  refine t_pu (c41 s14 x) ?_
  refine gZ ?_
  refine t_cond (fun _ => ?_) (fun ec => ?_)
  ·refine t_shown hch hpe hp l0g4 fun h' hh => ?_
   refine gZ ?_
   exact t_ret ⟨rfl,hh⟩
  refine t_again (hY (nl - (i + 1)) _ _ (by omega) ⟨rfl,i + 1,?_,by omega,rfl,fun v hv => ?_⟩)
  ·rw [wrap_id (by omega) (by omega)]; rfl
  ·rw [List.take_add_one,hx] at hv
   rcases List.mem_append.1 hv with hv | hv
   ·exact hno v hv
   ·have:v = x := by simpa using hv
    subst this
    intro hm
    have := List.contains_iff_mem.2 hm
    rw [this] at ec; cases ec
 ·rw [List.take_of_length_le (by omega)] at hno
  have hsame:saidT b r (bitsT (leftOutT u k d b.cases.length)) = fateT b r := by
   rw [so_use hso hOin (fun v hv => (hLin v hv).1) hno]
   unfold saidT
   rw [without_zero hok.toBookShape]
  have hfw:(fatesT b)[r]? = some (fateT b r) := by unfold fatesT; rw [List.getElem?_map,List.getElem?_range hrl]; rfl
  have hfn:(fatesT (withoutT b (bitsT (leftOutT u k d b.cases.length))))[r]? = some (fateT b r) := by
   unfold fatesT; rw [List.getElem?_map,List.getElem?_range (show r < (withoutT b (bitsT (leftOutT u k d b.cases.length))).rights.length from hrl),<- hsame]; rfl
  obtain ⟨x2,a2,hx2,ha2,cW⟩ := (sW.le IntE.grow (LH.le_trans gl3 gl4).1).at (i := r) (by omega)
  obtain rfl:x2 = fateT b r := Option.some.inj (hx2.symm.trans hfw)
  obtain ⟨x3,a3,hx3,ha3,cN⟩ := sN.at (i := r) (by omega)
  obtain rfl:x3 = fateT b r := Option.some.inj (hx3.symm.trans hfn)
  unfold IntE at cW cN
  have hinw:0 <= (r:Int) /\ (r:Int) < (nw:Int) := by omega
  have hinn:0 <= (r:Int) /\ (r:Int) < (nn:Int) := by omega
  have cW':g4.get.cell? (a2.add (Int.toNat (r:Int) * 1)) = some (.int .i64 (fateT b r)) := by rw [Int.toNat_natCast]; exact cW
  have cN':g4.get.cell? (a3.add (Int.toNat (r:Int) * 1)) = some (.int .i64 (fateT b r)) := by rw [Int.toNat_natCast]; exact cN
  refine gZ ?_
  refine t_cond (fun _ => ?_) (fun e => ?_)
  ·refine t_shownRd hch hpe hp l0g4 fun h' rd hh => ?_
   have cW2 := rd _ _ cW'
   have cN2 := rd _ _ cN'
   refine gZ ?_
   exact t_ret ⟨rfl,hh⟩
  ·rw [beq_self_eq_true] at e; cases e
end Go.Proofs.YtgljffachdhigaaGreatDoor
end
section
namespace Go.Proofs.YtgljffachdhigaaGreatDoor
open Go Go.TM Go.Proofs Go.Proofs.YtgljffachdhigaaGreatDoor.Tre Go.ChangeShapes Go.WideShapes Go.RowKit
set_option maxRecDepth 100000
theorem door_met (os:Os) (args:Array Value):laidMetH Tryz.prog Rows.useRivalRow.laid ((World.doorLaid Tryz.prog 200 os).forCall (fun _ _ => 0) ⟨#[],args,[]⟩).memory :=
 laidMetH_of_parts3 (fuel := 8) (laidMet_of_run' 8 (by kernel_rfl) (by kernel_rfl)) (by kernel_rfl) (by kernel_rfl)
theorem door_shaped (os:Os) (args:Array Value):((World.doorLaid Tryz.prog 200 os).forCall (fun _ _ => 0) ⟨#[],args,[]⟩).Shaped Tryz.prog :=
 World.shaped_of_RefB (by kernel_rfl) (by kernel_rfl)
theorem useRival_lifted (os:Os) (started:os.Started) (H:Type) (enc:TypeId × Value -> H) :
  ReturnsInLeavingWide {} Tryz.checked os 3 .any (fun w args => (Rows.useRivalSpec.pre enc Tryz.prog Tryz.f3 [] false w args /\ laidMetH Tryz.prog Rows.useRivalRow.laid w) /\ sizedMet enc Tryz.prog Tryz.f3 (OpenSpec.ofChange Rows.useRivalSpec) false w args)
   (Rows.useRivalSpec.post enc Tryz.prog Tryz.f3 false true false false) := by
 refine row_leaving (C := Tryz.checked) (tb := 4) own started Tryz.func3 (by kernel_rfl) rfl lo ?_ (by kernel_rfl) Tryz.underlying4 ?_
  (ChangeSpec.witness_shaped (enc := enc) (C := Tryz.checked) (os := os) (X := fun w _ => laidMetH Tryz.prog Rows.useRivalRow.laid w) false (World.doorLaid Tryz.prog 200 os) #[noUse,.int .u8 0,.int .u16 0,.agg #[.int .i64 0,.int .i64 0,.int .i64 0,.slice none 0 0],.agg #[.slice none 0 0,.slice none 0 0],.int .u8 0] 8 rfl (door_shaped os _) (by kernel_rfl) (by kernel_rfl) (by kernel_rfl) (door_met os _)) ?_
 ·exact fun t ht => of_decide_eq_true (List.all_eq_true.1 (show (Tryz.f3.params.toList.all fun t => decide (Tryz.prog.readableRec t = true /\ t < Tryz.prog.types.size)) = true by kernel_rfl) t ht)
 ·intro ds hd
  match ds,(show ds.length = 6 from hd) with
  | [d0,d1,d2,d3,d4,d5],_ => rfl
 ·intro W base args ds ps hval0 hA0 hz0 hL
  have hval:∀ (j:Nat) t v,Tryz.f3.params[j]? = some t -> args[j]? = some v -> Value.okWide Tryz.prog W .any base t v := hval0
  have hz:∀ (j:Nat) t d,Tryz.f3.params.toList[j]? = some t -> ds[j]? = some d -> Light Tryz.prog t d := hz0
  have hA:DataW.TrodAll enc Tryz.prog W 0 (fun _ => true) true Tryz.f3.params.toList args.toList ds ps := hA0
  rw [Tryz.params3] at hval hz hA
  obtain ⟨v0,v1,v2,v3,v4,v5,d0,d1,d2,d3,d4,d5,q00,q01,q02,q03,q04,q05,rfl,rfl,rfl,h0,h1,h2,h3,h4,h5⟩ := trodAll6 hA
  obtain ⟨f0,u0,rfl,hu0⟩ := file_arg UT (hval 0 26 v0 rfl rfl) (hz 0 26 d0 rfl rfl) h0
  obtain ⟨x1,rfl,_,_,w1⟩ := open_int und5 (hval 1 5 v1 rfl rfl) h1
  obtain ⟨x2,rfl,_,_,w2⟩ := open_int und57 (hval 2 27 v2 rfl rfl) h2
  obtain ⟨q3,m3,k3,x3,rfl,s3⟩ := paper_arg UT (hval 3 32 v3 rfl rfl) (hz 3 32 d3 rfl rfl) h3
  obtain ⟨f4,u4,rfl,hu4⟩ := book_arg RT (hval 4 36 v4 rfl rfl) (hz 4 36 d4 rfl rfl) h4
  obtain ⟨x5,rfl,_,_,w5⟩ := open_int und5 (hval 5 5 v5 rfl rfl) h5
  exact FW.mono (c3101 (h := ⟨getW W,[],[],[]⟩) rfl rfl (parts_of_laid hL (by repeat first | exact List.Mem.head _ | apply List.Mem.tail)) (checks_of_laid hL (by repeat first | exact List.Mem.head _ | apply List.Mem.tail)) hu0 x1 (wf_u8 w1) x2 (wf_u16 w2) s3 hu4 x5 (wf_u8 w5)) fun r h' hq => ⟨hq.1,hq.2.2.1⟩
set_option maxHeartbeats 0 in
theorem useRival_closed:joinedFacts Tryz.prog 3 Tryz.f3 Rows.useRivalSpec Rows.useRivalRow = true := by
 unfold joinedFacts
 simp only [Bool.and_eq_true]
 and_intros
 all_goals (as_aux_lemma => kernel_rfl)
theorem useRival_named:Tryz.prog.funcNamed Rows.useRivalRow.func = some 3 := by kernel_rfl
theorem useRival_row:Rows.UseRivalSaid :=
 OpenClaim.holds_of_wide_leaving 3 Tryz.f3 rfl rfl rfl rfl rfl rfl rfl ⟨rfl,rfl,rfl,rfl,rfl⟩ rfl rfl rfl rfl rfl useRival_named Tryz.func3 useRival_closed
  (of_decide_eq_true (by kernel_rfl)) (by unfold Func.isWrapper; first | (rw [if_pos (by decide +kernel)]; kernel_rfl) | (rw [if_neg (by decide +kernel)]; exact ⟨rfl,rfl⟩))
  (fun os started H enc _ => useRival_lifted os started H enc)
theorem useRival_holds:Rows.UseRivalCardSaid :=
 card_goes [.funcs,.funcs] true Rows.useRivalCard.stood.harness false useRival_row (by kernel_rfl) useRival_row_tie rfl ⟨rfl,rfl⟩ (by kernel_rfl) rfl
  (fun f fn hf hfn => by
   obtain rfl:f = 3 := Option.some.inj (useRival_named.symm.trans hf) |>.symm
   obtain rfl:fn = Tryz.f3 := (Option.some.inj (Tryz.func3.symm.trans hfn)).symm
   exact ⟨by kernel_rfl,fun j t ht => by
    have hm := Array.mem_of_getElem? ht
    have := of_decide_eq_true (List.all_eq_true.1 (show (Tryz.f3.params.toList.all fun t => decide (Tryz.prog.wantsStandIn t = false)) = true by kernel_rfl) t (Array.mem_toList_iff.2 hm))
    exact this⟩)
  (by kernel_rfl)
end Go.Proofs.YtgljffachdhigaaGreatDoor
end
#print axioms Go.Proofs.YtgljffachdhigaaGreatDoor.useRival_holds

/- Contracts and laws for the proof, joined by a program. No condition. -/
import Derived.Test.YtfkfohpnpljihaaGreatDoorM5
set_option linter.all false
open Go.IntKind (wrap)
section
namespace Go.Proofs.YtfkfohpnpljihaaGreatDoor
open Go Go.TM Go.Proofs
set_option linter.unusedVariables false
set_option maxRecDepth 100000
variable {X:XP} {h:LH} {A:Value -> LH -> Prop}
noncomputable def n2092 (xp:Option Addr) (xn xc:Nat):T := .call false 173 #[.int .u64 (IntKind.wrap .u64 (↑xn:Int))] fun v => .unI .i64 v fun n => .call false 172 #[.slice xp xn xc,.int .i64 0,.int .i64 (↑xn:Int),.int .i64 n] fun v => .unTup v fun l => .unNil l (.leaf (.ret (.tuple #[])))
theorem w2092 (xp:Option Addr) (xn xc:Nat):FX X 127 #[.slice xp xn xc] h A (n2092 xp xn xc) := fk [] [] [] Tryz.f127
noncomputable def n2101 (datap:Option Addr) (datan datac:Nat) (a b limit:Int):T := .loop [.int .i64 a,.int .i64 b,.int .i64 limit,.bool true,.bool true] (fun vs => .popI .i64 vs fun n vs => .popI .i64 vs fun n_1 vs => .popI .i64 vs fun n_2 vs => .popB vs fun b vs => .popB vs fun b_1 vs => .unNil vs (bif decide (wrap .i64 (n_1 - n) <= 12) then .call false 193 #[.slice datap datan datac,.int .i64 n,.int .i64 n_1] fun v => .unTup v fun l => .unNil l (.leaf (.retn [.int .i64 n,.int .i64 n_1,.int .i64 n_2,.bool b,.bool b_1])) else bif n_2 == 0 then .call false 194 #[.slice datap datan datac,.int .i64 n,.int .i64 n_1] fun v => .unTup v fun l => .unNil l (.leaf (.retn [.int .i64 n,.int .i64 n_1,.int .i64 n_2,.bool b,.bool b_1])) else .blk (bif !b then .call false 195 #[.slice datap datan datac,.int .i64 n,.int .i64 n_1] fun v => .unTup v fun l => .unNil l (.leaf (.again [.int .i64 (wrap .i64 (n_2 - 1))])) else .leaf (.again [.int .i64 n_2])) (fun vs => .popI .i64 vs fun n_3 vs => .unNil vs (.call false 196 #[.slice datap datan datac,.int .i64 n,.int .i64 n_1] fun v => .unTup v fun l => .unCons l fun v vs => .unI .i64 v fun n_4 => .unCons vs fun v vs => .unI .i64 v fun n_5 => .unNil vs (.blk (bif n_5 == 2 then .call false 197 #[.slice datap datan datac,.int .i64 n,.int .i64 n_1] fun v => .unTup v fun l => .unNil l (.leaf (.again [.int .i64 (wrap .i64 (wrap .i64 (n_1 - 1) - wrap .i64 (n_4 - n))),.int .i64 1])) else .leaf (.again [.int .i64 n_4,.int .i64 n_5])) (fun vs => .popI .i64 vs fun n_6 vs => .popI .i64 vs fun n_7 vs => .unNil vs (.blk (bif b then bif b_1 then bif n_7 == 1 then .call false 198 #[.slice datap datan datac,.int .i64 n,.int .i64 n_1] fun v => .unB v fun b => bif b then .leaf (.retn []) else .leaf (.again []) else .leaf (.again []) else .leaf (.again []) else .leaf (.again [])) (fun vs => .unNil vs (.blk (bif decide (n > 0) then .need (0 <= wrap .i64 (n - 1) /\ wrap .i64 (n - 1) < (↑datan:Int)) (.someA datap fun a => .loadI .i64 (a.add ((wrap .i64 (n - 1)).toNat * 1)) fun n_8 => .need (0 <= n_6 /\ n_6 < (↑datan:Int)) (.someA datap fun a_1 => .loadI .i64 (a_1.add (n_6.toNat * 1)) fun n_9 => .call false 199 #[.int .i64 n_8,.int .i64 n_9] fun v => .unB v fun b => .need (0 <= n_6 /\ n_6 < (↑datan:Int)) (.someA datap fun a_2 => .ne (.pointer (some (a_2.add (n_6.toNat * 1)))) (.pointer (some (a_1.add (n_6.toNat * 1)))) (.nd (.int .i64 n_6) (.nd (.slice datap datan datac) (.need (0 <= wrap .i64 (n - 1) /\ wrap .i64 (n - 1) < (↑datan:Int)) (.someA datap fun a_3 => .ne (.pointer (some (a_3.add ((wrap .i64 (n - 1)).toNat * 1)))) (.pointer (some (a.add ((wrap .i64 (n - 1)).toNat * 1)))) (.nd (.int .i64 (wrap .i64 (n - 1))) (.nd (.int .i64 n) (.nd (.slice datap datan datac) (.nd (.bool (decide (n > 0))) (.nd (.int .i64 n) (bif !b then .call false 200 #[.slice datap datan datac,.int .i64 n,.int .i64 n_1,.int .i64 n_6] fun v => .unI .i64 v fun n => .leaf (.out 1 [.int .i64 n]) else .leaf (.again [.int .i64 n])))))))))))))) else .nd (.tuple #[]) (.nd (.tuple #[]) (.nd (.tuple #[]) (.nd (.tuple #[]) (.nd (.tuple #[]) (.nd (.bool (decide (n > 0))) (.nd (.int .i64 n) (.nd (.tuple #[]) (.nd (.tuple #[]) (.nd (.tuple #[]) (.nd (.tuple #[]) (.nd (.tuple #[]) (.nd (.bool (decide (n > 0))) (.nd (.int .i64 n) (.nd (.tuple #[]) (.nd (.tuple #[]) (.nd (.tuple #[]) (.nd (.tuple #[]) (.nd (.tuple #[]) (.nd (.bool (decide (n > 0))) (.nd (.int .i64 n) (.leaf (.again [.int .i64 n]))))))))))))))))))))))) (fun vs => .popI .i64 vs fun n_8 vs => .unNil vs (.call false 201 #[.slice datap datan datac,.int .i64 n_8,.int .i64 n_1,.int .i64 n_6] fun v => .unTup v fun l => .unCons l fun v vs => .unI .i64 v fun n_9 => .unCons vs fun v vs => .unB v fun b => .unNil vs (.need ((8:Int) ≠ 0) (bif decide (wrap .i64 (n_9 - n_8) < wrap .i64 (n_1 - n_9)) then .call false 172 #[.slice datap datan datac,.int .i64 n_8,.int .i64 n_9,.int .i64 n_3] fun v => .unTup v fun l => .unNil l (.leaf (.again [.int .i64 (wrap .i64 (n_9 + 1)),.int .i64 n_1,.int .i64 n_3,.bool (decide (wrap .i64 (n_9 - n_8) >= wrap .i64 (Int.tdiv (wrap .i64 (n_1 - n)) 8))),.bool b])) else .call false 172 #[.slice datap datan datac,.int .i64 (wrap .i64 (n_9 + 1)),.int .i64 n_1,.int .i64 n_3] fun v => .unTup v fun l => .unNil l (.leaf (.again [.int .i64 n_8,.int .i64 n_9,.int .i64 n_3,.bool (decide (wrap .i64 (n_1 - n_9) >= wrap .i64 (Int.tdiv (wrap .i64 (n_1 - n)) 8))),.bool b])))))) (fun vs => .popI .i64 vs fun n vs => .unNil vs (.leaf (.retn [.int .i64 n,.int .i64 n_1,.int .i64 n_3,.bool b,.bool b_1]))) fun x x_1 => bif Nat.beq x 1 then .popI .i64 x_1 fun n vs => .unNil vs (.leaf (.again [.int .i64 n,.int .i64 n_1,.int .i64 n_3,.bool b,.bool b_1])) else .fail)) (fun vs => .unNil vs (.leaf (.retn [.int .i64 n,.int .i64 n_1,.int .i64 n_3,.bool b,.bool b_1]))) fun x x_1 => .fail)) (fun vs => .popI .i64 vs fun n_6 vs => .popI .i64 vs fun n_7 vs => .unNil vs (.leaf (.retn [.int .i64 n,.int .i64 n_1,.int .i64 n_3,.bool b,.bool b_1]))) fun x x_1 => .fail))) (fun vs => .popI .i64 vs fun n_3 vs => .unNil vs (.leaf (.retn [.int .i64 n,.int .i64 n_1,.int .i64 n_3,.bool b,.bool b_1]))) fun x x_1 => .fail)) (fun vs => .popI .i64 vs fun n vs => .popI .i64 vs fun n vs => .popI .i64 vs fun n vs => .popB vs fun b vs => .popB vs fun b vs => .unNil vs (.leaf (.ret (.tuple #[])))) (fun vs => .popI .i64 vs fun n vs => .popI .i64 vs fun n vs => .popI .i64 vs fun n vs => .popB vs fun b vs => .popB vs fun b vs => .unNil vs (.leaf (.ret (.tuple #[])))) fun x x_1 => .fail
theorem w2101 (datap:Option Addr) (datan datac:Nat) (a b limit:Int):FX X 172 #[.slice datap datan datac,.int .i64 a,.int .i64 b,.int .i64 limit] h A (n2101 datap datan datac a b limit) := fk [] [⟨0,[(1,.int .i64),(2,.int .i64),(3,.int .i64),(8,.bool),(9,.bool)],[],[],[],[]⟩] [⟨20,[(1,.int .i64)],[],[1],[],[]⟩,⟨17,[],[],[],[],[]⟩,⟨15,[(11,.int .i64),(12,.int .i64)],[],[],[],[]⟩,⟨10,[(3,.int .i64)],[],[],[],[]⟩] Tryz.f172
noncomputable def n2102 (x:Int):T := .call false 203 #[.int .u64 x] fun v => .unI .i64 v fun n => .leaf (.ret (.int .i64 n))
theorem w2102 (x:Int):FX X 173 #[.int .u64 x] h A (n2102 x) := fk [] [] [] Tryz.f173
noncomputable def n2105 (datap:Option Addr) (datan datac:Nat) (a b:Int):T := .loop [.int .i64 (wrap .i64 (a + 1))] (fun vs => .popI .i64 vs fun n vs => .unNil vs (bif decide (n < b) then .loop [.int .i64 n] (fun vs => .popI .i64 vs fun n vs => .unNil vs (.blk (bif decide (n > a) then .need (0 <= n /\ n < (↑datan:Int)) (.someA datap fun a_1 => .loadI .i64 (a_1.add (n.toNat * 1)) fun n_1 => .need (0 <= wrap .i64 (n - 1) /\ wrap .i64 (n - 1) < (↑datan:Int)) (.someA datap fun a_2 => .loadI .i64 (a_2.add ((wrap .i64 (n - 1)).toNat * 1)) fun n_2 => .call false 199 #[.int .i64 n_1,.int .i64 n_2] fun v => .unB v fun b => .need (0 <= wrap .i64 (n - 1) /\ wrap .i64 (n - 1) < (↑datan:Int)) (.someA datap fun a_3 => .ne (.pointer (some (a_3.add ((wrap .i64 (n - 1)).toNat * 1)))) (.pointer (some (a_2.add ((wrap .i64 (n - 1)).toNat * 1)))) (.nd (.int .i64 (wrap .i64 (n - 1))) (.nd (.int .i64 n) (.nd (.slice datap datan datac) (.need (0 <= n /\ n < (↑datan:Int)) (.someA datap fun a_4 => .ne (.pointer (some (a_4.add (n.toNat * 1)))) (.pointer (some (a_1.add (n.toNat * 1)))) (.nd (.int .i64 n) (.nd (.slice datap datan datac) (.nd (.bool (decide (n > a))) (.nd (.int .i64 a) (.nd (.int .i64 n) (bif b then .leaf (.again []) else .leaf (.out 2 []))))))))))))))) else .nd (.tuple #[]) (.nd (.tuple #[]) (.nd (.tuple #[]) (.nd (.tuple #[]) (.nd (.tuple #[]) (.nd (.bool (decide (n > a))) (.nd (.int .i64 a) (.nd (.int .i64 n) (.nd (.tuple #[]) (.nd (.tuple #[]) (.nd (.tuple #[]) (.nd (.tuple #[]) (.nd (.tuple #[]) (.nd (.bool (decide (n > a))) (.nd (.int .i64 a) (.nd (.int .i64 n) (.leaf (.out 2 [])))))))))))))))))) (fun vs => .unNil vs (.need (0 <= wrap .i64 (n - 1) /\ wrap .i64 (n - 1) < (↑datan:Int)) (.someA datap fun a => .loadI .i64 (a.add ((wrap .i64 (n - 1)).toNat * 1)) fun n_1 => .need (0 <= n /\ n < (↑datan:Int)) (.someA datap fun a => .loadI .i64 (a.add (n.toNat * 1)) fun n_2 => .need (0 <= n /\ n < (↑datan:Int)) (.someA datap fun a_1 => .store ((a_1.add (n.toNat * 1)).add 0) (.int .i64 n_1) (.need (0 <= n /\ n < (↑datan:Int)) (.someA datap fun a_2 => .ne (.pointer (some (a_2.add (n.toNat * 1)))) (.pointer (some (a.add (n.toNat * 1)))) (.nd (.int .i64 n) (.nd (.slice datap datan datac) (.nd (.int .i64 (wrap .i64 (n - 1))) (.nd (.int .i64 n) (.nd (.slice datap datan datac) (.need (0 <= wrap .i64 (n - 1) /\ wrap .i64 (n - 1) < (↑datan:Int)) (.someA datap fun a => .store ((a.add ((wrap .i64 (n - 1)).toNat * 1)).add 0) (.int .i64 n_2) (.leaf (.again [.int .i64 (wrap .i64 (n - 1))])))))))))))))))) (fun vs => .unNil vs (.leaf (.retn [.int .i64 n]))) fun x x_1 => bif Nat.beq x 2 then .unNil x_1 (.leaf (.brk [.int .i64 n])) else .fail)) (fun vs => .popI .i64 vs fun n_1 vs => .unNil vs (.leaf (.again [.int .i64 (wrap .i64 (n + 1))]))) (fun vs => .popI .i64 vs fun n_1 vs => .unNil vs (.leaf (.retn [.int .i64 n]))) fun x x_1 => .fail else .leaf (.brk [.int .i64 n]))) (fun vs => .popI .i64 vs fun n vs => .unNil vs (.leaf (.ret (.tuple #[])))) (fun vs => .popI .i64 vs fun n vs => .unNil vs (.leaf (.ret (.tuple #[])))) fun x x_1 => .fail
theorem w2105 (datap:Option Addr) (datan datac:Nat) (a b:Int):FX X 193 #[.slice datap datan datac,.int .i64 a,.int .i64 b] h A (n2105 datap datan datac a b) := fk [] [⟨2,[(7,.int .i64)],[],[],[],[]⟩,⟨0,[(6,.int .i64)],[],[],[],[]⟩] [⟨6,[],[],[2],[],[]⟩] Tryz.f193
noncomputable def n2111 (x y:Int):T := .call false 174 #[.int .i64 x] fun v => .unB v fun b => bif b then .call false 174 #[.int .i64 y] fun v => .unB v fun b => bif !b then .leaf (.ret (.bool true)) else .leaf (.ret (.bool (decide (x < y)))) else .leaf (.ret (.bool (decide (x < y))))
theorem w2111 (x y:Int):FX X 199 #[.int .i64 x,.int .i64 y] h A (n2111 x y) := fk [] [] [] Tryz.f199
noncomputable def n2115 (x:Int):T := .blk (bif decide (x >= 4294967296) then .need ((0:Int) <= 32) (.leaf (.again [.int .u64 (Int.fdiv x (2 ^ 32)),.int .i64 32])) else .leaf (.again [.int .u64 x,.int .i64 0])) (fun vs => .popI .u64 vs fun n vs => .popI .i64 vs fun n_1 vs => .unNil vs (.blk (bif decide (n >= 65536) then .need ((0:Int) <= 16) (.leaf (.again [.int .u64 (Int.fdiv n (2 ^ 16)),.int .i64 (wrap .i64 (n_1 + 16))])) else .leaf (.again [.int .u64 n,.int .i64 n_1])) (fun vs => .popI .u64 vs fun n vs => .popI .i64 vs fun n_2 vs => .unNil vs (bif decide (n >= 256) then .need ((0:Int) <= 8) (.sem false (Instr.index 9 (.string { data := List.toArray (List.append (List.append [0,1,2,2,3,3,3,3,4,4,4,4,4,4,4,4,5,5,5,5,5,5,5,5,5,5,5,5,5,5,5,5,6,6,6,6,6,6,6,6,6,6,6,6,6,6,6,6,6,6,6,6,6,6,6,6,6,6,6,6,6,6,6,6] [7,7,7,7,7,7,7,7,7,7,7,7,7,7,7,7,7,7,7,7,7,7,7,7,7,7,7,7,7,7,7,7,7,7,7,7,7,7,7,7,7,7,7,7,7,7,7,7,7,7,7,7,7,7,7,7,7,7,7,7,7,7,7,7]) (List.append [8,8,8,8,8,8,8,8,8,8,8,8,8,8,8,8,8,8,8,8,8,8,8,8,8,8,8,8,8,8,8,8,8,8,8,8,8,8,8,8,8,8,8,8,8,8,8,8,8,8,8,8,8,8,8,8,8,8,8,8,8,8,8,8] [8,8,8,8,8,8,8,8,8,8,8,8,8,8,8,8,8,8,8,8,8,8,8,8,8,8,8,8,8,8,8,8,8,8,8,8,8,8,8,8,8,8,8,8,8,8,8,8,8,8,8,8,8,8,8,8,8,8,8,8,8,8,8,8])) }) (.int .u8 (IntKind.wrap .u8 (Int.fdiv n (2 ^ 8))))) fun v => .unI .u8 v fun n => .leaf (.ret (.int .i64 (wrap .i64 (wrap .i64 (n_2 + 8) + wrap .i64 n))))) else .sem false (Instr.index 9 (.string { data := List.toArray (List.append (List.append [0,1,2,2,3,3,3,3,4,4,4,4,4,4,4,4,5,5,5,5,5,5,5,5,5,5,5,5,5,5,5,5,6,6,6,6,6,6,6,6,6,6,6,6,6,6,6,6,6,6,6,6,6,6,6,6,6,6,6,6,6,6,6,6] [7,7,7,7,7,7,7,7,7,7,7,7,7,7,7,7,7,7,7,7,7,7,7,7,7,7,7,7,7,7,7,7,7,7,7,7,7,7,7,7,7,7,7,7,7,7,7,7,7,7,7,7,7,7,7,7,7,7,7,7,7,7,7,7]) (List.append [8,8,8,8,8,8,8,8,8,8,8,8,8,8,8,8,8,8,8,8,8,8,8,8,8,8,8,8,8,8,8,8,8,8,8,8,8,8,8,8,8,8,8,8,8,8,8,8,8,8,8,8,8,8,8,8,8,8,8,8,8,8,8,8] [8,8,8,8,8,8,8,8,8,8,8,8,8,8,8,8,8,8,8,8,8,8,8,8,8,8,8,8,8,8,8,8,8,8,8,8,8,8,8,8,8,8,8,8,8,8,8,8,8,8,8,8,8,8,8,8,8,8,8,8,8,8,8,8])) }) (.int .u8 (IntKind.wrap .u8 n))) fun v => .unI .u8 v fun n => .leaf (.ret (.int .i64 (wrap .i64 (n_2 + wrap .i64 n)))))) (fun vs => .popI .u64 vs fun n vs => .popI .i64 vs fun n vs => .unNil vs (.leaf (.ret (.int .i64 n)))) fun x x_1 => .fail)) (fun vs => .popI .u64 vs fun n vs => .popI .i64 vs fun n vs => .unNil vs (.leaf (.ret (.int .i64 n)))) fun x x_1 => .fail
theorem w2115 (x:Int):FX X 203 #[.int .u64 x] h A (n2115 x) := fk [] [] [⟨7,[(0,.int .u64),(2,.int .i64)],[],[],[],[]⟩,⟨4,[(0,.int .u64),(2,.int .i64)],[],[],[],[]⟩] Tryz.f203
noncomputable def n2106 (datap:Option Addr) (datan datac:Nat) (a b:Int):T := .need ((2:Int) ≠ 0) (.loop [.int .i64 (wrap .i64 (Int.tdiv (wrap .i64 (wrap .i64 (b - a) - 1)) 2))] (fun vs => .popI .i64 vs fun n vs => .unNil vs (bif decide (n >= 0) then .call false 208 #[.slice datap datan datac,.int .i64 n,.int .i64 (wrap .i64 (b - a)),.int .i64 a] fun v => .unTup v fun l => .unNil l (.leaf (.again [.int .i64 (wrap .i64 (n - 1))])) else .leaf (.brk [.int .i64 n]))) (fun vs => .popI .i64 vs fun n vs => .unNil vs (.loop [.int .i64 (wrap .i64 (wrap .i64 (b - a) - 1))] (fun vs => .popI .i64 vs fun n vs => .unNil vs (bif decide (n >= 0) then .need (0 <= wrap .i64 (a + n) /\ wrap .i64 (a + n) < (↑datan:Int)) (.someA datap fun a_1 => .loadI .i64 (a_1.add ((wrap .i64 (a + n)).toNat * 1)) fun n_1 => .need (0 <= a /\ a < (↑datan:Int)) (.someA datap fun a_2 => .loadI .i64 (a_2.add (a.toNat * 1)) fun n_2 => .need (0 <= a /\ a < (↑datan:Int)) (.someA datap fun a_3 => .store ((a_3.add (a.toNat * 1)).add 0) (.int .i64 n_1) (.need (0 <= a /\ a < (↑datan:Int)) (.someA datap fun a_4 => .ne (.pointer (some (a_4.add (a.toNat * 1)))) (.pointer (some (a_2.add (a.toNat * 1)))) (.nd (.int .i64 a) (.nd (.slice datap datan datac) (.nd (.int .i64 (wrap .i64 (a + n))) (.nd (.int .i64 n) (.nd (.int .i64 a) (.nd (.slice datap datan datac) (.need (0 <= wrap .i64 (a + n) /\ wrap .i64 (a + n) < (↑datan:Int)) (.someA datap fun a_5 => .store ((a_5.add ((wrap .i64 (a + n)).toNat * 1)).add 0) (.int .i64 n_2) (.call false 208 #[.slice datap datan datac,.int .i64 0,.int .i64 n,.int .i64 a] fun v => .unTup v fun l => .unNil l (.leaf (.again [.int .i64 (wrap .i64 (n - 1))])))))))))))))))) else .leaf (.brk [.int .i64 n]))) (fun vs => .popI .i64 vs fun n vs => .unNil vs (.leaf (.ret (.tuple #[])))) (fun vs => .popI .i64 vs fun n vs => .unNil vs (.leaf (.ret (.tuple #[])))) fun x x_1 => .fail)) (fun vs => .popI .i64 vs fun n vs => .unNil vs (.leaf (.ret (.tuple #[])))) fun x x_1 => .fail)
theorem w2106 (datap:Option Addr) (datan datac:Nat) (a b:Int):FX X 194 #[.slice datap datan datac,.int .i64 a,.int .i64 b] h A (n2106 datap datan datac a b) := fk [] [⟨0,[(9,.int .i64)],[],[],[],[]⟩,⟨2,[(10,.int .i64)],[],[],[],[]⟩] [] Tryz.f194
noncomputable def n2107 (datap:Option Addr) (datan datac:Nat) (a b:Int):T := bif decide (wrap .i64 (b - a) >= 8) then .new 301 #[.int .u64 0] fun r => .store (Addr.add { block := r,off := 0 } 0) (.int .u64 (IntKind.wrap .u64 (wrap .i64 (b - a)))) (.call false 209 #[.int .i64 (wrap .i64 (b - a))] fun v => .unI .u64 v fun n => .need ((4:Int) ≠ 0) (.loop [.int .i64 (wrap .i64 (wrap .i64 (a + wrap .i64 (wrap .i64 (Int.tdiv (wrap .i64 (b - a)) 4) * 2)) - 1))] (fun vs => .popI .i64 vs fun n_1 vs => .unNil vs (.need ((4:Int) ≠ 0) (bif decide (n_1 <= wrap .i64 (wrap .i64 (a + wrap .i64 (wrap .i64 (Int.tdiv (wrap .i64 (b - a)) 4) * 2)) + 1)) then .call false 210 #[.pointer (some { block := r,off := 0 })] fun v => .unI .u64 v fun n_2 => .blk (bif decide (wrap .i64 (IntKind.wrap .u64 (↑(BitVec.toNat (BitVec.ofInt 64 n_2 &&& BitVec.ofInt 64 (IntKind.wrap .u64 (n - 1)))):Int)) >= wrap .i64 (b - a)) then .leaf (.again [.int .i64 (wrap .i64 (wrap .i64 (IntKind.wrap .u64 (↑(BitVec.toNat (BitVec.ofInt 64 n_2 &&& BitVec.ofInt 64 (IntKind.wrap .u64 (n - 1)))):Int)) - wrap .i64 (b - a)))]) else .leaf (.again [.int .i64 (wrap .i64 (IntKind.wrap .u64 (↑(BitVec.toNat (BitVec.ofInt 64 n_2 &&& BitVec.ofInt 64 (IntKind.wrap .u64 (n - 1)))):Int)))])) (fun vs => .popI .i64 vs fun n vs => .unNil vs (.need (0 <= wrap .i64 (a + n) /\ wrap .i64 (a + n) < (↑datan:Int)) (.someA datap fun a_1 => .loadI .i64 (a_1.add ((wrap .i64 (a + n)).toNat * 1)) fun n_3 => .need (0 <= n_1 /\ n_1 < (↑datan:Int)) (.someA datap fun a_2 => .loadI .i64 (a_2.add (n_1.toNat * 1)) fun n_4 => .need (0 <= n_1 /\ n_1 < (↑datan:Int)) (.someA datap fun a_3 => .store ((a_3.add (n_1.toNat * 1)).add 0) (.int .i64 n_3) (.need (0 <= n_1 /\ n_1 < (↑datan:Int)) (.someA datap fun a_4 => .ne (.pointer (some (a_4.add (n_1.toNat * 1)))) (.pointer (some (a_2.add (n_1.toNat * 1)))) (.nd (.int .i64 n_1) (.nd (.slice datap datan datac) (.nd (.int .i64 (wrap .i64 (a + n))) (.nd (.int .i64 n) (.nd (.int .i64 a) (.nd (.slice datap datan datac) (.need (0 <= wrap .i64 (a + n) /\ wrap .i64 (a + n) < (↑datan:Int)) (.someA datap fun a_5 => .store ((a_5.add ((wrap .i64 (a + n)).toNat * 1)).add 0) (.int .i64 n_4) (.leaf (.again [.int .i64 (wrap .i64 (n_1 + 1))]))))))))))))))))) (fun vs => .popI .i64 vs fun n vs => .unNil vs (.leaf (.retn [.int .i64 n_1]))) fun x x_1 => .fail else .leaf (.brk [.int .i64 n_1])))) (fun vs => .popI .i64 vs fun n vs => .unNil vs (.leaf (.ret (.tuple #[])))) (fun vs => .popI .i64 vs fun n vs => .unNil vs (.leaf (.ret (.tuple #[])))) fun x x_1 => .fail)) else .leaf (.ret (.tuple #[]))
theorem w2107 (datap:Option Addr) (datan datac:Nat) (a b:Int):FX X 195 #[.slice datap datan datac,.int .i64 a,.int .i64 b] h A (n2107 datap datan datac a b) := fk [] [⟨0,[(9,.int .i64)],[],[],[],[]⟩] [⟨10,[(10,.int .i64)],[],[],[],[]⟩] Tryz.f195
noncomputable def n2108 (datap:Option Addr) (datan datac:Nat) (a b:Int):T := .new 3 #[.int .i64 0] fun r => .need ((4:Int) ≠ 0) (.need ((4:Int) ≠ 0) (.need ((4:Int) ≠ 0) (.blk (bif decide (wrap .i64 (b - a) >= 8) then bif decide (wrap .i64 (b - a) >= 50) then .call false 211 #[.slice datap datan datac,.int .i64 (wrap .i64 (a + wrap .i64 (wrap .i64 (Int.tdiv (wrap .i64 (b - a)) 4) * 1))),.pointer (some { block := r,off := 0 })] fun v => .unI .i64 v fun n => .call false 211 #[.slice datap datan datac,.int .i64 (wrap .i64 (a + wrap .i64 (wrap .i64 (Int.tdiv (wrap .i64 (b - a)) 4) * 2))),.pointer (some { block := r,off := 0 })] fun v => .unI .i64 v fun n_1 => .call false 211 #[.slice datap datan datac,.int .i64 (wrap .i64 (a + wrap .i64 (wrap .i64 (Int.tdiv (wrap .i64 (b - a)) 4) * 3))),.pointer (some { block := r,off := 0 })] fun v => .unI .i64 v fun n_2 => .call false 212 #[.slice datap datan datac,.int .i64 n,.int .i64 n_1,.int .i64 n_2,.pointer (some { block := r,off := 0 })] fun v => .unI .i64 v fun n => .leaf (.again [.int .i64 n]) else .call false 212 #[.slice datap datan datac,.int .i64 (wrap .i64 (a + wrap .i64 (wrap .i64 (Int.tdiv (wrap .i64 (b - a)) 4) * 1))),.int .i64 (wrap .i64 (a + wrap .i64 (wrap .i64 (Int.tdiv (wrap .i64 (b - a)) 4) * 2))),.int .i64 (wrap .i64 (a + wrap .i64 (wrap .i64 (Int.tdiv (wrap .i64 (b - a)) 4) * 3))),.pointer (some { block := r,off := 0 })] fun v => .unI .i64 v fun n => .leaf (.again [.int .i64 n]) else .leaf (.again [.int .i64 (wrap .i64 (a + wrap .i64 (wrap .i64 (Int.tdiv (wrap .i64 (b - a)) 4) * 2)))])) (fun vs => .popI .i64 vs fun n vs => .unNil vs (.loadI .i64 { block := r,off := 0 } fun n_1 => bif n_1 == 0 then .leaf (.ret (.tuple #[.int .i64 n,.int .i64 1])) else bif n_1 == 12 then .leaf (.ret (.tuple #[.int .i64 n,.int .i64 2])) else .leaf (.ret (.tuple #[.int .i64 n,.int .i64 0])))) (fun vs => .popI .i64 vs fun n vs => .unNil vs (.leaf (.ret (.tuple #[.int .i64 0,.int .i64 0])))) fun x x_1 => .fail)))
theorem w2108 (datap:Option Addr) (datan datac:Nat) (a b:Int):FX X 196 #[.slice datap datan datac,.int .i64 a,.int .i64 b] h A (n2108 datap datan datac a b) := fk [] [] [⟨12,[(11,.int .i64)],[],[],[],[]⟩] Tryz.f196
noncomputable def n2109 (datap:Option Addr) (datan datac:Nat) (a b:Int):T := .loop [.int .i64 a,.int .i64 (wrap .i64 (b - 1))] (fun vs => .popI .i64 vs fun n vs => .popI .i64 vs fun n_1 vs => .unNil vs (bif decide (n < n_1) then .need (0 <= n_1 /\ n_1 < (↑datan:Int)) (.someA datap fun a => .loadI .i64 (a.add (n_1.toNat * 1)) fun n_2 => .need (0 <= n /\ n < (↑datan:Int)) (.someA datap fun a => .loadI .i64 (a.add (n.toNat * 1)) fun n_3 => .need (0 <= n /\ n < (↑datan:Int)) (.someA datap fun a_1 => .store ((a_1.add (n.toNat * 1)).add 0) (.int .i64 n_2) (.need (0 <= n /\ n < (↑datan:Int)) (.someA datap fun a_2 => .ne (.pointer (some (a_2.add (n.toNat * 1)))) (.pointer (some (a.add (n.toNat * 1)))) (.nd (.int .i64 n) (.nd (.slice datap datan datac) (.nd (.int .i64 n_1) (.nd (.slice datap datan datac) (.need (0 <= n_1 /\ n_1 < (↑datan:Int)) (.someA datap fun a => .store ((a.add (n_1.toNat * 1)).add 0) (.int .i64 n_3) (.leaf (.again [.int .i64 (wrap .i64 (n + 1)),.int .i64 (wrap .i64 (n_1 - 1))]))))))))))))) else .leaf (.brk [.int .i64 n,.int .i64 n_1]))) (fun vs => .popI .i64 vs fun n vs => .popI .i64 vs fun n vs => .unNil vs (.leaf (.ret (.tuple #[])))) (fun vs => .popI .i64 vs fun n vs => .popI .i64 vs fun n vs => .unNil vs (.leaf (.ret (.tuple #[])))) fun x x_1 => .fail
theorem w2109 (datap:Option Addr) (datan datac:Nat) (a b:Int):FX X 197 #[.slice datap datan datac,.int .i64 a,.int .i64 b] h A (n2109 datap datan datac a b) := fk [] [⟨0,[(6,.int .i64),(7,.int .i64)],[],[],[],[]⟩] [] Tryz.f197
noncomputable def n2110 (datap:Option Addr) (datan datac:Nat) (a b:Int):T := .loop [.bool false,.int .i64 (wrap .i64 (a + 1)),.int .i64 0] (fun vs => .popB vs fun b_1 vs => .popI .i64 vs fun n vs => .popI .i64 vs fun n_1 vs => .unNil vs (bif decide (n_1 < 5) then .loop [.int .i64 n] (fun vs => .popI .i64 vs fun n vs => .unNil vs (bif decide (n < b) then .need (0 <= n /\ n < (↑datan:Int)) (.someA datap fun a => .loadI .i64 (a.add (n.toNat * 1)) fun n_2 => .need (0 <= wrap .i64 (n - 1) /\ wrap .i64 (n - 1) < (↑datan:Int)) (.someA datap fun a_1 => .loadI .i64 (a_1.add ((wrap .i64 (n - 1)).toNat * 1)) fun n_3 => .call false 199 #[.int .i64 n_2,.int .i64 n_3] fun v => .unB v fun b_2 => .need (0 <= wrap .i64 (n - 1) /\ wrap .i64 (n - 1) < (↑datan:Int)) (.someA datap fun a_2 => .ne (.pointer (some (a_2.add ((wrap .i64 (n - 1)).toNat * 1)))) (.pointer (some (a_1.add ((wrap .i64 (n - 1)).toNat * 1)))) (.nd (.int .i64 (wrap .i64 (n - 1))) (.nd (.int .i64 n) (.nd (.slice datap datan datac) (.need (0 <= n /\ n < (↑datan:Int)) (.someA datap fun a_3 => .ne (.pointer (some (a_3.add (n.toNat * 1)))) (.pointer (some (a.add (n.toNat * 1)))) (.nd (.int .i64 n) (.nd (.slice datap datan datac) (.nd (.bool (decide (n < b))) (.nd (.int .i64 b) (.nd (.int .i64 n) (bif !b_2 then .leaf (.again [.int .i64 (wrap .i64 (n + 1))]) else .leaf (.brk [.int .i64 n]))))))))))))))) else .nd (.tuple #[]) (.nd (.tuple #[]) (.nd (.tuple #[]) (.nd (.tuple #[]) (.nd (.tuple #[]) (.nd (.bool (decide (n < b))) (.nd (.int .i64 b) (.nd (.int .i64 n) (.nd (.tuple #[]) (.nd (.tuple #[]) (.nd (.tuple #[]) (.nd (.tuple #[]) (.nd (.tuple #[]) (.nd (.bool (decide (n < b))) (.nd (.int .i64 b) (.nd (.int .i64 n) (.nd (.tuple #[]) (.nd (.tuple #[]) (.nd (.tuple #[]) (.nd (.tuple #[]) (.nd (.tuple #[]) (.nd (.bool (decide (n < b))) (.nd (.int .i64 b) (.nd (.int .i64 n) (.leaf (.brk [.int .i64 n]))))))))))))))))))))))))))) (fun vs => .popI .i64 vs fun n vs => .unNil vs (bif n == b then .leaf (.retn [.bool true,.int .i64 n,.int .i64 n_1]) else bif decide (wrap .i64 (b - a) < 50) then .leaf (.retn [.bool false,.int .i64 n,.int .i64 n_1]) else .need (0 <= wrap .i64 (n - 1) /\ wrap .i64 (n - 1) < (↑datan:Int)) (.someA datap fun a_1 => .loadI .i64 (a_1.add ((wrap .i64 (n - 1)).toNat * 1)) fun n_2 => .need (0 <= n /\ n < (↑datan:Int)) (.someA datap fun a_2 => .loadI .i64 (a_2.add (n.toNat * 1)) fun n_3 => .need (0 <= n /\ n < (↑datan:Int)) (.someA datap fun a_3 => .store ((a_3.add (n.toNat * 1)).add 0) (.int .i64 n_2) (.need (0 <= n /\ n < (↑datan:Int)) (.someA datap fun a_4 => .ne (.pointer (some (a_4.add (n.toNat * 1)))) (.pointer (some (a_2.add (n.toNat * 1)))) (.nd (.int .i64 n) (.nd (.slice datap datan datac) (.nd (.int .i64 (wrap .i64 (n - 1))) (.nd (.int .i64 n) (.nd (.slice datap datan datac) (.need (0 <= wrap .i64 (n - 1) /\ wrap .i64 (n - 1) < (↑datan:Int)) (.someA datap fun a_5 => .store ((a_5.add ((wrap .i64 (n - 1)).toNat * 1)).add 0) (.int .i64 n_3) (.blk (bif decide (wrap .i64 (n - a) >= 2) then .loop [.int .i64 (wrap .i64 (n - 1))] (fun vs => .popI .i64 vs fun n vs => .unNil vs (bif decide (n >= 1) then .need (0 <= n /\ n < (↑datan:Int)) (.someA datap fun a => .loadI .i64 (a.add (n.toNat * 1)) fun n_4 => .need (0 <= wrap .i64 (n - 1) /\ wrap .i64 (n - 1) < (↑datan:Int)) (.someA datap fun a_6 => .loadI .i64 (a_6.add ((wrap .i64 (n - 1)).toNat * 1)) fun n_5 => .call false 199 #[.int .i64 n_4,.int .i64 n_5] fun v => .unB v fun b => .need (0 <= wrap .i64 (n - 1) /\ wrap .i64 (n - 1) < (↑datan:Int)) (.someA datap fun a_7 => .ne (.pointer (some (a_7.add ((wrap .i64 (n - 1)).toNat * 1)))) (.pointer (some (a_6.add ((wrap .i64 (n - 1)).toNat * 1)))) (.nd (.int .i64 (wrap .i64 (n - 1))) (.nd (.int .i64 n) (.nd (.slice datap datan datac) (.need (0 <= n /\ n < (↑datan:Int)) (.someA datap fun a_8 => .ne (.pointer (some (a_8.add (n.toNat * 1)))) (.pointer (some (a.add (n.toNat * 1)))) (.nd (.int .i64 n) (.nd (.slice datap datan datac) (bif !b then .leaf (.brk [.int .i64 n]) else .need (0 <= wrap .i64 (n - 1) /\ wrap .i64 (n - 1) < (↑datan:Int)) (.someA datap fun a => .loadI .i64 (a.add ((wrap .i64 (n - 1)).toNat * 1)) fun n_6 => .need (0 <= n /\ n < (↑datan:Int)) (.someA datap fun a => .loadI .i64 (a.add (n.toNat * 1)) fun n_7 => .need (0 <= n /\ n < (↑datan:Int)) (.someA datap fun a_9 => .store ((a_9.add (n.toNat * 1)).add 0) (.int .i64 n_6) (.need (0 <= n /\ n < (↑datan:Int)) (.someA datap fun a_10 => .ne (.pointer (some (a_10.add (n.toNat * 1)))) (.pointer (some (a.add (n.toNat * 1)))) (.nd (.int .i64 n) (.nd (.slice datap datan datac) (.nd (.int .i64 (wrap .i64 (n - 1))) (.nd (.int .i64 n) (.nd (.slice datap datan datac) (.need (0 <= wrap .i64 (n - 1) /\ wrap .i64 (n - 1) < (↑datan:Int)) (.someA datap fun a => .store ((a.add ((wrap .i64 (n - 1)).toNat * 1)).add 0) (.int .i64 n_7) (.leaf (.again [.int .i64 (wrap .i64 (n - 1))]))))))))))))))))))))))))) else .leaf (.brk [.int .i64 n]))) (fun vs => .popI .i64 vs fun n vs => .unNil vs (.leaf (.again []))) (fun vs => .popI .i64 vs fun n vs => .unNil vs (.leaf (.retn []))) fun x x_1 => .fail else .leaf (.again [])) (fun vs => .unNil vs (bif decide (wrap .i64 (b - n) >= 2) then .loop [.int .i64 (wrap .i64 (n + 1))] (fun vs => .popI .i64 vs fun n vs => .unNil vs (bif decide (n < b) then .need (0 <= n /\ n < (↑datan:Int)) (.someA datap fun a => .loadI .i64 (a.add (n.toNat * 1)) fun n_4 => .need (0 <= wrap .i64 (n - 1) /\ wrap .i64 (n - 1) < (↑datan:Int)) (.someA datap fun a_6 => .loadI .i64 (a_6.add ((wrap .i64 (n - 1)).toNat * 1)) fun n_5 => .call false 199 #[.int .i64 n_4,.int .i64 n_5] fun v => .unB v fun b => .need (0 <= wrap .i64 (n - 1) /\ wrap .i64 (n - 1) < (↑datan:Int)) (.someA datap fun a_7 => .ne (.pointer (some (a_7.add ((wrap .i64 (n - 1)).toNat * 1)))) (.pointer (some (a_6.add ((wrap .i64 (n - 1)).toNat * 1)))) (.nd (.int .i64 (wrap .i64 (n - 1))) (.nd (.int .i64 n) (.nd (.slice datap datan datac) (.need (0 <= n /\ n < (↑datan:Int)) (.someA datap fun a_8 => .ne (.pointer (some (a_8.add (n.toNat * 1)))) (.pointer (some (a.add (n.toNat * 1)))) (.nd (.int .i64 n) (.nd (.slice datap datan datac) (bif !b then .leaf (.brk [.int .i64 n]) else .need (0 <= wrap .i64 (n - 1) /\ wrap .i64 (n - 1) < (↑datan:Int)) (.someA datap fun a => .loadI .i64 (a.add ((wrap .i64 (n - 1)).toNat * 1)) fun n_6 => .need (0 <= n /\ n < (↑datan:Int)) (.someA datap fun a => .loadI .i64 (a.add (n.toNat * 1)) fun n_7 => .need (0 <= n /\ n < (↑datan:Int)) (.someA datap fun a_9 => .store ((a_9.add (n.toNat * 1)).add 0) (.int .i64 n_6) (.need (0 <= n /\ n < (↑datan:Int)) (.someA datap fun a_10 => .ne (.pointer (some (a_10.add (n.toNat * 1)))) (.pointer (some (a.add (n.toNat * 1)))) (.nd (.int .i64 n) (.nd (.slice datap datan datac) (.nd (.int .i64 (wrap .i64 (n - 1))) (.nd (.int .i64 n) (.nd (.slice datap datan datac) (.need (0 <= wrap .i64 (n - 1) /\ wrap .i64 (n - 1) < (↑datan:Int)) (.someA datap fun a => .store ((a.add ((wrap .i64 (n - 1)).toNat * 1)).add 0) (.int .i64 n_7) (.leaf (.again [.int .i64 (wrap .i64 (n + 1))]))))))))))))))))))))))))) else .leaf (.brk [.int .i64 n]))) (fun vs => .popI .i64 vs fun n_4 vs => .unNil vs (.leaf (.again [.bool b_1,.int .i64 n,.int .i64 (wrap .i64 (n_1 + 1))]))) (fun vs => .popI .i64 vs fun n_4 vs => .unNil vs (.leaf (.retn [.bool b_1,.int .i64 n,.int .i64 n_1]))) fun x x_1 => .fail else .leaf (.again [.bool b_1,.int .i64 n,.int .i64 (wrap .i64 (n_1 + 1))]))) (fun vs => .unNil vs (.leaf (.retn [.bool b_1,.int .i64 n,.int .i64 n_1]))) fun x x_1 => .fail))))))))))))))) (fun vs => .popI .i64 vs fun n vs => .unNil vs (.leaf (.retn [.bool b_1,.int .i64 n,.int .i64 n_1]))) fun x x_1 => .fail else .leaf (.brk [.bool b_1,.int .i64 n,.int .i64 n_1]))) (fun vs => .popB vs fun b vs => .popI .i64 vs fun n vs => .popI .i64 vs fun n vs => .unNil vs (.leaf (.ret (.bool false)))) (fun vs => .popB vs fun b vs => .popI .i64 vs fun n vs => .popI .i64 vs fun n vs => .unNil vs (.leaf (.ret (.bool b)))) fun x x_1 => .fail
theorem w2110 (datap:Option Addr) (datan datac:Nat) (a b:Int):FX X 198 #[.slice datap datan datac,.int .i64 a,.int .i64 b] h A (n2110 datap datan datac a b) := fk [] [⟨2,[(7,.int .i64)],[],[],[],[]⟩,⟨4,[(9,.int .i64)],[],[],[],[]⟩,⟨6,[(10,.int .i64)],[],[],[],[]⟩,⟨0,[(6,.bool),(7,.int .i64),(8,.int .i64)],[],[],[],[]⟩] [⟨18,[],[],[],[],[]⟩] Tryz.f198
noncomputable def n2112 (datap:Option Addr) (datan datac:Nat) (a b pivot:Int):T := .need (0 <= pivot /\ pivot < (↑datan:Int)) (.someA datap fun a_1 => .loadI .i64 (a_1.add (pivot.toNat * 1)) fun n => .need (0 <= a /\ a < (↑datan:Int)) (.someA datap fun a_2 => .loadI .i64 (a_2.add (a.toNat * 1)) fun n_1 => .need (0 <= a /\ a < (↑datan:Int)) (.someA datap fun a_3 => .store ((a_3.add (a.toNat * 1)).add 0) (.int .i64 n) (.need (0 <= a /\ a < (↑datan:Int)) (.someA datap fun a_4 => .ne (.pointer (some (a_4.add (a.toNat * 1)))) (.pointer (some (a_2.add (a.toNat * 1)))) (.nd (.int .i64 a) (.nd (.slice datap datan datac) (.nd (.int .i64 pivot) (.nd (.slice datap datan datac) (.need (0 <= pivot /\ pivot < (↑datan:Int)) (.someA datap fun a_5 => .store ((a_5.add (pivot.toNat * 1)).add 0) (.int .i64 n_1) (.loop [.int .i64 (wrap .i64 (a + 1)),.int .i64 (wrap .i64 (b - 1))] (fun vs => .popI .i64 vs fun n vs => .popI .i64 vs fun n_2 vs => .unNil vs (.loop [.int .i64 n] (fun vs => .popI .i64 vs fun n vs => .unNil vs (bif decide (n <= n_2) then .need (0 <= a /\ a < (↑datan:Int)) (.someA datap fun a_6 => .loadI .i64 (a_6.add (a.toNat * 1)) fun n_3 => .need (0 <= n /\ n < (↑datan:Int)) (.someA datap fun a_7 => .loadI .i64 (a_7.add (n.toNat * 1)) fun n_4 => .call false 199 #[.int .i64 n_3,.int .i64 n_4] fun v => .unB v fun b => .need (0 <= n /\ n < (↑datan:Int)) (.someA datap fun a_8 => .ne (.pointer (some (a_8.add (n.toNat * 1)))) (.pointer (some (a_7.add (n.toNat * 1)))) (.nd (.int .i64 n) (.nd (.slice datap datan datac) (.need (0 <= a /\ a < (↑datan:Int)) (.someA datap fun a_9 => .ne (.pointer (some (a_9.add (a.toNat * 1)))) (.pointer (some (a_6.add (a.toNat * 1)))) (.nd (.int .i64 a) (.nd (.slice datap datan datac) (.nd (.bool (decide (n <= n_2))) (.nd (.int .i64 n_2) (.nd (.int .i64 n) (bif !b then .leaf (.again [.int .i64 (wrap .i64 (n + 1))]) else .leaf (.brk [.int .i64 n])))))))))))))) else .nd (.tuple #[]) (.nd (.tuple #[]) (.nd (.tuple #[]) (.nd (.tuple #[]) (.nd (.tuple #[]) (.nd (.tuple #[]) (.nd (.bool (decide (n <= n_2))) (.nd (.int .i64 n_2) (.nd (.int .i64 n) (.nd (.tuple #[]) (.nd (.tuple #[]) (.nd (.tuple #[]) (.nd (.tuple #[]) (.nd (.tuple #[]) (.nd (.tuple #[]) (.nd (.bool (decide (n <= n_2))) (.nd (.int .i64 n_2) (.nd (.int .i64 n) (.leaf (.brk [.int .i64 n]))))))))))))))))))))) (fun vs => .popI .i64 vs fun n vs => .unNil vs (.loop [.int .i64 n_2] (fun vs => .popI .i64 vs fun n_3 vs => .unNil vs (bif decide (n <= n_3) then .need (0 <= a /\ a < (↑datan:Int)) (.someA datap fun a_6 => .loadI .i64 (a_6.add (a.toNat * 1)) fun n_4 => .need (0 <= n_3 /\ n_3 < (↑datan:Int)) (.someA datap fun a_7 => .loadI .i64 (a_7.add (n_3.toNat * 1)) fun n_5 => .call false 199 #[.int .i64 n_4,.int .i64 n_5] fun v => .unB v fun b => .need (0 <= n_3 /\ n_3 < (↑datan:Int)) (.someA datap fun a_8 => .ne (.pointer (some (a_8.add (n_3.toNat * 1)))) (.pointer (some (a_7.add (n_3.toNat * 1)))) (.nd (.int .i64 n_3) (.nd (.slice datap datan datac) (.need (0 <= a /\ a < (↑datan:Int)) (.someA datap fun a_9 => .ne (.pointer (some (a_9.add (a.toNat * 1)))) (.pointer (some (a_6.add (a.toNat * 1)))) (.nd (.int .i64 a) (.nd (.slice datap datan datac) (.nd (.bool (decide (n <= n_3))) (.nd (.int .i64 n_3) (.nd (.int .i64 n) (bif b then .leaf (.again [.int .i64 (wrap .i64 (n_3 - 1))]) else .leaf (.brk [.int .i64 n_3])))))))))))))) else .nd (.tuple #[]) (.nd (.tuple #[]) (.nd (.tuple #[]) (.nd (.tuple #[]) (.nd (.tuple #[]) (.nd (.tuple #[]) (.nd (.bool (decide (n <= n_3))) (.nd (.int .i64 n_3) (.nd (.int .i64 n) (.leaf (.brk [.int .i64 n_3])))))))))))) (fun vs => .popI .i64 vs fun n_3 vs => .unNil vs (bif decide (n > n_3) then .leaf (.brk [.int .i64 n,.int .i64 n_3]) else .need (0 <= n_3 /\ n_3 < (↑datan:Int)) (.someA datap fun a => .loadI .i64 (a.add (n_3.toNat * 1)) fun n_4 => .need (0 <= n /\ n < (↑datan:Int)) (.someA datap fun a => .loadI .i64 (a.add (n.toNat * 1)) fun n_5 => .need (0 <= n /\ n < (↑datan:Int)) (.someA datap fun a_6 => .store ((a_6.add (n.toNat * 1)).add 0) (.int .i64 n_4) (.need (0 <= n /\ n < (↑datan:Int)) (.someA datap fun a_7 => .ne (.pointer (some (a_7.add (n.toNat * 1)))) (.pointer (some (a.add (n.toNat * 1)))) (.nd (.int .i64 n) (.nd (.slice datap datan datac) (.nd (.int .i64 n_3) (.nd (.slice datap datan datac) (.need (0 <= n_3 /\ n_3 < (↑datan:Int)) (.someA datap fun a => .store ((a.add (n_3.toNat * 1)).add 0) (.int .i64 n_5) (.leaf (.again [.int .i64 (wrap .i64 (n + 1)),.int .i64 (wrap .i64 (n_3 - 1))]))))))))))))))) (fun vs => .popI .i64 vs fun n_3 vs => .unNil vs (.leaf (.retn [.int .i64 n,.int .i64 n_3]))) fun x x_1 => .fail)) (fun vs => .popI .i64 vs fun n vs => .unNil vs (.leaf (.retn [.int .i64 n,.int .i64 n_2]))) fun x x_1 => .fail)) (fun vs => .popI .i64 vs fun n vs => .popI .i64 vs fun n_2 vs => .unNil vs (.leaf (.ret (.int .i64 n)))) (fun vs => .popI .i64 vs fun n vs => .popI .i64 vs fun n vs => .unNil vs (.leaf (.ret (.int .i64 0)))) fun x x_1 => .fail))))))))))))
theorem w2112 (datap:Option Addr) (datan datac:Nat) (a b pivot:Int):FX X 200 #[.slice datap datan datac,.int .i64 a,.int .i64 b,.int .i64 pivot] h A (n2112 datap datan datac a b pivot) := fk [] [⟨2,[(9,.int .i64)],[],[],[],[]⟩,⟨4,[(10,.int .i64)],[],[],[],[]⟩,⟨0,[(9,.int .i64),(10,.int .i64)],[],[],[],[]⟩] [] Tryz.f200
noncomputable def n2113 (datap:Option Addr) (datan datac:Nat) (a b pivot:Int):T := .need (0 <= pivot /\ pivot < (↑datan:Int)) (.someA datap fun a_1 => .loadI .i64 (a_1.add (pivot.toNat * 1)) fun n => .need (0 <= a /\ a < (↑datan:Int)) (.someA datap fun a_2 => .loadI .i64 (a_2.add (a.toNat * 1)) fun n_1 => .need (0 <= a /\ a < (↑datan:Int)) (.someA datap fun a_3 => .store ((a_3.add (a.toNat * 1)).add 0) (.int .i64 n) (.need (0 <= a /\ a < (↑datan:Int)) (.someA datap fun a_4 => .ne (.pointer (some (a_4.add (a.toNat * 1)))) (.pointer (some (a_2.add (a.toNat * 1)))) (.nd (.int .i64 a) (.nd (.slice datap datan datac) (.nd (.int .i64 pivot) (.nd (.slice datap datan datac) (.need (0 <= pivot /\ pivot < (↑datan:Int)) (.someA datap fun a_5 => .store ((a_5.add (pivot.toNat * 1)).add 0) (.int .i64 n_1) (.loop [.int .i64 (wrap .i64 (a + 1))] (fun vs => .popI .i64 vs fun n vs => .unNil vs (bif decide (n <= wrap .i64 (b - 1)) then .need (0 <= n /\ n < (↑datan:Int)) (.someA datap fun a_6 => .loadI .i64 (a_6.add (n.toNat * 1)) fun n_2 => .need (0 <= a /\ a < (↑datan:Int)) (.someA datap fun a_7 => .loadI .i64 (a_7.add (a.toNat * 1)) fun n_3 => .call false 199 #[.int .i64 n_2,.int .i64 n_3] fun v => .unB v fun b_1 => .need (0 <= a /\ a < (↑datan:Int)) (.someA datap fun a_8 => .ne (.pointer (some (a_8.add (a.toNat * 1)))) (.pointer (some (a_7.add (a.toNat * 1)))) (.nd (.int .i64 a) (.nd (.slice datap datan datac) (.need (0 <= n /\ n < (↑datan:Int)) (.someA datap fun a => .ne (.pointer (some (a.add (n.toNat * 1)))) (.pointer (some (a_6.add (n.toNat * 1)))) (.nd (.int .i64 n) (.nd (.slice datap datan datac) (.nd (.bool (decide (n <= wrap .i64 (b - 1)))) (.nd (.int .i64 (wrap .i64 (b - 1))) (.nd (.int .i64 n) (bif b_1 then .leaf (.again [.int .i64 (wrap .i64 (n + 1))]) else .leaf (.brk [.int .i64 n])))))))))))))) else .nd (.tuple #[]) (.nd (.tuple #[]) (.nd (.tuple #[]) (.nd (.tuple #[]) (.nd (.tuple #[]) (.nd (.tuple #[]) (.nd (.bool (decide (n <= wrap .i64 (b - 1)))) (.nd (.int .i64 (wrap .i64 (b - 1))) (.nd (.int .i64 n) (.leaf (.brk [.int .i64 n])))))))))))) (fun vs => .popI .i64 vs fun n vs => .unNil vs (.loop [.int .i64 (wrap .i64 (b - 1))] (fun vs => .popI .i64 vs fun n_2 vs => .unNil vs (bif decide (n <= n_2) then .need (0 <= n_2 /\ n_2 < (↑datan:Int)) (.someA datap fun a_6 => .loadI .i64 (a_6.add (n_2.toNat * 1)) fun n_3 => .need (0 <= a /\ a < (↑datan:Int)) (.someA datap fun a_7 => .loadI .i64 (a_7.add (a.toNat * 1)) fun n_4 => .call false 199 #[.int .i64 n_3,.int .i64 n_4] fun v => .unB v fun b => .need (0 <= a /\ a < (↑datan:Int)) (.someA datap fun a_8 => .ne (.pointer (some (a_8.add (a.toNat * 1)))) (.pointer (some (a_7.add (a.toNat * 1)))) (.nd (.int .i64 a) (.nd (.slice datap datan datac) (.need (0 <= n_2 /\ n_2 < (↑datan:Int)) (.someA datap fun a => .ne (.pointer (some (a.add (n_2.toNat * 1)))) (.pointer (some (a_6.add (n_2.toNat * 1)))) (.nd (.int .i64 n_2) (.nd (.slice datap datan datac) (.nd (.bool (decide (n <= n_2))) (.nd (.int .i64 n_2) (.nd (.int .i64 n) (bif !b then .leaf (.again [.int .i64 (wrap .i64 (n_2 - 1))]) else .leaf (.brk [.int .i64 n_2])))))))))))))) else .nd (.tuple #[]) (.nd (.tuple #[]) (.nd (.tuple #[]) (.nd (.tuple #[]) (.nd (.tuple #[]) (.nd (.tuple #[]) (.nd (.bool (decide (n <= n_2))) (.nd (.int .i64 n_2) (.nd (.int .i64 n) (.nd (.tuple #[]) (.nd (.tuple #[]) (.nd (.tuple #[]) (.nd (.tuple #[]) (.nd (.tuple #[]) (.nd (.tuple #[]) (.nd (.bool (decide (n <= n_2))) (.nd (.int .i64 n_2) (.nd (.int .i64 n) (.leaf (.brk [.int .i64 n_2]))))))))))))))))))))) (fun vs => .popI .i64 vs fun n_2 vs => .unNil vs (bif decide (n > n_2) then .need (0 <= a /\ a < (↑datan:Int)) (.someA datap fun a_6 => .loadI .i64 (a_6.add (a.toNat * 1)) fun n => .need (0 <= n_2 /\ n_2 < (↑datan:Int)) (.someA datap fun a_7 => .loadI .i64 (a_7.add (n_2.toNat * 1)) fun n_3 => .need (0 <= n_2 /\ n_2 < (↑datan:Int)) (.someA datap fun a_8 => .store ((a_8.add (n_2.toNat * 1)).add 0) (.int .i64 n) (.need (0 <= n_2 /\ n_2 < (↑datan:Int)) (.someA datap fun a_9 => .ne (.pointer (some (a_9.add (n_2.toNat * 1)))) (.pointer (some (a_7.add (n_2.toNat * 1)))) (.nd (.int .i64 n_2) (.nd (.slice datap datan datac) (.nd (.int .i64 a) (.nd (.slice datap datan datac) (.need (0 <= a /\ a < (↑datan:Int)) (.someA datap fun a_10 => .store ((a_10.add (a.toNat * 1)).add 0) (.int .i64 n_3) (.leaf (.ret (.tuple #[.int .i64 n_2,.bool true])))))))))))))) else .need (0 <= n_2 /\ n_2 < (↑datan:Int)) (.someA datap fun a_6 => .loadI .i64 (a_6.add (n_2.toNat * 1)) fun n_3 => .need (0 <= n /\ n < (↑datan:Int)) (.someA datap fun a_7 => .loadI .i64 (a_7.add (n.toNat * 1)) fun n_4 => .need (0 <= n /\ n < (↑datan:Int)) (.someA datap fun a_8 => .store ((a_8.add (n.toNat * 1)).add 0) (.int .i64 n_3) (.need (0 <= n /\ n < (↑datan:Int)) (.someA datap fun a_9 => .ne (.pointer (some (a_9.add (n.toNat * 1)))) (.pointer (some (a_7.add (n.toNat * 1)))) (.nd (.int .i64 n) (.nd (.slice datap datan datac) (.nd (.int .i64 n_2) (.nd (.slice datap datan datac) (.need (0 <= n_2 /\ n_2 < (↑datan:Int)) (.someA datap fun a_10 => .store ((a_10.add (n_2.toNat * 1)).add 0) (.int .i64 n_4) (.loop [.int .i64 (wrap .i64 (n + 1)),.int .i64 (wrap .i64 (n_2 - 1))] (fun vs => .popI .i64 vs fun n vs => .popI .i64 vs fun n_5 vs => .unNil vs (.loop [.int .i64 n] (fun vs => .popI .i64 vs fun n vs => .unNil vs (bif decide (n <= n_5) then .need (0 <= n /\ n < (↑datan:Int)) (.someA datap fun a_11 => .loadI .i64 (a_11.add (n.toNat * 1)) fun n_6 => .need (0 <= a /\ a < (↑datan:Int)) (.someA datap fun a_12 => .loadI .i64 (a_12.add (a.toNat * 1)) fun n_7 => .call false 199 #[.int .i64 n_6,.int .i64 n_7] fun v => .unB v fun b => .need (0 <= a /\ a < (↑datan:Int)) (.someA datap fun a_13 => .ne (.pointer (some (a_13.add (a.toNat * 1)))) (.pointer (some (a_12.add (a.toNat * 1)))) (.nd (.int .i64 a) (.nd (.slice datap datan datac) (.need (0 <= n /\ n < (↑datan:Int)) (.someA datap fun a => .ne (.pointer (some (a.add (n.toNat * 1)))) (.pointer (some (a_11.add (n.toNat * 1)))) (.nd (.int .i64 n) (.nd (.slice datap datan datac) (.nd (.bool (decide (n <= n_5))) (.nd (.int .i64 n_5) (.nd (.int .i64 n) (bif b then .leaf (.again [.int .i64 (wrap .i64 (n + 1))]) else .leaf (.brk [.int .i64 n])))))))))))))) else .nd (.tuple #[]) (.nd (.tuple #[]) (.nd (.tuple #[]) (.nd (.tuple #[]) (.nd (.tuple #[]) (.nd (.tuple #[]) (.nd (.bool (decide (n <= n_5))) (.nd (.int .i64 n_5) (.nd (.int .i64 n) (.leaf (.brk [.int .i64 n])))))))))))) (fun vs => .popI .i64 vs fun n vs => .unNil vs (.loop [.int .i64 n_5] (fun vs => .popI .i64 vs fun n_6 vs => .unNil vs (bif decide (n <= n_6) then .need (0 <= n_6 /\ n_6 < (↑datan:Int)) (.someA datap fun a_11 => .loadI .i64 (a_11.add (n_6.toNat * 1)) fun n_7 => .need (0 <= a /\ a < (↑datan:Int)) (.someA datap fun a_12 => .loadI .i64 (a_12.add (a.toNat * 1)) fun n_8 => .call false 199 #[.int .i64 n_7,.int .i64 n_8] fun v => .unB v fun b => .need (0 <= a /\ a < (↑datan:Int)) (.someA datap fun a_13 => .ne (.pointer (some (a_13.add (a.toNat * 1)))) (.pointer (some (a_12.add (a.toNat * 1)))) (.nd (.int .i64 a) (.nd (.slice datap datan datac) (.need (0 <= n_6 /\ n_6 < (↑datan:Int)) (.someA datap fun a => .ne (.pointer (some (a.add (n_6.toNat * 1)))) (.pointer (some (a_11.add (n_6.toNat * 1)))) (.nd (.int .i64 n_6) (.nd (.slice datap datan datac) (.nd (.bool (decide (n <= n_6))) (.nd (.int .i64 n_6) (.nd (.int .i64 n) (bif !b then .leaf (.again [.int .i64 (wrap .i64 (n_6 - 1))]) else .leaf (.brk [.int .i64 n_6])))))))))))))) else .nd (.tuple #[]) (.nd (.tuple #[]) (.nd (.tuple #[]) (.nd (.tuple #[]) (.nd (.tuple #[]) (.nd (.tuple #[]) (.nd (.bool (decide (n <= n_6))) (.nd (.int .i64 n_6) (.nd (.int .i64 n) (.nd (.tuple #[]) (.nd (.tuple #[]) (.nd (.tuple #[]) (.nd (.tuple #[]) (.nd (.tuple #[]) (.nd (.tuple #[]) (.nd (.bool (decide (n <= n_6))) (.nd (.int .i64 n_6) (.nd (.int .i64 n) (.leaf (.brk [.int .i64 n_6]))))))))))))))))))))) (fun vs => .popI .i64 vs fun n_6 vs => .unNil vs (bif decide (n > n_6) then .leaf (.brk [.int .i64 n,.int .i64 n_6]) else .need (0 <= n_6 /\ n_6 < (↑datan:Int)) (.someA datap fun a => .loadI .i64 (a.add (n_6.toNat * 1)) fun n_7 => .need (0 <= n /\ n < (↑datan:Int)) (.someA datap fun a => .loadI .i64 (a.add (n.toNat * 1)) fun n_8 => .need (0 <= n /\ n < (↑datan:Int)) (.someA datap fun a_11 => .store ((a_11.add (n.toNat * 1)).add 0) (.int .i64 n_7) (.need (0 <= n /\ n < (↑datan:Int)) (.someA datap fun a_12 => .ne (.pointer (some (a_12.add (n.toNat * 1)))) (.pointer (some (a.add (n.toNat * 1)))) (.nd (.int .i64 n) (.nd (.slice datap datan datac) (.nd (.int .i64 n_6) (.nd (.slice datap datan datac) (.need (0 <= n_6 /\ n_6 < (↑datan:Int)) (.someA datap fun a => .store ((a.add (n_6.toNat * 1)).add 0) (.int .i64 n_8) (.leaf (.again [.int .i64 (wrap .i64 (n + 1)),.int .i64 (wrap .i64 (n_6 - 1))]))))))))))))))) (fun vs => .popI .i64 vs fun n_6 vs => .unNil vs (.leaf (.retn [.int .i64 n,.int .i64 n_6]))) fun x x_1 => .fail)) (fun vs => .popI .i64 vs fun n vs => .unNil vs (.leaf (.retn [.int .i64 n,.int .i64 n_5]))) fun x x_1 => .fail)) (fun vs => .popI .i64 vs fun n vs => .popI .i64 vs fun n vs => .unNil vs (.need (0 <= a /\ a < (↑datan:Int)) (.someA datap fun a_11 => .loadI .i64 (a_11.add (a.toNat * 1)) fun n_5 => .need (0 <= n /\ n < (↑datan:Int)) (.someA datap fun a_12 => .loadI .i64 (a_12.add (n.toNat * 1)) fun n_6 => .need (0 <= n /\ n < (↑datan:Int)) (.someA datap fun a_13 => .store ((a_13.add (n.toNat * 1)).add 0) (.int .i64 n_5) (.need (0 <= n /\ n < (↑datan:Int)) (.someA datap fun a_14 => .ne (.pointer (some (a_14.add (n.toNat * 1)))) (.pointer (some (a_12.add (n.toNat * 1)))) (.nd (.int .i64 n) (.nd (.slice datap datan datac) (.nd (.int .i64 a) (.nd (.slice datap datan datac) (.need (0 <= a /\ a < (↑datan:Int)) (.someA datap fun a_15 => .store ((a_15.add (a.toNat * 1)).add 0) (.int .i64 n_6) (.leaf (.ret (.tuple #[.int .i64 n,.bool false])))))))))))))))) (fun vs => .popI .i64 vs fun n vs => .popI .i64 vs fun n vs => .unNil vs (.leaf (.ret (.tuple #[.int .i64 0,.bool false])))) fun x x_1 => .fail)))))))))))))) (fun vs => .popI .i64 vs fun n vs => .unNil vs (.leaf (.ret (.tuple #[.int .i64 0,.bool false])))) fun x x_1 => .fail)) (fun vs => .popI .i64 vs fun n vs => .unNil vs (.leaf (.ret (.tuple #[.int .i64 0,.bool false])))) fun x x_1 => .fail))))))))))))
theorem w2113 (datap:Option Addr) (datan datac:Nat) (a b pivot:Int):FX X 201 #[.slice datap datan datac,.int .i64 a,.int .i64 b,.int .i64 pivot] h A (n2113 datap datan datac a b pivot) := fk [] [⟨0,[(10,.int .i64)],[],[],[],[]⟩,⟨2,[(11,.int .i64)],[],[],[],[]⟩,⟨6,[(10,.int .i64)],[],[],[],[]⟩,⟨8,[(11,.int .i64)],[],[],[],[]⟩,⟨4,[(10,.int .i64),(11,.int .i64)],[],[],[],[]⟩] [] Tryz.f201
noncomputable def n2116 (datap:Option Addr) (datan datac:Nat) (lo hi first:Int):T := .loop [.int .i64 lo] (fun vs => .popI .i64 vs fun n vs => .unNil vs (bif decide (wrap .i64 (wrap .i64 (2 * n) + 1) >= hi) then .leaf (.brk [.int .i64 n]) else .blk (bif decide (wrap .i64 (wrap .i64 (wrap .i64 (2 * n) + 1) + 1) < hi) then .need (0 <= wrap .i64 (first + wrap .i64 (wrap .i64 (2 * n) + 1)) /\ wrap .i64 (first + wrap .i64 (wrap .i64 (2 * n) + 1)) < (↑datan:Int)) (.someA datap fun a => .loadI .i64 (a.add ((wrap .i64 (first + wrap .i64 (wrap .i64 (2 * n) + 1))).toNat * 1)) fun n_1 => .need (0 <= wrap .i64 (wrap .i64 (first + wrap .i64 (wrap .i64 (2 * n) + 1)) + 1) /\ wrap .i64 (wrap .i64 (first + wrap .i64 (wrap .i64 (2 * n) + 1)) + 1) < (↑datan:Int)) (.someA datap fun a_1 => .loadI .i64 (a_1.add ((wrap .i64 (wrap .i64 (first + wrap .i64 (wrap .i64 (2 * n) + 1)) + 1)).toNat * 1)) fun n_2 => .call false 199 #[.int .i64 n_1,.int .i64 n_2] fun v => .unB v fun b => .need (0 <= wrap .i64 (wrap .i64 (first + wrap .i64 (wrap .i64 (2 * n) + 1)) + 1) /\ wrap .i64 (wrap .i64 (first + wrap .i64 (wrap .i64 (2 * n) + 1)) + 1) < (↑datan:Int)) (.someA datap fun a_2 => .ne (.pointer (some (a_2.add ((wrap .i64 (wrap .i64 (first + wrap .i64 (wrap .i64 (2 * n) + 1)) + 1)).toNat * 1)))) (.pointer (some (a_1.add ((wrap .i64 (wrap .i64 (first + wrap .i64 (wrap .i64 (2 * n) + 1)) + 1)).toNat * 1)))) (.nd (.int .i64 (wrap .i64 (wrap .i64 (first + wrap .i64 (wrap .i64 (2 * n) + 1)) + 1))) (.nd (.int .i64 (wrap .i64 (first + wrap .i64 (wrap .i64 (2 * n) + 1)))) (.nd (.int .i64 (wrap .i64 (wrap .i64 (2 * n) + 1))) (.nd (.int .i64 first) (.nd (.slice datap datan datac) (.need (0 <= wrap .i64 (first + wrap .i64 (wrap .i64 (2 * n) + 1)) /\ wrap .i64 (first + wrap .i64 (wrap .i64 (2 * n) + 1)) < (↑datan:Int)) (.someA datap fun a_3 => .ne (.pointer (some (a_3.add ((wrap .i64 (first + wrap .i64 (wrap .i64 (2 * n) + 1))).toNat * 1)))) (.pointer (some (a.add ((wrap .i64 (first + wrap .i64 (wrap .i64 (2 * n) + 1))).toNat * 1)))) (.nd (.int .i64 (wrap .i64 (first + wrap .i64 (wrap .i64 (2 * n) + 1)))) (.nd (.int .i64 (wrap .i64 (wrap .i64 (2 * n) + 1))) (.nd (.int .i64 first) (.nd (.slice datap datan datac) (.nd (.bool (decide (wrap .i64 (wrap .i64 (wrap .i64 (2 * n) + 1) + 1) < hi))) (.nd (.int .i64 hi) (.nd (.int .i64 (wrap .i64 (wrap .i64 (wrap .i64 (2 * n) + 1) + 1))) (.nd (.int .i64 (wrap .i64 (wrap .i64 (2 * n) + 1))) (bif b then .leaf (.again [.int .i64 (wrap .i64 (wrap .i64 (wrap .i64 (2 * n) + 1) + 1))]) else .leaf (.again [.int .i64 (wrap .i64 (wrap .i64 (2 * n) + 1))])))))))))))))))))))) else .both (.nd (.tuple #[]) (.nd (.tuple #[]) (.nd (.tuple #[]) (.nd (.tuple #[]) (.nd (.bool (decide (wrap .i64 (wrap .i64 (wrap .i64 (2 * n) + 1) + 1) < hi))) (.nd (.int .i64 hi) (.nd (.int .i64 (wrap .i64 (wrap .i64 (wrap .i64 (2 * n) + 1) + 1))) (.nd (.int .i64 (wrap .i64 (wrap .i64 (2 * n) + 1))) (.nd (.tuple #[]) (.nd (.tuple #[]) (.nd (.tuple #[]) (.nd (.tuple #[]) (.nd (.bool (decide (wrap .i64 (wrap .i64 (wrap .i64 (2 * n) + 1) + 1) < hi))) (.nd (.int .i64 hi) (.nd (.int .i64 (wrap .i64 (wrap .i64 (wrap .i64 (2 * n) + 1) + 1))) (.nd (.int .i64 (wrap .i64 (wrap .i64 (2 * n) + 1))) (.nd (.tuple #[]) (.nd (.tuple #[]) (.nd (.tuple #[]) (.nd (.tuple #[]) (.nd (.bool (decide (wrap .i64 (wrap .i64 (wrap .i64 (2 * n) + 1) + 1) < hi))) (.nd (.int .i64 hi) (.nd (.int .i64 (wrap .i64 (wrap .i64 (wrap .i64 (2 * n) + 1) + 1))) (.nd (.int .i64 (wrap .i64 (wrap .i64 (2 * n) + 1))) (.nd (.tuple #[]) (.nd (.tuple #[]) (.nd (.tuple #[]) (.nd (.tuple #[]) (.nd (.bool (decide (wrap .i64 (wrap .i64 (wrap .i64 (2 * n) + 1) + 1) < hi))) (.nd (.int .i64 hi) (.nd (.int .i64 (wrap .i64 (wrap .i64 (wrap .i64 (2 * n) + 1) + 1))) (.nd (.int .i64 (wrap .i64 (wrap .i64 (2 * n) + 1))) (.leaf (.again [.int .i64 (wrap .i64 (wrap .i64 (2 * n) + 1))])))))))))))))))))))))))))))))))))) (.nd (.tuple #[]) (.nd (.tuple #[]) (.nd (.tuple #[]) (.nd (.tuple #[]) (.nd (.bool (decide (wrap .i64 (wrap .i64 (wrap .i64 (2 * n) + 1) + 1) < hi))) (.nd (.int .i64 hi) (.nd (.int .i64 (wrap .i64 (wrap .i64 (wrap .i64 (2 * n) + 1) + 1))) (.nd (.int .i64 (wrap .i64 (wrap .i64 (2 * n) + 1))) (.both (.nd (.tuple #[]) (.nd (.tuple #[]) (.nd (.bool (decide (wrap .i64 (wrap .i64 (wrap .i64 (2 * n) + 1) + 1) < hi))) (.nd (.int .i64 hi) (.nd (.int .i64 (wrap .i64 (wrap .i64 (wrap .i64 (2 * n) + 1) + 1))) (.nd (.int .i64 (wrap .i64 (wrap .i64 (2 * n) + 1))) (.nd (.tuple #[]) (.nd (.tuple #[]) (.nd (.tuple #[]) (.nd (.tuple #[]) (.nd (.bool (decide (wrap .i64 (wrap .i64 (wrap .i64 (2 * n) + 1) + 1) < hi))) (.nd (.int .i64 hi) (.nd (.int .i64 (wrap .i64 (wrap .i64 (wrap .i64 (2 * n) + 1) + 1))) (.nd (.int .i64 (wrap .i64 (wrap .i64 (2 * n) + 1))) (.nd (.tuple #[]) (.nd (.tuple #[]) (.nd (.tuple #[]) (.nd (.tuple #[]) (.nd (.bool (decide (wrap .i64 (wrap .i64 (wrap .i64 (2 * n) + 1) + 1) < hi))) (.nd (.int .i64 hi) (.nd (.int .i64 (wrap .i64 (wrap .i64 (wrap .i64 (2 * n) + 1) + 1))) (.nd (.int .i64 (wrap .i64 (wrap .i64 (2 * n) + 1))) (.leaf (.again [.int .i64 (wrap .i64 (wrap .i64 (2 * n) + 1))])))))))))))))))))))))))) (.nd (.tuple #[]) (.nd (.tuple #[]) (.nd (.tuple #[]) (.nd (.tuple #[]) (.nd (.bool (decide (wrap .i64 (wrap .i64 (wrap .i64 (2 * n) + 1) + 1) < hi))) (.nd (.int .i64 hi) (.nd (.int .i64 (wrap .i64 (wrap .i64 (wrap .i64 (2 * n) + 1) + 1))) (.nd (.int .i64 (wrap .i64 (wrap .i64 (2 * n) + 1))) (.nd (.tuple #[]) (.nd (.tuple #[]) (.nd (.tuple #[]) (.nd (.tuple #[]) (.nd (.bool (decide (wrap .i64 (wrap .i64 (wrap .i64 (2 * n) + 1) + 1) < hi))) (.nd (.int .i64 hi) (.nd (.int .i64 (wrap .i64 (wrap .i64 (wrap .i64 (2 * n) + 1) + 1))) (.nd (.int .i64 (wrap .i64 (wrap .i64 (2 * n) + 1))) (.nd (.tuple #[]) (.nd (.tuple #[]) (.nd (.tuple #[]) (.nd (.tuple #[]) (.nd (.bool (decide (wrap .i64 (wrap .i64 (wrap .i64 (2 * n) + 1) + 1) < hi))) (.nd (.int .i64 hi) (.nd (.int .i64 (wrap .i64 (wrap .i64 (wrap .i64 (2 * n) + 1) + 1))) (.nd (.int .i64 (wrap .i64 (wrap .i64 (2 * n) + 1))) (.leaf (.again [.int .i64 (wrap .i64 (wrap .i64 (2 * n) + 1))])))))))))))))))))))))))))))))))))))) (fun vs => .popI .i64 vs fun n_1 vs => .unNil vs (.need (0 <= wrap .i64 (first + n) /\ wrap .i64 (first + n) < (↑datan:Int)) (.someA datap fun a => .loadI .i64 (a.add ((wrap .i64 (first + n)).toNat * 1)) fun n_2 => .need (0 <= wrap .i64 (first + n_1) /\ wrap .i64 (first + n_1) < (↑datan:Int)) (.someA datap fun a_1 => .loadI .i64 (a_1.add ((wrap .i64 (first + n_1)).toNat * 1)) fun n_3 => .call false 199 #[.int .i64 n_2,.int .i64 n_3] fun v => .unB v fun b => .need (0 <= wrap .i64 (first + n_1) /\ wrap .i64 (first + n_1) < (↑datan:Int)) (.someA datap fun a_2 => .ne (.pointer (some (a_2.add ((wrap .i64 (first + n_1)).toNat * 1)))) (.pointer (some (a_1.add ((wrap .i64 (first + n_1)).toNat * 1)))) (.nd (.int .i64 (wrap .i64 (first + n_1))) (.nd (.int .i64 n_1) (.nd (.int .i64 first) (.nd (.slice datap datan datac) (.need (0 <= wrap .i64 (first + n) /\ wrap .i64 (first + n) < (↑datan:Int)) (.someA datap fun a_3 => .ne (.pointer (some (a_3.add ((wrap .i64 (first + n)).toNat * 1)))) (.pointer (some (a.add ((wrap .i64 (first + n)).toNat * 1)))) (.nd (.int .i64 (wrap .i64 (first + n))) (.nd (.int .i64 n) (.nd (.int .i64 first) (.nd (.slice datap datan datac) (bif !b then .leaf (.retn [.int .i64 n]) else .need (0 <= wrap .i64 (first + n_1) /\ wrap .i64 (first + n_1) < (↑datan:Int)) (.someA datap fun a => .loadI .i64 (a.add ((wrap .i64 (first + n_1)).toNat * 1)) fun n_4 => .need (0 <= wrap .i64 (first + n) /\ wrap .i64 (first + n) < (↑datan:Int)) (.someA datap fun a => .loadI .i64 (a.add ((wrap .i64 (first + n)).toNat * 1)) fun n_5 => .need (0 <= wrap .i64 (first + n) /\ wrap .i64 (first + n) < (↑datan:Int)) (.someA datap fun a_4 => .store ((a_4.add ((wrap .i64 (first + n)).toNat * 1)).add 0) (.int .i64 n_4) (.need (0 <= wrap .i64 (first + n) /\ wrap .i64 (first + n) < (↑datan:Int)) (.someA datap fun a_5 => .ne (.pointer (some (a_5.add ((wrap .i64 (first + n)).toNat * 1)))) (.pointer (some (a.add ((wrap .i64 (first + n)).toNat * 1)))) (.nd (.int .i64 (wrap .i64 (first + n))) (.nd (.int .i64 n) (.nd (.int .i64 first) (.nd (.slice datap datan datac) (.nd (.int .i64 (wrap .i64 (first + n_1))) (.nd (.int .i64 n_1) (.nd (.int .i64 first) (.nd (.slice datap datan datac) (.need (0 <= wrap .i64 (first + n_1) /\ wrap .i64 (first + n_1) < (↑datan:Int)) (.someA datap fun a => .store ((a.add ((wrap .i64 (first + n_1)).toNat * 1)).add 0) (.int .i64 n_5) (.leaf (.again [.int .i64 n_1]))))))))))))))))))))))))))))))))) (fun vs => .popI .i64 vs fun n_1 vs => .unNil vs (.leaf (.retn [.int .i64 n]))) fun x x_1 => .fail)) (fun vs => .popI .i64 vs fun n vs => .unNil vs (.leaf (.ret (.tuple #[])))) (fun vs => .popI .i64 vs fun n vs => .unNil vs (.leaf (.ret (.tuple #[])))) fun x x_1 => .fail
theorem w2116 (datap:Option Addr) (datan datac:Nat) (lo hi first:Int):FX X 208 #[.slice datap datan datac,.int .i64 lo,.int .i64 hi,.int .i64 first] h A (n2116 datap datan datac lo hi first) := fk [] [⟨0,[(8,.int .i64)],[],[],[],[]⟩] [⟨5,[(9,.int .i64)],[],[],[],[]⟩] Tryz.f208
noncomputable def n2117 (length:Int):T := .call false 173 #[.int .u64 (IntKind.wrap .u64 length)] fun v => .unI .i64 v fun n => .need (0 <= n) (.leaf (.ret (.int .u64 (IntKind.wrap .u64 (1 * 2 ^ min (n.toNat) 64)))))
theorem w2117 (length:Int):FX X 209 #[.int .i64 length] h A (n2117 length) := fk [] [] [] Tryz.f209
noncomputable def n2118 (r:Option Addr):T := .someA r fun a => .loadI .u64 a fun n => .someA r fun a => .loadI .u64 a fun n_1 => .need ((0:Int) <= 13) (.someA r fun a => .store (a.add 0) (.int .u64 (IntKind.wrap .u64 (↑(BitVec.toNat (BitVec.ofInt 64 n ^^^ BitVec.ofInt 64 (IntKind.wrap .u64 (n_1 * 2 ^ 13)))):Int))) (.someA r fun a => .loadI .u64 a fun n => .someA r fun a => .loadI .u64 a fun n_2 => .need ((0:Int) <= 7) (.someA r fun a => .store (a.add 0) (.int .u64 (IntKind.wrap .u64 (↑(BitVec.toNat (BitVec.ofInt 64 n ^^^ BitVec.ofInt 64 (Int.fdiv n_2 (2 ^ 7)))):Int))) (.someA r fun a => .loadI .u64 a fun n => .someA r fun a => .loadI .u64 a fun n_3 => .need ((0:Int) <= 17) (.someA r fun a => .store (a.add 0) (.int .u64 (IntKind.wrap .u64 (↑(BitVec.toNat (BitVec.ofInt 64 n ^^^ BitVec.ofInt 64 (IntKind.wrap .u64 (n_3 * 2 ^ 17)))):Int))) (.someA r fun a => .loadI .u64 a fun n => .leaf (.ret (.int .u64 n))))))))
theorem w2118 (r:Option Addr):FX X 210 #[.pointer r] h A (n2118 r) := fk [] [] [] Tryz.f210
noncomputable def n2120 (datap:Option Addr) (datan datac:Nat) (a b c:Int) (swaps:Option Addr):T := .call false 215 #[.slice datap datan datac,.int .i64 a,.int .i64 b,.pointer swaps] fun v => .unTup v fun l => .unCons l fun v vs => .unI .i64 v fun n => .unCons vs fun v vs => .unI .i64 v fun n_1 => .unNil vs (.call false 215 #[.slice datap datan datac,.int .i64 n_1,.int .i64 c,.pointer swaps] fun v => .unTup v fun l => .unCons l fun v vs => .unI .i64 v fun n_2 => .unCons vs fun v vs => .unI .i64 v fun n_3 => .unNil vs (.call false 215 #[.slice datap datan datac,.int .i64 n,.int .i64 n_2,.pointer swaps] fun v => .unTup v fun l => .unCons l fun v vs => .unI .i64 v fun n => .unCons vs fun v vs => .unI .i64 v fun n => .unNil vs (.leaf (.ret (.int .i64 n)))))
theorem w2120 (datap:Option Addr) (datan datac:Nat) (a b c:Int) (swaps:Option Addr):FX X 212 #[.slice datap datan datac,.int .i64 a,.int .i64 b,.int .i64 c,.pointer swaps] h A (n2120 datap datan datac a b c swaps) := fk [] [] [] Tryz.f212
noncomputable def n2121 (datap:Option Addr) (datan datac:Nat) (a b:Int) (swaps:Option Addr):T := .need (0 <= b /\ b < (↑datan:Int)) (.someA datap fun a_1 => .loadI .i64 (a_1.add (b.toNat * 1)) fun n => .need (0 <= a /\ a < (↑datan:Int)) (.someA datap fun a_2 => .loadI .i64 (a_2.add (a.toNat * 1)) fun n_1 => .call false 199 #[.int .i64 n,.int .i64 n_1] fun v => .unB v fun b_1 => .need (0 <= a /\ a < (↑datan:Int)) (.someA datap fun a_3 => .ne (.pointer (some (a_3.add (a.toNat * 1)))) (.pointer (some (a_2.add (a.toNat * 1)))) (.nd (.int .i64 a) (.nd (.slice datap datan datac) (.need (0 <= b /\ b < (↑datan:Int)) (.someA datap fun a_4 => .ne (.pointer (some (a_4.add (b.toNat * 1)))) (.pointer (some (a_1.add (b.toNat * 1)))) (.nd (.int .i64 b) (.nd (.slice datap datan datac) (bif b_1 then .someA swaps fun a_5 => .loadI .i64 a_5 fun n => .someA swaps fun a_6 => .store (a_6.add 0) (.int .i64 (wrap .i64 (n + 1))) (.leaf (.ret (.tuple #[.int .i64 b,.int .i64 a]))) else .leaf (.ret (.tuple #[.int .i64 a,.int .i64 b]))))))))))))
theorem w2121 (datap:Option Addr) (datan datac:Nat) (a b:Int) (swaps:Option Addr):FX X 215 #[.slice datap datan datac,.int .i64 a,.int .i64 b,.pointer swaps] h A (n2121 datap datan datac a b swaps) := fk [] [] [] Tryz.f215
end Go.Proofs.YtfkfohpnpljihaaGreatDoor
end
section
namespace Go.TM
open Go Go.Conc Go.Sort
variable {P:Program} {X:XP} {Q:Leaf -> LH -> Prop}
def RA (cs:Array Value) (d:Array Int):Prop := ∀ i,i < d.size -> cs[i]? = some (.int .i64 d[i]!)
structure DSt (h:LH) (r:Nat) (el:TypeId) (N:Nat) (d:Array Int) (h':LH):Prop where
 keep:∀ b y,b ≠ r -> h.get b = some y -> h'.get b = some y
 rest:h'.chans = h.chans /\ h'.pend = h.pend /\ h'.todo = h.todo
 cells:∃ cs,h'.get r = some (true,.cells cs el (0,0)) /\ cs.size = N /\ d.size <= N /\ RA cs d
variable {h h':LH} {r N:Nat} {el:TypeId} {d:Array Int}
theorem DSt.cell (s:DSt h r el N d h') {i:Nat} (hi:i < d.size):h'.get.cell? (Addr.add ⟨r,0,none⟩ ((i:Int).toNat * 1)) = some (.int .i64 d[i]!) := by
 obtain ⟨cs,h1,_,_,h4⟩ := s.cells
 rw [add_plain,Int.toNat_natCast,Nat.mul_one,Nat.zero_add]
 unfold Cells.cell?
 rw [h1]
 exact h4 i hi
theorem RA.set {cs:Array Value} {d:Array Int} (h:RA cs d) {i:Nat} {x:Int}:RA (cs.setIfInBounds i (.int .i64 x)) (d.setIfInBounds i x) := fun k hk => by
 rw [Array.size_setIfInBounds] at hk
 have hc:k < cs.size := (Array.getElem?_eq_some_iff.1 (h k hk)).1
 by_cases e:i = k
 ·subst e
  rw [Array.getElem?_setIfInBounds_self_of_lt hc]
  simp [hk]
 ·rw [Array.getElem?_setIfInBounds_ne e,h k hk]
  congr 2
  rw [getElem!_pos d k hk,getElem!_pos (d.setIfInBounds i x) k (by simpa using hk),Array.getElem_setIfInBounds_ne hk e]
theorem t_storeD {i:Nat} {x:Int} {k:T} (s:DSt h r el N d h') (hi:i < d.size) (hk:∀ h₂,DSt h r el N (d.setIfInBounds i x) h₂ -> k.wp X P Q h₂):(T.store (Addr.add (Addr.add ⟨r,0,none⟩ ((i:Int).toNat * 1)) 0) (.int .i64 x) k).wp X P Q h' := by
 obtain ⟨cs,h1,h2,h3,h4⟩ := s.cells
 refine t_storeC (r := r) (j := i) (by rw [add_plain,add_plain]; simp) h1 (by omega) rfl fun h₂ t e => hk h₂ ⟨fun b y hb hy => ?_,⟨t.rest.1.trans s.rest.1,t.rest.2.1.trans s.rest.2.1,t.rest.2.2.trans s.rest.2.2⟩,_,e,by simpa using h2,by simpa using h3,h4.set⟩
 rw [t.keep b hb]
 exact s.keep b y hb hy
theorem t_storeD' {i:Nat} {x:Int} {k:T} (s:DSt h r el N d h') (hi:i < d.size) (hk:∀ h₂,DSt h r el N (d.setIfInBounds i x) h₂ -> (∀ b,b ≠ r -> h₂.get b = h'.get b) -> k.wp X P Q h₂):(T.store (Addr.add (Addr.add ⟨r,0,none⟩ ((i:Int).toNat * 1)) 0) (.int .i64 x) k).wp X P Q h' := by
 obtain ⟨cs,h1,h2,h3,h4⟩ := s.cells
 refine t_storeC (r := r) (j := i) (by rw [add_plain,add_plain]; simp) h1 (by omega) rfl fun h₂ t e => hk h₂ ⟨fun b y hb hy => ?_,⟨t.rest.1.trans s.rest.1,t.rest.2.1.trans s.rest.2.1,t.rest.2.2.trans s.rest.2.2⟩,_,e,by simpa using h2,by simpa using h3,h4.set⟩ t.keep
 rw [t.keep b hb]
 exact s.keep b y hb hy
theorem DSt.self {cs:Array Value} (h1:h.get r = some (true,.cells cs el (0,0))) (h3:d.size <= cs.size) (h4:RA cs d):DSt h r el cs.size d h := ⟨fun _ _ _ hy => hy,⟨rfl,rfl,rfl⟩,cs,h1,rfl,h3,h4⟩
theorem DSt.more (s:DSt h r el N d h') {b:Nat} {x:Bool × Obj} (hb:h'.get b = none):DSt h r el N d { h' with get := h'.get.upd b x } := by
 obtain ⟨cs,h1,h2⟩ := s.cells
 have ne:∀ {b':Nat} {y:Bool × Obj},h'.get b' = some y -> b' ≠ b := fun hy e => by subst e; rw [hb] at hy; cases hy
 refine ⟨fun b' y hr hy => ?_,s.rest,cs,?_,h2⟩
 ·have := s.keep b' y hr hy
  show h'.get.upd b x b' = _
  rw [Cells.upd_ne _ _ (ne this)]; exact this
 ·show h'.get.upd b x r = _
  rw [Cells.upd_ne _ _ (ne h1)]; exact h1
end Go.TM
namespace Go.Proofs.YtfkfohpnpljihaaGreatDoor
open Go Go.TM Go.Proofs Go.Sort
attribute [local irreducible] T.wp CV FWK
theorem c2111 {h:LH} (x y:Int):Pu Tryz.prog 199 #[.int .i64 x,.int .i64 y] h (.bool (ltInt x y)) := by
 refine w2111 _ _ X0_ok ?_
 unfold n2111
 refine t_pu (c109 _) ?_
 refine gZ ?_
 refine t_cond (fun e => by cases e) (fun _ => ?_)
 exact t_ret ⟨rfl,rfl⟩
variable {h h1:LH} {r N c:Nat} {el:TypeId} {d:Array Int} {a b:Nat}
theorem wsucc {i:Nat} (h:i < 2 ^ 40):wrap .i64 ((i:Int) + 1) = ((i + 1:Nat):Int) := by rw [wrap_id (by omega) (by omega)]; rfl
theorem wpred {i:Nat} (h:i < 2 ^ 40):wrap .i64 (((i + 1:Nat):Int) - 1) = (i:Int) := by rw [wrap_id (by omega) (by omega)]; omega
theorem wadd {i j:Nat} (h:i + j < 2 ^ 40):wrap .i64 ((i:Int) + (j:Int)) = ((i + j:Nat):Int) := by rw [wrap_id (by omega) (by omega)]; omega
theorem wsub {i j:Nat} (h1:j <= i) (h:i < 2 ^ 40):wrap .i64 ((i:Int) - (j:Int)) = ((i - j:Nat):Int) := by rw [wrap_id (by omega) (by omega)]; omega
set_option maxRecDepth 10000 in
theorem c2105 (s:DSt h r el N d h1) (hab:a <= b) (hb:b <= d.size) (hN:d.size < 2 ^ 30) :
  FW X0 Tryz.prog 193 #[.slice (some ⟨r,0,none⟩) d.size c,.int .i64 a,.int .i64 b] h1 fun v h' => v = .tuple #[] /\ DSt h r el N (insertionSort ltInt d a b) h' := by
 refine w2105 _ _ _ _ _ X0_ok ?_
 unfold n2105
 rw [wsucc (by omega)]
 refine t_loop (fun mm vs h' => ∃ (i:Nat) (d':Array Int),vs = [.int .i64 i] /\ mm = b + 1 - i /\ a + 1 <= i /\ i <= b + 1 /\ DSt h r el N d' h' /\ d'.size = d.size /\ insOuter ltInt a b i d' = insertionSort ltInt d a b)
  ⟨a + 1,d,rfl,rfl,Nat.le_refl _,by omega,s,rfl,rfl⟩ ?_
 rintro Y mm vs h2 hY ⟨i,d1,rfl,rfl,hi1,hi2,s1,z1,hi⟩
 refine gZ ?_
 refine t_if (fun e1 => ?_) (fun e1 => ?_)
 ·have hib:i < b := by omega
  rw [insOuter,if_pos hib] at hi
  refine t_loopB (fun mm vs h' => ∃ (j:Nat) (d':Array Int),vs = [.int .i64 j] /\ j = mm /\ j <= i /\ DSt h r el N d' h' /\ d'.size = d.size /\ insInner ltInt a j d' = insInner ltInt a i d1)
   (fun vs h' => ∃ j:Nat,vs = [.int .i64 j] /\ DSt h r el N (insInner ltInt a i d1) h' /\ (insInner ltInt a i d1).size = d.size) ⟨i,d1,rfl,rfl,Nat.le_refl _,s1,z1,rfl⟩ ?_ ?_
  ·rintro Y2 mm vs h3 hY2 ⟨j,d2,rfl,rfl,hj,s2,z2,hin⟩
   refine gZ ?_
   refine t_blk (fun vs h' => vs = [] /\ h3 = h' /\ ∃ j',j = j' + 1 /\ j' + 1 > a /\ ltInt d2[j' + 1]! d2[j']! = true) ?_ ?_
   ·refine t_if (fun e2 => ?_) (fun e2 => ?_)
    ·obtain ⟨j',rfl⟩ : ∃ j',j = j' + 1 := ⟨j - 1,by omega⟩
     rw [wpred (by omega)]
     have y1 := s2.cell (i := j' + 1) (by omega)
     have y2 := s2.cell (i := j') (by omega)
     refine gZ ?_
     refine t_pu (c2111 _ _) ?_
     refine gZ ?_
     refine t_cond (fun e3 => ?_) (fun e3 => ?_)
     ·exact t_again ⟨rfl,rfl,j',rfl,by omega,e3⟩
     ·rw [insInner,e3,Bool.and_false,if_neg (by simp)] at hin
      refine gZ ?_
      refine t_cond (fun _ => ?_) (fun e => by cases e)
      refine gZ ?_
      exact ⟨_,rfl,hin ▸ s2,hin ▸ z2⟩
    ·refine gZ ?_
     refine t_cond (fun _ => ?_) (fun e => by cases e)
     have hst:insInner ltInt a j d2 = d2 := by
      cases j with
      | zero => rfl
      | succ j => rw [insInner,decide_eq_false (by omega),Bool.false_and,if_neg (by simp)]
     rw [hst] at hin
     refine gZ ?_
     exact ⟨_,rfl,hin ▸ s2,hin ▸ z2⟩
   ·rintro vs _ ⟨rfl,rfl,j',rfl,hja,hlt⟩
    rw [insInner,hlt,decide_eq_true hja,Bool.true_and,if_pos rfl] at hin
    rw [wpred (by omega)]
    have y1 := s2.cell (i := j' + 1) (by omega)
    have y2 := s2.cell (i := j') (by omega)
    refine gZ ?_
    refine t_storeD s2 (i := j' + 1) (by omega) fun h4 s4 => ?_
    refine gZ ?_
    refine t_storeD s4 (i := j') (by simp; omega) fun h5 s5 => ?_
    exact t_again (hY2 j' _ _ (by omega) ⟨j',swp d2 (j' + 1) j',rfl,rfl,by omega,s5,by simp [swp,z2],hin⟩)
  ·rintro vs h3 ⟨j,rfl,s3,z3⟩
   refine gZ ?_
   rw [wsucc (by omega)]
   exact t_again (hY (b + 1 - (i + 1)) _ _ (by omega) ⟨i + 1,_,rfl,rfl,by omega,by omega,s3,z3,hi⟩)
 ·refine gZ ?_
  rw [insOuter,if_neg (by omega)] at hi
  exact t_ret ⟨rfl,hi ▸ s1⟩
end Go.Proofs.YtfkfohpnpljihaaGreatDoor
end
section
namespace Go.Proofs.YtfkfohpnpljihaaGreatDoor
open Go Go.TM Go.Proofs Go.Sort
attribute [local irreducible] T.wp CV FWK
variable {h h1:LH} {r N c:Nat} {el:TypeId} {d:Array Int} {a b:Nat}
theorem swp_sz (d:Array Int) (i j:Nat):(swp d i j).size = d.size := by simp [swp]
theorem c2109 (s:DSt h r el N d h1) (hab:a < b) (hb:b <= d.size) (hN:d.size < 2 ^ 30) :
  FW X0 Tryz.prog 197 #[.slice (some ⟨r,0,none⟩) d.size c,.int .i64 a,.int .i64 b] h1 fun v h' => v = .tuple #[] /\ DSt h r el N (reverseRange d a b) h' := by
 refine w2109 _ _ _ _ _ X0_ok ?_
 unfold n2109
 obtain ⟨b,rfl⟩ : ∃ k,b = k + 1 := ⟨b - 1,by omega⟩
 rw [wpred (by omega)]
 refine t_loop (fun mm vs h' => ∃ (i j:Nat) (d':Array Int),vs = [.int .i64 i,.int .i64 j] /\ mm = j + 1 - i /\ j <= b /\ DSt h r el N d' h' /\ d'.size = d.size /\ reverseLoop i j d' = reverseRange d a (b + 1))
  ⟨a,b,d,rfl,rfl,Nat.le_refl _,s,rfl,rfl⟩ ?_
 rintro Y mm vs h2 hY ⟨i,j,d1,rfl,rfl,hj,s1,z1,hi⟩
 refine gZ ?_
 refine t_if (fun e1 => ?_) (fun e1 => ?_)
 ·have hij:i < j := by omega
  rw [reverseLoop,if_pos hij] at hi
  obtain ⟨j',rfl⟩ : ∃ k,j = k + 1 := ⟨j - 1,by omega⟩
  have y1 := s1.cell (i := j' + 1) (by omega)
  have y2 := s1.cell (i := i) (by omega)
  refine gZ ?_
  refine t_storeD s1 (i := i) (by omega) fun h4 s4 => ?_
  refine gZ ?_
  refine t_storeD s4 (i := j' + 1) (by simp; omega) fun h5 s5 => ?_
  rw [wsucc (by omega),wpred (by omega)]
  exact t_again (hY (j' + 1 - (i + 1)) _ _ (by omega) ⟨i + 1,j',swp d1 i (j' + 1),rfl,rfl,by omega,s5,by rw [swp_sz]; exact z1,hi⟩)
 ·refine gZ ?_
  rw [reverseLoop,if_neg (by omega)] at hi
  exact t_ret ⟨rfl,hi ▸ s1⟩
set_option maxRecDepth 10000 in
theorem c2116 {lo hi first:Nat} (s:DSt h r el N d h1) (hf:first + hi <= d.size) (hlo:lo < 2 ^ 30) (hN:d.size < 2 ^ 30) :
  FW X0 Tryz.prog 208 #[.slice (some ⟨r,0,none⟩) d.size c,.int .i64 lo,.int .i64 hi,.int .i64 first] h1 fun v h' => v = .tuple #[] /\ DSt h r el N (siftDown ltInt hi first lo d) h' := by
 refine w2116 _ _ _ _ _ _ X0_ok ?_
 unfold n2116
 refine t_loop (fun mm vs h' => ∃ (i:Nat) (d':Array Int),vs = [.int .i64 i] /\ i < 2 ^ 30 /\ mm = hi - i /\ DSt h r el N d' h' /\ d'.size = d.size /\ siftDown ltInt hi first i d' = siftDown ltInt hi first lo d)
  ⟨lo,d,rfl,hlo,rfl,s,rfl,rfl⟩ ?_
 rintro Y mm vs h2 hY ⟨i,d1,rfl,hi30,rfl,s1,z1,heq⟩
 have w2:wrap .i64 (2 * (i:Int)) = ((2 * i:Nat):Int) := by rw [wrap_id (by omega) (by omega)]; omega
 have w3:wrap .i64 (((2 * i:Nat):Int) + 1) = ((2 * i + 1:Nat):Int) := wsucc (by omega)
 refine gZ ?_
 rw [w2,w3]
 refine t_if (fun e1 => ?_) (fun e1 => ?_)
 ·rw [siftDown,dif_pos (by omega)] at heq
  refine gZ ?_
  exact t_ret ⟨rfl,heq ▸ s1⟩
 have hch:¬ 2 * i + 1 >= hi := by omega
 rw [siftDown,dif_neg hch] at heq
 have w4:wrap .i64 (((2 * i + 1:Nat):Int) + 1) = ((2 * i + 2:Nat):Int) := wsucc (by omega)
 refine t_blk (fun vs h' => h2 = h' /\ ∃ ch:Nat,vs = [.int .i64 ch] /\ (ch = 2 * i + 1 \/ ch = 2 * i + 2) /\ ch < hi /\ (if (!ltInt d1[first + i]! d1[first + ch]!) = true then d1 else siftDown ltInt hi first ch (swp d1 (first + i) (first + ch))) = siftDown ltInt hi first lo d) ?_ ?_
 ·rw [w4]
  have wf1:wrap .i64 ((first:Int) + ((2 * i + 1:Nat):Int)) = ((first + (2 * i + 1):Nat):Int) := wadd (by omega)
  rw [wf1]
  have wf2:wrap .i64 (((first + (2 * i + 1):Nat):Int) + 1) = ((first + (2 * i + 1) + 1:Nat):Int) := wsucc (by omega)
  refine t_if (fun e2 => ?_) (fun e2 => ?_)
  ·have hlt:2 * i + 1 + 1 < hi := by omega
   rw [wf2]
   have y1 := s1.cell (i := first + (2 * i + 1)) (by omega)
   have y2 := s1.cell (i := first + (2 * i + 1) + 1) (by omega)
   refine gZ ?_
   refine t_pu (c2111 _ _) ?_
   refine gZ ?_
   refine t_cond (fun e3 => ?_) (fun e3 => ?_)
   ·rw [e3,decide_eq_true hlt,Bool.true_and,if_pos rfl] at heq
    refine t_again ⟨rfl,2 * i + 2,rfl,.inr rfl,by omega,?_⟩
    rw [<- heq]
    split
    ·rfl
    ·first | rfl | rw [dif_pos (by omega)]
   ·rw [e3,Bool.and_false,if_neg (by simp)] at heq
    exact t_again ⟨rfl,2 * i + 1,rfl,.inl rfl,by omega,heq⟩
  ·rw [decide_eq_false (by omega),Bool.false_and,if_neg (by simp)] at heq
   have fin:h2 = h2 /\ ∃ ch:Nat,[Value.int .i64 ((2 * i + 1:Nat):Int)] = [.int .i64 ch] /\ (ch = 2 * i + 1 \/ ch = 2 * i + 2) /\ ch < hi /\ (if (!ltInt d1[first + i]! d1[first + ch]!) = true then d1 else siftDown ltInt hi first ch (swp d1 (first + i) (first + ch))) = siftDown ltInt hi first lo d :=
    ⟨rfl,2 * i + 1,rfl,.inl rfl,by omega,heq⟩
   refine t_both ?_ ?_
   ·refine gZ ?_
    exact t_again fin
   ·refine gZ ?_
    refine t_both ?_ ?_
    ·refine gZ ?_
     exact t_again fin
    ·refine gZ ?_
     exact t_again fin
 ·rintro vs _ ⟨rfl,ch,rfl,hcc,hcl,heq⟩
  refine gZ ?_
  rw [wadd (i := first) (j := i) (by omega),wadd (i := first) (j := ch) (by omega)]
  have y1 := s1.cell (i := first + i) (by omega)
  have y2 := s1.cell (i := first + ch) (by omega)
  refine gZ ?_
  refine t_pu (c2111 _ _) ?_
  refine gZ ?_
  refine t_cond (fun e3 => ?_) (fun e3 => ?_)
  ·rw [if_pos e3] at heq
   refine gZ ?_
   exact t_ret ⟨rfl,heq ▸ s1⟩
  ·rw [if_neg (by rw [e3]; simp)] at heq
   refine gZ ?_
   refine t_storeD s1 (i := first + i) (by omega) fun h4 s4 => ?_
   refine gZ ?_
   refine t_storeD s4 (i := first + ch) (by simp; omega) fun h5 s5 => ?_
   exact t_again (hY (hi - ch) _ _ (by omega) ⟨ch,swp d1 (first + i) (first + ch),rfl,by omega,rfl,s5,by rw [swp_sz]; exact z1,heq⟩)
theorem siftDown_sz (hi first:Nat):∀ (n root:Nat) (d:Array Int),hi - root <= n -> (siftDown ltInt hi first root d).size = d.size := by
 intro n
 induction n with
 | zero =>
  intro root d hn
  rw [siftDown,dif_pos (by omega)]
 | succ n ih =>
  intro root d hn
  rw [siftDown]
  split
  ·rfl
  ·split
   ·split
    ·rfl
    ·split
     ·rw [ih _ _ (by omega),swp_sz]
     ·rfl
   ·split
    ·rfl
    ·rw [ih _ _ (by omega),swp_sz]
theorem c2106 (s:DSt h r el N d h1) (hab:a < b) (hb:b <= d.size) (hN:d.size < 2 ^ 30) :
  FW X0 Tryz.prog 194 #[.slice (some ⟨r,0,none⟩) d.size c,.int .i64 a,.int .i64 b] h1 fun v h' => v = .tuple #[] /\ DSt h r el N (heapSort ltInt d a b) h' := by
 refine w2106 _ _ _ _ _ X0_ok ?_
 unfold n2106
 have w1:wrap .i64 ((b:Int) - (a:Int)) = ((b - a:Nat):Int) := wsub (by omega) (by omega)
 have w2:wrap .i64 (((b - a:Nat):Int) - 1) = ((b - a - 1:Nat):Int) := by rw [wrap_id (by omega) (by omega)]; omega
 have w3:wrap .i64 (Int.tdiv ((b - a - 1:Nat):Int) 2) = (((b - a - 1) / 2:Nat):Int) := by
  have:Int.tdiv ((b - a - 1:Nat):Int) 2 = (((b - a - 1) / 2:Nat):Int) := by
   rw [Int.tdiv_eq_ediv_of_nonneg (by omega)]; omega
  rw [this,wrap_id (by omega) (by omega)]
 rw [w1,w2,w3]
 refine gT (by omega) ?_
 refine t_loopB (fun mm vs h' => ∃ (k:Nat) (d':Array Int),vs = [.int .i64 ((k:Int) - 1)] /\ k = mm /\ k <= b /\ DSt h r el N d' h' /\ d'.size = d.size /\ heapBuild ltInt (b - a) a k d' = heapBuild ltInt (b - a) a ((b - a - 1) / 2 + 1) d)
  (fun vs h' => ∃ k:Int,vs = [.int .i64 k] /\ DSt h r el N (heapBuild ltInt (b - a) a ((b - a - 1) / 2 + 1) d) h' /\ (heapBuild ltInt (b - a) a ((b - a - 1) / 2 + 1) d).size = d.size)
  ⟨(b - a - 1) / 2 + 1,d,by congr 2; omega,rfl,by omega,s,rfl,rfl⟩ ?_ ?_
 ·rintro Y mm vs h2 hY ⟨k,d1,rfl,rfl,hk,s1,z1,heq⟩
  refine gZ ?_
  refine t_if (fun e1 => ?_) (fun e1 => ?_)
  ·obtain ⟨k,rfl⟩ : ∃ k',k = k' + 1 := ⟨k - 1,by omega⟩
   rw [show (((k + 1:Nat):Int) - 1) = (k:Int) by omega,<- z1]
   refine t_call (c2116 s1 (by omega) (by omega) (by omega)) ?_
   rintro _ h3 ⟨rfl,s3⟩
   refine gZ ?_
   rw [show wrap .i64 ((k:Int) - 1) = (k:Int) - 1 from wrap_id (by omega) (by omega)]
   exact t_again (hY k _ _ (by omega) ⟨k,_,rfl,rfl,by omega,s3,by rw [siftDown_sz _ _ _ _ _ (Nat.le_refl _)]; exact z1,heq⟩)
  ·refine gZ ?_
   have:k = 0 := by omega
   subst this
   exact ⟨_,rfl,(show d1 = _ from heq) ▸ s1,(show d1 = _ from heq) ▸ z1⟩
 rintro vs h2 ⟨k0,rfl,s2,z2⟩
 have heap:heapSort ltInt d a b = heapPop ltInt a (b - a) (heapBuild ltInt (b - a) a ((b - a - 1) / 2 + 1) d) := rfl
 rw [heap]
 generalize heapBuild ltInt (b - a) a ((b - a - 1) / 2 + 1) d = d2 at *
 refine gZ ?_
 refine t_loop (fun mm vs h' => ∃ (k:Nat) (d':Array Int),vs = [.int .i64 ((k:Int) - 1)] /\ k = mm /\ k <= b - a /\ DSt h r el N d' h' /\ d'.size = d.size /\ heapPop ltInt a k d' = heapPop ltInt a (b - a) d2)
  ⟨b - a,d2,by congr 2; omega,rfl,Nat.le_refl _,s2,z2,rfl⟩ ?_
 rintro Y mm vs h3 hY ⟨k,d1,rfl,rfl,hk,s1,z1,heq⟩
 refine gZ ?_
 refine t_if (fun e1 => ?_) (fun e1 => ?_)
 ·obtain ⟨k,rfl⟩ : ∃ k',k = k' + 1 := ⟨k - 1,by omega⟩
  rw [show (((k + 1:Nat):Int) - 1) = (k:Int) by omega,wadd (i := a) (j := k) (by omega)]
  have y1 := s1.cell (i := a + k) (by omega)
  have y2 := s1.cell (i := a) (by omega)
  refine gZ ?_
  refine t_storeD s1 (i := a) (by omega) fun h4 s4 => ?_
  refine gZ ?_
  refine t_storeD s4 (i := a + k) (by simp; omega) fun h5 s5 => ?_
  have s5':DSt h r el N (swp d1 a (a + k)) h5 := s5
  rw [<- z1,<- swp_sz d1 a (a + k)]
  refine t_call (c2116 (lo := 0) s5' (by rw [swp_sz]; omega) (by omega) (by rw [swp_sz]; omega)) ?_
  rintro _ h6 ⟨rfl,s6⟩
  refine gZ ?_
  rw [show wrap .i64 ((k:Int) - 1) = (k:Int) - 1 from wrap_id (by omega) (by omega)]
  exact t_again (hY k _ _ (by omega) ⟨k,_,rfl,rfl,by omega,s6,by rw [siftDown_sz _ _ _ _ _ (Nat.le_refl _),swp_sz]; exact z1,heq⟩)
 ·refine gZ ?_
  have:k = 0 := by omega
  subst this
  exact t_ret ⟨rfl,(show d1 = _ from heq) ▸ s1⟩
end Go.Proofs.YtfkfohpnpljihaaGreatDoor
end
section
namespace Go.Sort
variable {p:Int -> Bool} {d:Array Int} {i j:Nat}
theorem up_go (h1:i <= j) (h2:p d[i]! = true):scanUp p d j i = scanUp p d j (i + 1) := by rw [scanUp,h2,decide_eq_true h1]; rfl
theorem up_stop (h:¬ (i <= j /\ p d[i]! = true)):scanUp p d j i = i := by
 rw [scanUp,if_neg]
 simpa using h
theorem down_go (h1:i <= j + 1) (h2:p d[j + 1]! = true):scanDown p d i (j + 1) = scanDown p d i j := by rw [scanDown,h2,decide_eq_true h1]; rfl
theorem down_stop (hi:1 <= i) (h:¬ (i <= j /\ p d[j]! = true)):scanDown p d i j = j := by
 cases j with
 | zero => rfl
 | succ j =>
  rw [scanDown,if_neg]
  simpa using h
theorem up_bound (h:i <= j + 1):i <= scanUp p d j i /\ scanUp p d j i <= j + 1 := by
 have := scanUp_spec p d j _ i rfl
 exact ⟨this.1,by omega⟩
theorem up_bound':i <= scanUp p d j i /\ (scanUp p d j i <= j + 1 \/ scanUp p d j i = i) := by
 by_cases h:i <= j + 1
 ·exact ⟨(up_bound h).1,.inl (up_bound h).2⟩
 ·exact ⟨scanUp_ge _ _ _ _,.inr (up_stop fun hh => by omega)⟩
end Go.Sort
namespace Go.Proofs.YtfkfohpnpljihaaGreatDoor
open Go Go.TM Go.Proofs Go.Sort
attribute [local irreducible] T.wp CV FWK
variable {h h1:LH} {r N c:Nat} {el:TypeId} {d:Array Int} {a b:Nat}
set_option maxRecDepth 20000 in
theorem c2113 {pivot:Nat} (s:DSt h r el N d h1) (hp:a <= pivot /\ pivot < b) (hb:b <= d.size) (hN:d.size < 2 ^ 30) :
  FW X0 Tryz.prog 201 #[.slice (some ⟨r,0,none⟩) d.size c,.int .i64 a,.int .i64 b,.int .i64 pivot] h1 fun v h' => v = .tuple #[.int .i64 ((partition ltInt d a b pivot).1:Nat),.bool (partition ltInt d a b pivot).2.1] /\ DSt h r el N (partition ltInt d a b pivot).2.2 h' := by
 refine w2113 _ _ _ _ _ _ X0_ok ?_
 unfold n2113
 have y1 := s.cell (i := pivot) (by omega)
 have y2 := s.cell (i := a) (by omega)
 refine gZ ?_
 refine t_storeD s (i := a) (by omega) fun g1 r1 => ?_
 refine gZ ?_
 refine t_storeD r1 (i := pivot) (by rw [Array.size_setIfInBounds]; omega) fun k1 q1 => ?_
 have Q1:DSt h r el N (swp d a pivot) k1 := q1
 clear q1 r1 y1 y2
 obtain ⟨e,rfl⟩ : ∃ k,b = k + 1 := ⟨b - 1,by omega⟩
 have part:partition ltInt d a (e + 1) pivot = (if scanUp (fun x => ltInt x (swp d a pivot)[a]!) (swp d a pivot) e (a + 1) > scanDown (fun x => !ltInt x (swp d a pivot)[a]!) (swp d a pivot) (scanUp (fun x => ltInt x (swp d a pivot)[a]!) (swp d a pivot) e (a + 1)) e then (scanDown (fun x => !ltInt x (swp d a pivot)[a]!) (swp d a pivot) (scanUp (fun x => ltInt x (swp d a pivot)[a]!) (swp d a pivot) e (a + 1)) e,true,swp (swp d a pivot) (scanDown (fun x => !ltInt x (swp d a pivot)[a]!) (swp d a pivot) (scanUp (fun x => ltInt x (swp d a pivot)[a]!) (swp d a pivot) e (a + 1)) e) a) else
  ((partLoop ltInt a (scanUp (fun x => ltInt x (swp d a pivot)[a]!) (swp d a pivot) e (a + 1) + 1) (scanDown (fun x => !ltInt x (swp d a pivot)[a]!) (swp d a pivot) (scanUp (fun x => ltInt x (swp d a pivot)[a]!) (swp d a pivot) e (a + 1)) e - 1) (swp (swp d a pivot) (scanUp (fun x => ltInt x (swp d a pivot)[a]!) (swp d a pivot) e (a + 1)) (scanDown (fun x => !ltInt x (swp d a pivot)[a]!) (swp d a pivot) (scanUp (fun x => ltInt x (swp d a pivot)[a]!) (swp d a pivot) e (a + 1)) e))).1,false,
   swp (partLoop ltInt a (scanUp (fun x => ltInt x (swp d a pivot)[a]!) (swp d a pivot) e (a + 1) + 1) (scanDown (fun x => !ltInt x (swp d a pivot)[a]!) (swp d a pivot) (scanUp (fun x => ltInt x (swp d a pivot)[a]!) (swp d a pivot) e (a + 1)) e - 1) (swp (swp d a pivot) (scanUp (fun x => ltInt x (swp d a pivot)[a]!) (swp d a pivot) e (a + 1)) (scanDown (fun x => !ltInt x (swp d a pivot)[a]!) (swp d a pivot) (scanUp (fun x => ltInt x (swp d a pivot)[a]!) (swp d a pivot) e (a + 1)) e))).2 (partLoop ltInt a (scanUp (fun x => ltInt x (swp d a pivot)[a]!) (swp d a pivot) e (a + 1) + 1) (scanDown (fun x => !ltInt x (swp d a pivot)[a]!) (swp d a pivot) (scanUp (fun x => ltInt x (swp d a pivot)[a]!) (swp d a pivot) e (a + 1)) e - 1) (swp (swp d a pivot) (scanUp (fun x => ltInt x (swp d a pivot)[a]!) (swp d a pivot) e (a + 1)) (scanDown (fun x => !ltInt x (swp d a pivot)[a]!) (swp d a pivot) (scanUp (fun x => ltInt x (swp d a pivot)[a]!) (swp d a pivot) e (a + 1)) e))).1 a)) := rfl
 rw [part]
 have z1 := swp_sz d a pivot
 generalize hD:swp d a pivot = D at *
 rw [<- z1] at hb hN ⊢
 clear s hD part
 rw [wpred (by omega),wsucc (by omega)]
 refine t_loopB (fun mm vs h' => ∃ i:Nat,vs = [.int .i64 i] /\ mm = e + 1 - i /\ (a + 1) <= i /\ i <= e + 2 /\ k1 = h' /\ scanUp (fun x => ltInt x D[a]!) D e i = scanUp (fun x => ltInt x D[a]!) D e (a + 1))
  (fun vs h' => k1 = h' /\ vs = [.int .i64 ((scanUp (fun x => ltInt x D[a]!) D e (a + 1):Nat):Int)]) ⟨(a + 1),rfl,rfl,Nat.le_refl _,by omega,rfl,rfl⟩ ?_ ?_
 ·rintro Y2 mm vs _ hY2 ⟨i,rfl,rfl,hi0,hi1,rfl,hs⟩
  refine gZ ?_
  refine t_if (fun ec => ?_) (fun ec => ?_)
  ·have y1 := Q1.cell (i := i) (by omega)
   have y2 := Q1.cell (i := a) (by omega)
   refine gZ ?_
   refine t_pu (c2111 _ _) ?_
   refine gZ ?_
   refine t_cond (fun e3 => ?_) (fun e3 => ?_)
   ·refine gZ ?_
    rw [wsucc (by omega)]
    exact t_again (hY2 (e + 1 - (i + 1)) _ _ (by omega) ⟨i + 1,rfl,rfl,by omega,by omega,rfl,(up_go (p := (fun x => ltInt x D[a]!)) (d := D) (i := i) (j := e) (by omega) e3).symm.trans hs⟩)
   ·refine gZ ?_
    exact ⟨rfl,by rw [<- hs,up_stop (p := (fun x => ltInt x D[a]!)) (d := D) (i := i) (j := e) fun hh => absurd (Eq.trans e3.symm hh.2) (by simp)]⟩
  ·refine gZ ?_
   exact ⟨rfl,by rw [<- hs,up_stop (p := (fun x => ltInt x D[a]!)) (d := D) (i := i) (j := e) fun hh => ec (by omega)]⟩
 rintro vs _ ⟨rfl,rfl⟩
 obtain ⟨u1,u2⟩ := up_bound (p := (fun x => ltInt x D[a]!)) (d := D) (i := a + 1) (j := e) (by omega)
 generalize hI:scanUp (fun x => ltInt x D[a]!) D e (a + 1) = I at *
 refine gZ ?_
 refine t_loopB (fun mm vs h' => ∃ j:Nat,vs = [.int .i64 j] /\ j = mm /\ j <= e /\ k1 = h' /\ scanDown (fun x => !ltInt x D[a]!) D I j = scanDown (fun x => !ltInt x D[a]!) D I e)
  (fun vs h' => k1 = h' /\ vs = [.int .i64 ((scanDown (fun x => !ltInt x D[a]!) D I e:Nat):Int)]) ⟨e,rfl,rfl,Nat.le_refl _,rfl,rfl⟩ ?_ ?_
 ·rintro Y2 mm vs _ hY2 ⟨j,rfl,rfl,hj0,rfl,hs⟩
  refine gZ ?_
  refine t_if (fun ec => ?_) (fun ec => ?_)
  ·obtain ⟨j,rfl⟩ : ∃ k,j = k + 1 := ⟨j - 1,by omega⟩
   have y1 := Q1.cell (i := j + 1) (by omega)
   have y2 := Q1.cell (i := a) (by omega)
   refine gZ ?_
   refine t_pu (c2111 _ _) ?_
   refine gZ ?_
   refine t_cond (fun e3 => ?_) (fun e3 => ?_)
   ·refine gZ ?_
    rw [wpred (by omega)]
    exact t_again (hY2 j _ _ (by omega) ⟨j,rfl,rfl,by omega,rfl,(down_go (p := (fun x => !ltInt x D[a]!)) (d := D) (i := I) (j := j) (by omega) e3).symm.trans hs⟩)
   ·refine gZ ?_
    exact ⟨rfl,by rw [<- hs,down_stop (p := (fun x => !ltInt x D[a]!)) (d := D) (i := I) (j := j + 1) (by omega) fun hh => absurd (Eq.trans e3.symm hh.2) (by simp)]⟩
  ·refine gZ ?_
   exact ⟨rfl,by rw [<- hs,down_stop (p := (fun x => !ltInt x D[a]!)) (d := D) (i := I) (j := j) (by omega) fun hh => ec (by omega)]⟩
 rintro vs _ ⟨rfl,rfl⟩
 have v1 := scanDown_le (fun x => !ltInt x D[a]!) D I e
 have v2 := (scanDown_spec (fun x => !ltInt x D[a]!) D I e).2.1 u2
 generalize hJ:scanDown (fun x => !ltInt x D[a]!) D I e = J at *
 refine gZ ?_
 refine t_if (fun e1 => ?_) (fun e1 => ?_)
 ·rw [if_pos (show I > J by omega)]
  have y1 := Q1.cell (i := a) (by omega)
  have y2 := Q1.cell (i := J) (by omega)
  refine gZ ?_
  refine t_storeD Q1 (i := J) (by omega) fun g2 r2 => ?_
  refine gZ ?_
  refine t_storeD r2 (i := a) (by rw [Array.size_setIfInBounds]; omega) fun k2 q2 => ?_
  have Q2:DSt h r el N (swp D J a) k2 := q2
  clear q2 r2 y1 y2
  exact t_ret ⟨rfl,Q2⟩
 rw [if_neg (show ¬ I > J by omega)]
 have y1 := Q1.cell (i := J) (by omega)
 have y2 := Q1.cell (i := I) (by omega)
 refine gZ ?_
 refine t_storeD Q1 (i := I) (by omega) fun g3 r3 => ?_
 refine gZ ?_
 refine t_storeD r3 (i := J) (by rw [Array.size_setIfInBounds]; omega) fun k3 q3 => ?_
 have Q3:DSt h r el N (swp D I J) k3 := q3
 clear q3 r3 y1 y2
 have z3 := swp_sz D I J
 generalize hD3:swp D I J = D3 at *
 rw [<- z3] at hb hN ⊢
 obtain ⟨J,rfl⟩ : ∃ k,J = k + 1 := ⟨J - 1,by omega⟩
 rw [wpred (by omega),wsucc (by omega),show J + 1 - 1 = J from rfl]
 generalize hR:partLoop ltInt a (I + 1) J D3 = R
 refine t_loopB (fun mm vs h' => ∃ (i j:Nat) (d':Array Int),vs = [.int .i64 i,.int .i64 j] /\ mm = j + 1 - i /\ a < i /\ i <= j + 2 /\ a <= j /\ j <= e /\ DSt h r el N d' h' /\ d'.size = D3.size /\ partLoop ltInt a i j d' = R)
  (fun vs h' => ∃ (i:Int),vs = [.int .i64 i,.int .i64 (R.1:Nat)] /\ a <= R.1 /\ R.1 <= e /\ DSt h r el N R.2 h' /\ R.2.size = D3.size) ⟨I + 1,J,D3,rfl,rfl,by omega,by omega,by omega,by omega,Q3,rfl,hR⟩ ?_ ?_
 ·rintro Y mm vs g4 hY ⟨i,j,d4,rfl,rfl,hai,hij,haj,hje,s4,z4,hR4⟩
  rw [partLoop_eq] at hR4
  refine gZ ?_
  refine t_loopB (fun mm vs h' => ∃ t:Nat,vs = [.int .i64 t] /\ mm = j + 1 - t /\ i <= t /\ t <= j + 2 /\ g4 = h' /\ scanUp (fun x => ltInt x d4[a]!) d4 j t = scanUp (fun x => ltInt x d4[a]!) d4 j i)
   (fun vs h' => g4 = h' /\ vs = [.int .i64 ((scanUp (fun x => ltInt x d4[a]!) d4 j i:Nat):Int)]) ⟨i,rfl,rfl,Nat.le_refl _,by omega,rfl,rfl⟩ ?_ ?_
  ·rintro Y2 mm vs _ hY2 ⟨t,rfl,rfl,hi0,hi1,rfl,hs⟩
   refine gZ ?_
   refine t_if (fun ec => ?_) (fun ec => ?_)
   ·have y1 := s4.cell (i := t) (by omega)
    have y2 := s4.cell (i := a) (by omega)
    refine gZ ?_
    refine t_pu (c2111 _ _) ?_
    refine gZ ?_
    refine t_cond (fun e3 => ?_) (fun e3 => ?_)
    ·refine gZ ?_
     rw [wsucc (by omega)]
     exact t_again (hY2 (j + 1 - (t + 1)) _ _ (by omega) ⟨t + 1,rfl,rfl,by omega,by omega,rfl,(up_go (p := (fun x => ltInt x d4[a]!)) (d := d4) (i := t) (j := j) (by omega) e3).symm.trans hs⟩)
    ·refine gZ ?_
     exact ⟨rfl,by rw [<- hs,up_stop (p := (fun x => ltInt x d4[a]!)) (d := d4) (i := t) (j := j) fun hh => absurd (Eq.trans e3.symm hh.2) (by simp)]⟩
   ·refine gZ ?_
    exact ⟨rfl,by rw [<- hs,up_stop (p := (fun x => ltInt x d4[a]!)) (d := d4) (i := t) (j := j) fun hh => ec (by omega)]⟩
  rintro vs _ ⟨rfl,rfl⟩
  obtain ⟨u1,u2⟩ := up_bound' (p := (fun x => ltInt x d4[a]!)) (d := d4) (i := i) (j := j)
  generalize hI:scanUp (fun x => ltInt x d4[a]!) d4 j i = I2 at *
  refine gZ ?_
  refine t_loopB (fun mm vs h' => ∃ t:Nat,vs = [.int .i64 t] /\ t = mm /\ t <= j /\ g4 = h' /\ scanDown (fun x => !ltInt x d4[a]!) d4 I2 t = scanDown (fun x => !ltInt x d4[a]!) d4 I2 j)
   (fun vs h' => g4 = h' /\ vs = [.int .i64 ((scanDown (fun x => !ltInt x d4[a]!) d4 I2 j:Nat):Int)]) ⟨j,rfl,rfl,Nat.le_refl _,rfl,rfl⟩ ?_ ?_
  ·rintro Y2 mm vs _ hY2 ⟨t,rfl,rfl,hj0,rfl,hs⟩
   refine gZ ?_
   refine t_if (fun ec => ?_) (fun ec => ?_)
   ·obtain ⟨t,rfl⟩ : ∃ k,t = k + 1 := ⟨t - 1,by omega⟩
    have y1 := s4.cell (i := t + 1) (by omega)
    have y2 := s4.cell (i := a) (by omega)
    refine gZ ?_
    refine t_pu (c2111 _ _) ?_
    refine gZ ?_
    refine t_cond (fun e3 => ?_) (fun e3 => ?_)
    ·refine gZ ?_
     rw [wpred (by omega)]
     exact t_again (hY2 t _ _ (by omega) ⟨t,rfl,rfl,by omega,rfl,(down_go (p := (fun x => !ltInt x d4[a]!)) (d := d4) (i := I2) (j := t) (by omega) e3).symm.trans hs⟩)
    ·refine gZ ?_
     exact ⟨rfl,by rw [<- hs,down_stop (p := (fun x => !ltInt x d4[a]!)) (d := d4) (i := I2) (j := t + 1) (by omega) fun hh => absurd (Eq.trans e3.symm hh.2) (by simp)]⟩
   ·refine gZ ?_
    exact ⟨rfl,by rw [<- hs,down_stop (p := (fun x => !ltInt x d4[a]!)) (d := d4) (i := I2) (j := t) (by omega) fun hh => ec (by omega)]⟩
  rintro vs _ ⟨rfl,rfl⟩
  have v1 := scanDown_le (fun x => !ltInt x d4[a]!) d4 I2 j
  have v2 := (scanDown_spec (fun x => !ltInt x d4[a]!) d4 I2 j).2.1
  have v3:j < I2 -> scanDown (fun x => !ltInt x d4[a]!) d4 I2 j = j := fun hlt => down_stop (by omega) fun hh => by omega
  generalize hJ:scanDown (fun x => !ltInt x d4[a]!) d4 I2 j = J2 at *
  refine gZ ?_
  refine t_if (fun e1 => ?_) (fun e1 => ?_)
  ·rw [if_pos (show I2 > J2 by omega)] at hR4
   refine gZ ?_
   subst hR4
   exact ⟨_,rfl,by simp only []; omega,by simp only []; omega,s4,z4⟩
  ·rw [if_neg (show ¬ I2 > J2 by omega)] at hR4
   have y1 := s4.cell (i := J2) (by omega)
   have y2 := s4.cell (i := I2) (by omega)
   refine gZ ?_
   refine t_storeD s4 (i := I2) (by omega) fun g5 r5 => ?_
   refine gZ ?_
   refine t_storeD r5 (i := J2) (by rw [Array.size_setIfInBounds]; omega) fun k5 q5 => ?_
   have Q5:DSt h r el N (swp d4 I2 J2) k5 := q5
   clear q5 r5 y1 y2
   obtain ⟨J2,rfl⟩ : ∃ k,J2 = k + 1 := ⟨J2 - 1,by omega⟩
   rw [wpred (by omega),wsucc (by omega)]
   exact t_again (hY (J2 + 1 - (I2 + 1)) _ _ (by omega) ⟨I2 + 1,J2,_,rfl,rfl,by omega,by omega,by omega,by omega,Q5,by rw [swp_sz]; exact z4,hR4⟩)
 rintro vs g6 ⟨i,rfl,hR1,hR2,s6,z6⟩
 refine gZ ?_
 have y1 := s6.cell (i := a) (by omega)
 have y2 := s6.cell (i := R.1) (by omega)
 refine gZ ?_
 refine t_storeD s6 (i := R.1) (by omega) fun g7 r7 => ?_
 refine gZ ?_
 refine t_storeD r7 (i := a) (by rw [Array.size_setIfInBounds]; omega) fun k7 q7 => ?_
 have Q7:DSt h r el N (swp R.2 R.1 a) k7 := q7
 clear q7 r7 y1 y2
 exact t_ret ⟨rfl,Q7⟩
set_option maxRecDepth 20000 in
theorem c2112 {pivot:Nat} (s:DSt h r el N d h1) (hp:a <= pivot /\ pivot < b) (hb:b <= d.size) (hN:d.size < 2 ^ 30) :
  FW X0 Tryz.prog 200 #[.slice (some ⟨r,0,none⟩) d.size c,.int .i64 a,.int .i64 b,.int .i64 pivot] h1 fun v h' => v = .int .i64 ((partitionEqual ltInt d a b pivot).1:Nat) /\ DSt h r el N (partitionEqual ltInt d a b pivot).2 h' := by
 refine w2112 _ _ _ _ _ _ X0_ok ?_
 unfold n2112
 have y1 := s.cell (i := pivot) (by omega)
 have y2 := s.cell (i := a) (by omega)
 refine gZ ?_
 refine t_storeD s (i := a) (by omega) fun g1 r1 => ?_
 refine gZ ?_
 refine t_storeD r1 (i := pivot) (by rw [Array.size_setIfInBounds]; omega) fun k1 q1 => ?_
 have Q1:DSt h r el N (swp d a pivot) k1 := q1
 clear q1 r1 y1 y2
 obtain ⟨e,rfl⟩ : ∃ k,b = k + 1 := ⟨b - 1,by omega⟩
 have part:partitionEqual ltInt d a (e + 1) pivot = partEqLoop ltInt a (a + 1) e (swp d a pivot) := rfl
 rw [part]
 have z1 := swp_sz d a pivot
 generalize hD:swp d a pivot = D at *
 rw [<- z1] at hb hN ⊢
 clear s hD part
 rw [wpred (by omega),wsucc (by omega)]
 generalize hR:partEqLoop ltInt a (a + 1) e D = R
 refine t_loopB (fun mm vs h' => ∃ (i j:Nat) (d':Array Int),vs = [.int .i64 i,.int .i64 j] /\ mm = j + 1 - i /\ a < i /\ i <= j + 2 /\ a <= j /\ j <= e /\ DSt h r el N d' h' /\ d'.size = D.size /\ partEqLoop ltInt a i j d' = R)
  (fun vs h' => ∃ (j:Int),vs = [.int .i64 (R.1:Nat),.int .i64 j] /\ DSt h r el N R.2 h') ⟨a + 1,e,D,rfl,rfl,by omega,by omega,by omega,by omega,Q1,rfl,hR⟩ ?_ ?_
 ·rintro Y mm vs g4 hY ⟨i,j,d4,rfl,rfl,hai,hij,haj,hje,s4,z4,hR4⟩
  rw [partEqLoop_eq] at hR4
  refine gZ ?_
  refine t_loopB (fun mm vs h' => ∃ t:Nat,vs = [.int .i64 t] /\ mm = j + 1 - t /\ i <= t /\ t <= j + 2 /\ g4 = h' /\ scanUp (fun x => !ltInt d4[a]! x) d4 j t = scanUp (fun x => !ltInt d4[a]! x) d4 j i)
   (fun vs h' => g4 = h' /\ vs = [.int .i64 ((scanUp (fun x => !ltInt d4[a]! x) d4 j i:Nat):Int)]) ⟨i,rfl,rfl,Nat.le_refl _,by omega,rfl,rfl⟩ ?_ ?_
  ·rintro Y2 mm vs _ hY2 ⟨t,rfl,rfl,hi0,hi1,rfl,hs⟩
   refine gZ ?_
   refine t_if (fun ec => ?_) (fun ec => ?_)
   ·have y1 := s4.cell (i := t) (by omega)
    have y2 := s4.cell (i := a) (by omega)
    refine gZ ?_
    refine t_pu (c2111 _ _) ?_
    refine gZ ?_
    refine t_cond (fun e3 => ?_) (fun e3 => ?_)
    ·refine gZ ?_
     rw [wsucc (by omega)]
     exact t_again (hY2 (j + 1 - (t + 1)) _ _ (by omega) ⟨t + 1,rfl,rfl,by omega,by omega,rfl,(up_go (p := (fun x => !ltInt d4[a]! x)) (d := d4) (i := t) (j := j) (by omega) e3).symm.trans hs⟩)
    ·refine gZ ?_
     exact ⟨rfl,by rw [<- hs,up_stop (p := (fun x => !ltInt d4[a]! x)) (d := d4) (i := t) (j := j) fun hh => absurd (Eq.trans e3.symm hh.2) (by simp)]⟩
   ·refine gZ ?_
    exact ⟨rfl,by rw [<- hs,up_stop (p := (fun x => !ltInt d4[a]! x)) (d := d4) (i := t) (j := j) fun hh => ec (by omega)]⟩
  rintro vs _ ⟨rfl,rfl⟩
  obtain ⟨u1,u2⟩ := up_bound' (p := (fun x => !ltInt d4[a]! x)) (d := d4) (i := i) (j := j)
  generalize hI:scanUp (fun x => !ltInt d4[a]! x) d4 j i = I2 at *
  refine gZ ?_
  refine t_loopB (fun mm vs h' => ∃ t:Nat,vs = [.int .i64 t] /\ t = mm /\ t <= j /\ g4 = h' /\ scanDown (fun x => ltInt d4[a]! x) d4 I2 t = scanDown (fun x => ltInt d4[a]! x) d4 I2 j)
   (fun vs h' => g4 = h' /\ vs = [.int .i64 ((scanDown (fun x => ltInt d4[a]! x) d4 I2 j:Nat):Int)]) ⟨j,rfl,rfl,Nat.le_refl _,rfl,rfl⟩ ?_ ?_
  ·rintro Y2 mm vs _ hY2 ⟨t,rfl,rfl,hj0,rfl,hs⟩
   refine gZ ?_
   refine t_if (fun ec => ?_) (fun ec => ?_)
   ·obtain ⟨t,rfl⟩ : ∃ k,t = k + 1 := ⟨t - 1,by omega⟩
    have y1 := s4.cell (i := t + 1) (by omega)
    have y2 := s4.cell (i := a) (by omega)
    refine gZ ?_
    refine t_pu (c2111 _ _) ?_
    refine gZ ?_
    refine t_cond (fun e3 => ?_) (fun e3 => ?_)
    ·refine gZ ?_
     rw [wpred (by omega)]
     exact t_again (hY2 t _ _ (by omega) ⟨t,rfl,rfl,by omega,rfl,(down_go (p := (fun x => ltInt d4[a]! x)) (d := d4) (i := I2) (j := t) (by omega) e3).symm.trans hs⟩)
    ·refine gZ ?_
     exact ⟨rfl,by rw [<- hs,down_stop (p := (fun x => ltInt d4[a]! x)) (d := d4) (i := I2) (j := t + 1) (by omega) fun hh => absurd (Eq.trans e3.symm hh.2) (by simp)]⟩
   ·refine gZ ?_
    exact ⟨rfl,by rw [<- hs,down_stop (p := (fun x => ltInt d4[a]! x)) (d := d4) (i := I2) (j := t) (by omega) fun hh => ec (by omega)]⟩
  rintro vs _ ⟨rfl,rfl⟩
  have v1 := scanDown_le (fun x => ltInt d4[a]! x) d4 I2 j
  have v2 := (scanDown_spec (fun x => ltInt d4[a]! x) d4 I2 j).2.1
  have v3:j < I2 -> scanDown (fun x => ltInt d4[a]! x) d4 I2 j = j := fun hlt => down_stop (by omega) fun hh => by omega
  generalize hJ:scanDown (fun x => ltInt d4[a]! x) d4 I2 j = J2 at *
  refine gZ ?_
  refine t_if (fun e1 => ?_) (fun e1 => ?_)
  ·rw [if_pos (show I2 > J2 by omega)] at hR4
   refine gZ ?_
   subst hR4
   exact ⟨_,rfl,s4⟩
  ·rw [if_neg (show ¬ I2 > J2 by omega)] at hR4
   have y1 := s4.cell (i := J2) (by omega)
   have y2 := s4.cell (i := I2) (by omega)
   refine gZ ?_
   refine t_storeD s4 (i := I2) (by omega) fun g5 r5 => ?_
   refine gZ ?_
   refine t_storeD r5 (i := J2) (by rw [Array.size_setIfInBounds]; omega) fun k5 q5 => ?_
   have Q5:DSt h r el N (swp d4 I2 J2) k5 := q5
   clear q5 r5 y1 y2
   obtain ⟨J2,rfl⟩ : ∃ k,J2 = k + 1 := ⟨J2 - 1,by omega⟩
   rw [wpred (by omega),wsucc (by omega)]
   exact t_again (hY (J2 + 1 - (I2 + 1)) _ _ (by omega) ⟨I2 + 1,J2,_,rfl,rfl,by omega,by omega,by omega,by omega,Q5,by rw [swp_sz]; exact z4,hR4⟩)
 rintro vs g6 ⟨j,rfl,s6⟩
 refine gZ ?_
 exact t_ret ⟨rfl,s6⟩
theorem scanS_bound (b:Nat) (d:Array Int):∀ (n i:Nat),b - i <= n -> i <= b -> i <= scanSorted ltInt d b i /\ scanSorted ltInt d b i <= b := by
 intro n
 induction n with
 | zero =>
  intro i h1 h2
  rw [scanSorted,decide_eq_false (by omega),Bool.false_and,if_neg (by simp)]
  omega
 | succ n ih =>
  intro i h1 h2
  rw [scanSorted]
  split
  ·rename_i hc
   simp only [Bool.and_eq_true,decide_eq_true_eq] at hc
   have := ih (i + 1) (by omega) (by omega)
   omega
  ·omega
theorem c2110 (s:DSt h r el N d h1) (hab:a < b) (hb:b <= d.size) (h50:b < 50) (hN:d.size < 2 ^ 30) :
  FW X0 Tryz.prog 198 #[.slice (some ⟨r,0,none⟩) d.size c,.int .i64 a,.int .i64 b] h1 fun v h' => v = .bool (partialInsertionSort ltInt d a b).2 /\ DSt h r el N (partialInsertionSort ltInt d a b).1 h' := by
 refine w2110 _ _ _ _ _ X0_ok ?_
 unfold n2110
 have pis:partialInsertionSort ltInt d a b = if scanSorted ltInt d b (a + 1) = b then (d,true) else (d,false) := by
  unfold partialInsertionSort
  rw [partialIns]
  simp only []
  rw [if_pos (show b - a < 50 by omega)]
 rw [pis]
 rw [wsucc (by omega)]
 refine t_loop (fun mm vs h' => mm = 0 /\ vs = [.bool false,.int .i64 ((a + 1:Nat):Int),.int .i64 0] /\ h1 = h') ⟨rfl,rfl,rfl⟩ ?_
 rintro Y mm vs _ hY ⟨rfl,rfl,rfl⟩
 refine gZ ?_
 refine t_if (fun _ => ?_) (fun e => absurd e (by omega))
 refine t_loopB (fun mm vs h' => ∃ i:Nat,vs = [.int .i64 i] /\ mm = b - i /\ a + 1 <= i /\ i <= b /\ h1 = h' /\ scanSorted ltInt d b i = scanSorted ltInt d b (a + 1))
  (fun vs h' => h1 = h' /\ vs = [.int .i64 ((scanSorted ltInt d b (a + 1):Nat):Int)]) ⟨a + 1,rfl,rfl,Nat.le_refl _,by omega,rfl,rfl⟩ ?_ ?_
 ·rintro Y2 mm vs _ hY2 ⟨i,rfl,rfl,hi0,hi1,rfl,hs⟩
  refine gZ ?_
  refine t_if (fun ec => ?_) (fun ec => ?_)
  ·obtain ⟨i,rfl⟩ : ∃ k,i = k + 1 := ⟨i - 1,by omega⟩
   have y1 := s.cell (i := i + 1) (by omega)
   have y2 := s.cell (i := i) (by omega)
   rw [wpred (by omega)]
   have hst:scanSorted ltInt d b (i + 1) = if (decide (i + 1 < b) && !ltInt d[i + 1]! d[i]!) = true then scanSorted ltInt d b (i + 1 + 1) else i + 1 := by rw [scanSorted]; rfl
   rw [hst] at hs
   refine gZ ?_
   refine t_pu (c2111 _ _) ?_
   refine gZ ?_
   refine t_cond (fun e3 => ?_) (fun e3 => ?_)
   ·refine gZ ?_
    rw [e3,decide_eq_true (by omega),Bool.true_and,if_pos rfl] at hs
    rw [wsucc (by omega)]
    exact t_again (hY2 (b - (i + 1 + 1)) _ _ (by omega) ⟨i + 1 + 1,rfl,rfl,by omega,by omega,rfl,hs⟩)
   ·refine gZ ?_
    rw [e3,Bool.and_false,if_neg (by simp)] at hs
    exact ⟨rfl,by rw [<- hs]⟩
  ·refine gZ ?_
   have hst:scanSorted ltInt d b i = i := by rw [scanSorted,decide_eq_false (by omega),Bool.false_and,if_neg (by simp)]
   rw [hst] at hs
   exact ⟨rfl,by rw [<- hs]⟩
 rintro vs _ ⟨rfl,rfl⟩
 have hbd := scanS_bound b d _ (a + 1) (Nat.le_refl _) (by omega)
 generalize scanSorted ltInt d b (a + 1) = S at *
 refine gZ ?_
 refine t_cond (fun e => ?_) (fun e => ?_)
 ·refine gZ ?_
  rw [if_pos (by have := of_decide_eq_true (p := (S:Int) = b) (by simpa using e); omega)]
  exact t_ret ⟨rfl,s⟩
 ·rw [wsub (i := b) (j := a) (by omega) (by omega)]
  refine t_if (fun _ => ?_) (fun e => absurd e (by omega))
  refine gZ ?_
  rw [if_neg (by rintro rfl; simp at e)]
  exact t_ret ⟨rfl,s⟩
end Go.Proofs.YtfkfohpnpljihaaGreatDoor
end
section
namespace Go.TM
open Go Go.Conc Go.Sort
variable {P:Program} {X:XP} {Q:Leaf -> LH -> Prop}
theorem t_indexStrE {h:LH} {K:Value -> T} {t:TypeId} {s:ByteArray} {i b:Nat} (hu:P.underlying t = some .string) (hs:s.size = 256) (hi:i < 256) (hv:(s.data[i]?).map UInt8.toNat = some b) (hk:(K (.int .u8 (b:Int))).wp X P Q h):(T.sem false (Instr.index t (.string s) (.int .u8 (i:Int))) K).wp X P Q h := by
 refine t_sem (A := fun w h' => h' = h.get /\ w = .int .u8 (b:Int)) ?_ (by rintro w h' ⟨rfl,rfl⟩; exact hk)
 unfold Instr.index
 simp only [asIntOf,lwp_bind,lwp_pure,lwp_underlying hu]
 have h1:s[(i:Int).toNat]? = some (s[i]'(by omega)) := by
  rw [Int.toNat_natCast]; exact getElem?_pos s i (by omega)
 have hd:i < s.data.size := by have:s.data.size = s.size := rfl; omega
 rw [Array.getElem?_eq_getElem hd] at hv
 simp only [Option.map_some,Option.some.injEq] at hv
 rw [if_pos (by omega),h1]
 refine ⟨rfl,?_⟩
 rw [<- hv]; rfl
theorem tab_of {s:ByteArray} (h:((List.range 64).all fun i => (s.data[i]?).map UInt8.toNat == some (bitsLen i)) = true) {i:Nat} (hi:i < 64):(s.data[i]?).map UInt8.toNat = some (bitsLen i) :=
 eq_of_beq (List.all_eq_true.1 h i (List.mem_range.2 hi))
theorem wrap_u64 {n:Int} (h1:0 <= n) (h2:n < 18446744073709551616):IntKind.u64.wrap n = n := by
 have e1:(2 ^ IntKind.u64.bits:Int) = 18446744073709551616 := rfl
 simp only [IntKind.wrap,e1,show IntKind.u64.signed = false from rfl,Bool.false_and,Bool.false_eq_true,if_false]
 omega
theorem wrap_u64m (n:Nat):IntKind.u64.wrap (n:Int) = ((n % 18446744073709551616:Nat):Int) := by
 have e1:(2 ^ IntKind.u64.bits:Int) = 18446744073709551616 := rfl
 simp only [IntKind.wrap,e1,show IntKind.u64.signed = false from rfl,Bool.false_and,Bool.false_eq_true,if_false]
 omega
theorem bv_nat {x:Nat}:BitVec.ofInt 64 (x:Int) = BitVec.ofNat 64 x := by
 apply BitVec.eq_of_toNat_eq
 simp [BitVec.toNat_ofNat]
theorem xor_u64 {x y:Nat} (hx:x < 18446744073709551616) (hy:y < 18446744073709551616):IntKind.u64.wrap ((BitVec.ofInt 64 (x:Int) ^^^ BitVec.ofInt 64 (y:Int)).toNat:Int) = ((x ^^^ y:Nat):Int) := by
 have hb:x ^^^ y < 2 ^ 64 := Nat.xor_lt_two_pow (by omega) (by omega)
 rw [bv_nat,bv_nat,BitVec.toNat_xor,BitVec.toNat_ofNat,BitVec.toNat_ofNat,Nat.mod_eq_of_lt (by omega),Nat.mod_eq_of_lt (by omega),wrap_u64 (by omega) (by omega)]
theorem and_u64 {x y:Nat} (hx:x < 18446744073709551616) (hy:y < 18446744073709551616):IntKind.u64.wrap ((BitVec.ofInt 64 (x:Int) &&& BitVec.ofInt 64 (y:Int)).toNat:Int) = ((x &&& y:Nat):Int) := by
 have hb:x &&& y <= x := Nat.and_le_left
 rw [bv_nat,bv_nat,BitVec.toNat_and,BitVec.toNat_ofNat,BitVec.toNat_ofNat,Nat.mod_eq_of_lt (by omega),Nat.mod_eq_of_lt (by omega),wrap_u64 (by omega) (by omega)]
end Go.TM
namespace Go.Proofs.YtfkfohpnpljihaaGreatDoor
open Go Go.TM Go.Proofs Go.Sort
attribute [local irreducible] T.wp CV FWK
variable {h h1:LH} {r N c:Nat} {el:TypeId} {d:Array Int} {a b:Nat}
theorem bitsLen_small {x:Nat} (hx:x < 64):bitsLen x <= 6 := (bitsLen_le_iff x 6).2 (by omega)
set_option maxRecDepth 100000 in
theorem c2115 {h:LH} {x:Nat} (hx:x < 64):Pu Tryz.prog 203 #[.int .u64 (x:Int)] h (.int .i64 (bitsLen x:Nat)) := by
 refine w2115 _ X0_ok ?_
 unfold n2115
 refine t_blk (fun vs h' => vs = [.int .u64 (x:Int),.int .i64 0] /\ h = h') ?_ ?_
 ·refine t_if (fun e => by omega) (fun e => ?_)
  exact t_again ⟨rfl,rfl⟩
 rintro vs _ ⟨rfl,rfl⟩
 refine gZ ?_
 refine t_blk (fun vs h' => vs = [.int .u64 (x:Int),.int .i64 0] /\ h = h') ?_ ?_
 ·refine t_if (fun e => by omega) (fun e => ?_)
  exact t_again ⟨rfl,rfl⟩
 rintro vs _ ⟨rfl,rfl⟩
 refine gZ ?_
 refine t_if (fun e => by omega) (fun e => ?_)
 have hw:IntKind.wrap .u8 (x:Int) = (x:Int) := by
  have e1:(2 ^ IntKind.u8.bits:Int) = 256 := rfl
  simp only [IntKind.wrap,e1,show IntKind.u8.signed = false from rfl,Bool.false_and,Bool.false_eq_true,if_false]
  omega
 rw [hw]
 refine t_indexStrE (by kernel_rfl) (by kernel_rfl) (by omega) (tab_of (by kernel_rfl) hx) ?_
 refine gZ ?_
 have hb := bitsLen_small hx
 rw [wrap_id (n := ((bitsLen x:Nat):Int)) (by omega) (by omega),wrap_id (by omega) (by omega),Int.zero_add]
 exact t_ret ⟨rfl,rfl⟩
theorem c2102 {h:LH} {x:Nat} (hx:x < 64):Pu Tryz.prog 173 #[.int .u64 (x:Int)] h (.int .i64 (bitsLen x:Nat)) := by
 refine w2102 _ X0_ok ?_
 unfold n2102
 refine t_pu (c2115 hx) ?_
 refine gZ ?_
 exact t_ret ⟨rfl,rfl⟩
theorem c2117 {h:LH} {x:Nat} (hx:x < 64):Pu Tryz.prog 209 #[.int .i64 (x:Int)] h (.int .u64 ((2 ^ bitsLen x:Nat):Int)) := by
 refine w2117 _ X0_ok ?_
 unfold n2117
 rw [wrap_u64 (n := (x:Int)) (by omega) (by omega)]
 refine t_pu (c2102 hx) ?_
 refine gZ ?_
 have hb := bitsLen_small hx
 have h64:2 ^ bitsLen x <= 2 ^ 6 := Nat.pow_le_pow_right (by omega) hb
 have e:(1:Int) * 2 ^ min ((bitsLen x:Nat):Int).toNat 64 = ((2 ^ bitsLen x:Nat):Int) := by
  rw [Int.toNat_natCast,Nat.min_eq_left (by omega),Int.one_mul]
  norm_cast
 rw [e]
 clear e
 generalize 2 ^ bitsLen x = M at *
 rw [wrap_u64 (n := (M:Int)) (by omega) (by omega)]
 exact t_ret ⟨rfl,rfl⟩
/-! ### Chance -/
theorem c2118 {h:LH} {q:Nat} {R:Nat} (hq:h.get q = some (true,.cells #[.int .u64 (R:Int)] 301 (0,0))) (hR:R < 18446744073709551616) :
  FW X0 Tryz.prog 210 #[.pointer (some ⟨q,0,none⟩)] h fun v h' => v = .int .u64 ((xorNextN R:Nat):Int) /\ h' = { h with get := h.get.upd q (true,.cells #[.int .u64 ((xorNextN R:Nat):Int)] 301 (0,0)) } := by
 have cell:∀ {g:LH} {x:Int},g.get q = some (true,.cells #[.int .u64 x] 301 (0,0)) -> g.get.cell? ⟨q,0,none⟩ = some (.int .u64 x) := fun hg => by
  unfold Cells.cell?
  rw [hg]; rfl
 have st:∀ {g g':LH} {x:Int},Turn1 q g g' -> g'.get q = some (true,.cells #[.int .u64 x] 301 (0,0)) -> g' = { g with get := g.get.upd q (true,.cells #[.int .u64 x] 301 (0,0)) } := fun {g g' x} t e => by
  obtain ⟨gg,c,p,d⟩ := g'
  obtain ⟨k1,k2,k3,k4⟩ := t
  have eg:gg = g.get.upd q (true,.cells #[.int .u64 x] 301 (0,0)) := by
   funext b
   by_cases eb:b = q
   ·subst eb; rw [Cells.upd_self]; exact e
   ·rw [Cells.upd_ne _ _ eb]; exact k1 b eb
  subst eg
  cases k2; cases k3; cases k4
  rfl
 have m1:IntKind.u64.wrap ((R:Int) * 2 ^ 13) = ((R * 8192 % 18446744073709551616:Nat):Int) := by rw [show (R:Int) * 2 ^ 13 = ((R * 8192:Nat):Int) by omega,wrap_u64m]
 have b1:R ^^^ (R * 8192 % 18446744073709551616) < 2 ^ 64 := Nat.xor_lt_two_pow (by omega) (by omega)
 have y0 := cell hq
 refine w2118 _ X0_ok ?_
 unfold n2118
 refine gZ ?_
 rw [m1,xor_u64 hR (by omega)]
 have hx:xorNextN R = ((R ^^^ (R * 8192 % 18446744073709551616)) ^^^ ((R ^^^ (R * 8192 % 18446744073709551616)) / 128)) ^^^ (((R ^^^ (R * 8192 % 18446744073709551616)) ^^^ ((R ^^^ (R * 8192 % 18446744073709551616)) / 128)) * 131072 % 18446744073709551616) := rfl
 rw [hx]
 generalize R ^^^ (R * 8192 % 18446744073709551616) = A at *
 refine t_storeC (r := q) (j := 0) (by rw [add_plain]) hq (by simp) rfl fun g1 t1 e1 => ?_
 have y1 := cell e1
 have m2:Int.fdiv (A:Int) (2 ^ 7) = ((A / 128:Nat):Int) := by
  rw [Int.fdiv_eq_ediv_of_nonneg _ (by omega)]; omega
 have b2:A ^^^ (A / 128) < 2 ^ 64 := Nat.xor_lt_two_pow b1 (by omega)
 refine gZ ?_
 rw [m2,xor_u64 (by omega) (by omega)]
 generalize A ^^^ (A / 128) = B at *
 refine t_storeC (r := q) (j := 0) (by rw [add_plain]) e1 (by simp) rfl fun g2 t2 e2 => ?_
 have y2 := cell e2
 have m3:IntKind.u64.wrap ((B:Int) * 2 ^ 17) = ((B * 131072 % 18446744073709551616:Nat):Int) := by rw [show (B:Int) * 2 ^ 17 = ((B * 131072:Nat):Int) by omega,wrap_u64m]
 refine gZ ?_
 rw [m3,xor_u64 (by omega) (by omega)]
 refine t_storeC (r := q) (j := 0) (by rw [add_plain]) e2 (by simp) rfl fun g3 t3 e3 => ?_
 have y3 := cell e3
 refine gZ ?_
 exact t_ret ⟨rfl,st ((t1.trans t2).trans t3) e3⟩
end Go.Proofs.YtfkfohpnpljihaaGreatDoor
end
section
namespace Go.Proofs.YtfkfohpnpljihaaGreatDoor
open Go Go.TM Go.Proofs Go.Sort
attribute [local irreducible] T.wp CV FWK
variable {h h1:LH} {r N c:Nat} {el:TypeId} {d:Array Int} {a b:Nat}
def bpRest (a L M i0:Nat):Nat -> Nat -> UInt64 × Array Int -> UInt64 × Array Int
 | 0,_,st => st
 | k + 1,t,st => bpRest a L M i0 k (t + 1) (breakStep a L M st (i0 + t))
set_option maxRecDepth 20000 in
theorem c2107 (s:DSt h r el N d h1) (hab:a + 12 < b) (hb:b <= d.size) (h50:d.size < 50) :
  FW X0 Tryz.prog 195 #[.slice (some ⟨r,0,none⟩) d.size c,.int .i64 a,.int .i64 b] h1 fun v h' => v = .tuple #[] /\ DSt h r el N (breakPatterns d a b) h' := by
 refine w2107 _ _ _ _ _ X0_ok ?_
 unfold n2107
 rw [wsub (i := b) (j := a) (by omega) (by omega)]
 refine t_if (fun _ => ?_) (fun e => absurd e (by omega))
 have hbp:breakPatterns d a b = (bpRest a (b - a) (1 <<< bitsLen (b - a)) (a + ((b - a) / 4) * 2 - 1) 3 0 (UInt64.ofNat (b - a),d)).2 := by
  unfold breakPatterns
  simp only []
  rw [if_pos (show b - a >= 8 by omega)]
  rfl
 rw [hbp]
 rw [wrap_u64 (n := ((b - a:Nat):Int)) (by omega) (by omega)]
 refine t_newBox (fun _ => rfl) fun q hq => ?_
 have hqr:r ≠ q := by
  obtain ⟨cs,h2,_⟩ := s.cells
  rintro rfl
  rw [h2] at hq; cases hq
 have hq0:h.get q = none := by
  cases hx:h.get q with
  | none => rfl
  | some y => rw [s.keep q y (Ne.symm hqr) hx] at hq; cases hq
 have s1 := s.more (x := (true,.cells #[.int .u64 ((b - a:Nat):Int)] 301 (0,0))) hq
 generalize hh2:({ h1 with get := h1.get.upd q (true,.cells #[.int .u64 ((b - a:Nat):Int)] 301 (0,0)) }:LH) = h2 at *
 have k2:h2.get q = some (true,.cells #[.int .u64 ((b - a:Nat):Int)] 301 (0,0)) := by rw [<- hh2]; exact Cells.upd_self _ _ _
 refine t_pu (c2117 (x := b - a) (by omega)) ?_
 have hL6 := bitsLen_small (x := b - a) (by omega)
 have hM2 := two_pow_bitsLen_le (n := b - a) (by omega)
 have hM0:0 < 2 ^ bitsLen (b - a) := Nat.pow_pos (by omega)
 rw [Nat.one_shiftLeft]
 generalize 2 ^ bitsLen (b - a) = M at *
 have w4:wrap .i64 (Int.tdiv ((b - a:Nat):Int) 4) = (((b - a) / 4:Nat):Int) := by
  have:Int.tdiv ((b - a:Nat):Int) 4 = (((b - a) / 4:Nat):Int) := by
   rw [Int.tdiv_eq_ediv_of_nonneg (by omega)]; omega
  rw [this,wrap_id (by omega) (by omega)]
 have w5:wrap .i64 ((((b - a) / 4:Nat):Int) * 2) = (((b - a) / 4 * 2:Nat):Int) := by rw [wrap_id (by omega) (by omega)]; omega
 have w6:wrap .i64 ((a:Int) + (((b - a) / 4 * 2:Nat):Int)) = ((a + (b - a) / 4 * 2:Nat):Int) := wadd (by omega)
 have w7:wrap .i64 (((a + (b - a) / 4 * 2:Nat):Int) - 1) = ((a + (b - a) / 4 * 2 - 1:Nat):Int) := by rw [wrap_id (by omega) (by omega)]; omega
 have w8:wrap .i64 (((a + (b - a) / 4 * 2:Nat):Int) + 1) = ((a + (b - a) / 4 * 2 + 1:Nat):Int) := wsucc (by omega)
 rw [w4,w5,w6,w7,w8]
 have hM1:IntKind.u64.wrap ((M:Int) - 1) = ((M - 1:Nat):Int) := by rw [wrap_u64 (by omega) (by omega)]; omega
 refine gZ ?_
 refine t_loop (fun mm vs h' => ∃ (t:Nat) (st:UInt64 × Array Int),vs = [.int .i64 ((a + (b - a) / 4 * 2 - 1 + t:Nat):Int)] /\ mm = 3 - t /\ t <= 3 /\ DSt h r el N st.2 h' /\ st.2.size = d.size /\ h'.get q = some (true,.cells #[.int .u64 (st.1.toNat:Int)] 301 (0,0)) /\
   (bpRest a (b - a) M (a + (b - a) / 4 * 2 - 1) (3 - t) t st).2 = (bpRest a (b - a) M (a + (b - a) / 4 * 2 - 1) 3 0 (UInt64.ofNat (b - a),d)).2)
  ⟨0,(UInt64.ofNat (b - a),d),rfl,rfl,by omega,s1,rfl,?_,rfl⟩ ?_
 ·rw [k2,show ((UInt64.ofNat (b - a),d):UInt64 × Array Int).1 = UInt64.ofNat (b - a) from rfl,UInt64.toNat_ofNat',Nat.mod_eq_of_lt (by omega)]
 rintro Y mm vs g1 hY ⟨t,st,rfl,rfl,ht,s2,z2,kq,heq⟩
 refine gZ ?_
 refine t_if (fun e1 => ?_) (fun e1 => ?_)
 ·obtain ⟨k,hk⟩ : ∃ k,3 - t = k + 1 := ⟨3 - t - 1,by omega⟩
  rw [hk] at heq
  have hR := st.1.toNat_lt
  refine t_call (c2118 kq (by omega)) ?_
  rintro _ _ ⟨rfl,rfl⟩
  rw [<- xorNext_toNat st.1]
  have hR2 := (xorNext st.1).toNat_lt
  have hst:breakStep a (b - a) M st (a + (b - a) / 4 * 2 - 1 + t) = (xorNext st.1,swp st.2 (a + (b - a) / 4 * 2 - 1 + t) (a + (if (xorNext st.1).toNat &&& (M - 1) >= b - a then ((xorNext st.1).toNat &&& (M - 1)) - (b - a) else (xorNext st.1).toNat &&& (M - 1)))) := rfl
  rw [bpRest,hst] at heq
  have s3:DSt h r el N st.2 { g1 with get := g1.get.upd q (true,.cells #[.int .u64 ((xorNext st.1).toNat:Int)] 301 (0,0)) } := by
   obtain ⟨cs,c1,c2⟩ := s2.cells
   refine ⟨fun b' y hb' hy => ?_,s2.rest,cs,?_,c2⟩
   ·have:b' ≠ q := by rintro rfl; rw [hq0] at hy; cases hy
    show g1.get.upd q _ b' = _
    rw [Cells.upd_ne _ _ this]; exact s2.keep b' y hb' hy
   ·show g1.get.upd q _ r = _
    rw [Cells.upd_ne _ _ hqr]; exact c1
  have kq3:({ g1 with get := g1.get.upd q (true,.cells #[.int .u64 ((xorNext st.1).toNat:Int)] 301 (0,0)) }:LH).get q = some (true,.cells #[.int .u64 ((xorNext st.1).toNat:Int)] 301 (0,0)) := Cells.upd_self _ _ _
  generalize ({ g1 with get := g1.get.upd q (true,.cells #[.int .u64 ((xorNext st.1).toNat:Int)] 301 (0,0)) }:LH) = g2 at *
  refine gZ ?_
  rw [hM1,and_u64 (by omega) (by omega)]
  have hand:(xorNext st.1).toNat &&& (M - 1) <= M - 1 := Nat.and_le_right
  generalize hO:(xorNext st.1).toNat &&& (M - 1) = O at *
  rw [wrap_id (n := (O:Int)) (by omega) (by omega)]
  refine t_blk (fun vs h' => vs = [.int .i64 ((if O >= b - a then O - (b - a) else O:Nat):Int)] /\ g2 = h') ?_ ?_
  ·refine t_if (fun e2 => ?_) (fun e2 => ?_)
   ·rw [wsub (i := O) (j := b - a) (by omega) (by omega),if_pos (by omega)]
    exact t_again ⟨rfl,rfl⟩
   ·rw [if_neg (by omega)]
    exact t_again ⟨rfl,rfl⟩
  rintro vs _ ⟨rfl,rfl⟩
  have hov:(if O >= b - a then O - (b - a) else O) < b - a := by split <;> omega
  generalize (if O >= b - a then O - (b - a) else O) = V at *
  refine gZ ?_
  rw [wadd (i := a) (j := V) (by omega)]
  have y1 := s3.cell (i := a + V) (by omega)
  have y2 := s3.cell (i := a + (b - a) / 4 * 2 - 1 + t) (by omega)
  refine gZ ?_
  refine t_storeD' s3 (i := a + (b - a) / 4 * 2 - 1 + t) (by omega) fun g3 r3 kk3 => ?_
  refine gZ ?_
  refine t_storeD' r3 (i := a + V) (by rw [Array.size_setIfInBounds]; omega) fun g4 r4 kk4 => ?_
  have R4:DSt h r el N (swp st.2 (a + (b - a) / 4 * 2 - 1 + t) (a + V)) g4 := r4
  have kq4:g4.get q = some (true,.cells #[.int .u64 ((xorNext st.1).toNat:Int)] 301 (0,0)) := by rw [kk4 q (Ne.symm hqr),kk3 q (Ne.symm hqr)]; exact kq3
  rw [wsucc (by omega)]
  refine t_again (hY (3 - (t + 1)) _ _ (by omega) ⟨t + 1,(xorNext st.1,swp st.2 (a + (b - a) / 4 * 2 - 1 + t) (a + V)),rfl,rfl,by omega,R4,by rw [<- z2]; exact swp_sz _ _ _,kq4,?_⟩)
  rw [show 3 - (t + 1) = k by omega]
  exact heq
 ·have:t = 3 := by omega
  subst this
  refine gZ ?_
  exact t_ret ⟨rfl,(show st.2 = _ from heq) ▸ s2⟩
end Go.Proofs.YtfkfohpnpljihaaGreatDoor
end
section
namespace Go.Sort
def hintI:Hint -> Int
 | .increasing => 1
 | .decreasing => 2
 | .unknown => 0
def P4 (d3:Array Int) (a b limit pivot:Nat) (wb wp:Bool):Array Int :=
 if a > 0 && !ltInt d3[a - 1]! d3[pivot]! then
  match partitionEqual ltInt d3 a b pivot with
  | (mid,d4) => if _h:a < mid /\ mid <= b then pdq ltInt d4 mid b limit wb wp else d4
 else
  match partition ltInt d3 a b pivot with
  | (mid,alreadyPartitioned,d4) =>
   if _h:a <= mid /\ mid < b then
    if mid - a < b - mid then
     pdq ltInt (pdq ltInt d4 a mid limit true true) (mid + 1) b limit (decide (mid - a >= (b - a) / 8)) alreadyPartitioned
    else
     pdq ltInt (pdq ltInt d4 (mid + 1) b limit true true) a mid limit (decide (b - mid >= (b - a) / 8)) alreadyPartitioned
   else d4
def P3 (d2:Array Int) (a b limit pivot:Nat) (hint:Hint) (wb wp:Bool):Array Int :=
 let pi := if wb && wp && hint = .increasing then partialInsertionSort ltInt d2 a b else (d2,false)
 if pi.2 then pi.1 else P4 pi.1 a b limit pivot wb wp
def P2 (d1:Array Int) (a b limit:Nat) (wb wp:Bool):Array Int :=
 let c := choosePivot ltInt d1 a b
 P3 (if c.2 = .decreasing then reverseRange d1 a b else d1) a b limit (if c.2 = .decreasing then (b - 1) - (c.1 - a) else c.1) (if c.2 = .decreasing then Hint.increasing else c.2) wb wp
theorem pdq_stage {d:Array Int} {a b limit:Nat} {wb wp:Bool} (h1:¬ b - a <= 12) (h2:¬ limit = 0):pdq ltInt d a b limit wb wp = P2 (if !wb then breakPatterns d a b else d) a b (if !wb then limit - 1 else limit) wb wp := by
 rw [pdq,if_neg h1,if_neg h2]
 rfl
end Go.Sort
namespace Go.Proofs.YtfkfohpnpljihaaGreatDoor
open Go Go.TM Go.Proofs Go.Sort
attribute [local irreducible] T.wp CV FWK
variable {h h1:LH} {r N c:Nat} {el:TypeId} {d:Array Int} {a b:Nat}
structure PSt (h:LH) (r:Nat) (el:TypeId) (N:Nat) (d:Array Int) (q k:Nat) (h':LH):Prop where
 st:DSt h r el N d h'
 no:h.get q = none
 ne:q ≠ r
 cell:h'.get q = some (true,.cells #[.int .i64 (k:Int)] 3 (0,0))
theorem c2121 {q k x y:Nat} (s:PSt h r el N d q k h1) (hx:x < d.size) (hy:y < d.size) (hN:d.size < 2 ^ 30) (hk:k < 100) :
  FW X0 Tryz.prog 215 #[.slice (some ⟨r,0,none⟩) d.size c,.int .i64 x,.int .i64 y,.pointer (some ⟨q,0,none⟩)] h1 fun v h' => v = .tuple #[.int .i64 ((order2 ltInt d x y k).1:Nat),.int .i64 ((order2 ltInt d x y k).2.1:Nat)] /\ PSt h r el N d q (order2 ltInt d x y k).2.2 h' := by
 refine w2121 _ _ _ _ _ _ X0_ok ?_
 unfold n2121
 have y1 := s.st.cell (i := y) hy
 have y2 := s.st.cell (i := x) hx
 have y3:h1.get.cell? ⟨q,0,none⟩ = some (.int .i64 (k:Int)) := by
  unfold Cells.cell?
  rw [s.cell]; rfl
 refine gZ ?_
 refine t_pu (c2111 _ _) ?_
 refine gZ ?_
 unfold order2
 refine t_cond (fun e3 => ?_) (fun e3 => ?_)
 ·rw [if_pos e3]
  refine gZ ?_
  rw [wsucc (by omega)]
  refine t_storeC (r := q) (j := 0) (by rw [add_plain]) s.cell (by simp) rfl fun g1 t1 e1 => ?_
  refine t_ret ⟨rfl,⟨fun b' y' hb' hy' => ?_,⟨t1.rest.1.trans s.st.rest.1,t1.rest.2.1.trans s.st.rest.2.1,t1.rest.2.2.trans s.st.rest.2.2⟩,?_⟩,s.no,s.ne,e1⟩
  ·have:b' ≠ q := by rintro rfl; rw [s.no] at hy'; cases hy'
   rw [t1.keep b' this]
   exact s.st.keep b' y' hb' hy'
  ·obtain ⟨cs,c1,c2⟩ := s.st.cells
   exact ⟨cs,by rw [t1.keep r (Ne.symm s.ne)]; exact c1,c2⟩
 ·rw [if_neg (by rw [e3]; simp)]
  exact t_ret ⟨rfl,s⟩
theorem order2_k (d:Array Int) (x y k:Nat):(order2 ltInt d x y k).2.2 <= k + 1 := by unfold order2; split <;> simp
theorem order2_lt {d:Array Int} {x y k n:Nat} (hx:x < n) (hy:y < n):(order2 ltInt d x y k).1 < n /\ (order2 ltInt d x y k).2.1 < n := by
 rcases order2_mem ltInt d x y k with ⟨h1,h2⟩ | ⟨h1,h2⟩ <;> omega
theorem c2120 {q k x y z:Nat} (s:PSt h r el N d q k h1) (hx:x < d.size) (hy:y < d.size) (hz:z < d.size) (hN:d.size < 2 ^ 30) (hk:k < 90) :
  FW X0 Tryz.prog 212 #[.slice (some ⟨r,0,none⟩) d.size c,.int .i64 x,.int .i64 y,.int .i64 z,.pointer (some ⟨q,0,none⟩)] h1 fun v h' => v = .int .i64 ((median ltInt d x y z k).1:Nat) /\ PSt h r el N d q (median ltInt d x y z k).2 h' := by
 refine w2120 _ _ _ _ _ _ _ X0_ok ?_
 unfold n2120
 have hm:median ltInt d x y z k = ((order2 ltInt d (order2 ltInt d x y k).1 (order2 ltInt d (order2 ltInt d x y k).2.1 z (order2 ltInt d x y k).2.2).1 (order2 ltInt d (order2 ltInt d x y k).2.1 z (order2 ltInt d x y k).2.2).2.2).2.1,(order2 ltInt d (order2 ltInt d x y k).1 (order2 ltInt d (order2 ltInt d x y k).2.1 z (order2 ltInt d x y k).2.2).1 (order2 ltInt d (order2 ltInt d x y k).2.1 z (order2 ltInt d x y k).2.2).2.2).2.2) := rfl
 rw [hm]
 have b1 := order2_lt (d := d) (k := k) hx hy
 have k1 := order2_k d x y k
 refine t_call (c2121 s hx hy hN (by omega)) ?_
 rintro _ g1 ⟨rfl,s1⟩
 generalize order2 ltInt d x y k = o1 at *
 have b2 := order2_lt (d := d) (k := o1.2.2) b1.2 hz
 have k2 := order2_k d o1.2.1 z o1.2.2
 refine gZ ?_
 refine t_call (c2121 s1 b1.2 hz hN (by omega)) ?_
 rintro _ g2 ⟨rfl,s2⟩
 generalize order2 ltInt d o1.2.1 z o1.2.2 = o2 at *
 refine gZ ?_
 refine t_call (c2121 s2 b1.1 b2.1 hN (by omega)) ?_
 rintro _ g3 ⟨rfl,s3⟩
 refine gZ ?_
 exact t_ret ⟨rfl,s3⟩
theorem median_k (d:Array Int) (x y z k:Nat):(median ltInt d x y z k).2 <= k + 3 := by
 unfold median
 simp only []
 have h1 := order2_k d x y k
 generalize order2 ltInt d x y k = o1 at *
 have h2 := order2_k d o1.2.1 z o1.2.2
 generalize order2 ltInt d o1.2.1 z o1.2.2 = o2 at *
 have h3 := order2_k d o1.1 o2.1 o2.2.2
 omega
theorem c2108 (s:DSt h r el N d h1) (hab:a + 12 < b) (hb:b <= d.size) (h50:d.size < 50) :
  FW X0 Tryz.prog 196 #[.slice (some ⟨r,0,none⟩) d.size c,.int .i64 a,.int .i64 b] h1 fun v h' => v = .tuple #[.int .i64 ((choosePivot ltInt d a b).1:Nat),.int .i64 (hintI (choosePivot ltInt d a b).2)] /\ DSt h r el N d h' := by
 refine w2108 _ _ _ _ _ X0_ok ?_
 unfold n2108
 refine t_new fun q hq => ?_
 have hqr:q ≠ r := by
  obtain ⟨cs,h2,_⟩ := s.cells
  rintro rfl
  rw [h2] at hq; cases hq
 have hq0:h.get q = none := by
  cases hx:h.get q with
  | none => rfl
  | some y => rw [s.keep q y hqr hx] at hq; cases hq
 have s1:PSt h r el N d q 0 { h1 with get := h1.get.upd q (true,.cells #[.int .i64 0] 3 (0,0)) } := ⟨s.more hq,hq0,hqr,Cells.upd_self _ _ _⟩
 generalize ({ h1 with get := h1.get.upd q (true,.cells #[.int .i64 0] 3 (0,0)) }:LH) = h2 at *
 have cp:choosePivot ltInt d a b = ((median ltInt d (a + (b - a) / 4 * 1) (a + (b - a) / 4 * 2) (a + (b - a) / 4 * 3) 0).1,if (median ltInt d (a + (b - a) / 4 * 1) (a + (b - a) / 4 * 2) (a + (b - a) / 4 * 3) 0).2 = 0 then .increasing else if (median ltInt d (a + (b - a) / 4 * 1) (a + (b - a) / 4 * 2) (a + (b - a) / 4 * 3) 0).2 = 12 then .decreasing else .unknown) := by
  unfold choosePivot
  simp only []
  rw [if_pos (show b - a >= 8 by omega),if_neg (show ¬ b - a >= 50 by omega)]
 rw [cp]
 have wm:∀ j:Nat,j <= 3 -> wrap .i64 ((a:Int) + wrap .i64 (wrap .i64 (Int.tdiv ((b - a:Nat):Int) 4) * (j:Int))) = ((a + (b - a) / 4 * j:Nat):Int) := fun j hj => by
  have e1:Int.tdiv ((b - a:Nat):Int) 4 = (((b - a) / 4:Nat):Int) := by
   rw [Int.tdiv_eq_ediv_of_nonneg (by omega)]; omega
  have e2:(((b - a) / 4:Nat):Int) * (j:Int) = (((b - a) / 4 * j:Nat):Int) := by norm_cast
  have hle:(b - a) / 4 * j <= 50 * 3 := Nat.mul_le_mul (by omega) hj
  rw [e1,wrap_id (n := (((b - a) / 4:Nat):Int)) (by omega) (by omega),e2,wrap_id (n := (((b - a) / 4 * j:Nat):Int)) (by omega) (by omega),wadd (by omega)]
 have hq4:a + (b - a) / 4 * 3 < b := by omega
 rw [wsub (i := b) (j := a) (by omega) (by omega)]
 have w1 := wm 1 (by omega)
 have w2 := wm 2 (by omega)
 have w3 := wm 3 (by omega)
 rw [show ((1:Nat):Int) = 1 from rfl] at w1
 rw [show ((2:Nat):Int) = 2 from rfl] at w2
 rw [show ((3:Nat):Int) = 3 from rfl] at w3
 rw [w1,w2,w3]
 have hk3 := median_k d (a + (b - a) / 4 * 1) (a + (b - a) / 4 * 2) (a + (b - a) / 4 * 3) 0
 have hmed := c2120 (c := c) s1 (x := a + (b - a) / 4 * 1) (y := a + (b - a) / 4 * 2) (z := a + (b - a) / 4 * 3) (by omega) (by omega) (by omega) (by omega) (by omega)
 generalize median ltInt d (a + (b - a) / 4 * 1) (a + (b - a) / 4 * 2) (a + (b - a) / 4 * 3) 0 = M at *
 refine gZ ?_
 refine t_blk (fun vs h' => vs = [.int .i64 (M.1:Nat)] /\ PSt h r el N d q M.2 h') ?_ ?_
 ·refine t_if (fun _ => ?_) (fun e => absurd e (by omega))
  refine t_if (fun e => absurd e (by omega)) (fun _ => ?_)
  refine t_call hmed ?_
  rintro _ g1 ⟨rfl,s2⟩
  refine gZ ?_
  exact t_again ⟨rfl,s2⟩
 rintro vs g1 ⟨rfl,s2⟩
 have y3:g1.get.cell? ⟨q,0,none⟩ = some (.int .i64 (M.2:Int)) := by
  unfold Cells.cell?
  rw [s2.cell]; rfl
 refine gZ ?_
 refine t_cond (fun e => ?_) (fun e => ?_)
 ·rw [if_pos (by simpa using e)]
  exact t_ret ⟨rfl,s2.st⟩
 ·rw [if_neg (by simpa using e),if_neg (by omega)]
  refine t_cond (fun e => by simp at e; omega) (fun e => ?_)
  exact t_ret ⟨rfl,s2.st⟩
set_option maxRecDepth 20000 in
theorem c2101:∀ (M:Nat) {h h1:LH} {r N c:Nat} {el:TypeId} {d:Array Int} {a b:Nat} (limit:Nat),b - a <= M -> DSt h r el N d h1 -> a <= b -> b <= d.size -> d.size < 50 -> limit < 100 -> Below ltInt a b d ->
  FW X0 Tryz.prog 172 #[.slice (some ⟨r,0,none⟩) d.size c,.int .i64 a,.int .i64 b,.int .i64 limit] h1 fun v h' => v = .tuple #[] /\ DSt h r el N (pdq ltInt d a b limit true true) h' := by
 intro M
 induction M using Nat.strongRecOn with
 | ind M ih =>
  intro h h1 r N c el d a b limit hM s hab hb h50 hlim hB
  refine w2101 _ _ _ _ _ _ X0_ok ?_
  unfold n2101
  generalize hR:pdq ltInt d a b limit true true = R
  refine t_loop (fun mm vs h' => ∃ (a b lim:Nat) (wb wp:Bool) (d':Array Int),vs = [.int .i64 a,.int .i64 b,.int .i64 lim,.bool wb,.bool wp] /\ mm = b - a /\ b - a <= M /\ a <= b /\ b <= d'.size /\ d'.size = d.size /\ lim < 100 /\ Below ltInt a b d' /\ DSt h r el N d' h' /\ pdq ltInt d' a b lim wb wp = R)
   ⟨a,b,limit,true,true,d,rfl,rfl,hM,hab,hb,rfl,hlim,hB,s,hR⟩ ?_
  rintro Y mm vs g hY ⟨a,b,lim,wb,wp,d,rfl,rfl,hM,hab,hb,hz,hlim,hB,s,hR⟩
  obtain ⟨n,hn⟩ : ∃ n,n = d.size := ⟨_,rfl⟩
  rw [<- hz,<- hn]
  rw [<- hz,<- hn] at h50
  have fin:∀ {h'},DSt h r el N R h' -> (T.leaf (.ret (.tuple #[]))).wp X0 Tryz.prog (retQ fun v h' => v = .tuple #[] /\ DSt h r el N R h') h' := fun s' => t_ret ⟨rfl,s'⟩
  refine gZ ?_
  rw [wsub (i := b) (j := a) (by omega) (by omega)]
  refine t_if (fun e1 => ?_) (fun e1 => ?_)
  ·rw [pdq,if_pos (show b - a <= 12 by omega)] at hR
   have hc := c2105 (c := c) s hab hb (by omega)
   rw [<- hn] at hc
   refine t_call hc ?_
   rintro _ g1 ⟨rfl,s1⟩
   refine gZ ?_
   exact fin (hR ▸ s1)
  have h12:¬ b - a <= 12 := by omega
  have hltab:a < b := by omega
  refine t_cond (fun e2 => ?_) (fun e2 => ?_)
  ·have:lim = 0 := by simpa using e2
   subst this
   rw [pdq,if_neg h12,if_pos rfl] at hR
   have hc := c2106 (c := c) s hltab hb (by omega)
   rw [<- hn] at hc
   refine t_call hc ?_
   rintro _ g1 ⟨rfl,s1⟩
   refine gZ ?_
   exact fin (hR ▸ s1)
  have hl0:¬ lim = 0 := by simpa using e2
  rw [pdq_stage h12 hl0] at hR
  have P1:PermIn a b d (if !wb then breakPatterns d a b else d) := by
   cases wb
   ·exact breakPatterns_holds d a b hab hb
   ·exact permIn_refl d a b
  have hL1:(if !wb then lim - 1 else lim) < 100 := by split <;> omega
  refine t_blk (fun vs h' => vs = [.int .i64 ((if !wb then lim - 1 else lim:Nat):Int)] /\ DSt h r el N (if !wb then breakPatterns d a b else d) h') ?_ ?_
  ·cases wb
   ·refine t_cond (fun _ => ?_) (fun e => by cases e)
    have hc := c2107 (c := c) (a := a) (b := b) s (by omega) hb (by omega)
    rw [<- hn] at hc
    refine t_call hc ?_
    rintro _ g1 ⟨rfl,s1⟩
    refine gZ ?_
    rw [wrap_id (n := (lim:Int) - 1) (by omega) (by omega)]
    exact t_again ⟨by rw [show (if !false then lim - 1 else lim) = lim - 1 from rfl,show ((lim - 1:Nat):Int) = (lim:Int) - 1 by omega],s1⟩
   ·refine t_cond (fun e => by cases e) (fun _ => ?_)
    exact t_again ⟨rfl,s⟩
  rintro vs g1 ⟨rfl,s1⟩
  generalize (if !wb then lim - 1 else lim) = lim1 at *
  generalize (if !wb then breakPatterns d a b else d) = d1 at *
  have z1:d1.size = n := by rw [P1.1,hn]
  have b1:b <= d1.size := by rw [P1.1]; exact hb
  have B1 := hB.perm hb P1
  clear hB s
  have hcp := c2108 (c := c) (a := a) (b := b) s1 (by omega) b1 (by omega)
  rw [z1] at hcp
  have hc0 := choosePivot_holds ltInt d1 a b hltab
  unfold P2 at hR
  simp only [] at hR
  generalize choosePivot ltInt d1 a b = C at *
  refine gZ ?_
  refine t_call hcp ?_
  rintro _ g2 ⟨rfl,s2⟩
  refine gZ ?_
  have P2':PermIn a b d1 (if C.2 = .decreasing then reverseRange d1 a b else d1) := by
   split
   ·exact reverseRange_holds d1 a b hab b1
   ·exact permIn_refl d1 a b
  have hpv:a <= (if C.2 = .decreasing then (b - 1) - (C.1 - a) else C.1) /\ (if C.2 = .decreasing then (b - 1) - (C.1 - a) else C.1) < b := by split <;> omega
  refine t_blk (fun vs h' => vs = [.int .i64 ((if C.2 = .decreasing then (b - 1) - (C.1 - a) else C.1:Nat):Int),.int .i64 (hintI (if C.2 = .decreasing then Hint.increasing else C.2))] /\ DSt h r el N (if C.2 = .decreasing then reverseRange d1 a b else d1) h') ?_ ?_
  ·by_cases hC:C.2 = .decreasing
   ·rw [hC]
    refine t_cond (fun _ => ?_) (fun e => by cases e)
    have hc := c2109 (c := c) s2 hltab b1 (by omega)
    rw [z1] at hc
    refine t_call hc ?_
    rintro _ g3 ⟨rfl,s3⟩
    refine gZ ?_
    rw [wrap_id (n := (b:Int) - 1) (by omega) (by omega),wsub (i := C.1) (j := a) (by omega) (by omega),wrap_id (n := (b:Int) - 1 - ((C.1 - a:Nat):Int)) (by omega) (by omega)]
    refine t_again ⟨?_,s3⟩
    rw [if_pos rfl,if_pos rfl,show (((b - 1) - (C.1 - a):Nat):Int) = (b:Int) - 1 - ((C.1 - a:Nat):Int) by omega]
    rfl
   ·rw [if_neg hC,if_neg hC,if_neg hC]
    refine t_cond (fun e => ?_) (fun _ => ?_)
    ·exfalso
     apply hC
     cases hh:C.2 with
     | increasing => rw [hh] at e; cases e
     | decreasing => rfl
     | unknown => rw [hh] at e; cases e
    ·exact t_again ⟨rfl,s2⟩
  rintro vs g3 ⟨rfl,s3⟩
  generalize (if C.2 = .decreasing then (b - 1) - (C.1 - a) else C.1) = pv at *
  generalize (if C.2 = .decreasing then Hint.increasing else C.2) = hi at *
  generalize (if C.2 = .decreasing then reverseRange d1 a b else d1) = d2 at *
  have z2:d2.size = n := by rw [P2'.1,z1]
  have b2:b <= d2.size := by omega
  have B2 := B1.perm b1 P2'
  clear s1 s2 B1 hcp hc0
  refine gZ ?_
  refine t_blk (fun vs h' => vs = [] /\ ∃ d3,DSt h r el N d3 h' /\ d3.size = n /\ Below ltInt a b d3 /\ P4 d3 a b lim1 pv wb wp = R) ?_ ?_
  ·unfold P3 at hR
   simp only [] at hR
   have skip:(wb && wp && decide (hi = Hint.increasing)) = false -> ∃ d3,DSt h r el N d3 g3 /\ d3.size = n /\ Below ltInt a b d3 /\ P4 d3 a b lim1 pv wb wp = R := fun hf => by
    rw [hf] at hR
    exact ⟨d2,s3,z2,B2,hR⟩
   refine t_cond (fun e3 => ?_) (fun e3 => t_again ⟨rfl,skip (by rw [e3]; rfl)⟩)
   refine t_cond (fun e4 => ?_) (fun e4 => t_again ⟨rfl,skip (by rw [e4,Bool.and_false]; rfl)⟩)
   refine t_cond (fun e5 => ?_) (fun e5 => t_again ⟨rfl,skip (by rw [decide_eq_false (by rintro rfl; cases e5),Bool.and_false])⟩)
   have hhi:hi = .increasing := by
    cases hi with
    | increasing => rfl
    | decreasing => cases e5
    | unknown => cases e5
   rw [e3,e4,hhi,if_pos (show (true && true && decide (Hint.increasing = Hint.increasing)) = true from rfl)] at hR
   have hc := c2110 (c := c) s3 hltab b2 (by omega) (by omega)
   rw [z2] at hc
   have hpp := partialInsertionSort_holds swo_ltInt d2 a b hltab b2 B2
   generalize partialInsertionSort ltInt d2 a b = pi at *
   refine t_call hc ?_
   rintro _ g4 ⟨rfl,s4⟩
   refine gZ ?_
   refine t_cond (fun e6 => ?_) (fun e6 => ?_)
   ·rw [e6,if_pos rfl] at hR
    refine gZ ?_
    exact fin (hR ▸ s4)
   ·rw [e6,if_neg (by simp)] at hR
    rw [e3,e4]
    exact t_again ⟨rfl,pi.1,s4,by rw [hpp.1.1,z2],B2.perm b2 hpp.1,hR⟩
  rintro vs g4 ⟨rfl,d3,s4,z3,B3,hR⟩
  have b3:b <= d3.size := by omega
  clear s3 B2 P2' P1
  unfold P4 at hR
  refine gZ ?_
  refine t_blk (fun vs h' => vs = [.int .i64 a] /\ g4 = h' /\ (decide (a > 0) && !ltInt d3[a - 1]! d3[pv]!) = false) ?_ ?_
  ·refine t_if (fun e3 => ?_) (fun e3 => ?_)
   ·have ha0:0 < a := by omega
    have wa:wrap .i64 ((a:Int) - 1) = ((a - 1:Nat):Int) := by rw [wrap_id (by omega) (by omega)]; omega
    rw [wa]
    have y1 := s4.cell (i := a - 1) (by omega)
    have y2 := s4.cell (i := pv) (by omega)
    refine gZ ?_
    refine t_pu (c2111 _ _) ?_
    refine gZ ?_
    refine t_cond (fun e4 => ?_) (fun e4 => ?_)
    ·have e4':ltInt d3[a - 1]! d3[pv]! = false := by simpa using e4
     rw [e4',decide_eq_true ha0,if_pos (by rfl)] at hR
     have hc := c2112 (c := c) s4 hpv b3 (by omega)
     rw [z3] at hc
     cases hx:partitionEqual ltInt d3 a b pv with
     | mk mid d4 =>
      rw [hx] at hc hR
      obtain ⟨q1,q2,q3,q4,_⟩ := round_eq swo_ltInt (partitionEqual_holds ltInt) ha0 hpv.1 hpv.2 b3 B3 e4' hx
      simp only [] at hR hc
      rw [dif_pos ⟨q1,q2⟩] at hR
      refine t_call hc ?_
      rintro _ g5 ⟨rfl,s5⟩
      refine gZ ?_
      refine t_cond (fun _ => ?_) (fun e => by cases e)
      refine gZ ?_
      exact t_again (hY (b - mid) _ _ (by omega) ⟨mid,b,lim1,wb,wp,d4,rfl,rfl,by omega,q2,by omega,by omega,hL1,q4,s5,hR⟩)
    ·have e4':ltInt d3[a - 1]! d3[pv]! = true := by simpa using e4
     exact t_again ⟨rfl,rfl,by rw [e4',Bool.not_true,Bool.and_false]⟩
   ·refine gZ ?_
    exact t_again ⟨rfl,rfl,by rw [decide_eq_false (by omega),Bool.false_and]⟩
  rintro vs _ ⟨rfl,rfl,hno⟩
  rw [hno,if_neg (by simp)] at hR
  have hc := c2113 (c := c) s4 hpv b3 (by omega)
  rw [z3] at hc
  cases hx:partition ltInt d3 a b pv with
  | mk mid r2 =>
   obtain ⟨ap,d4⟩ := r2
   rw [hx] at hc hR
   obtain ⟨q1,q2,q3,qa,qr,ql,qm⟩ := round_part swo_ltInt (partition_holds ltInt) hpv.1 hpv.2 b3 B3 hx
   simp only [] at hR hc
   rw [dif_pos ⟨q1,q2⟩] at hR
   have z4:d4.size = n := by omega
   refine gZ ?_
   refine t_call hc ?_
   rintro _ g5 ⟨rfl,s5⟩
   refine gZ ?_
   rw [wsub (i := mid) (j := a) (by omega) (by omega),wsub (i := b) (j := mid) (by omega) (by omega)]
   have w8:wrap .i64 (Int.tdiv ((b - a:Nat):Int) 8) = (((b - a) / 8:Nat):Int) := by
    have:Int.tdiv ((b - a:Nat):Int) 8 = (((b - a) / 8:Nat):Int) := by
     rw [Int.tdiv_eq_ediv_of_nonneg (by omega)]; omega
    rw [this,wrap_id (by omega) (by omega)]
   rw [w8]
   refine t_if (fun e3 => ?_) (fun e3 => ?_)
   ·rw [if_pos (show mid - a < b - mid by omega)] at hR
    have hrec := ih (mid - a) (by omega) (c := c) lim1 (Nat.le_refl _) s5 q1 (by omega) (by omega) hL1 qa
    rw [z4] at hrec
    have hp := pdq_sorts ltInt swo_ltInt d4 a mid lim1 true true q1 (by omega) qa
    obtain ⟨hBL,_⟩ := ql _ hp.1 hp.2
    generalize pdq ltInt d4 a mid lim1 true true = d5 at *
    refine t_call hrec ?_
    rintro _ g6 ⟨rfl,s6⟩
    refine gZ ?_
    rw [wsucc (by omega)]
    refine t_again (hY (b - (mid + 1)) _ _ (by omega) ⟨mid + 1,b,lim1,decide (mid - a >= (b - a) / 8),ap,d5,?_,rfl,by omega,by omega,by rw [hp.1.1]; omega,by rw [hp.1.1]; omega,hL1,hBL,s6,hR⟩)
    rw [show decide (((mid - a:Nat):Int) >= (((b - a) / 8:Nat):Int)) = decide (mid - a >= (b - a) / 8) from decide_eq_decide.2 (by omega)]
   ·rw [if_neg (show ¬ mid - a < b - mid by omega)] at hR
    rw [wsucc (by omega)]
    have hrec := ih (b - (mid + 1)) (by omega) (c := c) lim1 (Nat.le_refl _) s5 (by omega) (by omega) (by omega) hL1 qr
    rw [z4] at hrec
    have hp := pdq_sorts ltInt swo_ltInt d4 (mid + 1) b lim1 true true (by omega) (by omega) qr
    obtain ⟨hBL,_⟩ := qm _ hp.1 hp.2
    generalize pdq ltInt d4 (mid + 1) b lim1 true true = d5 at *
    refine t_call hrec ?_
    rintro _ g6 ⟨rfl,s6⟩
    refine gZ ?_
    refine t_again (hY (mid - a) _ _ (by omega) ⟨a,mid,lim1,decide (b - mid >= (b - a) / 8),ap,d5,?_,rfl,by omega,q1,by rw [hp.1.1]; omega,by rw [hp.1.1]; omega,hL1,hBL,s6,hR⟩)
    rw [show decide (((b - mid:Nat):Int) >= (((b - a) / 8:Nat):Int)) = decide (b - mid >= (b - a) / 8) from decide_eq_decide.2 (by omega)]
end Go.Proofs.YtfkfohpnpljihaaGreatDoor
end
section
namespace Go.TM
open Go Go.Conc Go.Sort
def stepC (acc:List Int) (x:Int):List Int := if acc.getLast? = some x then acc else acc ++ [x]
def compactL (l:List Int):List Int := l.foldl stepC []
theorem compact_snoc (l:List Int) (x:Int):compactL (l ++ [x]) = stepC (compactL l) x := by simp [compactL,List.foldl_append]
theorem compact_spec:∀ (k:Nat) (l:List Int),l.length = k -> l.Pairwise (· <= ·) -> (compactL l).Pairwise (· < ·) /\ (∀ y,y ∈ compactL l ↔ y ∈ l) /\ (compactL l).getLast? = l.getLast? := by
 intro k
 induction k with
 | zero => intro l h _; rw [List.eq_nil_of_length_eq_zero h]; simp [compactL]
 | succ k ih =>
  intro l h hs
  have hne:l ≠ [] := by rintro rfl; simp at h
  obtain ⟨m,x,rfl⟩ : ∃ m x,l = m ++ [x] := ⟨l.dropLast,l.getLast hne,(List.dropLast_concat_getLast hne).symm⟩
  rw [List.pairwise_append] at hs
  obtain ⟨h1,h2,h3⟩ := ih m (by simpa using h) hs.1
  rw [compact_snoc]
  unfold stepC
  split
  ·rename_i hl
   have hm:x ∈ m := by
    rw [h3] at hl
    exact List.mem_of_getLast? hl
   refine ⟨h1,fun y => ?_,by rw [hl]; simp⟩
   rw [h2,List.mem_append,List.mem_singleton]
   constructor
   ·exact .inl
   ·rintro (e | rfl)
    ·exact e
    ·exact hm
  ·rename_i hl
   refine ⟨?_,fun y => by rw [List.mem_append,List.mem_append,h2],by simp⟩
   rw [List.pairwise_append]
   refine ⟨h1,by simp,fun a ha b hb => ?_⟩
   rw [List.mem_singleton] at hb
   subst hb
   have hle := hs.2.2 a ((h2 a).1 ha) b (by simp)
   by_cases e:a = b
   ·exfalso
    subst e
    -- a is the greatest of m, so the last
    apply hl
    have hmne:m ≠ [] := by rintro rfl; simp [compactL] at ha
    have hcne:compactL m ≠ [] := by intro e; rw [e] at ha; cases ha
    obtain ⟨m',z,rfl⟩ : ∃ m' z,m = m' ++ [z] := ⟨m.dropLast,m.getLast hmne,(List.dropLast_concat_getLast hmne).symm⟩
    rw [h3]
    simp only [List.getLast?_append,List.getLast?_singleton,Option.some_or,Option.some.injEq]
    have hz1:z <= a := hs.2.2 z (by simp) a (by simp)
    have ham := (h2 a).1 ha
    rw [List.mem_append,List.mem_singleton] at ham
    rcases ham with ham | rfl
    ·have := (List.pairwise_append.1 hs.1).2.2 a ham z (by simp)
     omega
    ·rfl
   ·omega
theorem compact_take {l:List Int} {k:Nat} {x y:Int} (hs:l.Pairwise (· <= ·)) (hk:l[k]? = some x) (hx:l[k + 1]? = some y):compactL (l.take (k + 1 + 1)) = if y = x then compactL (l.take (k + 1)) else compactL (l.take (k + 1)) ++ [y] := by
 rw [List.take_add_one,hx]
 show compactL (l.take (k + 1) ++ [y]) = _
 rw [compact_snoc]
 have hl := (compact_spec _ (l.take (k + 1)) rfl (hs.sublist (List.take_sublist _ _))).2.2
 have hlast:(l.take (k + 1)).getLast? = some x := by
  rw [List.take_add_one,hk]; simp
 unfold stepC
 rw [hl,hlast]
 by_cases e:y = x
 ·rw [if_pos e,if_pos (by rw [e])]
 ·rw [if_neg e,if_neg (by simpa using Ne.symm e)]
theorem compact_len:∀ l:List Int,(compactL l).length <= l.length := by
 have:∀ (l acc:List Int),(l.foldl stepC acc).length <= acc.length + l.length := by
  intro l
  induction l with
  | nil => intro acc; simp
  | cons x l ih =>
   intro acc
   have h1 := ih (stepC acc x)
   have h2:(stepC acc x).length <= acc.length + 1 := by unfold stepC; split <;> simp
   rw [List.foldl_cons,List.length_cons]
   omega
 intro l
 have := this l []
 simpa [compactL] using this
theorem DSt.cellAt {h h':LH} {r N:Nat} {el:TypeId} {d:Array Int} (s:DSt h r el N d h') {o i:Nat} (hi:o + i < d.size):h'.get.cell? (Addr.add ⟨r,o,none⟩ ((i:Int).toNat * 1)) = some (.int .i64 d[o + i]!) := by
 obtain ⟨cs,h1,_,_,h4⟩ := s.cells
 rw [add_plain,Int.toNat_natCast,Nat.mul_one]
 unfold Cells.cell?
 rw [h1]
 exact h4 _ hi
end Go.TM
namespace Go.Proofs.YtfkfohpnpljihaaGreatDoor
open Go Go.TM Go.Proofs Go.Sort
attribute [local irreducible] T.wp CV FWK
theorem c2092 {h h1:LH} {r N c:Nat} {el:TypeId} {d:Array Int} (s:DSt h r el N d h1) (h50:d.size < 50) :
  FW X0 Tryz.prog 127 #[.slice (some ⟨r,0,none⟩) d.size c] h1 fun v h' => v = .tuple #[] /\ DSt h r el N (Go.Sort.sort ltInt d) h' := by
 refine w2092 _ _ _ X0_ok ?_
 unfold n2092
 rw [wrap_u64 (n := (d.size:Int)) (by omega) (by omega)]
 refine t_pu (c2102 (x := d.size) (by omega)) ?_
 have hb := bitsLen_small (x := d.size) (by omega)
 refine gZ ?_
 refine t_call (c2101 d.size (a := 0) (b := d.size) (c := c) (bitsLen d.size) (by omega) s (by omega) (Nat.le_refl _) h50 (by omega) (.inl rfl)) ?_
 rintro _ h2 ⟨rfl,s2⟩
 refine gZ ?_
 exact t_ret ⟨rfl,s2⟩
theorem c2092n {h1:LH}:Pu Tryz.prog 127 #[.slice none 0 0] h1 (.tuple #[]) := by
 have h5:Pu Tryz.prog 193 #[.slice none 0 0,.int .i64 0,.int .i64 0] h1 (.tuple #[]) := by
  refine w2105 _ _ _ _ _ X0_ok ?_
  unfold n2105
  refine t_loop (fun mm vs h' => mm = 0 /\ vs = [.int .i64 1] /\ h1 = h') ⟨rfl,by rw [wrap_id (by omega) (by omega)]; rfl,rfl⟩ ?_
  rintro Y mm vs _ hY ⟨rfl,rfl,rfl⟩
  refine gZ ?_
  refine t_if (fun e => absurd e (by omega)) (fun _ => ?_)
  refine gZ ?_
  exact t_ret ⟨rfl,rfl⟩
 have h6:∀ z:Int,Pu Tryz.prog 172 #[.slice none 0 0,.int .i64 0,.int .i64 0,.int .i64 z] h1 (.tuple #[]) := fun z => by
  refine w2101 _ _ _ _ _ _ X0_ok ?_
  unfold n2101
  refine t_loop (fun mm vs h' => mm = 0 /\ vs = [.int .i64 0,.int .i64 0,.int .i64 z,.bool true,.bool true] /\ h1 = h') ⟨rfl,rfl,rfl⟩ ?_
  rintro Y mm vs _ hY ⟨rfl,rfl,rfl⟩
  refine gZ ?_
  rw [wrap_id (n := (0:Int) - 0) (by omega) (by omega)]
  refine t_if (fun _ => ?_) (fun e => absurd (by omega) e)
  refine t_pu h5 ?_
  refine gZ ?_
  exact t_ret ⟨rfl,rfl⟩
 refine w2092 _ _ _ X0_ok ?_
 unfold n2092
 rw [wrap_u64 (n := ((0:Nat):Int)) (by omega) (by omega)]
 refine t_pu (c2102 (x := 0) (by omega)) ?_
 refine gZ ?_
 refine t_pu (h6 _) ?_
 refine gZ ?_
 exact t_ret ⟨rfl,rfl⟩
theorem toList_at {d:Array Int} {k:Nat} (h:k < d.size):d.toList[k]? = some d[k]! := by
 rw [Array.getElem?_toList,Array.getElem?_eq_getElem h,getElem!_pos d k h]
set_option maxRecDepth 10000 in
theorem c3214 {h h1:LH} {r N c:Nat} {d:Array Int} (s:DSt h r 3 N d h1) (hc:d.size <= c) (hs:d.toList.Pairwise (· <= ·)) (h30:d.size < 2 ^ 30) :
  FW X0 Tryz.prog 128 #[.slice (some ⟨r,0,none⟩) d.size c] h1 fun v h' => v = .slice (some ⟨r,0,none⟩) (compactL d.toList).length c /\ ∃ d',DSt h r 3 N d' h' := by
 refine w3214 _ _ _ X0_ok ?_
 unfold n3214
 have hl:d.toList.length = d.size := Array.length_toList
 refine t_if (fun e1 => ?_) (fun e1 => ?_)
 ·have:(compactL d.toList).length = d.size := by
   cases hd:d.toList with
   | nil => rw [hd] at hl; rw [<- hl]; rfl
   | cons x m =>
    cases m with
    | nil => rw [hd] at hl; rw [<- hl]; rfl
    | cons y m => rw [hd] at hl; simp at hl; omega
  rw [this]
  exact t_ret ⟨rfl,d,s⟩
 generalize hn:d.size = n at *
 refine t_loop (fun mm vs h' => ∃ k:Nat,vs = [.slice none 0 0,.int .i64 k] /\ mm = n - k /\ 1 <= k /\ k <= n /\ h1 = h' /\ compactL (d.toList.take k) = d.toList.take k) ⟨1,rfl,rfl,Nat.le_refl _,by omega,rfl,?_⟩ ?_
 ·cases hd:d.toList with
  | nil => rfl
  | cons x m => rfl
 rintro Y mm vs _ hY ⟨k,rfl,rfl,hk1,hk2,rfl,hcomp⟩
 refine gZ ?_
 refine t_if (fun e2 => ?_) (fun e2 => ?_)
 ·obtain ⟨k,rfl⟩ : ∃ j,k = j + 1 := ⟨k - 1,by omega⟩
  have y1 := s.cell (i := k + 1) (by omega)
  have y2 := s.cell (i := k) (by omega)
  rw [wpred (by omega)]
  have hct := compact_take hs (toList_at (d := d) (k := k) (by omega)) (toList_at (d := d) (k := k + 1) (by omega))
  refine gZ ?_
  refine t_cond (fun e3 => ?_) (fun e3 => ?_)
  ·have exy:d[k + 1]! = d[k]! := by simpa using e3
   rw [if_pos exy,hcomp] at hct
   refine t_sliceLow und50 inf3 (by omega) ?_
   rw [if_neg (by omega),show (some (⟨r,0,none⟩ : Addr)).map (·.add ((k + 1) * 1)) = some ⟨r,k + 1,none⟩ by simp [add_plain]]
   refine gZ ?_
   refine t_loop (fun mm vs h' => ∃ (i k2:Nat) (d':Array Int),vs = [.int .i64 i,.int .i64 k2] /\ mm = n - (k + 1) - k2 /\ 1 <= k2 /\ k2 <= n - (k + 1) /\ i = (compactL (d.toList.take (k + 1 + k2))).length /\ i <= k + k2 /\ DSt h r 3 N d' h' /\ d'.size = n /\ ∀ j,k + k2 <= j -> j < n -> d'[j]! = d[j]!)
    ⟨k + 1,1,d,rfl,rfl,Nat.le_refl _,by omega,by rw [hct,List.length_take]; omega,by omega,s,hn,fun j _ _ => rfl⟩ ?_
   rintro Y2 mm vs g1 hY2 ⟨i,k2,d1,rfl,rfl,hk21,hk22,hi,hik,s1,z1,hsame⟩
   refine gZ ?_
   refine t_if (fun e4 => ?_) (fun e4 => ?_)
   ·obtain ⟨k2,rfl⟩ : ∃ j,k2 = j + 1 := ⟨k2 - 1,by omega⟩
    have y3 := s1.cellAt (o := k + 1) (i := k2 + 1) (by omega)
    have y4 := s1.cellAt (o := k + 1) (i := k2) (by omega)
    rw [hsame (k + 1 + (k2 + 1)) (by omega) (by omega)] at y3
    rw [hsame (k + 1 + k2) (by omega) (by omega)] at y4
    rw [wpred (by omega)]
    have hct2 := compact_take hs (toList_at (d := d) (k := k + 1 + k2) (by omega)) (toList_at (d := d) (k := k + 1 + (k2 + 1)) (by omega))
    rw [show k + 1 + k2 + 1 = k + 1 + (k2 + 1) by omega] at hct2
    refine gZ ?_
    refine t_cond (fun e5 => ?_) (fun e5 => ?_)
    ·rw [if_neg (by simpa using e5)] at hct2
     refine gZ ?_
     refine t_storeD s1 (i := i) (by omega) fun g2 s2 => ?_
     rw [wsucc (by omega),wsucc (by omega)]
     refine t_again (hY2 (n - (k + 1) - (k2 + 1 + 1)) _ _ (by omega) ⟨i + 1,k2 + 1 + 1,_,rfl,rfl,by omega,by omega,?_,by omega,s2,by rw [Array.size_setIfInBounds]; exact z1,fun j hj1 hj2 => ?_⟩)
     ·rw [show k + 1 + (k2 + 1 + 1) = k + 1 + (k2 + 1) + 1 by omega,hct2,List.length_append,<- hi]; rfl
     ·rw [getElem!_pos (d1.setIfInBounds i _) j (by rw [Array.size_setIfInBounds]; omega),Array.getElem_setIfInBounds_ne (by omega) (by omega),<- hsame j (by omega) hj2,getElem!_pos d1 j (by omega)]
    ·rw [if_pos (by simpa using e5)] at hct2
     rw [wsucc (by omega)]
     refine t_again (hY2 (n - (k + 1) - (k2 + 1 + 1)) _ _ (by omega) ⟨i,k2 + 1 + 1,d1,rfl,rfl,by omega,by omega,?_,by omega,s1,z1,fun j hj1 hj2 => hsame j (by omega) hj2⟩)
     rw [show k + 1 + (k2 + 1 + 1) = k + 1 + (k2 + 1) + 1 by omega,hct2,<- hi]
   ·have hkn:k + 1 + k2 = n := by omega
    rw [hkn,List.take_of_length_le (by omega)] at hi
    obtain ⟨cs,c1,c2,c3,c4⟩ := s1.cells
    refine gZ ?_
    refine t_sliceLow und50 inf3 (by omega) ?_
    rw [if_neg (by omega),show (some (⟨r,0,none⟩ : Addr)).map (·.add (i * 1)) = some ⟨r,i,none⟩ by simp [add_plain]]
    refine gZ ?_
    refine t_clear und50 inf3 c1 (by omega) fun g2 t2 e2' => ?_
    refine t_sliceHigh und50 inf3 (by omega) ?_
    refine gZ ?_
    rw [hi]
    refine t_ret ⟨rfl,#[],⟨fun b y hb hy => ?_,⟨t2.rest.1.trans s1.rest.1,t2.rest.2.1.trans s1.rest.2.1,t2.rest.2.2.trans s1.rest.2.2⟩,_,e2',?_,by simp,fun i hi => by simp at hi⟩⟩
    ·rw [t2.keep b hb]; exact s1.keep b y hb hy
    ·rw [<- c2]
     have:∀ (l:List Value) (cs:Array Value) (o:Nat),(setMany cs o l).size = cs.size := by
      intro l
      induction l with
      | nil => intro cs o; rfl
      | cons x l ih => intro cs o; simp [setMany,ih]
     exact this _ _ _
  ·rw [if_neg (by simpa using e3),hcomp] at hct
   rw [wsucc (by omega)]
   refine t_again (hY (n - (k + 1 + 1)) _ _ (by omega) ⟨k + 1 + 1,rfl,rfl,by omega,by omega,rfl,?_⟩)
   rw [hct,List.take_add_one (i := k + 1),toList_at (by omega)]; rfl
 ·refine gZ ?_
  have hkn:k = n := by omega
  subst hkn
  rw [List.take_of_length_le (by omega)] at hcomp
  rw [hcomp,hl]
  exact t_ret ⟨rfl,d,s⟩
end Go.Proofs.YtfkfohpnpljihaaGreatDoor
end
section
namespace Go.TM
open Go Go.Conc
variable {P:Program} {E:Halt -> Cells -> Prop} {κ:Type} [DecidableEq κ] {enc:κ -> Value}
def updO (f:κ -> Option Value) (k:κ) (v:Value):κ -> Option Value := fun x => if x = k then some v else f x
structure MapO (enc:κ -> Value) (es:Array MapEntry) (f:κ -> Option Value):Prop where
 key:∀ e ∈ es.toList,∃ k,e.key = enc k /\ f k = some e.val
 has:∀ k v,f k = some v -> ∃ e ∈ es.toList,e.key = enc k
 once:(es.toList.map (·.key)).Nodup
omit [DecidableEq κ] in
theorem MapO.nil:MapO enc #[] (fun _ => none) := ⟨fun e he => by simp at he,fun k v h => by simp at h,by simp⟩
omit [DecidableEq κ] in
theorem MapO.none {es:Array MapEntry} {f:κ -> Option Value} {k:κ} (M:MapO enc es f) (hno:∀ e ∈ es.toList,e.key ≠ enc k):f k = none := by
 cases h:f k with
 | none => rfl
 | some v =>
  obtain ⟨e,he,hk⟩ := M.has k v h
  exact absurd hk (hno e he)
theorem nodup_ix {α:Type} {l:List α} (h:l.Nodup) {i j:Nat} {x:α} (hi:l[i]? = some x) (hj:l[j]? = some x):i = j := by
 obtain ⟨h1,h2⟩ := List.getElem?_eq_some_iff.1 hi
 obtain ⟨h3,h4⟩ := List.getElem?_eq_some_iff.1 hj
 have hp := List.pairwise_iff_getElem.1 h
 rcases Nat.lt_trichotomy i j with e | e | e
 ·exact absurd (h2.trans h4.symm) (hp i j h1 h3 e)
 ·exact e
 ·exact absurd (h4.trans h2.symm) (hp j i h3 h1 e)
theorem modify_at {es:Array MapEntry} {f:MapEntry -> MapEntry} (j:Nat):∀ i:Nat,(es.modify j f).toList[i]? = if i = j then (es.toList[i]?).map f else es.toList[i]? := by
 intro i
 rw [Array.getElem?_toList,Array.getElem?_modify,Array.getElem?_toList]
 by_cases hij:j = i
 ·subst hij; simp
 ·rw [if_neg hij,if_neg (Ne.symm hij)]
theorem MapO.modify (inj:∀ a b,enc a = enc b -> a = b) {es:Array MapEntry} {f:κ -> Option Value} (M:MapO enc es f) {j:Nat} {e0:MapEntry} {k:κ} {v:Value} (he:es.toList[j]? = some e0) (hk:e0.key = enc k) :
  MapO enc (es.modify j fun e => { e with key := enc k,val := v }) (updO f k v) := by
 have keys:(es.modify j fun e => { e with key := enc k,val := v }).toList.map (·.key) = es.toList.map (·.key) := by
  refine List.ext_getElem? fun i => ?_
  simp only [List.getElem?_map]
  rw [modify_at]
  by_cases e:i = j
  ·subst e; rw [if_pos rfl,he]; simp [hk]
  ·rw [if_neg e]
 refine ⟨fun e2 he2 => ?_,fun k' v' h' => ?_,by rw [keys]; exact M.once⟩
 ·obtain ⟨i,hi⟩ := List.mem_iff_getElem?.1 he2
  rw [modify_at] at hi
  by_cases e:i = j
  ·subst e
   rw [if_pos rfl,he] at hi
   cases hi
   exact ⟨k,rfl,by simp [updO]⟩
  ·rw [if_neg e] at hi
   obtain ⟨k',h1,h2⟩ := M.key e2 (List.mem_of_getElem? hi)
   refine ⟨k',h1,?_⟩
   have hne:k' ≠ k := by
    rintro rfl
    exact e (nodup_ix M.once (i := i) (j := j) (x := enc k') (by rw [List.getElem?_map,hi]; simp [h1]) (by rw [List.getElem?_map,he]; simp [hk]))
   simp [updO,hne,h2]
 ·have hmem:∀ e2 ∈ es.toList,∃ e3 ∈ (es.modify j fun e => { e with key := enc k,val := v }).toList,e3.key = e2.key := fun e2 he2 => by
   have:e2.key ∈ es.toList.map (·.key) := List.mem_map.2 ⟨e2,he2,rfl⟩
   rw [<- keys] at this
   obtain ⟨e3,h3,h4⟩ := List.mem_map.1 this
   exact ⟨e3,h3,h4⟩
  unfold updO at h'
  split at h'
  ·rename_i e
   subst e
   obtain ⟨e3,h3,h4⟩ := hmem e0 (List.mem_of_getElem? he)
   exact ⟨e3,h3,h4.trans hk⟩
  ·obtain ⟨e2,h1,h2⟩ := M.has k' v' h'
   obtain ⟨e3,h3,h4⟩ := hmem e2 h1
   exact ⟨e3,h3,h4.trans h2⟩
theorem MapO.push (inj:∀ a b,enc a = enc b -> a = b) {es:Array MapEntry} {c:Nat} {f:κ -> Option Value} (M:MapO enc es f) {k:κ} {v:Value} (hno:∀ e ∈ es.toList,e.key ≠ enc k) :
  MapO enc (es.push { key := enc k,val := v,born := c }) (updO f k v) := by
 refine ⟨fun e2 he2 => ?_,fun k' v' h' => ?_,?_⟩
 ·rw [Array.toList_push,List.mem_append,List.mem_singleton] at he2
  rcases he2 with he2 | rfl
  ·obtain ⟨k',h1,h2⟩ := M.key e2 he2
   have hne:k' ≠ k := by rintro rfl; exact hno e2 he2 h1
   exact ⟨k',h1,by simp [updO,hne,h2]⟩
  ·exact ⟨k,rfl,by simp [updO]⟩
 ·unfold updO at h'
  split at h'
  ·rename_i e
   subst e
   exact ⟨_,by rw [Array.toList_push,List.mem_append,List.mem_singleton]; exact .inr rfl,rfl⟩
  ·obtain ⟨e2,h1,h2⟩ := M.has k' v' h'
   exact ⟨e2,by rw [Array.toList_push]; exact List.mem_append_left _ h1,h2⟩
 ·rw [Array.toList_push,List.map_append,List.nodup_append]
  refine ⟨M.once,by simp,fun a ha b hb => ?_⟩
  obtain ⟨e,he,rfl⟩ := List.mem_map.1 ha
  simp at hb
  subst hb
  exact hno e he
omit [DecidableEq κ] in
theorem MapO.keys {kt:TypeId} {es:Array MapEntry} {f:κ -> Option Value} (M:MapO enc es f) (hf:∀ x,FKey P kt (enc x)):∀ e ∈ es.toList,FKey P kt e.key := fun e he => by
 obtain ⟨x,h1,_⟩ := M.key e he
 rw [h1]; exact hf x
variable {X:XP} {Q:Leaf -> LH -> Prop}
omit [DecidableEq κ] in
theorem t_getO {h:LH} {K:Value -> T} {t kt et:TypeId} {s b c m:Nat} {z:Value} {es:Array MapEntry} {f:κ -> Option Value} {kv:Value} {ok:Bool} (k:κ) (hkv:kv = enc k) (inj:∀ a b,enc a = enc b -> a = b) (hu:P.underlying t = some (.map kt et)) (hi:(P.info? et).map (fun i => (i.size,i.bytes,i.zero)) = some (s,b,some z))
  (hm:h.get m = some (true,.map es c)) (M:MapO enc es f) (hf:∀ x,FKey P kt (enc x)) (h1:∀ v,f k = some v -> (K (if ok then .tuple #[v,.bool true] else v)).wp X P Q h) (h2:f k = none -> (K (if ok then .tuple #[z,.bool false] else z)).wp X P Q h) :
  (T.sem false (Instr.lookup t (.map (some m)) kv ok) K).wp X P Q h := by
 subst hkv
 refine t_sem (A := fun v h' => h' = h.get /\ (K v).wp X P Q h) (lwp_lookupK hu hi ⟨c,hm⟩ (hf k) (M.keys hf) (fun e he hek => ?_) fun hno => ⟨rfl,h2 (M.none hno)⟩) (by rintro v h' ⟨rfl,hw⟩; exact hw)
 obtain ⟨k',h3,h4⟩ := M.key e he
 have:k' = k := inj _ _ (h3.symm.trans hek)
 subst this
 exact ⟨rfl,h1 _ h4⟩
theorem lwp_putO {h:Cells} {Q:Unit -> Cells -> Prop} {t kt et:TypeId} {c m:Nat} {es:Array MapEntry} {f:κ -> Option Value} {k:κ} {v:Value} (inj:∀ a b,enc a = enc b -> a = b) (hu:P.underlying t = some (.map kt et)) (hm:h m = some (true,.map es c)) (M:MapO enc es f) (hf:∀ x,FKey P kt (enc x))
  (hq:∀ es' c',MapO enc es' (updO f k v) -> Q () (h.upd m (true,.map es' c'))):Sem.lwp P (Instr.mapUpdate t (.map (some m)) (enc k) v) Q E h := by
 unfold Instr.mapUpdate
 rw [lwp_bind,lwp_underlying hu]
 simp only [lwp_bind]
 refine ⟨_,_,hm,trivial,?_⟩
 show Sem.lwp P (_ >>= _) _ E h
 rw [lwp_bind]
 refine lwp_checkKeyK (hf k) ?_
 rw [lwp_bind]
 refine lwp_findKeyK (hf k) (M.keys hf) (fun j e he hek => ?_) fun hno => ?_
 ·have he':es[j]? = some e := by rw [<- Array.getElem?_toList]; exact he
  simp only [lwp_bind,Instr.keyThatStays,he',Option.map_some,Option.getD_some,hek,sameBits_flat (hf k),if_true,lwp_pure]
  exact ⟨⟨_,hm,trivial⟩,hq _ _ (M.modify inj he hek)⟩
 ·exact ⟨⟨_,hm,trivial⟩,hq _ _ (M.push inj hno)⟩
theorem t_putO {h:LH} {K:Value -> T} {t kt et:TypeId} {c m:Nat} {es:Array MapEntry} {f:κ -> Option Value} {kv v:Value} (k:κ) (hkv:kv = enc k) (inj:∀ a b,enc a = enc b -> a = b) (hu:P.underlying t = some (.map kt et)) (hm:h.get m = some (true,.map es c)) (M:MapO enc es f) (hf:∀ x,FKey P kt (enc x))
  (hq:∀ es' c',MapO enc es' (updO f k v) -> (K (.tuple #[])).wp X P Q { h with get := h.get.upd m (true,.map es' c') }):(T.sem false (Sem.bind (Instr.mapUpdate t (.map (some m)) kv v) fun _ => pure (.tuple #[])) K).wp X P Q h := by
 subst hkv
 exact t_sem (A := fun w h' => w = .tuple #[] /\ (K (.tuple #[])).wp X P Q { h with get := h' }) (Sem.lwp_bind _ _ (lwp_putO inj hu hm M hf fun es' c' M' => by rw [lwp_pure]; exact ⟨rfl,hq es' c' M'⟩)) (by rintro w h' ⟨rfl,hw⟩; exact hw)
end Go.TM
end
section
namespace Go.TM
open Go Go.Conc Go.TM.Ma
def encI (n:Int):Value := .int .i64 n
theorem encI_inj:∀ a b,encI a = encI b -> a = b := fun a b h => by unfold encI at h; cases h; rfl
def ownM (ow:Ow):Int -> Option Value := fun y => (ow y).map (Value.int .i64)
def seenM (sn:Sn):Int -> Option Value := fun y => if sn y then some (.bool true) else none
theorem ownM_set (ow:Ow) (y x:Int):updO (ownM ow) y (.int .i64 x) = ownM (setO ow y x) := by
 funext z
 unfold updO ownM setO
 by_cases e:z = y <;> simp [e]
theorem seenM_set (sn:Sn) (y:Int):updO (seenM sn) y (.bool true) = seenM (setS sn y) := by
 funext z
 unfold updO seenM setS
 by_cases e:z = y <;> simp [e]
structure GSt (b₀:LH) (mo ms:Nat) (ow:Ow) (sn:Sn) (h:LH):Prop where
 le:b₀.le h
 only:∀ r,r ≠ mo -> r ≠ ms -> h.get r = b₀.get r
 ne:mo ≠ ms
 no:b₀.get mo = none
 ns:b₀.get ms = none
 own:∃ es c,h.get mo = some (true,.map es c) /\ MapO encI es (ownM ow)
 seen:∃ es c,h.get ms = some (true,.map es c) /\ MapO encI es (seenM sn)
variable {b₀ h:LH} {mo ms:Nat} {ow:Ow} {sn:Sn}
theorem GSt.see (g:GSt b₀ mo ms ow sn h) {y:Int} {es:Array MapEntry} {c:Nat} (M:MapO encI es (updO (seenM sn) y (.bool true))):GSt b₀ mo ms ow (setS sn y) { h with get := h.get.upd ms (true,.map es c) } := by
 refine ⟨⟨fun r x hx => ?_,g.le.2⟩,fun r h1 h2 => ?_,g.ne,g.no,g.ns,?_,es,c,Cells.upd_self _ _ _,by rw [<- seenM_set]; exact M⟩
 ·have:r ≠ ms := by rintro rfl; rw [g.ns] at hx; cases hx
  show h.get.upd ms _ r = _
  rw [Cells.upd_ne _ _ this]; exact g.le.1 r x hx
 ·show h.get.upd ms _ r = _
  rw [Cells.upd_ne _ _ h2]; exact g.only r h1 h2
 ·obtain ⟨es',c',h1,h2⟩ := g.own
  exact ⟨es',c',by show h.get.upd ms _ mo = _; rw [Cells.upd_ne _ _ g.ne]; exact h1,h2⟩
theorem GSt.give (g:GSt b₀ mo ms ow sn h) {y x:Int} {es:Array MapEntry} {c:Nat} (M:MapO encI es (updO (ownM ow) y (.int .i64 x))):GSt b₀ mo ms (setO ow y x) sn { h with get := h.get.upd mo (true,.map es c) } := by
 refine ⟨⟨fun r x hx => ?_,g.le.2⟩,fun r h1 h2 => ?_,g.ne,g.no,g.ns,⟨es,c,Cells.upd_self _ _ _,by rw [<- ownM_set]; exact M⟩,?_⟩
 ·have:r ≠ mo := by rintro rfl; rw [g.no] at hx; cases hx
  show h.get.upd mo _ r = _
  rw [Cells.upd_ne _ _ this]; exact g.le.1 r x hx
 ·show h.get.upd mo _ r = _
  rw [Cells.upd_ne _ _ h1]; exact g.only r h1 h2
 ·obtain ⟨es',c',h1,h2⟩ := g.seen
  exact ⟨es',c',by show h.get.upd mo _ ms = _; rw [Cells.upd_ne _ _ (Ne.symm g.ne)]; exact h1,h2⟩
def toSee (G:Ed) (sn:Sn):Nat := (G.filter fun p => !sn p.2).length
theorem toSee_le {G:Ed} {s s':Sn} (h:∀ y,s y = true -> s' y = true):toSee G s' <= toSee G s := by
 unfold toSee
 induction G with
 | nil => simp
 | cons p G ih =>
  rw [List.filter_cons,List.filter_cons]
  cases e:s p.2 with
  | true => rw [h _ e]; simpa using ih
  | false =>
   simp only [Bool.not_false,if_true,List.length_cons]
   split
   ·simp only [List.length_cons]; omega
   ·omega
theorem toSee_lt {G:Ed} {s:Sn} {p:Int × Int} (hp:p ∈ G) (hs:s p.2 = false):toSee G (setS s p.2) < toSee G s := by
 have up:∀ y,s y = true -> setS s p.2 y = true := fun y hy => setS_up hy
 induction G with
 | nil => simp at hp
 | cons q G ih =>
  have hle := toSee_le (G := G) up
  unfold toSee at ih hle ⊢
  rw [List.filter_cons,List.filter_cons]
  rcases List.mem_cons.1 hp with rfl | hp
  ·rw [hs,show setS s p.2 p.2 = true by simp [setS]]
   simp only [Bool.not_false,if_true,Bool.not_true,Bool.false_eq_true,if_false,List.length_cons]
   omega
  ·have := ih hp
   cases e:s q.2 with
   | true => rw [up _ e]; simpa using this
   | false =>
    simp only [Bool.not_false,if_true,List.length_cons]
    split
    ·simp only [List.length_cons]; omega
    ·omega
def without (h:LH) (mo ms:Nat):LH := { h with get := fun r => if r = mo \/ r = ms then none else h.get r }
theorem without_le (h:LH) (mo ms:Nat):(without h mo ms).le h := ⟨fun r x hx => by
 unfold without at hx
 simp only at hx
 split at hx
 ·cases hx
 ·exact hx,rfl,rfl,rfl⟩
theorem without_get {h:LH} {mo ms r:Nat} (h1:r ≠ mo) (h2:r ≠ ms):(without h mo ms).get r = h.get r := by
 unfold without
 simp [h1,h2]
end Go.TM
namespace Go.Proofs.YtfkfohpnpljihaaGreatDoor
open Go Go.TM Go.Proofs Go.TM.Ma
attribute [local irreducible] T.wp CV FWK
theorem und1201:Tryz.prog.underlying 218 = some (.map 3 3) := by kernel_rfl
theorem fkeyI (x:Int):FKey Tryz.prog 3 (encI x) := .inl (.inl ⟨und3,x,rfl⟩)
theorem c3213 {b₀:LH} {mo ms:Nat} {z0 z1 z2 z3:Addr} {p:Option Addr} {n c:Nat} {G:Ed} (h0:b₀.get.cell? z0 = some (.slice p n c)) (h1:b₀.get.cell? z1 = some (.map (some ms))) (h2:b₀.get.cell? z2 = some (.map (some mo)))
  (h3:b₀.get.cell? z3 = some (.func (.func 126) #[] #[.pointer (some z0),.pointer (some z1),.pointer (some z2),.pointer (some z3)])) (hG:Sl PairE 2 b₀.get p n G):∀ (N:Nat) {ow:Ow} {sn:Sn} {h:LH} (one:Int),toSee G sn = N -> GSt b₀ mo ms ow sn h ->
  FW X0 Tryz.prog 126 #[.int .i64 one,.pointer (some z0),.pointer (some z1),.pointer (some z2),.pointer (some z3)] h fun r h' => ∃ b ow' sn',r = .bool b /\ GSt b₀ mo ms ow' sn' h' /\ Srch G one ow sn ow' sn' b := by
 intro N
 induction N using Nat.strongRecOn with
 | ind N ih =>
  intro ow sn h one hN g
  refine w3213 _ _ _ _ _ X0_ok ?_
  unfold n3213
  have hn := hG.1
  have hbn := hG.2.1
  have y0 := Cells.cell?_le g.le.1 h0
  refine gZ ?_
  refine t_loop (fun mm vs h' => ∃ (k:Nat) (sk:Sn),vs = [.bool false,.int .i64 k] /\ k <= n /\ mm = n - k /\ GSt b₀ mo ms ow sk h' /\ Half G one ow sn k sk) ⟨0,sn,rfl,Nat.zero_le _,rfl,g,Half.start⟩ ?_
  rintro Y mm vs h₁ hY ⟨k,sk,rfl,hk,rfl,g1,hf⟩
  have next:∀ {h':LH} {s:Sn},GSt b₀ mo ms ow s h' -> k + 1 <= n -> Half G one ow sn (k + 1) s -> Y [.bool false,.int .i64 (wrap .i64 ((k:Int) + 1))] h' := fun g' hk' hf' => by
   refine hY (n - (k + 1)) _ _ (by omega) ⟨k + 1,_,?_,hk',rfl,g',hf'⟩
   rw [wrap_id (by omega) (by omega)]; rfl
  refine gZ ?_
  refine t_if (fun e1 => ?_) (fun e1 => ?_)
  ·obtain ⟨q,a,hq,ha,e2,e3⟩ := (hG.le PairE.grow g1.le.1).at (i := k) (by omega)
   have hin:0 <= (k:Int) /\ (k:Int) < (n:Int) := by omega
   refine gZ ?_
   refine t_blk (fun vs h' => vs = [] /\ h₁ = h' /\ q.1 = one /\ sk q.2 = false) ?_ ?_
   ·refine t_cond (fun b1 => ?_) (fun b1 => ?_)
    ·refine gZ ?_
     refine t_cond (fun _ => ?_) (fun e => by cases e)
     refine gZ ?_
     exact t_again (next g1 (by omega) (hf.skip hq fun e => by simp [e] at b1))
    have hone:q.1 = one := by simpa using b1
    have y1 := Cells.cell?_le g1.le.1 h1
    obtain ⟨es,cc,hm,hM⟩ := g1.seen
    refine gZ ?_
    refine t_getO (enc := encI) q.2 rfl encI_inj und138 inf4 hm hM fkeyI (fun v hv => ?_) fun hv => ?_
    ·have hs:sk q.2 = true /\ v = .bool true := by
      unfold seenM at hv
      split at hv
      ·rename_i e; cases hv; exact ⟨e,rfl⟩
      ·cases hv
     rw [hs.2]
     simp only [Bool.false_eq_true,if_false]
     refine gZ ?_
     refine t_cond (fun _ => ?_) (fun e => by cases e)
     refine gZ ?_
     refine t_cond (fun _ => ?_) (fun e => by cases e)
     refine gZ ?_
     exact t_again (next g1 (by omega) (hf.skip hq fun _ => hs.1))
    ·have hs:sk q.2 = false := by
      unfold seenM at hv
      split at hv
      ·cases hv
      ·rename_i e; simpa using e
     simp only [Bool.false_eq_true,if_false]
     refine gZ ?_
     refine t_cond (fun e => by cases e) (fun _ => ?_)
     exact t_again ⟨rfl,rfl,hone,hs⟩
   rintro vs _ ⟨rfl,rfl,hone,hs⟩
   have y1 := Cells.cell?_le g1.le.1 h1
   obtain ⟨es,cc,hm,hM⟩ := g1.seen
   refine gZ ?_
   refine t_putO (enc := encI) q.2 rfl encI_inj und138 hm hM fkeyI fun es' c' hM' => ?_
   have g2 := g1.see (c := c') hM'
   generalize hh2:({ h₁ with get := h₁.get.upd ms (true,.map es' c') }:LH) = h₂ at *
   have y2 := Cells.cell?_le g2.le.1 h2
   obtain ⟨es2,cc2,hm2,hM2⟩ := g2.own
   refine gZ ?_
   refine t_getO (enc := encI) q.2 rfl encI_inj und1201 inf3 hm2 hM2 fkeyI (fun v hv => ?_) fun hv => ?_
   ·obtain ⟨o,ho,rfl⟩ : ∃ o,ow q.2 = some o /\ v = .int .i64 o := by
     unfold ownM at hv
     obtain ⟨o,h1,h2⟩ := Option.map_eq_some_iff.1 hv
     exact ⟨o,h1,h2.symm⟩
    simp only [if_true]
    refine gZ ?_
    refine t_cond (fun e => by cases e) (fun _ => ?_)
    refine t_loadV (Cells.cell?_le g2.le.1 h3) ?_
    have hless:toSee G (setS sk q.2) < N := by
     have a1 := toSee_lt (List.mem_of_getElem? hq) hs
     have a2 := toSee_le (G := G) hf.grow
     omega
    refine t_callv (cv_fw (first := #[]) (args := #[.int .i64 o]) (cap := #[.pointer (some z0),.pointer (some z1),.pointer (some z2),.pointer (some z3)]) X0_ok rfl (ih _ hless o rfl g2)) ?_
    rintro _ h₃ ⟨b,ow',sn',rfl,g3,s3⟩
    refine gZ ?_
    refine t_cond (fun b2 => ?_) (fun b2 => ?_)
    ·subst b2
     have y2' := Cells.cell?_le g3.le.1 h2
     obtain ⟨es3,cc3,hm3,hM3⟩ := g3.own
     refine gZ ?_
     refine t_putO (enc := encI) q.2 rfl encI_inj und1201 hm3 hM3 fkeyI fun es' c' hM' => ?_
     have g4 := g3.give (c := c') hM'
     refine gZ ?_
     exact t_ret ⟨true,_,_,rfl,g4,hf.take hq hone hs ho s3⟩
    ·subst b2
     obtain ⟨rfl,hf'⟩ := hf.miss hq hs ho s3
     exact t_again (next g3 (by omega) hf')
   ·have ho:ow q.2 = none := by
     unfold ownM at hv
     simpa using hv
    simp only [if_true]
    refine gZ ?_
    refine t_cond (fun _ => ?_) (fun e => by cases e)
    refine gZ ?_
    refine t_putO (enc := encI) q.2 rfl encI_inj und1201 hm2 hM2 fkeyI fun es' c' hM' => ?_
    have g4 := g2.give (c := c') hM'
    refine gZ ?_
    exact t_ret ⟨true,_,_,rfl,g4,hf.free hq hone hs ho⟩
  ·refine gZ ?_
   have:k = G.length := by omega
   subst this
   exact t_ret ⟨false,ow,sk,rfl,g1,hf.stop⟩
set_option maxRecDepth 10000 in
theorem c3191 {h:LH} {p0 p1 p2 p q pp:Option Addr} {n0 c0 n1 c1 n2 c2 n c m d pn pc:Nat} {e lev:Int} {a:List Int} {G:Ed} (ha:Sl IntE 1 h.get p n a) (hnd:a.Nodup) (hG:Sl PairE 2 h.get pp pn G) (hGA:∀ x ∈ G,x.1 ∈ a) :
  Gr Tryz.prog 77 #[.agg #[.slice p0 n0 c0,.slice p1 n1 c1,.slice p2 n2 c2,.int .i64 e,.int .i64 lev,.slice p n c,.slice q m d],.slice pp pn pc] h fun r _ => ∃ k:Nat,r = .int .i64 k /\ Mat G k /\ Cov G k := by
 refine w3191 _ _ _ _ _ _ _ _ _ _ _ _ _ _ _ _ _ _ _ _ X0_ok ?_
 unfold n3191
 have hn := ha.1
 have hbn := ha.2.1
 refine t_new fun r hr => ?_
 have le1 := LH.upd_le (x := (true,.cells #[.slice pp pn pc] 98 (0,0))) hr
 generalize hh1:({ h with get := h.get.upd r (true,.cells #[.slice pp pn pc] 98 (0,0)) }:LH) = h1 at *
 have k1:h1.get r = some (true,.cells #[.slice pp pn pc] 98 (0,0)) := by rw [<- hh1]; exact Cells.upd_self _ _ _
 refine t_makeMap fun mo hmo => ?_
 have le2 := LH.upd_le (x := (true,.map #[] 0)) hmo
 have hrm:r ≠ mo := by rintro rfl; rw [k1] at hmo; cases hmo
 generalize hh2:({ h1 with get := h1.get.upd mo (true,.map #[] 0) }:LH) = h2 at *
 have k2:h2.get mo = some (true,.map #[] 0) := by rw [<- hh2]; exact Cells.upd_self _ _ _
 refine gZ ?_
 refine t_newBox (fun _ => rfl) fun r1 hr1 => ?_
 have le3 := LH.upd_le (x := (true,.cells #[.map (some mo)] 218 (0,0))) hr1
 have h1m:r1 ≠ mo := by rintro rfl; rw [k2] at hr1; cases hr1
 generalize hh3:({ h2 with get := h2.get.upd r1 (true,.cells #[.map (some mo)] 218 (0,0)) }:LH) = h3 at *
 have k3:h3.get r1 = some (true,.cells #[.map (some mo)] 218 (0,0)) := by rw [<- hh3]; exact Cells.upd_self _ _ _
 have le03 := LH.le_trans le1 (LH.le_trans le2 le3)
 have hmo0:h.get mo = none := by
  cases hx:h.get mo with
  | none => rfl
  | some x => rw [le1.1 _ _ hx] at hmo; cases hmo
 refine t_loop (fun mm vs h' => h.le h' /\ h'.get r = some (true,.cells #[.slice pp pn pc] 98 (0,0)) /\ h'.get r1 = some (true,.cells #[.map (some mo)] 218 (0,0)) /\ ∃ (i k:Nat) (ow:Ow),vs = [.int .i64 k,.int .i64 i] /\ i <= n /\ k <= i /\ mm = n - i /\
   (∃ es c,h'.get mo = some (true,.map es c) /\ MapO encI es (ownM ow)) /\ Best G (a.take i) ow k)
  ⟨le03,le3.1 _ _ (le2.1 _ _ k1),k3,0,0,fun _ => none,rfl,Nat.zero_le _,Nat.le_refl _,rfl,⟨#[],0,le3.1 _ _ k2,MapO.nil⟩,Best.start⟩ ?_
 rintro Y mm vs g1 hY ⟨l1,e1,e2,i,k,ow,rfl,hi,hki,rfl,⟨es,cc,hm,hM⟩,hB⟩
 refine gZ ?_
 refine t_if (fun b1 => ?_) (fun b1 => ?_)
 ·obtain ⟨x,ad,hx,had,e3⟩ := (ha.le IntE.grow l1.1).at (i := i) (by omega)
  unfold IntE at e3
  have hin:0 <= (i:Int) /\ (i:Int) < (n:Int) := by omega
  refine gZ ?_
  refine t_makeMap fun ms hms => ?_
  have l2 := LH.upd_le (x := (true,.map #[] 0)) hms
  generalize hg2:({ g1 with get := g1.get.upd ms (true,.map #[] 0) }:LH) = g2 at *
  have j2:g2.get ms = some (true,.map #[] 0) := by rw [<- hg2]; exact Cells.upd_self _ _ _
  refine gZ ?_
  refine t_newBox (fun _ => rfl) fun r2 hr2 => ?_
  have l3 := LH.upd_le (x := (true,.cells #[.map (some ms)] 163 (0,0))) hr2
  generalize hg3:({ g2 with get := g2.get.upd r2 (true,.cells #[.map (some ms)] 163 (0,0)) }:LH) = g3 at *
  have j3:g3.get r2 = some (true,.cells #[.map (some ms)] 163 (0,0)) := by rw [<- hg3]; exact Cells.upd_self _ _ _
  refine t_newBox (fun _ => rfl) fun r3 hr3 => ?_
  have l4 := LH.upd_le (x := (true,.cells #[.func (.func 126) #[] #[.pointer (some ⟨r,0,none⟩),.pointer (some ⟨r2,0,none⟩),.pointer (some ⟨r1,0,none⟩),.pointer (some ⟨r3,0,none⟩)]] 115 (0,0))) hr3
  generalize hg4:({ g3 with get := g3.get.upd r3 (true,.cells #[.func (.func 126) #[] #[.pointer (some ⟨r,0,none⟩),.pointer (some ⟨r2,0,none⟩),.pointer (some ⟨r1,0,none⟩),.pointer (some ⟨r3,0,none⟩)]] 115 (0,0)) }:LH) = g4 at *
  have j4:g4.get r3 = some (true,.cells #[.func (.func 126) #[] #[.pointer (some ⟨r,0,none⟩),.pointer (some ⟨r2,0,none⟩),.pointer (some ⟨r1,0,none⟩),.pointer (some ⟨r3,0,none⟩)]] 115 (0,0)) := by rw [<- hg4]; exact Cells.upd_self _ _ _
  have l14 := LH.le_trans l2 (LH.le_trans l3 l4)
  have l04 := LH.le_trans l1 l14
  have f1 := l14.1 _ _ e1
  have f2 := l14.1 _ _ e2
  have f3 := l4.1 _ _ j3
  have fm := l14.1 _ _ hm
  have fs := l4.1 _ _ (l3.1 _ _ j2)
  have hms0:h.get ms = none := by
   cases hx:h.get ms with
   | none => rfl
   | some x => rw [l1.1 _ _ hx] at hms; cases hms
  have dif:∀ {b:Nat} {y:Bool × Obj},g4.get b = some y -> notCells y.2 -> ∀ {b':Nat} {y':Bool × Obj},g4.get b' = some y' -> ¬ notCells y'.2 -> b' ≠ b := fun h1 h2 _ _ h3 h4 e => by
   subst e; rw [h1] at h3; cases h3; exact h4 h2
  have q1m := dif fm trivial f1 id
  have q1s := dif fs trivial f1 id
  have q2m := dif fm trivial f2 id
  have q2s := dif fs trivial f2 id
  have q3m := dif fm trivial f3 id
  have q3s := dif fs trivial f3 id
  have q4m := dif fm trivial j4 id
  have q4s := dif fs trivial j4 id
  have hmm:mo ≠ ms := by rintro rfl; rw [hm] at hms; cases hms
  have hb:∀ x:Nat,∀ y,h.get x = some y -> (without g4 mo ms).get x = some y := fun x y hx => by
   have n1:x ≠ mo := by rintro rfl; rw [hmo0] at hx; cases hx
   have n2:x ≠ ms := by rintro rfl; rw [hms0] at hx; cases hx
   rw [without_get n1 n2]; exact l04.1 _ _ hx
  have hb0:h.le (without g4 mo ms) := ⟨hb,l04.2⟩
  have st:GSt (without g4 mo ms) mo ms ow (fun _ => false) g4 := by
   refine ⟨without_le _ _ _,fun b n1 n2 => (without_get n1 n2).symm,hmm,?_,?_,⟨es,cc,fm,hM⟩,#[],0,fs,?_⟩
   ·unfold without; simp
   ·unfold without; simp
   ·have:seenM (fun _ => false) = fun _ => none := by funext y; simp [seenM]
    rw [this]; exact MapO.nil
  have cell:∀ {b:Nat} {v:Value} {el:TypeId},b ≠ mo -> b ≠ ms -> g4.get b = some (true,.cells #[v] el (0,0)) -> (without g4 mo ms).get.cell? ⟨b,0,none⟩ = some v := fun n1 n2 hb => by
   unfold Cells.cell?
   rw [without_get n1 n2,hb]
   rfl
  refine t_loadV (n := .func (.func 126) #[] #[.pointer (some ⟨r,0,none⟩),.pointer (some ⟨r2,0,none⟩),.pointer (some ⟨r1,0,none⟩),.pointer (some ⟨r3,0,none⟩)]) (by unfold Cells.cell?; rw [j4]; rfl) ?_
  refine t_callv (cv_fw (first := #[]) (args := #[.int .i64 x]) (cap := #[.pointer (some ⟨r,0,none⟩),.pointer (some ⟨r2,0,none⟩),.pointer (some ⟨r1,0,none⟩),.pointer (some ⟨r3,0,none⟩)]) X0_ok rfl (c3213 (cell q1m q1s f1) (cell q3m q3s f3) (cell q2m q2s f2) (cell q4m q4s j4) (hG.le PairE.grow hb0.1) _ x rfl st)) ?_
  rintro _ g5 ⟨b,ow',sn',rfl,st',sr⟩
  have hna:x ∉ a.take i := fun hm => by
   have hp := List.take_append_drop i a ▸ hnd
   rw [List.nodup_append] at hp
   refine hp.2.2 x hm x ?_ rfl
   rw [drop_of hx]; simp
  have hB' := hB.step hna sr
  rw [<- show a.take (i + 1) = a.take i ++ [x] by rw [List.take_add_one,hx]; rfl] at hB'
  have keep:∀ (k':Nat),k' <= i + 1 -> Best G (a.take (i + 1)) ow' k' -> Y [.int .i64 (k':Int),.int .i64 (wrap .i64 ((i:Int) + 1))] g5 := fun k' hk' hb' => by
   refine hY (n - (i + 1)) _ _ (by omega) ⟨LH.le_trans hb0 st'.le,st'.le.1 _ _ (by rw [without_get q1m q1s]; exact f1),st'.le.1 _ _ (by rw [without_get q2m q2s]; exact f2),i + 1,k',ow',?_,by omega,hk',rfl,st'.own,hb'⟩
   rw [wrap_id (by omega) (by omega)]; rfl
  refine gZ ?_
  refine t_cond (fun b2 => ?_) (fun b2 => ?_)
  ·subst b2
   have := keep (k + 1) (by omega) hB'
   rw [show ((k + 1:Nat):Int) = wrap .i64 ((k:Int) + 1) by rw [wrap_id (by omega) (by omega)]; rfl] at this
   exact t_again this
  ·subst b2
   exact t_again (keep k (by omega) hB')
 ·refine gZ ?_
  have:a.take i = a := List.take_of_length_le (by omega)
  rw [this] at hB
  obtain ⟨r1,r2⟩ := hB.done hGA
  exact t_ret ⟨l1,k,rfl,r1,r2⟩
end Go.Proofs.YtfkfohpnpljihaaGreatDoor
end
section
namespace Go.TM
open Go Go.Conc Go.Sort Go.TM.Ma
theorem pairs_nodup {t:GTab} {e lev:Int} {b x y:List Int} (hb:b.Nodup):∀ {a:List Int},a.Nodup -> (pairsF t e lev a b x y).Nodup
 | [],_ => List.nodup_nil
 | one :: a,h => by
  have hn := List.nodup_cons.1 h
  show (pairs1 t e lev x y b one ++ pairsF t e lev a b x y).Nodup
  rw [List.nodup_append]
  refine ⟨?_,pairs_nodup hb hn.2,fun p hp q hq e1 => ?_⟩
  ·unfold pairs1
   refine List.Pairwise.map _ (fun u v huv e1 => huv (by cases e1; rfl)) (List.Nodup.sublist List.filter_sublist hb)
  ·subst e1
   unfold pairs1 at hp
   obtain ⟨two,_,rfl⟩ := List.mem_map.1 hp
   exact hn.1 (mem_pairs.1 hq).1
theorem pairs_few {t:GTab} (ok:TabOk t) {e lev:Int} (hlev:1 <= lev) {a b x y:List Int} (oa:ListOk t e a) (ha:a.Nodup) (hb:b.Nodup):(pairsF t e lev a b x y).length <= 28 := by
 have h8 := oa.len8 ok
 have hk := ok.kins
 have := nodup_le (b := a.map (fun v => (v,v)) ++ (t.kins.map (fun k => (k.one,k.two)) ++ t.kins.map fun k => (k.two,k.one))) (pairs_nodup (t := t) (e := e) (lev := lev) (x := x) (y := y) hb ha) fun p hp => by
  obtain ⟨h1,_,h3⟩ := mem_pairs.1 hp
  rw [List.mem_append,List.mem_append]
  by_cases e0:p.1 = p.2
  ·exact .inl (List.mem_map.2 ⟨p.1,h1,by rw [Prod.ext_iff]; exact ⟨rfl,e0⟩⟩)
  ·right
   have hl:¬ levelF t e p.1 p.2 < lev := by
    unfold pairOk at h3
    simp only [Bool.not_eq_true',Bool.or_eq_false_iff,decide_eq_false_iff_not] at h3
    exact h3.2.2
   unfold levelF at hl
   rw [if_neg e0] at hl
   cases hf:t.kins.find? (kinIs e p.1 p.2) with
   | none => rw [hf] at hl; simp only [] at hl; omega
   | some k =>
    have hm := List.mem_of_find?_eq_some hf
    have hi := List.find?_some hf
    unfold kinIs at hi
    simp only [Bool.and_eq_true,beq_iff_eq] at hi
    by_cases h2:p.2 < p.1
    ·rw [if_pos h2,if_neg (by omega)] at hi
     exact .inr (List.mem_map.2 ⟨k,hm,by rw [hi.2.1,hi.2.2]⟩)
    ·rw [if_neg h2] at hi
     have:p.2 > p.1 := by omega
     rw [if_pos this] at hi
     exact .inl (List.mem_map.2 ⟨k,hm,by rw [hi.2.1,hi.2.2]⟩)
 simp only [List.length_append,List.length_map] at this
 omega
theorem ListOk.nodup {t:GTab} {e:Int} {l:List Int} (o:ListOk t e l):l.Nodup := o.up.imp fun h e => by subst e; omega
end Go.TM
namespace Go.Proofs.YtfkfohpnpljihaaGreatDoor
open Go Go.TM Go.Proofs Go.Sort Go.TM.Ma
attribute [local irreducible] T.wp CV FWK
theorem c3214n {h1:LH}:Pu Tryz.prog 128 #[.slice none 0 0] h1 (.slice none 0 0) := by
 refine w3214 _ _ _ X0_ok ?_
 unfold n3214
 refine t_if (fun _ => ?_) (fun e => absurd (by omega) e)
 exact t_ret ⟨rfl,rfl⟩
theorem c3192 {h:LH} {f:TabC} {t:GTab} (ok:TabOk t) {e lev:Int} (hlev:1 <= lev) {p q px:Option Addr} {n c m d nx cx:Nat} {a b x:List Int} (hr:TabR h.get f t) (ha:Sl IntE 1 h.get p n a) (oa:ListOk t e a) (hb:Sl IntE 1 h.get q m b) (ob:ListOk t e b) (hx:Sl IntE 1 h.get px nx x) :
  Gr Tryz.prog 78 #[.agg #[.slice f.p0 f.n0 f.c0,.slice f.p1 f.n1 f.c1,.slice f.p2 f.n2 f.c2,.int .i64 e,.int .i64 lev,.slice p n c,.slice q m d],.slice px nx cx] h fun r _ => ∃ (p':Option Addr) (c':Nat) (R:List Int),r = .slice p' R.length c' /\ R.length <= 28 /\ R.Nodup /\ ∀ y,y ∈ R ↔ ∃ g ∈ pairsF t e lev a b x [],g.2 = y := by
 refine w3192 _ _ _ _ _ _ _ _ _ _ _ _ _ _ _ _ _ _ _ _ X0_ok ?_
 unfold n3192
 refine t_gr (c3190 (py := none) (ny := 0) (cy := 0) (y := []) hr ha hb hx Sl.nil) ?_
 intro v h1 le1 hH
 have hfew := pairs_few ok hlev (x := x) (y := []) oa oa.nodup ob.nodup
 generalize hL:pairsF t e lev a b x [] = L at *
 refine t_each (LH.le_refl h1) hH (fun j vs h' => ∃ (p:Option Addr) (n c:Nat),vs = [.slice p n c] /\ Growing IntEnc 3 1 h1.get h'.get p n c ((L.take j).map (·.2))) ⟨none,0,0,rfl,Growing.nil⟩ ?_ ?_
 ·rintro vs h' hle ⟨p,n,c,rfl,g⟩
  rw [List.take_of_length_le (by rw [List.length_map]; omega)] at g
  have le2 := LH.le_trans le1 hle
  have hng := g.count IntEnc.len (by omega)
  have hl:Sl IntE 1 h'.get p n (L.map (·.2)) := g.sl IntEnc.len (by omega) IntEnc.e (by rw [List.length_map]; omega)
  obtain ⟨vs,⟨hvl,hown⟩,rows⟩ := g.row
  have new := g.new
  refine gZ ?_
  rcases hown with ⟨rfl,rfl,rfl⟩ | ⟨r,cs,rfl,hr1,hcs,hnc,hv⟩
  ·have hL0:L = [] := by
    have := hl.1
    rw [List.length_map] at this
    exact List.eq_nil_of_length_eq_zero this.symm
   subst hL0
   refine t_pu c2092n ?_
   refine gZ ?_
   refine t_pu c3214n ?_
   refine gZ ?_
   exact t_ret ⟨le2,none,0,[],rfl,by simp,List.nodup_nil,fun y => by simp⟩
  have hr0:h1.get r = none := new _ rfl
  have hv':∀ (j:Nat) y,(L.map (·.2))[j]? = some y -> cs[j]? = some (.int .i64 y) := fun j y hj => by
   obtain ⟨ws,e1,e2⟩ := rows.at IntEnc.len j y hj
   rw [e1] at e2
   have := e2 0 _ rfl
   rw [Nat.mul_one,Nat.add_zero] at this
   exact hv j _ this
  have hdn:n = (L.map (·.2)).toArray.size := by rw [List.size_toArray]; exact hl.1
  have hnL:n = L.length := by rw [hl.1,List.length_map]
  have hRA:RA cs (L.map (·.2)).toArray := fun i hi => by
   refine hv' i _ ?_
   have := toList_at hi
   rwa [List.toList_toArray] at this
  have st:DSt h' r 3 cs.size (L.map (·.2)).toArray h' := DSt.self hr1 (by rw [<- hdn]; omega) hRA
  have hsort := sortInt (L.map (·.2))
  have hszs:(Go.Sort.sort ltInt (L.map (·.2)).toArray).size = n := by rw [(sort_sorts ltInt swo_ltInt _).1.1,<- hdn]
  have hc1 := c2092 (c := c) st (by rw [<- hdn]; omega)
  rw [<- hdn] at hc1
  generalize hS:Go.Sort.sort ltInt (L.map (·.2)).toArray = S at *
  refine t_call hc1 ?_
  rintro _ h2 ⟨rfl,s2⟩
  have hup:S.toList.Pairwise (· <= ·) := by
   rw [hsort]
   have := List.pairwise_mergeSort (le := fun x y:Int => decide (x <= y)) (fun a b c h1 h2 => by simp at *; omega) (fun a b => by simp; omega) (L.map (·.2))
   exact this.imp fun h => of_decide_eq_true h
  have hmem:∀ y,y ∈ S.toList ↔ ∃ g ∈ L,g.2 = y := fun y => by
   rw [hsort,(List.mergeSort_perm _ _).mem_iff,List.mem_map]
  have hc2 := c3214 (c := c) s2 (by omega) hup (by omega)
  rw [hszs] at hc2
  refine gZ ?_
  refine t_call hc2 ?_
  rintro _ h3 ⟨rfl,d',s3⟩
  refine gZ ?_
  obtain ⟨q1,q2,_⟩ := compact_spec _ S.toList rfl hup
  have hcl := compact_len S.toList
  have hsl:S.toList.length = n := by rw [Array.length_toList]; exact hszs
  refine t_ret ⟨⟨fun b y hb => ?_,by rw [s3.rest.1]; exact le2.2.1,by rw [s3.rest.2.1]; exact le2.2.2.1,by rw [s3.rest.2.2]; exact le2.2.2.2⟩,_,c,compactL S.toList,rfl,by omega,q1.imp fun h e => by subst e; omega,fun y => by rw [q2,hmem]⟩
  have hbr:b ≠ r := by rintro rfl; rw [le1.1 _ _ hb] at hr0; cases hr0
  exact s3.keep b y hbr (le2.1 _ _ hb)
 ·rintro j xs vs h' hj hle ⟨p,n,c,rfl,g⟩ Y hY
  rw [List.getElem?_map] at hj
  obtain ⟨w,hw,rfl⟩ := Option.map_eq_some_iff.1 hj
  have hng := g.count IntEnc.len (by omega)
  rw [List.length_map,List.length_take] at hng
  unfold pairV
  refine gZ ?_
  refine t_pushI g hle (by omega) fun p' c' h2 le2 g2 => ?_
  refine gZ ?_
  refine t_againE le2 (hY _ _ le2 ⟨p',n + 1,c',rfl,?_⟩)
  rw [List.take_add_one,hw,List.map_append]; exact g2
end Go.Proofs.YtfkfohpnpljihaaGreatDoor
end
section
namespace Go.TM
open Go Go.Conc
def pcs (y:Int × Int):List Value := [.int .i64 y.1,.int .i64 y.2]
def flatP (l:List (Int × Int)):List Value := l.flatMap pcs
theorem flatP_len:∀ l:List (Int × Int),(flatP l).length = l.length * 2
 | [] => rfl
 | y :: l => by
  show (pcs y ++ flatP l).length = _
  rw [List.length_append,flatP_len l,List.length_cons]
  show 2 + l.length * 2 = _
  omega
theorem flatP_get:∀ {l:List (Int × Int)} {j:Nat} {v:Value},(flatP l)[j]? = some v -> ∃ k y,l[k]? = some y /\ ((j = k * 2 /\ v = .int .i64 y.1) \/ (j = k * 2 + 1 /\ v = .int .i64 y.2))
 | [],j,v,h => by simp [flatP] at h
 | y :: l,0,v,h => ⟨0,y,rfl,.inl ⟨rfl,by cases h; rfl⟩⟩
 | y :: l,1,v,h => ⟨0,y,rfl,.inr ⟨rfl,by cases h; rfl⟩⟩
 | y :: l,j + 2,v,h => by
  have h':(flatP l)[j]? = some v := h
  obtain ⟨k,z,h1,h2⟩ := flatP_get h'
  refine ⟨k + 1,z,by simpa using h1,?_⟩
  rcases h2 with ⟨rfl,h3⟩ | ⟨rfl,h3⟩
  ·exact .inl ⟨by omega,h3⟩
  ·exact .inr ⟨by omega,h3⟩
theorem rows_pairs:∀ l:List (Int × Int),Rows PairEnc (flatP l) l := by
 have:∀ (k:Nat) (l:List (Int × Int)),l.length = k -> Rows PairEnc (flatP l) l := by
  intro k
  induction k with
  | zero => intro l h; rw [List.eq_nil_of_length_eq_zero h]; exact .nil
  | succ k ih =>
   intro l h
   have hne:l ≠ [] := by rintro rfl; simp at h
   rw [<- List.dropLast_concat_getLast hne]
   have e:flatP (l.dropLast ++ [l.getLast hne]) = flatP l.dropLast ++ pcs (l.getLast hne) := by unfold flatP; rw [List.flatMap_append]; simp
   rw [e]
   exact .snoc (ih _ (by simp [h])) rfl
 exact fun l => this _ l rfl
def RP (cs:Array Value) (l:List (Int × Int)):Prop := ∀ (k:Nat) y,l[k]? = some y -> cs[k * 2]? = some (.int .i64 y.1) /\ cs[k * 2 + 1]? = some (.int .i64 y.2)
theorem RP.flat {cs:Array Value} {l:List (Int × Int)} (h:RP cs l) {j:Nat} {v:Value} (hj:(flatP l)[j]? = some v):cs[j]? = some v := by
 obtain ⟨k,y,h1,h2⟩ := flatP_get hj
 rcases h2 with ⟨rfl,rfl⟩ | ⟨rfl,rfl⟩
 ·exact (h k y h1).1
 ·exact (h k y h1).2
variable {P:Program} {X:XP} {Q:Leaf -> LH -> Prop}
theorem zeroCells_pair (n:Nat):(Builtin.zeroCells #[Value.int .i64 0,.int .i64 0] n).toList = List.replicate (n * 2) (.int .i64 0) := by
 unfold Builtin.zeroCells
 refine List.ext_getElem? fun i => ?_
 simp only [Array.toList_map,Array.toList_range,List.getElem?_map,List.getElem?_replicate]
 by_cases h:i < n * 2
 ·rw [List.getElem?_range (by simpa using h),if_pos h]
  have:i % 2 = 0 \/ i % 2 = 1 := by omega
  rcases this with e | e <;> simp [e]
 ·rw [List.getElem?_eq_none (by simp; omega),if_neg h]; rfl
theorem t_clearP {h:LH} {K:Value -> T} {t el eb ty:TypeId} {b r o n c:Nat} {cs:Array Value} (hu:P.underlying t = some (.slice el)) (hi:(P.info? el).map (fun i => (i.size,i.bytes,i.zero)) = some (2,b,some (.agg #[.int .i64 0,.int .i64 0]))) (hr:h.get r = some (true,.cells cs eb (0,0))) (hn:n ≠ 0) (ho:o + n * 2 <= cs.size)
  (hk:∀ h',Turn1 r h h' -> (∃ cs',h'.get r = some (true,.cells cs' eb (0,0)) /\ cs'.size = cs.size /\ ∀ k,k < o -> cs'[k]? = cs[k]?) -> (K (.tuple #[])).wp X P Q h'):(T.sem false (Builtin.clear_ #[t] ty #[.slice (some ⟨r,o,none⟩) n c]) K).wp X P Q h := by
 obtain ⟨inf,g1,g2,g3,g4⟩ := info_of hi
 refine t_sem (A := fun v h' => v = .tuple #[] /\ h' = h.get.upd r (true,.cells (setMany cs o (List.replicate (n * 2) (.int .i64 0))) eb (0,0))) ?_ (by
  rintro v h' ⟨rfl,rfl⟩
  refine hk _ ⟨fun b' hb => ?_,rfl,rfl,rfl⟩ ⟨_,Cells.upd_self _ _ _,size_setMany _ _ _,fun k hk => ?_⟩
  ·show h.get.upd r _ b' = _
   rw [Cells.upd_ne _ _ hb]
  ·rw [get_setMany _ _ _ (by rw [List.length_replicate]; omega),if_neg (by omega)])
 unfold Builtin.clear_
 match n,hn,ho with
 | n + 1,_,ho =>
  show Sem.lwp P (underlying t >>= _) _ _ _
  rw [lwp_bind,lwp_underlying hu]
  show Sem.lwp P (zeroValue el >>= _) _ _ _
  rw [lwp_bind,lwp_zeroValue g1 g4]
  rw [show Value.cells (.agg #[.int .i64 0,.int .i64 0]) = #[.int .i64 0,.int .i64 0] from rfl,zeroCells_pair,lwp_bind]
  refine lwp_storeCells _ 0 _ r o cs eb hr (by rw [List.length_replicate]; omega) (fun v hv => ?_) ⟨rfl,rfl⟩
  rw [List.eq_of_mem_replicate hv]; rfl
end Go.TM
namespace Go.Proofs.YtfkfohpnpljihaaGreatDoor
open Go Go.TM Go.Proofs Go.TM.Ma
attribute [local irreducible] T.wp CV FWK
theorem c3217 {h:LH} {z0:Addr} {p q:Int × Int} (h0:h.get.cell? (z0.add 0) = some (.int .i64 p.1)) (h1:h.get.cell? (z0.add 1) = some (.int .i64 p.2)):Pu Tryz.prog 132 #[.agg #[.int .i64 q.1,.int .i64 q.2],.pointer (some z0)] h (.bool (q.1 == p.1 || q.2 == p.2)) := by
 refine w3217 _ _ _ X0_ok ?_
 unfold n3217
 refine gZ ?_
 refine t_cond (fun b1 => ?_) (fun b1 => ?_)
 ·rw [b1]; exact t_ret ⟨rfl,rfl⟩
 ·refine gZ ?_
  rw [b1]; exact t_ret ⟨rfl,rfl⟩
theorem c3241 {h:LH} {p:Option Addr} {n c:Nat} {l:List (Int × Int)} {fv:Value} {g:Int × Int -> Bool} (hl:Sl PairE 2 h.get p n l) (hf:∀ x:Int × Int,CV X0 Tryz.prog fv #[.agg #[.int .i64 x.1,.int .i64 x.2]] h fun r h' => r = .bool (g x) /\ h' = h) :
  FW X0 Tryz.prog 175 #[.slice p n c,fv] h fun r h' => h = h' /\ ∃ i:Nat,i <= n /\ (∀ (j:Nat) x,j < i -> l[j]? = some x -> g x = false) /\ ((i = n /\ r = .int .i64 (-1)) \/ (i < n /\ r = .int .i64 i /\ ∃ x,l[i]? = some x /\ g x = true)) := by
 refine w3241 _ _ _ _ X0_ok ?_
 unfold n3241
 have hn := hl.1
 have hb := hl.2.1
 refine t_loop (fun mm vs h' => h' = h /\ ∃ i:Nat,vs = [.int .i64 0,.int .i64 i] /\ i <= n /\ mm = n - i /\ ∀ (j:Nat) x,j < i -> l[j]? = some x -> g x = false) ⟨rfl,0,rfl,Nat.zero_le _,rfl,fun j x hj => absurd hj (Nat.not_lt_zero _)⟩ ?_
 rintro Y mm vs _ hY ⟨rfl,i,rfl,hi,rfl,hall⟩
 refine gZ ?_
 refine t_if (fun e1 => ?_) (fun e1 => ?_)
 ·obtain ⟨x,a,hx,ha,e2,e3⟩ := hl.at (i := i) (by omega)
  have hin:0 <= (i:Int) /\ (i:Int) < (n:Int) := by omega
  refine gZ ?_
  refine t_callv (hf x) ?_
  rintro _ _ ⟨rfl,rfl⟩
  refine gZ ?_
  refine t_cond (fun b1 => ?_) (fun b1 => ?_)
  ·refine gI ?_
   refine gZ ?_
   exact t_ret ⟨rfl,i,hi,hall,.inr ⟨by omega,rfl,x,hx,b1⟩⟩
  ·refine t_again (hY (n - (i + 1)) _ _ (by omega) ⟨rfl,i + 1,?_,by omega,rfl,fun j y hj hy => ?_⟩)
   ·rw [wrap_id (by omega) (by omega)]; rfl
   ·by_cases e:j = i
    ·subst e; rw [hx] at hy; cases hy; exact b1
    ·exact hall j y (by omega) hy
 ·refine gZ ?_
  exact t_ret ⟨rfl,n,Nat.le_refl _,fun j x hj hx => hall j x (by omega) hx,.inl ⟨rfl,rfl⟩⟩
theorem c3216 {h:LH} {p:Option Addr} {n c:Nat} {l:List (Int × Int)} (hl:Sl PairE 2 h.get p n l) (h30:l.length <= 2 ^ 29):Gr Tryz.prog 131 #[.slice p n c] h fun r h' => ∃ p' c',r = .slice p' n c' /\ Growing PairEnc 150 2 h.get h'.get p' n c' l := by
 refine w3216 _ _ _ X0_ok ?_
 unfold n3216
 have hn := hl.1
 refine t_eqNil und1192 ?_
 refine gZ ?_
 refine t_cond (fun e1 => ?_) (fun e1 => ?_)
 ·have hp:p = none := by cases p with | none => rfl | some a => cases e1
  subst hp
  have h0:l = [] := by
   cases l with
   | nil => rfl
   | cons x l =>
    obtain ⟨a,ha,_⟩ := hl.2.2 0 x rfl
    cases ha
  subst h0
  have hn0:n = 0 := hn
  subst hn0
  exact t_ret ⟨LH.le_refl _,none,0,rfl,Growing.nil⟩
 ·refine t_build0G (h₀ := h) (Enc := PairEnc) und1192 inf1226 (LH.le_refl _) fun r0 h1 hr0 le1 g1 => ?_
  refine gZ ?_
  refine t_copy (h₀ := h) rfl rfl und1192 und1192 inf1226 rfl (by omega) (by omega) g1 le1 (hl.le PairE.grow le1.1) PairE.told fun p2 c2 h2 le2 _ g2 => ?_
  refine gZ ?_
  rw [List.nil_append,Nat.zero_add] at g2
  rw [Nat.zero_add]
  exact t_ret ⟨le2,p2,c2,rfl,g2⟩
set_option maxRecDepth 10000 in
theorem c3215 {h₀ h:LH} {p:Option Addr} {n c:Nat} {l:List (Int × Int)} {fv:Value} {g:Int × Int -> Bool} (gr:Growing PairEnc 150 2 h₀.get h.get p n c l) (h30:l.length <= 2 ^ 29)
  (hf:∀ h',Keeps p h h' -> ∀ x:Int × Int,CV X0 Tryz.prog fv #[.agg #[.int .i64 x.1,.int .i64 x.2]] h' fun r h'' => r = .bool (g x) /\ h'' = h') :
  FW X0 Tryz.prog 130 #[.slice p n c,fv] h fun r h' => ∃ n' c',r = .slice p n' c' /\ Keeps p h h' /\ Growing PairEnc 150 2 h₀.get h'.get p n' c' (l.filter fun x => !g x) := by
 refine w3215 _ _ _ _ X0_ok ?_
 unfold n3215
 have hl:Sl PairE 2 h.get p n l := gr.sl PairEnc.len (by omega) PairEnc.e (by omega)
 have hn := hl.1
 refine t_call (FW.top (c3241 hl (hf h (Keeps.refl _ _)))) ?_
 rintro _ _ ⟨rfl,i,hi,hall,⟨hin,rfl⟩ | ⟨hin,rfl,x,hx,hgx⟩⟩
 ·refine gZ ?_
  refine t_cond (fun _ => ?_) (fun e => by cases e)
  have:l.filter (fun x => !g x) = l := List.filter_eq_self.2 fun x hx => by
   obtain ⟨j,hj⟩ := List.mem_iff_getElem?.1 hx
   rw [hall j x (by have := (List.getElem?_eq_some_iff.1 hj).1; omega) hj]; rfl
  exact t_ret ⟨n,c,rfl,Keeps.refl _ _,by rw [this]; exact gr⟩
 refine gZ ?_
 refine t_cond (fun e => absurd e (by simp)) (fun _ => ?_)
 obtain ⟨vs,⟨hvl,hown⟩,rows⟩ := gr.row
 have new := gr.new
 rcases hown with ⟨rfl,hz,_⟩ | ⟨r,cs₀,rfl,hr,hcs,hnc,hv⟩
 ·omega
 have hv':RP cs₀ l := fun j y hj => by
  obtain ⟨ws,e1,e2⟩ := rows.at PairEnc.len j y hj
  rw [e1] at e2
  exact ⟨hv _ _ (e2 0 _ rfl),hv _ _ (e2 1 _ rfl)⟩
 rw [wrap_id (by omega) (by omega)]
 have hpre:(l.take (i + 1)).filter (fun x => !g x) = l.take i := by
  rw [filter_take hx,hgx]
  simp only [Bool.not_true,Bool.false_eq_true,if_false,List.append_nil]
  refine List.filter_eq_self.2 fun y hy => ?_
  obtain ⟨j,hj⟩ := List.mem_iff_getElem?.1 hy
  rw [List.getElem?_take] at hj
  split at hj
  ·rename_i hji; rw [hall j y hji hj]; rfl
  ·cases hj
 refine t_loop (fun mm vs h' => ∃ (j:Nat) (cs:Array Value) (a:Nat),vs = [.int .i64 a,.int .i64 j] /\ a < j /\ j <= n /\ mm = n - j /\ Turn1 r h h' /\ h'.get r = some (true,.cells cs 150 (0,0)) /\ cs.size = c * 2 /\ a = ((l.take j).filter fun x => !g x).length /\
   RP cs ((l.take j).filter fun x => !g x) /\ ∀ (k:Nat) y,j <= k -> l[k]? = some y -> cs[k * 2]? = some (.int .i64 y.1) /\ cs[k * 2 + 1]? = some (.int .i64 y.2))
  ⟨i + 1,cs₀,i,by simp,by omega,by omega,rfl,Turn1.refl _ _,hr,hcs,by rw [hpre,List.length_take]; omega,fun k y hk => ?_,fun k y _ hk => hv' k y hk⟩ ?_
 ·rw [hpre,List.getElem?_take] at hk
  split at hk
  ·exact hv' k y hk
  ·cases hk
 rintro Y mm vs h1 hY ⟨j,cs,a,rfl,haj,hj,rfl,t1,hr1,hs1,hal,hlow,hhigh⟩
 have ks:Keeps (some ⟨r,0,none⟩) h h1 := t1.keeps
 refine gZ ?_
 refine t_if (fun e1 => ?_) (fun e1 => ?_)
 ·have hjn:0 <= (j:Int) /\ (j:Int) < (n:Int) := by omega
  have hlj:j < l.length := by omega
  obtain ⟨y,hy⟩ : ∃ y,l[j]? = some y := ⟨l[j],List.getElem?_eq_getElem hlj⟩
  have hcell:h1.get.cell? (Addr.add (Addr.add ⟨r,0,none⟩ (Int.toNat (j:Int) * 2)) 0) = some (.int .i64 y.1) := by
   rw [Int.toNat_natCast,add_plain,add_plain,Nat.zero_add,Nat.add_zero]
   unfold Cells.cell?
   rw [hr1]
   exact (hhigh j y (Nat.le_refl _) hy).1
  have hcell2:h1.get.cell? (Addr.add (Addr.add ⟨r,0,none⟩ (Int.toNat (j:Int) * 2)) 1) = some (.int .i64 y.2) := by
   rw [Int.toNat_natCast,add_plain,add_plain,Nat.zero_add]
   unfold Cells.cell?
   rw [hr1]
   exact (hhigh j y (Nat.le_refl _) hy).2
  have hft := filter_take (f := fun x => !g x) hy
  refine gZ ?_
  refine t_callv (hf h1 ks y) ?_
  rintro _ h1' ⟨rfl,hh⟩
  obtain rfl:h1 = h1' := hh.symm
  refine gZ ?_
  refine t_cond (fun b1 => ?_) (fun b1 => ?_)
  ·have han:0 <= (a:Int) /\ (a:Int) < (n:Int) := by omega
   refine gZ ?_
   have hac:a * 2 + 1 < cs.size := by omega
   refine t_storeC (r := r) (j := a * 2) (by rw [add_plain,add_plain]; simp) hr1 (by omega) rfl fun h2 t2 e2 => ?_
   refine t_storeC (r := r) (j := a * 2 + 1) (by rw [add_plain,add_plain]; simp) e2 (by rw [Array.size_setIfInBounds]; omega) rfl fun h3 t3 e3 => ?_
   rw [b1,if_pos rfl] at hft
   have get:∀ k,((cs.setIfInBounds (a * 2) (.int .i64 y.1)).setIfInBounds (a * 2 + 1) (.int .i64 y.2))[k]? = if k = a * 2 + 1 then some (.int .i64 y.2) else if k = a * 2 then some (.int .i64 y.1) else cs[k]? := fun k => by
    by_cases e4:k = a * 2 + 1
    ·subst e4
     rw [Array.getElem?_setIfInBounds_self_of_lt (by rw [Array.size_setIfInBounds]; omega),if_pos rfl]
    ·rw [Array.getElem?_setIfInBounds_ne (Ne.symm e4),if_neg e4]
     by_cases e5:k = a * 2
     ·subst e5; rw [Array.getElem?_setIfInBounds_self_of_lt (by omega),if_pos rfl]
     ·rw [Array.getElem?_setIfInBounds_ne (Ne.symm e5),if_neg e5]
   refine t_again (hY (n - (j + 1)) _ _ (by omega) ⟨j + 1,_,a + 1,?_,by omega,by omega,rfl,t1.trans (t2.trans t3),e3,by simpa using hs1,by rw [hft,List.length_append,<- hal]; rfl,fun k z hk => ?_,fun k z hk hz => ?_⟩)
   ·rw [wrap_id (by omega) (by omega),wrap_id (by omega) (by omega)]; rfl
   ·rw [hft] at hk
    rw [get,get]
    by_cases e:k = a
    ·subst e
     rw [hal,List.getElem?_append_right (Nat.le_refl _),Nat.sub_self] at hk
     cases hk
     rw [if_neg (by omega),if_pos rfl,if_pos rfl]
     exact ⟨rfl,rfl⟩
    ·have hlt:k < ((l.take j).filter fun x => !g x).length := by
      have := (List.getElem?_eq_some_iff.1 hk).1
      rw [List.length_append,<- hal] at this
      rw [<- hal]
      simp at this
      omega
     rw [List.getElem?_append_left hlt] at hk
     rw [if_neg (by omega),if_neg (by omega),if_neg (by omega),if_neg (by omega)]
     exact hlow k z hk
   ·rw [get,get,if_neg (by omega),if_neg (by omega),if_neg (by omega),if_neg (by omega)]
    exact hhigh k z (by omega) hz
  ·rw [b1,if_neg (by simp),List.append_nil] at hft
   refine t_again (hY (n - (j + 1)) _ _ (by omega) ⟨j + 1,cs,a,?_,by omega,by omega,rfl,t1,hr1,hs1,by rw [hft]; exact hal,fun k z hk => hlow k z (by rw [hft] at hk; exact hk),fun k z hk hz => hhigh k z (by omega) hz⟩)
   rw [wrap_id (by omega) (by omega)]; rfl
 ·have hjn:j = n := by omega
  have htake:l.take j = l := List.take_of_length_le (by omega)
  rw [htake] at hal hlow
  have han:a <= n := by omega
  refine gZ ?_
  refine t_sliceLow und1192 inf1226 han ?_
  rw [if_neg (by omega),show (some (⟨r,0,none⟩ : Addr)).map (·.add (a * 2)) = some ⟨r,a * 2,none⟩ by simp [add_plain]]
  refine gZ ?_
  refine t_clearP und1192 inf1226 hr1 (by omega) (by omega) fun h2 t2 ⟨cs',e2,e3,e4⟩ => ?_
  refine t_sliceHigh und1192 inf1226 (by omega) ?_
  refine gZ ?_
  refine t_ret ⟨a,c,rfl,(t1.trans t2).keeps,⟨flatP (l.filter fun x => !g x),⟨by rw [flatP_len,<- hal],.inr ⟨r,cs',rfl,e2,by omega,by omega,fun k w hk => ?_⟩⟩,rows_pairs _⟩,new⟩
  have hkl:k < a * 2 := by
   have := (List.getElem?_eq_some_iff.1 hk).1
   rw [flatP_len,<- hal] at this
   exact this
  rw [e4 k hkl]
  exact hlow.flat hk
end Go.Proofs.YtfkfohpnpljihaaGreatDoor
end
section
namespace Go.TM
open Go Go.Conc
theorem growKept {α:Type} {Enc:α -> List Value -> Prop} {el:TypeId} {k:Nat} {B h h':Cells} {p:Option Addr} {n c:Nat} {l:List α} (hk:∀ a y,p = some a -> h a.block = some y -> h' a.block = some y) (g:Growing Enc el k B h p n c l):Growing Enc el k B h' p n c l := by
 obtain ⟨vs,⟨h1,h2⟩,h3⟩ := g.row
 refine ⟨⟨vs,⟨h1,?_⟩,h3⟩,g.new⟩
 rcases h2 with h2 | ⟨r,cs,rfl,h4,h5⟩
 ·exact .inl h2
 ·exact .inr ⟨r,cs,rfl,hk _ _ rfl h4,h5⟩
theorem Growing.le_cap {α:Type} {Enc:α -> List Value -> Prop} {el:TypeId} {k:Nat} {B h:Cells} {p:Option Addr} {n c:Nat} {l:List α} (g:Growing Enc el k B h p n c l):n <= c := by
 obtain ⟨_,o,_⟩ := g.row
 exact o.le_cap
end Go.TM
namespace Go.Proofs.YtfkfohpnpljihaaGreatDoor
open Go Go.TM Go.Proofs Go.TM.Ma
attribute [local irreducible] T.wp CV FWK
theorem t_pushP' {X:XP} {Q:Leaf -> LH -> Prop} {h h₀:LH} {k:Value -> T} {p:Option Addr} {n c:Nat} {l:List (Int × Int)} {x y:Int} (g:Growing PairEnc 150 2 h₀.get h.get p n c l) (hle:h₀.le h) (hn:n + 1 <= 2 ^ 30)
  (hk:∀ p' c' h',h₀.le h' -> (∀ r y,(∀ a,p = some a -> a.block ≠ r) -> h.get r = some y -> h'.get r = some y) -> Growing PairEnc 150 2 h₀.get h'.get p' (n + 1) c' (l ++ [(x,y)]) -> (k (.slice p' (n + 1) c')).wp X Tryz.prog Q h') :
  (T.sem false (Instr.buildSlice 98 1 #[(0,.agg #[.int .i64 x,.int .i64 y])]) fun v => T.unS v fun a m c2 => T.sem false (Builtin.append_ #[98,98] 98 #[.slice p n c,.slice a m c2]) k).wp X Tryz.prog Q h :=
 t_push (x,y) [.int .i64 x,.int .i64 y] rfl rfl und1192 inf1226 rfl (by decide) (by decide) (by kernel_rfl) rfl (by intro v hv; simp at hv; rcases hv with rfl | rfl <;> rfl) hn g hle rfl fun p' c' h' hl' hkept g' => hk p' c' h' hl' hkept g'
set_option maxRecDepth 10000 in
theorem c3193 {h:LH} {p0 p1 p2 p q pp:Option Addr} {n0 c0 n1 c1 n2 c2 n c m d pn pc:Nat} {e lev:Int} {a:List Int} {G:Ed} {many:Nat} (ha:Sl IntE 1 h.get p n a) (hnd:a.Nodup) (hG:Sl PairE 2 h.get pp pn G) (hpc:pn <= pc) (hGA:∀ x ∈ G,x.1 ∈ a) (hG20:G.length <= 2 ^ 20) (hM:Mat G many) :
  Gr Tryz.prog 80 #[.agg #[.slice p0 n0 c0,.slice p1 n1 c1,.slice p2 n2 c2,.int .i64 e,.int .i64 lev,.slice p n c,.slice q m d],.slice pp pn pc,.int .i64 many] h fun r _ => ∃ p n c,r = .slice p n c := by
 refine w3193 _ _ _ _ _ _ _ _ _ _ _ _ _ _ _ _ _ _ _ _ _ X0_ok ?_
 unfold n3193
 have hml := hM.len
 refine t_loop (fun mm vs h' => h.le h' /\ ∃ (G':Ed) (O:Ed) (p:Option Addr) (n c:Nat) (op:Option Addr) (on oc:Nat),vs = [.slice p n c,.slice op on oc] /\ on <= many /\ mm = many - on /\ n <= c /\ Sl PairE 2 h'.get p n G' /\ (∀ x ∈ G',x.1 ∈ a) /\ G'.length <= G.length /\ Growing PairEnc 150 2 h.get h'.get op on oc O /\ O.length <= many /\ Mat G' (many - on))
  ⟨LH.le_refl _,G,[],pp,pn,pc,none,0,0,rfl,Nat.zero_le _,rfl,hpc,hG,hGA,Nat.le_refl _,Growing.nil,Nat.zero_le _,hM⟩ ?_
 rintro Y mm vs h1 hY ⟨le1,G',O,gp,gn,gc,op,on,oc,rfl,hon,rfl,hgc,hG',hGA',hGl,gr,hO,hM'⟩
 refine gZ ?_
 refine t_if (fun e1 => ?_) (fun e1 => ?_)
 ·obtain ⟨k,hk⟩ : ∃ k,many - on = k + 1 := ⟨many - on - 1,by omega⟩
  have hM'' := hM'
  rw [hk] at hM''
  obtain ⟨i0,x0,hi0,hpop⟩ := hM''.pop
  have hgn := hG'.1
  have hi0l:i0 < gn := by have := (List.getElem?_eq_some_iff.1 hi0).1; omega
  have hong := gr.count PairEnc.len (by omega)
  refine t_loopB (fun mm vs h' => h1.le h' /\ ∃ i:Nat,vs = [.slice gp gn gc,.slice op on oc,.int .i64 i] /\ mm = gn - i /\ i <= i0)
   (fun vs h' => h.le h' /\ ∃ (G2 O2:Ed) (p:Option Addr) (n c:Nat) (op':Option Addr) (oc':Nat) (i:Int),vs = [.slice p n c,.slice op' (on + 1) oc',.int .i64 i] /\ n <= c /\ Sl PairE 2 h'.get p n G2 /\ (∀ x ∈ G2,x.1 ∈ a) /\ G2.length <= G.length /\ Growing PairEnc 150 2 h.get h'.get op' (on + 1) oc' O2 /\ O2.length <= many /\ Mat G2 k)
   ⟨LH.le_refl _,0,rfl,rfl,Nat.zero_le _⟩ ?_ ?_
  ·rintro Y2 mm vs h2 hY2 ⟨le2,i,rfl,rfl,hi⟩
   have le02 := LH.le_trans le1 le2
   refine gZ ?_
   refine t_if (fun e2 => ?_) (fun e2 => absurd (by omega) e2)
   have hG2 := hG'.le PairE.grow le2.1
   obtain ⟨x,ad,hx,had,f1,f2⟩ := hG2.at (i := i) (by omega)
   have hin:0 <= (i:Int) /\ (i:Int) < (gn:Int) := by omega
   refine gZ ?_
   refine t_new fun r hr => ?_
   have leN := LH.upd_le (x := (true,.cells #[.int .i64 0,.int .i64 0] 150 (0,0))) hr
   refine t_storeC (r := r) (j := 0) (by rw [add_plain]) (Cells.upd_self _ _ _) (by simp) rfl fun g1 t1 e1' => ?_
   refine t_storeC (r := r) (j := 1) (by rw [add_plain]) e1' (by simp) rfl fun h3 t2 e2' => ?_
   have le3:h2.le h3 := (t1.trans t2).le leN hr
   have b0:h3.get.cell? (Addr.add ⟨r,0,none⟩ 0) = some (.int .i64 x.1) := by
    rw [add_plain]; unfold Cells.cell?; rw [e2']; rfl
   have b1:h3.get.cell? (Addr.add ⟨r,0,none⟩ 1) = some (.int .i64 x.2) := by
    rw [add_plain]; unfold Cells.cell?; rw [e2']; rfl
   clear t1 t2 e1' e2' leN
   have le13 := LH.le_trans le2 le3
   have le03 := LH.le_trans le02 le3
   rw [wrap_id (n := (i:Int) + 1) (by omega) (by omega)]
   refine t_sliceLow (i := i + 1) und1192 inf1226 (by omega) ?_
   have hdrop := (hG2.le PairE.grow le3.1).drop (c := gc) (i := i + 1) hgc
   generalize (if gc = i + 1 then gp else gp.map (·.add ((i + 1) * 2))) = dp at *
   refine gZ ?_
   refine t_gr (c3216 hdrop (by rw [List.length_drop]; omega)) ?_
   rintro _ h4 le4 ⟨p4,c4,rfl,g4⟩
   refine gZ ?_
   have hdl:(G'.drop (i + 1)).length <= G'.length := by rw [List.length_drop]; omega
   refine t_call (FW.top (c3215 (g := fun y => y.1 == x.1 || y.2 == x.2) g4 (by omega) fun h' ks y => cv_fw (first := #[]) (args := #[.agg #[.int .i64 y.1,.int .i64 y.2]]) (cap := #[.pointer (some ⟨r,0,none⟩)]) X0_ok rfl (c3217 (Cells.cell?_le (ks.le le4 g4.new).1 b0) (Cells.cell?_le (ks.le le4 g4.new).1 b1)))) ?_
   rintro _ h5 ⟨n5,c5,rfl,ks,g5⟩
   have le35 := ks.le le4 g4.new
   have le05 := LH.le_trans le03 le35
   have hfl := List.length_filter_le (fun y:Int × Int => !(y.1 == x.1 || y.2 == x.2)) (G'.drop (i + 1))
   have hga5:∀ y ∈ (G'.drop (i + 1)).filter fun y:Int × Int => !(y.1 == x.1 || y.2 == x.2),y.1 ∈ a := fun y hy => hGA' y (List.mem_of_mem_drop (List.mem_filter.1 hy).1)
   have hrest:i = i0 -> Mat ((G'.drop (i + 1)).filter fun y:Int × Int => !(y.1 == x.1 || y.2 == x.2)) k := fun e => by
    subst e
    rw [hx] at hi0
    cases hi0
    exact hpop
   generalize (G'.drop (i + 1)).filter (fun y:Int × Int => !(y.1 == x.1 || y.2 == x.2)) = rest at *
   have hs5:Sl PairE 2 h5.get p4 n5 rest := g5.sl PairEnc.len (by omega) PairEnc.e (by omega)
   refine gZ ?_
   refine t_gr (c3191 (ha.le IntE.grow le05.1) hnd hs5 hga5) ?_
   rintro _ h6 le6 ⟨nu,rfl,hMr,hCr⟩
   have le36 := LH.le_trans le35 le6
   have le06 := LH.le_trans le05 le6
   have wk:wrap .i64 (wrap .i64 ((many:Int) - (on:Int)) - 1) = (k:Int) := by rw [wrap_id (n := (many:Int) - (on:Int)) (by omega) (by omega),wrap_id (by omega) (by omega)]; omega
   rw [wk]
   refine gZ ?_
   refine t_if (fun e3 => ?_) (fun e3 => ?_)
   ·have b0' := Cells.cell?_le le36.1 b0
    have b1' := Cells.cell?_le le36.1 b1
    have gr6 := gr.le (LH.le_trans le13 le36).1
    refine gZ ?_
    refine t_pushP' gr6 le06 (by omega) fun p7 c7 h7 le7 hkept g7 => ?_
    refine gZ ?_
    have g5':Growing PairEnc 150 2 h3.get h7.get p4 n5 c5 rest := growKept (fun ad y hp hy => hkept _ _ (fun ao hao e => ?_) hy) (g5.le le6.1)
    ·exact ⟨le7,rest,O ++ [(x.1,x.2)],p4,n5,c5,p7,c7,_,rfl,g5.le_cap,g5'.sl PairEnc.len (by omega) PairEnc.e (by omega),hga5,by omega,g7,by rw [List.length_append]; simp; omega,hMr.less (by omega)⟩
    ·-- the block of what was appended to is older than the rest
     have hnew := g5.new ad hp
     obtain ⟨vs,⟨_,ho⟩,_⟩ := gr.row
     rcases ho with ⟨rfl,_⟩ | ⟨r',cs,rfl,hr',_⟩
     ·cases hao
     ·cases hao
      have := le13.1 _ _ hr'
      rw [show r' = ad.block from e,hnew] at this
      cases this
   ·have hne:i ≠ i0 := fun e => e3 (by have := weak (hrest e) hCr; omega)
    refine t_again (hY2 (gn - (i + 1)) _ _ (by omega) ⟨LH.le_trans le13 le36,i + 1,?_,rfl,by omega⟩)
    rw [show ((i + 1:Nat):Int) = (i:Int) + 1 from rfl]
  ·rintro vs h2 ⟨le2,G2,O2,p2,n2',c2',op',oc',i,rfl,hpc2,hs2,hga2,hgl2,gr2,ho2,hm2⟩
   refine gZ ?_
   exact t_again (hY (many - (on + 1)) _ _ (by omega) ⟨le2,G2,O2,p2,n2',c2',op',on + 1,oc',rfl,by omega,rfl,hpc2,hs2,hga2,hgl2,gr2,ho2,by rw [show many - (on + 1) = k by omega]; exact hm2⟩)
 ·refine gZ ?_
  exact t_ret ⟨le1,_,_,_,rfl⟩
end Go.Proofs.YtfkfohpnpljihaaGreatDoor
end
section
namespace Go.TM
open Go Go.Conc Go.TM.Ma
def pickT (a:List Int) (s i:Nat):List Int := ((List.range i).filter s.testBit).filterMap fun j => a[j]?
theorem pickT_succ {a:List Int} {s i:Nat} {x:Int} (hx:a[i]? = some x):pickT a s (i + 1) = pickT a s i ++ (if s.testBit i then [x] else []) := by
 unfold pickT
 rw [List.range_succ,List.filter_append,List.filterMap_append]
 congr 1
 by_cases h:s.testBit i = true
 ·simp [h,hx]
 ·simp [h]
theorem pickT_len (a:List Int) (s i:Nat):(pickT a s i).length <= i := by
 unfold pickT
 refine Nat.le_trans (List.length_filterMap_le _ _) (Nat.le_trans (List.length_filter_le _ _) (by simp))
theorem pickT_sub (a:List Int) (s:Nat):∀ i,i <= a.length -> (pickT a s i).Sublist (a.take i)
 | 0,_ => by simp [pickT]
 | i + 1,h => by
  have hx:a[i]? = some a[i] := List.getElem?_eq_getElem (by omega)
  rw [pickT_succ hx,List.take_add_one,hx]
  refine List.Sublist.append (pickT_sub a s i (by omega)) ?_
  split
  ·exact List.Sublist.refl _
  ·exact List.nil_sublist _
theorem mem_pickT {a:List Int} {s i:Nat} {v:Int}:v ∈ pickT a s i ↔ ∃ j,j < i /\ s.testBit j = true /\ a[j]? = some v := by
 unfold pickT
 rw [List.mem_filterMap]
 constructor
 ·rintro ⟨j,h1,h2⟩
  obtain ⟨h3,h4⟩ := List.mem_filter.1 h1
  exact ⟨j,List.mem_range.1 h3,h4,h2⟩
 ·rintro ⟨j,h1,h2,h3⟩
  exact ⟨j,List.mem_filter.2 ⟨List.mem_range.2 h1,h2⟩,h3⟩
theorem bits_ex (p:Nat -> Bool):∀ n,∃ j,j < 2 ^ n /\ ∀ b,b < n -> j.testBit b = p b := by
 intro n
 induction n with
 | zero => exact ⟨0,by omega,fun b hb => by omega⟩
 | succ n ih =>
  obtain ⟨j,hj,hb⟩ := ih
  by_cases e:p n = true
  ·refine ⟨2 ^ n + j,by rw [Nat.pow_succ]; omega,fun b hlt => ?_⟩
   by_cases eb:b = n
   ·subst eb
    rw [Nat.testBit_two_pow_add_eq,Nat.testBit_lt_two_pow hj,e]; rfl
   ·rw [Nat.testBit_two_pow_add_gt (by omega)]; exact hb b (by omega)
  ·refine ⟨j,by rw [Nat.pow_succ]; omega,fun b hlt => ?_⟩
   by_cases eb:b = n
   ·subst eb
    rw [Nat.testBit_lt_two_pow hj]; simpa using e
   ·exact hb b (by omega)
theorem once_ex:∀ l:List Int,∃ R:List Int,R.Nodup /\ ∀ y,y ∈ R ↔ y ∈ l
 | [] => ⟨[],List.nodup_nil,fun y => Iff.rfl⟩
 | x :: l => by
  obtain ⟨R,h1,h2⟩ := once_ex l
  by_cases e:x ∈ l
  ·exact ⟨R,h1,fun y => by
    rw [h2,List.mem_cons]
    constructor
    ·exact .inr
    ·rintro (rfl | h)
     ·exact e
     ·exact h⟩
  ·exact ⟨x :: R,List.nodup_cons.2 ⟨fun h => e ((h2 x).1 h),h1⟩,fun y => by rw [List.mem_cons,List.mem_cons,h2]⟩
theorem mem_struck {t:GTab} {e lev:Int} {a b l:List Int} {p:Int × Int}:p ∈ pairsF t e lev a b l [] ↔ p ∈ pairsF t e lev a b [] [] /\ p.1 ∉ l := by
 rw [mem_pairs,mem_pairs]
 unfold pairOk
 simp only [List.not_mem_nil,decide_false,Bool.false_or,Bool.not_or,Bool.and_eq_true,Bool.not_eq_true',List.contains_eq_mem,decide_eq_false_iff_not,not_false_eq_true,true_and]
 constructor
 ·rintro ⟨h1,h2,h3,h4⟩; exact ⟨⟨h1,h2,h4⟩,h3⟩
 ·rintro ⟨⟨h1,h2,h4⟩,h3⟩; exact ⟨h1,h2,h3,h4⟩
def Cost (t:GTab) (e lev:Int) (a b:List Int) (s k:Nat):Prop := ∀ R:List Int,R.Nodup -> (∀ y,y ∈ R ↔ ∃ g ∈ pairsF t e lev a b (pickT a s a.length) [],g.2 = y) -> (pickT a s a.length).length + R.length ≠ k
theorem cost_some {t:GTab} {e lev:Int} {a b:List Int} {k:Nat} (ha:a.Nodup) (hM:Mat (pairsF t e lev a b [] []) k) (hC:Cov (pairsF t e lev a b [] []) k):∃ s,s < 2 ^ a.length /\ ¬ Cost t e lev a b s k := by
 obtain ⟨l,hl,hr⟩ := struck_some hC ha fun p hp => (mem_pairs.1 hp).1
 obtain ⟨s,hs,hb⟩ := bits_ex (fun j => match a[j]? with | some v => decide (v ∈ l) | none => false) a.length
 have hmem:∀ v,v ∈ pickT a s a.length ↔ v ∈ l := fun v => by
  rw [mem_pickT]
  constructor
  ·rintro ⟨j,h1,h2,h3⟩
   rw [hb j h1,h3] at h2
   exact of_decide_eq_true h2
  ·intro hv
   obtain ⟨j,hj⟩ := List.mem_iff_getElem?.1 (hl.subset hv)
   have hja := (List.getElem?_eq_some_iff.1 hj).1
   exact ⟨j,hja,by rw [hb j hja,hj]; exact decide_eq_true hv,hj⟩
 have hsn:(pickT a s a.length).Nodup := List.Nodup.sublist (pickT_sub a s _ (Nat.le_refl _)) (by rw [List.take_length]; exact ha)
 have h1:(pickT a s a.length).length <= l.length := nodup_le hsn fun v hv => (hmem v).1 hv
 obtain ⟨R,r1,r2⟩ := once_ex ((pairsF t e lev a b (pickT a s a.length) []).map (·.2))
 refine ⟨s,hs,fun hc => hc R r1 (fun y => by rw [r2,List.mem_map]) ?_⟩
 have up := hr R r1 fun y hy => by
  obtain ⟨g,h3,h4⟩ := List.mem_map.1 ((r2 y).1 hy)
  obtain ⟨h5,h6⟩ := mem_struck.1 h3
  exact ⟨g,h5,fun h => h6 ((hmem _).2 h),h4⟩
 have dn := struck_ge (l := pickT a s a.length) (r := R) hM fun p hp hn => (r2 _).2 (List.mem_map.2 ⟨p,mem_struck.2 ⟨hp,hn⟩,rfl⟩)
 omega
end Go.TM
namespace Go.Proofs.YtfkfohpnpljihaaGreatDoor
open Go Go.TM Go.Proofs Go.TM.Ma
attribute [local irreducible] T.wp CV FWK
theorem c3122 {h:LH} {f:TabC} {t:GTab} (hr:TabR h.get f t) (ok:TabOk t) {e:Int} (he:0 <= e /\ e < (t.eds.length:Int)) (bits:Int) :
  Gr Tryz.prog 10 #[tabV f,.int .i64 e,.int .u8 bits] h fun r h' => ∃ p n c l,r = .slice p n c /\ Sl IntE 1 h'.get p n l /\ ListOk t e l := by
 refine w3122 _ _ _ _ _ _ _ _ _ _ _ X0_ok ?_
 unfold n3122
 have hn0 := hr.eds.1
 have h8 := ok.items8 e
 refine t_loop (fun mm vs h' => h.le h' /\ ∃ (i:Nat) (p:Option Addr) (n c:Nat) (l:List Int),vs = [.slice p n c,.int .i64 i] /\ i <= (t.items e).length /\ mm = (t.items e).length - i /\ Growing IntEnc 3 1 h.get h'.get p n c l /\ l.length <= i /\ l.Pairwise (· < ·) /\ ∀ v ∈ l,0 <= v /\ v < (i:Int))
  ⟨LH.le_refl _,0,none,0,0,[],rfl,Nat.zero_le _,rfl,Growing.nil,Nat.le_refl _,List.Pairwise.nil,fun v hv => by simp at hv⟩ ?_
 rintro Y mm vs h1 hY ⟨le1,i,p,n,c,l,rfl,hi,rfl,gr,hll,hup,hin⟩
 obtain ⟨it,a0,hle0,ha0,q0,m0,c0,e2,e3⟩ := (hr.le le1.1).eds.at (i := e.toNat) (by omega)
 have hm0:m0 = (t.items e).length := by
  unfold GTab.items
  rw [List.getD_eq_getElem?_getD,hle0]; exact e3.1
 have hen:0 <= e /\ e < (f.n0:Int) := by omega
 have hng := gr.count IntEnc.len (by omega)
 refine gZ ?_
 rw [hm0]
 refine t_if (fun e4 => ?_) (fun e4 => ?_)
 ·refine gZ ?_
  refine t_cond (fun _ => ?_) (fun _ => ?_)
  ·refine t_pushI gr le1 (by omega) fun p' c' h2 le2 g2 => ?_
   refine gZ ?_
   refine t_again (hY ((t.items e).length - (i + 1)) _ _ (by omega) ⟨le2,i + 1,p',n + 1,c',l ++ [(i:Int)],?_,by omega,rfl,g2,by rw [List.length_append]; simp; omega,?_,fun v hv => ?_⟩)
   ·rw [wrap_id (by omega) (by omega)]; rfl
   ·rw [List.pairwise_append]
    refine ⟨hup,by simp,fun x hx y hy => ?_⟩
    rw [List.mem_singleton] at hy
    have := hin x hx
    omega
   ·rw [List.mem_append,List.mem_singleton] at hv
    rcases hv with hv | rfl
    ·have := hin v hv; omega
    ·omega
  ·refine t_again (hY ((t.items e).length - (i + 1)) _ _ (by omega) ⟨le1,i + 1,p,n,c,l,?_,by omega,rfl,gr,by omega,hup,fun v hv => by have := hin v hv; omega⟩)
   rw [wrap_id (by omega) (by omega)]; rfl
 ·refine gZ ?_
  refine t_ret ⟨le1,p,n,c,l,rfl,gr.sl IntEnc.len (by omega) IntEnc.e (by omega),fun v hv => ?_,hup⟩
  have := hin v hv
  exact ⟨he.1,he.2,this.1,by omega⟩
set_option maxRecDepth 20000 in
theorem c3164 {h:LH} {f:TabC} {t:GTab} (hr:TabR h.get f t) (ok:TabOk t) {e lev:Int} (he:0 <= e /\ e < (t.eds.length:Int)) (hlev:1 <= lev /\ lev <= 5) {p q:Option Addr} {n c m d:Nat} {a b:List Int} (ha:Sl IntE 1 h.get p n a) (oa:ListOk t e a) (hb:Sl IntE 1 h.get q m b) (ob:ListOk t e b) :
  Gr Tryz.prog 38 #[tabV f,.int .i64 e,.slice p n c,.slice q m d,.int .i64 lev] h fun r _ => ∃ (pA:Option Addr) (nA cA:Nat) (pB:Option Addr) (nB cB:Nat) (pC:Option Addr) (nC cC k:Nat),r = .tuple #[.slice pA nA cA,.slice pB nB cB,.slice pC nC cC,.int .i64 0] /\ nA + nB = k /\ Mat (pairsF t e lev a b [] []) k /\ Cov (pairsF t e lev a b [] []) k := by
 refine w3164 _ _ _ _ _ _ _ _ _ _ _ _ _ _ _ _ _ X0_ok ?_
 unfold n3164
 have hn := ha.1
 have h8 := oa.len8 ok
 have hfew := pairs_few ok hlev.1 (x := []) (y := []) oa oa.nodup ob.nodup
 refine t_gr (c3188 hr ok he hlev ha oa hb ob) ?_
 rintro _ h1 le1 rfl
 refine gZ ?_
 refine t_cond (fun e => by cases e) (fun _ => ?_)
 refine t_gr (c3190 (px := none) (nx := 0) (cx := 0) (x := []) (py := none) (ny := 0) (cy := 0) (y := []) (hr.le le1.1) (ha.le IntE.grow le1.1) (hb.le IntE.grow le1.1) Sl.nil Sl.nil) ?_
 intro v h2 le2 hH
 have hGA:∀ x ∈ pairsF t e lev a b [] [],x.1 ∈ a := fun x hx => (mem_pairs.1 hx).1
 have hcost := fun {k:Nat} => cost_some (t := t) (e := e) (lev := lev) (a := a) (b := b) (k := k) oa.nodup
 refine t_gr (c3189 hH (by omega)) ?_
 rintro _ h3 le3 ⟨pg,cg,rfl,hcg,hsg⟩
 have le03 := LH.le_trans le1 (LH.le_trans le2 le3)
 refine gZ ?_
 refine t_gr (c3191 (ha.le IntE.grow le03.1) oa.nodup hsg hGA) ?_
 rintro _ h4 le4 ⟨k,rfl,hM,hC⟩
 have le04 := LH.le_trans le03 le4
 have hk28:k <= 28 := Nat.le_trans hM.len hfew
 have hpow:2 ^ n <= 2 ^ 8 := Nat.pow_le_pow_right (by omega) (by omega)
 have wpow:wrap .i64 (1 * 2 ^ min ((n:Int)).toNat 64) = ((2 ^ n:Nat):Int) := by
  have e1:(1:Int) * 2 ^ min ((n:Int)).toNat 64 = ((2 ^ n:Nat):Int) := by
   rw [Int.toNat_natCast,Nat.min_eq_left (by omega),Int.one_mul]
   norm_cast
  rw [e1]
  clear e1
  generalize 2 ^ n = M at *
  exact wrap_id (by omega) (by omega)
 refine gZ ?_
 rw [wpow]
 refine t_loopB (fun mm vs h' => h4.le h' /\ ∃ (fp:Option Addr) (fn fc:Nat) (gp:Option Addr) (gn gc s:Nat) (fa:List Int),vs = [.slice fp fn fc,.slice gp gn gc,.int .i64 s] /\ s <= 2 ^ n /\ mm = 2 ^ n - s /\ Sl IntE 1 h'.get fp fn fa /\ (fn + gn = k \/ (fp = none /\ gp = none /\ ∀ s',s' < s -> Cost t e lev a b s' k)))
  (fun vs h' => h4.le h' /\ ∃ (fp:Option Addr) (fn fc:Nat) (gp:Option Addr) (gn gc:Nat) (s:Int),vs = [.slice fp fn fc,.slice gp gn gc,.int .i64 s] /\ fn + gn = k)
  ⟨LH.le_refl _,none,0,0,none,0,0,0,[],rfl,Nat.zero_le _,rfl,Sl.nil,.inr ⟨rfl,rfl,fun s' hs => absurd hs (Nat.not_lt_zero _)⟩⟩ ?_ ?_
 ·rintro Y mm vs g1 hY ⟨l1,fp,fn,fc,gp,gn,gc,s,fa,rfl,hs,rfl,hsf,hst⟩
  have l01 := LH.le_trans le04 l1
  refine gZ ?_
  refine t_if (fun e1 => ?_) (fun e1 => ?_)
  ·have hs2:s < 2 ^ n := by
    generalize 2 ^ n = M at *
    omega
   have hs8:s < 2 ^ 32 := by
    generalize 2 ^ n = M at *
    omega
   refine t_loopB (fun mm vs h' => g1.le h' /\ ∃ (i:Nat) (p':Option Addr) (n' c':Nat),vs = [.slice p' n' c',.int .i64 i] /\ i <= n /\ mm = n - i /\ Growing IntEnc 3 1 g1.get h'.get p' n' c' (pickT a s i))
    (fun vs h' => g1.le h' /\ ∃ (p':Option Addr) (n' c':Nat) (i:Int),vs = [.slice p' n' c',.int .i64 i] /\ Sl IntE 1 h'.get p' n' (pickT a s a.length)) ⟨LH.le_refl _,0,none,0,0,rfl,Nat.zero_le _,rfl,Growing.nil⟩ ?_ ?_
   ·rintro Y2 mm vs g2 hY2 ⟨l2,i,p',n',c',rfl,hi,rfl,gr⟩
    have hpl := pickT_len a s i
    have hng := gr.count IntEnc.len (by omega)
    refine gZ ?_
    refine t_if (fun e2 => ?_) (fun e2 => ?_)
    ·obtain ⟨x,ad,hx,had,e3⟩ := (ha.le IntE.grow (LH.le_trans l01 l2).1).at (i := i) (by omega)
     unfold IntE at e3
     have hin:0 <= (i:Int) /\ (i:Int) < (n:Int) := by omega
     have hps := pickT_succ (s := s) hx
     refine gZ ?_
     rw [bit_test hs8]
     refine t_cond (fun e4 => ?_) (fun e4 => ?_)
     ·rw [e4,if_pos rfl] at hps
      refine t_pushI gr l2 (by omega) fun p2 c2 g3 l3 gr3 => ?_
      refine gZ ?_
      refine t_again (hY2 (n - (i + 1)) _ _ (by omega) ⟨l3,i + 1,p2,n' + 1,c2,?_,by omega,rfl,by rw [hps]; exact gr3⟩)
      rw [wrap_id (by omega) (by omega)]; rfl
     ·rw [e4,if_neg (by simp),List.append_nil] at hps
      refine t_again (hY2 (n - (i + 1)) _ _ (by omega) ⟨l2,i + 1,p',n',c',?_,by omega,rfl,by rw [hps]; exact gr⟩)
      rw [wrap_id (by omega) (by omega)]; rfl
    ·refine gZ ?_
     have:i = a.length := by omega
     subst this
     exact ⟨l2,p',n',c',_,rfl,gr.sl IntEnc.len (by omega) IntEnc.e (by omega)⟩
   rintro vs g2 ⟨l2,pl,nl,cl,i,rfl,hsl⟩
   have l02 := LH.le_trans l01 l2
   have hpl := pickT_len a s a.length
   have hnl := hsl.1
   refine gZ ?_
   refine t_gr (c3192 ok hlev.1 (hr.le l02.1) (ha.le IntE.grow l02.1) oa (hb.le IntE.grow l02.1) ob hsl) ?_
   rintro _ g3 l3 ⟨pR,cR,R,rfl,hR28,hRn,hRm⟩
   have l13 := LH.le_trans l2 l3
   have l43 := LH.le_trans l1 l13
   have hsl3 := hsl.le IntE.grow l3.1
   have hsf3 := hsf.le IntE.grow l13.1
   refine gZ ?_
   rw [wrap_id (n := (nl:Int) + (R.length:Int)) (by omega) (by omega)]
   -- the next round, with the new pair of lists or with the old one
   have take:nl + R.length = k -> Y [.slice pl nl cl,.slice pR R.length cR,.int .i64 (wrap .i64 ((s:Int) + 1))] g3 := fun hk => by
    refine hY (2 ^ n - (s + 1)) _ _ (by generalize 2 ^ n = M at *; omega) ⟨l43,pl,nl,cl,pR,R.length,cR,s + 1,_,?_,by generalize 2 ^ n = M at *; omega,rfl,hsl3,.inl hk⟩
    rw [wrap_id (by omega) (by omega)]; rfl
   have keep:(fn + gn = k \/ (fp = none /\ gp = none /\ Cost t e lev a b s k)) -> Y [.slice fp fn fc,.slice gp gn gc,.int .i64 (wrap .i64 ((s:Int) + 1))] g3 := fun hk => by
    refine hY (2 ^ n - (s + 1)) _ _ (by generalize 2 ^ n = M at *; omega) ⟨l43,fp,fn,fc,gp,gn,gc,s + 1,fa,?_,by generalize 2 ^ n = M at *; omega,rfl,hsf3,?_⟩
    ·rw [wrap_id (by omega) (by omega)]; rfl
    ·rcases hst with hst | ⟨h1,h2,h3⟩
     ·exact .inl hst
     ·rcases hk with hk | ⟨_,_,hk⟩
      ·exact .inl hk
      ·refine .inr ⟨h1,h2,fun s' hs' => ?_⟩
       by_cases e:s' = s
       ·subst e; exact hk
       ·exact h3 s' (by omega)
   refine t_cond (fun e2 => ?_) (fun e2 => ?_)
   ·have hsum:nl + R.length = k := by
     have:(nl:Int) + (R.length:Int) = (k:Int) := by simpa using e2
     omega
    refine t_cond (fun _ => t_again (take hsum)) (fun _ => ?_)
    have old:(fp.isNone && gp.isNone) = false -> fn + gn = k := fun hh => by
     rcases hst with hst | ⟨h1,h2,_⟩
     ·exact hst
     ·rw [h1,h2] at hh; cases hh
    refine t_eqNil und50 ?_
    refine gZ ?_
    refine t_cond (fun e3 => ?_) (fun e3 => ?_)
    ·refine t_eqNil und50 ?_
     refine gZ ?_
     refine t_cond (fun e4 => t_again (take hsum)) (fun e4 => ?_)
     refine t_pu (c97 hsl3 hsf3) ?_
     refine gZ ?_
     refine t_if (fun _ => t_again (take hsum)) (fun _ => t_again (keep (.inl (old (by rw [e4,Bool.and_false])))))
    ·refine t_pu (c97 hsl3 hsf3) ?_
     refine gZ ?_
     refine t_if (fun _ => t_again (take hsum)) (fun _ => t_again (keep (.inl (old (by rw [e3,Bool.false_and])))))
   ·refine t_again (keep ?_)
    rcases hst with hst | ⟨h1,h2,_⟩
    ·exact .inl hst
    ·refine .inr ⟨h1,h2,fun R' r1 r2 => ?_⟩
     have hle1 := nodup_le (b := R) r1 fun y hy => (hRm y).2 ((r2 y).1 hy)
     have hle2 := nodup_le (b := R') hRn fun y hy => (r2 y).2 ((hRm y).1 hy)
     intro hk
     have:((nl:Int) + (R.length:Int) == (k:Int)) = true := by
      rw [beq_iff_eq]; omega
     rw [this] at e2; cases e2
  ·refine gZ ?_
   rcases hst with hst | ⟨h1,h2,h3⟩
   ·exact ⟨l1,fp,fn,fc,gp,gn,gc,_,rfl,hst⟩
   ·exfalso
    obtain ⟨s',hs',hno⟩ := hcost hM hC
    rw [<- hn] at hs'
    refine hno (h3 s' ?_)
    generalize 2 ^ n = M at *
    omega
 rintro vs g1 ⟨l1,fp,fn,fc,gp,gn,gc,s,rfl,hsum⟩
 have l01 := LH.le_trans le04 l1
 refine gZ ?_
 refine t_gr (c3193 (ha.le IntE.grow l01.1) oa.nodup (hsg.le PairE.grow (LH.le_trans le4 l1).1) hcg hGA (by omega) hM) ?_
 rintro _ g2 l2 ⟨px,nx,cx,rfl⟩
 refine gZ ?_
 exact t_ret ⟨LH.le_trans l01 l2,_,_,_,_,_,_,_,_,_,k,rfl,hsum,hM,hC⟩
end Go.Proofs.YtfkfohpnpljihaaGreatDoor
end
section
namespace Go.TM
open Go Go.Conc
variable {P:Program} {E:Halt -> Cells -> Prop} {h:Cells}
theorem lwp_equalIn2 {Q:Bool -> Cells -> Prop} {t:TypeId} {k:Nat} {a b c d:Int} (ht:twoInts P t = true) (hq:Q (decide (a = c /\ b = d)) h):Sem.lwp P (Op.equalIn (k + 1 + 1) t (.agg #[.int .i64 a,.int .i64 b]) (.agg #[.int .i64 c,.int .i64 d])) Q E h := by
 obtain ⟨f,g,hu,n1,n2,i1,i2,o1,o2,hs⟩ := twoInts_spec ht
 rw [Op.equalIn]
 rw [lwp_bind,lwp_underlying hu]
 simp only [lwp_bind,lwp_program,hs,Bool.false_eq_true,if_false,List.forIn_toArray,List.forIn_cons,List.forIn_nil,n1,n2,ne_eq,not_false_eq_true,if_true]
 refine lwp_partI i1 (v := .int .i64 a) (by rw [o1]; rfl) ?_
 refine lwp_partI i1 (v := .int .i64 c) (by rw [o1]; rfl) ?_
 refine lwp_equalI i1 ?_
 by_cases e1:a = c
 ·subst e1
  simp only [beq_self_eq_true,Bool.not_true,Bool.false_eq_true,if_false,lwp_pure,lwp_bind]
  refine lwp_partI i2 (v := .int .i64 b) (by rw [o2]; rfl) ?_
  refine lwp_partI i2 (v := .int .i64 d) (by rw [o2]; rfl) ?_
  refine lwp_equalI i2 ?_
  by_cases e2:b = d
  ·subst e2
   simpa [lwp_pure] using hq
  ·have e3:(b == d) = false := by simpa using e2
   simpa [lwp_pure,e2,e3] using hq
 ·have e3:(a == c) = false := by simpa using e1
  simpa [lwp_pure,e1,e3] using hq
def twoAndTwo (P:Program) (t:TypeId):Bool := match P.underlying t with
 | some (.struct fs) => (match fs.toList with
  | [a, b, w] => a.name != "_" && b.name != "_" && w.name != "_" && isI64 P a.type && isI64 P b.type && twoInts P w.type && Nat.beq a.offset 0 && Nat.beq b.offset 1 && Nat.beq w.offset 2 && (match P.info? w.type with | some i => Nat.beq i.size 2 | none => false)
  | _ => false) && !P.stoodInHeld t
 | _ => false
theorem twoInts_agg {t:TypeId} (ht:twoInts P t = true):isAggT P t = true := by
 obtain ⟨f,g,hu,_⟩ := twoInts_spec ht
 unfold isAggT; rw [hu]
theorem lwp_part2 {Q:Value -> Cells -> Prop} {t:TypeId} {cs:Array Value} {o:Nat} {i:TypeInfo} (ht:twoInts P t = true) (hi:P.info? t = some i) (hs:i.size = 2) (hq:Q (.agg (cs.extract o (o + 2))) h):Sem.lwp P (part t cs o) Q E h := by
 unfold part
 rw [lwp_bind,lwp_isAgg_true (twoInts_agg ht)]
 simp only [if_true,lwp_bind,lwp_sizeOf hi,hs,lwp_pure]
 exact hq
theorem lwp_equal4 {Q:Bool -> Cells -> Prop} {t:TypeId} {a b c d a' b' c' d':Int} (ht:twoAndTwo P t = true) (hq:Q (decide (a = a' /\ b = b' /\ c = c' /\ d = d')) h):Sem.lwp P (Op.equal t (.agg #[.int .i64 a,.int .i64 b,.int .i64 c,.int .i64 d]) (.agg #[.int .i64 a',.int .i64 b',.int .i64 c',.int .i64 d'])) Q E h := by
 unfold twoAndTwo at ht
 split at ht
 next fs hu =>
  simp only [Bool.and_eq_true,Bool.not_eq_true'] at ht
  obtain ⟨h1,hs⟩ := ht
  split at h1
  next x y w hfs =>
   simp only [Bool.and_eq_true,bne_iff_ne] at h1
   obtain ⟨⟨⟨⟨⟨⟨⟨⟨⟨n1,n2⟩,n3⟩,i1⟩,i2⟩,i3⟩,o1⟩,o2⟩,o3⟩,sz⟩ := h1
   have hfs':fs = #[x,y,w] := by rw [<- hfs]
   subst hfs'
   have o1 := nbeq_true o1
   have o2 := nbeq_true o2
   have o3 := nbeq_true o3
   cases hi:P.info? w.type with
   | none => rw [hi] at sz; cases sz
   | some inf =>
    rw [hi] at sz
    have sz := nbeq_true sz
    unfold Op.equal
    have hmd:Op.maxDepth = 9997 + 1 + 1 + 1 := rfl
    rw [hmd,Op.equalIn]
    rw [lwp_bind,lwp_underlying hu]
    simp only [lwp_bind,lwp_program,hs,Bool.false_eq_true,if_false,List.forIn_toArray,List.forIn_cons,List.forIn_nil,n1,n2,n3,ne_eq,not_false_eq_true,if_true]
    refine lwp_partI i1 (v := .int .i64 a) (by rw [o1]; rfl) ?_
    refine lwp_partI i1 (v := .int .i64 a') (by rw [o1]; rfl) ?_
    refine lwp_equalI i1 ?_
    by_cases e1:a = a'
    ·subst e1
     simp only [beq_self_eq_true,Bool.not_true,Bool.false_eq_true,if_false,lwp_pure,lwp_bind]
     refine lwp_partI i2 (v := .int .i64 b) (by rw [o2]; rfl) ?_
     refine lwp_partI i2 (v := .int .i64 b') (by rw [o2]; rfl) ?_
     refine lwp_equalI i2 ?_
     by_cases e2:b = b'
     ·subst e2
      simp only [beq_self_eq_true,Bool.not_true,Bool.false_eq_true,if_false,lwp_pure,lwp_bind]
      refine lwp_part2 i3 hi sz ?_
      refine lwp_part2 i3 hi sz ?_
      rw [o3]
      refine lwp_equalIn2 (a := c) (b := d) (c := c') (d := d') i3 ?_
      by_cases e3:c = c' /\ d = d'
      ·simpa [lwp_pure,e3] using hq
      ·simpa [lwp_pure,e3] using hq
     ·have e3:(b == b') = false := by simpa using e2
      simpa [lwp_pure,e2,e3] using hq
    ·have e3:(a == a') = false := by simpa using e1
     simpa [lwp_pure,e1,e3] using hq
  next => cases h1
 next => cases ht
variable {X:XP} {Q:Leaf -> LH -> Prop}
theorem t_ne4 {h:LH} {K:Value -> T} {t:TypeId} {x y:Operand} {a b c d a' b' c' d':Int} (ht:twoAndTwo P t = true) (hg:P.eqGuardType P.depth t = false) (hk:(K (.bool (!decide (a = a' /\ b = b' /\ c = c' /\ d = d')))).wp X P Q h) :
  (T.sem false (Sem.bind (eqGuard .neq t x y (.agg #[.int .i64 a,.int .i64 b,.int .i64 c,.int .i64 d]) (.agg #[.int .i64 a',.int .i64 b',.int .i64 c',.int .i64 d'])) fun _ => binOp .neq t (.agg #[.int .i64 a,.int .i64 b,.int .i64 c,.int .i64 d]) (.agg #[.int .i64 a',.int .i64 b',.int .i64 c',.int .i64 d'])) K).wp X P Q h := by
 refine t_sem (A := fun w h' => w = .bool (!decide (a = a' /\ b = b' /\ c = c' /\ d = d')) /\ h' = h.get) (Sem.lwp_bind _ _ ?_) (by rintro w h' ⟨rfl,rfl⟩; exact hk)
 unfold eqGuard
 simp only [Bool.not_true,Bool.false_eq_true,if_false,lwp_bind,lwp_program,hg,Bool.not_false,if_true,lwp_pure]
 unfold binOp
 rw [lwp_bind]
 exact lwp_equal4 ht ⟨rfl,rfl⟩
end Go.TM
end
section
namespace Go.Proofs.YtfkfohpnpljihaaGreatDoor
open Go Go.TM Go.Proofs
attribute [local irreducible] T.wp CV FWK
theorem two79:twoAndTwo Tryz.prog 91 = true := by kernel_rfl
theorem g79:Tryz.prog.eqGuardType Tryz.prog.depth 91 = false := by kernel_rfl
theorem c30 {h:LH} {p q:Option Addr} {n c m d:Nat} {a b:List Lack} (ha:Sl LackE 4 h.get p n a) (hb:Sl LackE 4 h.get q m b):Pu Tryz.prog 35 #[.slice p n c,.slice q m d] h (.bool (decide (a = b))) := by
 refine w30 _ _ _ _ _ _ X0_ok ?_
 unfold n30
 have hn := ha.1
 have hm := hb.1
 have hbn := ha.2.1
 have hbm := hb.2.1
 refine t_cond (fun e => ?_) (fun e => ?_)
 ·have:a ≠ b := by rintro rfl; simp at e; omega
  exact t_ret ⟨by simp [this],rfl⟩
 have hnm:n = m := by simp at e; omega
 refine t_loop (fun mm vs h' => h = h' /\ ∃ i:Nat,vs = [.bool false,.int .i64 i] /\ i <= n /\ mm = n - i /\ a.take i = b.take i) ⟨rfl,0,rfl,Nat.zero_le _,rfl,rfl⟩ ?_
 rintro Y mm vs _ hY ⟨rfl,i,rfl,hi,rfl,hc⟩
 refine gZ ?_
 refine t_if (fun e => ?_) (fun e => ?_)
 ·obtain ⟨x,a1,hx,ha1,e1,e2,e3,e4⟩ := ha.at (i := i) (by omega)
  obtain ⟨y,a2,hy,ha2,f1,f2,f3,f4⟩ := hb.at (i := i) (by omega)
  refine gZ ?_
  refine t_ne4 two79 g79 ?_
  refine gZ ?_
  refine t_cond (fun b1 => ?_) (fun b1 => ?_)
  ·refine gZ ?_
   have:a ≠ b := by rintro rfl; rw [hx] at hy; cases hy; simp at b1
   exact t_ret ⟨by simp [this],rfl⟩
  ·have b2:x = y := by
    obtain ⟨x1,x2,x3,x4⟩ := x
    obtain ⟨y1,y2,y3,y4⟩ := y
    simp at b1
    obtain ⟨rfl,rfl,rfl,rfl⟩ := b1
    rfl
   refine t_again (hY (n - (i + 1)) _ _ (by omega) ⟨rfl,i + 1,?_,by omega,rfl,?_⟩)
   ·rw [wrap_id (by omega) (by omega)]; rfl
   ·rw [List.take_add_one,List.take_add_one,hc,hx,hy,b2]
 ·refine gZ ?_
  rw [List.take_of_length_le (by omega),List.take_of_length_le (by omega)] at hc
  exact t_ret ⟨by simp [hc],rfl⟩
theorem c15 {h:LH} {f:FileC} {u:UseFile} (hu:FileR h.get f u):FW X0 Tryz.prog 20 #[fileV f u] h fun r h' => h = h' /\ ∃ b:Bool,r = .bool b /\ (b = false -> u.excuses.length <= 20 /\ u.papers.length <= 20 /\ u.requests.length <= 20) := by
 refine w15 _ _ _ _ _ _ _ _ _ _ _ _ _ X0_ok ?_
 unfold n15
 have x0 := hu.excuses.1
 have p0 := hu.papers.1
 have r0 := hu.requests.1
 have pb := hu.papers.2.1
 have rb := hu.requests.2.1
 refine t_blk (fun vs h' => vs = [.bool false] /\ h = h' /\ u.excuses.length <= 20 /\ u.papers.length <= 20 /\ u.requests.length <= 20) ?_ ?_
 ·refine t_if (fun e1 => ?_) (fun e1 => ?_)
  ·refine gZ ?_
   exact t_ret ⟨rfl,true,rfl,fun e => by cases e⟩
  refine t_if (fun e2 => ?_) (fun e2 => ?_)
  ·refine gZ ?_
   exact t_ret ⟨rfl,true,rfl,fun e => by cases e⟩
  refine t_if (fun e3 => ?_) (fun e3 => ?_)
  ·refine gZ ?_
   exact t_ret ⟨rfl,true,rfl,fun e => by cases e⟩
  exact t_again ⟨rfl,rfl,by omega,by omega,by omega⟩
 rintro vs _ ⟨rfl,rfl,h1,h2,h3⟩
 refine gZ ?_
 refine t_loop (fun mm vs h' => h = h' /\ ∃ i:Nat,vs = [.bool false,.int .i64 i] /\ i <= f.n5 /\ mm = f.n5 - i) ⟨rfl,0,rfl,Nat.zero_le _,rfl⟩ ?_
 rintro Y mm vs _ hY ⟨rfl,i,rfl,hi,rfl⟩
 refine gZ ?_
 refine t_if (fun e => ?_) (fun e => ?_)
 ·obtain ⟨x,a1,hx,ha1,e1,e2,e3,q,m,c,e4,e5⟩ := hu.papers.at (i := i) (by omega)
  refine gZ ?_
  refine t_if (fun e6 => ?_) (fun e6 => ?_)
  ·refine gZ ?_
   exact t_ret ⟨rfl,true,rfl,fun e => by cases e⟩
  ·refine t_again (hY (f.n5 - (i + 1)) _ _ (by omega) ⟨rfl,i + 1,?_,by omega,rfl⟩)
   rw [wrap_id (by omega) (by omega)]; rfl
 ·refine gZ ?_
  refine t_loop (fun mm vs h' => h = h' /\ ∃ i:Nat,vs = [.bool false,.int .i64 i] /\ i <= f.n6 /\ mm = f.n6 - i) ⟨rfl,0,rfl,Nat.zero_le _,rfl⟩ ?_
  rintro Y2 mm vs _ hY2 ⟨rfl,i,rfl,hi,rfl⟩
  refine gZ ?_
  refine t_if (fun e => ?_) (fun e => ?_)
  ·obtain ⟨x,a1,hx,ha1,e1,e2,q,m,c,e4,e5⟩ := hu.requests.at (i := i) (by omega)
   refine gZ ?_
   refine t_if (fun e6 => ?_) (fun e6 => ?_)
   ·refine gZ ?_
    exact t_ret ⟨rfl,true,rfl,fun e => by cases e⟩
   ·refine t_again (hY2 (f.n6 - (i + 1)) _ _ (by omega) ⟨rfl,i + 1,?_,by omega,rfl⟩)
    rw [wrap_id (by omega) (by omega)]; rfl
  ·refine gZ ?_
   exact t_ret ⟨rfl,false,rfl,fun _ => ⟨h1,h2,h3⟩⟩
end Go.Proofs.YtfkfohpnpljihaaGreatDoor
end
section
namespace Go.Proofs.YtfkfohpnpljihaaGreatDoor
open Go Go.TM Go.Proofs
theorem lack_grow:Grow LackE := fun _ _ _ _ hl h => ⟨hl _ _ h.1,hl _ _ h.2.1,hl _ _ h.2.2.1,hl _ _ h.2.2.2⟩
theorem ev1:window exU 20 = ⟨16,20⟩ := by decide +kernel
theorem ev2:window exU 25 = ⟨18,25⟩ := by decide +kernel
theorem ev3:safe exU 0 1 16 = 1 := by decide +kernel
theorem ev4:safe exU 0 1 18 = 0 := by decide +kernel
theorem ev5:safe exU 0 1 19 = 2 := by decide +kernel
theorem ev6:weak exU 0 1 = 17 := by decide +kernel
theorem ev7:weak exU 1 2 = 15 := by decide +kernel
theorem ev8:leftAll exU 0 25 = [1,2,0] := by decide +kernel
theorem ev9:lacks exU 0 20 = [⟨1,0,⟨16,20⟩⟩,⟨2,0,⟨16,20⟩⟩] := by decide +kernel
theorem ev10:enoughB exU 0 25 [0,2] (leftAll exU 0 25) = false := by decide +kernel
theorem ev11:∀ i,i < 16 -> okF exU 0 25 i = true -> (∀ j,j < 16 -> okF exU 0 25 j = true -> fewerF (subsetL 4 i) (subsetL 4 j) <= 0) -> subsetL 4 i = [1] := by decide +kernel
theorem ev12:okF exU 0 25 2 = true := by decide +kernel
theorem exWindow20:windowR exU 20 = .tuple #[.agg #[.int .i64 16,.int .i64 20],.int .i64 0] := by rw [windowR,if_neg (by decide +kernel),ev1]
theorem exWindow25:windowR exU 25 = .tuple #[.agg #[.int .i64 18,.int .i64 25],.int .i64 0] := by rw [windowR,if_neg (by decide +kernel),ev2]
theorem exSafe16:safeR exU 0 1 16 = .tuple #[.int .i64 1,.int .i64 0] := by rw [safeR,if_neg (by decide +kernel),ev3]
theorem exSafe18:safeR exU 0 1 18 = .tuple #[.int .i64 0,.int .i64 0] := by rw [safeR,if_neg (by decide +kernel),ev4]
theorem exSafe19:safeR exU 0 1 19 = .tuple #[.int .i64 2,.int .i64 0] := by rw [safeR,if_neg (by decide +kernel),ev5]
theorem exWeak1:weakR exU 0 1 = .tuple #[.int .i64 17,.int .i64 0] := by rw [weakR,if_neg (by decide +kernel),ev6]
theorem exWeak2:weakR exU 1 2 = .tuple #[.int .i64 15,.int .i64 0] := by rw [weakR,if_neg (by decide +kernel),ev7]
theorem exEnough:enoughR exU 0 25 [0,2] = .tuple #[.bool false,.int .i64 0] := by rw [enoughR,if_neg (by decide +kernel),ev10]
theorem exOpen25:openF exU [landQ exU 0,dayQ 25] = 0 := by decide +kernel
theorem exOpen20:openF exU [landQ exU 0,dayQ 20] = 0 := by decide +kernel
attribute [local irreducible] T.wp CV FWK
set_option maxRecDepth 100000 in
theorem c16 {h:LH} (hch:h.chans = []) (hpe:h.pend = []) (hp:Parts h.get):FW XT Tryz.prog 8 #[] h fun r h' => r = .bool true /\ Rd h.get h'.get /\ h'.chans = [] /\ h'.pend = [] /\ h'.todo = h.todo := by
 refine w16 XT_ok ?_
 unfold n16
 refine t_gr c52 ?_
 rintro _ h1 le1 ⟨f,rfl,hu⟩
 have hp := hp.le le1.1
 refine gZ ?_
 refine t_gr (c17 hp hu 20) ?_
 rintro _ h2 le2 rfl
 rw [exWindow20]
 refine gZ ?_
 have hp := hp.le le2.1
 have hu := hu.le le2.1
 refine t_gr (c17 hp hu 25) ?_
 rintro _ h3 le3 rfl
 rw [exWindow25]
 refine gZ ?_
 have hp := hp.le le3.1
 have hu := hu.le le3.1
 refine t_gr (c19 hp hu 0 1 16) ?_
 rintro _ h4 le4 rfl
 rw [exSafe16]
 refine gZ ?_
 have hp := hp.le le4.1
 have hu := hu.le le4.1
 refine t_gr (c19 hp hu 0 1 18) ?_
 rintro _ h5 le5 rfl
 rw [exSafe18]
 refine gZ ?_
 have hp := hp.le le5.1
 have hu := hu.le le5.1
 refine t_gr (c19 hp hu 0 1 19) ?_
 rintro _ h6 le6 rfl
 rw [exSafe19]
 refine gZ ?_
 have hp := hp.le le6.1
 have hu := hu.le le6.1
 refine t_gr (c21 hp hu 0 1) ?_
 rintro _ h7 le7 rfl
 rw [exWeak1]
 refine gZ ?_
 have hp := hp.le le7.1
 have hu := hu.le le7.1
 refine t_gr (c21 hp hu 1 2) ?_
 rintro _ h8 le8 rfl
 rw [exWeak2]
 refine gZ ?_
 have hp := hp.le le8.1
 have hu := hu.le le8.1
 refine t_gr (c23 hp hu 0 25) ?_
 rintro _ h9 le9 (⟨hne,_⟩ | ⟨_,lp,ln,lc,rfl,hl⟩)
 ·exact absurd exOpen25 hne
 rw [ev8] at hl
 refine gZ ?_
 have hp := hp.le le9.1
 have hu := hu.le le9.1
 refine t_gr (c28 hp hu 0 20) ?_
 rintro _ h10 le10 (⟨hne,_⟩ | ⟨_,kp,kn,kc,rfl,hk⟩)
 ·exact absurd exOpen20 hne
 rw [ev9] at hk
 refine gZ ?_
 have hp := hp.le le10.1
 have hu := hu.le le10.1
 have hl := hl.le IntE.grow le10.1
 have le := LH.le_trans (LH.le_trans (LH.le_trans (LH.le_trans (LH.le_trans (LH.le_trans (LH.le_trans (LH.le_trans (LH.le_trans le1 le2) le3) le4) le5) le6) le7) le8) le9) le10
 refine t_call (c33 (by rw [le.2.1,hch]) (by rw [le.2.2.1,hpe]) hp hu 0 25) ?_
 rintro _ h11 ⟨rd11,ch11,pe11,td11,⟨hne,_⟩ | ⟨_,pp,pn,pc,rfl,hb,_⟩⟩
 ·exact absurd exOpen25 hne
 have hpk:Sl IntE 1 h11.get pp pn [1] := by
  rcases hb with ⟨_,_,hno⟩ | ⟨i,a,rfl,hi,hok,hs,hmin⟩
  ·have := hno 2 (by decide) (by simp)
   rw [ev12] at this; cases this
  ·have e := ev11 i hi hok fun j hj hj2 => hmin j hj (by simp) hj2
   rw [<- e]; exact hs
 refine gZ ?_
 have hp := hp.rd rd11
 have hu := hu.rd rd11
 have hl := hl.rd IntE.grow rd11
 have hk := hk.rd lack_grow rd11
 refine t_buildG und50 inf3 (by decide) (by decide) (cells := #[.int .i64 0,.int .i64 2]) (by kernel_rfl) fun r12 h12 le12 _ e12 => ?_
 refine gZ ?_
 have hp := hp.le le12.1
 have hu := hu.le le12.1
 refine t_gr (c31 hp hu 0 25 (pl := [0,2]) (sl_ints (l := [0,2]) rfl e12 (by show (2:Nat) < _; omega))) ?_
 rintro _ h13 le13 rfl
 rw [exEnough]
 refine gZ ?_
 have le1113 := LH.le_trans le12 le13
 have hl := hl.le IntE.grow le1113.1
 have hk := hk.le lack_grow le1113.1
 have hpk := hpk.le IntE.grow le1113.1
 refine t_blk (fun vs h' => vs = [.bool false] /\ h13 = h') ?_ ?_
 ·iterate 11 refine t_cond (fun e => absurd e (by decide)) (fun _ => ?_)
  exact t_again ⟨rfl,rfl⟩
 rintro vs _ ⟨rfl,rfl⟩
 refine gZ ?_
 refine t_blk (fun vs h' => vs = [.bool false] /\ h13.le h') ?_ ?_
 ·refine t_pu (c42 _ _) ?_
  refine gZ ?_
  refine t_ne2 two30 g30 ?_
  refine gZ ?_
  refine t_cond (fun e => absurd e (by decide)) (fun _ => ?_)
  refine t_pu (c42 _ _) ?_
  refine gZ ?_
  refine t_ne2 two30 g30 ?_
  refine gZ ?_
  refine t_cond (fun e => absurd e (by decide)) (fun _ => ?_)
  refine gZ ?_
  refine t_cond (fun e => absurd e (by decide)) (fun _ => ?_)
  refine gZ ?_
  refine t_cond (fun e => absurd e (by decide)) (fun _ => ?_)
  refine gZ ?_
  refine t_cond (fun e => absurd e (by decide)) (fun _ => ?_)
  refine gZ ?_
  refine t_cond (fun e => absurd e (by decide)) (fun _ => ?_)
  refine gZ ?_
  refine t_cond (fun e => absurd e (by decide)) (fun _ => ?_)
  refine gZ ?_
  refine t_cond (fun e => absurd e (by decide)) (fun _ => ?_)
  refine gZ ?_
  refine t_buildG und50 inf3 (by decide) (by decide) (cells := #[.int .i64 1]) (by kernel_rfl) fun r14 h14 le14 _ e14 => ?_
  refine gZ ?_
  refine t_pu (c35 (hpk.le IntE.grow le14.1) (sl_ints (l := [1]) rfl e14 (by show (1:Nat) < _; omega))) ?_
  refine gZ ?_
  refine t_cond (fun e => absurd e (by decide)) (fun _ => ?_)
  exact t_again ⟨rfl,le14⟩
 rintro vs h15 ⟨rfl,le15⟩
 have hl := hl.le IntE.grow le15.1
 have hk := hk.le lack_grow le15.1
 refine gZ ?_
 refine t_buildG und40 inf34 (by decide) (by decide) (cells := #[.int .i64 1,.int .i64 2,.int .i64 0]) (by kernel_rfl) fun r16 h16 le16 _ e16 => ?_
 refine gZ ?_
 refine t_pu (c25 (hl.le IntE.grow le16.1) (sl_ints (l := [1,2,0]) rfl e16 (by show (3:Nat) < _; omega))) ?_
 refine gZ ?_
 refine t_cond (fun _ => ?_) (fun e => absurd e (by decide))
 refine gZ ?_
 refine t_pu (c42 _ _) ?_
 refine gZ ?_
 refine t_pu (c42 _ _) ?_
 refine gZ ?_
 refine t_buildG und45 inf79 (by decide) (by decide) (cells := #[.int .i64 1,.int .i64 0,.int .i64 16,.int .i64 20,.int .i64 2,.int .i64 0,.int .i64 16,.int .i64 20]) (by kernel_rfl) fun r17 h17 le17 _ e17 => ?_
 refine gZ ?_
 have le1617 := LH.le_trans le16 le17
 refine t_pu (c30 (hk.le lack_grow le1617.1) (b := [⟨1,0,⟨16,20⟩⟩,⟨2,0,⟨16,20⟩⟩]) ?_) ?_
 ·refine ⟨rfl,by show (2:Nat) < _; omega,?_⟩
  have cr:∀ {i j:Nat} {v:Value},(#[.int .i64 1,.int .i64 0,.int .i64 16,.int .i64 20,.int .i64 2,.int .i64 0,.int .i64 16,.int .i64 20]:Array Value)[i + j]? = some v -> h17.get.cell? (Addr.add (Addr.add ⟨r17,0,none⟩ i) j) = some v := by
   intro i j v hv
   rw [add_plain,add_plain,Nat.zero_add]; exact cell_row e17 hv
  intro i x hx
  match i,hx with
  | 0,hx => cases hx; exact ⟨_,rfl,cr rfl,cr rfl,cr rfl,cr rfl⟩
  | 1,hx => cases hx; exact ⟨_,rfl,cr rfl,cr rfl,cr rfl,cr rfl⟩
  | i + 2,hx => simp at hx
 refine gZ ?_
 have leZ := LH.le_trans (LH.le_trans le1113 le15) le1617
 refine t_ret ⟨by simp,(Rd.of_le le.1).trans (rd11.trans (Rd.of_le leZ.1)),by rw [leZ.2.1,ch11],by rw [leZ.2.2.1,pe11],by rw [leZ.2.2.2,td11,le.2.2.2]⟩
end Go.Proofs.YtfkfohpnpljihaaGreatDoor
end
section
namespace Go.Proofs.YtfkfohpnpljihaaGreatDoor
open Go Go.TM Go.Proofs
attribute [local irreducible] T.wp CV FWK
theorem LeftR.form {h':Cells} {u:UseFile} {land day:Int} {r:Value} (hr:LeftR h' u land day r):∃ p n c,r = .tuple #[.slice p n c,.int .i64 (openF u [landQ u land,dayQ day])] /\ Sl IntE 1 h' p n (if openF u [landQ u land,dayQ day] = 0 then leftAll u land day else []) := by
 rcases hr with ⟨h1,rfl⟩ | ⟨h1,p,n,c,rfl,s⟩
 ·exact ⟨none,0,0,rfl,by rw [if_neg h1]; exact Sl.nil⟩
 ·exact ⟨p,n,c,by rw [h1],by rw [if_pos h1]; exact s⟩
def Fin (h:LH):Value -> LH -> Prop := fun r h' => r = .bool true /\ h'.chans = [] /\ h'.pend = [] /\ h'.todo = h.todo
theorem fin_shown {h h':LH} (hch:h.chans = []) (hpe:h.pend = []) (hp:Parts h.get) (hle:h.le h'):FW XT Tryz.prog 8 #[] h' (Fin h) := by
 refine FW.mono (c16 (by rw [hle.2.1,hch]) (by rw [hle.2.2.1,hpe]) (hp.le hle.1)) ?_
 rintro v h'' ⟨h1,_,h2,h3,h4⟩
 exact ⟨h1,h2,h3,by rw [h4,hle.2.2.2]⟩
theorem t_shown {h h':LH} {k:Bool -> T} {Q:Leaf -> LH -> Prop} (hch:h.chans = []) (hpe:h.pend = []) (hp:Parts h.get) (hle:h.le h') (hk:∀ h'',h''.chans = [] /\ h''.pend = [] /\ h''.todo = h.todo -> (k true).wp XT Tryz.prog Q h'') :
  (T.call false 8 #[] fun v => T.unB v k).wp XT Tryz.prog Q h' := by
 refine t_call (fin_shown hch hpe hp hle) ?_
 rintro _ h'' ⟨rfl,h2⟩
 exact gC (hk h'' h2)
end Go.Proofs.YtfkfohpnpljihaaGreatDoor
end
section
namespace Go.TM
open Go
def cum (c:Int -> Bool):Nat -> Int
 | 0 => 0
 | n + 1 => cum c n + (if c ((n + 1:Nat):Int) then 1 else 0)
theorem firstDay_spec (c:Int -> Bool) (idle:Int):∀ (d:Nat) (n:Int),n < idle -> ∃ w:Nat,firstDay c idle d n = w /\ w <= d /\ n + cum c d - cum c w < idle /\ (1 <= w -> n + cum c d - cum c (w - 1) >= idle) := by
 intro d
 induction d with
 | zero => intro n hn; exact ⟨0,rfl,Nat.le_refl _,by omega,fun h => by omega⟩
 | succ d ih =>
  intro n hn
  have hc:(if c ((d + 1:Nat):Int) then n + 1 else n) + cum c d = n + cum c (d + 1) := by
   rw [cum]; split <;> omega
  rw [firstDay]
  by_cases e:(if c ((d + 1:Nat):Int) then n + 1 else n) >= idle
  ·rw [if_pos e]
   refine ⟨d + 1,rfl,Nat.le_refl _,by omega,fun _ => ?_⟩
   rw [Nat.add_sub_cancel]; omega
  ·rw [if_neg e]
   obtain ⟨w,h1,h2,h3,h4⟩ := ih _ (by omega:(if c ((d + 1:Nat):Int) then n + 1 else n) < idle)
   exact ⟨w,h1,by omega,by omega,fun h => by have := h4 h; omega⟩
def cnt (u:UseFile) (a d:Int):Int := cum (counts u) d.toNat - cum (counts u) a.toNat
theorem window_bound {u:UseFile} (hi:1 <= u.idle) {day:Int} (hd:0 <= day):0 <= (window u day).first /\ (window u day).first <= day /\ (window u day).last = day /\ cnt u (window u day).first day < u.idle /\ (1 <= (window u day).first -> cnt u ((window u day).first - 1) day >= u.idle) := by
 obtain ⟨w,h1,h2,h3,h4⟩ := firstDay_spec (counts u) u.idle day.toNat 0 (by omega)
 unfold window cnt
 simp only [h1]
 refine ⟨by omega,by omega,trivial,?_,fun h => ?_⟩
 ·rw [show ((w:Nat):Int).toNat = w by omega]; omega
 ·have := h4 (by omega)
  rw [show (((w:Nat):Int) - 1).toNat = w - 1 by omega]; omega
end Go.TM
end
section
namespace Go.Proofs.YtfkfohpnpljihaaGreatDoor
open Go Go.TM Go.Proofs
attribute [local irreducible] T.wp CV FWK
theorem c36 {h:LH} {f:FileC} {u:UseFile} (hu:FileR h.get f u):FW X0 Tryz.prog 6 #[fileV f u] h fun r h' => h = h' /\ ∃ b:Bool,r = .bool b /\ (b = true -> checkF u = 0) := by
 refine w36 _ _ _ _ _ _ _ _ _ _ _ _ _ X0_ok ?_
 unfold n36
 refine t_call (c15 hu) ?_
 rintro _ _ ⟨rfl,b,rfl,hb⟩
 refine gZ ?_
 refine t_cond (fun _ => ?_) (fun _ => ?_)
 ·refine t_pu (c27 hu) ?_
  refine gZ ?_
  exact t_ret ⟨rfl,_,rfl,fun e => by simpa using e⟩
 ·exact t_ret ⟨rfl,_,rfl,fun e => by cases e⟩
theorem wrap_u16 {n:Int} (h:0 <= n /\ n <= 65535):IntKind.i64.wrap n = n := wrap_id (by omega) (by omega)
theorem wrap_u8 {n:Int} (h:0 <= n /\ n <= 255):IntKind.i64.wrap n = n := wrap_id (by omega) (by omega)
theorem tmod_nn {a b:Int} (ha:0 <= a):Int.tmod a b = a % b := by rw [Int.tmod_eq_emod_of_nonneg ha]
theorem mod_day {n:Int}:0 <= n % 2001 /\ n % 2001 <= 2000 := by omega
theorem c37 {h:LH} {n:Int} (hn:0 <= n /\ n <= 65535):Pu Tryz.prog 9 #[.int .u16 n] h (.int .i64 (n % 2001)) := by
 refine w37 _ X0_ok ?_
 unfold n37
 refine gT (by omega) ?_
 rw [wrap_u16 hn,tmod_nn hn.1]
 exact t_ret ⟨rfl,rfl⟩
end Go.Proofs.YtfkfohpnpljihaaGreatDoor
end
section
namespace Go.Proofs.YtfkfohpnpljihaaGreatDoor
open Go Go.TM Go.Proofs
attribute [local irreducible] T.wp CV FWK
theorem openF_all {u:UseFile} (hck:checkF u = 0):∀ {l:List Int},(∀ x ∈ l,x = 0) -> openF u l = 0 := by
 intro l hl
 rw [openF,if_neg (by simp [hck])]
 have key:∀ (l:List Int) (i:Nat),(∀ x ∈ l,x = 0) -> firstF (fun _ x => x) i l = 0 := by
  intro l
  induction l with
  | nil => intro i _; rfl
  | cons y l ih =>
   intro i h
   rw [firstF,if_neg (by simp [h y (by simp)])]
   exact ih _ fun x hx => h x (by simp [hx])
 exact key l 0 hl
theorem landQ_ok {u:UseFile} {k:Int} (h:0 <= k /\ k < u.lands):landQ u k = 0 := by
 unfold landQ isIn
 rw [if_pos]; simp; omega
theorem dayQ_ok {d:Int} (h:0 <= d /\ d <= 2000):dayQ d = 0 := by
 unfold dayQ isDay isIn
 rw [if_pos]; simp; omega
theorem leftQ_ok {u:UseFile} (hck:checkF u = 0) {k d:Int} (hk:0 <= k /\ k < u.lands) (hd:0 <= d /\ d <= 2000):openF u [landQ u k,dayQ d] = 0 :=
 openF_all hck (by intro x hx; simp at hx; rcases hx with rfl | rfl; exact landQ_ok hk; exact dayQ_ok hd)
theorem mod_pos {n b:Int} (hb:0 < b):0 <= n % b /\ n % b < b := ⟨Int.emod_nonneg _ (by omega),Int.emod_lt_of_pos _ hb⟩
end Go.Proofs.YtfkfohpnpljihaaGreatDoor
end
section
namespace Go.TM
open Go
theorem safeGo_one {w:Span}:∀ {l:List Paper} {out:Int},out ≠ 1 -> (safeGo w l out = 1 ↔ ∃ p ∈ l,insideB w p.days = true) := by
 intro l
 induction l with
 | nil => intro out h; simp [safeGo,h]
 | cons p l ih =>
  intro out h
  rw [safeGo]
  by_cases e:insideB w p.days = true
  ·rw [if_pos e]; simp [e]
  ·rw [if_neg e,ih (by split <;> omega)]
   simp [e]
theorem safeGo_two {w:Span}:∀ {l:List Paper} {out:Int},(safeGo w l out = 2 -> out = 2 /\ ∀ p ∈ l,meetsB w p.days = false /\ insideB w p.days = false) := by
 intro l
 induction l with
 | nil => intro out h; exact ⟨h,fun p hp => by simp at hp⟩
 | cons p l ih =>
  intro out h
  rw [safeGo] at h
  by_cases e:insideB w p.days = true
  ·rw [if_pos e] at h; omega
  ·rw [if_neg e] at h
   obtain ⟨h1,h2⟩ := ih h
   by_cases e2:meetsB w p.days = true
   ·rw [if_pos e2] at h1; omega
   ·rw [if_neg e2] at h1
    refine ⟨h1,fun q hq => ?_⟩
    rcases List.mem_cons.1 hq with rfl | hq
    ·exact ⟨by simpa using e2,by simpa using e⟩
    ·exact h2 q hq
theorem safeGo_two' {w:Span}:∀ {l:List Paper},(∀ p ∈ l,meetsB w p.days = false /\ insideB w p.days = false) -> safeGo w l 2 = 2 := by
 intro l
 induction l with
 | nil => intro _; rfl
 | cons p l ih =>
  intro h
  have := h p (by simp)
  rw [safeGo,if_neg (by rw [this.2]; simp),if_neg (by rw [this.1]; simp)]
  exact ih fun q hq => h q (by simp [hq])
theorem safeGo_vals {w:Span}:∀ {l:List Paper} {out:Int},(out = 0 \/ out = 1 \/ out = 2) -> (safeGo w l out = 0 \/ safeGo w l out = 1 \/ safeGo w l out = 2) := by
 intro l
 induction l with
 | nil => intro out h; exact h
 | cons p l ih =>
  intro out h
  rw [safeGo]
  split
  ·omega
  ·apply ih; split <;> omega
theorem safe_vals (u:UseFile) (k i d:Int):safe u k i d = 0 \/ safe u k i d = 1 \/ safe u k i d = 2 := by
 unfold safe
 split
 ·omega
 ·exact safeGo_vals (.inr (.inr rfl))
def InW (u:UseFile) (day d:Int):Prop := (window u day).first <= d /\ d <= day
theorem inside_def (w x:Span):insideB w x = true ↔ w.first <= x.first /\ x.last <= w.last := by
 unfold insideB mx mn
 rw [decide_eq_true_eq]
 constructor
 ·rintro ⟨h1,h2⟩; split at h1 <;> split at h2 <;> omega
 ·rintro ⟨h1,h2⟩; constructor
  ·split <;> omega
  ·split <;> omega
theorem meets_def {w x:Span} (hw:w.first <= w.last) (hx:x.first <= x.last):meetsB w x = true ↔ x.first <= w.last /\ w.first <= x.last := by
 unfold meetsB mx mn
 rw [decide_eq_true_eq]
 split <;> split <;> omega
def Choice:List Paper -> List Int -> Prop
 | [],[] => True
 | p :: ps,d :: ds => (p.days.first <= d /\ d <= p.days.last) /\ Choice ps ds
 | _,_ => False
theorem meetsGo_bit (u:UseFile) (day:Int):∀ (l:List Request) (k acc j:Nat),(meetsGo u day l k acc).testBit j = (acc.testBit j || (decide (k <= j) && (l[j - k]?).any fun r => isIn day (window u r.day).first r.day)) := by
 intro l
 induction l with
 | nil => intro k acc j; simp [meetsGo]
 | cons r l ih =>
  intro k acc j
  rw [meetsGo,ih]
  by_cases e:j = k
  ·subst e
   simp only [Nat.sub_self,List.getElem?_cons_zero,Option.any_some,Nat.le_refl,decide_true,Bool.true_and]
   rw [show decide (j + 1 <= j) = false by simp]
   split <;> rename_i hh <;> simp [hh,Nat.testBit_or,Nat.testBit_two_pow_self]
  ·have hacc:(if isIn day (window u r.day).first r.day then acc ||| 2 ^ k else acc).testBit j = acc.testBit j := by
    split
    ·rw [Nat.testBit_or,Nat.testBit_two_pow]; simp [Ne.symm e]
    ·rfl
   rw [hacc]
   by_cases e2:k <= j
   ·have h1:k + 1 <= j := by omega
    rw [show j - k = (j - (k + 1)) + 1 by omega,List.getElem?_cons_succ]
    simp [e2,h1]
   ·have h1:¬ k + 1 <= j := by omega
    simp [e2,h1]
theorem meets_bit (u:UseFile) (l:List Request) (day:Int) (j:Nat):(meets u l day).testBit j = (l[j]?).any fun r => isIn day (window u r.day).first r.day := by
 unfold meets
 rw [meetsGo_bit]; simp
def orAll (u:UseFile) (L:List Request):List Int -> Nat -> Nat
 | [],s => s
 | d :: ds,s => orAll u L ds (s ||| meets u L d)
theorem orAll_bit {u:UseFile} {L:List Request} (j:Nat):∀ {ds:List Int} {s:Nat},(orAll u L ds s).testBit j = (s.testBit j || ds.any fun d => (meets u L d).testBit j) := by
 intro ds
 induction ds with
 | nil => intro s; simp [orAll]
 | cons d ds ih => intro s; rw [orAll,ih,Nat.testBit_or,List.any_cons,Bool.or_assoc]
theorem daysOf_mem {x:Span} {d:Int}:d ∈ daysOf x ↔ x.first <= d /\ d <= x.last := by
 unfold daysOf
 rw [List.mem_map]
 constructor
 ·rintro ⟨i,h1,rfl⟩
  rw [List.mem_range] at h1; omega
 ·rintro ⟨h1,h2⟩
  exact ⟨(d - x.first).toNat,by rw [List.mem_range]; omega,by omega⟩
theorem mem_step {ms R:List Nat} {s:Nat}:s ∈ stepL ms R ↔ ∃ a ∈ R,∃ b ∈ ms,s = a ||| b := by
 unfold stepL
 simp only [List.mem_flatMap,List.mem_map]
 constructor
 ·rintro ⟨a,h1,b,h2,h3⟩; exact ⟨a,h1,b,h2,h3.symm⟩
 ·rintro ⟨a,h1,b,h2,h3⟩; exact ⟨a,h1,b,h2,h3.symm⟩
theorem reach_iff {u:UseFile} {L:List Request}:∀ {ps:List Paper} {R:List Nat} {s:Nat},s ∈ reachL u L ps R ↔ ∃ a ∈ R,∃ ds,Choice ps ds /\ s = orAll u L ds a := by
 intro ps
 induction ps with
 | nil =>
  intro R s
  rw [reachL]
  constructor
  ·intro h; exact ⟨s,h,[],trivial,rfl⟩
  ·rintro ⟨a,h,ds,hc,rfl⟩
   cases ds with
   | nil => exact h
   | cons d ds => exact hc.elim
 | cons p ps ih =>
  intro R s
  rw [reachL,ih]
  constructor
  ·rintro ⟨a,h,ds,hc,rfl⟩
   obtain ⟨b,hb,m,hm,rfl⟩ := mem_step.1 h
   obtain ⟨d,hd,rfl⟩ := List.mem_map.1 hm
   exact ⟨b,hb,d :: ds,⟨daysOf_mem.1 hd,hc⟩,rfl⟩
  ·rintro ⟨a,h,ds,hc,rfl⟩
   cases ds with
   | nil => exact hc.elim
   | cons d ds =>
    obtain ⟨h1,h2⟩ := hc
    exact ⟨_,mem_step.2 ⟨a,h,_,List.mem_map.2 ⟨d,daysOf_mem.2 h1,rfl⟩,rfl⟩,ds,h2,rfl⟩
theorem orAll_lt {u:UseFile} {L:List Request} {ds:List Int} {s:Nat} (j:Nat) (hs:s.testBit j = false) (hj:L.length <= j):(orAll u L ds s).testBit j = false := by
 rw [orAll_bit,hs,Bool.false_or,List.any_eq_false]
 intro d _
 rw [meets_bit,List.getElem?_eq_none hj]; simp
theorem can_iff {u:UseFile} {land item:Int} {L:List Request}:can u land item L = true ↔ ∃ ds,Choice (shown u land item) ds /\ ∀ r ∈ L,InW u r.day u.from_ \/ ∃ d ∈ ds,InW u r.day d := by
 have key:∀ ds,orAll u L ds (meets u L u.from_) = 2 ^ L.length - 1 ↔ ∀ r ∈ L,InW u r.day u.from_ \/ ∃ d ∈ ds,InW u r.day d := by
  intro ds
  constructor
  ·intro h r hr
   obtain ⟨j,hj⟩ := List.mem_iff_getElem?.1 hr
   have hjl := (List.getElem?_eq_some_iff.1 hj).1
   have hb:(orAll u L ds (meets u L u.from_)).testBit j = true := by rw [h,Nat.testBit_two_pow_sub_one]; simp [hjl]
   rw [orAll_bit,Bool.or_eq_true,meets_bit,hj,List.any_eq_true] at hb
   rcases hb with hb | ⟨d,hd,hb⟩
   ·simp [isIn] at hb; exact .inl hb
   ·rw [meets_bit,hj] at hb
    simp [isIn] at hb
    exact .inr ⟨d,hd,hb⟩
  ·intro h
   apply Nat.eq_of_testBit_eq
   intro j
   rw [Nat.testBit_two_pow_sub_one]
   by_cases hj:j < L.length
   ·have hr:L[j]? = some L[j] := List.getElem?_eq_getElem hj
    rw [orAll_bit,meets_bit,hr]
    simp only [Option.any_some,hj,decide_true]
    rcases h L[j] (List.getElem_mem _) with ⟨h1,h2⟩ | ⟨d,hd,h1,h2⟩
    ·rw [show isIn u.from_ (window u L[j].day).first L[j].day = true by simp [isIn]; exact ⟨h1,h2⟩]; rfl
    ·rw [Bool.or_eq_true]; right
     rw [List.any_eq_true]
     refine ⟨d,hd,?_⟩
     rw [meets_bit,hr]
     simp [isIn]; exact ⟨h1,h2⟩
   ·rw [orAll_lt j (by rw [meets_bit,List.getElem?_eq_none (by omega)]; rfl) (by omega)]
    simp [hj]
 unfold can
 rw [List.contains_iff_mem,reach_iff]
 constructor
 ·rintro ⟨a,ha,ds,hc,hs⟩
  rw [List.mem_singleton] at ha
  subst ha
  exact ⟨ds,hc,(key ds).1 hs.symm⟩
 ·rintro ⟨ds,hc,h⟩
  exact ⟨_,List.mem_singleton.2 rfl,ds,hc,((key ds).2 h).symm⟩
end Go.TM
end
section
namespace Go.TM
open Go
theorem Choice.snoc:∀ {ps:List Paper} {ds:List Int},Choice ps ds -> ∀ {p:Paper} {d:Int},p.days.first <= d -> d <= p.days.last -> Choice (ps ++ [p]) (ds ++ [d])
 | [],[],_,_,_,h1,h2 => ⟨⟨h1,h2⟩,trivial⟩
 | _ :: _,_ :: _,h,_,_,h1,h2 => ⟨h.1,Choice.snoc h.2 h1 h2⟩
 | [],_ :: _,h,_,_,_,_ => h.elim
 | _ :: _,[],h,_,_,_,_ => h.elim
theorem left_vals (u:UseFile) (k i d:Int):left u k i d = 0 \/ left u k i d = 1 \/ left u k i d = 2 := by
 unfold left
 split
 ·omega
 ·split <;> omega
end Go.TM
end

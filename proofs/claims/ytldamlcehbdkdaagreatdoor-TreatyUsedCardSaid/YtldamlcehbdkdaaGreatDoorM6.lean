/- For every treaty, file of use, paper, land and days the law TreatyUsed returns true: what is not always left of a right for want of use is given up in the land on that day; one more paper of use never ends protection, on that day or on a later one. The tied card; no further condition. -/
import Derived.Test.YtldamlcehbdkdaaGreatDoorM5
set_option linter.all false
section
namespace Go.Proofs.YtldamlcehbdkdaaGreatDoor
open Go Go.TM Go.Proofs
set_option linter.unusedVariables false
set_option maxRecDepth 100000
variable {X : XP} {h : LH} {A : Value → LH → Prop}
noncomputable def n15 (u_0 u_1 u_2 u_3 : Int) (u_4p : Option Addr) (u_4n u_4c : Nat) (u_5p : Option Addr) (u_5n u_5c : Nat) (u_6p : Option Addr) (u_6n u_6c : Nat) : T := .blk (bif decide ((↑u_4n : Int) > 20) then .leaf (.retn [.bool true]) else bif decide ((↑u_5n : Int) > 20) then .leaf (.retn [.bool true]) else bif decide ((↑u_6n : Int) > 20) then .leaf (.retn [.bool true]) else .leaf (.again [.bool false])) (fun vs => .popB vs fun b vs => .unNil vs (.loop [.bool b, .int .i64 0] (fun vs => .popB vs fun b vs => .popI .i64 vs fun n vs => .unNil vs (bif decide (n < (↑u_5n : Int)) then .need (0 ≤ n ∧ n < (↑u_5n : Int)) (.someA u_5p fun a => .loadS ((a.add (n.toNat * 4)).add 3) fun p n_1 c => bif decide ((↑n_1 : Int) > 20) then .leaf (.retn [.bool true, .int .i64 n]) else .leaf (.again [.bool b, .int .i64 (IntKind.wrap .i64 (n + 1))])) else .leaf (.brk [.bool b, .int .i64 n]))) (fun vs => .popB vs fun b vs => .popI .i64 vs fun n vs => .unNil vs (.loop [.bool b, .int .i64 0] (fun vs => .popB vs fun b vs => .popI .i64 vs fun n vs => .unNil vs (bif decide (n < (↑u_6n : Int)) then .need (0 ≤ n ∧ n < (↑u_6n : Int)) (.someA u_6p fun a => .loadS ((a.add (n.toNat * 3)).add 2) fun p n_1 c => bif decide ((↑n_1 : Int) > 20) then .leaf (.retn [.bool true, .int .i64 n]) else .leaf (.again [.bool b, .int .i64 (IntKind.wrap .i64 (n + 1))])) else .leaf (.brk [.bool b, .int .i64 n]))) (fun vs => .popB vs fun b vs => .popI .i64 vs fun n vs => .unNil vs (.leaf (.ret (.bool false)))) (fun vs => .popB vs fun b vs => .popI .i64 vs fun n vs => .unNil vs (.leaf (.ret (.bool b)))) fun x x_1 => .fail)) (fun vs => .popB vs fun b vs => .popI .i64 vs fun n vs => .unNil vs (.leaf (.ret (.bool b)))) fun x x_1 => .fail)) (fun vs => .popB vs fun b vs => .unNil vs (.leaf (.ret (.bool b)))) fun x x_1 => .fail
theorem w15 (u_0 u_1 u_2 u_3 : Int) (u_4p : Option Addr) (u_4n u_4c : Nat) (u_5p : Option Addr) (u_5n u_5c : Nat) (u_6p : Option Addr) (u_6n u_6c : Nat) (hX : XOK X) (hw : (n15 u_0 u_1 u_2 u_3 u_4p u_4n u_4c u_5p u_5n u_5c u_6p u_6n u_6c).wp X Tryz.prog (retQ A) h) : FWK X Tryz.prog .normal 49 #[.agg #[.int .i64 u_0, .int .i64 u_1, .int .i64 u_2, .int .i64 u_3, .slice u_4p u_4n u_4c, .slice u_5p u_5n u_5c, .slice u_6p u_6n u_6c]] h A := fwk_neat (show ftree ({ P := Tryz.prog, priv := [1], loops := [{ id := 0, slots := [(2, .bool), (3, .int .i64)], ro := [1], outs := [] }, { id := 2, slots := [(2, .bool), (4, .int .i64)], ro := [1], outs := [] }], joins := [{ id := 3, slots := [(2, .bool)], ro := [1], outs := [] }] }) Tryz.f49 [.agg #[.int .i64 u_0, .int .i64 u_1, .int .i64 u_2, .int .i64 u_3, .slice u_4p u_4n u_4c, .slice u_5p u_5n u_5c, .slice u_6p u_6n u_6c]] = n15 u_0 u_1 u_2 u_3 u_4p u_4n u_4c u_5p u_5n u_5c u_6p u_6n u_6c by kernel_rfl) (by simp) (by kernel_rfl) (by kernel_rfl) hX hw
noncomputable def n27 (u_0 u_1 u_2 u_3 : Int) (u_4p : Option Addr) (u_4n u_4c : Nat) (u_5p : Option Addr) (u_5n u_5c : Nat) (u_6p : Option Addr) (u_6n u_6c : Nat) : T := .blk (.call false 96 #[.int .i64 u_0, .int .i64 0, .int .i64 6] fun v => .unB v fun b => bif !b then .leaf (.retn [.int .i64 1]) else .call false 96 #[.int .i64 u_1, .int .i64 1, .int .i64 3] fun v => .unB v fun b => bif !b then .leaf (.retn [.int .i64 1]) else .call false 97 #[.int .i64 u_2] fun v => .unB v fun b => bif !b then .leaf (.retn [.int .i64 1]) else .call false 96 #[.int .i64 u_3, .int .i64 1, .int .i64 2000] fun v => .unB v fun b => bif !b then .leaf (.retn [.int .i64 1]) else .leaf (.again [.int .i64 0])) (fun vs => .popI .i64 vs fun n vs => .unNil vs (.call false 98 #[.slice u_4p u_4n u_4c] fun v => .unI .i64 v fun n => bif n != 0 then .leaf (.ret (.int .i64 n)) else .call false 99 #[.agg #[.int .i64 u_0, .int .i64 u_1, .int .i64 u_2, .int .i64 u_3, .slice u_4p u_4n u_4c, .slice u_5p u_5n u_5c, .slice u_6p u_6n u_6c]] fun v => .unI .i64 v fun n => bif n != 0 then .leaf (.ret (.int .i64 n)) else .call false 100 #[.agg #[.int .i64 u_0, .int .i64 u_1, .int .i64 u_2, .int .i64 u_3, .slice u_4p u_4n u_4c, .slice u_5p u_5n u_5c, .slice u_6p u_6n u_6c]] fun v => .unI .i64 v fun n => .leaf (.ret (.int .i64 n)))) (fun vs => .popI .i64 vs fun n vs => .unNil vs (.leaf (.ret (.int .i64 n)))) fun x x_1 => .fail
theorem w27 (u_0 u_1 u_2 u_3 : Int) (u_4p : Option Addr) (u_4n u_4c : Nat) (u_5p : Option Addr) (u_5n u_5c : Nat) (u_6p : Option Addr) (u_6n u_6c : Nat) (hX : XOK X) (hw : (n27 u_0 u_1 u_2 u_3 u_4p u_4n u_4c u_5p u_5n u_5c u_6p u_6n u_6c).wp X Tryz.prog (retQ A) h) : FWK X Tryz.prog .normal 34 #[.agg #[.int .i64 u_0, .int .i64 u_1, .int .i64 u_2, .int .i64 u_3, .slice u_4p u_4n u_4c, .slice u_5p u_5n u_5c, .slice u_6p u_6n u_6c]] h A := fwk_neat (show ftree ({ P := Tryz.prog, priv := [1], loops := [], joins := [{ id := 3, slots := [(2, .int .i64)], ro := [1], outs := [] }] }) Tryz.f34 [.agg #[.int .i64 u_0, .int .i64 u_1, .int .i64 u_2, .int .i64 u_3, .slice u_4p u_4n u_4c, .slice u_5p u_5n u_5c, .slice u_6p u_6n u_6c]] = n27 u_0 u_1 u_2 u_3 u_4p u_4n u_4c u_5p u_5n u_5c u_6p u_6n u_6c by kernel_rfl) (by simp) (by kernel_rfl) (by kernel_rfl) hX hw
noncomputable def n36 (u_0 u_1 u_2 u_3 : Int) (u_4p : Option Addr) (u_4n u_4c : Nat) (u_5p : Option Addr) (u_5n u_5c : Nat) (u_6p : Option Addr) (u_6n u_6c : Nat) : T := .call false 49 #[.agg #[.int .i64 u_0, .int .i64 u_1, .int .i64 u_2, .int .i64 u_3, .slice u_4p u_4n u_4c, .slice u_5p u_5n u_5c, .slice u_6p u_6n u_6c]] fun v => .unB v fun b => bif !b then .call false 34 #[.agg #[.int .i64 u_0, .int .i64 u_1, .int .i64 u_2, .int .i64 u_3, .slice u_4p u_4n u_4c, .slice u_5p u_5n u_5c, .slice u_6p u_6n u_6c]] fun v => .unI .i64 v fun n => .leaf (.ret (.bool (n == 0))) else .leaf (.ret (.bool false))
theorem w36 (u_0 u_1 u_2 u_3 : Int) (u_4p : Option Addr) (u_4n u_4c : Nat) (u_5p : Option Addr) (u_5n u_5c : Nat) (u_6p : Option Addr) (u_6n u_6c : Nat) (hX : XOK X) (hw : (n36 u_0 u_1 u_2 u_3 u_4p u_4n u_4c u_5p u_5n u_5c u_6p u_6n u_6c).wp X Tryz.prog (retQ A) h) : FWK X Tryz.prog .normal 11 #[.agg #[.int .i64 u_0, .int .i64 u_1, .int .i64 u_2, .int .i64 u_3, .slice u_4p u_4n u_4c, .slice u_5p u_5n u_5c, .slice u_6p u_6n u_6c]] h A := fwk_neat (show ftree ({ P := Tryz.prog, priv := [1], loops := [], joins := [] }) Tryz.f11 [.agg #[.int .i64 u_0, .int .i64 u_1, .int .i64 u_2, .int .i64 u_3, .slice u_4p u_4n u_4c, .slice u_5p u_5n u_5c, .slice u_6p u_6n u_6c]] = n36 u_0 u_1 u_2 u_3 u_4p u_4n u_4c u_5p u_5n u_5c u_6p u_6n u_6c by kernel_rfl) (by simp) (by kernel_rfl) (by kernel_rfl) hX hw
noncomputable def n37 (n : Int) : T := .need ((2001 : Int) ≠ 0) (.leaf (.ret (.int .i64 (Int.tmod (IntKind.wrap .i64 n) 2001))))
theorem w37 (n : Int) (hX : XOK X) (hw : (n37 n).wp X Tryz.prog (retQ A) h) : FWK X Tryz.prog .normal 14 #[.int .u16 n] h A := fwk_neat (show ftree ({ P := Tryz.prog, priv := [], loops := [], joins := [] }) Tryz.f14 [.int .u16 n] = n37 n by kernel_rfl) (by simp) (by kernel_rfl) (by kernel_rfl) hX hw
noncomputable def n56 (n : Int) : T := .call false 96 #[.int .i64 n, .int .i64 0, .int .i64 2000] fun v => .unB v fun b => .leaf (.ret (.bool b))
theorem w56 (n : Int) (hX : XOK X) (hw : (n56 n).wp X Tryz.prog (retQ A) h) : FWK X Tryz.prog .normal 97 #[.int .i64 n] h A := fwk_neat (show ftree ({ P := Tryz.prog, priv := [], loops := [], joins := [] }) Tryz.f97 [.int .i64 n] = n56 n by kernel_rfl) (by simp) (by kernel_rfl) (by kernel_rfl) hX hw
noncomputable def n66 (lp : Option Addr) (ln lc : Nat) : T := bif decide ((↑ln : Int) > 4) then .leaf (.ret (.int .i64 2)) else .loop [.int .i64 0, .int .i64 0] (fun vs => .popI .i64 vs fun n vs => .popI .i64 vs fun n_1 vs => .unNil vs (bif decide (n_1 < (↑ln : Int)) then .need (0 ≤ n_1 ∧ n_1 < (↑ln : Int)) (.someA lp fun a => .loadI .i64 ((a.add (n_1.toNat * 2)).add 0) fun n_2 => .loadI .i64 ((a.add (n_1.toNat * 2)).add 1) fun n_3 => .call false 150 #[.agg #[.int .i64 n_2, .int .i64 n_3], .int .i64 0, .int .i64 2000] fun v => .unB v fun b => bif !b then .leaf (.retn [.int .i64 1, .int .i64 n_1]) else .leaf (.again [.int .i64 n, .int .i64 (IntKind.wrap .i64 (n_1 + 1))])) else .leaf (.brk [.int .i64 n, .int .i64 n_1]))) (fun vs => .popI .i64 vs fun n vs => .popI .i64 vs fun n vs => .unNil vs (.leaf (.ret (.int .i64 0)))) (fun vs => .popI .i64 vs fun n vs => .popI .i64 vs fun n_1 vs => .unNil vs (.leaf (.ret (.int .i64 n)))) fun x x_1 => .fail
theorem w66 (lp : Option Addr) (ln lc : Nat) (hX : XOK X) (hw : (n66 lp ln lc).wp X Tryz.prog (retQ A) h) : FWK X Tryz.prog .normal 98 #[.slice lp ln lc] h A := fwk_neat (show ftree ({ P := Tryz.prog, priv := [], loops := [{ id := 0, slots := [(2, .int .i64), (3, .int .i64)], ro := [], outs := [] }], joins := [] }) Tryz.f98 [.slice lp ln lc] = n66 lp ln lc by kernel_rfl) (by simp) (by kernel_rfl) (by kernel_rfl) hX hw
noncomputable def n67 (u_0 u_1 u_2 u_3 : Int) (u_4p : Option Addr) (u_4n u_4c : Nat) (u_5p : Option Addr) (u_5n u_5c : Nat) (u_6p : Option Addr) (u_6n u_6c : Nat) : T := bif decide ((↑u_5n : Int) > 8) then .leaf (.ret (.int .i64 2)) else .loop [.int .i64 0, .int .i64 0] (fun vs => .popI .i64 vs fun n vs => .popI .i64 vs fun n_1 vs => .unNil vs (bif decide (n_1 < (↑u_5n : Int)) then .need (0 ≤ n_1 ∧ n_1 < (↑u_5n : Int)) (.someA u_5p fun a => .loadI .i64 ((a.add (n_1.toNat * 4)).add 0) fun n_2 => .loadI .i64 ((a.add (n_1.toNat * 4)).add 1) fun n_3 => .loadI .i64 ((a.add (n_1.toNat * 4)).add 2) fun n_4 => .loadS ((a.add (n_1.toNat * 4)).add 3) fun p n_5 c => .call false 150 #[.agg #[.int .i64 n_2, .int .i64 n_3], .int .i64 0, .int .i64 2000] fun v => .unB v fun b => bif !b then .leaf (.retn [.int .i64 1, .int .i64 n_1]) else .call false 96 #[.int .i64 n_4, .int .i64 0, .int .i64 (IntKind.wrap .i64 (u_1 - 1))] fun v => .unB v fun b => bif !b then .leaf (.retn [.int .i64 6, .int .i64 n_1]) else .call false 151 #[.slice p n_5 c, .int .i64 u_0] fun v => .unI .i64 v fun n_6 => bif n_6 != 0 then .leaf (.retn [.int .i64 n_6, .int .i64 n_1]) else .leaf (.again [.int .i64 n, .int .i64 (IntKind.wrap .i64 (n_1 + 1))])) else .leaf (.brk [.int .i64 n, .int .i64 n_1]))) (fun vs => .popI .i64 vs fun n vs => .popI .i64 vs fun n vs => .unNil vs (.leaf (.ret (.int .i64 0)))) (fun vs => .popI .i64 vs fun n vs => .popI .i64 vs fun n_1 vs => .unNil vs (.leaf (.ret (.int .i64 n)))) fun x x_1 => .fail
theorem w67 (u_0 u_1 u_2 u_3 : Int) (u_4p : Option Addr) (u_4n u_4c : Nat) (u_5p : Option Addr) (u_5n u_5c : Nat) (u_6p : Option Addr) (u_6n u_6c : Nat) (hX : XOK X) (hw : (n67 u_0 u_1 u_2 u_3 u_4p u_4n u_4c u_5p u_5n u_5c u_6p u_6n u_6c).wp X Tryz.prog (retQ A) h) : FWK X Tryz.prog .normal 99 #[.agg #[.int .i64 u_0, .int .i64 u_1, .int .i64 u_2, .int .i64 u_3, .slice u_4p u_4n u_4c, .slice u_5p u_5n u_5c, .slice u_6p u_6n u_6c]] h A := fwk_neat (show ftree ({ P := Tryz.prog, priv := [1, 4], loops := [{ id := 0, slots := [(2, .int .i64), (3, .int .i64)], ro := [1], outs := [] }], joins := [] }) Tryz.f99 [.agg #[.int .i64 u_0, .int .i64 u_1, .int .i64 u_2, .int .i64 u_3, .slice u_4p u_4n u_4c, .slice u_5p u_5n u_5c, .slice u_6p u_6n u_6c]] = n67 u_0 u_1 u_2 u_3 u_4p u_4n u_4c u_5p u_5n u_5c u_6p u_6n u_6c by kernel_rfl) (by simp) (by kernel_rfl) (by kernel_rfl) hX hw
noncomputable def n68 (u_0 u_1 u_2 u_3 : Int) (u_4p : Option Addr) (u_4n u_4c : Nat) (u_5p : Option Addr) (u_5n u_5c : Nat) (u_6p : Option Addr) (u_6n u_6c : Nat) : T := bif decide ((↑u_6n : Int) > 4) then .leaf (.ret (.int .i64 2)) else .loop [.int .i64 0, .int .i64 0] (fun vs => .popI .i64 vs fun n vs => .popI .i64 vs fun n_1 vs => .unNil vs (bif decide (n_1 < (↑u_6n : Int)) then .need (0 ≤ n_1 ∧ n_1 < (↑u_6n : Int)) (.someA u_6p fun a => .loadI .i64 ((a.add (n_1.toNat * 3)).add 0) fun n_2 => .loadI .i64 ((a.add (n_1.toNat * 3)).add 1) fun n_3 => .loadS ((a.add (n_1.toNat * 3)).add 2) fun p n_4 c => .call false 97 #[.int .i64 n_2] fun v => .unB v fun b => bif !b then .leaf (.retn [.int .i64 1, .int .i64 n_1]) else .blk (bif decide (n_2 < u_2) then .nd (.bool (decide (n_2 < u_2))) (.nd (.int .i64 u_2) (.need (AV.pp 1 2 = AV.pp 1 2) (.nd (.int .i64 n_2) (.need (AV.pp 4 0 = AV.pp 4 0) (.nd (.tuple #[]) (.nd (.tuple #[]) (.nd (.tuple #[]) (.nd (.tuple #[]) (.nd (.bool (decide (n_2 < u_2))) (.nd (.int .i64 u_2) (.need (AV.pp 1 2 = AV.pp 1 2) (.nd (.int .i64 n_2) (.need (AV.pp 4 0 = AV.pp 4 0) (.nd (.tuple #[]) (.nd (.tuple #[]) (.nd (.tuple #[]) (.nd (.tuple #[]) (.nd (.tuple #[]) (.nd (.bool (decide (n_2 < u_2))) (.nd (.int .i64 u_2) (.need (AV.pp 1 2 = AV.pp 1 2) (.nd (.int .i64 n_2) (.need (AV.pp 4 0 = AV.pp 4 0) (.leaf (.retn [.int .i64 7]))))))))))))))))))))))))) else bif decide (n_1 > 0) then .need (0 ≤ IntKind.wrap .i64 (n_1 - 1) ∧ IntKind.wrap .i64 (n_1 - 1) < (↑u_6n : Int)) (.someA u_6p fun a => .loadI .i64 ((a.add ((IntKind.wrap .i64 (n_1 - 1)).toNat * 3)).add 0) fun n_5 => bif decide (n_2 < n_5) then .leaf (.retn [.int .i64 7]) else .leaf (.again [.int .i64 n])) else .nd (.tuple #[]) (.nd (.tuple #[]) (.nd (.tuple #[]) (.nd (.tuple #[]) (.nd (.bool (decide (n_1 > 0))) (.nd (.int .i64 n_1) (.need (AV.val (.bool (decide (n_2 < u_2))) = AV.val (.bool false)) (.nd (.bool (decide (n_2 < u_2))) (.nd (.int .i64 u_2) (.need (AV.pp 1 2 = AV.pp 1 2) (.nd (.int .i64 n_2) (.need (AV.pp 4 0 = AV.pp 4 0) (.nd (.tuple #[]) (.nd (.tuple #[]) (.nd (.tuple #[]) (.nd (.tuple #[]) (.nd (.tuple #[]) (.nd (.bool (decide (n_1 > 0))) (.nd (.int .i64 n_1) (.need (AV.val (.bool (decide (n_2 < u_2))) = AV.val (.bool false)) (.nd (.bool (decide (n_2 < u_2))) (.nd (.int .i64 u_2) (.need (AV.pp 1 2 = AV.pp 1 2) (.nd (.int .i64 n_2) (.need (AV.pp 4 0 = AV.pp 4 0) (.leaf (.again [.int .i64 n]))))))))))))))))))))))))))) (fun vs => .popI .i64 vs fun n vs => .unNil vs (.call false 96 #[.int .i64 n_3, .int .i64 0, .int .i64 (IntKind.wrap .i64 (u_1 - 1))] fun v => .unB v fun b => bif !b then .leaf (.retn [.int .i64 6, .int .i64 n_1]) else .call false 151 #[.slice p n_4 c, .int .i64 u_0] fun v => .unI .i64 v fun n_5 => bif n_5 != 0 then .leaf (.retn [.int .i64 n_5, .int .i64 n_1]) else .leaf (.again [.int .i64 n, .int .i64 (IntKind.wrap .i64 (n_1 + 1))]))) (fun vs => .popI .i64 vs fun n vs => .unNil vs (.leaf (.retn [.int .i64 n, .int .i64 n_1]))) fun x x_1 => .fail) else .leaf (.brk [.int .i64 n, .int .i64 n_1]))) (fun vs => .popI .i64 vs fun n vs => .popI .i64 vs fun n vs => .unNil vs (.leaf (.ret (.int .i64 0)))) (fun vs => .popI .i64 vs fun n vs => .popI .i64 vs fun n_1 vs => .unNil vs (.leaf (.ret (.int .i64 n)))) fun x x_1 => .fail
theorem w68 (u_0 u_1 u_2 u_3 : Int) (u_4p : Option Addr) (u_4n u_4c : Nat) (u_5p : Option Addr) (u_5n u_5c : Nat) (u_6p : Option Addr) (u_6n u_6c : Nat) (hX : XOK X) (hw : (n68 u_0 u_1 u_2 u_3 u_4p u_4n u_4c u_5p u_5n u_5c u_6p u_6n u_6c).wp X Tryz.prog (retQ A) h) : FWK X Tryz.prog .normal 100 #[.agg #[.int .i64 u_0, .int .i64 u_1, .int .i64 u_2, .int .i64 u_3, .slice u_4p u_4n u_4c, .slice u_5p u_5n u_5c, .slice u_6p u_6n u_6c]] h A := fwk_neat (show ftree ({ P := Tryz.prog, priv := [1, 4], loops := [{ id := 0, slots := [(2, .int .i64), (3, .int .i64)], ro := [1], outs := [] }], joins := [{ id := 11, slots := [(2, .int .i64)], ro := [1, 4], outs := [] }] }) Tryz.f100 [.agg #[.int .i64 u_0, .int .i64 u_1, .int .i64 u_2, .int .i64 u_3, .slice u_4p u_4n u_4c, .slice u_5p u_5n u_5c, .slice u_6p u_6n u_6c]] = n68 u_0 u_1 u_2 u_3 u_4p u_4n u_4c u_5p u_5n u_5c u_6p u_6n u_6c by kernel_rfl) (by simp) (by kernel_rfl) (by kernel_rfl) hX hw
noncomputable def n72 (lp : Option Addr) (ln lc : Nat) (below : Int) : T := .loop [.int .i64 0, .int .i64 0] (fun vs => .popI .i64 vs fun n vs => .popI .i64 vs fun n_1 vs => .unNil vs (bif decide (n_1 < (↑ln : Int)) then .need (0 ≤ n_1 ∧ n_1 < (↑ln : Int)) (.someA lp fun a => .loadI .i64 (a.add (n_1.toNat * 1)) fun n_2 => .call false 96 #[.int .i64 n_2, .int .i64 0, .int .i64 (IntKind.wrap .i64 (below - 1))] fun v => .unB v fun b => bif !b then .leaf (.retn [.int .i64 6, .int .i64 n_1]) else bif decide (n_1 > 0) then .need (0 ≤ n_1 ∧ n_1 < (↑ln : Int)) (.someA lp fun a => .loadI .i64 (a.add (n_1.toNat * 1)) fun n_3 => .need (0 ≤ IntKind.wrap .i64 (n_1 - 1) ∧ IntKind.wrap .i64 (n_1 - 1) < (↑ln : Int)) (.someA lp fun a => .loadI .i64 (a.add ((IntKind.wrap .i64 (n_1 - 1)).toNat * 1)) fun n_4 => bif decide (n_3 ≤ n_4) then .leaf (.retn [.int .i64 7, .int .i64 n_1]) else .leaf (.again [.int .i64 n, .int .i64 (IntKind.wrap .i64 (n_1 + 1))]))) else .nd (.tuple #[]) (.nd (.tuple #[]) (.nd (.tuple #[]) (.nd (.tuple #[]) (.nd (.tuple #[]) (.nd (.bool (decide (n_1 > 0))) (.nd (.int .i64 n_1) (.nd (.tuple #[]) (.nd (.tuple #[]) (.nd (.tuple #[]) (.nd (.tuple #[]) (.nd (.tuple #[]) (.nd (.bool (decide (n_1 > 0))) (.nd (.int .i64 n_1) (.leaf (.again [.int .i64 n, .int .i64 (IntKind.wrap .i64 (n_1 + 1))])))))))))))))))) else .leaf (.brk [.int .i64 n, .int .i64 n_1]))) (fun vs => .popI .i64 vs fun n vs => .popI .i64 vs fun n vs => .unNil vs (.leaf (.ret (.int .i64 0)))) (fun vs => .popI .i64 vs fun n vs => .popI .i64 vs fun n_1 vs => .unNil vs (.leaf (.ret (.int .i64 n)))) fun x x_1 => .fail
theorem w72 (lp : Option Addr) (ln lc : Nat) (below : Int) (hX : XOK X) (hw : (n72 lp ln lc below).wp X Tryz.prog (retQ A) h) : FWK X Tryz.prog .normal 151 #[.slice lp ln lc, .int .i64 below] h A := fwk_neat (show ftree ({ P := Tryz.prog, priv := [], loops := [{ id := 0, slots := [(4, .int .i64), (5, .int .i64)], ro := [], outs := [] }], joins := [] }) Tryz.f151 [.slice lp ln lc, .int .i64 below] = n72 lp ln lc below by kernel_rfl) (by simp) (by kernel_rfl) (by kernel_rfl) hX hw
noncomputable def n93 (x_0 x_1 first last : Int) : T := bif decide (first ≤ x_0) then bif decide (x_0 ≤ x_1) then .leaf (.ret (.bool (decide (x_1 ≤ last)))) else .leaf (.ret (.bool false)) else .leaf (.ret (.bool false))
theorem w93 (x_0 x_1 first last : Int) (hX : XOK X) (hw : (n93 x_0 x_1 first last).wp X Tryz.prog (retQ A) h) : FWK X Tryz.prog .normal 150 #[.agg #[.int .i64 x_0, .int .i64 x_1], .int .i64 first, .int .i64 last] h A := fwk_neat (show ftree ({ P := Tryz.prog, priv := [3], loops := [], joins := [] }) Tryz.f150 [.agg #[.int .i64 x_0, .int .i64 x_1], .int .i64 first, .int .i64 last] = n93 x_0 x_1 first last by kernel_rfl) (by simp) (by kernel_rfl) (by kernel_rfl) hX hw
end Go.Proofs.YtldamlcehbdkdaaGreatDoor
end
section
namespace Go.Proofs.YtldamlcehbdkdaaGreatDoor
open Go Go.TM Go.Proofs
attribute [local irreducible] T.wp CV FWK
theorem c49 {h : LH} (n a b : Int) : Pu Tryz.prog 96 #[.int .i64 n, .int .i64 a, .int .i64 b] h (.bool (isIn n a b)) := by
 refine w49 _ _ _ X0_ok ?_
 unfold n49
 refine t_if (fun e => ?_) (fun e => ?_) <;> refine t_ret ⟨?_, rfl⟩ <;> simp [isIn, e]
theorem c56 {h : LH} (n : Int) : Pu Tryz.prog 97 #[.int .i64 n] h (.bool (isDay n)) := by
 refine w56 _ X0_ok ?_
 unfold n56
 refine t_pu (c49 _ _ _) ?_
 refine gZ ?_
 exact t_ret ⟨rfl, rfl⟩
theorem c93 {h : LH} (a b x y : Int) : Pu Tryz.prog 150 #[.agg #[.int .i64 a, .int .i64 b], .int .i64 x, .int .i64 y] h (.bool (decide (x ≤ a) && (decide (a ≤ b) && decide (b ≤ y)))) := by
 refine w93 _ _ _ _ X0_ok ?_
 unfold n93
 refine t_if (fun e => ?_) (fun e => ?_)
 ·refine t_if (fun e' => ?_) (fun e' => ?_) <;> refine t_ret ⟨?_, rfl⟩ <;> simp [e, e']
 ·refine t_ret ⟨?_, rfl⟩; simp [e]
theorem inside_span (x : Span) : (decide ((0 : Int) ≤ x.first) && (decide (x.first ≤ x.last) && decide (x.last ≤ 2000))) = isSpan x := by
 unfold isSpan isDay isIn
 rw [Bool.eq_iff_iff]
 simp only [Bool.and_eq_true, decide_eq_true_eq]
 omega
theorem c72 {h : LH} {below : Int} {p : Option Addr} {n c : Nat} {l : List Int} (hl : Sl IntE 1 h.get p n l) (hb : IsI (below - 1)) : Pu Tryz.prog 151 #[.slice p n c, .int .i64 below] h (.int .i64 (risesF l below)) := by
 refine w72 _ _ _ _ X0_ok ?_
 unfold n72
 have hn := hl.1
 have hbn := hl.2.1
 have hw : IntKind.wrap .i64 (below - 1) = below - 1 := wrap_id hb.1 hb.2
 refine t_loop (fun mm vs h' => h = h' ∧ ∃ i : Nat, vs = [.int .i64 0, .int .i64 i] ∧ i ≤ n ∧ mm = n - i ∧ risesF l below = firstF (riseF l below) i (l.drop i)) ⟨rfl, 0, rfl, Nat.zero_le _, rfl, rfl⟩ ?_
 rintro Y mm vs _ hY ⟨rfl, i, rfl, hi, rfl, hc⟩
 refine gZ ?_
 refine t_if (fun e => ?_) (fun e => ?_)
 ·obtain ⟨x, a, hx, ha, e1⟩ := hl.at (i := i) (by omega)
  unfold IntE at e1
  rw [drop_of hx, firstF] at hc
  refine gZ ?_
  refine t_pu (c49 _ _ _) ?_
  refine gZ ?_
  rw [hw]
  have next : riseF l below i x = 0 → Y [.int .i64 0, .int .i64 (IntKind.wrap .i64 ((i : Int) + 1))] h := by
   intro hz
   rw [if_neg (by simp [hz])] at hc
   refine hY (n - (i + 1)) _ _ (by omega) ⟨rfl, i + 1, ?_, by omega, rfl, hc⟩
   rw [wrap_id (by omega) (by omega)]; rfl
  have stop : ∀ z : Int, z ≠ 0 → riseF l below i x = z → risesF l below = z := by
   intro z hz hr
   rw [if_pos (by rw [hr]; exact hz), hr] at hc; exact hc
  refine t_cond (fun b => ?_) (fun b => ?_)
  ·refine gZ ?_
   have b' : isIn x 0 (below - 1) = false := by simpa using b
   exact t_ret ⟨by rw [stop 6 (by omega) (by rw [riseF, if_pos b'])], rfl⟩
  ·have b' : ¬ isIn x 0 (below - 1) = false := by simp at b; simp [b]
   refine t_if (fun e2 => ?_) (fun e2 => ?_)
   ·obtain ⟨y, a2, hy, ha2, e3⟩ := hl.at (i := i - 1) (by omega)
    unfold IntE at e3
    rw [ha] at ha2; cases ha2
    have hwi : IntKind.wrap .i64 ((i : Int) - 1) = ((i - 1 : Nat) : Int) := by rw [wrap_id (by omega) (by omega)]; omega
    have hg : l.getD (i - 1) 0 = y := by simp [List.getD, hy]
    rw [hwi]
    refine gZ ?_
    refine t_if (fun e4 => ?_) (fun e4 => ?_)
    ·refine gZ ?_
     exact t_ret ⟨by rw [stop 7 (by omega) (by rw [riseF, if_neg b', if_pos ⟨by omega, by rw [hg]; exact e4⟩])], rfl⟩
    ·exact t_again (next (by rw [riseF, if_neg b', if_neg (by rw [hg]; omega)]))
   ·refine gZ ?_
    exact t_again (next (by rw [riseF, if_neg b', if_neg (by omega)]))
 ·refine gZ ?_
  rw [List.drop_eq_nil_of_le (by omega)] at hc
  exact t_ret ⟨by rw [hc]; rfl, rfl⟩
theorem c66 {h : LH} {p : Option Addr} {n c : Nat} {l : List Span} (hl : Sl SpanE 2 h.get p n l) : Pu Tryz.prog 98 #[.slice p n c] h (.int .i64 (eachF 4 (fun _ x => if isSpan x then 0 else 1) l)) := by
 refine w66 _ _ _ X0_ok ?_
 unfold n66
 have hn := hl.1
 have hbn := hl.2.1
 refine t_if (fun e => ?_) (fun e => ?_)
 ·exact t_ret ⟨by rw [eachF, if_pos (by omega)], rfl⟩
 have he : eachF 4 (fun _ x => if isSpan x then 0 else 1) l = firstF (fun _ x => if isSpan x then 0 else 1) 0 l := by rw [eachF, if_neg (by omega)]
 refine t_loop (fun mm vs h' => h = h' ∧ ∃ i : Nat, vs = [.int .i64 0, .int .i64 i] ∧ i ≤ n ∧ mm = n - i ∧ eachF 4 (fun _ x => if isSpan x then 0 else 1) l = firstF (fun _ x => if isSpan x then 0 else 1) i (l.drop i)) ⟨rfl, 0, rfl, Nat.zero_le _, rfl, he⟩ ?_
 rintro Y mm vs _ hY ⟨rfl, i, rfl, hi, rfl, hc⟩
 refine gZ ?_
 refine t_if (fun e => ?_) (fun e => ?_)
 ·obtain ⟨x, a, hx, ha, e1, e2⟩ := hl.at (i := i) (by omega)
  rw [drop_of hx, firstF] at hc
  refine gZ ?_
  refine t_pu (c93 _ _ _ _) ?_
  rw [inside_span]
  refine gZ ?_
  refine t_cond (fun b => ?_) (fun b => ?_)
  ·refine gZ ?_
   have b' : isSpan x = false := by simpa using b
   rw [b'] at hc
   exact t_ret ⟨by rw [hc]; rfl, rfl⟩
  ·have b' : isSpan x = true := by simpa using b
   rw [b'] at hc
   refine t_again (hY (n - (i + 1)) _ _ (by omega) ⟨rfl, i + 1, ?_, by omega, rfl, by simpa using hc⟩)
   rw [wrap_id (by omega) (by omega)]; rfl
 ·refine gZ ?_
  rw [List.drop_eq_nil_of_le (by omega)] at hc
  exact t_ret ⟨by rw [hc]; rfl, rfl⟩
theorem c67 {h : LH} {f : FileC} {u : UseFile} (hu : FileR h.get f u) (hnum : numbersF u = 0) : Pu Tryz.prog 99 #[fileV f u] h (.int .i64 (papersF u)) := by
 refine w67 _ _ _ _ _ _ _ _ _ _ _ _ _ X0_ok ?_
 unfold n67
 have hp := hu.papers
 have hn := hp.1
 have hbn := hp.2.1
 have hw : IntKind.wrap .i64 (u.lands - 1) = u.lands - 1 := wrap_id (num_lands hnum).1 (num_lands hnum).2
 refine t_if (fun e => ?_) (fun e => ?_)
 ·exact t_ret ⟨by rw [papersF, eachF, if_pos (by omega)], rfl⟩
 have he : papersF u = firstF (fun _ p => paperF u p) 0 u.papers := by rw [papersF, eachF, if_neg (by omega)]
 refine t_loop (fun mm vs h' => h = h' ∧ ∃ i : Nat, vs = [.int .i64 0, .int .i64 i] ∧ i ≤ f.n5 ∧ mm = f.n5 - i ∧ papersF u = firstF (fun _ p => paperF u p) i (u.papers.drop i)) ⟨rfl, 0, rfl, Nat.zero_le _, rfl, he⟩ ?_
 rintro Y mm vs _ hY ⟨rfl, i, rfl, hi, rfl, hc⟩
 refine gZ ?_
 refine t_if (fun e => ?_) (fun e => ?_)
 ·obtain ⟨x, a, hx, ha, e1, e2, e3, q, m, c, e4, e5⟩ := hp.at (i := i) (by omega)
  rw [drop_of hx, firstF] at hc
  refine gZ ?_
  have next : paperF u x = 0 → Y [.int .i64 0, .int .i64 (IntKind.wrap .i64 ((i : Int) + 1))] h := by
   intro hz
   rw [if_neg (by simp [hz])] at hc
   refine hY (f.n5 - (i + 1)) _ _ (by omega) ⟨rfl, i + 1, ?_, by omega, rfl, hc⟩
   rw [wrap_id (by omega) (by omega)]; rfl
  have stop : ∀ z : Int, z ≠ 0 → paperF u x = z → papersF u = z := by
   intro z hz hr
   rw [if_pos (by rw [hr]; exact hz), hr] at hc; exact hc
  refine t_pu (c93 _ _ _ _) ?_
  rw [inside_span x.days]
  refine gZ ?_
  refine t_cond (fun b => ?_) (fun b => ?_)
  ·refine gZ ?_
   have b' : isSpan x.days = false := by simpa using b
   exact t_ret ⟨by rw [stop 1 (by omega) (by rw [paperF, if_pos b'])], rfl⟩
  have b1 : ¬ isSpan x.days = false := by simp at b; simp [b]
  refine t_pu (c49 _ _ _) ?_
  rw [hw]
  refine gZ ?_
  refine t_cond (fun b => ?_) (fun b => ?_)
  ·refine gZ ?_
   have b' : isIn x.land 0 (u.lands - 1) = false := by simpa using b
   exact t_ret ⟨by rw [stop 6 (by omega) (by rw [paperF, if_neg b1, if_pos b'])], rfl⟩
  have b2 : ¬ isIn x.land 0 (u.lands - 1) = false := by simp at b; simp [b]
  refine t_pu (c72 e5 (num_items hnum)) ?_
  refine gZ ?_
  have hr : paperF u x = risesF x.items u.items := by rw [paperF, if_neg b1, if_neg b2]
  refine t_cond (fun b => ?_) (fun b => ?_)
  ·refine gZ ?_
   exact t_ret ⟨by rw [stop _ (by simpa using b) hr], rfl⟩
  ·exact t_again (next (by rw [hr]; simpa using b))
 ·refine gZ ?_
  rw [List.drop_eq_nil_of_le (by omega)] at hc
  exact t_ret ⟨by rw [hc]; rfl, rfl⟩
def lateB (u : UseFile) (i : Nat) (x : Request) : Bool := decide (x.day < u.from_) || (decide (0 < i) && (match u.requests[i - 1]? with | some q => decide (x.day < q.day) | none => false))
theorem requestF_eq (u : UseFile) (i : Nat) (x : Request) : requestF u i x = if isDay x.day = false then 1 else if lateB u i x = true then 7 else if isIn x.land 0 (u.lands - 1) = false then 6 else risesF x.items u.items := rfl
theorem lateB_prev {u : UseFile} {i : Nat} {x y : Request} (hy : u.requests[i - 1]? = some y) : lateB u i x = (decide (x.day < u.from_) || (decide (0 < i) && decide (x.day < y.day))) := by
 unfold lateB; rw [hy]
theorem c68 {h : LH} {f : FileC} {u : UseFile} (hu : FileR h.get f u) (hnum : numbersF u = 0) : Pu Tryz.prog 100 #[fileV f u] h (.int .i64 (requestsF u)) := by
 refine w68 _ _ _ _ _ _ _ _ _ _ _ _ _ X0_ok ?_
 unfold n68
 have hp := hu.requests
 have hn := hp.1
 have hbn := hp.2.1
 have hw : IntKind.wrap .i64 (u.lands - 1) = u.lands - 1 := wrap_id (num_lands hnum).1 (num_lands hnum).2
 refine t_if (fun e => ?_) (fun e => ?_)
 ·exact t_ret ⟨by rw [requestsF, eachF, if_pos (by omega)], rfl⟩
 have he : requestsF u = firstF (requestF u) 0 u.requests := by rw [requestsF, eachF, if_neg (by omega)]
 refine t_loop (fun mm vs h' => h = h' ∧ ∃ i : Nat, vs = [.int .i64 0, .int .i64 i] ∧ i ≤ f.n6 ∧ mm = f.n6 - i ∧ requestsF u = firstF (requestF u) i (u.requests.drop i)) ⟨rfl, 0, rfl, Nat.zero_le _, rfl, he⟩ ?_
 rintro Y mm vs _ hY ⟨rfl, i, rfl, hi, rfl, hc⟩
 refine gZ ?_
 refine t_if (fun e => ?_) (fun e => ?_)
 ·obtain ⟨x, a, hx, ha, e1, e2, q, m, c, e4, e5⟩ := hp.at (i := i) (by omega)
  rw [drop_of hx, firstF] at hc
  refine gZ ?_
  have next : requestF u i x = 0 → Y [.int .i64 0, .int .i64 (IntKind.wrap .i64 ((i : Int) + 1))] h := by
   intro hz
   rw [if_neg (by simp [hz])] at hc
   refine hY (f.n6 - (i + 1)) _ _ (by omega) ⟨rfl, i + 1, ?_, by omega, rfl, hc⟩
   rw [wrap_id (by omega) (by omega)]; rfl
  have stop : ∀ z : Int, z ≠ 0 → requestF u i x = z → requestsF u = z := by
   intro z hz hr
   rw [if_pos (by rw [hr]; exact hz), hr] at hc; exact hc
  refine t_pu (c56 _) ?_
  refine gZ ?_
  refine t_cond (fun b => ?_) (fun b => ?_)
  ·refine gZ ?_
   have b' : isDay x.day = false := by simpa using b
   exact t_ret ⟨by rw [stop 1 (by omega) (by rw [requestF_eq, if_pos b'])], rfl⟩
  have b1 : ¬ isDay x.day = false := by simp at b; simp [b]
  refine t_blk (fun vs h' => vs = [.int .i64 0] ∧ h = h' ∧ lateB u i x = false) ?_ ?_
  ·refine t_if (fun e3 => ?_) (fun e3 => ?_)
   ·refine gZ ?_
    exact t_ret ⟨by rw [stop 7 (by omega) (by rw [requestF_eq, if_neg b1, if_pos (by simp [lateB, e3])])], rfl⟩
   ·refine t_if (fun e6 => ?_) (fun e6 => ?_)
    ·obtain ⟨y, a2, hy, ha2, f1, f2, _⟩ := hp.at (i := i - 1) (by omega)
     have hwi : IntKind.wrap .i64 ((i : Int) - 1) = ((i - 1 : Nat) : Int) := by rw [wrap_id (by omega) (by omega)]; omega
     rw [hwi]
     refine gZ ?_
     refine t_if (fun e7 => ?_) (fun e7 => ?_)
     ·refine gZ ?_
      exact t_ret ⟨by rw [stop 7 (by omega) (by rw [requestF_eq, if_neg b1, if_pos (by rw [lateB_prev hy]; simp [e7]; omega)])], rfl⟩
     ·refine t_again ⟨rfl, rfl, ?_⟩
      rw [lateB_prev hy]; simp; omega
    ·have e3' : decide (x.day < u.from_) = false := by simpa using e3
     have e3'' : AV.val (.bool (decide (x.day < u.from_))) = AV.val (.bool false) := by rw [e3']
     refine gZ ?_
     refine t_again ⟨rfl, rfl, ?_⟩
     have hi0 : i = 0 := by omega
     subst hi0
     unfold lateB; rw [e3']; rfl
  rintro vs _ ⟨rfl, rfl, hq⟩
  refine gZ ?_
  refine t_pu (c49 _ _ _) ?_
  rw [hw]
  refine gZ ?_
  refine t_cond (fun b => ?_) (fun b => ?_)
  ·refine gZ ?_
   have b' : isIn x.land 0 (u.lands - 1) = false := by simpa using b
   exact t_ret ⟨by rw [stop 6 (by omega) (by rw [requestF_eq, if_neg b1, hq, if_neg (by simp), if_pos b'])], rfl⟩
  have b2 : ¬ isIn x.land 0 (u.lands - 1) = false := by simp at b; simp [b]
  refine t_pu (c72 e5 (num_items hnum)) ?_
  refine gZ ?_
  have hr : requestF u i x = risesF x.items u.items := by rw [requestF_eq, if_neg b1, hq, if_neg (by simp), if_neg b2]
  refine t_cond (fun b => ?_) (fun b => ?_)
  ·refine gZ ?_
   exact t_ret ⟨by rw [stop _ (by simpa using b) hr], rfl⟩
  ·exact t_again (next (by rw [hr]; simpa using b))
 ·refine gZ ?_
  rw [List.drop_eq_nil_of_le (by omega)] at hc
  exact t_ret ⟨by rw [hc]; rfl, rfl⟩
theorem c27 {h : LH} {f : FileC} {u : UseFile} (hu : FileR h.get f u) : Pu Tryz.prog 34 #[fileV f u] h (.int .i64 (checkF u)) := by
 refine w27 _ _ _ _ _ _ _ _ _ _ _ _ _ X0_ok ?_
 unfold n27
 have bad : numbersF u ≠ 0 → checkF u = 1 := by
  intro hz
  have : numbersF u = 1 := by unfold numbersF at hz ⊢; split at hz <;> simp_all
  unfold checkF firstF
  rw [if_pos hz, this]
 refine t_blk (fun vs h' => vs = [.int .i64 0] ∧ h = h' ∧ numbersF u = 0) ?_ ?_
 ·refine t_pu (c49 _ _ _) ?_
  refine gZ ?_
  refine t_cond (fun b1 => ?_) (fun b1 => ?_)
  ·refine gZ ?_
   exact t_ret ⟨by rw [bad (by simp at b1; simp [numbersF, b1])], rfl⟩
  refine t_pu (c49 _ _ _) ?_
  refine gZ ?_
  refine t_cond (fun b2 => ?_) (fun b2 => ?_)
  ·refine gZ ?_
   exact t_ret ⟨by rw [bad (by simp at b2; simp [numbersF, b2])], rfl⟩
  refine t_pu (c56 _) ?_
  refine gZ ?_
  refine t_cond (fun b3 => ?_) (fun b3 => ?_)
  ·refine gZ ?_
   exact t_ret ⟨by rw [bad (by simp at b3; simp [numbersF, b3])], rfl⟩
  refine t_pu (c49 _ _ _) ?_
  refine gZ ?_
  refine t_cond (fun b4 => ?_) (fun b4 => ?_)
  ·refine gZ ?_
   exact t_ret ⟨by rw [bad (by simp at b4; simp [numbersF, b4])], rfl⟩
  exact t_again ⟨rfl, rfl, by simp at b1 b2 b3 b4; simp [numbersF, b1, b2, b3, b4]⟩
 rintro vs _ ⟨rfl, rfl, hnum⟩
 refine gZ ?_
 refine t_pu (c66 hu.excuses) ?_
 refine gZ ?_
 have h0 : checkF u = firstF (fun _ x => x) 1 [excusesF u, papersF u, requestsF u] := by
  unfold checkF; rw [firstF, if_neg (by simp [hnum])]
 rw [firstF] at h0
 refine t_cond (fun b => ?_) (fun b => ?_)
 ·rw [if_pos (show excusesF u ≠ 0 by simpa [excusesF] using b)] at h0
  exact t_ret ⟨by rw [h0]; rfl, rfl⟩
 rw [if_neg (show ¬ excusesF u ≠ 0 by simpa [excusesF] using b), firstF] at h0
 refine t_pu (c67 hu hnum) ?_
 refine gZ ?_
 refine t_cond (fun b => ?_) (fun b => ?_)
 ·rw [if_pos (by simpa using b)] at h0
  exact t_ret ⟨by rw [h0], rfl⟩
 rw [if_neg (by simpa using b), firstF] at h0
 refine t_pu (c68 hu hnum) ?_
 refine gZ ?_
 refine t_ret ⟨?_, rfl⟩
 rw [h0]
 by_cases e : requestsF u = 0
 ·rw [if_neg (by simp [e]), e]; rfl
 ·rw [if_pos e]
end Go.Proofs.YtldamlcehbdkdaaGreatDoor
end
section
namespace Go.Proofs.YtldamlcehbdkdaaGreatDoor
open Go Go.TM Go.Proofs
attribute [local irreducible] T.wp CV FWK
theorem c88 {h : LH} (p : Option Addr) (land item : Int) : Gr Tryz.prog 178 #[.pointer p, .int .i64 land, .int .i64 item] h fun r h' => ∃ z0 z1 z2, r = .func (.func 219) #[] #[.pointer (some z0), .pointer (some z1), .pointer (some z2)] ∧
  h'.get.cell? z0 = some (.pointer p) ∧ h'.get.cell? z1 = some (.int .i64 land) ∧ h'.get.cell? z2 = some (.int .i64 item) := by
 refine w88 _ _ _ X0_ok ?_
 unfold n88
 refine t_new fun r hr => ?_
 refine t_new fun r1 hr1 => ?_
 refine t_new fun r2 hr2 => ?_
 have l1 : h.le _ := LH.upd_le (x := (true, .cells #[.pointer p] 193 (0, 0))) hr
 have l2 := LH.upd_le (x := (true, .cells #[.int .i64 land] 3 (0, 0))) hr1
 have l3 := LH.upd_le (x := (true, .cells #[.int .i64 item] 3 (0, 0))) hr2
 have c1 : Cells.cell? (h.get.upd r (true, .cells #[.pointer p] 193 (0, 0))) ⟨r, 0, none⟩ = some (.pointer p) := cell_upd rfl
 have c2 : Cells.cell? ((h.get.upd r (true, .cells #[.pointer p] 193 (0, 0))).upd r1 (true, .cells #[.int .i64 land] 3 (0, 0))) ⟨r1, 0, none⟩ = some (.int .i64 land) := cell_upd rfl
 have c3 : Cells.cell? (((h.get.upd r (true, .cells #[.pointer p] 193 (0, 0))).upd r1 (true, .cells #[.int .i64 land] 3 (0, 0))).upd r2 (true, .cells #[.int .i64 item] 3 (0, 0))) ⟨r2, 0, none⟩ = some (.int .i64 item) := cell_upd rfl
 exact t_ret ⟨LH.le_trans (LH.le_trans l1 l2) l3, _, _, _, rfl, Cells.cell?_le l3.1 (Cells.cell?_le l2.1 c1), Cells.cell?_le l3.1 c2, c3⟩
def handed (V : Nat → Value) (s : Paper → Bool) : List Paper → Nat → List (List Value)
 | [], _ => []
 | x :: l, i => if s x then [V i] :: handed V s l (i + 1) else handed V s l (i + 1)
theorem handed_len (V : Nat → Value) (s : Paper → Bool) : ∀ (l : List Paper) (i : Nat), (handed V s l i).length = (l.filter s).length := by
 intro l
 induction l with
 | nil => intro i; rfl
 | cons x l ih => intro i; rw [handed, List.filter_cons]; split <;> simp [ih]
theorem handed_get (V : Nat → Value) (s : Paper → Bool) : ∀ (l : List Paper) (i k : Nat) xs, (handed V s l i)[k]? = some xs → ∃ x j, (l.filter s)[k]? = some x ∧ l[j]? = some x ∧ xs = [V (i + j)] := by
 intro l
 induction l with
 | nil => intro i k xs h; simp [handed] at h
 | cons x l ih =>
  intro i k xs h
  rw [handed] at h
  rw [List.filter_cons]
  split at h
  ·rename_i hs
   rw [if_pos hs]
   cases k with
   | zero => simp at h; exact ⟨x, 0, rfl, rfl, by simp [← h]⟩
   | succ k =>
    obtain ⟨y, j, h1, h2, h3⟩ := ih (i + 1) k xs (by simpa using h)
    exact ⟨y, j + 1, by simpa using h1, by simpa using h2, by rw [h3, show i + 1 + j = i + (j + 1) by omega]⟩
  ·rename_i hs
   rw [if_neg hs]
   obtain ⟨y, j, h1, h2, h3⟩ := ih (i + 1) k xs h
   exact ⟨y, j + 1, h1, by simpa using h2, by rw [h3, show i + 1 + j = i + (j + 1) by omega]⟩
theorem hands99 {X : XP} (hX : XOK X) {h₀ : LH} {d : Nat} {z0 z1 z2 : Addr} {land item : Int} {p : Option Addr} {n c : Nat} {ps : List Paper} (hz0 : h₀.get.cell? z0 = some (.pointer (some ⟨d, 0, none⟩))) (hz1 : h₀.get.cell? z1 = some (.int .i64 land)) (hz2 : h₀.get.cell? z2 = some (.int .i64 item))
  (h5 : h₀.get.cell? (Addr.add ⟨d, 0, none⟩ 5) = some (.slice p n c)) (hs : Sl PaperE 4 h₀.get p n ps) :
  ∃ L, L.length = (ps.filter (showsB land item)).length ∧ (∀ (i : Nat) xs, L[i]? = some xs → ∃ x q m c, (ps.filter (showsB land item))[i]? = some x ∧ xs = [paperV x q m c] ∧ Sl IntE 1 h₀.get q m x.items) ∧
   Hands X Tryz.prog (.func (.func 219) #[] #[.pointer (some z0), .pointer (some z1), .pointer (some z2)]) h₀ L := by
 let R : Nat → Value → Prop := fun i v => ∃ x a q m c, ps[i]? = some x ∧ p = some a ∧ v = paperV x q m c ∧ h₀.get.cell? ((a.add (i * 4)).add 0) = some (.int .i64 x.days.first) ∧ h₀.get.cell? ((a.add (i * 4)).add 1) = some (.int .i64 x.days.last) ∧ h₀.get.cell? ((a.add (i * 4)).add 2) = some (.int .i64 x.land) ∧ h₀.get.cell? ((a.add (i * 4)).add 3) = some (.slice q m c) ∧ Sl IntE 1 h₀.get q m x.items
 have hR : ∀ i x, ps[i]? = some x → ∃ v, R i v := by
  intro i x hx
  obtain ⟨a, ha, e1, e2, e3, q, m, k, e4, e5⟩ := hs.2.2 i x hx
  exact ⟨_, x, a, q, m, k, hx, ha, rfl, e1, e2, e3, e4, e5⟩
 let V : Nat → Value := fun i => Classical.epsilon (R i)
 have hV : ∀ i x, ps[i]? = some x → R i (V i) := fun i x hx => Classical.epsilon_spec (hR i x hx)
 refine ⟨handed V (showsB land item) ps 0, handed_len _ _ _ _, ?_, ?_⟩
 ·intro i xs hi
  obtain ⟨x, j, h1, h2, h3⟩ := handed_get _ _ _ _ _ _ hi
  rw [Nat.zero_add] at h3
  obtain ⟨x', a, q, m, k, g1, _, g3, _, _, _, _, g8⟩ := hV j x h2
  rw [h2] at g1; cases g1
  exact ⟨x, q, m, k, h1, by rw [h3, g3], g8⟩
 ·intro y J E _ _ hyield h hle hJ
  generalize hL : handed V (showsB land item) ps 0 = L at hyield ⊢
  refine cv_fw hX (by rfl) (?_ : FW X Tryz.prog 219 #[y, .pointer (some z0), .pointer (some z1), .pointer (some z2)] h _)
  refine w99 _ _ _ _ hX ?_
  unfold n99
  have hn := hs.1
  have hb := hs.2.1
  have y0 := Cells.cell?_le hle.1 hz0
  have y5 := Cells.cell?_le hle.1 h5
  refine gL3 y0 ?_
  refine gS2 rfl ?_
  refine gL1 y5 ?_
  refine t_loop (fun mm vs h' => h₀.le h' ∧ ∃ (j cnt : Nat), vs = [.int .i64 j] ∧ j ≤ n ∧ mm = n - j ∧ J cnt h' ∧ cnt ≤ L.length ∧ L.drop cnt = handed V (showsB land item) (ps.drop j) j) (n := n) ⟨hle, 0, 0, rfl, Nat.zero_le _, by omega, hJ, Nat.zero_le _, by rw [← hL]; rfl⟩ ?_
  rintro Y mm vs h₁ hY ⟨le1, j, cnt, rfl, hj, rfl, hJ1, hcl, hdrop⟩
  refine gZ ?_
  refine t_if (fun e1 => ?_) (fun e1 => ?_)
  ·obtain ⟨x, hx⟩ : ∃ x, ps[j]? = some x := ⟨ps[j]'(by omega), List.getElem?_eq_getElem (by omega)⟩
   obtain ⟨x', a, q, m, k, g1, ha, hVj, c0, c1, c2, c3, hit⟩ := hV j x hx
   rw [hx] at g1; cases g1
   have d0 := Cells.cell?_le le1.1 c0
   have d1 := Cells.cell?_le le1.1 c1
   have d2 := Cells.cell?_le le1.1 c2
   have d3 := Cells.cell?_le le1.1 c3
   have w1 := Cells.cell?_le le1.1 hz1
   have w2 := Cells.cell?_le le1.1 hz2
   rw [drop_of hx, handed] at hdrop
   refine gZ ?_
   have skip : showsB land item x = false → (T.leaf (.again [.int .i64 (IntKind.wrap .i64 ((j : Int) + 1))])).wp X Tryz.prog (fun l h' => l.go h' Y (fun vs h' => T.wp X Tryz.prog (T.popI .i64 vs fun n vs => T.unNil vs (T.leaf (.ret (.tuple #[])))) (retQ fun _ h' => h₀.le h' ∧ (J L.length h' ∨ E h')) h') (fun vs h' => T.wp X Tryz.prog (T.popI .i64 vs fun n vs => T.unNil vs (T.leaf (.ret (.tuple #[])))) (retQ fun _ h' => h₀.le h' ∧ (J L.length h' ∨ E h')) h') (fun _ _ h' => T.wp X Tryz.prog .fail (retQ fun _ h' => h₀.le h' ∧ (J L.length h' ∨ E h')) h')) h₁ := by
    intro hno
    rw [if_neg (by rw [hno]; simp)] at hdrop
    refine t_again (hY (n - (j + 1)) _ _ (by omega) ⟨le1, j + 1, cnt, ?_, by omega, rfl, hJ1, hcl, hdrop⟩)
    rw [wrap_id (by omega) (by omega)]; rfl
   refine t_cond (fun e2 => ?_) (fun e2 => ?_)
   ·refine gZ ?_
    refine t_pu (c100 (hit.le IntE.grow le1.1) item) ?_
    refine gZ ?_
    refine t_cond (fun e3 => ?_) (fun e3 => ?_)
    ·have hsh : showsB land item x = true := by unfold showsB; rw [e2, e3]; rfl
     rw [if_pos hsh] at hdrop
     have hget : L[cnt]? = some [V j] := by
      have : (L.drop cnt)[0]? = some [V j] := by rw [hdrop]; rfl
      simpa using this
     have hlt : cnt < L.length := (List.getElem?_eq_some_iff.1 hget).1
     have hcv := hyield cnt h₁ [V j] le1 hget hJ1
     rw [hVj] at hcv
     refine t_callv hcv ?_
     rintro b h₂ ⟨le2, ⟨rfl, hJ2⟩ | ⟨rfl, hE⟩⟩
     ·refine gZ ?_
      refine t_cond (fun e => by cases e) (fun _ => ?_)
      refine t_again (hY (n - (j + 1)) _ _ (by omega) ⟨le2, j + 1, cnt + 1, ?_, by omega, rfl, hJ2, by omega, ?_⟩)
      ·rw [wrap_id (by omega) (by omega)]; rfl
      ·rw [← List.drop_drop, hdrop]; rfl
     ·refine gZ ?_
      refine t_cond (fun _ => ?_) (fun e => by cases e)
      refine gZ ?_
      exact t_ret ⟨le2, .inr hE⟩
    ·exact skip (by unfold showsB; rw [e2, e3]; rfl)
   ·exact skip (by unfold showsB; rw [e2]; rfl)
  ·refine gZ ?_
   refine t_ret ⟨le1, .inl ?_⟩
   rw [List.drop_eq_nil_of_le (by omega : ps.length ≤ j), handed] at hdrop
   have : L.length ≤ cnt := List.drop_eq_nil_iff.1 hdrop
   obtain rfl : cnt = L.length := by omega
   exact hJ1
end Go.Proofs.YtldamlcehbdkdaaGreatDoor
end
section
namespace Go.Proofs.YtldamlcehbdkdaaGreatDoor
open Go Go.TM Go.Proofs
attribute [local irreducible] T.wp CV FWK
theorem g30 : Tryz.prog.eqGuardType Tryz.prog.depth 29 = false := by kernel_rfl
theorem c60 {h : LH} {d m : Nat} {f : FileC} {u : UseFile} (k : Desk h.get d m f u) (hnum : numbersF u = 0) (land item day : Int) (hd : 0 ≤ day ∧ day ≤ 2000) :
  De 119 #[.pointer (some ⟨d, 0, none⟩), .int .i64 land, .int .i64 item, .int .i64 day] h d m f u fun r _ => r = .int .i64 (safe u land item day) := by
 refine w60 _ _ _ _ X0_ok ?_
 unfold n60
 refine t_de (c55 k (num_ok hnum).2.2.2 day hd) ?_
 rintro _ h₁ mv k1 rfl
 obtain ⟨f0, f1, f2, f3, f4, f5, f6⟩ := k1.file
 refine gZ ?_
 refine t_pu (c81 _ _ _) ?_
 refine gZ ?_
 refine t_cond (fun e => ?_) (fun e => ?_)
 ·exact t_ret ⟨mv, k1, by rw [safe, if_pos e]⟩
 refine t_gr (c88 _ _ _) ?_
 rintro _ h₂ le2 ⟨z0, z1, z2, rfl, hz0, hz1, hz2⟩
 have k2 := k1.le le2.1
 obtain ⟨L, hL1, hL2, hH⟩ := hands99 X0_ok hz0 hz1 hz2 k2.file.f5 k2.rep.papers
 refine t_each (LH.le_refl h₂) hH (fun i vs h' => ∃ out, vs = [.int .i64 0, .int .i64 out] ∧ safe u land item day = safeGo (window u day) ((shown u land item).drop i) out) ⟨2, rfl, by rw [safe, if_neg (by rw [e]; simp)]; rfl⟩ ?_ ?_
 ·rintro vs h' hle ⟨out, rfl, hc⟩
  rw [List.drop_eq_nil_of_le (by rw [hL1]; exact Nat.le_refl _), safeGo] at hc
  refine gZ ?_
  exact t_ret ⟨mv.trans (Mv.of_le (LH.le_trans le2 hle)), k2.le hle.1, by rw [hc]⟩
 ·rintro i xs vs h' hi hle ⟨out, rfl, hc⟩ Y hY
  obtain ⟨x, q, n, c, hx, rfl, hit⟩ := hL2 i xs hi
  have hx' : (shown u land item)[i]? = some x := hx
  rw [drop_of hx', safeGo] at hc
  unfold paperV
  refine gZ ?_
  refine t_eq2 two30 g30 ?_
  refine gZ ?_
  refine t_cond (fun e2 => ?_) (fun e2 => ?_)
  ·refine t_retnE hle ?_
   have e2' : insideB (window u day) x.days = true := e2
   rw [if_pos e2'] at hc
   refine gZ ?_
   exact t_ret ⟨mv.trans (Mv.of_le (LH.le_trans le2 hle)), k2.le hle.1, by rw [hc]⟩
  ·have e2' : insideB (window u day) x.days = false := e2
   rw [if_neg (by rw [e2']; simp)] at hc
   refine t_cond (fun e3 => ?_) (fun e3 => ?_)
   ·have e3' : meetsB (window u day) x.days = true := e3
    rw [if_pos e3'] at hc
    exact t_againE hle (hY _ _ hle ⟨0, rfl, hc⟩)
   ·have e3' : meetsB (window u day) x.days = false := e3
    rw [if_neg (by rw [e3']; simp)] at hc
    exact t_againE hle (hY _ _ hle ⟨out, rfl, hc⟩)
end Go.Proofs.YtldamlcehbdkdaaGreatDoor
end
section
namespace Go.Proofs.YtldamlcehbdkdaaGreatDoor
open Go Go.TM Go.Proofs
attribute [local irreducible] T.wp CV FWK
def ReqEnc (h₀ : Cells) (x : Request) (ws : List Value) : Prop := ∃ q m c, ws = [.int .i64 x.day, .int .i64 x.land, .slice q m c] ∧ Sl IntE 1 h₀ q m x.items
theorem ReqEnc.len {h₀ : Cells} : ∀ x ws, ReqEnc h₀ x ws → ws.length = 3 := by rintro x _ ⟨q, m, c, rfl, _⟩; rfl
theorem ReqEnc.e {h₀ h' : Cells} (hr : Rd h₀ h') : ∀ a x ws, ReqEnc h₀ x ws → (∀ (j : Nat) w, ws[j]? = some w → h'.cell? (a.add j) = some w) → RequestE h' a x := by
 rintro a x _ ⟨q, m, c, rfl, hs⟩ hc
 exact ⟨hc 0 _ rfl, hc 1 _ rfl, q, m, c, hc 2 _ rfl, hs.rd IntE.grow hr⟩
theorem c101 {h : LH} {d m : Nat} {f : FileC} {u : UseFile} (k : Desk h.get d m f u) (hck : checkF u = 0) (land item day : Int) :
  Gr Tryz.prog 220 #[.pointer (some ⟨d, 0, none⟩), .int .i64 land, .int .i64 item, .int .i64 day] h fun r h' => ∃ p n c, r = .slice p n c ∧ Sl RequestE 3 h'.get p n (against u land item day) := by
 refine w101 _ _ _ _ X0_ok ?_
 unfold n101
 obtain ⟨f0, f1, f2, f3, f4, f5, f6⟩ := k.file
 have hlen := (check_requests hck).1
 have hn6 := k.rep.requests.1
 refine gZ ?_
 refine t_loop (fun mm vs h' => h.le h' ∧ ∃ (i : Nat) (p : Option Addr) (n c : Nat) (rs : List Request), vs = [.slice p n c, .int .i64 i] ∧ i ≤ f.n6 ∧ mm = f.n6 - i ∧ Growing (ReqEnc h.get) 34 3 h.get h'.get p n c rs ∧ rs.length ≤ i ∧ against u land item day = rs ++ (u.requests.drop i).filter (agB land item day))
  ⟨LH.le_refl _, 0, none, 0, 0, [], rfl, Nat.zero_le _, rfl, Growing.nil, Nat.le_refl _, rfl⟩ ?_
 rintro Y mm vs h₁ hY ⟨hle, i, p, n, c, rs, rfl, hi, rfl, g, hrl, hc⟩
 refine gZ ?_
 refine t_if (fun e1 => ?_) (fun e1 => ?_)
 ·obtain ⟨x, a, hx, ha, e2, e3, q, mq, cq, e4, e5⟩ := k.rep.requests.at (i := i) (by omega)
  have e2 := Cells.cell?_le hle.1 e2
  have e3 := Cells.cell?_le hle.1 e3
  have e4 := Cells.cell?_le hle.1 e4
  rw [drop_of hx, List.filter_cons] at hc
  have skip : agB land item day x = false → Y [.slice p n c, .int .i64 (IntKind.wrap .i64 ((i : Int) + 1))] h₁ := by
   intro hno
   rw [if_neg (by rw [hno]; simp)] at hc
   refine hY (f.n6 - (i + 1)) _ _ (by omega) ⟨hle, i + 1, p, n, c, rs, ?_, by omega, rfl, g, by omega, hc⟩
   rw [wrap_id (by omega) (by omega)]; rfl
  refine gZ ?_
  refine t_cond (fun b1 => ?_) (fun b1 => ?_)
  ·refine t_if (fun b2 => ?_) (fun b2 => ?_)
   ·refine t_pu (c100 (e5.le IntE.grow hle.1) item) ?_
    refine gZ ?_
    refine t_cond (fun b3 => ?_) (fun b3 => ?_)
    ·have hag : agB land item day x = true := by unfold agB; rw [b1, b3]; simp [b2]
     rw [if_pos hag] at hc
     refine t_build und24 inf64 (by decide) (by decide) (cells := #[.int .i64 x.day, .int .i64 x.land, .slice q mq cq]) (by kernel_rfl) fun r hr => ?_
     have le1 : h₁.le _ := LH.upd_le (x := (true, .cells #[.int .i64 x.day, .int .i64 x.land, .slice q mq cq] 34 (0, 0))) hr
     have hng := g.count ReqEnc.len (by omega)
     refine gZ ?_
     refine t_grow (x := x) (ws := [.int .i64 x.day, .int .i64 x.land, .slice q mq cq]) rfl rfl und24 und24 inf64 rfl (by omega) (by omega) (g.le le1.1) (LH.le_trans hle le1) ⟨q, mq, cq, rfl, e5⟩ rfl ?_ ?_ ?_
     ·intro j w hj
      rw [add_plain, Nat.zero_add]
      exact cell_upd (by simpa using hj)
     ·intro w hw
      simp at hw
      rcases hw with rfl | rfl | rfl <;> rfl
     ·intro p' c' h₂ hle2 _ g2
      refine gZ ?_
      refine t_again (hY (f.n6 - (i + 1)) _ _ (by omega) ⟨hle2, i + 1, p', n + 1, c', rs ++ [x], ?_, by omega, rfl, g2, by simp; omega, by rw [hc]; simp⟩)
      rw [wrap_id (by omega) (by omega)]; rfl
    ·exact t_again (skip (by unfold agB; rw [b1, b3]; simp))
   ·exact t_again (skip (by unfold agB; rw [b1]; simp [b2]))
  ·exact t_again (skip (by unfold agB; rw [b1]; rfl))
 ·refine gZ ?_
  rw [List.drop_eq_nil_of_le (by omega)] at hc
  simp at hc
  refine t_ret ⟨hle, p, n, c, rfl, ?_⟩
  rw [hc]
  exact g.sl ReqEnc.len (by omega) (ReqEnc.e (Rd.of_le hle.1)) (by omega)
theorem or_bits {a k : Nat} (ha : a < 2 ^ 32) (hk : k < 32) : IntKind.wrap .i64 (((BitVec.ofInt 64 (a : Int) ||| BitVec.ofInt 64 (IntKind.wrap .i64 (1 * 2 ^ min (k : Int).toNat 64))).toNat : Nat) : Int) = ((a ||| 2 ^ k : Nat) : Int) := by
 have hm : min (k : Int).toNat 64 = k := by simp; omega
 have hp : (2 : Nat) ^ k < 2 ^ 32 := Nat.pow_lt_pow_right (by omega) hk
 have hp' : (1 * 2 ^ k : Int) = ((2 ^ k : Nat) : Int) := by simp
 rw [hm, hp']
 generalize hq : (2 : Nat) ^ k = q at hp
 have hw : IntKind.wrap .i64 ((q : Nat) : Int) = (q : Int) := wrap_id (by omega) (by omega)
 rw [hw]
 have h1 : (BitVec.ofInt 64 (a : Int)).toNat = a := by rw [BitVec.toNat_ofInt]; omega
 have h2 : (BitVec.ofInt 64 (q : Int)).toNat = q := by rw [BitVec.toNat_ofInt]; omega
 rw [BitVec.toNat_or, h1, h2]
 have h3 : a ||| q < 2 ^ 32 := Nat.or_lt_two_pow ha hp
 exact wrap_id (by omega) (by omega)
theorem c107 {h : LH} {d m : Nat} {f : FileC} {u : UseFile} (k : Desk h.get d m f u) (hck : checkF u = 0) {p : Option Addr} {n c : Nat} {l : List Request} (hl : Sl RequestE 3 h.get p n l) (hl4 : l.length ≤ 4) (hdays : ∀ r ∈ l, 0 ≤ r.day ∧ r.day ≤ 2000) (day : Int) :
  De 256 #[.pointer (some ⟨d, 0, none⟩), .slice p n c, .int .i64 day] h d m f u fun r _ => r = .int .i64 (meets u l day) := by
 refine w107 _ _ _ _ _ X0_ok ?_
 unfold n107
 have hn := hl.1
 refine t_loop (fun mm vs h' => Mv m h h' ∧ Desk h'.get d m f u ∧ ∃ (i acc : Nat), vs = [.int .i64 acc, .int .i64 i] ∧ i ≤ n ∧ mm = n - i ∧ acc < 2 ^ 32 ∧ meets u l day = meetsGo u day (l.drop i) i acc)
  ⟨Mv.refl, k, 0, 0, rfl, Nat.zero_le _, rfl, by omega, rfl⟩ ?_
 rintro Y mm vs h₁ hY ⟨mv, k1, i, acc, rfl, hi, rfl, hacc, hc⟩
 refine gZ ?_
 refine t_if (fun e1 => ?_) (fun e1 => ?_)
 ·obtain ⟨x, a, hx, ha, e2, e3, q, mq, cq, e4, e5⟩ := (hl.rd RequestE.grow (mv.rd k.isMap)).at (i := i) (by omega)
  rw [drop_of hx, meetsGo] at hc
  refine gZ ?_
  have hxd := hdays x (List.mem_of_getElem? hx)
  refine t_de (c55 k1 (num_ok (check_num hck)).2.2.2 x.day hxd) ?_
  rintro _ h₂ mv2 k2 rfl
  refine gZ ?_
  refine t_pu (c81 _ _ _) ?_
  refine gZ ?_
  refine t_cond (fun b => ?_) (fun b => ?_)
  ·rw [if_pos b] at hc
   refine gZ ?_
   rw [or_bits hacc (by omega)]
   refine t_again (hY (n - (i + 1)) _ _ (by omega) ⟨mv.trans mv2, k2, i + 1, acc ||| 2 ^ i, ?_, by omega, rfl, Nat.or_lt_two_pow hacc (Nat.pow_lt_pow_right (by omega) (by omega)), hc⟩)
   rw [wrap_id (by omega) (by omega)]; rfl
  ·rw [if_neg (by rw [b]; simp)] at hc
   refine t_again (hY (n - (i + 1)) _ _ (by omega) ⟨mv.trans mv2, k2, i + 1, acc, ?_, by omega, rfl, hacc, hc⟩)
   rw [wrap_id (by omega) (by omega)]; rfl
 ·refine gZ ?_
  rw [List.drop_eq_nil_of_le (by omega), meetsGo] at hc
  exact t_ret ⟨mv, k1, by rw [hc]⟩
end Go.Proofs.YtldamlcehbdkdaaGreatDoor
end
section
namespace Go.Proofs.YtldamlcehbdkdaaGreatDoor
open Go Go.TM Go.Proofs
attribute [local irreducible] T.wp CV FWK
def MapIs (h : Cells) (a : Nat) (R : Nat → Prop) : Prop := ∃ es, MapAt h a es ∧ (∀ e ∈ es.toList, ∃ n : Nat, e.key = .int .i64 n ∧ e.val = .bool true ∧ R n) ∧ ∀ n, R n → ∃ e ∈ es.toList, e.key = .int .i64 (n : Int)
theorem MapIs.isMap {h : Cells} {a : Nat} {R : Nat → Prop} (m : MapIs h a R) : ∃ es c, h a = some (true, .map es c) := by obtain ⟨es, ⟨c, h1⟩, _⟩ := m; exact ⟨es, c, h1⟩
theorem MapIs.mv {m a : Nat} {h h' : LH} {R : Nat → Prop} (hne : a ≠ m) (mv : Mv m h h') (hm : MapIs h.get a R) : MapIs h'.get a R := by
 obtain ⟨es, ⟨c, h1⟩, h2⟩ := hm
 exact ⟨es, ⟨c, mv.keep _ _ hne h1⟩, h2⟩
theorem MapIs.congr {h : Cells} {a : Nat} {R R' : Nat → Prop} (hm : MapIs h a R) (hR : ∀ n, R n ↔ R' n) : MapIs h a R' := by
 obtain ⟨es, h1, h2, h3⟩ := hm
 refine ⟨es, h1, fun e he => ?_, fun n hn => h3 n ((hR n).2 hn)⟩
 obtain ⟨n, a, b, c⟩ := h2 e he
 exact ⟨n, a, b, (hR n).1 c⟩
theorem MapIs.keys {h : Cells} {a : Nat} {es : Array MapEntry} {R : Nat → Prop} (h2 : ∀ e ∈ es.toList, ∃ n : Nat, e.key = .int .i64 n ∧ e.val = .bool true ∧ R n) : ∀ e ∈ es.toList, IsKey Tryz.prog 3 e.key := fun e he => by
 obtain ⟨n, h, _⟩ := h2 e he; exact .inl ⟨i64_3, n, h⟩
theorem t_lookSet {X : XP} {Q : Leaf → LH → Prop} {h : LH} {K : Value → T} {a : Nat} {R : Nat → Prop} (hm : MapIs h.get a R) {n : Nat} (h1 : R n → (K (.bool true)).wp X Tryz.prog Q h) (h2 : ¬ R n → (K (.bool false)).wp X Tryz.prog Q h) : (T.sem false (Instr.lookup 230 (.map (some a)) (.int .i64 n) false) K).wp X Tryz.prog Q h := by
 obtain ⟨es, hat, e1, e2⟩ := hm
 refine t_lookup und138 inf4 hat (.inl ⟨i64_3, _, rfl⟩) (MapIs.keys (h := h.get) (a := a) e1) (fun e he hk => ?_) fun hno => ?_
 ·obtain ⟨n', g1, g2, g3⟩ := e1 e he
  rw [hk] at g1
  have : n = n' := by simp at g1; omega
  subst this
  rw [g2]
  exact h1 g3
 ·refine h2 fun hr => ?_
  obtain ⟨e, he, hk⟩ := e2 n hr
  exact hno e he hk
theorem t_addSet {X : XP} {Q : Leaf → LH → Prop} {h : LH} {K : Value → T} {a : Nat} {R : Nat → Prop} (hm : MapIs h.get a R) {n : Nat} (hk : ∀ es c, MapIs (h.get.upd a (true, .map es c)) a (fun x => R x ∨ x = n) → (K undef).wp X Tryz.prog Q { h with get := h.get.upd a (true, .map es c) }) :
  (T.sem false (Sem.bind (Instr.mapUpdate 230 (.map (some a)) (.int .i64 n) (.bool true)) fun _ => pure (.tuple #[])) K).wp X Tryz.prog Q h := by
 obtain ⟨es, hat, e1, e2⟩ := hm
 refine t_mapUpdate und138 hat (.inl ⟨i64_3, _, rfl⟩) (MapIs.keys (h := h.get) (a := a) e1) fun es' c g1 g2 g3 => hk es' c ⟨es', ⟨c, Cells.upd_self _ _ _⟩, fun e he => ?_, fun x hx => ?_⟩
 ·rcases g1 e he with ⟨k1, k2⟩ | k1
  ·exact ⟨n, k1, k2, .inr rfl⟩
  ·obtain ⟨n', a, b, c⟩ := e1 e k1
   exact ⟨n', a, b, .inl c⟩
 ·rcases hx with hx | rfl
  ·obtain ⟨e, he, hke⟩ := e2 x hx
   obtain ⟨e', he', hk'⟩ := g3 e he
   exact ⟨e', he', hk'.trans hke⟩
  ·exact g2
theorem rd_updMap {h : Cells} {a : Nat} {es' : Array MapEntry} {c : Nat} (hm : ∃ es c, h a = some (true, .map es c)) : Rd h (h.upd a (true, .map es' c)) := by
 intro x v hc
 have hne : x.block ≠ a := by
  intro e
  obtain ⟨es, c, hm⟩ := hm
  unfold Cells.cell? at hc
  rw [e, hm] at hc; cases hc
 unfold Cells.cell? at hc ⊢
 rw [Cells.upd_ne _ _ hne]; exact hc
theorem desk_other {h : Cells} {d m a : Nat} {f : FileC} {u : UseFile} (k : Desk h d m f u) (hne : a ≠ m) (hm : ∃ es c, h a = some (true, .map es c)) {es' : Array MapEntry} {c : Nat} : Desk (h.upd a (true, .map es' c)) d m f u := by
 have hr := rd_updMap (es' := es') (c := c) hm
 refine ⟨k.file.rd hr, k.rep.rd hr, fun j hj => hr _ _ (k.counts j hj), hr _ _ k.mapp, ?_⟩
 obtain ⟨es, c', h1, h2⟩ := k.map
 exact ⟨es, c', by rw [Cells.upd_ne _ _ (Ne.symm hne)]; exact h1, h2⟩
theorem mv_other {m a : Nat} {h h' : LH} (mv : Mv m h h') (hno : h.get a = none) (hne : a ≠ m) {es : Array MapEntry} {c : Nat} : Mv m h { h' with get := h'.get.upd a (true, .map es c) } := by
 refine ⟨fun r x hr hx => ?_, fun es c hm => ?_, mv.same⟩
 ·have : r ≠ a := by rintro rfl; rw [hno] at hx; cases hx
  show Cells.upd _ _ _ r = _
  rw [Cells.upd_ne _ _ this]; exact mv.keep r x hr hx
 ·obtain ⟨es', c', h1⟩ := mv.isMap es c hm
  exact ⟨es', c', by show Cells.upd _ _ _ m = _; rw [Cells.upd_ne _ _ (Ne.symm hne)]; exact h1⟩
section
variable {X : XP} {Q : Leaf → LH → Prop} {h h' : LH} {d m : Nat} {f : FileC} {u : UseFile} {o : Option (Nat × (Nat → Prop))}
structure St (h : LH) (d m : Nat) (f : FileC) (u : UseFile) (h' : LH) (o : Option (Nat × (Nat → Prop))) : Prop where
 mv : Mv m h h'
 desk : Desk h'.get d m f u
 made : ∀ a R, o = some (a, R) → MapIs h'.get a R ∧ a ≠ m ∧ h.get a = none
theorem s_from (s : St h d m f u h' o) {k : Int → T} (hk : (k u.from_).wp X Tryz.prog Q h') : (T.loadI .i64 (Addr.add (Addr.add (Addr.add ⟨d, 0, none⟩ 0) 0) 2) k).wp X Tryz.prog Q h' := gL0 s.desk.file.f2 hk
theorem s_make (hm : ∃ es c, h.get m = some (true, .map es c)) (s : St h d m f u h' none) {k : Value → T} (hk : ∀ a h'', St h d m f u h'' (some (a, fun _ => False)) → (k (.map (some a))).wp X Tryz.prog Q h'') : (T.sem false (Instr.makeMap 230 none) k).wp X Tryz.prog Q h' := by
 refine t_makeMap fun a ha => hk a _ ?_
 have le1 : h'.le _ := LH.upd_le (x := (true, .map #[] 0)) ha
 have hno : h.get a = none := by
  cases hx : h.get a with
  | none => rfl
  | some x =>
   by_cases e : a = m
   ·subst e
    obtain ⟨es, c, hm⟩ := hm
    obtain ⟨es', c', h1⟩ := s.mv.isMap es c hm
    rw [h1] at ha; cases ha
   ·rw [s.mv.keep a x e hx] at ha; cases ha
 have hne : a ≠ m := by rintro rfl; obtain ⟨es, c, hm⟩ := hm; rw [hm] at hno; cases hno
 refine ⟨s.mv.trans (Mv.of_le le1), s.desk.le le1.1, fun a' R e => ?_⟩
 cases e
 exact ⟨⟨#[], ⟨0, Cells.upd_self _ _ _⟩, fun e he => by simp at he, fun n hn => hn.elim⟩, hne, hno⟩
theorem s_call (hck : checkF u = 0) (hm : ∃ es c, h.get m = some (true, .map es c)) (s : St h d m f u h' o) {p : Option Addr} {n c : Nat} {l : List Request} (hl : Sl RequestE 3 h.get p n l) (hl4 : l.length ≤ 4) (hdays : ∀ r ∈ l, 0 ≤ r.day ∧ r.day ≤ 2000) {day : Int} {k : Value → T} (hk : ∀ h'', St h d m f u h'' o → (k (.int .i64 (meets u l day))).wp X Tryz.prog Q h'') : (T.call false 256 #[.pointer (some ⟨d, 0, none⟩), .slice p n c, .int .i64 day] k).wp X Tryz.prog Q h' := by
 refine t_de (c107 s.desk hck (hl.rd RequestE.grow (s.mv.rd hm)) hl4 hdays day) ?_
 rintro _ h'' mv k2 rfl
 refine hk h'' ⟨s.mv.trans mv, k2, fun a R e => ?_⟩
 obtain ⟨a1, a2, a3⟩ := s.made a R e
 exact ⟨a1.mv a2 mv, a2, a3⟩
theorem s_add {a : Nat} {R : Nat → Prop} (s : St h d m f u h' (some (a, R))) {n : Nat} {K : Value → T} (hk : ∀ h'', St h d m f u h'' (some (a, fun x => R x ∨ x = n)) → (K undef).wp X Tryz.prog Q h'') :
  (T.sem false (Sem.bind (Instr.mapUpdate 230 (.map (some a)) (.int .i64 n) (.bool true)) fun _ => pure (.tuple #[])) K).wp X Tryz.prog Q h' := by
 obtain ⟨a1, a2, a3⟩ := s.made a R rfl
 refine t_addSet a1 fun es c hm => hk _ ⟨mv_other s.mv a3 a2, desk_other s.desk a2 a1.isMap, fun a' R' e => ?_⟩
 cases e
 exact ⟨hm, a2, a3⟩
end
theorem meets_lt (u : UseFile) (day : Int) : ∀ (l : List Request) (k acc : Nat), acc < 2 ^ (k + l.length) → meetsGo u day l k acc < 2 ^ (k + l.length) := by
 intro l
 induction l with
 | nil => intro k acc h; exact h
 | cons r l ih =>
  intro k acc h
  rw [meetsGo]
  have e : k + (r :: l).length = k + 1 + l.length := by simp; omega
  rw [e] at h ⊢
  refine ih _ _ ?_
  split
  ·exact Nat.or_lt_two_pow h (Nat.pow_lt_pow_right (by omega) (by omega))
  ·exact h
theorem meets_lt' (u : UseFile) (l : List Request) (day : Int) : meets u l day < 2 ^ l.length := by
 have := meets_lt u day l 0 0 (Nat.two_pow_pos _)
 rw [Nat.zero_add] at this; exact this
theorem or_small {a b : Nat} (ha : a < 16) (hb : b < 16) : IntKind.wrap .i64 (((BitVec.ofInt 64 (a : Int) ||| BitVec.ofInt 64 (b : Int)).toNat : Nat) : Int) = ((a ||| b : Nat) : Int) := by
 have h1 : (BitVec.ofInt 64 (a : Int)).toNat = a := by rw [BitVec.toNat_ofInt]; omega
 have h2 : (BitVec.ofInt 64 (b : Int)).toNat = b := by rw [BitVec.toNat_ofInt]; omega
 rw [BitVec.toNat_or, h1, h2]
 have h3 : a ||| b < 2 ^ 4 := Nat.or_lt_two_pow (by omega) (by omega)
 exact wrap_id (by omega) (by omega)
theorem c102 {h : LH} {d m : Nat} {f : FileC} {u : UseFile} (k : Desk h.get d m f u) (hck : checkF u = 0) {p : Option Addr} {n c : Nat} {l : List Request} (hl : Sl RequestE 3 h.get p n l) (hl4 : l.length ≤ 4) (hdays : ∀ r ∈ l, 0 ≤ r.day ∧ r.day ≤ 2000) (land item : Int) :
  De 221 #[.pointer (some ⟨d, 0, none⟩), .int .i64 land, .int .i64 item, .slice p n c] h d m f u fun r _ => r = .bool (!can u land item l) := by
 refine w102 _ _ _ _ _ _ X0_ok ?_
 unfold n102
 have hn := hl.1
 have hm := k.isMap
 refine gZ ?_
 refine t_blk (fun vs h' => ∃ a, vs = [.map (some a)] ∧ St h d m f u h' (some (a, fun x => False ∨ x = meets u l u.from_))) ?_ ?_
 ·have s0 : St h d m f u h none := ⟨Mv.refl, k, fun a R e => by cases e⟩
  refine gZ ?_
  repeat' (first
   | refine t_both ?_ ?_
   | (refine s_make hm (by assumption) fun a hx s => ?_)
   | (refine s_call hck hm (by assumption) hl hl4 hdays fun hx s => ?_)
   | (refine s_add (by assumption) fun hx s => ?_)
   | (refine s_from (by assumption) ?_)
   | (with_reducible refine gD ?_) | (with_reducible refine gP ?_) | ((with_reducible apply gT); first | exact rfl | exact True.intro) | ((with_reducible apply gS2); exact rfl)
   | (refine t_again ⟨_, rfl, by assumption⟩))
 ·rintro vs h₁ ⟨a0, rfl, s1⟩
  refine gZ ?_
  obtain ⟨am, ane, ano⟩ := s1.made a0 _ rfl
  refine t_gr (c88 _ _ _) ?_
  rintro _ h₂ le2 ⟨z0, z1, z2, rfl, hz0, hz1, hz2⟩
  have k2 := s1.desk.le le2.1
  have hm2 := k2.isMap
  let h₀ : LH := { h₂ with get := fun b => if b = m then none else h₂.get b }
  have le0 : h₀.le h₂ := ⟨fun b x hb => by
   show h₂.get b = some x
   have hb' : (if b = m then none else h₂.get b) = some x := hb
   split at hb'
   ·cases hb'
   ·exact hb', rfl, rfl, rfl⟩
  have rd0 : Rd h₂.get h₀.get := by
   intro x v hc
   have hne : x.block ≠ m := by
    intro e
    obtain ⟨es, c, hm⟩ := hm2
    unfold Cells.cell? at hc
    rw [e, hm] at hc; cases hc
   unfold Cells.cell? at hc ⊢
   show (match (if x.block = m then none else h₂.get x.block) with | some (_, .cells c _ _) => if x.spot.isSome then none else c[x.off]? | _ => none) = _
   rw [if_neg hne]; exact hc
  obtain ⟨L, hL1, hL2, hH⟩ := hands99 X0_ok (rd0 _ _ hz0) (rd0 _ _ hz1) (rd0 _ _ hz2) (rd0 _ _ k2.file.f5) (k2.rep.papers.rd PaperE.grow rd0)
  have mv2 := s1.mv.trans (Mv.of_le (m := m) le2)
  have hcan : ∀ R, reachL u l (shown u land item) [meets u l u.from_] = reachL u l [] R → can u land item l = R.contains (2 ^ l.length - 1) := by
   intro R e; unfold can; rw [e]; rfl
  have hpw : (2 : Nat) ^ l.length ≤ 16 := by
   have : (2 : Nat) ^ l.length ≤ 2 ^ 4 := Nat.pow_le_pow_right (by omega) hl4
   omega
  have hpw1 : 0 < (2 : Nat) ^ l.length := Nat.two_pow_pos _
  have hm1 : (1 * 2 ^ min (n : Int).toNat 64 : Int) = ((2 ^ l.length : Nat) : Int) := by
   have : min (n : Int).toNat 64 = l.length := by rw [hn]; simp; omega
   rw [this]; simp
  generalize hP : (2 : Nat) ^ l.length = pw at hpw hpw1 hm1
  have hall : IntKind.wrap .i64 (IntKind.wrap .i64 (1 * 2 ^ min (n : Int).toNat 64) - 1) = ((pw - 1 : Nat) : Int) := by
   rw [hm1, wrap_id (n := (pw : Int)) (by omega) (by omega), wrap_id (by omega) (by omega)]; omega
  have hall2 : IntKind.wrap .i64 (((pw - 1 : Nat) : Int) + 1) = (pw : Int) := by
   rw [wrap_id (by omega) (by omega)]; omega
  simp only [hall, hall2]
  refine t_each le0 hH (fun i vs h' => Mv m h h' ∧ Desk h'.get d m f u ∧ ∃ a R, vs = [.map (some a)] ∧ a ≠ m ∧ MapIs h'.get a (fun x => x ∈ R) ∧ (∀ s ∈ R, s < pw) ∧ reachL u l (shown u land item) [meets u l u.from_] = reachL u l ((shown u land item).drop i) R)
   ⟨mv2, k2, a0, [meets u l u.from_], rfl, ane, (am.mv ane (Mv.of_le (m := m) le2)).congr (fun x => by simp), by intro s hs; simp at hs; subst hs; rw [← hP]; exact meets_lt' u l _, rfl⟩ ?_ ?_
  ·rintro vs h₃ hle ⟨mv3, k3, a, R, rfl, hne, hmap, hR, hc⟩
   rw [List.drop_eq_nil_of_le (by rw [hL1]; exact Nat.le_refl _)] at hc
   have hcan' := hcan R hc
   rw [hP] at hcan'
   refine gZ ?_
   refine t_lookSet hmap (fun hin => ?_) fun hnot => ?_
   ·refine gZ ?_
    refine t_ret ⟨mv3, k3, ?_⟩
    rw [hcan']
    have : R.contains (pw - 1) = true := by simpa using hin
    rw [this]
   ·refine gZ ?_
    refine t_ret ⟨mv3, k3, ?_⟩
    rw [hcan']
    have : R.contains (pw - 1) = false := by simpa using hnot
    rw [this]
  ·rintro i xs vs h₃ hi hle ⟨mv3, k3, a, R, rfl, hne, hmap, hR, hc⟩ Y hY
   obtain ⟨x, q, nq, cq, hx, rfl, hit⟩ := hL2 i xs hi
   have hx' : (shown u land item)[i]? = some x := hx
   have hxp := (check_papers hck).2 x (List.mem_filter.1 (List.mem_of_getElem? hx')).1
   rw [drop_of hx', reachL] at hc
   unfold paperV
   refine gZ ?_
   have hm3 := k3.isMap
   refine t_makeMap fun b hb => ?_
   refine gZ ?_
   have le4 : h₃.le _ := LH.upd_le (x := (true, .map #[] 0)) hb
   have hbm : b ≠ m := by rintro rfl; obtain ⟨es, c, hm3⟩ := hm3; rw [hm3] at hb; cases hb
   have hba : b ≠ a := by rintro rfl; obtain ⟨es, c, ha⟩ := hmap.isMap; rw [ha] at hb; cases hb
   -- the days of the paper
   refine t_loop (fun mm vs h' => Mv m h₃ h' ∧ h₀.le h' ∧ Desk h'.get d m f u ∧ ∃ dy : Int, vs = [.int .i64 dy] ∧ x.days.first ≤ dy ∧ dy ≤ x.days.last + 1 ∧ mm = (x.days.last + 1 - dy).toNat ∧ MapIs h'.get b (fun y => ∃ s ∈ R, ∃ e : Int, x.days.first ≤ e ∧ e < dy ∧ y = s ||| meets u l e))
    ⟨Mv.of_le le4, LH.le_trans hle le4, k3.le le4.1, x.days.first, rfl, by omega, by omega, rfl, ⟨#[], ⟨0, Cells.upd_self _ _ _⟩, fun e he => by simp at he, fun y hy => by obtain ⟨s, _, e, h1, h2, _⟩ := hy; omega⟩⟩ ?_
   rintro Y2 mm vs h₅ hY2 ⟨mv5, le5, k5, dy, rfl, hd1, hd2, rfl, hmb⟩
   refine gZ ?_
   refine t_if (fun e1 => ?_) (fun e1 => ?_)
   ·have hl5 := hl.rd RequestE.grow (Mv.rd hm (mv3.trans mv5))
    refine t_de (c107 k5 hck hl5 hl4 hdays dy) ?_
    rintro _ h₆ mv6 k6 rfl
    refine gZ ?_
    have le6 : h₀.le h₆ := ⟨fun r y hr => mv6.keep r y (by
     rintro rfl
     have : (if r = r then none else h₂.get r) = some y := hr
     simp at this) (le5.1 r y hr), mv6.same.1.trans le5.2.1, mv6.same.2.1.trans le5.2.2.1, mv6.same.2.2.trans le5.2.2.2⟩
    have hmt := meets_lt' u l dy
    rw [hP] at hmt
    refine t_loop (fun mm vs h' => Mv m h₃ h' ∧ h₀.le h' ∧ Desk h'.get d m f u ∧ ∃ j : Nat, vs = [.int .i64 j] ∧ j ≤ pw ∧ mm = pw - j ∧ MapIs h'.get b (fun y => (∃ s ∈ R, ∃ e : Int, x.days.first ≤ e ∧ e < dy ∧ y = s ||| meets u l e) ∨ ∃ s ∈ R, s < j ∧ y = s ||| meets u l dy))
     ⟨mv5.trans mv6, le6, k6, 0, rfl, Nat.zero_le _, rfl, (hmb.mv hbm mv6).congr fun y => ⟨.inl, fun h => by rcases h with h | ⟨s, _, h1, _⟩; exact h; omega⟩⟩ ?_
    rintro Y3 mm vs h₇ hY3 ⟨mv7, le7, k7, j, rfl, hj, rfl, hmb7⟩
    refine gZ ?_
    refine t_if (fun e2 => ?_) (fun e2 => ?_)
    ·have hma : MapIs h₇.get a (fun x => x ∈ R) := hmap.mv hne mv7
     refine t_lookSet hma (fun hin => ?_) fun hnot => ?_
     ·refine gZ ?_
      refine t_cond (fun _ => ?_) (fun e => by cases e)
      rw [or_small (by omega) (by omega)]
      refine t_addSet hmb7 fun es cc hnew => ?_
      have mv8 : Mv m h₃ { h₇ with get := h₇.get.upd b (true, .map es cc) } := mv_other mv7 hb hbm
      have hb0 : h₀.get b = none := by
       cases hx0 : h₀.get b with
       | none => rfl
       | some y => rw [hle.1 _ _ hx0] at hb; cases hb
      refine t_again (hY3 (pw - (j + 1)) _ _ (by omega) ⟨mv8, ⟨fun r y hr => ?_, le7.2⟩, desk_other k7 hbm hmb7.isMap, j + 1, ?_, by omega, rfl, hnew.congr fun y => ?_⟩)
      ·have : r ≠ b := by rintro rfl; rw [hb0] at hr; cases hr
       show Cells.upd _ _ _ r = _
       rw [Cells.upd_ne _ _ this]; exact le7.1 r y hr
      ·rw [wrap_id (by omega) (by omega)]; rfl
      ·constructor
       ·rintro ((h1 | ⟨s, h1, h2, h3⟩) | rfl)
        ·exact .inl h1
        ·exact .inr ⟨s, h1, by omega, h3⟩
        ·exact .inr ⟨j, hin, by omega, rfl⟩
       ·rintro (h1 | ⟨s, h1, h2, h3⟩)
        ·exact .inl (.inl h1)
        ·by_cases e : s = j
         ·subst e; exact .inr h3
         ·exact .inl (.inr ⟨s, h1, by omega, h3⟩)
     ·refine gZ ?_
      refine t_cond (fun e => by cases e) (fun _ => ?_)
      refine t_again (hY3 (pw - (j + 1)) _ _ (by omega) ⟨mv7, le7, k7, j + 1, ?_, by omega, rfl, hmb7.congr fun y => ?_⟩)
      ·rw [wrap_id (by omega) (by omega)]; rfl
      ·constructor
       ·rintro (h1 | ⟨s, h1, h2, h3⟩)
        ·exact .inl h1
        ·exact .inr ⟨s, h1, by omega, h3⟩
       ·rintro (h1 | ⟨s, h1, h2, h3⟩)
        ·exact .inl h1
        ·refine .inr ⟨s, h1, ?_, h3⟩
         have : s ≠ j := by rintro rfl; exact hnot h1
         omega
    ·refine gZ ?_
     refine t_again (hY2 (x.days.last + 1 - (dy + 1)).toNat _ _ (by omega) ⟨mv7, le7, k7, dy + 1, ?_, by omega, by omega, rfl, hmb7.congr fun y => ?_⟩)
     ·rw [wrap_id (by omega) (by omega)]
     ·constructor
      ·rintro (⟨s, h1, e, h2, h3, h4⟩ | ⟨s, h1, h2, h3⟩)
       ·exact ⟨s, h1, e, h2, by omega, h4⟩
       ·exact ⟨s, h1, dy, hd1, by omega, h3⟩
      ·rintro ⟨s, h1, e, h2, h3, h4⟩
       by_cases he : e = dy
       ·subst he; exact .inr ⟨s, h1, by have := hR s h1; omega, h4⟩
       ·exact .inl ⟨s, h1, e, h2, by omega, h4⟩
   ·refine gZ ?_
    have hdy : dy = x.days.last + 1 := by omega
    subst hdy
    refine t_againE le5 (hY _ _ le5 ⟨mv3.trans mv5, k5, b, stepL ((daysOf x.days).map (meets u l)) R, rfl, hbm, hmb.congr fun y => ?_, ?_, hc⟩)
    ·simp only [stepL, List.mem_flatMap, List.mem_map, daysOf, List.mem_range]
     constructor
     ·rintro ⟨s, h1, e, h2, h3, rfl⟩
      exact ⟨s, h1, _, ⟨e, ⟨(e - x.days.first).toNat, by omega, by omega⟩, rfl⟩, rfl⟩
     ·rintro ⟨s, h1, _, ⟨e, ⟨i, h2, rfl⟩, rfl⟩, rfl⟩
      exact ⟨s, h1, _, by omega, by omega, rfl⟩
    ·intro s hs
     simp only [stepL, List.mem_flatMap, List.mem_map] at hs
     obtain ⟨s0, h0, mm, ⟨e, _, rfl⟩, rfl⟩ := hs
     rw [← hP]
     exact Nat.or_lt_two_pow (by rw [hP]; exact hR s0 h0) (meets_lt' u l e)
end Go.Proofs.YtldamlcehbdkdaaGreatDoor
end
section
namespace Go.Proofs.YtldamlcehbdkdaaGreatDoor
open Go Go.TM Go.Proofs
attribute [local irreducible] T.wp CV FWK
theorem against_sub {u : UseFile} {land item day : Int} : ∀ r ∈ against u land item day, r ∈ u.requests := fun r hr => (List.mem_filter.1 hr).1
theorem against_len {u : UseFile} (hck : checkF u = 0) (land item day : Int) : (against u land item day).length ≤ 4 := Nat.le_trans (List.length_filter_le _ _) (check_requests hck).1
theorem c91 {h : LH} {d m : Nat} {f : FileC} {u : UseFile} (k : Desk h.get d m f u) (hck : checkF u = 0) (land item day : Int) :
  De 179 #[.pointer (some ⟨d, 0, none⟩), .int .i64 land, .int .i64 item, .int .i64 day] h d m f u fun r _ => r = .int .i64 (left u land item day) := by
 refine w91 _ _ _ _ X0_ok ?_
 unfold n91
 refine t_gr (c101 k hck land item day) ?_
 rintro _ h₁ le1 ⟨p, n, c, rfl, hl⟩
 have k1 := k.le le1.1
 have hm1 := k1.isMap
 have hdays : ∀ r ∈ against u land item day, 0 ≤ r.day ∧ r.day ≤ 2000 := fun r hr => (check_requests hck).2 r (against_sub r hr)
 have hl4 := against_len hck land item day
 refine gZ ?_
 have hn := hl.1
 refine t_loop (fun mm vs h' => Mv m h₁ h' ∧ Desk h'.get d m f u ∧ ∃ i : Nat, vs = [.bool true, .int .i64 i] ∧ i ≤ n ∧ mm = n - i ∧ ∀ j r, j < i → (against u land item day)[j]? = some r → safe u land item r.day = 1)
  ⟨Mv.refl, k1, 0, rfl, Nat.zero_le _, rfl, fun j r hj => by omega⟩ ?_
 rintro Y mm vs h₂ hY ⟨mv, k2, i, rfl, hi, rfl, hall⟩
 refine gZ ?_
 refine t_if (fun e1 => ?_) (fun e1 => ?_)
 ·obtain ⟨x, a, hx, ha, e2, e3, q, mq, cq, e4, e5⟩ := (hl.rd RequestE.grow (mv.rd hm1)).at (i := i) (by omega)
  refine gZ ?_
  have hxd := hdays x (List.mem_of_getElem? hx)
  refine t_de (c60 k2 (check_num hck) land item x.day hxd) ?_
  rintro _ h₃ mv3 k3 rfl
  refine gZ ?_
  refine t_cond (fun b => ?_) (fun b => ?_)
  ·refine gZ ?_
   refine t_cond (fun e => by cases e) (fun _ => ?_)
   have mv13 := mv.trans mv3
   refine t_de (c102 k3 hck (hl.rd RequestE.grow (mv13.rd hm1)) hl4 hdays land item) ?_
   rintro _ h₄ mv4 k4 rfl
   refine gZ ?_
   have hne : safe u land item x.day ≠ 1 := by simpa using b
   have hnot : ¬ ((against u land item day).all fun r => decide (safe u land item r.day = 1)) = true := by
    intro hh
    have := List.all_eq_true.1 hh x (List.mem_of_getElem? hx)
    exact hne (by simpa using this)
   refine t_cond (fun e => ?_) (fun e => ?_)
   ·refine t_ret ⟨(Mv.of_le le1).trans (mv13.trans mv4), k4, ?_⟩
    have : can u land item (against u land item day) = false := by simpa using e
    rw [left, if_neg hnot, this]; rfl
   ·refine t_ret ⟨(Mv.of_le le1).trans (mv13.trans mv4), k4, ?_⟩
    have : can u land item (against u land item day) = true := by simpa using e
    rw [left, if_neg hnot, this]; rfl
  ·refine t_again (hY (n - (i + 1)) _ _ (by omega) ⟨mv.trans mv3, k3, i + 1, ?_, by omega, rfl, fun j r hj hr => ?_⟩)
   ·rw [wrap_id (by omega) (by omega)]; rfl
   ·by_cases e : j = i
    ·subst e; rw [hx] at hr; cases hr; simpa using b
    ·exact hall j r (by omega) hr
 ·refine gZ ?_
  refine t_cond (fun _ => ?_) (fun e => by cases e)
  refine t_ret ⟨(Mv.of_le le1).trans mv, k2, ?_⟩
  have : ((against u land item day).all fun r => decide (safe u land item r.day = 1)) = true := by
   rw [List.all_eq_true]
   intro r hr
   obtain ⟨j, hj⟩ := List.mem_iff_getElem?.1 hr
   have := hall j r (by have := (List.getElem?_eq_some_iff.1 hj).1; omega) hj
   simpa using this
  rw [left, if_pos this]
def dropM (m : Nat) (h : LH) : LH := { h with get := fun b => if b = m then none else h.get b }
theorem dropM_le {m : Nat} {h h' : LH} (mv : Mv m h h') : (dropM m h).le h' := by
 refine ⟨fun r x hr => ?_, mv.same⟩
 have hr' : (if r = m then none else h.get r) = some x := hr
 split at hr'
 ·cases hr'
 ·exact mv.keep r x (by assumption) hr'
theorem dropM_rd {m : Nat} {h : LH} (hm : ∃ es c, h.get m = some (true, .map es c)) : Rd h.get (dropM m h).get := by
 intro x v hc
 have hne : x.block ≠ m := by
  intro e
  obtain ⟨es, c, hm⟩ := hm
  unfold Cells.cell? at hc
  rw [e, hm] at hc; cases hc
 unfold Cells.cell? at hc ⊢
 show (match (if x.block = m then none else h.get x.block) with | some (_, .cells c _ _) => if x.spot.isSome then none else c[x.off]? | _ => none) = _
 rw [if_neg hne]; exact hc
theorem mv_of_drop {m : Nat} {h h' : LH} (hl : (dropM m h).le h') (hm : ∃ es c, h'.get m = some (true, .map es c)) : Mv m h h' :=
 ⟨fun r x hr hx => hl.1 r x (by show (if r = m then none else h.get r) = _; rw [if_neg hr]; exact hx), fun _ _ _ => hm, hl.2⟩
theorem desk_of_drop {h h' : LH} {d m : Nat} {f : FileC} {u : UseFile} (k : Desk h.get d m f u) (hl : (dropM m h).le h') (hm : ∃ es c, h'.get m = some (true, .map es c) ∧ ∀ e ∈ es.toList, ∃ day : Int, e.key = .agg #[.int .i64 day, .int .i64 u.idle] ∧ e.val = .agg #[.int .i64 (window u day).first, .int .i64 day]) : Desk h'.get d m f u := by
 have hr : Rd h.get h'.get := (dropM_rd k.isMap).trans (Rd.of_le hl.1)
 exact ⟨k.file.rd hr, k.rep.rd hr, fun j hj => hr _ _ (k.counts j hj), hr _ _ k.mapp, hm⟩
theorem t_growD {α : Type} {X : XP} {Q : Leaf → LH → Prop} {Enc : α → List Value → Prop} {h h₁ : LH} {d m : Nat} {f : FileC} {u : UseFile} {k : Value → T} {ts : Array TypeId} {ty sT xT el xe : TypeId} {s by_ : Nat} {z : Value} {p : Option Addr} {n c mc : Nat} {b : Addr} {l : List α} {x : α} {ws : List Value} (kd : Desk h.get d m f u) (k1 : Desk h₁.get d m f u) (mv : Mv m h h₁)
  (h0 : ts[0]? = some sT) (h1 : ts[1]? = some xT) (hu : Tryz.prog.underlying sT = some (.slice el)) (hx : Tryz.prog.underlying xT = some (.slice xe)) (hi : (Tryz.prog.info? el).map (fun i => (i.size, i.bytes, i.zero)) = some (s, by_, some z)) (hsz : z.cells.size = s) (hb : by_ ≤ 1024) (hn : n + 1 ≤ 2 ^ 30) (g : Growing Enc el s (dropM m h).get h₁.get p n c l) (he : Enc x ws) (hl : ws.length = s) (hc : ∀ (j : Nat) v, ws[j]? = some v → h₁.get.cell? (b.add j) = some v) (one : ∀ v ∈ ws, isOne v = true)
  (hk : ∀ p' c' h', Mv m h h' → Desk h'.get d m f u → Growing Enc el s (dropM m h).get h'.get p' (n + 1) c' (l ++ [x]) → (k (.slice p' (n + 1) c')).wp X Tryz.prog Q h') : (T.sem false (Builtin.append_ ts ty #[.slice p n c, .slice (some b) 1 mc]) k).wp X Tryz.prog Q h₁ := by
 have hpm : ∀ a, p = some a → a.block ≠ m := by
  intro a ha e
  obtain ⟨vs, ⟨_, h2⟩, _⟩ := g.row
  obtain ⟨es, c', hm⟩ := k1.isMap
  rcases h2 with ⟨rfl, _⟩ | ⟨r, cs, rfl, hr, _⟩
  ·cases ha
  ·cases ha; subst e; rw [hm] at hr; cases hr
 refine t_grow h0 h1 hu hx hi hsz hb hn g (dropM_le mv) he hl hc one fun p' c' h' hle hkeep g' => ?_
 obtain ⟨es, c0, hm, hv⟩ := k1.map
 have hm' := hkeep m _ hpm hm
 exact hk p' c' h' (mv_of_drop hle ⟨es, c0, hm'⟩) (desk_of_drop kd hle ⟨es, c0, hm', hv⟩) g'
theorem leftAll_take {u : UseFile} {land day : Int} (i : Nat) (hi : i < u.items.toNat) : (leftAll u land day).take (i + 1) = (leftAll u land day).take i ++ [left u land i day] := by
 have hlen : i < (leftAll u land day).length := by unfold leftAll; rw [List.length_map, List.length_range]; exact hi
 rw [List.take_succ_eq_append_getElem hlen]
 congr 2
 simp [leftAll]
theorem c63 {h : LH} {d m : Nat} {f : FileC} {u : UseFile} (k : Desk h.get d m f u) (hck : checkF u = 0) (land day : Int) :
  De 120 #[.pointer (some ⟨d, 0, none⟩), .int .i64 land, .int .i64 day] h d m f u fun r h' => ∃ p n c, r = .slice p n c ∧ Growing IntEnc 74 1 (dropM m h).get h'.get p n c (leftAll u land day) := by
 refine w63 _ _ _ X0_ok ?_
 unfold n63
 obtain ⟨f0, f1, f2, f3, f4, f5, f6⟩ := k.file
 have hit := (num_ok (check_num hck)).1
 refine gZ ?_
 have hlen : (leftAll u land day).length = u.items.toNat := by unfold leftAll; rw [List.length_map, List.length_range]
 refine t_loop (fun mm vs h' => Mv m h h' ∧ Desk h'.get d m f u ∧ ∃ (i : Nat) (p : Option Addr) (n c : Nat), vs = [.slice p n c, .int .i64 i] ∧ i ≤ u.items.toNat ∧ mm = u.items.toNat - i ∧ Growing IntEnc 74 1 (dropM m h).get h'.get p n c ((leftAll u land day).take i))
  ⟨Mv.refl, k, 0, none, 0, 0, rfl, Nat.zero_le _, rfl, Growing.nil⟩ ?_
 rintro Y mm vs h₁ hY ⟨mv, k1, i, p, n, c, rfl, hi, rfl, g⟩
 refine gZ ?_
 refine t_if (fun e1 => ?_) (fun e1 => ?_)
 ·have hm1 := k1.isMap
  refine t_de (c91 k1 hck land i day) ?_
  rintro _ h₂ mv2 k2 rfl
  refine gZ ?_
  have g2 := g.mv hm1 mv2
  refine t_build und40 inf34 (by decide) (by decide) (cells := #[.int .i64 (left u land i day)]) (by kernel_rfl) fun r hr => ?_
  have le3 : h₂.le _ := LH.upd_le (x := (true, .cells #[.int .i64 (left u land i day)] 74 (0, 0))) hr
  have hng := g2.count IntEnc.len (by omega)
  rw [List.length_take] at hng
  refine gZ ?_
  refine t_growD (x := left u land i day) (ws := [.int .i64 (left u land i day)]) k (k2.le le3.1) ((mv.trans mv2).trans (Mv.of_le le3)) rfl rfl und40 und40 inf34 rfl (by omega) (by omega) (g2.le le3.1) rfl rfl ?_ ?_ ?_
  ·intro j w hj
   rw [add_plain, Nat.zero_add]
   exact cell_upd (by simpa using hj)
  ·intro w hw; simp at hw; subst hw; rfl
  ·intro p' c' h₄ mv4 k4 g4
   refine gZ ?_
   refine t_again (hY (u.items.toNat - (i + 1)) _ _ (by omega) ⟨mv4, k4, i + 1, p', n + 1, c', ?_, by omega, rfl, ?_⟩)
   ·rw [wrap_id (by omega) (by omega)]; rfl
   ·rw [leftAll_take i (by omega)]; exact g4
 ·refine gZ ?_
  have : i = u.items.toNat := by omega
  subst this
  rw [List.take_of_length_le (by omega)] at g
  exact t_ret ⟨mv, k1, p, n, c, rfl, g⟩
def LeftR (h' : Cells) (u : UseFile) (land day : Int) (r : Value) : Prop :=
 (openF u [landQ u land, dayQ day] ≠ 0 ∧ r = .tuple #[.slice none 0 0, .int .i64 (openF u [landQ u land, dayQ day])]) ∨
 (openF u [landQ u land, dayQ day] = 0 ∧ ∃ p n c, r = .tuple #[.slice p n c, .int .i64 0] ∧ Sl IntE 1 h' p n (leftAll u land day))
theorem c23 {h : LH} {f : FileC} {u : UseFile} (hp : Parts h.get) (hu : FileR h.get f u) (land day : Int) : Gr Tryz.prog 56 #[fileV f u, .int .i64 land, .int .i64 day] h fun r h' => LeftR h'.get u land day r := by
 refine w23 _ _ _ _ _ _ _ _ _ _ _ _ _ _ _ X0_ok ?_
 unfold n23
 refine t_gr (c58 u land) ?_
 rintro v0 h₁ le1 ⟨q0, a0⟩
 refine gZ ?_
 refine t_gr (c54 u day) ?_
 rintro v1 h₂ le2 ⟨q1, a1⟩
 refine gZ ?_
 refine asks2 q0 (a0.le le2) q1 a1 fun r h₄ le4 hs => ?_
 refine gZ ?_
 have le14 := LH.le_trans (LH.le_trans le1 le2) le4
 refine t_call (c53 (f := f) (hp.le le14.1) (hu.le le14.1) hs) ?_
 rintro v h₅ ⟨le5, ⟨hne, rfl⟩ | ⟨h0, d, m, rfl, hd, hm, k⟩⟩
 ·refine gZ ?_
  refine t_cond (fun _ => ?_) (fun e => absurd (by simpa using e) hne)
  exact t_ret ⟨LH.le_trans le14 le5, .inl ⟨hne, rfl⟩⟩
 ·refine gZ ?_
  refine t_cond (fun e => by cases e) (fun _ => ?_)
  refine t_de (c63 k (open_num h0).2 land day) ?_
  rintro _ h₆ mv k6 ⟨p, n, c, rfl, g⟩
  refine gZ ?_
  refine t_ret ⟨LH.le_trans le14 (Mv.le_of le5 hm mv), .inr ⟨h0, p, n, c, rfl, ?_⟩⟩
  refine g.sl IntEnc.len (by omega) IntEnc.e ?_
  have := (num_ok (open_num h0).1).1
  unfold leftAll; rw [List.length_map, List.length_range]; omega
end Go.Proofs.YtldamlcehbdkdaaGreatDoor
end
section
namespace Go.Proofs.YtldamlcehbdkdaaGreatDoor
open Go Go.TM Go.Proofs
attribute [local irreducible] T.wp CV FWK
def PaperEnc (h₀ : Cells) (x : Paper) (ws : List Value) : Prop := ∃ q m c, ws = [.int .i64 x.days.first, .int .i64 x.days.last, .int .i64 x.land, .slice q m c] ∧ Sl IntE 1 h₀ q m x.items
theorem PaperEnc.len {h₀ : Cells} : ∀ x ws, PaperEnc h₀ x ws → ws.length = 4 := by rintro x _ ⟨q, m, c, rfl, _⟩; rfl
theorem PaperEnc.e {h₀ h' : Cells} (hr : Rd h₀ h') : ∀ a x ws, PaperEnc h₀ x ws → (∀ (j : Nat) w, ws[j]? = some w → h'.cell? (a.add j) = some w) → PaperE h' a x := by
 rintro a x _ ⟨q, m, c, rfl, hs⟩ hc
 exact ⟨hc 0 _ rfl, hc 1 _ rfl, hc 2 _ rfl, q, m, c, hc 3 _ rfl, hs.rd IntE.grow hr⟩
end Go.Proofs.YtldamlcehbdkdaaGreatDoor
end
section
namespace Go.Proofs.YtldamlcehbdkdaaGreatDoor
open Go Go.TM Go.Proofs
attribute [local irreducible] T.wp CV FWK
theorem t_buildG {X : XP} {Q : Leaf → LH → Prop} {h : LH} {k : Value → T} {t el : TypeId} {n s b : Nat} {parts : Array (Nat × Value)} {z : Value} {cells : Array Value} (hu : Tryz.prog.underlying t = some (.slice el)) (hi : (Tryz.prog.info? el).map (fun i => (i.size, i.bytes, i.zero)) = some (s, b, some z)) (hn : n * s ≤ 2 ^ 24) (hpos : n * s ≠ 0)
  (hf : Instr.fill (fun i => some (i * s, s)) ((Array.range (n * s)).map (z.cells[· % z.cells.size]!)) parts.toList = some cells)
  (hk : ∀ r h', h.le h' → h.get r = none → h'.get r = some (true, .cells cells el (0, 0)) → (k (.slice (some ⟨r, 0, none⟩) n n)).wp X Tryz.prog Q h') : (T.sem false (Instr.buildSlice t n parts) k).wp X Tryz.prog Q h :=
 t_build hu hi hn hpos hf fun r hr => hk r _ (LH.upd_le hr) hr (Cells.upd_self _ _ _)
end Go.Proofs.YtldamlcehbdkdaaGreatDoor
end
section
namespace Go.Proofs.YtldamlcehbdkdaaGreatDoor
open Go Go.TM Go.Proofs
attribute [local irreducible] T.wp CV FWK
theorem c15 {h : LH} {f : FileC} {u : UseFile} (hu : FileR h.get f u) : FW X0 Tryz.prog 49 #[fileV f u] h fun r h' => h = h' ∧ ∃ b : Bool, r = .bool b ∧ (b = false → u.excuses.length ≤ 20 ∧ u.papers.length ≤ 20 ∧ u.requests.length ≤ 20) := by
 refine w15 _ _ _ _ _ _ _ _ _ _ _ _ _ X0_ok ?_
 unfold n15
 have x0 := hu.excuses.1
 have p0 := hu.papers.1
 have r0 := hu.requests.1
 have pb := hu.papers.2.1
 have rb := hu.requests.2.1
 refine t_blk (fun vs h' => vs = [.bool false] ∧ h = h' ∧ u.excuses.length ≤ 20 ∧ u.papers.length ≤ 20 ∧ u.requests.length ≤ 20) ?_ ?_
 ·refine t_if (fun e1 => ?_) (fun e1 => ?_)
  ·refine gZ ?_
   exact t_ret ⟨rfl, true, rfl, fun e => by cases e⟩
  refine t_if (fun e2 => ?_) (fun e2 => ?_)
  ·refine gZ ?_
   exact t_ret ⟨rfl, true, rfl, fun e => by cases e⟩
  refine t_if (fun e3 => ?_) (fun e3 => ?_)
  ·refine gZ ?_
   exact t_ret ⟨rfl, true, rfl, fun e => by cases e⟩
  exact t_again ⟨rfl, rfl, by omega, by omega, by omega⟩
 rintro vs _ ⟨rfl, rfl, h1, h2, h3⟩
 refine gZ ?_
 refine t_loop (fun mm vs h' => h = h' ∧ ∃ i : Nat, vs = [.bool false, .int .i64 i] ∧ i ≤ f.n5 ∧ mm = f.n5 - i) ⟨rfl, 0, rfl, Nat.zero_le _, rfl⟩ ?_
 rintro Y mm vs _ hY ⟨rfl, i, rfl, hi, rfl⟩
 refine gZ ?_
 refine t_if (fun e => ?_) (fun e => ?_)
 ·obtain ⟨x, a1, hx, ha1, e1, e2, e3, q, m, c, e4, e5⟩ := hu.papers.at (i := i) (by omega)
  refine gZ ?_
  refine t_if (fun e6 => ?_) (fun e6 => ?_)
  ·refine gZ ?_
   exact t_ret ⟨rfl, true, rfl, fun e => by cases e⟩
  ·refine t_again (hY (f.n5 - (i + 1)) _ _ (by omega) ⟨rfl, i + 1, ?_, by omega, rfl⟩)
   rw [wrap_id (by omega) (by omega)]; rfl
 ·refine gZ ?_
  refine t_loop (fun mm vs h' => h = h' ∧ ∃ i : Nat, vs = [.bool false, .int .i64 i] ∧ i ≤ f.n6 ∧ mm = f.n6 - i) ⟨rfl, 0, rfl, Nat.zero_le _, rfl⟩ ?_
  rintro Y2 mm vs _ hY2 ⟨rfl, i, rfl, hi, rfl⟩
  refine gZ ?_
  refine t_if (fun e => ?_) (fun e => ?_)
  ·obtain ⟨x, a1, hx, ha1, e1, e2, q, m, c, e4, e5⟩ := hu.requests.at (i := i) (by omega)
   refine gZ ?_
   refine t_if (fun e6 => ?_) (fun e6 => ?_)
   ·refine gZ ?_
    exact t_ret ⟨rfl, true, rfl, fun e => by cases e⟩
   ·refine t_again (hY2 (f.n6 - (i + 1)) _ _ (by omega) ⟨rfl, i + 1, ?_, by omega, rfl⟩)
    rw [wrap_id (by omega) (by omega)]; rfl
  ·refine gZ ?_
   exact t_ret ⟨rfl, false, rfl, fun _ => ⟨h1, h2, h3⟩⟩
end Go.Proofs.YtldamlcehbdkdaaGreatDoor
end
section
namespace Go.Proofs.YtldamlcehbdkdaaGreatDoor
open Go Go.TM Go.Proofs
attribute [local irreducible] T.wp CV FWK
theorem t_pushI {X : XP} {Q : Leaf → LH → Prop} {h h₀ : LH} {k : Value → T} {p : Option Addr} {n c : Nat} {l : List Int} {x : Int} (g : Growing IntEnc 3 1 h₀.get h.get p n c l) (hle : h₀.le h) (hn : n + 1 ≤ 2 ^ 30)
  (hk : ∀ p' c' h', h₀.le h' → Growing IntEnc 3 1 h₀.get h'.get p' (n + 1) c' (l ++ [x]) → (k (.slice p' (n + 1) c')).wp X Tryz.prog Q h') :
  (T.sem false (Instr.buildSlice 30 1 #[(0, .int .i64 x)]) fun v => T.unS v fun a m c2 => T.sem false (Builtin.append_ #[30, 30] 30 #[.slice p n c, .slice a m c2]) k).wp X Tryz.prog Q h := by
 refine t_build und50 inf3 (by decide) (by decide) (cells := #[.int .i64 x]) (by kernel_rfl) fun r hr => ?_
 have le2 : h.le _ := LH.upd_le (x := (true, .cells #[.int .i64 x] 3 (0, 0))) hr
 refine gG ?_
 refine t_grow (h₀ := h₀) (x := x) (ws := [.int .i64 x]) rfl rfl und50 und50 inf3 rfl (by omega) hn (g.le le2.1) (LH.le_trans hle le2) rfl rfl ?_ ?_ ?_
 ·intro j w hj
  rw [add_plain, Nat.zero_add]
  exact cell_upd (by simpa using hj)
 ·intro w hw; simp at hw; subst hw; rfl
 ·intro p' c' h₂ hle2 _ g2
  exact hk p' c' h₂ hle2 g2
end Go.Proofs.YtldamlcehbdkdaaGreatDoor
end
section
namespace Go.Proofs.YtldamlcehbdkdaaGreatDoor
open Go Go.TM Go.Proofs
attribute [local irreducible] T.wp CV FWK
theorem LeftR.form {h' : Cells} {u : UseFile} {land day : Int} {r : Value} (hr : LeftR h' u land day r) : ∃ p n c, r = .tuple #[.slice p n c, .int .i64 (openF u [landQ u land, dayQ day])] ∧ Sl IntE 1 h' p n (if openF u [landQ u land, dayQ day] = 0 then leftAll u land day else []) := by
 rcases hr with ⟨h1, rfl⟩ | ⟨h1, p, n, c, rfl, s⟩
 ·exact ⟨none, 0, 0, rfl, by rw [if_neg h1]; exact Sl.nil⟩
 ·exact ⟨p, n, c, by rw [h1], by rw [if_pos h1]; exact s⟩
end Go.Proofs.YtldamlcehbdkdaaGreatDoor
end
section
namespace Go.Proofs.YtldamlcehbdkdaaGreatDoor
open Go Go.TM Go.Proofs
attribute [local irreducible] T.wp CV FWK
theorem c36 {h : LH} {f : FileC} {u : UseFile} (hu : FileR h.get f u) : FW X0 Tryz.prog 11 #[fileV f u] h fun r h' => h = h' ∧ ∃ b : Bool, r = .bool b ∧ (b = true → checkF u = 0) := by
 refine w36 _ _ _ _ _ _ _ _ _ _ _ _ _ X0_ok ?_
 unfold n36
 refine t_call (c15 hu) ?_
 rintro _ _ ⟨rfl, b, rfl, hb⟩
 refine gZ ?_
 refine t_cond (fun _ => ?_) (fun _ => ?_)
 ·refine t_pu (c27 hu) ?_
  refine gZ ?_
  exact t_ret ⟨rfl, _, rfl, fun e => by simpa using e⟩
 ·exact t_ret ⟨rfl, _, rfl, fun e => by cases e⟩
theorem wrap_u16 {n : Int} (h : 0 ≤ n ∧ n ≤ 65535) : IntKind.i64.wrap n = n := wrap_id (by omega) (by omega)
theorem tmod_nn {a b : Int} (ha : 0 ≤ a) : Int.tmod a b = a % b := by rw [Int.tmod_eq_emod_of_nonneg ha]
theorem mod_day {n : Int} : 0 ≤ n % 2001 ∧ n % 2001 ≤ 2000 := by omega
theorem c37 {h : LH} {n : Int} (hn : 0 ≤ n ∧ n ≤ 65535) : Pu Tryz.prog 14 #[.int .u16 n] h (.int .i64 (n % 2001)) := by
 refine w37 _ X0_ok ?_
 unfold n37
 refine gT (by omega) ?_
 rw [wrap_u16 hn, tmod_nn hn.1]
 exact t_ret ⟨rfl, rfl⟩
end Go.Proofs.YtldamlcehbdkdaaGreatDoor
end
section
namespace Go.Proofs.YtldamlcehbdkdaaGreatDoor
open Go Go.TM Go.Proofs
attribute [local irreducible] T.wp CV FWK
theorem openF_all {u : UseFile} (hck : checkF u = 0) : ∀ {l : List Int}, (∀ x ∈ l, x = 0) → openF u l = 0 := by
 intro l hl
 rw [openF, if_neg (by simp [hck])]
 have key : ∀ (l : List Int) (i : Nat), (∀ x ∈ l, x = 0) → firstF (fun _ x => x) i l = 0 := by
  intro l
  induction l with
  | nil => intro i _; rfl
  | cons y l ih =>
   intro i h
   rw [firstF, if_neg (by simp [h y (by simp)])]
   exact ih _ fun x hx => h x (by simp [hx])
 exact key l 0 hl
theorem landQ_ok {u : UseFile} {k : Int} (h : 0 ≤ k ∧ k < u.lands) : landQ u k = 0 := by
 unfold landQ isIn
 rw [if_pos]; simp; omega
theorem dayQ_ok {d : Int} (h : 0 ≤ d ∧ d ≤ 2000) : dayQ d = 0 := by
 unfold dayQ isDay isIn
 rw [if_pos]; simp; omega
theorem leftQ_ok {u : UseFile} (hck : checkF u = 0) {k d : Int} (hk : 0 ≤ k ∧ k < u.lands) (hd : 0 ≤ d ∧ d ≤ 2000) : openF u [landQ u k, dayQ d] = 0 :=
 openF_all hck (by intro x hx; simp at hx; rcases hx with rfl | rfl; exact landQ_ok hk; exact dayQ_ok hd)
end Go.Proofs.YtldamlcehbdkdaaGreatDoor
end
section
namespace Go.Proofs.YtldamlcehbdkdaaGreatDoor
open Go Go.TM Go.Proofs
attribute [local irreducible] T.wp CV FWK
def PaperB (h0 : Cells) (h : Cells) (a : Addr) (x : Paper) : Prop := ∃ q m c, (∀ (j : Nat) w, [Value.int .i64 x.days.first, .int .i64 x.days.last, .int .i64 x.land, .slice q m c][j]? = some w → h.cell? (a.add j) = some w) ∧ Sl IntE 1 h0 q m x.items
theorem paperTold {h0 h : Cells} : ToldE (PaperB h0) (PaperEnc h0) 4 h := by
 rintro a x ⟨q, m, c, h1, h2⟩
 exact ⟨_, ⟨q, m, c, rfl, h2⟩, rfl, h1, fun w hw => by simp at hw; rcases hw with rfl | rfl | rfl | rfl <;> rfl⟩
theorem PaperB.of {h0 h : Cells} (hr : Rd h0 h) {p : Option Addr} {n : Nat} {l : List Paper} (s : Sl PaperE 4 h0 p n l) : Sl (PaperB h0) 4 h p n l := by
 refine ⟨s.1, s.2.1, fun i x hx => ?_⟩
 obtain ⟨a, ha, h1, h2, h3, q, m, c, h4, h5⟩ := s.2.2 i x hx
 refine ⟨a, ha, q, m, c, fun j w hj => ?_, h5⟩
 match j, hj with
 | 0, hj => cases hj; exact hr _ _ h1
 | 1, hj => cases hj; exact hr _ _ h2
 | 2, hj => cases hj; exact hr _ _ h3
 | 3, hj => cases hj; exact hr _ _ h4
 | j + 4, hj => simp at hj
theorem row_stands {h h' : Cells} {r : Nat} {cs : Array Value} {el : TypeId} {ws : List Value} (hr : h r = some (true, .cells cs el (0, 0))) (hc : ∀ (j : Nat) w, ws[j]? = some w → cs[j]? = some w) (hk : h' r = h r) (j : Nat) (w : Value) (hj : ws[j]? = some w) : h'.cell? ((⟨r, 0, none⟩ : Addr).add j) = some w := by
 rw [add_plain, Nat.zero_add]
 unfold Cells.cell?
 rw [hk, hr]
 exact hc j w hj
section
variable {X : XP} {Q : Leaf → LH → Prop}
theorem copy_end1 {α : Type} {Enc : α → List Value → Prop} {h h₁ : LH} {K : Value → T} {tS el : TypeId} {s by_ : Nat} {z : Value} {p : Option Addr} {n c : Nat} {l : List α} {x : α} {ws : List Value} {r : Nat} {cs : Array Value} (hu : Tryz.prog.underlying tS = some (.slice el)) (hi : (Tryz.prog.info? el).map (fun i => (i.size, i.bytes, i.zero)) = some (s, by_, some z)) (hsz : z.cells.size = s) (hb : by_ ≤ 1024) (hn : n + 1 ≤ 2 ^ 30)
  (g : Growing Enc el s h.get h₁.get p n c l) (hle : h.le h₁) (he : Enc x ws) (hl : ws.length = s) (one : ∀ v ∈ ws, isOne v = true) (hr : h₁.get r = some (true, .cells cs el (0, 0))) (hc : ∀ (j : Nat) w, ws[j]? = some w → cs[j]? = some w)
  (hk : ∀ p' c' h', h.le h' → Growing Enc el s h.get h'.get p' (n + 1) c' (l ++ [x]) → (K (.slice p' (n + 1) c')).wp X Tryz.prog Q h') : (T.sem false (Builtin.append_ #[tS, tS] tS #[.slice p n c, .slice (some ⟨r, 0, none⟩) 1 1]) K).wp X Tryz.prog Q h₁ :=
 t_grow (h₀ := h) (x := x) (ws := ws) rfl rfl hu hu hi hsz hb hn g hle he hl (fun j v hj => row_stands hr hc rfl j v hj) one fun p' c' h' a _ b => hk p' c' h' a b
end
def PaperEnd (h : LH) (f : FileC) (u : UseFile) (y : Paper) (vs : List Value) (h' : LH) : Prop := ∃ p n c, vs = [.int .i64 u.items, .int .i64 u.lands, .int .i64 u.from_, .int .i64 u.idle, .slice f.p4 f.n4 f.c4, .slice p n c, .slice f.p6 f.n6 f.c6] ∧ h.le h' ∧ FileR h'.get { f with p5 := p, n5 := n, c5 := c } { u with papers := u.papers ++ [y] }
theorem paperEnd_of {h h' : LH} {f : FileC} {u : UseFile} {y : Paper} (hu : FileR h.get f u) (h8 : u.papers.length ≤ 8) {p : Option Addr} {n c : Nat} (hle : h.le h') (g : Growing (PaperEnc h.get) 32 4 h.get h'.get p n c (u.papers ++ [y])) : PaperEnd h f u y [.int .i64 u.items, .int .i64 u.lands, .int .i64 u.from_, .int .i64 u.idle, .slice f.p4 f.n4 f.c4, .slice p n c, .slice f.p6 f.n6 f.c6] h' :=
 ⟨p, n, c, rfl, hle, (hu.le hle.1).excuses, g.sl PaperEnc.len (by omega) (PaperEnc.e (Rd.of_le hle.1)) (by simp; omega), (hu.le hle.1).requests⟩
end Go.Proofs.YtldamlcehbdkdaaGreatDoor
end
section
namespace Go.Proofs.YtldamlcehbdkdaaGreatDoor
open Go Go.TM Go.Proofs
set_option linter.unusedVariables false
set_option maxRecDepth 100000
variable {X : XP} {h : LH} {A : Value → LH → Prop}
noncomputable def n3103 (x_0 x_1 x_2 x_3 x_4 x_5 : Int) (x_6p : Option Addr) (x_6n x_6c : Nat) (u_0 u_1 u_2 u_3 : Int) (u_4p : Option Addr) (u_4n u_4c : Nat) (u_5p : Option Addr) (u_5n u_5c : Nat) (u_6p : Option Addr) (u_6n u_6c : Nat) (p_0 p_1 p_2 : Int) (p_3p : Option Addr) (p_3n p_3c : Nat) (land on later : Int) : T := .blk (.call false 32 #[.agg #[.int .i64 x_0, .int .i64 x_1, .int .i64 x_2, .int .i64 x_3, .int .i64 x_4, .int .i64 x_5, .slice x_6p x_6n x_6c]] fun v => .unB v fun b => bif !b then .call false 33 #[] fun v => .unB v fun b => .leaf (.retn [.bool b]) else .call false 11 #[.agg #[.int .i64 u_0, .int .i64 u_1, .int .i64 u_2, .int .i64 u_3, .slice u_4p u_4n u_4c, .slice u_5p u_5n u_5c, .slice u_6p u_6n u_6c]] fun v => .unB v fun b => bif !b then .call false 33 #[] fun v => .unB v fun b => .leaf (.retn [.bool b]) else bif decide ((↑p_3n : Int) > 20) then .call false 33 #[] fun v => .unB v fun b => .leaf (.retn [.bool b]) else .leaf (.again [.bool false])) (fun vs => .popB vs fun b vs => .unNil vs (.blk (.both (.sem false (Instr.buildSlice 23 0 #[]) fun v => .unS v fun a n c => .nd (.agg #[.int .i64 p_0, .int .i64 p_1, .int .i64 p_2, .slice p_3p p_3n p_3c]) (.nd (.slice u_5p u_5n u_5c) (.need (AV.pp 7 5 = AV.pp 7 5) (.both (.sem false (Builtin.append_ #[23, 23] 23 #[.slice a n c, .slice u_5p u_5n u_5c]) fun v => .unS v fun a n c => .nd (.agg #[.int .i64 p_0, .int .i64 p_1, .int .i64 p_2, .slice p_3p p_3n p_3c]) (.need (AV.pp 7 5 = AV.pp 7 5) (.sem false (Instr.buildSlice 23 1 #[(0, .agg #[.int .i64 p_0, .int .i64 p_1, .int .i64 p_2, .slice p_3p p_3n p_3c])]) fun v => .unS v fun a_1 n_1 c_1 => .need (AV.pp 7 5 = AV.pp 7 5) (.sem false (Builtin.append_ #[23, 23] 23 #[.slice a n c, .slice a_1 n_1 c_1]) fun v => .unS v fun a n c => .need (AV.pp 7 5 = AV.pp 7 5) (.leaf (.again [.int .i64 u_0, .int .i64 u_1, .int .i64 u_2, .int .i64 u_3, .slice u_4p u_4n u_4c, .slice a n c, .slice u_6p u_6n u_6c])))))) (.sem false (Instr.buildSlice 23 1 #[(0, .agg #[.int .i64 p_0, .int .i64 p_1, .int .i64 p_2, .slice p_3p p_3n p_3c])]) fun v => .unS v fun a_1 n_1 c_1 => .nd (.slice u_5p u_5n u_5c) (.need (AV.pp 7 5 = AV.pp 7 5) (.sem false (Builtin.append_ #[23, 23] 23 #[.slice a n c, .slice u_5p u_5n u_5c]) fun v => .unS v fun a n c => .need (AV.pp 7 5 = AV.pp 7 5) (.sem false (Builtin.append_ #[23, 23] 23 #[.slice a n c, .slice a_1 n_1 c_1]) fun v => .unS v fun a n c => .need (AV.pp 7 5 = AV.pp 7 5) (.leaf (.again [.int .i64 u_0, .int .i64 u_1, .int .i64 u_2, .int .i64 u_3, .slice u_4p u_4n u_4c, .slice a n c, .slice u_6p u_6n u_6c])))))))))) (.sem false (Instr.buildSlice 23 1 #[(0, .agg #[.int .i64 p_0, .int .i64 p_1, .int .i64 p_2, .slice p_3p p_3n p_3c])]) fun v => .unS v fun a n c => .nd (.slice u_5p u_5n u_5c) (.need (AV.pp 7 5 = AV.pp 7 5) (.sem false (Instr.buildSlice 23 0 #[]) fun v => .unS v fun a_1 n_1 c_1 => .nd (.slice u_5p u_5n u_5c) (.need (AV.pp 7 5 = AV.pp 7 5) (.sem false (Builtin.append_ #[23, 23] 23 #[.slice a_1 n_1 c_1, .slice u_5p u_5n u_5c]) fun v => .unS v fun a_2 n_2 c_2 => .need (AV.pp 7 5 = AV.pp 7 5) (.sem false (Builtin.append_ #[23, 23] 23 #[.slice a_2 n_2 c_2, .slice a n c]) fun v => .unS v fun a n c => .need (AV.pp 7 5 = AV.pp 7 5) (.leaf (.again [.int .i64 u_0, .int .i64 u_1, .int .i64 u_2, .int .i64 u_3, .slice u_4p u_4n u_4c, .slice a n c, .slice u_6p u_6n u_6c]))))))))) (fun vs => .popI .i64 vs fun n vs => .popI .i64 vs fun n_1 vs => .popI .i64 vs fun n_2 vs => .popI .i64 vs fun n_3 vs => .popS vs fun a n_4 c vs => .popS vs fun a_1 n_5 c_1 vs => .popS vs fun a_2 n_6 c_2 vs => .unNil vs (.call false 34 #[.agg #[.int .i64 n, .int .i64 n_1, .int .i64 n_2, .int .i64 n_3, .slice a n_4 c, .slice a_1 n_5 c_1, .slice a_2 n_6 c_2]] fun v => .unI .i64 v fun n_7 => bif n_7 != 0 then .call false 33 #[] fun v => .unB v fun b => .leaf (.ret (.bool b)) else .need ((if u_1 < x_1 then u_1 else x_1) ≠ 0) (.call false 14 #[.int .u16 on] fun v => .unI .i64 v fun n_8 => .call false 35 #[.agg #[.int .i64 x_0, .int .i64 x_1, .int .i64 x_2, .int .i64 x_3, .int .i64 x_4, .int .i64 x_5, .slice x_6p x_6n x_6c], .agg #[.int .i64 u_0, .int .i64 u_1, .int .i64 u_2, .int .i64 u_3, .slice u_4p u_4n u_4c, .slice u_5p u_5n u_5c, .slice u_6p u_6n u_6c], .int .i64 (Int.tmod (IntKind.wrap .i64 land) (if u_1 < x_1 then u_1 else x_1)), .int .i64 n_8] fun v => .unTup v fun l => .unCons l fun v vs => .unAgg v fun l => .popI .i64 l fun n_9 vs_1 => .popI .i64 vs_1 fun n_10 vs_2 => .popI .i64 vs_2 fun n_11 vs_3 => .popI .i64 vs_3 fun n_12 vs_4 => .popI .i64 vs_4 fun n_13 vs_5 => .popI .i64 vs_5 fun n_14 vs_6 => .popS vs_6 fun a_3 n_15 c_3 vs_7 => .unNil vs_7 (.unCons vs fun v vs => .unB v fun b_1 => .unCons vs fun v vs => .unB v fun b_2 => .unNil vs (.call false 35 #[.agg #[.int .i64 x_0, .int .i64 x_1, .int .i64 x_2, .int .i64 x_3, .int .i64 x_4, .int .i64 x_5, .slice x_6p x_6n x_6c], .agg #[.int .i64 n, .int .i64 n_1, .int .i64 n_2, .int .i64 n_3, .slice a n_4 c, .slice a_1 n_5 c_1, .slice a_2 n_6 c_2], .int .i64 (Int.tmod (IntKind.wrap .i64 land) (if u_1 < x_1 then u_1 else x_1)), .int .i64 n_8] fun v => .unTup v fun l => .unCons l fun v vs => .unAgg v fun l => .popI .i64 l fun n vs_8 => .popI .i64 vs_8 fun n_16 vs_9 => .popI .i64 vs_9 fun n_17 vs_10 => .popI .i64 vs_10 fun n_18 vs_11 => .popI .i64 vs_11 fun n_19 vs_12 => .popI .i64 vs_12 fun n_20 vs_13 => .popS vs_13 fun a n_21 c vs_14 => .unNil vs_14 (.unCons vs fun v vs => .unB v fun b_3 => .unCons vs fun v vs => .unB v fun b_4 => .unNil vs (.blk (bif !b_2 then .leaf (.retn [.bool false]) else bif !b_4 then .leaf (.retn [.bool false]) else .leaf (.again [.bool b])) (fun vs => .popB vs fun b vs => .unNil vs (.blk (bif !b_1 then .call false 33 #[] fun v => .unB v fun b => .leaf (.retn [.bool b]) else bif !b_3 then .call false 33 #[] fun v => .unB v fun b => .leaf (.retn [.bool b]) else .leaf (.again [.bool b])) (fun vs => .popB vs fun b vs => .unNil vs (.call false 36 #[.agg #[.int .i64 n, .int .i64 n_16, .int .i64 n_17, .int .i64 n_18, .int .i64 n_19, .int .i64 n_20, .slice a n_21 c], .agg #[.int .i64 n_9, .int .i64 n_10, .int .i64 n_11, .int .i64 n_12, .int .i64 n_13, .int .i64 n_14, .slice a_3 n_15 c_3], .int .i64 (Int.tmod (IntKind.wrap .i64 land) (if u_1 < x_1 then u_1 else x_1)), .int .i64 (if IntKind.wrap .i64 (n_8 + IntKind.wrap .i64 later) < 9999 then IntKind.wrap .i64 (n_8 + IntKind.wrap .i64 later) else 9999)] fun v => .unB v fun b => bif b then .call false 36 #[.agg #[.int .i64 n, .int .i64 n_16, .int .i64 n_17, .int .i64 n_18, .int .i64 n_19, .int .i64 n_20, .slice a n_21 c], .agg #[.int .i64 n_9, .int .i64 n_10, .int .i64 n_11, .int .i64 n_12, .int .i64 n_13, .int .i64 n_14, .slice a_3 n_15 c_3], .int .i64 (Int.tmod (IntKind.wrap .i64 land) (if u_1 < x_1 then u_1 else x_1)), .int .i64 n_8] fun v => .unB v fun b => bif b then .call false 33 #[] fun v => .unB v fun b => .leaf (.ret (.bool b)) else .leaf (.ret (.bool false)) else .leaf (.ret (.bool false)))) (fun vs => .popB vs fun b vs => .unNil vs (.leaf (.ret (.bool b)))) fun x x_6 => .fail)) (fun vs => .popB vs fun b vs => .unNil vs (.leaf (.ret (.bool b)))) fun x x_6 => .fail))))))) (fun vs => .popI .i64 vs fun n vs => .popI .i64 vs fun n vs => .popI .i64 vs fun n vs => .popI .i64 vs fun n vs => .popS vs fun a n c vs => .popS vs fun a n c vs => .popS vs fun a n c vs => .unNil vs (.leaf (.ret (.bool b)))) fun x x_6 => .fail)) (fun vs => .popB vs fun b vs => .unNil vs (.leaf (.ret (.bool b)))) fun x x_6 => .fail
theorem w3103 (x_0 x_1 x_2 x_3 x_4 x_5 : Int) (x_6p : Option Addr) (x_6n x_6c : Nat) (u_0 u_1 u_2 u_3 : Int) (u_4p : Option Addr) (u_4n u_4c : Nat) (u_5p : Option Addr) (u_5n u_5c : Nat) (u_6p : Option Addr) (u_6n u_6c : Nat) (p_0 p_1 p_2 : Int) (p_3p : Option Addr) (p_3n p_3c : Nat) (land on later : Int) (hX : XOK X) (hw : (n3103 x_0 x_1 x_2 x_3 x_4 x_5 x_6p x_6n x_6c u_0 u_1 u_2 u_3 u_4p u_4n u_4c u_5p u_5n u_5c u_6p u_6n u_6c p_0 p_1 p_2 p_3p
  p_3n p_3c land on later).wp X Tryz.prog (retQ A) h) : FWK X Tryz.prog .normal 6 #[.agg #[.int .i64 x_0, .int .i64 x_1, .int .i64 x_2, .int .i64 x_3, .int .i64 x_4, .int .i64 x_5, .slice x_6p x_6n x_6c], .agg #[.int .i64 u_0, .int .i64 u_1, .int .i64 u_2, .int .i64 u_3, .slice u_4p u_4n u_4c, .slice u_5p u_5n u_5c, .slice u_6p u_6n u_6c], .agg #[.int .i64 p_0, .int .i64 p_1, .int .i64 p_2, .slice p_3p p_3n p_3c], .int .u8 land, .int .u16 on, .int .u16 later] h A := fwk_neat (show ftree ({ P := Tryz.prog, priv := [6, 7, 8, 13, 17, 20], loops := [], joins := [{ id := 16, slots := [(12, .bool)], ro := [6, 7, 8, 13, 17, 20], outs := [] }, { id := 14, slots := [(12, .bool)], ro := [6, 7, 8, 13, 17, 20], outs := [] }, { id := 5, slots := [(57344, .int .i64), (57345, .int .i64), (57346, .int .i64), (57347, .int .i64), (57348, .slice), (57349, .slice), (57350, .slice)], ro := [6, 7, 8], outs := [] }, { id := 3, slots := [(12, .bool)], ro := [6, 7, 8], outs := [] }] }) Tryz.f6 [.agg #[.int .i64 x_0, .int .i64 x_1, .int .i64 x_2, .int .i64 x_3, .int .i64 x_4, .int .i64 x_5, .slice x_6p x_6n x_6c], .agg #[.int .i64 u_0, .int .i64 u_1, .int .i64 u_2, .int .i64 u_3, .slice u_4p u_4n u_4c, .slice u_5p u_5n u_5c, .slice u_6p u_6n u_6c], .agg #[.int .i64 p_0, .int .i64 p_1, .int .i64 p_2, .slice p_3p p_3n p_3c], .int .u8 land, .int .u16 on, .int .u16 later] = n3103 x_0 x_1 x_2 x_3 x_4 x_5 x_6p x_6n x_6c u_0 u_1 u_2 u_3 u_4p u_4n u_4c u_5p u_5n u_5c u_6p u_6n u_6c p_0 p_1 p_2 p_3p
  p_3n p_3c land on later by kernel_rfl) (by simp) (by kernel_rfl) (by kernel_rfl) hX hw
noncomputable def n3124 (x_0 x_1 x_2 x_3 x_4 x_5 : Int) (x_6p : Option Addr) (x_6n x_6c : Nat) (u_0 u_1 u_2 u_3 : Int) (u_4p : Option Addr) (u_4n u_4c : Nat) (u_5p : Option Addr) (u_5n u_5c : Nat) (u_6p : Option Addr) (u_6n u_6c : Nat) (land day : Int) : T := .call false 56 #[.agg #[.int .i64 u_0, .int .i64 u_1, .int .i64 u_2, .int .i64 u_3, .slice u_4p u_4n u_4c, .slice u_5p u_5n u_5c, .slice u_6p u_6n u_6c], .int .i64 land, .int .i64 day] fun v => .unTup v fun l => .unCons l fun v vs => .unS v fun a n c => .unCons vs fun v vs => .unI .i64 v fun n_1 => .unNil vs (.loop [.int .i64 0, .int .i64 3, .int .i64 day, .int .i64 land, .slice none 0 0, .int .i64 0] (fun vs => .popI .i64 vs fun n_2 vs => .popI .i64 vs fun n_3 vs => .popI .i64 vs fun n_4 vs => .popI .i64 vs fun n_5 vs => .popS vs fun a_1 n_6 c vs => .popI .i64 vs fun n_7 vs => .unNil vs (.blk (bif decide (n_2 < (↑n : Int)) then bif decide (n_2 < x_0) then .leaf (.again []) else .leaf (.out 0 []) else .leaf (.out 0 [])) (fun vs => .unNil vs (.need (0 ≤ n_2 ∧ n_2 < (↑n : Int)) (.someA a fun a => .loadI .i64 (a.add (n_2.toNat * 1)) fun n => bif n != 1 then .sem false (Instr.buildSlice 30 1 #[(0, .int .i64 n_2)]) fun v => .unS v fun a n c_1 => .sem false (Builtin.append_ #[30, 30] 30 #[.slice a_1 n_6 c, .slice a n c_1]) fun v => .unS v fun a n c => .leaf (.again [.int .i64 (IntKind.wrap .i64 (n_2 + 1)), .int .i64 n_3, .int .i64 n_4, .int .i64 n_5, .slice a n c, .int .i64 n_7]) else .leaf (.again [.int .i64 (IntKind.wrap .i64 (n_2 + 1)), .int .i64 n_3, .int .i64 n_4, .int .i64 n_5, .slice a_1 n_6 c, .int .i64 n_7])))) (fun vs => .unNil vs (.leaf (.retn [.int .i64 n_2, .int .i64 n_3, .int .i64 n_4, .int .i64 n_5, .slice a_1 n_6 c, .int .i64 n_7]))) fun x x_6 => bif Nat.beq x 0 then .unNil x_6 (.leaf (.brk [.int .i64 n_2, .int .i64 n_3, .int .i64 n_4, .int .i64 n_5, .slice a_1 n_6 c, .int .i64 n_7])) else .fail)) (fun vs => .popI .i64 vs fun n_2 vs => .popI .i64 vs fun n_3 vs => .popI .i64 vs fun n_4 vs => .popI .i64 vs fun n_5 vs => .popS vs fun a_1 n_6 c_1 vs => .popI .i64 vs fun n_7 vs => .unNil vs (.call false 37 #[.agg #[.int .i64 x_0, .int .i64 x_1, .int .i64 x_2, .int .i64 x_3, .int .i64 x_4, .int .i64 x_5, .slice x_6p x_6n x_6c], .agg #[.int .i64 n_3, .int .i64 n_4, .int .i64 n_5, .slice a_1 n_6 c_1, .int .i64 n_7]] fun v => .unTup v fun l => .unCons l fun v vs => .unAgg v fun l => .popI .i64 l fun n_8 vs_1 => .popI .i64 vs_1 fun n_9 vs_2 => .popI .i64 vs_2 fun n_10 vs_3 => .popI .i64 vs_3 fun n_11 vs_4 => .popI .i64 vs_4 fun n_12 vs_5 => .popI .i64 vs_5 fun n_13 vs_6 => .popS vs_6 fun a_2 n_14 c_2 vs_7 => .unNil vs_7 (.unCons vs fun v vs => .unB v fun b => .unNil vs (bif n_1 == 0 then .nd (.bool ((↑n : Int) == u_0)) (.nd (.bool ((↑n : Int) == u_0)) (.nd (.int .i64 u_0) (.need (AV.pp 5 0 = AV.pp 5 0) (.nd (.int .i64 (↑n : Int)) (.nd (.slice a n c) (.nd (.bool (n_1 == 0)) (.nd (.int .i64 n_1) (.nd (.bool b) (.nd (.bool ((↑n : Int) == u_0)) (.nd (.bool ((↑n : Int) == u_0)) (.nd (.int .i64 u_0) (.need (AV.pp 5 0 = AV.pp 5 0) (.nd (.int .i64 (↑n : Int)) (.nd (.slice a n c) (.nd (.bool (n_1 == 0)) (.nd (.int .i64 n_1) (.leaf (.ret (.tuple #[.agg #[.int .i64 n_8, .int .i64 n_9, .int .i64 n_10, .int .i64 n_11, .int .i64 n_12, .int .i64 n_13, .slice a_2 n_14 c_2], .bool b, .bool ((↑n : Int) == u_0)]))))))))))))))))))) else .both (.nd (.tuple #[]) (.nd (.tuple #[]) (.nd (.bool (n_1 == 0)) (.nd (.int .i64 n_1) (.nd (.bool b) (.nd (.agg #[.int .i64 n_8, .int .i64 n_9, .int .i64 n_10, .int .i64 n_11, .int .i64 n_12, .int .i64 n_13, .slice a_2 n_14 c_2]) (.both (.nd (.tuple #[]) (.nd (.bool (n_1 == 0)) (.nd (.int .i64 n_1) (.nd (.bool b) (.nd (.agg #[.int .i64 n_8, .int .i64 n_9, .int .i64 n_10, .int .i64 n_11, .int .i64 n_12, .int .i64 n_13, .slice a_2 n_14 c_2]) (.nd (.bool false) (.nd (.tuple #[]) (.nd (.bool (n_1 == 0)) (.nd (.int .i64 n_1) (.nd (.bool b) (.nd (.bool false) (.nd (.tuple #[]) (.nd (.bool (n_1 == 0)) (.nd (.int .i64 n_1) (.leaf (.ret (.tuple #[.agg #[.int .i64 n_8, .int .i64 n_9, .int .i64 n_10, .int .i64 n_11, .int .i64 n_12, .int .i64 n_13, .slice a_2 n_14 c_2], .bool b, .bool false]))))))))))))))))) (.nd (.tuple #[]) (.nd (.tuple #[]) (.nd (.bool (n_1 == 0)) (.nd (.int .i64 n_1) (.nd (.bool b) (.both (.nd (.tuple #[]) (.nd (.bool (n_1 == 0)) (.nd (.int .i64 n_1) (.nd (.bool b) (.nd (.bool false) (.nd (.tuple #[]) (.nd (.bool (n_1 == 0)) (.nd (.int .i64 n_1) (.leaf (.ret (.tuple #[.agg #[.int .i64 n_8, .int .i64 n_9, .int .i64 n_10, .int .i64 n_11, .int .i64 n_12, .int .i64 n_13, .slice a_2 n_14 c_2], .bool b, .bool false]))))))))))) (.nd (.tuple #[]) (.nd (.tuple #[]) (.nd (.bool (n_1 == 0)) (.nd (.int .i64 n_1) (.nd (.tuple #[]) (.nd (.bool (n_1 == 0)) (.nd (.int .i64 n_1) (.leaf (.ret (.tuple #[.agg #[.int .i64 n_8, .int .i64 n_9, .int .i64 n_10, .int .i64 n_11, .int .i64 n_12, .int .i64 n_13, .slice a_2 n_14 c_2], .bool b, .bool false]))))))))))))))))))))))) (.nd (.tuple #[]) (.nd (.tuple #[]) (.nd (.tuple #[]) (.nd (.bool (n_1 == 0)) (.nd (.int .i64 n_1) (.nd (.bool b) (.both (.nd (.tuple #[]) (.nd (.tuple #[]) (.nd (.bool (n_1 == 0)) (.nd (.int .i64 n_1) (.nd (.bool b) (.both (.nd (.tuple #[]) (.nd (.bool (n_1 == 0)) (.nd (.int .i64 n_1) (.nd (.bool b) (.nd (.bool false) (.nd (.tuple #[]) (.nd (.bool (n_1 == 0)) (.nd (.int .i64 n_1) (.leaf (.ret (.tuple #[.agg #[.int .i64 n_8, .int .i64 n_9, .int .i64 n_10, .int .i64 n_11, .int .i64 n_12, .int .i64 n_13, .slice a_2 n_14 c_2], .bool b, .bool false]))))))))))) (.nd (.tuple #[]) (.nd (.tuple #[]) (.nd (.bool (n_1 == 0)) (.nd (.int .i64 n_1) (.nd (.tuple #[]) (.nd (.bool (n_1 == 0)) (.nd (.int .i64 n_1) (.leaf (.ret (.tuple #[.agg #[.int .i64 n_8, .int .i64 n_9, .int .i64 n_10, .int .i64 n_11, .int .i64 n_12, .int .i64 n_13, .slice a_2 n_14 c_2], .bool b, .bool false])))))))))))))))) (.nd (.tuple #[]) (.nd (.tuple #[]) (.nd (.tuple #[]) (.nd (.bool (n_1 == 0)) (.nd (.int .i64 n_1) (.nd (.tuple #[]) (.nd (.tuple #[]) (.nd (.bool (n_1 == 0)) (.nd (.int .i64 n_1) (.nd (.tuple #[]) (.nd (.bool (n_1 == 0)) (.nd (.int .i64 n_1) (.leaf (.ret (.tuple #[.agg #[.int .i64 n_8, .int .i64 n_9, .int .i64 n_10, .int .i64 n_11, .int .i64 n_12, .int .i64 n_13, .slice a_2 n_14 c_2], .bool b, .bool false])))))))))))))))))))))))))) (fun vs => .popI .i64 vs fun n vs => .popI .i64 vs fun n vs => .popI .i64 vs fun n vs => .popI .i64 vs fun n vs => .popS vs fun a n c vs => .popI .i64 vs fun n vs => .unNil vs (.leaf (.ret (.tuple #[.agg #[.int .i64 0, .int .i64 0, .int .i64 0, .int .i64 0, .int .i64 0, .int .i64 0, .slice none 0 0], .bool false, .bool false])))) fun x x_6 => .fail)
theorem w3124 (x_0 x_1 x_2 x_3 x_4 x_5 : Int) (x_6p : Option Addr) (x_6n x_6c : Nat) (u_0 u_1 u_2 u_3 : Int) (u_4p : Option Addr) (u_4n u_4c : Nat) (u_5p : Option Addr) (u_5n u_5c : Nat) (u_6p : Option Addr) (u_6n u_6c : Nat) (land day : Int) (hX : XOK X) (hw : (n3124 x_0 x_1 x_2 x_3 x_4 x_5 x_6p x_6n x_6c u_0 u_1 u_2 u_3 u_4p u_4n u_4c u_5p u_5n u_5c u_6p u_6n u_6c land day).wp X Tryz.prog (retQ A) h) : FWK X Tryz.prog .normal 35 #[.agg #[.int .i64 x_0, .int .i64 x_1, .int .i64 x_2, .int .i64 x_3, .int .i64 x_4, .int .i64 x_5, .slice x_6p x_6n x_6c], .agg #[.int .i64 u_0, .int .i64 u_1, .int .i64 u_2, .int .i64 u_3, .slice u_4p u_4n u_4c, .slice u_5p u_5n u_5c, .slice u_6p u_6n u_6c], .int .i64 land, .int .i64 day] h A := fwk_neat (show ftree ({ P := Tryz.prog, priv := [4, 5, 8, 13, 15], loops := [{ id := 0, slots := [(14, .int .i64), (57344, .int .i64), (57345, .int .i64), (57346, .int .i64), (57347, .slice), (57348, .int .i64)], ro := [4, 5, 8], outs := [] }], joins := [{ id := 6, slots := [], ro := [4, 5, 8, 13], outs := [0] }] }) Tryz.f35 [.agg #[.int .i64 x_0, .int .i64 x_1, .int .i64 x_2, .int .i64 x_3, .int .i64 x_4, .int .i64 x_5, .slice x_6p x_6n x_6c], .agg #[.int .i64 u_0, .int .i64 u_1, .int .i64 u_2, .int .i64 u_3, .slice u_4p u_4n u_4c, .slice u_5p u_5n u_5c, .slice u_6p u_6n u_6c], .int .i64 land, .int .i64 day] = n3124 x_0 x_1 x_2 x_3 x_4 x_5 x_6p x_6n x_6c u_0 u_1 u_2 u_3 u_4p u_4n u_4c u_5p u_5n u_5c u_6p u_6n u_6c land day by kernel_rfl) (by simp) (by kernel_rfl) (by kernel_rfl) hX hw
end Go.Proofs.YtldamlcehbdkdaaGreatDoor
end
section
namespace Go.Proofs.YtldamlcehbdkdaaGreatDoor.Tre
open Go Go.TM Go.Proofs Go.TM.Tr
attribute [local irreducible] T.wp CV FWK
theorem lost_take {g : Nat → Bool} {n i : Nat} (hi : i < n) : ((List.range n).take (i + 1)).filter g = ((List.range n).take i).filter g ++ (if g i then [i] else []) := by
 rw [List.take_add_one, List.getElem?_range hi, List.filter_append]
 congr 1
 simp only [Option.toList_some, List.filter_cons, List.filter_nil]
theorem c3124 {h : LH} (hp : Parts h.get) {g : TC} {x : TF} (hx : TreatyR h.get g x) (hev : x.events.length ≤ 10) {f : FileC} {u : UseFile} (hu : FileR h.get f u) (hck : checkF u = 0) {k d : Int} (hk : 0 ≤ k ∧ k < u.lands) (hd : 0 ≤ d ∧ d ≤ 2000) (hxi : 0 ≤ x.items) :
  Gr Tryz.prog 35 #[treatyV g x, fileV f u, .int .i64 k, .int .i64 d] h fun r h' => ∃ f' b, r = .tuple #[treatyV f' (add x (lostE u x k d)), .bool b, .bool true] ∧ TreatyR h'.get f' (add x (lostE u x k d)) ∧ (b = true → checkT (add x (lostE u x k d)) = 0) := by
 refine w3124 _ _ _ _ _ _ _ _ _ _ _ _ _ _ _ _ _ _ _ _ _ _ _ _ X0_ok ?_
 unfold n3124
 refine t_gr (c23 hp hu k d) ?_
 intro r1 h1 le1 hr1
 obtain ⟨p1, n1, k1, rfl, s1⟩ := hr1.form
 rw [leftQ_ok hck hk hd, if_pos rfl] at s1
 rw [leftQ_ok hck hk hd]
 have hn1 : n1 = u.items.toNat := by rw [s1.1]; unfold leftAll; simp
 have hui := (num_ok (check_num hck)).1
 refine gZ ?_
 have hdone : ∀ (L : Nat) , min u.items.toNat x.items.toNat ≤ L → ((((List.range (min u.items.toNat x.items.toNat)).take L).filter fun i : Nat => left u k (i : Int) d != 1).map fun j : Nat => (j : Int)) = lostItems u x k d := by
  intro L hL
  rw [List.take_of_length_le (by simp; omega)]; rfl
 have hlen : (lostItems u x k d).length ≤ 6 := by
  unfold lostItems
  rw [List.length_map]
  exact Nat.le_trans (List.length_filter_le _ _) (by simp; omega)
 refine t_loopB (fun mm vs h' => h1.le h' ∧ ∃ (i : Nat) (p : Option Addr) (n c : Nat), vs = [.int .i64 i, .int .i64 3, .int .i64 d, .int .i64 k, .slice p n c, .int .i64 0] ∧ i ≤ min u.items.toNat x.items.toNat ∧ mm = min u.items.toNat x.items.toNat - i ∧ Growing IntEnc 3 1 h1.get h'.get p n c ((((List.range (min u.items.toNat x.items.toNat)).take i).filter fun i : Nat => left u k (i : Int) d != 1).map fun j : Nat => (j : Int)))
  (fun vs h' => h1.le h' ∧ ∃ (i : Int) (p : Option Addr) (n c : Nat), vs = [.int .i64 i, .int .i64 3, .int .i64 d, .int .i64 k, .slice p n c, .int .i64 0] ∧ Growing IntEnc 3 1 h1.get h'.get p n c (lostItems u x k d))
  ⟨LH.le_refl _, 0, none, 0, 0, rfl, Nat.zero_le _, rfl, Growing.nil⟩ ?_ ?_
 ·rintro Y mm vs h₁ hY ⟨hle, i, p, n, c, rfl, hi, rfl, gr⟩
  refine gZ ?_
  refine t_blk (fun vs h' => vs = [] ∧ h₁ = h' ∧ i < min u.items.toNat x.items.toNat) ?_ ?_
  ·have done : min u.items.toNat x.items.toNat ≤ i → Growing IntEnc 3 1 h1.get h₁.get p n c (lostItems u x k d) := fun hL => by rw [← hdone i hL]; exact gr
   refine t_if (fun e1 => ?_) (fun e1 => ?_)
   ·refine t_if (fun e2 => ?_) (fun e2 => ?_)
    ·exact t_again ⟨rfl, rfl, by omega⟩
    ·refine gR ?_
     refine t_cond (fun _ => ?_) (fun e => by cases e)
     refine gB ?_
     exact gH ⟨hle, _, p, n, c, rfl, done (by omega)⟩
   ·refine gR ?_
    refine t_cond (fun _ => ?_) (fun e => by cases e)
    refine gB ?_
    exact gH ⟨hle, _, p, n, c, rfl, done (by omega)⟩
  ·rintro vs _ ⟨rfl, rfl, hlt⟩
   have hst := lost_take (g := fun i : Nat => left u k (i : Int) d != 1) hlt
   obtain ⟨v, a, hv, ha, e2⟩ := (s1.le IntE.grow hle.1).at (i := i) (by omega)
   unfold IntE at e2
   have hvv : v = left u k (i : Int) d := by
    unfold leftAll at hv
    rw [List.getElem?_map, List.getElem?_range (by omega)] at hv
    simpa using hv.symm
   have hin : 0 ≤ (i : Int) ∧ (i : Int) < (n1 : Int) := by omega
   refine gZ ?_
   refine t_cond (fun b1 => ?_) (fun b1 => ?_)
   ·rw [hvv] at b1
    rw [if_pos b1] at hst
    have hng := gr.count IntEnc.len (by omega)
    rw [List.length_map] at hng
    have hlen2 : (((List.range (min u.items.toNat x.items.toNat)).take i).filter fun i : Nat => left u k (i : Int) d != 1).length ≤ 6 := Nat.le_trans (List.length_filter_le _ _) (by rw [List.length_take, List.length_range]; omega)
    refine t_pushI gr hle (by omega) fun p' c' h₂ hle2 g2 => ?_
    refine gZ ?_
    refine t_again (hY (min u.items.toNat x.items.toNat - (i + 1)) _ _ (by omega) ⟨hle2, i + 1, p', n + 1, c', ?_, by omega, rfl, by rw [hst, List.map_append]; exact g2⟩)
    rw [wrap_id (by omega) (by omega)]; rfl
   ·rw [hvv] at b1
    rw [if_neg (by rw [b1]; simp), List.append_nil] at hst
    refine t_again (hY (min u.items.toNat x.items.toNat - (i + 1)) _ _ (by omega) ⟨hle, i + 1, p, n, c, ?_, by omega, rfl, by rw [hst]; exact gr⟩)
    rw [wrap_id (by omega) (by omega)]; rfl
 ·rintro vs h₁ ⟨hle, i, p, n, c, rfl, gr⟩
  have hnn := gr.count IntEnc.len (by omega)
  have le01 := LH.le_trans le1 hle
  obtain ⟨_, o2, _⟩ := gr.row
  refine gZ ?_
  refine t_gr (c2035 (hx.le le01.1) (by omega) (e := lostE u x k d) (q := p) (m := n) (c := c) o2.le_cap (gr.sl IntEnc.len (by omega) (fun a x ws => IntEnc.e a x ws) (by show (lostItems u x k d).length < _; omega))) ?_
  rintro _ h3 le3 ⟨f', b, rfl, hy, hb⟩
  have ey : treatyV f' (add x (lostE u x k d)) = .agg #[.int .i64 x.items, .int .i64 x.lands, .int .i64 x.start, .int .i64 x.depend, .int .i64 x.refuse, .int .i64 x.turn, .slice f'.p f'.n f'.c] := rfl
  rw [ey]
  have hnu : ((n1 : Int) == u.items) = true := by simp; omega
  refine gZ ?_
  refine t_cond (fun _ => ?_) (fun e => absurd e (by simp))
  rw [hnu]
  refine gZ ?_
  exact t_ret ⟨LH.le_trans le01 le3, f', b, by rw [ey], hy, hb⟩
set_option maxRecDepth 10000 in
theorem c3103 {h : LH} (hch : h.chans = []) (hpe : h.pend = []) (hkd : Kinds h.get) (hp : Parts h.get) {g : TC} {x : TF} (hx : TreatyR h.get g x) {f : FileC} {u : UseFile} (hu : FileR h.get f u) {q : Option Addr} {m cq : Nat} {y : Paper} (hy : Sl IntE 1 h.get q m y.items)
  (land : Int) (hl : 0 ≤ land ∧ land ≤ 255) (day : Int) (hd : 0 ≤ day ∧ day ≤ 65535) (later : Int) (hla : 0 ≤ later ∧ later ≤ 65535) :
  FW XT Tryz.prog 6 #[treatyV g x, fileV f u, paperV y q m cq, .int .u8 land, .int .u16 day, .int .u16 later] h (Fin h) := by
 refine w3103 _ _ _ _ _ _ _ _ _ _ _ _ _ _ _ _ _ _ _ _ _ _ _ _ _ _ _ _ _ _ _ XT_ok ?_
 unfold n3103
 refine t_blk (fun vs h' => vs = [.bool false] ∧ h = h' ∧ checkT x = 0 ∧ checkF u = 0) ?_ ?_
 ·refine t_pu (c2031 hx) ?_
  refine gZ ?_
  refine t_cond (fun _ => ?_) (fun e0 => ?_)
  ·refine t_shown hkd (.of hch hpe (LH.le_refl _)) fun h' hh => ?_
   refine gI ?_
   refine gZ ?_
   exact t_ret hh.fin
  have hcx := fit_ok (by simpa using e0)
  refine t_call (FW.top (c36 hu)) ?_
  rintro _ _ ⟨rfl, b, rfl, hb⟩
  refine gZ ?_
  refine t_cond (fun _ => ?_) (fun hbf => ?_)
  ·refine t_shown hkd (.of hch hpe (LH.le_refl _)) fun h' hh => ?_
   refine gI ?_
   refine gZ ?_
   exact t_ret hh.fin
  have hck := hb (by simpa using hbf)
  refine t_if (fun _ => ?_) (fun _ => ?_)
  ·refine t_shown hkd (.of hch hpe (LH.le_refl _)) fun h' hh => ?_
   refine gI ?_
   refine gZ ?_
   exact t_ret hh.fin
  ·exact t_again ⟨rfl, rfl, hcx, hck⟩
 rintro vs hB ⟨rfl, rfl, hcx, hck⟩
 have hnumx := check_numbers hcx
 obtain ⟨⟨i1, i2⟩, ⟨l1, l2⟩, ⟨f1, f2⟩, ⟨d1, d2⟩⟩ := num_ok (check_num hck)
 have h8 := (check_papers hck).1
 have hn5 := hu.papers.1
 refine gZ ?_
 refine t_blk (PaperEnd h f u y) ?_ ?_
 ·have ones : ∀ v ∈ [Value.int .i64 y.days.first, .int .i64 y.days.last, .int .i64 y.land, .slice q m cq], isOne v = true := by
   intro w hw; simp at hw; rcases hw with rfl | rfl | rfl | rfl <;> rfl
  have enc : PaperEnc h.get y [Value.int .i64 y.days.first, .int .i64 y.days.last, .int .i64 y.land, .slice q m cq] := ⟨q, m, cq, rfl, hy⟩
  obtain ⟨hB, hBe⟩ : ∃ hB, hB = h := ⟨_, rfl⟩
  have huB : FileR hB.get f u := by rw [hBe]; exact hu
  rw [← hBe] at enc ⊢
  refine t_both ?_ ?_
  ·refine t_build0G (h₀ := hB) (Enc := PaperEnc hB.get) und23 inf69 (LH.le_refl _) fun r0 h1 hr0 le1 g1 => ?_
   refine gZ ?_
   refine t_both ?_ ?_
   ·refine t_copy (h₀ := hB) rfl rfl und23 und23 inf69 rfl (by omega) (by omega) g1 le1 (PaperB.of (Rd.of_le le1.1) huB.papers) paperTold fun p2 c2 h2 le2 _ g2 => ?_
    refine gZ ?_
    refine t_buildG und23 inf69 (by decide) (by decide) (cells := #[.int .i64 y.days.first, .int .i64 y.days.last, .int .i64 y.land, .slice q m cq]) (by kernel_rfl) fun r h3 le3 hr3 e3 => ?_
    refine gZ ?_
    refine copy_end1 (h := hB) und23 inf69 rfl (by omega) (by omega) (g2.le le3.1) (LH.le_trans le2 le3) enc rfl ones e3 (fun j w hj => by simpa using hj) fun p' c' h' le' g' => ?_
    refine gZ ?_
    exact t_again (paperEnd_of huB (by omega) le' g')
   ·refine t_buildG und23 inf69 (by decide) (by decide) (cells := #[.int .i64 y.days.first, .int .i64 y.days.last, .int .i64 y.land, .slice q m cq]) (by kernel_rfl) fun r h2 le2 hr2 e2 => ?_
    refine gZ ?_
    have le02 := LH.le_trans le1 le2
    refine t_copy (h₀ := hB) rfl rfl und23 und23 inf69 rfl (by omega) (by omega) (g1.le le2.1) le02 (PaperB.of (Rd.of_le le02.1) huB.papers) paperTold fun p3 c3 h3 le3 kp g3 => ?_
    refine gZ ?_
    have hne : r ≠ r0 := by
     rintro rfl
     obtain ⟨vs, ⟨_, hh⟩, _⟩ := g1.row
     rcases hh with ⟨hh, _⟩ | ⟨r', cs, hh, h5, _⟩
     ·cases hh
     ·cases hh; rw [hr2] at h5; cases h5
    have e3 := kp r _ (fun a ha e => by cases ha; exact hne e.symm) e2
    refine copy_end1 (h := hB) und23 inf69 rfl (by omega) (by omega) g3 le3 enc rfl ones e3 (fun j w hj => by simpa using hj) fun p' c' h' le' g' => ?_
    refine gZ ?_
    exact t_again (paperEnd_of huB (by omega) le' g')
  ·refine t_buildG und23 inf69 (by decide) (by decide) (cells := #[.int .i64 y.days.first, .int .i64 y.days.last, .int .i64 y.land, .slice q m cq]) (by kernel_rfl) fun r h1 le1 hr1 e1 => ?_
   refine gZ ?_
   refine t_build0G (h₀ := hB) (Enc := PaperEnc hB.get) und23 inf69 le1 fun r0 h2 hr0 le2 g2 => ?_
   refine gZ ?_
   have le02 := LH.le_trans le1 le2
   refine t_copy (h₀ := hB) rfl rfl und23 und23 inf69 rfl (by omega) (by omega) g2 le02 (PaperB.of (Rd.of_le le02.1) huB.papers) paperTold fun p3 c3 h3 le3 kp g3 => ?_
   refine gZ ?_
   have hne : r ≠ r0 := by rintro rfl; rw [e1] at hr0; cases hr0
   have e3 := kp r _ (fun a ha e => by cases ha; exact hne e.symm) (le2.1 _ _ e1)
   refine copy_end1 (h := hB) und23 inf69 rfl (by omega) (by omega) g3 le3 enc rfl ones e3 (fun j w hj => by simpa using hj) fun p' c' h' le' g' => ?_
   refine gZ ?_
   exact t_again (paperEnd_of huB (by omega) le' g')
 rintro vs h1 ⟨p1, n1, c1, rfl, le1, ho⟩
 refine gZ ?_
 refine t_pu (c27 ho) ?_
 refine gZ ?_
 refine t_cond (fun _ => ?_) (fun e => ?_)
 ·refine t_shown hkd (.of hch hpe le1) fun h' hh => ?_
  refine gZ ?_
  exact t_ret hh.fin
 have hco : checkF { u with papers := u.papers ++ [y] } = 0 := by simpa using e
 have hm0 : 0 < (if u.lands < x.lands then u.lands else x.lands) := by split <;> omega
 have hmin : (if u.lands < x.lands then u.lands else x.lands) ≤ u.lands ∧ (if u.lands < x.lands then u.lands else x.lands) ≤ x.lands := by split <;> omega
 have hm0' : (if u.lands < x.lands then u.lands else x.lands) ≠ 0 := by omega
 obtain ⟨ek, hk0, hk1⟩ := mod_in (m := if u.lands < x.lands then u.lands else x.lands) (n := land) (by omega) hm0
 rw [ek]
 have hku : 0 ≤ land % (if u.lands < x.lands then u.lands else x.lands) ∧ land % (if u.lands < x.lands then u.lands else x.lands) < u.lands := ⟨hk0, Int.lt_of_lt_of_le hk1 hmin.1⟩
 have hkx : 0 ≤ land % (if u.lands < x.lands then u.lands else x.lands) ∧ land % (if u.lands < x.lands then u.lands else x.lands) < x.lands := ⟨hk0, Int.lt_of_lt_of_le hk1 hmin.2⟩
 generalize land % (if u.lands < x.lands then u.lands else x.lands) = k at hku hkx
 refine gZ ?_
 refine t_pu (c37 hd) ?_
 have hday := mod_day (n := day)
 generalize day % 2001 = d at hday
 refine gZ ?_
 refine t_gr (c3124 (hp.le le1.1) (hx.le le1.1) (by omega) (hu.le le1.1) hck hku hday (by omega)) ?_
 rintro _ h2 le2 ⟨g2, a, rfl, hy2, hb2⟩
 have e2 : treatyV g2 (add x (lostE u x k d)) = .agg #[.int .i64 x.items, .int .i64 x.lands, .int .i64 x.start, .int .i64 x.depend, .int .i64 x.refuse, .int .i64 x.turn, .slice g2.p g2.n g2.c] := rfl
 rw [e2]
 have le12 := LH.le_trans le1 le2
 refine gZ ?_
 refine t_gr (c3124 (u := { u with papers := u.papers ++ [y] }) (hp.le le12.1) (hx.le le12.1) (by omega) (ho.le le2.1) hco hku hday (by omega)) ?_
 rintro _ h3 le3 ⟨g3, b, rfl, hy3, hb3⟩
 have e3 : treatyV g3 (add x (lostE { u with papers := u.papers ++ [y] } x k d)) = .agg #[.int .i64 x.items, .int .i64 x.lands, .int .i64 x.start, .int .i64 x.depend, .int .i64 x.refuse, .int .i64 x.turn, .slice g3.p g3.n g3.c] := rfl
 rw [e3]
 have le13 := LH.le_trans le12 le3
 refine gZ ?_
 refine t_blk (fun vs h' => vs = [.bool false] ∧ h3 = h') ?_ ?_
 ·refine t_cond (fun e => absurd e (by simp)) (fun _ => ?_)
  refine t_cond (fun e => absurd e (by simp)) (fun _ => ?_)
  exact t_again ⟨rfl, rfl⟩
 rintro vs _ ⟨rfl, rfl⟩
 refine gZ ?_
 refine t_blk (fun vs h' => vs = [.bool false] ∧ h3 = h' ∧ a = true ∧ b = true) ?_ ?_
 ·refine t_cond (fun _ => ?_) (fun ea => ?_)
  ·refine t_shown hkd (.of hch hpe le13) fun h' hh => ?_
   refine gI ?_
   refine gZ ?_
   exact t_ret hh.fin
  refine t_cond (fun _ => ?_) (fun eb => ?_)
  ·refine t_shown hkd (.of hch hpe le13) fun h' hh => ?_
   refine gI ?_
   refine gZ ?_
   exact t_ret hh.fin
  exact t_again ⟨rfl, rfl, by simpa using ea, by simpa using eb⟩
 rintro vs _ ⟨rfl, rfl, rfl, rfl⟩
 have cw := hb2 rfl
 have cn := hb3 rfl
 have okw := check_ok cw
 have okn := check_ok cn
 have hNL : ∀ t : Int, NoLess (add x (lostE { u with papers := u.papers ++ [y] } x k d)) (add x (lostE u x k d)) k t := fun t i _ hh => used_noLess (p := y) rfl hck hco okn okw hh
 have ew : IntKind.wrap .i64 later = later := wrap_id (by omega) (by omega)
 have es : IntKind.wrap .i64 (d + later) = d + later := wrap_id (by omega) (by omega)
 rw [ew, es]
 have hq : 0 ≤ (if d + later < 9999 then d + later else 9999) ∧ (if d + later < 9999 then d + later else 9999) ≤ 9999 := by split <;> omega
 generalize (if d + later < 9999 then d + later else 9999) = t at hq
 have hL : ∀ v : UseFile, (add x (lostE v x k d)).lands = x.lands := fun _ => rfl
 refine gZ ?_
 refine t_gr (c2039 (x := add x (lostE { u with papers := u.papers ++ [y] } x k d)) (y := add x (lostE u x k d)) (hkd.le le13.1) hy3 (hy2.le le3.1) (asked_fit cn hkx hq) (asked_fit cw hkx hq) rfl (hNL t)) ?_
 rintro _ h4 le4 rfl
 have le14 := LH.le_trans le13 le4
 refine gZ ?_
 refine t_cond (fun _ => ?_) (fun e => absurd e (by simp))
 refine t_gr (c2039 (x := add x (lostE { u with papers := u.papers ++ [y] } x k d)) (y := add x (lostE u x k d)) (hkd.le le14.1) (hy3.le le4.1) ((hy2.le le3.1).le le4.1) (asked_fit cn hkx ⟨by omega, by omega⟩) (asked_fit cw hkx ⟨by omega, by omega⟩) rfl (hNL d)) ?_
 rintro _ h5 le5 rfl
 refine gZ ?_
 refine t_cond (fun _ => ?_) (fun e => absurd e (by simp))
 refine t_shown hkd (.of hch hpe (LH.le_trans le14 le5)) fun h' hh => ?_
 refine gZ ?_
 exact t_ret hh.fin
end Go.Proofs.YtldamlcehbdkdaaGreatDoor.Tre
end
section
namespace Go.Proofs.YtldamlcehbdkdaaGreatDoor
open Go Go.TM Go.Proofs Go.Proofs.YtldamlcehbdkdaaGreatDoor.Tre Go.ChangeShapes Go.WideShapes Go.RowKit
set_option maxRecDepth 100000
theorem door_met (os : Os) (args : Array Value) : laidMetH Tryz.prog Rows.treatyUsedRow.laid ((World.doorLaid Tryz.prog 200 os).forCall (fun _ _ => 0) ⟨#[], args, []⟩).memory :=
 laidMetH_of_parts3 (fuel := 8) (laidMet_of_run' 8 (by kernel_rfl) (by kernel_rfl)) (by kernel_rfl) (by kernel_rfl)
theorem door_shaped (os : Os) (args : Array Value) : ((World.doorLaid Tryz.prog 200 os).forCall (fun _ _ => 0) ⟨#[], args, []⟩).Shaped Tryz.prog :=
 World.shaped_of_RefB (by kernel_rfl) (by kernel_rfl)
theorem treatyUsed_lifted (os : Os) (started : os.Started) (H : Type) (enc : TypeId × Value → H) :
  ReturnsInLeavingWide {} Tryz.checked os 6 .any (fun w args => (Rows.treatyUsedSpec.pre enc Tryz.prog Tryz.f6 [] false w args ∧ laidMetH Tryz.prog Rows.treatyUsedRow.laid w) ∧ sizedMet enc Tryz.prog Tryz.f6 (OpenSpec.ofChange Rows.treatyUsedSpec) false w args)
   (Rows.treatyUsedSpec.post enc Tryz.prog Tryz.f6 false true false false) := by
 refine row_leaving (C := Tryz.checked) (tb := 4) own started Tryz.func6 (by kernel_rfl) rfl lo ?_ (by kernel_rfl) Tryz.underlying4 ?_
  (ChangeSpec.witness_shaped (enc := enc) (C := Tryz.checked) (os := os) (X := fun w _ => laidMetH Tryz.prog Rows.treatyUsedRow.laid w) false (World.doorLaid Tryz.prog 200 os) #[noTreaty, noUse, .agg #[.int .i64 0, .int .i64 0, .int .i64 0, .slice none 0 0], .int .u8 0, .int .u16 0, .int .u16 0] 8 rfl (door_shaped os _) (by kernel_rfl) (by kernel_rfl) (by kernel_rfl) (door_met os _)) ?_
 ·exact fun t ht => of_decide_eq_true (List.all_eq_true.1 (show (Tryz.f6.params.toList.all fun t => decide (Tryz.prog.readableRec t = true ∧ t < Tryz.prog.types.size)) = true by kernel_rfl) t ht)
 ·intro ds hd
  match ds, (show ds.length = 6 from hd) with
  | [d0, d1, d2, d3, d4, d5], _ => rfl
 ·intro W base args ds ps hval0 hA0 hz0 hL
  have hval : ∀ (j : Nat) t v, Tryz.f6.params[j]? = some t → args[j]? = some v → Value.okWide Tryz.prog W .any base t v := hval0
  have hz : ∀ (j : Nat) t d, Tryz.f6.params.toList[j]? = some t → ds[j]? = some d → Light Tryz.prog t d := hz0
  have hA : DataW.TrodAll enc Tryz.prog W 0 (fun _ => true) true Tryz.f6.params.toList args.toList ds ps := hA0
  rw [Tryz.params6] at hval hz hA
  obtain ⟨v0, v1, v2, v3, v4, v5, d0, d1, d2, d3, d4, d5, q00, q01, q02, q03, q04, q05, rfl, rfl, rfl, h0, h1, h2, h3, h4, h5⟩ := trodAll6 hA
  obtain ⟨f0, u0, rfl, hu0⟩ := treaty_arg TT (hval 0 82 v0 rfl rfl) (hz 0 82 d0 rfl rfl) h0
  obtain ⟨f1, u1, rfl, hu1⟩ := file_arg UT (hval 1 26 v1 rfl rfl) (hz 1 26 d1 rfl rfl) h1
  obtain ⟨q2, m2, k2, x2, rfl, s2⟩ := paper_arg UT (hval 2 32 v2 rfl rfl) (hz 2 32 d2 rfl rfl) h2
  obtain ⟨x3, rfl, _, _, w3⟩ := open_int und5 (hval 3 5 v3 rfl rfl) h3
  obtain ⟨x4, rfl, _, _, w4⟩ := open_int und57 (hval 4 27 v4 rfl rfl) h4
  obtain ⟨x5, rfl, _, _, w5⟩ := open_int und57 (hval 5 27 v5 rfl rfl) h5
  exact FW.mono (c3103 (h := ⟨getW W, [], [], []⟩) rfl rfl (kinds_of_laid hL (by repeat first | exact List.Mem.head _ | apply List.Mem.tail) (by repeat first | exact List.Mem.head _ | apply List.Mem.tail)) (parts_of_laid hL (by repeat first | exact List.Mem.head _ | apply List.Mem.tail)) hu0 hu1 s2 x3 (wf_u8 w3) x4 (wf_u16 w4) x5 (wf_u16 w5)) fun r h' hq => ⟨hq.1, hq.2.2.1⟩
set_option maxHeartbeats 0 in
theorem treatyUsed_closed : joinedFacts Tryz.prog 6 Tryz.f6 Rows.treatyUsedSpec Rows.treatyUsedRow = true := by
 unfold joinedFacts
 simp only [Bool.and_eq_true]
 and_intros
 all_goals (as_aux_lemma => kernel_rfl)
theorem treatyUsed_named : Tryz.prog.funcNamed Rows.treatyUsedRow.func = some 6 := by kernel_rfl
theorem treatyUsed_row : Rows.TreatyUsedSaid :=
 OpenClaim.holds_of_wide_leaving 6 Tryz.f6 rfl rfl rfl rfl rfl rfl rfl ⟨rfl, rfl, rfl, rfl, rfl⟩ rfl rfl rfl rfl rfl treatyUsed_named Tryz.func6 treatyUsed_closed
  (of_decide_eq_true (by kernel_rfl)) (by unfold Func.isWrapper; first | (rw [if_pos (by decide +kernel)]; kernel_rfl) | (rw [if_neg (by decide +kernel)]; exact ⟨rfl, rfl⟩))
  (fun os started H enc _ => treatyUsed_lifted os started H enc)
theorem treatyUsed_holds : Rows.TreatyUsedCardSaid :=
 card_goes [.data, .funcsDeep, .funcs] true Rows.treatyUsedCard.stood.harness false treatyUsed_row (by kernel_rfl) treatyUsed_row_tie rfl ⟨rfl, rfl⟩ (by kernel_rfl) rfl
  (fun f fn hf hfn => by
   obtain rfl : f = 6 := Option.some.inj (treatyUsed_named.symm.trans hf) |>.symm
   obtain rfl : fn = Tryz.f6 := (Option.some.inj (Tryz.func6.symm.trans hfn)).symm
   exact ⟨by kernel_rfl, fun j t ht => by
    have hm := Array.mem_of_getElem? ht
    have := of_decide_eq_true (List.all_eq_true.1 (show (Tryz.f6.params.toList.all fun t => decide (Tryz.prog.wantsStandIn t = false)) = true by kernel_rfl) t (Array.mem_toList_iff.2 hm))
    exact this⟩)
  (by kernel_rfl)
end Go.Proofs.YtldamlcehbdkdaaGreatDoor
end
#print axioms Go.Proofs.YtldamlcehbdkdaaGreatDoor.treatyUsed_holds

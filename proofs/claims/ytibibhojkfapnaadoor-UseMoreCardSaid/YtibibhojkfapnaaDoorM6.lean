/- For every file, land, day, paper and excuse the law UseMore returns true: one more paper, one more excuse, and more days to be idle, never make an item less safe, less left, or weak earlier. The tied card; no further condition. -/
import Derived.Test.YtibibhojkfapnaaDoorM5
set_option linter.all false
section
namespace Go.Proofs.YtibibhojkfapnaaDoor
open Go Go.TM Go.Proofs
set_option linter.unusedVariables false
set_option maxRecDepth 100000
noncomputable def n8 (u_0 : Int) (u_1 : Int) (u_2 : Int) (u_3 : Int) (u_4p : Option Addr) (u_4n u_4c : Nat) (u_5p : Option Addr) (u_5n u_5c : Nat) (u_6p : Option Addr) (u_6n u_6c : Nat) (land : Int) (day : Int) (p_0 : Int) (p_1 : Int) (p_2 : Int) (p_3p : Option Addr) (p_3n p_3c : Nat) (excuse_0 : Int) (excuse_1 : Int) : T := .blk (.call false 36 #[.agg #[.int .i64 u_0, .int .i64 u_1, .int .i64 u_2, .int .i64 u_3, .slice u_4p u_4n u_4c, .slice u_5p u_5n u_5c, .slice u_6p u_6n u_6c]] fun v => .unB v fun b => bif !b then .call false 16 #[] fun v => .unB v fun b => .leaf (.retn [.bool b]) else bif decide ((↑p_3n : Int) > 20) then .call false 16 #[] fun v => .unB v fun b => .leaf (.retn [.bool b]) else .leaf (.again [.bool false])) (fun vs => .popB vs fun b vs => .unNil vs (.need (u_1 ≠ 0) (.call false 37 #[.int .u16 day] fun v => .unI .i64 v fun n => .need (u_1 ≠ 0) (.need (AV.val (.int .i64 (Int.tmod (IntKind.wrap .i64 land) u_1)) = AV.val (.int .i64 (Int.tmod (IntKind.wrap .i64 land) u_1))) (.need (AV.val (.int .i64 u_1) = AV.val (.int .i64 u_1)) (.need (AV.pp 5 1 = AV.pp 5 1) (.need (AV.val (.int .i64 (IntKind.wrap .i64 land)) = AV.val (.int .i64 (IntKind.wrap .i64 land))) (.need (AV.val (.int .u8 land) = AV.val (.int .u8 land)) (.blk (.both (.sem false (Instr.buildSlice 23 0 #[]) fun v => .unS v fun a n c => .need (AV.val (.agg #[.int .i64 p_0, .int .i64 p_1, .int .i64 p_2, .slice p_3p p_3n p_3c]) = AV.val (.agg #[.int .i64 p_0, .int .i64 p_1, .int .i64 p_2, .slice p_3p p_3n p_3c])) (.need (AV.val (.slice u_5p u_5n u_5c) = AV.val (.slice u_5p u_5n u_5c)) (.need (AV.pp 5 5 = AV.pp 5 5) (.both (.sem false (Builtin.append_ #[23, 23] 23 #[.slice a n c, .slice u_5p u_5n u_5c]) fun v => .unS v fun a n c => .need (AV.val (.agg #[.int .i64 p_0, .int .i64 p_1, .int .i64 p_2, .slice p_3p p_3n p_3c]) = AV.val (.agg #[.int .i64 p_0, .int .i64 p_1, .int .i64 p_2, .slice p_3p p_3n p_3c])) (.need (AV.pp 5 5 = AV.pp 5 5) (.sem false (Instr.buildSlice 23 1 #[(0, .agg #[.int .i64 p_0, .int .i64 p_1, .int .i64 p_2, .slice p_3p p_3n p_3c])]) fun v => .unS v fun a_1 n_1 c_1 => .need (AV.pp 5 5 = AV.pp 5 5) (.sem false (Builtin.append_ #[23, 23] 23 #[.slice a n c, .slice a_1 n_1 c_1]) fun v => .unS v fun a n c => .need (AV.pp 5 5 = AV.pp 5 5) (.leaf (.again [.int .i64 u_0, .int .i64 u_1, .int .i64 u_2, .int .i64 u_3, .slice u_4p u_4n u_4c, .slice a n c, .slice u_6p u_6n u_6c])))))) (.sem false (Instr.buildSlice 23 1 #[(0, .agg #[.int .i64 p_0, .int .i64 p_1, .int .i64 p_2, .slice p_3p p_3n p_3c])]) fun v => .unS v fun a_1 n_1 c_1 => .need (AV.val (.slice u_5p u_5n u_5c) = AV.val (.slice u_5p u_5n u_5c)) (.need (AV.pp 5 5 = AV.pp 5 5) (.sem false (Builtin.append_ #[23, 23] 23 #[.slice a n c, .slice u_5p u_5n u_5c]) fun v => .unS v fun a n c => .need (AV.pp 5 5 = AV.pp 5 5) (.sem false (Builtin.append_ #[23, 23] 23 #[.slice a n c, .slice a_1 n_1 c_1]) fun v => .unS v fun a n c => .need (AV.pp 5 5 = AV.pp 5 5) (.leaf (.again [.int .i64 u_0, .int .i64 u_1, .int .i64 u_2, .int .i64 u_3, .slice u_4p u_4n u_4c, .slice a n c, .slice u_6p u_6n u_6c])))))))))) (.sem false (Instr.buildSlice 23 1 #[(0, .agg #[.int .i64 p_0, .int .i64 p_1, .int .i64 p_2, .slice p_3p p_3n p_3c])]) fun v => .unS v fun a n c => .need (AV.val (.slice u_5p u_5n u_5c) = AV.val (.slice u_5p u_5n u_5c)) (.need (AV.pp 5 5 = AV.pp 5 5) (.sem false (Instr.buildSlice 23 0 #[]) fun v => .unS v fun a_1 n_1 c_1 => .need (AV.val (.slice u_5p u_5n u_5c) = AV.val (.slice u_5p u_5n u_5c)) (.need (AV.pp 5 5 = AV.pp 5 5) (.sem false (Builtin.append_ #[23, 23] 23 #[.slice a_1 n_1 c_1, .slice u_5p u_5n u_5c]) fun v => .unS v fun a_2 n_2 c_2 => .need (AV.pp 5 5 = AV.pp 5 5) (.sem false (Builtin.append_ #[23, 23] 23 #[.slice a_2 n_2 c_2, .slice a n c]) fun v => .unS v fun a n c => .need (AV.pp 5 5 = AV.pp 5 5) (.leaf (.again [.int .i64 u_0, .int .i64 u_1, .int .i64 u_2, .int .i64 u_3, .slice u_4p u_4n u_4c, .slice a n c, .slice u_6p u_6n u_6c]))))))))) (fun vs => .popI .i64 vs fun n_1 vs => .popI .i64 vs fun n_2 vs => .popI .i64 vs fun n_3 vs => .popI .i64 vs fun n_4 vs => .popS vs fun a n_5 c vs => .popS vs fun a_1 n_6 c_1 vs => .popS vs fun a_2 n_7 c_2 vs => .unNil vs (.blk (.call false 27 #[.agg #[.int .i64 n_1, .int .i64 n_2, .int .i64 n_3, .int .i64 n_4, .slice a n_5 c, .slice a_1 n_6 c_1, .slice a_2 n_7 c_2]] fun v => .unI .i64 v fun n_8 => bif n_8 == 0 then .call false 43 #[.agg #[.int .i64 n_1, .int .i64 n_2, .int .i64 n_3, .int .i64 n_4, .slice a n_5 c, .slice a_1 n_6 c_1, .slice a_2 n_7 c_2], .agg #[.int .i64 u_0, .int .i64 u_1, .int .i64 u_2, .int .i64 u_3, .slice u_4p u_4n u_4c, .slice u_5p u_5n u_5c, .slice u_6p u_6n u_6c], .int .i64 (Int.tmod (IntKind.wrap .i64 land) u_1), .int .i64 n] fun v => .unB v fun b_1 => bif !b_1 then .leaf (.retn [.bool false]) else .leaf (.again [.bool b]) else .leaf (.again [.bool b])) (fun vs => .popB vs fun b vs => .unNil vs (.blk (.both (.sem false (Instr.buildSlice 22 0 #[]) fun v => .unS v fun a n c => .need (AV.val (.agg #[.int .i64 excuse_0, .int .i64 excuse_1]) = AV.val (.agg #[.int .i64 excuse_0, .int .i64 excuse_1])) (.need (AV.val (.slice u_4p u_4n u_4c) = AV.val (.slice u_4p u_4n u_4c)) (.need (AV.pp 5 4 = AV.pp 5 4) (.both (.sem false (Builtin.append_ #[22, 22] 22 #[.slice a n c, .slice u_4p u_4n u_4c]) fun v => .unS v fun a n c => .need (AV.val (.agg #[.int .i64 excuse_0, .int .i64 excuse_1]) = AV.val (.agg #[.int .i64 excuse_0, .int .i64 excuse_1])) (.need (AV.pp 5 4 = AV.pp 5 4) (.sem false (Instr.buildSlice 22 1 #[(0, .agg #[.int .i64 excuse_0, .int .i64 excuse_1])]) fun v => .unS v fun a_3 n_8 c_3 => .need (AV.pp 5 4 = AV.pp 5 4) (.sem false (Builtin.append_ #[22, 22] 22 #[.slice a n c, .slice a_3 n_8 c_3]) fun v => .unS v fun a n c => .need (AV.pp 5 4 = AV.pp 5 4) (.leaf (.again [.int .i64 u_0, .int .i64 u_1, .int .i64 u_2, .int .i64 u_3, .slice a n c, .slice u_5p u_5n u_5c, .slice u_6p u_6n u_6c])))))) (.sem false (Instr.buildSlice 22 1 #[(0, .agg #[.int .i64 excuse_0, .int .i64 excuse_1])]) fun v => .unS v fun a_3 n_8 c_3 => .need (AV.val (.slice u_4p u_4n u_4c) = AV.val (.slice u_4p u_4n u_4c)) (.need (AV.pp 5 4 = AV.pp 5 4) (.sem false (Builtin.append_ #[22, 22] 22 #[.slice a n c, .slice u_4p u_4n u_4c]) fun v => .unS v fun a n c => .need (AV.pp 5 4 = AV.pp 5 4) (.sem false (Builtin.append_ #[22, 22] 22 #[.slice a n c, .slice a_3 n_8 c_3]) fun v => .unS v fun a n c => .need (AV.pp 5 4 = AV.pp 5 4) (.leaf (.again [.int .i64 u_0, .int .i64 u_1, .int .i64 u_2, .int .i64 u_3, .slice a n c, .slice u_5p u_5n u_5c, .slice u_6p u_6n u_6c])))))))))) (.sem false (Instr.buildSlice 22 1 #[(0, .agg #[.int .i64 excuse_0, .int .i64 excuse_1])]) fun v => .unS v fun a n c => .need (AV.val (.slice u_4p u_4n u_4c) = AV.val (.slice u_4p u_4n u_4c)) (.need (AV.pp 5 4 = AV.pp 5 4) (.sem false (Instr.buildSlice 22 0 #[]) fun v => .unS v fun a_3 n_8 c_3 => .need (AV.val (.slice u_4p u_4n u_4c) = AV.val (.slice u_4p u_4n u_4c)) (.need (AV.pp 5 4 = AV.pp 5 4) (.sem false (Builtin.append_ #[22, 22] 22 #[.slice a_3 n_8 c_3, .slice u_4p u_4n u_4c]) fun v => .unS v fun a_4 n_9 c_4 => .need (AV.pp 5 4 = AV.pp 5 4) (.sem false (Builtin.append_ #[22, 22] 22 #[.slice a_4 n_9 c_4, .slice a n c]) fun v => .unS v fun a n c => .need (AV.pp 5 4 = AV.pp 5 4) (.leaf (.again [.int .i64 u_0, .int .i64 u_1, .int .i64 u_2, .int .i64 u_3, .slice a n c, .slice u_5p u_5n u_5c, .slice u_6p u_6n u_6c]))))))))) (fun vs => .popI .i64 vs fun n_8 vs => .popI .i64 vs fun n_9 vs => .popI .i64 vs fun n_10 vs => .popI .i64 vs fun n_11 vs => .popS vs fun a n_12 c vs => .popS vs fun a_3 n_13 c_3 vs => .popS vs fun a_4 n_14 c_4 vs => .unNil vs (.blk (.call false 27 #[.agg #[.int .i64 n_8, .int .i64 n_9, .int .i64 n_10, .int .i64 n_11, .slice a n_12 c, .slice a_3 n_13 c_3, .slice a_4 n_14 c_4]] fun v => .unI .i64 v fun n_15 => bif n_15 == 0 then .call false 43 #[.agg #[.int .i64 n_8, .int .i64 n_9, .int .i64 n_10, .int .i64 n_11, .slice a n_12 c, .slice a_3 n_13 c_3, .slice a_4 n_14 c_4], .agg #[.int .i64 u_0, .int .i64 u_1, .int .i64 u_2, .int .i64 u_3, .slice u_4p u_4n u_4c, .slice u_5p u_5n u_5c, .slice u_6p u_6n u_6c], .int .i64 (Int.tmod (IntKind.wrap .i64 land) u_1), .int .i64 n] fun v => .unB v fun b_1 => bif !b_1 then .leaf (.retn [.bool false]) else .leaf (.again [.bool b]) else .leaf (.again [.bool b])) (fun vs => .popB vs fun b vs => .unNil vs (.call false 27 #[.agg #[.int .i64 u_0, .int .i64 u_1, .int .i64 u_2, .int .i64 (IntKind.wrap .i64 (u_3 + 1)), .slice u_4p u_4n u_4c, .slice u_5p u_5n u_5c, .slice u_6p u_6n u_6c]] fun v => .unI .i64 v fun n_15 => bif n_15 != 0 then .call false 16 #[] fun v => .unB v fun b => .leaf (.ret (.bool b)) else .call false 43 #[.agg #[.int .i64 u_0, .int .i64 u_1, .int .i64 u_2, .int .i64 (IntKind.wrap .i64 (u_3 + 1)), .slice u_4p u_4n u_4c, .slice u_5p u_5n u_5c, .slice u_6p u_6n u_6c], .agg #[.int .i64 u_0, .int .i64 u_1, .int .i64 u_2, .int .i64 u_3, .slice u_4p u_4n u_4c, .slice u_5p u_5n u_5c, .slice u_6p u_6n u_6c], .int .i64 (Int.tmod (IntKind.wrap .i64 land) u_1), .int .i64 n] fun v => .unB v fun b => bif b then .call false 16 #[] fun v => .unB v fun b => .leaf (.ret (.bool b)) else .leaf (.ret (.bool false)))) (fun vs => .popB vs fun b vs => .unNil vs (.leaf (.ret (.bool b)))) fun x x_1 => .fail)) (fun vs => .popI .i64 vs fun n vs => .popI .i64 vs fun n vs => .popI .i64 vs fun n vs => .popI .i64 vs fun n vs => .popS vs fun a n c vs => .popS vs fun a n c vs => .popS vs fun a n c vs => .unNil vs (.leaf (.ret (.bool b)))) fun x x_1 => .fail)) (fun vs => .popB vs fun b vs => .unNil vs (.leaf (.ret (.bool b)))) fun x x_1 => .fail)) (fun vs => .popI .i64 vs fun n vs => .popI .i64 vs fun n vs => .popI .i64 vs fun n vs => .popI .i64 vs fun n vs => .popS vs fun a n c vs => .popS vs fun a n c vs => .popS vs fun a n c vs => .unNil vs (.leaf (.ret (.bool b)))) fun x x_1 => .fail))))))))) (fun vs => .popB vs fun b vs => .unNil vs (.leaf (.ret (.bool b)))) fun x x_1 => .fail
theorem t8 (u_0 : Int) (u_1 : Int) (u_2 : Int) (u_3 : Int) (u_4p : Option Addr) (u_4n u_4c : Nat) (u_5p : Option Addr) (u_5n u_5c : Nat) (u_6p : Option Addr) (u_6n u_6c : Nat) (land : Int) (day : Int) (p_0 : Int) (p_1 : Int) (p_2 : Int) (p_3p : Option Addr) (p_3n p_3c : Nat) (excuse_0 : Int) (excuse_1 : Int) : ftree ({ P := Tryd.prog, priv := [5, 8, 9, 13], loops := [], joins := [{ id := 12, slots := [(10, .bool)], ro := [5, 8, 9, 13], outs := [] }, { id := 10, slots := [(57344, .int .i64), (57345, .int .i64), (57346, .int .i64), (57347, .int .i64), (57348, .slice), (57349, .slice), (57350, .slice)], ro := [5, 8, 9], outs := [] }, { id := 8, slots := [(10, .bool)], ro := [5, 8, 9, 13], outs := [] }, { id := 6, slots := [(57344, .int .i64), (57345, .int .i64), (57346, .int .i64), (57347, .int .i64), (57348, .slice), (57349, .slice), (57350, .slice)], ro := [5, 8, 9], outs := [] }, { id := 3, slots := [(10, .bool)], ro := [5, 8, 9], outs := [] }] }) Tryd.f8 [.agg #[.int .i64 u_0, .int .i64 u_1, .int .i64 u_2, .int .i64 u_3, .slice u_4p u_4n u_4c, .slice u_5p u_5n u_5c, .slice u_6p u_6n u_6c], .int .u8 land, .int .u16 day, .agg #[.int .i64 p_0, .int .i64 p_1, .int .i64 p_2, .slice p_3p p_3n p_3c], .agg #[.int .i64 excuse_0, .int .i64 excuse_1]] = n8 u_0 u_1 u_2 u_3 u_4p u_4n u_4c u_5p u_5n u_5c u_6p u_6n u_6c land day p_0 p_1 p_2 p_3p p_3n p_3c excuse_0
    excuse_1 := by kernel_rfl
theorem w8 (u_0 : Int) (u_1 : Int) (u_2 : Int) (u_3 : Int) (u_4p : Option Addr) (u_4n u_4c : Nat) (u_5p : Option Addr) (u_5n u_5c : Nat) (u_6p : Option Addr) (u_6n u_6c : Nat) (land : Int) (day : Int) (p_0 : Int) (p_1 : Int) (p_2 : Int) (p_3p : Option Addr) (p_3n p_3c : Nat) (excuse_0 : Int) (excuse_1 : Int) {X : XP} (hX : XOK X) {h : LH} {A : Value → LH → Prop} (hw : (n8 u_0 u_1 u_2 u_3 u_4p u_4n u_4c u_5p u_5n u_5c u_6p u_6n u_6c land day p_0 p_1 p_2 p_3p p_3n p_3c excuse_0
    excuse_1).wp X Tryd.prog (retQ A) h) : FWK X Tryd.prog .normal 8 #[.agg #[.int .i64 u_0, .int .i64 u_1, .int .i64 u_2, .int .i64 u_3, .slice u_4p u_4n u_4c, .slice u_5p u_5n u_5c, .slice u_6p u_6n u_6c], .int .u8 land, .int .u16 day, .agg #[.int .i64 p_0, .int .i64 p_1, .int .i64 p_2, .slice p_3p p_3n p_3c], .agg #[.int .i64 excuse_0, .int .i64 excuse_1]] h A := fwk_neat (t8 u_0 u_1 u_2 u_3 u_4p u_4n u_4c u_5p u_5n u_5c u_6p u_6n u_6c land day p_0 p_1 p_2 p_3p p_3n p_3c excuse_0
    excuse_1) (by simp) (by kernel_rfl) (by kernel_rfl) hX hw
noncomputable def n43 (u_0 : Int) (u_1 : Int) (u_2 : Int) (u_3 : Int) (u_4p : Option Addr) (u_4n u_4c : Nat) (u_5p : Option Addr) (u_5n u_5c : Nat) (u_6p : Option Addr) (u_6n u_6c : Nat) (than_0 : Int) (than_1 : Int) (than_2 : Int) (than_3 : Int) (than_4p : Option Addr) (than_4n than_4c : Nat) (than_5p : Option Addr) (than_5n than_5c : Nat) (than_6p : Option Addr) (than_6n than_6c : Nat) (land : Int) (day : Int) : T := .call false 23 #[.agg #[.int .i64 u_0, .int .i64 u_1, .int .i64 u_2, .int .i64 u_3, .slice u_4p u_4n u_4c, .slice u_5p u_5n u_5c, .slice u_6p u_6n u_6c], .int .i64 land, .int .i64 day] fun v => .unTup v fun l => .unCons l fun v vs => .unS v fun a n c => .unCons vs fun v vs => .unI .i64 v fun n_1 => .unNil vs (.call false 23 #[.agg #[.int .i64 than_0, .int .i64 than_1, .int .i64 than_2, .int .i64 than_3, .slice than_4p than_4n than_4c, .slice than_5p than_5n than_5c, .slice than_6p than_6n than_6c], .int .i64 land, .int .i64 day] fun v => .unTup v fun l => .unCons l fun v vs => .unS v fun a_1 n_2 c_1 => .unCons vs fun v vs => .unI .i64 v fun n_3 => .unNil vs (.blk (bif n_1 != 0 then .leaf (.retn [.bool false]) else bif n_3 != 0 then .leaf (.retn [.bool false]) else .call false 44 #[.slice a n c, .slice a_1 n_2 c_1] fun v => .unB v fun b => bif !b then .leaf (.retn [.bool false]) else .leaf (.again [.bool false])) (fun vs => .popB vs fun b vs => .unNil vs (.loop [.bool b, .int .i64 0] (fun vs => .popB vs fun b vs => .popI .i64 vs fun n vs => .unNil vs (bif decide (n < u_0) then .call false 19 #[.agg #[.int .i64 u_0, .int .i64 u_1, .int .i64 u_2, .int .i64 u_3, .slice u_4p u_4n u_4c, .slice u_5p u_5n u_5c, .slice u_6p u_6n u_6c], .int .i64 land, .int .i64 n, .int .i64 day] fun v => .unTup v fun l => .unCons l fun v vs => .unI .i64 v fun n_4 => .unCons vs fun v vs => .unI .i64 v fun n_5 => .unNil vs (.call false 19 #[.agg #[.int .i64 than_0, .int .i64 than_1, .int .i64 than_2, .int .i64 than_3, .slice than_4p than_4n than_4c, .slice than_5p than_5n than_5c, .slice than_6p than_6n than_6c], .int .i64 land, .int .i64 n, .int .i64 day] fun v => .unTup v fun l => .unCons l fun v vs => .unI .i64 v fun n_6 => .unCons vs fun v vs => .unI .i64 v fun n_7 => .unNil vs (.call false 21 #[.agg #[.int .i64 u_0, .int .i64 u_1, .int .i64 u_2, .int .i64 u_3, .slice u_4p u_4n u_4c, .slice u_5p u_5n u_5c, .slice u_6p u_6n u_6c], .int .i64 land, .int .i64 n] fun v => .unTup v fun l => .unCons l fun v vs => .unI .i64 v fun n_8 => .unCons vs fun v vs => .unI .i64 v fun n_9 => .unNil vs (.call false 21 #[.agg #[.int .i64 than_0, .int .i64 than_1, .int .i64 than_2, .int .i64 than_3, .slice than_4p than_4n than_4c, .slice than_5p than_5n than_5c, .slice than_6p than_6n than_6c], .int .i64 land, .int .i64 n] fun v => .unTup v fun l => .unCons l fun v vs => .unI .i64 v fun n_10 => .unCons vs fun v vs => .unI .i64 v fun n_11 => .unNil vs (bif n_5 != 0 then .leaf (.retn [.bool false, .int .i64 n]) else bif n_7 != 0 then .leaf (.retn [.bool false, .int .i64 n]) else bif n_9 != 0 then .leaf (.retn [.bool false, .int .i64 n]) else bif n_11 != 0 then .leaf (.retn [.bool false, .int .i64 n]) else .call false 45 #[.int .i64 n_4, .int .i64 n_6] fun v => .unB v fun b_1 => bif b_1 then .leaf (.retn [.bool false, .int .i64 n]) else bif decide (n_8 ≥ 0) then bif decide (n_10 < 0) then .leaf (.retn [.bool false, .int .i64 n]) else bif decide (n_8 < n_10) then .leaf (.retn [.bool false, .int .i64 n]) else .leaf (.again [.bool b, .int .i64 (IntKind.wrap .i64 (n + 1))]) else .leaf (.again [.bool b, .int .i64 (IntKind.wrap .i64 (n + 1))]))))) else .leaf (.brk [.bool b, .int .i64 n]))) (fun vs => .popB vs fun b vs => .popI .i64 vs fun n vs => .unNil vs (.leaf (.ret (.bool true)))) (fun vs => .popB vs fun b vs => .popI .i64 vs fun n vs => .unNil vs (.leaf (.ret (.bool b)))) fun x x_1 => .fail)) (fun vs => .popB vs fun b vs => .unNil vs (.leaf (.ret (.bool b)))) fun x x_1 => .fail))
theorem t43 (u_0 : Int) (u_1 : Int) (u_2 : Int) (u_3 : Int) (u_4p : Option Addr) (u_4n u_4c : Nat) (u_5p : Option Addr) (u_5n u_5c : Nat) (u_6p : Option Addr) (u_6n u_6c : Nat) (than_0 : Int) (than_1 : Int) (than_2 : Int) (than_3 : Int) (than_4p : Option Addr) (than_4n than_4c : Nat) (than_5p : Option Addr) (than_5n than_5c : Nat) (than_6p : Option Addr) (than_6n than_6c : Nat) (land : Int) (day : Int) : ftree ({ P := Tryd.prog, priv := [4, 5], loops := [{ id := 0, slots := [(8, .bool), (13, .int .i64)], ro := [4, 5], outs := [] }], joins := [{ id := 5, slots := [(8, .bool)], ro := [4, 5], outs := [] }] }) Tryd.f43 [.agg #[.int .i64 u_0, .int .i64 u_1, .int .i64 u_2, .int .i64 u_3, .slice u_4p u_4n u_4c, .slice u_5p u_5n u_5c, .slice u_6p u_6n u_6c], .agg #[.int .i64 than_0, .int .i64 than_1, .int .i64 than_2, .int .i64 than_3, .slice than_4p than_4n than_4c, .slice than_5p than_5n than_5c, .slice than_6p than_6n than_6c], .int .i64 land, .int .i64 day] = n43 u_0 u_1 u_2 u_3 u_4p u_4n u_4c u_5p u_5n u_5c u_6p u_6n u_6c than_0 than_1 than_2 than_3 than_4p than_4n than_4c
    than_5p than_5n than_5c than_6p than_6n than_6c land day := by kernel_rfl
theorem w43 (u_0 : Int) (u_1 : Int) (u_2 : Int) (u_3 : Int) (u_4p : Option Addr) (u_4n u_4c : Nat) (u_5p : Option Addr) (u_5n u_5c : Nat) (u_6p : Option Addr) (u_6n u_6c : Nat) (than_0 : Int) (than_1 : Int) (than_2 : Int) (than_3 : Int) (than_4p : Option Addr) (than_4n than_4c : Nat) (than_5p : Option Addr) (than_5n than_5c : Nat) (than_6p : Option Addr) (than_6n than_6c : Nat) (land : Int) (day : Int) {X : XP} (hX : XOK X) {h : LH} {A : Value → LH → Prop} (hw : (n43 u_0 u_1 u_2 u_3 u_4p u_4n u_4c u_5p u_5n u_5c u_6p u_6n u_6c than_0 than_1 than_2 than_3 than_4p than_4n than_4c
    than_5p than_5n than_5c than_6p than_6n than_6c land day).wp X Tryd.prog (retQ A) h) : FWK X Tryd.prog .normal 43 #[.agg #[.int .i64 u_0, .int .i64 u_1, .int .i64 u_2, .int .i64 u_3, .slice u_4p u_4n u_4c, .slice u_5p u_5n u_5c, .slice u_6p u_6n u_6c], .agg #[.int .i64 than_0, .int .i64 than_1, .int .i64 than_2, .int .i64 than_3, .slice than_4p than_4n than_4c, .slice than_5p than_5n than_5c, .slice than_6p than_6n than_6c], .int .i64 land, .int .i64 day] h A := fwk_neat (t43 u_0 u_1 u_2 u_3 u_4p u_4n u_4c u_5p u_5n u_5c u_6p u_6n u_6c than_0 than_1 than_2 than_3 than_4p than_4n than_4c
    than_5p than_5n than_5c than_6p than_6n than_6c land day) (by simp) (by kernel_rfl) (by kernel_rfl) hX hw
noncomputable def n44 (lp : Option Addr) (ln lc : Nat) (ofp : Option Addr) (ofn ofc : Nat) : T := bif (↑ln : Int) != (↑ofn : Int) then .leaf (.ret (.bool false)) else .loop [.bool false, .int .i64 0] (fun vs => .popB vs fun b vs => .popI .i64 vs fun n vs => .unNil vs (bif decide (n < (↑ln : Int)) then .need (0 ≤ n ∧ n < (↑ln : Int)) (.someA lp fun a => .loadI .i64 (Addr.add a (Int.toNat n * 1)) fun n_1 => .need (0 ≤ n ∧ n < (↑ofn : Int)) (.someA ofp fun a_1 => .loadI .i64 (Addr.add a_1 (Int.toNat n * 1)) fun n_2 => .call false 45 #[.int .i64 n_1, .int .i64 n_2] fun v => .unB v fun b_1 => .need (0 ≤ n ∧ n < (↑ofn : Int)) (.someA ofp fun a_2 => .need (AV.val (.pointer (some (Addr.add a_2 (Int.toNat n * 1)))) = AV.val (.pointer (some (Addr.add a_1 (Int.toNat n * 1))))) (.need (AV.val (.int .i64 n) = AV.val (.int .i64 n)) (.need (AV.val (.slice ofp ofn ofc) = AV.val (.slice ofp ofn ofc)) (.need (0 ≤ n ∧ n < (↑ln : Int)) (.someA lp fun a_3 => .need (AV.val (.pointer (some (Addr.add a_3 (Int.toNat n * 1)))) = AV.val (.pointer (some (Addr.add a (Int.toNat n * 1))))) (.need (AV.val (.int .i64 n) = AV.val (.int .i64 n)) (.need (AV.val (.slice lp ln lc) = AV.val (.slice lp ln lc)) (bif b_1 then .leaf (.retn [.bool false, .int .i64 n]) else .leaf (.again [.bool b, .int .i64 (IntKind.wrap .i64 (n + 1))]))))))))))) else .leaf (.brk [.bool b, .int .i64 n]))) (fun vs => .popB vs fun b vs => .popI .i64 vs fun n vs => .unNil vs (.leaf (.ret (.bool true)))) (fun vs => .popB vs fun b vs => .popI .i64 vs fun n vs => .unNil vs (.leaf (.ret (.bool b)))) fun x x_1 => .fail
theorem t44 (lp : Option Addr) (ln lc : Nat) (ofp : Option Addr) (ofn ofc : Nat) : ftree ({ P := Tryd.prog, priv := [], loops := [{ id := 0, slots := [(4, .bool), (5, .int .i64)], ro := [], outs := [] }], joins := [] }) Tryd.f44 [.slice lp ln lc, .slice ofp ofn ofc] = n44 lp ln lc ofp ofn ofc := by kernel_rfl
theorem w44 (lp : Option Addr) (ln lc : Nat) (ofp : Option Addr) (ofn ofc : Nat) {X : XP} (hX : XOK X) {h : LH} {A : Value → LH → Prop} (hw : (n44 lp ln lc ofp ofn ofc).wp X Tryd.prog (retQ A) h) : FWK X Tryd.prog .normal 44 #[.slice lp ln lc, .slice ofp ofn ofc] h A := fwk_neat (t44 lp ln lc ofp ofn ofc) (by simp) (by kernel_rfl) (by kernel_rfl) hX hw
noncomputable def n45 (a : Int) (b : Int) : T := .call false 77 #[.int .i64 a] fun v => .unI .i64 v fun n => .call false 77 #[.int .i64 b] fun v => .unI .i64 v fun n_1 => .leaf (.ret (.bool (decide (n < n_1))))
theorem t45 (a : Int) (b : Int) : ftree ({ P := Tryd.prog, priv := [], loops := [], joins := [] }) Tryd.f45 [.int .i64 a, .int .i64 b] = n45 a b := by kernel_rfl
theorem w45 (a : Int) (b : Int) {X : XP} (hX : XOK X) {h : LH} {A : Value → LH → Prop} (hw : (n45 a b).wp X Tryd.prog (retQ A) h) : FWK X Tryd.prog .normal 45 #[.int .i64 a, .int .i64 b] h A := fwk_neat (t45 a b) (by simp) (by kernel_rfl) (by kernel_rfl) hX hw
noncomputable def n77 (s : Int) : T := bif s == 2 then .leaf (.ret (.int .i64 0)) else bif s == 1 then .leaf (.ret (.int .i64 2)) else .leaf (.ret (.int .i64 1))
theorem t77 (s : Int) : ftree ({ P := Tryd.prog, priv := [], loops := [], joins := [] }) Tryd.f77 [.int .i64 s] = n77 s := by kernel_rfl
theorem w77 (s : Int) {X : XP} (hX : XOK X) {h : LH} {A : Value → LH → Prop} (hw : (n77 s).wp X Tryd.prog (retQ A) h) : FWK X Tryd.prog .normal 77 #[.int .i64 s] h A := fwk_neat (t77 s) (by simp) (by kernel_rfl) (by kernel_rfl) hX hw
end Go.Proofs.YtibibhojkfapnaaDoor
end
section
namespace Go.Proofs.YtibibhojkfapnaaDoor
open Go Go.TM Go.Proofs
attribute [local irreducible] T.wp CV FWK
theorem c77 {h : LH} (s : Int) : Pu Tryd.prog 77 #[.int .i64 s] h (.int .i64 (rk s)) := by
  refine w77 _ X0_ok ?_
  unfold n77 rk
  refine t_cond (fun e => ?_) (fun e => ?_)
  · have : s = 2 := by simpa using e
    exact t_ret ⟨by rw [if_pos this], rfl⟩
  · have h2 : s ≠ 2 := by simpa using e
    refine t_cond (fun e => ?_) (fun e => ?_)
    · have : s = 1 := by simpa using e
      exact t_ret ⟨by rw [if_neg h2, if_pos this], rfl⟩
    · have : s ≠ 1 := by simpa using e
      exact t_ret ⟨by rw [if_neg h2, if_neg this], rfl⟩
theorem c45 {h : LH} (a b : Int) : Pu Tryd.prog 45 #[.int .i64 a, .int .i64 b] h (.bool (decide (rk a < rk b))) := by
  refine w45 _ _ X0_ok ?_
  unfold n45
  refine t_pu (c77 a) ?_
  (repeat (first | (with_reducible first | apply gA | apply gB | apply gC | apply gD | apply gE | apply gF | apply gG | apply gH | apply gI | apply gJ | apply gK | apply gL | apply gM | apply gN | apply gO | apply gP | apply gQ | apply gR) | ((with_reducible apply gT); first | exact rfl | exact True.intro | omega | assumption) | ((with_reducible apply gS2); first | assumption | rfl) | ((with_reducible first | apply gL0 | apply gL1 | apply gL2 | apply gL3 | apply gL4); assumption)))
  refine t_pu (c77 b) ?_
  (repeat (first | (with_reducible first | apply gA | apply gB | apply gC | apply gD | apply gE | apply gF | apply gG | apply gH | apply gI | apply gJ | apply gK | apply gL | apply gM | apply gN | apply gO | apply gP | apply gQ | apply gR) | ((with_reducible apply gT); first | exact rfl | exact True.intro | omega | assumption) | ((with_reducible apply gS2); first | assumption | rfl) | ((with_reducible first | apply gL0 | apply gL1 | apply gL2 | apply gL3 | apply gL4); assumption)))
  exact t_ret ⟨rfl, rfl⟩
def NoLessP (a b : List Int) : Prop := a.length = b.length ∧ ∀ (i : Nat) x y, a[i]? = some x → b[i]? = some y → rk y ≤ rk x
theorem c44 {h : LH} {p q : Option Addr} {n c m d : Nat} {a b : List Int} (ha : Sl IntE 1 h.get p n a) (hb : Sl IntE 1 h.get q m b) (hn : NoLessP a b) : Pu Tryd.prog 44 #[.slice p n c, .slice q m d] h (.bool true) := by
  refine w44 _ _ _ _ _ _ X0_ok ?_
  unfold n44
  have hna := ha.1
  have hnb := hb.1
  have hba := ha.2.1
  have hl := hn.1
  refine t_cond (fun e => ?_) (fun _ => ?_)
  · simp at e; omega
  refine t_loop (fun mm vs h' => h = h' ∧ ∃ i : Nat, vs = [.bool false, .int .i64 i] ∧ i ≤ n ∧ mm = n - i) ⟨rfl, 0, rfl, Nat.zero_le _, rfl⟩ ?_
  rintro Y mm vs _ hY ⟨rfl, i, rfl, hi, rfl⟩
  (repeat (first | (with_reducible first | apply gA | apply gB | apply gC | apply gD | apply gE | apply gF | apply gG | apply gH | apply gI | apply gJ | apply gK | apply gL | apply gM | apply gN | apply gO | apply gP | apply gQ | apply gR) | ((with_reducible apply gT); first | exact rfl | exact True.intro | omega | assumption) | ((with_reducible apply gS2); first | assumption | rfl) | ((with_reducible first | apply gL0 | apply gL1 | apply gL2 | apply gL3 | apply gL4); assumption)))
  refine t_if (fun e => ?_) (fun e => ?_)
  · obtain ⟨x, a1, hx, ha1, e1⟩ := ha.at (i := i) (by omega)
    obtain ⟨y, a2, hy, ha2, e2⟩ := hb.at (i := i) (by omega)
    unfold IntE at e1 e2
    have hr := hn.2 i x y hx hy
    (repeat (first | (with_reducible first | apply gA | apply gB | apply gC | apply gD | apply gE | apply gF | apply gG | apply gH | apply gI | apply gJ | apply gK | apply gL | apply gM | apply gN | apply gO | apply gP | apply gQ | apply gR) | ((with_reducible apply gT); first | exact rfl | exact True.intro | omega | assumption) | ((with_reducible apply gS2); first | assumption | rfl) | ((with_reducible first | apply gL0 | apply gL1 | apply gL2 | apply gL3 | apply gL4); assumption)))
    refine t_pu (c45 _ _) ?_
    rw [decide_eq_false (by omega : ¬ rk x < rk y)]
    (repeat (first | (with_reducible first | apply gA | apply gB | apply gC | apply gD | apply gE | apply gF | apply gG | apply gH | apply gI | apply gJ | apply gK | apply gL | apply gM | apply gN | apply gO | apply gP | apply gQ | apply gR) | ((with_reducible apply gT); first | exact rfl | exact True.intro | omega | assumption) | ((with_reducible apply gS2); first | assumption | rfl) | ((with_reducible first | apply gL0 | apply gL1 | apply gL2 | apply gL3 | apply gL4); assumption)))
    refine t_cond (fun e => by cases e) (fun _ => ?_)
    refine t_again (hY (n - (i + 1)) _ _ (by omega) ⟨rfl, i + 1, ?_, by omega, rfl⟩)
    rw [wrap_id (by omega) (by omega)]; rfl
  · (repeat (first | (with_reducible first | apply gA | apply gB | apply gC | apply gD | apply gE | apply gF | apply gG | apply gH | apply gI | apply gJ | apply gK | apply gL | apply gM | apply gN | apply gO | apply gP | apply gQ | apply gR) | ((with_reducible apply gT); first | exact rfl | exact True.intro | omega | assumption) | ((with_reducible apply gS2); first | assumption | rfl) | ((with_reducible first | apply gL0 | apply gL1 | apply gL2 | apply gL3 | apply gL4); assumption)))
    exact t_ret ⟨rfl, rfl⟩
structure SaferP (u v : UseFile) (k d : Int) : Prop where
  items : v.items = u.items
  frm : v.from_ = u.from_
  safe : ∀ i e, 0 ≤ e → e ≤ 2000 → rk (safe v k i e) ≤ rk (safe u k i e)
  left : ∀ i, rk (left v k i d) ≤ rk (left u k i d)
theorem SaferP.noLess {u v : UseFile} {k d : Int} (s : SaferP u v k d) : NoLessP (leftAll u k d) (leftAll v k d) := by
  refine ⟨by unfold leftAll; simp [s.items], fun i x y hx hy => ?_⟩
  have hi : i < u.items.toNat := by
    have := (List.getElem?_eq_some_iff.1 hx).1
    unfold leftAll at this
    simpa using this
  unfold leftAll at hx hy
  rw [s.items] at hy
  rw [List.getElem?_map, List.getElem?_range hi] at hx hy
  simp at hx hy
  subst hx; subst hy
  exact s.left i
theorem rk_two {s : Int} : rk s = 2 ↔ s = 1 := by unfold rk; split <;> (try split) <;> omega
theorem SaferP.one {u v : UseFile} {k d : Int} (s : SaferP u v k d) {i e : Int} (h0 : 0 ≤ e) (h1 : e ≤ 2000) (h : TM.safe v k i e = 1) : TM.safe u k i e = 1 := by
  have := s.safe i e h0 h1
  rw [rk_two.2 h] at this
  have := (rk_vals (TM.safe u k i e)).2
  exact rk_two.1 (by omega)
theorem SaferP.weak {u v : UseFile} {k d : Int} (s : SaferP u v k d) (hu : checkF u = 0) (hv : checkF v = 0) (i : Int) : ¬ (weak u k i ≥ 0 ∧ (weak v k i < 0 ∨ weak u k i < weak v k i)) := by
  rintro ⟨h1, h2⟩
  have hfr := s.frm
  have hf := (num_ok (check_num hu)).2.2.1
  rcases weak_spec hu k i with ⟨a1, _⟩ | ⟨a1, a2, a3, _⟩
  · omega
  · refine a3 (s.one (by omega) a2 ?_)
    rcases weak_spec hv k i with ⟨b1, b2⟩ | ⟨b1, b2, b3, b4⟩
    · exact b2 _ (by rw [s.frm]; exact a1) a2
    · exact b4 _ (by rw [s.frm]; exact a1) (by omega)
theorem c43 {h : LH} (hp : Parts h.get) {f g : FileC} {u v : UseFile} (hu : FileR h.get f u) (hv : FileR h.get g v) (cu : checkF u = 0) (cv : checkF v = 0) {k d : Int} (hk : 0 ≤ k ∧ k < u.lands) (hkv : 0 ≤ k ∧ k < v.lands) (hd : 0 ≤ d ∧ d ≤ 2000) (s : SaferP u v k d) :
    Gr Tryd.prog 43 #[fileV f u, fileV g v, .int .i64 k, .int .i64 d] h fun r _ => r = .bool true := by
  refine w43 _ _ _ _ _ _ _ _ _ _ _ _ _ _ _ _ _ _ _ _ _ _ _ _ _ _ _ _ X0_ok ?_
  unfold n43
  refine t_gr (c23 hp hu k d) ?_
  intro r1 h1 le1 hr1
  obtain ⟨p1, n1, k1, rfl, s1⟩ := hr1.form
  rw [leftQ_ok cu hk hd, if_pos rfl] at s1
  rw [leftQ_ok cu hk hd]
  (repeat (first | (with_reducible first | apply gA | apply gB | apply gC | apply gD | apply gE | apply gF | apply gG | apply gH | apply gI | apply gJ | apply gK | apply gL | apply gM | apply gN | apply gO | apply gP | apply gQ | apply gR) | ((with_reducible apply gT); first | exact rfl | exact True.intro | omega | assumption) | ((with_reducible apply gS2); first | assumption | rfl) | ((with_reducible first | apply gL0 | apply gL1 | apply gL2 | apply gL3 | apply gL4); assumption)))
  refine t_gr (c23 (hp.le le1.1) (hv.le le1.1) k d) ?_
  intro r2 h2 le2 hr2
  obtain ⟨p2, n2, k2, rfl, s2⟩ := hr2.form
  rw [leftQ_ok cv hkv hd, if_pos rfl] at s2
  rw [leftQ_ok cv hkv hd]
  (repeat (first | (with_reducible first | apply gA | apply gB | apply gC | apply gD | apply gE | apply gF | apply gG | apply gH | apply gI | apply gJ | apply gK | apply gL | apply gM | apply gN | apply gO | apply gP | apply gQ | apply gR) | ((with_reducible apply gT); first | exact rfl | exact True.intro | omega | assumption) | ((with_reducible apply gS2); first | assumption | rfl) | ((with_reducible first | apply gL0 | apply gL1 | apply gL2 | apply gL3 | apply gL4); assumption)))
  have le12 := LH.le_trans le1 le2
  refine t_blk (fun vs h' => vs = [.bool false] ∧ h2 = h') ?_ ?_
  · refine t_cond (fun e => absurd e (by simp)) (fun _ => ?_)
    refine t_cond (fun e => absurd e (by simp)) (fun _ => ?_)
    refine t_pu (c44 (s1.le IntE.grow le2.1) s2 s.noLess) ?_
    (repeat (first | (with_reducible first | apply gA | apply gB | apply gC | apply gD | apply gE | apply gF | apply gG | apply gH | apply gI | apply gJ | apply gK | apply gL | apply gM | apply gN | apply gO | apply gP | apply gQ | apply gR) | ((with_reducible apply gT); first | exact rfl | exact True.intro | omega | assumption) | ((with_reducible apply gS2); first | assumption | rfl) | ((with_reducible first | apply gL0 | apply gL1 | apply gL2 | apply gL3 | apply gL4); assumption)))
    refine t_cond (fun e => absurd e (by simp)) (fun _ => ?_)
    exact t_again ⟨rfl, rfl⟩
  rintro vs _ ⟨rfl, rfl⟩
  have hit := (num_ok (check_num cu)).1
  (repeat (first | (with_reducible first | apply gA | apply gB | apply gC | apply gD | apply gE | apply gF | apply gG | apply gH | apply gI | apply gJ | apply gK | apply gL | apply gM | apply gN | apply gO | apply gP | apply gQ | apply gR) | ((with_reducible apply gT); first | exact rfl | exact True.intro | omega | assumption) | ((with_reducible apply gS2); first | assumption | rfl) | ((with_reducible first | apply gL0 | apply gL1 | apply gL2 | apply gL3 | apply gL4); assumption)))
  refine t_loop (fun mm vs h' => h2.le h' ∧ ∃ i : Nat, vs = [.bool false, .int .i64 i] ∧ i ≤ u.items.toNat ∧ mm = u.items.toNat - i) ⟨LH.le_refl _, 0, rfl, Nat.zero_le _, rfl⟩ ?_
  rintro Y mm vs h3 hY ⟨le3, i, rfl, hi, rfl⟩
  have le13 := LH.le_trans le12 le3
  (repeat (first | (with_reducible first | apply gA | apply gB | apply gC | apply gD | apply gE | apply gF | apply gG | apply gH | apply gI | apply gJ | apply gK | apply gL | apply gM | apply gN | apply gO | apply gP | apply gQ | apply gR) | ((with_reducible apply gT); first | exact rfl | exact True.intro | omega | assumption) | ((with_reducible apply gS2); first | assumption | rfl) | ((with_reducible first | apply gL0 | apply gL1 | apply gL2 | apply gL3 | apply gL4); assumption)))
  refine t_if (fun e1 => ?_) (fun e1 => ?_)
  · have hiu : 0 ≤ (i : Int) ∧ (i : Int) < u.items := ⟨by omega, by omega⟩
    have hiv : 0 ≤ (i : Int) ∧ (i : Int) < v.items := by rw [s.items]; exact hiu
    refine t_gr (c19 (hp.le le13.1) (hu.le le13.1) k i d) ?_
    rintro _ h4 le4 rfl
    rw [safeR_ok cu hk hiu hd]
    have le14 := LH.le_trans le13 le4
    (repeat (first | (with_reducible first | apply gA | apply gB | apply gC | apply gD | apply gE | apply gF | apply gG | apply gH | apply gI | apply gJ | apply gK | apply gL | apply gM | apply gN | apply gO | apply gP | apply gQ | apply gR) | ((with_reducible apply gT); first | exact rfl | exact True.intro | omega | assumption) | ((with_reducible apply gS2); first | assumption | rfl) | ((with_reducible first | apply gL0 | apply gL1 | apply gL2 | apply gL3 | apply gL4); assumption)))
    refine t_gr (c19 (hp.le le14.1) (hv.le le14.1) k i d) ?_
    rintro _ h5 le5 rfl
    rw [safeR_ok cv hkv hiv hd]
    have le15 := LH.le_trans le14 le5
    (repeat (first | (with_reducible first | apply gA | apply gB | apply gC | apply gD | apply gE | apply gF | apply gG | apply gH | apply gI | apply gJ | apply gK | apply gL | apply gM | apply gN | apply gO | apply gP | apply gQ | apply gR) | ((with_reducible apply gT); first | exact rfl | exact True.intro | omega | assumption) | ((with_reducible apply gS2); first | assumption | rfl) | ((with_reducible first | apply gL0 | apply gL1 | apply gL2 | apply gL3 | apply gL4); assumption)))
    refine t_gr (c21 (hp.le le15.1) (hu.le le15.1) k i) ?_
    rintro _ h6 le6 rfl
    rw [weakR_ok cu hk hiu]
    have le16 := LH.le_trans le15 le6
    (repeat (first | (with_reducible first | apply gA | apply gB | apply gC | apply gD | apply gE | apply gF | apply gG | apply gH | apply gI | apply gJ | apply gK | apply gL | apply gM | apply gN | apply gO | apply gP | apply gQ | apply gR) | ((with_reducible apply gT); first | exact rfl | exact True.intro | omega | assumption) | ((with_reducible apply gS2); first | assumption | rfl) | ((with_reducible first | apply gL0 | apply gL1 | apply gL2 | apply gL3 | apply gL4); assumption)))
    refine t_gr (c21 (hp.le le16.1) (hv.le le16.1) k i) ?_
    rintro _ h7 le7 rfl
    rw [weakR_ok cv hkv hiv]
    have le17 := LH.le_trans le16 le7
    (repeat (first | (with_reducible first | apply gA | apply gB | apply gC | apply gD | apply gE | apply gF | apply gG | apply gH | apply gI | apply gJ | apply gK | apply gL | apply gM | apply gN | apply gO | apply gP | apply gQ | apply gR) | ((with_reducible apply gT); first | exact rfl | exact True.intro | omega | assumption) | ((with_reducible apply gS2); first | assumption | rfl) | ((with_reducible first | apply gL0 | apply gL1 | apply gL2 | apply gL3 | apply gL4); assumption)))
    have hw := s.weak cu cv i
    refine t_cond (fun e => absurd e (by simp)) (fun _ => ?_)
    refine t_cond (fun e => absurd e (by simp)) (fun _ => ?_)
    refine t_cond (fun e => absurd e (by simp)) (fun _ => ?_)
    refine t_cond (fun e => absurd e (by simp)) (fun _ => ?_)
    have hsf := s.safe i d hd.1 hd.2
    refine t_pu (c45 _ _) ?_
    rw [decide_eq_false (by omega : ¬ rk (safe u k i d) < rk (safe v k i d))]
    (repeat (first | (with_reducible first | apply gA | apply gB | apply gC | apply gD | apply gE | apply gF | apply gG | apply gH | apply gI | apply gJ | apply gK | apply gL | apply gM | apply gN | apply gO | apply gP | apply gQ | apply gR) | ((with_reducible apply gT); first | exact rfl | exact True.intro | omega | assumption) | ((with_reducible apply gS2); first | assumption | rfl) | ((with_reducible first | apply gL0 | apply gL1 | apply gL2 | apply gL3 | apply gL4); assumption)))
    refine t_cond (fun e => by cases e) (fun _ => ?_)
    have next : Y [.bool false, .int .i64 (IntKind.wrap .i64 ((i : Int) + 1))] h7 := by
      refine hY (u.items.toNat - (i + 1)) _ _ (by omega) ⟨LH.le_trans (LH.le_trans (LH.le_trans (LH.le_trans le3 le4) le5) le6) le7, i + 1, ?_, by omega, rfl⟩
      rw [wrap_id (by omega) (by omega)]; rfl
    refine t_if (fun e2 => ?_) (fun _ => t_again next)
    refine t_if (fun e3 => absurd ⟨e2, .inl e3⟩ hw) (fun _ => ?_)
    refine t_if (fun e3 => absurd ⟨e2, .inr e3⟩ hw) (fun _ => t_again next)
  · (repeat (first | (with_reducible first | apply gA | apply gB | apply gC | apply gD | apply gE | apply gF | apply gG | apply gH | apply gI | apply gJ | apply gK | apply gL | apply gM | apply gN | apply gO | apply gP | apply gQ | apply gR) | ((with_reducible apply gT); first | exact rfl | exact True.intro | omega | assumption) | ((with_reducible apply gS2); first | assumption | rfl) | ((with_reducible first | apply gL0 | apply gL1 | apply gL2 | apply gL3 | apply gL4); assumption)))
    exact t_ret ⟨le13, rfl⟩
end Go.Proofs.YtibibhojkfapnaaDoor
end
section
namespace Go.Proofs.YtibibhojkfapnaaDoor
open Go Go.TM Go.Proofs
attribute [local irreducible] T.wp CV FWK
def PaperB (h0 : Cells) (h : Cells) (a : Addr) (x : Paper) : Prop := ∃ q m c, (∀ (j : Nat) w, [Value.int .i64 x.days.first, .int .i64 x.days.last, .int .i64 x.land, .slice q m c][j]? = some w → h.cell? (a.add j) = some w) ∧ Sl IntE 1 h0 q m x.items
theorem paperTold {h0 h : Cells} : ToldE (PaperB h0) (PaperEnc h0) 4 h := by
  rintro a x ⟨q, m, c, h1, h2⟩
  exact ⟨_, ⟨q, m, c, rfl, h2⟩, rfl, h1, fun w hw => by simp at hw; rcases hw with rfl | rfl | rfl | rfl <;> rfl⟩
theorem PaperB.of {h0 h : Cells} (hr : Rd h0 h) {p : Option Addr} {n : Nat} {l : List Paper} (s : Sl PaperE 4 h0 p n l) : Sl (PaperB h0) 4 h p n l := by
  refine ⟨s.1, s.2.1, fun i x hx => ?_⟩
  obtain ⟨a, ha, h1, h2, h3, q, m, c, h4, h5⟩ := s.2.2 i x hx
  refine ⟨a, ha, q, m, c, fun j w hj => ?_, h5⟩
  match j, hj with
  | 0, hj => cases hj; exact hr _ _ h1
  | 1, hj => cases hj; exact hr _ _ h2
  | 2, hj => cases hj; exact hr _ _ h3
  | 3, hj => cases hj; exact hr _ _ h4
  | j + 4, hj => simp at hj
def SpanEnc (x : Span) (ws : List Value) : Prop := ws = [.int .i64 x.first, .int .i64 x.last]
theorem SpanEnc.len : ∀ x ws, SpanEnc x ws → ws.length = 2 := by rintro x _ rfl; rfl
theorem SpanEnc.e {h' : Cells} : ∀ a x ws, SpanEnc x ws → (∀ (j : Nat) w, ws[j]? = some w → h'.cell? (a.add j) = some w) → SpanE h' a x := by
  rintro a x _ rfl hc
  exact ⟨hc 0 _ rfl, hc 1 _ rfl⟩
theorem spanTold {h : Cells} : ToldE SpanE SpanEnc 2 h := by
  rintro a x ⟨h1, h2⟩
  refine ⟨_, rfl, rfl, fun j w hj => ?_, fun w hw => by simp at hw; rcases hw with rfl | rfl <;> rfl⟩
  match j, hj with
  | 0, hj => cases hj; exact h1
  | 1, hj => cases hj; exact h2
  | j + 2, hj => simp at hj
theorem row_stands {h h' : Cells} {r : Nat} {cs : Array Value} {el : TypeId} {ws : List Value} (hr : h r = some (true, .cells cs el (0, 0))) (hc : ∀ (j : Nat) w, ws[j]? = some w → cs[j]? = some w) (hk : h' r = h r) (j : Nat) (w : Value) (hj : ws[j]? = some w) : h'.cell? ((⟨r, 0, none⟩ : Addr).add j) = some w := by
  rw [add_plain, Nat.zero_add]
  unfold Cells.cell?
  rw [hk, hr]
  exact hc j w hj
section
variable {X : XP} {Q : Leaf → LH → Prop}
theorem copy_end1 {α : Type} {Enc : α → List Value → Prop} {h h₁ : LH} {K : Value → T} {tS el : TypeId} {s by_ : Nat} {z : Value} {p : Option Addr} {n c : Nat} {l : List α} {x : α} {ws : List Value} {r : Nat} {cs : Array Value} (hu : Tryd.prog.underlying tS = some (.slice el)) (hi : (Tryd.prog.info? el).map (fun i => (i.size, i.bytes, i.zero)) = some (s, by_, some z)) (hsz : z.cells.size = s) (hb : by_ ≤ 1024) (hn : n + 1 ≤ 2 ^ 30)
    (g : Growing Enc el s h.get h₁.get p n c l) (hle : h.le h₁) (he : Enc x ws) (hl : ws.length = s) (one : ∀ v ∈ ws, isOne v = true) (hr : h₁.get r = some (true, .cells cs el (0, 0))) (hc : ∀ (j : Nat) w, ws[j]? = some w → cs[j]? = some w)
    (hk : ∀ p' c' h', h.le h' → Growing Enc el s h.get h'.get p' (n + 1) c' (l ++ [x]) → (K (.slice p' (n + 1) c')).wp X Tryd.prog Q h') : (T.sem false (Builtin.append_ #[tS, tS] tS #[.slice p n c, .slice (some ⟨r, 0, none⟩) 1 1]) K).wp X Tryd.prog Q h₁ :=
  t_grow (h₀ := h) (x := x) (ws := ws) rfl rfl hu hu hi hsz hb hn g hle he hl (fun j v hj => row_stands hr hc rfl j v hj) one fun p' c' h' a _ b => hk p' c' h' a b
end
def PaperEnd (h : LH) (f : FileC) (u : UseFile) (y : Paper) (vs : List Value) (h' : LH) : Prop := ∃ p n c, vs = [.int .i64 u.items, .int .i64 u.lands, .int .i64 u.from_, .int .i64 u.idle, .slice f.p4 f.n4 f.c4, .slice p n c, .slice f.p6 f.n6 f.c6] ∧ h.le h' ∧ FileR h'.get { f with p5 := p, n5 := n, c5 := c } { u with papers := u.papers ++ [y] }
theorem paperEnd_of {h h' : LH} {f : FileC} {u : UseFile} {y : Paper} (hu : FileR h.get f u) (h8 : u.papers.length ≤ 8) {p : Option Addr} {n c : Nat} (hle : h.le h') (g : Growing (PaperEnc h.get) 69 4 h.get h'.get p n c (u.papers ++ [y])) : PaperEnd h f u y [.int .i64 u.items, .int .i64 u.lands, .int .i64 u.from_, .int .i64 u.idle, .slice f.p4 f.n4 f.c4, .slice p n c, .slice f.p6 f.n6 f.c6] h' :=
  ⟨p, n, c, rfl, hle, (hu.le hle.1).excuses, g.sl PaperEnc.len (by omega) (PaperEnc.e (Rd.of_le hle.1)) (by simp; omega), (hu.le hle.1).requests⟩
def ExcuseEnd (h : LH) (f : FileC) (u : UseFile) (y : Span) (vs : List Value) (h' : LH) : Prop := ∃ p n c, vs = [.int .i64 u.items, .int .i64 u.lands, .int .i64 u.from_, .int .i64 u.idle, .slice p n c, .slice f.p5 f.n5 f.c5, .slice f.p6 f.n6 f.c6] ∧ h.le h' ∧ FileR h'.get { f with p4 := p, n4 := n, c4 := c } { u with excuses := u.excuses ++ [y] }
theorem excuseEnd_of {h h' : LH} {f : FileC} {u : UseFile} {y : Span} (hu : FileR h.get f u) (h8 : u.excuses.length ≤ 8) {p : Option Addr} {n c : Nat} (hle : h.le h') (g : Growing SpanEnc 30 2 h.get h'.get p n c (u.excuses ++ [y])) : ExcuseEnd h f u y [.int .i64 u.items, .int .i64 u.lands, .int .i64 u.from_, .int .i64 u.idle, .slice p n c, .slice f.p5 f.n5 f.c5, .slice f.p6 f.n6 f.c6] h' :=
  ⟨p, n, c, rfl, hle, g.sl SpanEnc.len (by omega) SpanEnc.e (by simp; omega), (hu.le hle.1).papers, (hu.le hle.1).requests⟩
theorem check_excuses {u : UseFile} (h : checkF u = 0) : u.excuses.length ≤ 8 := by
  obtain ⟨h1, _⟩ := eachF_zero (check_parts h).2.1
  omega
theorem c8 {h : LH} (hch : h.chans = []) (hpe : h.pend = []) (hp : Parts h.get) {f : FileC} {u : UseFile} (hu : FileR h.get f u) (land : Int) (hl : 0 ≤ land ∧ land ≤ 255) (day : Int) (hd : 0 ≤ day ∧ day ≤ 65535) {q : Option Addr} {m cq : Nat} {y : Paper} (hy : Sl IntE 1 h.get q m y.items) (ex : Span) :
    FW XT Tryd.prog 8 #[fileV f u, .int .u8 land, .int .u16 day, paperV y q m cq, .agg #[.int .i64 ex.first, .int .i64 ex.last]] h (Fin h) := by
  refine w8 _ _ _ _ _ _ _ _ _ _ _ _ _ _ _ _ _ _ _ _ _ _ _ XT_ok ?_
  unfold n8
  refine t_blk (fun vs h' => vs = [.bool false] ∧ h = h' ∧ checkF u = 0) ?_ ?_
  · refine t_call (FW.top (c36 hu)) ?_
    rintro _ _ ⟨rfl, b, rfl, hb⟩
    (repeat (first | (with_reducible first | apply gA | apply gB | apply gC | apply gD | apply gE | apply gF | apply gG | apply gH | apply gI | apply gJ | apply gK | apply gL | apply gM | apply gN | apply gO | apply gP | apply gQ | apply gR) | ((with_reducible apply gT); first | exact rfl | exact True.intro | omega | assumption) | ((with_reducible apply gS2); first | assumption | rfl) | ((with_reducible first | apply gL0 | apply gL1 | apply gL2 | apply gL3 | apply gL4); assumption)))
    refine t_cond (fun _ => ?_) (fun hbf => ?_)
    · refine t_shown hch hpe hp (LH.le_refl _) fun h' hh => ?_
      (repeat (first | (with_reducible first | apply gA | apply gB | apply gC | apply gD | apply gE | apply gF | apply gG | apply gH | apply gI | apply gJ | apply gK | apply gL | apply gM | apply gN | apply gO | apply gP | apply gQ | apply gR) | ((with_reducible apply gT); first | exact rfl | exact True.intro | omega | assumption) | ((with_reducible apply gS2); first | assumption | rfl) | ((with_reducible first | apply gL0 | apply gL1 | apply gL2 | apply gL3 | apply gL4); assumption)))
      exact t_ret ⟨rfl, hh⟩
    have hck := hb (by simpa using hbf)
    refine t_if (fun _ => ?_) (fun e => ?_)
    · refine t_shown hch hpe hp (LH.le_refl _) fun h' hh => ?_
      (repeat (first | (with_reducible first | apply gA | apply gB | apply gC | apply gD | apply gE | apply gF | apply gG | apply gH | apply gI | apply gJ | apply gK | apply gL | apply gM | apply gN | apply gO | apply gP | apply gQ | apply gR) | ((with_reducible apply gT); first | exact rfl | exact True.intro | omega | assumption) | ((with_reducible apply gS2); first | assumption | rfl) | ((with_reducible first | apply gL0 | apply gL1 | apply gL2 | apply gL3 | apply gL4); assumption)))
      exact t_ret ⟨rfl, hh⟩
    · exact t_again ⟨rfl, rfl, hck⟩
  rintro vs _ ⟨rfl, rfl, hck⟩
  obtain ⟨⟨i1, i2⟩, ⟨l1, l2⟩, ⟨f1, f2⟩, ⟨d1, d2⟩⟩ := num_ok (check_num hck)
  have hl0 : u.lands ≠ 0 := by omega
  have h8 := (check_papers hck).1
  have hx8 := check_excuses hck
  have hn5 := hu.papers.1
  have hn4 := hu.excuses.1
  (repeat (first | (with_reducible first | apply gA | apply gB | apply gC | apply gD | apply gE | apply gF | apply gG | apply gH | apply gI | apply gJ | apply gK | apply gL | apply gM | apply gN | apply gO | apply gP | apply gQ | apply gR) | ((with_reducible apply gT); first | exact rfl | exact True.intro | omega | assumption) | ((with_reducible apply gS2); first | assumption | rfl) | ((with_reducible first | apply gL0 | apply gL1 | apply gL2 | apply gL3 | apply gL4); assumption)))
  refine t_pu (c37 hd) ?_
  (repeat (first | (with_reducible first | apply gA | apply gB | apply gC | apply gD | apply gE | apply gF | apply gG | apply gH | apply gI | apply gJ | apply gK | apply gL | apply gM | apply gN | apply gO | apply gP | apply gQ | apply gR) | ((with_reducible apply gT); first | exact rfl | exact True.intro | omega | assumption) | ((with_reducible apply gS2); first | assumption | rfl) | ((with_reducible first | apply gL0 | apply gL1 | apply gL2 | apply gL3 | apply gL4); assumption)))
  rw [wrap_u8 hl, tmod_nn hl.1]
  have hk := mod_pos (n := land) (b := u.lands) (by omega)
  have hday := mod_day (n := day)
  generalize land % u.lands = k at *
  generalize day % 2001 = d at *
  have vu := Valid.of hck
  -- one paper more
  refine t_blk (PaperEnd h f u y) ?_ ?_
  · have ones : ∀ v ∈ [Value.int .i64 y.days.first, .int .i64 y.days.last, .int .i64 y.land, .slice q m cq], isOne v = true := by
      intro w hw; simp at hw; rcases hw with rfl | rfl | rfl | rfl <;> rfl
    have enc : PaperEnc h.get y [Value.int .i64 y.days.first, .int .i64 y.days.last, .int .i64 y.land, .slice q m cq] := ⟨q, m, cq, rfl, hy⟩
    refine t_both ?_ ?_
    · refine t_build0G (h₀ := h) (Enc := PaperEnc h.get) und23 inf69 (LH.le_refl _) fun r0 h1 hr0 le1 g1 => ?_
      (repeat (first | (with_reducible first | apply gA | apply gB | apply gC | apply gD | apply gE | apply gF | apply gG | apply gH | apply gI | apply gJ | apply gK | apply gL | apply gM | apply gN | apply gO | apply gP | apply gQ | apply gR) | ((with_reducible apply gT); first | exact rfl | exact True.intro | omega | assumption) | ((with_reducible apply gS2); first | assumption | rfl) | ((with_reducible first | apply gL0 | apply gL1 | apply gL2 | apply gL3 | apply gL4); assumption)))
      refine t_both ?_ ?_
      · refine t_copy (h₀ := h) rfl rfl und23 und23 inf69 rfl (by omega) (by omega) g1 le1 (PaperB.of (Rd.of_le le1.1) hu.papers) paperTold fun p2 c2 h2 le2 _ g2 => ?_
        (repeat (first | (with_reducible first | apply gA | apply gB | apply gC | apply gD | apply gE | apply gF | apply gG | apply gH | apply gI | apply gJ | apply gK | apply gL | apply gM | apply gN | apply gO | apply gP | apply gQ | apply gR) | ((with_reducible apply gT); first | exact rfl | exact True.intro | omega | assumption) | ((with_reducible apply gS2); first | assumption | rfl) | ((with_reducible first | apply gL0 | apply gL1 | apply gL2 | apply gL3 | apply gL4); assumption)))
        refine t_buildG und23 inf69 (by decide) (by decide) (cells := #[.int .i64 y.days.first, .int .i64 y.days.last, .int .i64 y.land, .slice q m cq]) (by kernel_rfl) fun r h3 le3 hr3 e3 => ?_
        (repeat (first | (with_reducible first | apply gA | apply gB | apply gC | apply gD | apply gE | apply gF | apply gG | apply gH | apply gI | apply gJ | apply gK | apply gL | apply gM | apply gN | apply gO | apply gP | apply gQ | apply gR) | ((with_reducible apply gT); first | exact rfl | exact True.intro | omega | assumption) | ((with_reducible apply gS2); first | assumption | rfl) | ((with_reducible first | apply gL0 | apply gL1 | apply gL2 | apply gL3 | apply gL4); assumption)))
        refine copy_end1 (h := h) und23 inf69 rfl (by omega) (by omega) (g2.le le3.1) (LH.le_trans le2 le3) enc rfl ones e3 (fun j w hj => by simpa using hj) fun p' c' h' le' g' => ?_
        (repeat (first | (with_reducible first | apply gA | apply gB | apply gC | apply gD | apply gE | apply gF | apply gG | apply gH | apply gI | apply gJ | apply gK | apply gL | apply gM | apply gN | apply gO | apply gP | apply gQ | apply gR) | ((with_reducible apply gT); first | exact rfl | exact True.intro | omega | assumption) | ((with_reducible apply gS2); first | assumption | rfl) | ((with_reducible first | apply gL0 | apply gL1 | apply gL2 | apply gL3 | apply gL4); assumption)))
        exact t_again (paperEnd_of hu (by omega) le' g')
      · refine t_buildG und23 inf69 (by decide) (by decide) (cells := #[.int .i64 y.days.first, .int .i64 y.days.last, .int .i64 y.land, .slice q m cq]) (by kernel_rfl) fun r h2 le2 hr2 e2 => ?_
        (repeat (first | (with_reducible first | apply gA | apply gB | apply gC | apply gD | apply gE | apply gF | apply gG | apply gH | apply gI | apply gJ | apply gK | apply gL | apply gM | apply gN | apply gO | apply gP | apply gQ | apply gR) | ((with_reducible apply gT); first | exact rfl | exact True.intro | omega | assumption) | ((with_reducible apply gS2); first | assumption | rfl) | ((with_reducible first | apply gL0 | apply gL1 | apply gL2 | apply gL3 | apply gL4); assumption)))
        have le02 := LH.le_trans le1 le2
        refine t_copy (h₀ := h) rfl rfl und23 und23 inf69 rfl (by omega) (by omega) (g1.le le2.1) le02 (PaperB.of (Rd.of_le le02.1) hu.papers) paperTold fun p3 c3 h3 le3 kp g3 => ?_
        (repeat (first | (with_reducible first | apply gA | apply gB | apply gC | apply gD | apply gE | apply gF | apply gG | apply gH | apply gI | apply gJ | apply gK | apply gL | apply gM | apply gN | apply gO | apply gP | apply gQ | apply gR) | ((with_reducible apply gT); first | exact rfl | exact True.intro | omega | assumption) | ((with_reducible apply gS2); first | assumption | rfl) | ((with_reducible first | apply gL0 | apply gL1 | apply gL2 | apply gL3 | apply gL4); assumption)))
        have hne : r ≠ r0 := by
          rintro rfl
          obtain ⟨vs, ⟨_, hh⟩, _⟩ := g1.row
          rcases hh with ⟨hh, _⟩ | ⟨r', cs, hh, h5, _⟩
          · cases hh
          · cases hh; rw [hr2] at h5; cases h5
        have e3 := kp r _ (fun a ha e => by cases ha; exact hne e.symm) e2
        refine copy_end1 (h := h) und23 inf69 rfl (by omega) (by omega) g3 le3 enc rfl ones e3 (fun j w hj => by simpa using hj) fun p' c' h' le' g' => ?_
        (repeat (first | (with_reducible first | apply gA | apply gB | apply gC | apply gD | apply gE | apply gF | apply gG | apply gH | apply gI | apply gJ | apply gK | apply gL | apply gM | apply gN | apply gO | apply gP | apply gQ | apply gR) | ((with_reducible apply gT); first | exact rfl | exact True.intro | omega | assumption) | ((with_reducible apply gS2); first | assumption | rfl) | ((with_reducible first | apply gL0 | apply gL1 | apply gL2 | apply gL3 | apply gL4); assumption)))
        exact t_again (paperEnd_of hu (by omega) le' g')
    · refine t_buildG und23 inf69 (by decide) (by decide) (cells := #[.int .i64 y.days.first, .int .i64 y.days.last, .int .i64 y.land, .slice q m cq]) (by kernel_rfl) fun r h1 le1 hr1 e1 => ?_
      (repeat (first | (with_reducible first | apply gA | apply gB | apply gC | apply gD | apply gE | apply gF | apply gG | apply gH | apply gI | apply gJ | apply gK | apply gL | apply gM | apply gN | apply gO | apply gP | apply gQ | apply gR) | ((with_reducible apply gT); first | exact rfl | exact True.intro | omega | assumption) | ((with_reducible apply gS2); first | assumption | rfl) | ((with_reducible first | apply gL0 | apply gL1 | apply gL2 | apply gL3 | apply gL4); assumption)))
      refine t_build0G (h₀ := h) (Enc := PaperEnc h.get) und23 inf69 le1 fun r0 h2 hr0 le2 g2 => ?_
      (repeat (first | (with_reducible first | apply gA | apply gB | apply gC | apply gD | apply gE | apply gF | apply gG | apply gH | apply gI | apply gJ | apply gK | apply gL | apply gM | apply gN | apply gO | apply gP | apply gQ | apply gR) | ((with_reducible apply gT); first | exact rfl | exact True.intro | omega | assumption) | ((with_reducible apply gS2); first | assumption | rfl) | ((with_reducible first | apply gL0 | apply gL1 | apply gL2 | apply gL3 | apply gL4); assumption)))
      have le02 := LH.le_trans le1 le2
      refine t_copy (h₀ := h) rfl rfl und23 und23 inf69 rfl (by omega) (by omega) g2 le02 (PaperB.of (Rd.of_le le02.1) hu.papers) paperTold fun p3 c3 h3 le3 kp g3 => ?_
      (repeat (first | (with_reducible first | apply gA | apply gB | apply gC | apply gD | apply gE | apply gF | apply gG | apply gH | apply gI | apply gJ | apply gK | apply gL | apply gM | apply gN | apply gO | apply gP | apply gQ | apply gR) | ((with_reducible apply gT); first | exact rfl | exact True.intro | omega | assumption) | ((with_reducible apply gS2); first | assumption | rfl) | ((with_reducible first | apply gL0 | apply gL1 | apply gL2 | apply gL3 | apply gL4); assumption)))
      have hne : r ≠ r0 := by rintro rfl; rw [e1] at hr0; cases hr0
      have e3 := kp r _ (fun a ha e => by cases ha; exact hne e.symm) (le2.1 _ _ e1)
      refine copy_end1 (h := h) und23 inf69 rfl (by omega) (by omega) g3 le3 enc rfl ones e3 (fun j w hj => by simpa using hj) fun p' c' h' le' g' => ?_
      (repeat (first | (with_reducible first | apply gA | apply gB | apply gC | apply gD | apply gE | apply gF | apply gG | apply gH | apply gI | apply gJ | apply gK | apply gL | apply gM | apply gN | apply gO | apply gP | apply gQ | apply gR) | ((with_reducible apply gT); first | exact rfl | exact True.intro | omega | assumption) | ((with_reducible apply gS2); first | assumption | rfl) | ((with_reducible first | apply gL0 | apply gL1 | apply gL2 | apply gL3 | apply gL4); assumption)))
      exact t_again (paperEnd_of hu (by omega) le' g')
  rintro vs h1 ⟨p1, n1, c1, rfl, le1, ho⟩
  (repeat (first | (with_reducible first | apply gA | apply gB | apply gC | apply gD | apply gE | apply gF | apply gG | apply gH | apply gI | apply gJ | apply gK | apply gL | apply gM | apply gN | apply gO | apply gP | apply gQ | apply gR) | ((with_reducible apply gT); first | exact rfl | exact True.intro | omega | assumption) | ((with_reducible apply gS2); first | assumption | rfl) | ((with_reducible first | apply gL0 | apply gL1 | apply gL2 | apply gL3 | apply gL4); assumption)))
  have hp1 := hp.le le1.1
  have hu1 := hu.le le1.1
  refine t_blk (fun vs h' => vs = [.bool false] ∧ h.le h') ?_ ?_
  · refine t_pu (c27 ho) ?_
    (repeat (first | (with_reducible first | apply gA | apply gB | apply gC | apply gD | apply gE | apply gF | apply gG | apply gH | apply gI | apply gJ | apply gK | apply gL | apply gM | apply gN | apply gO | apply gP | apply gQ | apply gR) | ((with_reducible apply gT); first | exact rfl | exact True.intro | omega | assumption) | ((with_reducible apply gS2); first | assumption | rfl) | ((with_reducible first | apply gL0 | apply gL1 | apply gL2 | apply gL3 | apply gL4); assumption)))
    refine t_cond (fun e => ?_) (fun _ => t_again ⟨rfl, le1⟩)
    have co : checkF { u with papers := u.papers ++ [y] } = 0 := by simpa using e
    have vo := Valid.of co
    have hyv : y.days.first ≤ y.days.last := vo.2.1 y (List.mem_append_right _ (List.mem_singleton.2 rfl))
    refine t_gr (c43 hp1 ho hu1 co hck hk hk hday ⟨rfl, rfl, fun i e he _ => (more_paper hyv k i).safe vu vo he, fun i => (more_paper hyv k i).left vu vo rfl d⟩) ?_
    rintro _ h2 le2 rfl
    (repeat (first | (with_reducible first | apply gA | apply gB | apply gC | apply gD | apply gE | apply gF | apply gG | apply gH | apply gI | apply gJ | apply gK | apply gL | apply gM | apply gN | apply gO | apply gP | apply gQ | apply gR) | ((with_reducible apply gT); first | exact rfl | exact True.intro | omega | assumption) | ((with_reducible apply gS2); first | assumption | rfl) | ((with_reducible first | apply gL0 | apply gL1 | apply gL2 | apply gL3 | apply gL4); assumption)))
    refine t_cond (fun e => absurd e (by simp)) (fun _ => ?_)
    exact t_again ⟨rfl, LH.le_trans le1 le2⟩
  rintro vs h2 ⟨rfl, le2⟩
  clear ho le1 hp1 hu1
  (repeat (first | (with_reducible first | apply gA | apply gB | apply gC | apply gD | apply gE | apply gF | apply gG | apply gH | apply gI | apply gJ | apply gK | apply gL | apply gM | apply gN | apply gO | apply gP | apply gQ | apply gR) | ((with_reducible apply gT); first | exact rfl | exact True.intro | omega | assumption) | ((with_reducible apply gS2); first | assumption | rfl) | ((with_reducible first | apply gL0 | apply gL1 | apply gL2 | apply gL3 | apply gL4); assumption)))
  -- one excuse more
  have hu2 := hu.le le2.1
  have hp2 := hp.le le2.1
  refine t_blk (ExcuseEnd h2 f u ex) ?_ ?_
  · have ones : ∀ v ∈ [Value.int .i64 ex.first, .int .i64 ex.last], isOne v = true := by
      intro w hw; simp at hw; rcases hw with rfl | rfl <;> rfl
    have enc : SpanEnc ex [Value.int .i64 ex.first, .int .i64 ex.last] := rfl
    refine t_both ?_ ?_
    · refine t_build0G (h₀ := h2) (Enc := SpanEnc) und22 inf30 (LH.le_refl _) fun r0 h1 hr0 le1 g1 => ?_
      (repeat (first | (with_reducible first | apply gA | apply gB | apply gC | apply gD | apply gE | apply gF | apply gG | apply gH | apply gI | apply gJ | apply gK | apply gL | apply gM | apply gN | apply gO | apply gP | apply gQ | apply gR) | ((with_reducible apply gT); first | exact rfl | exact True.intro | omega | assumption) | ((with_reducible apply gS2); first | assumption | rfl) | ((with_reducible first | apply gL0 | apply gL1 | apply gL2 | apply gL3 | apply gL4); assumption)))
      refine t_both ?_ ?_
      · refine t_copy (h₀ := h2) rfl rfl und22 und22 inf30 rfl (by omega) (by omega) g1 le1 (hu2.le le1.1).excuses spanTold fun p2 c2 h3 le3 _ g2 => ?_
        (repeat (first | (with_reducible first | apply gA | apply gB | apply gC | apply gD | apply gE | apply gF | apply gG | apply gH | apply gI | apply gJ | apply gK | apply gL | apply gM | apply gN | apply gO | apply gP | apply gQ | apply gR) | ((with_reducible apply gT); first | exact rfl | exact True.intro | omega | assumption) | ((with_reducible apply gS2); first | assumption | rfl) | ((with_reducible first | apply gL0 | apply gL1 | apply gL2 | apply gL3 | apply gL4); assumption)))
        refine t_buildG und22 inf30 (by decide) (by decide) (cells := #[.int .i64 ex.first, .int .i64 ex.last]) (by kernel_rfl) fun r h4 le4 hr4 e4 => ?_
        (repeat (first | (with_reducible first | apply gA | apply gB | apply gC | apply gD | apply gE | apply gF | apply gG | apply gH | apply gI | apply gJ | apply gK | apply gL | apply gM | apply gN | apply gO | apply gP | apply gQ | apply gR) | ((with_reducible apply gT); first | exact rfl | exact True.intro | omega | assumption) | ((with_reducible apply gS2); first | assumption | rfl) | ((with_reducible first | apply gL0 | apply gL1 | apply gL2 | apply gL3 | apply gL4); assumption)))
        refine copy_end1 (h := h2) und22 inf30 rfl (by omega) (by omega) (g2.le le4.1) (LH.le_trans le3 le4) enc rfl ones e4 (fun j w hj => by simpa using hj) fun p' c' h' le' g' => ?_
        (repeat (first | (with_reducible first | apply gA | apply gB | apply gC | apply gD | apply gE | apply gF | apply gG | apply gH | apply gI | apply gJ | apply gK | apply gL | apply gM | apply gN | apply gO | apply gP | apply gQ | apply gR) | ((with_reducible apply gT); first | exact rfl | exact True.intro | omega | assumption) | ((with_reducible apply gS2); first | assumption | rfl) | ((with_reducible first | apply gL0 | apply gL1 | apply gL2 | apply gL3 | apply gL4); assumption)))
        exact t_again (excuseEnd_of hu2 (by omega) le' g')
      · refine t_buildG und22 inf30 (by decide) (by decide) (cells := #[.int .i64 ex.first, .int .i64 ex.last]) (by kernel_rfl) fun r h3 le3 hr3 e3 => ?_
        (repeat (first | (with_reducible first | apply gA | apply gB | apply gC | apply gD | apply gE | apply gF | apply gG | apply gH | apply gI | apply gJ | apply gK | apply gL | apply gM | apply gN | apply gO | apply gP | apply gQ | apply gR) | ((with_reducible apply gT); first | exact rfl | exact True.intro | omega | assumption) | ((with_reducible apply gS2); first | assumption | rfl) | ((with_reducible first | apply gL0 | apply gL1 | apply gL2 | apply gL3 | apply gL4); assumption)))
        have le03 := LH.le_trans le1 le3
        refine t_copy (h₀ := h2) rfl rfl und22 und22 inf30 rfl (by omega) (by omega) (g1.le le3.1) le03 (hu2.le le03.1).excuses spanTold fun p4 c4 h4 le4 kp g4 => ?_
        (repeat (first | (with_reducible first | apply gA | apply gB | apply gC | apply gD | apply gE | apply gF | apply gG | apply gH | apply gI | apply gJ | apply gK | apply gL | apply gM | apply gN | apply gO | apply gP | apply gQ | apply gR) | ((with_reducible apply gT); first | exact rfl | exact True.intro | omega | assumption) | ((with_reducible apply gS2); first | assumption | rfl) | ((with_reducible first | apply gL0 | apply gL1 | apply gL2 | apply gL3 | apply gL4); assumption)))
        have hne : r ≠ r0 := by
          rintro rfl
          obtain ⟨vs, ⟨_, hh⟩, _⟩ := g1.row
          rcases hh with ⟨hh, _⟩ | ⟨r', cs, hh, h5, _⟩
          · cases hh
          · cases hh; rw [hr3] at h5; cases h5
        have e4 := kp r _ (fun a ha e => by cases ha; exact hne e.symm) e3
        refine copy_end1 (h := h2) und22 inf30 rfl (by omega) (by omega) g4 le4 enc rfl ones e4 (fun j w hj => by simpa using hj) fun p' c' h' le' g' => ?_
        (repeat (first | (with_reducible first | apply gA | apply gB | apply gC | apply gD | apply gE | apply gF | apply gG | apply gH | apply gI | apply gJ | apply gK | apply gL | apply gM | apply gN | apply gO | apply gP | apply gQ | apply gR) | ((with_reducible apply gT); first | exact rfl | exact True.intro | omega | assumption) | ((with_reducible apply gS2); first | assumption | rfl) | ((with_reducible first | apply gL0 | apply gL1 | apply gL2 | apply gL3 | apply gL4); assumption)))
        exact t_again (excuseEnd_of hu2 (by omega) le' g')
    · refine t_buildG und22 inf30 (by decide) (by decide) (cells := #[.int .i64 ex.first, .int .i64 ex.last]) (by kernel_rfl) fun r h1 le1 hr1 e1 => ?_
      (repeat (first | (with_reducible first | apply gA | apply gB | apply gC | apply gD | apply gE | apply gF | apply gG | apply gH | apply gI | apply gJ | apply gK | apply gL | apply gM | apply gN | apply gO | apply gP | apply gQ | apply gR) | ((with_reducible apply gT); first | exact rfl | exact True.intro | omega | assumption) | ((with_reducible apply gS2); first | assumption | rfl) | ((with_reducible first | apply gL0 | apply gL1 | apply gL2 | apply gL3 | apply gL4); assumption)))
      refine t_build0G (h₀ := h2) (Enc := SpanEnc) und22 inf30 le1 fun r0 h3 hr0 le3 g3 => ?_
      (repeat (first | (with_reducible first | apply gA | apply gB | apply gC | apply gD | apply gE | apply gF | apply gG | apply gH | apply gI | apply gJ | apply gK | apply gL | apply gM | apply gN | apply gO | apply gP | apply gQ | apply gR) | ((with_reducible apply gT); first | exact rfl | exact True.intro | omega | assumption) | ((with_reducible apply gS2); first | assumption | rfl) | ((with_reducible first | apply gL0 | apply gL1 | apply gL2 | apply gL3 | apply gL4); assumption)))
      have le03 := LH.le_trans le1 le3
      refine t_copy (h₀ := h2) rfl rfl und22 und22 inf30 rfl (by omega) (by omega) g3 le03 (hu2.le le03.1).excuses spanTold fun p4 c4 h4 le4 kp g4 => ?_
      (repeat (first | (with_reducible first | apply gA | apply gB | apply gC | apply gD | apply gE | apply gF | apply gG | apply gH | apply gI | apply gJ | apply gK | apply gL | apply gM | apply gN | apply gO | apply gP | apply gQ | apply gR) | ((with_reducible apply gT); first | exact rfl | exact True.intro | omega | assumption) | ((with_reducible apply gS2); first | assumption | rfl) | ((with_reducible first | apply gL0 | apply gL1 | apply gL2 | apply gL3 | apply gL4); assumption)))
      have hne : r ≠ r0 := by rintro rfl; rw [e1] at hr0; cases hr0
      have e4 := kp r _ (fun a ha e => by cases ha; exact hne e.symm) (le3.1 _ _ e1)
      refine copy_end1 (h := h2) und22 inf30 rfl (by omega) (by omega) g4 le4 enc rfl ones e4 (fun j w hj => by simpa using hj) fun p' c' h' le' g' => ?_
      (repeat (first | (with_reducible first | apply gA | apply gB | apply gC | apply gD | apply gE | apply gF | apply gG | apply gH | apply gI | apply gJ | apply gK | apply gL | apply gM | apply gN | apply gO | apply gP | apply gQ | apply gR) | ((with_reducible apply gT); first | exact rfl | exact True.intro | omega | assumption) | ((with_reducible apply gS2); first | assumption | rfl) | ((with_reducible first | apply gL0 | apply gL1 | apply gL2 | apply gL3 | apply gL4); assumption)))
      exact t_again (excuseEnd_of hu2 (by omega) le' g')
  rintro vs h3 ⟨p3, n3, c3, rfl, le3, ho⟩
  (repeat (first | (with_reducible first | apply gA | apply gB | apply gC | apply gD | apply gE | apply gF | apply gG | apply gH | apply gI | apply gJ | apply gK | apply gL | apply gM | apply gN | apply gO | apply gP | apply gQ | apply gR) | ((with_reducible apply gT); first | exact rfl | exact True.intro | omega | assumption) | ((with_reducible apply gS2); first | assumption | rfl) | ((with_reducible first | apply gL0 | apply gL1 | apply gL2 | apply gL3 | apply gL4); assumption)))
  have le03 := LH.le_trans le2 le3
  have hp3 := hp.le le03.1
  have hu3 := hu.le le03.1
  refine t_blk (fun vs h' => vs = [.bool false] ∧ h.le h') ?_ ?_
  · refine t_pu (c27 ho) ?_
    (repeat (first | (with_reducible first | apply gA | apply gB | apply gC | apply gD | apply gE | apply gF | apply gG | apply gH | apply gI | apply gJ | apply gK | apply gL | apply gM | apply gN | apply gO | apply gP | apply gQ | apply gR) | ((with_reducible apply gT); first | exact rfl | exact True.intro | omega | assumption) | ((with_reducible apply gS2); first | assumption | rfl) | ((with_reducible first | apply gL0 | apply gL1 | apply gL2 | apply gL3 | apply gL4); assumption)))
    refine t_cond (fun e => ?_) (fun _ => t_again ⟨rfl, le03⟩)
    have co : checkF { u with excuses := u.excuses ++ [ex] } = 0 := by simpa using e
    have vo := Valid.of co
    refine t_gr (c43 hp3 ho hu3 co hck hk hk hday ⟨rfl, rfl, fun i e he _ => (more_excuse d1 ex k i).safe vu vo he, fun i => (more_excuse d1 ex k i).left vu vo rfl d⟩) ?_
    rintro _ h4 le4 rfl
    (repeat (first | (with_reducible first | apply gA | apply gB | apply gC | apply gD | apply gE | apply gF | apply gG | apply gH | apply gI | apply gJ | apply gK | apply gL | apply gM | apply gN | apply gO | apply gP | apply gQ | apply gR) | ((with_reducible apply gT); first | exact rfl | exact True.intro | omega | assumption) | ((with_reducible apply gS2); first | assumption | rfl) | ((with_reducible first | apply gL0 | apply gL1 | apply gL2 | apply gL3 | apply gL4); assumption)))
    refine t_cond (fun e => absurd e (by simp)) (fun _ => ?_)
    exact t_again ⟨rfl, LH.le_trans le03 le4⟩
  rintro vs h4 ⟨rfl, le4⟩
  (repeat (first | (with_reducible first | apply gA | apply gB | apply gC | apply gD | apply gE | apply gF | apply gG | apply gH | apply gI | apply gJ | apply gK | apply gL | apply gM | apply gN | apply gO | apply gP | apply gQ | apply gR) | ((with_reducible apply gT); first | exact rfl | exact True.intro | omega | assumption) | ((with_reducible apply gS2); first | assumption | rfl) | ((with_reducible first | apply gL0 | apply gL1 | apply gL2 | apply gL3 | apply gL4); assumption)))
  -- more days to be idle
  rw [wrap_id (n := u.idle + 1) (by omega) (by omega)]
  have ho4 : FileR h4.get f { u with idle := u.idle + 1 } := ⟨(hu.le le4.1).excuses, (hu.le le4.1).papers, (hu.le le4.1).requests⟩
  refine t_pu (c27 ho4) ?_
  (repeat (first | (with_reducible first | apply gA | apply gB | apply gC | apply gD | apply gE | apply gF | apply gG | apply gH | apply gI | apply gJ | apply gK | apply gL | apply gM | apply gN | apply gO | apply gP | apply gQ | apply gR) | ((with_reducible apply gT); first | exact rfl | exact True.intro | omega | assumption) | ((with_reducible apply gS2); first | assumption | rfl) | ((with_reducible first | apply gL0 | apply gL1 | apply gL2 | apply gL3 | apply gL4); assumption)))
  refine t_cond (fun e => ?_) (fun e => ?_)
  · exact t_shown hch hpe hp le4 fun h' hh => t_ret ⟨rfl, hh⟩
  have co : checkF { u with idle := u.idle + 1 } = 0 := by simpa using e
  have vo := Valid.of co
  refine t_gr (c43 (hp.le le4.1) ho4 (hu.le le4.1) co hck hk hk hday ⟨rfl, rfl, fun i e he _ => (more_idle d1 k i).safe vu vo he, fun i => (more_idle d1 k i).left vu vo rfl d⟩) ?_
  rintro _ h5 le5 rfl
  (repeat (first | (with_reducible first | apply gA | apply gB | apply gC | apply gD | apply gE | apply gF | apply gG | apply gH | apply gI | apply gJ | apply gK | apply gL | apply gM | apply gN | apply gO | apply gP | apply gQ | apply gR) | ((with_reducible apply gT); first | exact rfl | exact True.intro | omega | assumption) | ((with_reducible apply gS2); first | assumption | rfl) | ((with_reducible first | apply gL0 | apply gL1 | apply gL2 | apply gL3 | apply gL4); assumption)))
  refine t_cond (fun _ => ?_) (fun e => absurd e (by simp))
  exact t_shown hch hpe hp (LH.le_trans le4 le5) fun h' hh => t_ret ⟨rfl, hh⟩
end Go.Proofs.YtibibhojkfapnaaDoor
end
section
namespace Go.Proofs.YtibibhojkfapnaaDoor
open Go Go.TM Go.Proofs Go.ChangeShapes Go.WideShapes Go.RowKit
set_option maxRecDepth 100000
theorem useMore_lifted (os : Os) (started : os.Started) (H : Type) (enc : TypeId × Value → H) :
    ReturnsInLeavingWide {} Tryd.checked os 8 .any (fun w args => (Rows.useMoreSpec.pre enc Tryd.prog Tryd.f8 [] false w args ∧ laidMetH Tryd.prog Rows.useWindowsRow.laid w) ∧ sizedMet enc Tryd.prog Tryd.f8 (OpenSpec.ofChange Rows.useMoreSpec) false w args)
      (Rows.useMoreSpec.post enc Tryd.prog Tryd.f8 false true false false) := by
  refine row_leaving (C := Tryd.checked) (tb := 4) own started Tryd.func8 (by kernel_rfl) rfl lo ?_ (by kernel_rfl) Tryd.underlying4 ?_
    (ChangeSpec.witness_shaped (enc := enc) (C := Tryd.checked) (os := os) (X := fun w _ => laidMetH Tryd.prog Rows.useWindowsRow.laid w) false (World.doorLaid Tryd.prog 200 os) #[noFile, .int .u8 0, .int .u16 0, .agg #[.int .i64 0, .int .i64 0, .int .i64 0, .slice none 0 0], .agg #[.int .i64 0, .int .i64 0]] 8 rfl (door_shaped os _) (by kernel_rfl) (by kernel_rfl) (by kernel_rfl) (door_met os _)) ?_
  · exact fun t ht => of_decide_eq_true (List.all_eq_true.1 (show (Tryd.f8.params.toList.all fun t => decide (Tryd.prog.readableRec t = true ∧ t < Tryd.prog.types.size)) = true by kernel_rfl) t ht)
  · intro ds hd
    match ds, (show ds.length = 5 from hd) with
    | [d0, d1, d2, d3, d4], _ => rfl
  · intro W base args ds ps hval0 hA0 hz0 hL
    have hval : ∀ (j : Nat) t v, Tryd.f8.params[j]? = some t → args[j]? = some v → Value.okWide Tryd.prog W .any base t v := hval0
    have hz : ∀ (j : Nat) t d, Tryd.f8.params.toList[j]? = some t → ds[j]? = some d → Light Tryd.prog t d := hz0
    have hA : DataW.TrodAll enc Tryd.prog W 0 (fun _ => true) true Tryd.f8.params.toList args.toList ds ps := hA0
    rw [Tryd.params8] at hval hz hA
    obtain ⟨v0, v1, v2, v3, v4, d0, d1, d2, d3, d4, q00, q01, q02, q03, q04, rfl, rfl, rfl, h0, h1, h2, h3, h4⟩ := trodAll_five hA
    obtain ⟨f0, u0, rfl, hu0⟩ := file_arg UT (hval 0 26 v0 rfl rfl) (hz 0 26 d0 rfl rfl) h0
    obtain ⟨x1, rfl, _, _, w1⟩ := open_int und5 (hval 1 5 v1 rfl rfl) h1
    obtain ⟨x2, rfl, _, _, w2⟩ := open_int und57 (hval 2 57 v2 rfl rfl) h2
    obtain ⟨q3, m3, k3, x3, rfl, s3⟩ := paper_arg UT (hval 3 69 v3 rfl rfl) (hz 3 69 d3 rfl rfl) h3
    obtain ⟨x4, rfl⟩ := span_arg UT (hval 4 30 v4 rfl rfl) (hz 4 30 d4 rfl rfl) h4
    exact FW.mono (c8 (h := ⟨getW W, [], [], []⟩) rfl rfl (parts_of_laid hL) hu0 x1 (wf_u8 w1) x2 (wf_u16 w2) s3 x4) fun r h' hq => ⟨hq.1, hq.2.2.1⟩
theorem useMore_row : Rows.UseMoreSaid :=
  OpenClaim.holds_of_wide_leaving 8 Tryd.f8 rfl rfl rfl rfl rfl rfl rfl ⟨rfl, rfl, rfl, rfl, rfl⟩ rfl rfl rfl rfl rfl (by kernel_rfl) Tryd.func8 (by kernel_rfl)
    (of_decide_eq_true (by kernel_rfl)) (by unfold Func.isWrapper; first | (rw [if_pos (by decide +kernel)]; kernel_rfl) | (rw [if_neg (by decide +kernel)]; exact ⟨rfl, rfl⟩))
    (fun os started H enc _ => useMore_lifted os started H enc)
theorem useMore_holds : Rows.UseMoreCardSaid :=
  card_goes [.funcs] true Rows.useMoreCard.stood.harness false useMore_row (by kernel_rfl) useMore_row_tie rfl ⟨rfl, rfl⟩ (by kernel_rfl) rfl
    (fun f fn hf hfn => by
      obtain rfl : f = 8 := Option.some.inj ((show Tryd.prog.funcNamed Rows.useMoreRow.func = some 8 by kernel_rfl).symm.trans hf) |>.symm
      obtain rfl : fn = Tryd.f8 := (Option.some.inj (Tryd.func8.symm.trans hfn)).symm
      exact ⟨by kernel_rfl, fun j t ht => by
        have hm := Array.mem_of_getElem? ht
        have := of_decide_eq_true (List.all_eq_true.1 (show (Tryd.f8.params.toList.all fun t => decide (Tryd.prog.wantsStandIn t = false)) = true by kernel_rfl) t (Array.mem_toList_iff.2 hm))
        exact this⟩)
    (by kernel_rfl)
end Go.Proofs.YtibibhojkfapnaaDoor
end
#print axioms Go.Proofs.YtibibhojkfapnaaDoor.useMore_holds

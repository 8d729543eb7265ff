/- For every file, land, two days and request the law UseRequests returns true: one more request never brings an item back, other items and lands are as they were, and as days go by nothing comes back. The tied card; no further condition. -/
import Derived.Test.YtibibhojkfapnaaDoorM5
set_option linter.all false
section
namespace Go.Proofs.YtibibhojkfapnaaDoor
open Go Go.TM Go.Proofs
set_option linter.unusedVariables false
set_option maxRecDepth 100000
noncomputable def n10 (u_0 : Int) (u_1 : Int) (u_2 : Int) (u_3 : Int) (u_4p : Option Addr) (u_4n u_4c : Nat) (u_5p : Option Addr) (u_5n u_5c : Nat) (u_6p : Option Addr) (u_6n u_6c : Nat) (land : Int) (one : Int) (two : Int) (r_0 : Int) (r_1 : Int) (r_2p : Option Addr) (r_2n r_2c : Nat) : T := .blk (.call false 36 #[.agg #[.int .i64 u_0, .int .i64 u_1, .int .i64 u_2, .int .i64 u_3, .slice u_4p u_4n u_4c, .slice u_5p u_5n u_5c, .slice u_6p u_6n u_6c]] fun v => .unB v fun b => bif !b then .call false 16 #[] fun v => .unB v fun b => .leaf (.retn [.bool b]) else bif decide ((↑r_2n : Int) > 20) then .call false 16 #[] fun v => .unB v fun b => .leaf (.retn [.bool b]) else .leaf (.again [.bool false])) (fun vs => .popB vs fun b vs => .unNil vs (.need (u_1 ≠ 0) (.call false 37 #[.int .u16 one] fun v => .unI .i64 v fun n => .need (AV.val (.int .u16 two) = AV.val (.int .u16 two)) (.need (AV.val (.int .u16 one) = AV.val (.int .u16 one)) (.need (AV.val (.int .u16 two) = AV.val (.int .u16 two)) (.need (u_1 ≠ 0) (.need (AV.val (.int .i64 (Int.tmod (IntKind.wrap .i64 land) u_1)) = AV.val (.int .i64 (Int.tmod (IntKind.wrap .i64 land) u_1))) (.need (AV.val (.int .i64 u_1) = AV.val (.int .i64 u_1)) (.need (AV.pp 5 1 = AV.pp 5 1) (.need (AV.val (.int .i64 (IntKind.wrap .i64 land)) = AV.val (.int .i64 (IntKind.wrap .i64 land))) (.need (AV.val (.int .u8 land) = AV.val (.int .u8 land)) (.call false 37 #[.int .u16 two] fun v => .unI .i64 v fun n_1 => .need (AV.val (.int .u16 two) = AV.val (.int .u16 two)) (.need (AV.val (.int .u16 one) = AV.val (.int .u16 one)) (.need (u_1 ≠ 0) (.need (AV.val (.int .i64 (Int.tmod (IntKind.wrap .i64 land) u_1)) = AV.val (.int .i64 (Int.tmod (IntKind.wrap .i64 land) u_1))) (.need (AV.val (.int .i64 u_1) = AV.val (.int .i64 u_1)) (.need (AV.pp 5 1 = AV.pp 5 1) (.need (AV.val (.int .i64 (IntKind.wrap .i64 land)) = AV.val (.int .i64 (IntKind.wrap .i64 land))) (.need (AV.val (.int .u8 land) = AV.val (.int .u8 land)) (.call false 37 #[.int .u16 one] fun v => .unI .i64 v fun n_2 => .need (AV.val (.int .i64 (if n_1 < n then n_1 else n)) = AV.val (.int .i64 (if n_1 < n then n_1 else n))) (.need (AV.val (.int .u16 two) = AV.val (.int .u16 two)) (.need (u_1 ≠ 0) (.need (AV.val (.int .i64 (Int.tmod (IntKind.wrap .i64 land) u_1)) = AV.val (.int .i64 (Int.tmod (IntKind.wrap .i64 land) u_1))) (.need (AV.val (.int .i64 u_1) = AV.val (.int .i64 u_1)) (.need (AV.pp 5 1 = AV.pp 5 1) (.need (AV.val (.int .i64 (IntKind.wrap .i64 land)) = AV.val (.int .i64 (IntKind.wrap .i64 land))) (.need (AV.val (.int .u8 land) = AV.val (.int .u8 land)) (.call false 37 #[.int .u16 two] fun v => .unI .i64 v fun n_3 => .need (AV.val (.int .i64 (if n_1 < n then n_1 else n)) = AV.val (.int .i64 (if n_1 < n then n_1 else n))) (.need (u_1 ≠ 0) (.need (AV.val (.int .i64 (Int.tmod (IntKind.wrap .i64 land) u_1)) = AV.val (.int .i64 (Int.tmod (IntKind.wrap .i64 land) u_1))) (.need (AV.val (.int .i64 u_1) = AV.val (.int .i64 u_1)) (.need (AV.pp 5 1 = AV.pp 5 1) (.need (AV.val (.int .i64 (IntKind.wrap .i64 land)) = AV.val (.int .i64 (IntKind.wrap .i64 land))) (.need (AV.val (.int .u8 land) = AV.val (.int .u8 land)) (.need (AV.val (.int .i64 (if n_3 > n_2 then n_3 else n_2)) = AV.val (.int .i64 (if n_3 > n_2 then n_3 else n_2))) (.need (AV.val (.int .i64 (if n_1 < n then n_1 else n)) = AV.val (.int .i64 (if n_1 < n then n_1 else n))) (.need (AV.val (.int .i64 (if n_3 > n_2 then n_3 else n_2)) = AV.val (.int .i64 (if n_3 > n_2 then n_3 else n_2))) (.call false 23 #[.agg #[.int .i64 u_0, .int .i64 u_1, .int .i64 u_2, .int .i64 u_3, .slice u_4p u_4n u_4c, .slice u_5p u_5n u_5c, .slice u_6p u_6n u_6c], .int .i64 (Int.tmod (IntKind.wrap .i64 land) u_1), .int .i64 (if n_1 < n then n_1 else n)] fun v => .unTup v fun l => .unCons l fun v vs => .unS v fun a n c => .unCons vs fun v vs => .unI .i64 v fun n_4 => .unNil vs (.call false 23 #[.agg #[.int .i64 u_0, .int .i64 u_1, .int .i64 u_2, .int .i64 u_3, .slice u_4p u_4n u_4c, .slice u_5p u_5n u_5c, .slice u_6p u_6n u_6c], .int .i64 (Int.tmod (IntKind.wrap .i64 land) u_1), .int .i64 (if n_3 > n_2 then n_3 else n_2)] fun v => .unTup v fun l => .unCons l fun v vs => .unS v fun a_1 n_5 c_1 => .unCons vs fun v vs => .unI .i64 v fun n_6 => .unNil vs (.blk (bif n_4 != 0 then .leaf (.retn [.bool false]) else bif n_6 != 0 then .leaf (.retn [.bool false]) else .call false 44 #[.slice a n c, .slice a_1 n_5 c_1] fun v => .unB v fun b_1 => bif !b_1 then .leaf (.retn [.bool false]) else .leaf (.again [.bool b])) (fun vs => .popB vs fun b vs => .unNil vs (.blk (.both (.sem false (Instr.buildSlice 24 0 #[]) fun v => .unS v fun a n c => .need (AV.val (.agg #[.int .i64 r_0, .int .i64 r_1, .slice r_2p r_2n r_2c]) = AV.val (.agg #[.int .i64 r_0, .int .i64 r_1, .slice r_2p r_2n r_2c])) (.need (AV.val (.slice u_6p u_6n u_6c) = AV.val (.slice u_6p u_6n u_6c)) (.need (AV.pp 5 6 = AV.pp 5 6) (.both (.sem false (Builtin.append_ #[24, 24] 24 #[.slice a n c, .slice u_6p u_6n u_6c]) fun v => .unS v fun a n c => .need (AV.val (.agg #[.int .i64 r_0, .int .i64 r_1, .slice r_2p r_2n r_2c]) = AV.val (.agg #[.int .i64 r_0, .int .i64 r_1, .slice r_2p r_2n r_2c])) (.need (AV.pp 5 6 = AV.pp 5 6) (.sem false (Instr.buildSlice 24 1 #[(0, .agg #[.int .i64 r_0, .int .i64 r_1, .slice r_2p r_2n r_2c])]) fun v => .unS v fun a_2 n_7 c_2 => .need (AV.pp 5 6 = AV.pp 5 6) (.sem false (Builtin.append_ #[24, 24] 24 #[.slice a n c, .slice a_2 n_7 c_2]) fun v => .unS v fun a n c => .need (AV.pp 5 6 = AV.pp 5 6) (.leaf (.again [.int .i64 u_0, .int .i64 u_1, .int .i64 u_2, .int .i64 u_3, .slice u_4p u_4n u_4c, .slice u_5p u_5n u_5c, .slice a n c])))))) (.sem false (Instr.buildSlice 24 1 #[(0, .agg #[.int .i64 r_0, .int .i64 r_1, .slice r_2p r_2n r_2c])]) fun v => .unS v fun a_2 n_7 c_2 => .need (AV.val (.slice u_6p u_6n u_6c) = AV.val (.slice u_6p u_6n u_6c)) (.need (AV.pp 5 6 = AV.pp 5 6) (.sem false (Builtin.append_ #[24, 24] 24 #[.slice a n c, .slice u_6p u_6n u_6c]) fun v => .unS v fun a n c => .need (AV.pp 5 6 = AV.pp 5 6) (.sem false (Builtin.append_ #[24, 24] 24 #[.slice a n c, .slice a_2 n_7 c_2]) fun v => .unS v fun a n c => .need (AV.pp 5 6 = AV.pp 5 6) (.leaf (.again [.int .i64 u_0, .int .i64 u_1, .int .i64 u_2, .int .i64 u_3, .slice u_4p u_4n u_4c, .slice u_5p u_5n u_5c, .slice a n c])))))))))) (.sem false (Instr.buildSlice 24 1 #[(0, .agg #[.int .i64 r_0, .int .i64 r_1, .slice r_2p r_2n r_2c])]) fun v => .unS v fun a n c => .need (AV.val (.slice u_6p u_6n u_6c) = AV.val (.slice u_6p u_6n u_6c)) (.need (AV.pp 5 6 = AV.pp 5 6) (.sem false (Instr.buildSlice 24 0 #[]) fun v => .unS v fun a_2 n_7 c_2 => .need (AV.val (.slice u_6p u_6n u_6c) = AV.val (.slice u_6p u_6n u_6c)) (.need (AV.pp 5 6 = AV.pp 5 6) (.sem false (Builtin.append_ #[24, 24] 24 #[.slice a_2 n_7 c_2, .slice u_6p u_6n u_6c]) fun v => .unS v fun a_3 n_8 c_3 => .need (AV.pp 5 6 = AV.pp 5 6) (.sem false (Builtin.append_ #[24, 24] 24 #[.slice a_3 n_8 c_3, .slice a n c]) fun v => .unS v fun a n c => .need (AV.pp 5 6 = AV.pp 5 6) (.leaf (.again [.int .i64 u_0, .int .i64 u_1, .int .i64 u_2, .int .i64 u_3, .slice u_4p u_4n u_4c, .slice u_5p u_5n u_5c, .slice a n c]))))))))) (fun vs => .popI .i64 vs fun n vs => .popI .i64 vs fun n_7 vs => .popI .i64 vs fun n_8 vs => .popI .i64 vs fun n_9 vs => .popS vs fun a n_10 c vs => .popS vs fun a_2 n_11 c_2 vs => .popS vs fun a_3 n_12 c_3 vs => .unNil vs (.call false 27 #[.agg #[.int .i64 n, .int .i64 n_7, .int .i64 n_8, .int .i64 n_9, .slice a n_10 c, .slice a_2 n_11 c_2, .slice a_3 n_12 c_3]] fun v => .unI .i64 v fun n_13 => bif n_13 != 0 then .call false 16 #[] fun v => .unB v fun b => .leaf (.ret (.bool b)) else .call false 23 #[.agg #[.int .i64 n, .int .i64 n_7, .int .i64 n_8, .int .i64 n_9, .slice a n_10 c, .slice a_2 n_11 c_2, .slice a_3 n_12 c_3], .int .i64 (Int.tmod (IntKind.wrap .i64 land) u_1), .int .i64 (if n_3 > n_2 then n_3 else n_2)] fun v => .unTup v fun l => .unCons l fun v vs => .unS v fun a n c => .unCons vs fun v vs => .unI .i64 v fun n_14 => .unNil vs (.blk (bif n_14 != 0 then .leaf (.retn [.bool false]) else .call false 44 #[.slice a_1 n_5 c_1, .slice a n c] fun v => .unB v fun b_1 => bif !b_1 then .leaf (.retn [.bool false]) else .leaf (.again [.bool b])) (fun vs => .popB vs fun b vs => .unNil vs (.loop [.bool b, .int .i64 0] (fun vs => .popB vs fun b vs => .popI .i64 vs fun n_15 vs => .unNil vs (bif decide (n_15 < (↑n : Int)) then .blk (bif r_1 != Int.tmod (IntKind.wrap .i64 land) u_1 then .need (0 ≤ n_15 ∧ n_15 < (↑n : Int)) (.someA a fun a => .loadI .i64 (Addr.add a (Int.toNat n_15 * 1)) fun n => .need (0 ≤ n_15 ∧ n_15 < (↑n_5 : Int)) (.someA a_1 fun a => .loadI .i64 (Addr.add a (Int.toNat n_15 * 1)) fun n_16 => bif n != n_16 then .leaf (.retn [.bool false]) else .leaf (.out 1 [.bool b]))) else bif decide (r_0 > if n_3 > n_2 then n_3 else n_2) then .need (0 ≤ n_15 ∧ n_15 < (↑n : Int)) (.someA a fun a => .loadI .i64 (Addr.add a (Int.toNat n_15 * 1)) fun n => .need (0 ≤ n_15 ∧ n_15 < (↑n_5 : Int)) (.someA a_1 fun a => .loadI .i64 (Addr.add a (Int.toNat n_15 * 1)) fun n_16 => bif n != n_16 then .leaf (.retn [.bool false]) else .leaf (.out 1 [.bool b]))) else .call false 41 #[.slice r_2p r_2n r_2c, .int .i64 n_15] fun v => .unB v fun b_1 => bif !b_1 then .need (0 ≤ n_15 ∧ n_15 < (↑n : Int)) (.someA a fun a => .loadI .i64 (Addr.add a (Int.toNat n_15 * 1)) fun n => .need (0 ≤ n_15 ∧ n_15 < (↑n_5 : Int)) (.someA a_1 fun a => .loadI .i64 (Addr.add a (Int.toNat n_15 * 1)) fun n_16 => bif n != n_16 then .leaf (.retn [.bool false]) else .leaf (.out 1 [.bool b]))) else .leaf (.again [.bool b])) (fun vs => .popB vs fun b vs => .unNil vs (.call false 19 #[.agg #[.int .i64 u_0, .int .i64 u_1, .int .i64 u_2, .int .i64 u_3, .slice u_4p u_4n u_4c, .slice u_5p u_5n u_5c, .slice u_6p u_6n u_6c], .int .i64 (Int.tmod (IntKind.wrap .i64 land) u_1), .int .i64 n_15, .int .i64 r_0] fun v => .unTup v fun l => .unCons l fun v vs => .unI .i64 v fun n_16 => .unCons vs fun v vs => .unI .i64 v fun n_17 => .unNil vs (bif n_17 != 0 then .leaf (.retn [.bool false, .int .i64 n_15]) else .need (0 ≤ n_15 ∧ n_15 < (↑n : Int)) (.someA a fun a => .loadI .i64 (Addr.add a (Int.toNat n_15 * 1)) fun n => .call false 45 #[.int .i64 n_16, .int .i64 n] fun v => .unB v fun b_1 => bif b_1 then .leaf (.retn [.bool false, .int .i64 n_15]) else .leaf (.again [.bool b, .int .i64 (IntKind.wrap .i64 (n_15 + 1))]))))) (fun vs => .popB vs fun b vs => .unNil vs (.leaf (.retn [.bool b, .int .i64 n_15]))) fun x x_1 => bif Nat.beq x 1 then .popB x_1 fun b vs => .unNil vs (.leaf (.again [.bool b, .int .i64 (IntKind.wrap .i64 (n_15 + 1))])) else .fail else .leaf (.brk [.bool b, .int .i64 n_15]))) (fun vs => .popB vs fun b vs => .popI .i64 vs fun n vs => .unNil vs (.call false 16 #[] fun v => .unB v fun b => .leaf (.ret (.bool b)))) (fun vs => .popB vs fun b vs => .popI .i64 vs fun n vs => .unNil vs (.leaf (.ret (.bool b)))) fun x x_1 => .fail)) (fun vs => .popB vs fun b vs => .unNil vs (.leaf (.ret (.bool b)))) fun x x_1 => .fail))) (fun vs => .popI .i64 vs fun n vs => .popI .i64 vs fun n vs => .popI .i64 vs fun n vs => .popI .i64 vs fun n vs => .popS vs fun a n c vs => .popS vs fun a n c vs => .popS vs fun a n c vs => .unNil vs (.leaf (.ret (.bool b)))) fun x x_1 => .fail)) (fun vs => .popB vs fun b vs => .unNil vs (.leaf (.ret (.bool b)))) fun x x_1 => .fail)))))))))))))))))))))))))))))))))))))))) (fun vs => .popB vs fun b vs => .unNil vs (.leaf (.ret (.bool b)))) fun x x_1 => .fail
theorem t10 (u_0 : Int) (u_1 : Int) (u_2 : Int) (u_3 : Int) (u_4p : Option Addr) (u_4n u_4c : Nat) (u_5p : Option Addr) (u_5n u_5c : Nat) (u_6p : Option Addr) (u_6n u_6c : Nat) (land : Int) (one : Int) (two : Int) (r_0 : Int) (r_1 : Int) (r_2p : Option Addr) (r_2n r_2c : Nat) : ftree ({ P := Tryd.prog, priv := [5, 9, 18], loops := [{ id := 0, slots := [(10, .bool), (20, .int .i64)], ro := [5, 9, 18], outs := [] }], joins := [{ id := 21, slots := [(10, .bool)], ro := [5, 9, 18], outs := [1] }, { id := 15, slots := [(10, .bool)], ro := [5, 9, 18], outs := [] }, { id := 10, slots := [(77824, .int .i64), (77825, .int .i64), (77826, .int .i64), (77827, .int .i64), (77828, .slice), (77829, .slice), (77830, .slice)], ro := [5, 9], outs := [] }, { id := 8, slots := [(10, .bool)], ro := [5, 9], outs := [] }, { id := 3, slots := [(10, .bool)], ro := [5, 9], outs := [] }] }) Tryd.f10 [.agg #[.int .i64 u_0, .int .i64 u_1, .int .i64 u_2, .int .i64 u_3, .slice u_4p u_4n u_4c, .slice u_5p u_5n u_5c, .slice u_6p u_6n u_6c], .int .u8 land, .int .u16 one, .int .u16 two, .agg #[.int .i64 r_0, .int .i64 r_1, .slice r_2p r_2n r_2c]] = n10 u_0 u_1 u_2 u_3 u_4p u_4n u_4c u_5p u_5n u_5c u_6p u_6n u_6c land one two r_0 r_1 r_2p r_2n r_2c := by kernel_rfl
theorem w10 (u_0 : Int) (u_1 : Int) (u_2 : Int) (u_3 : Int) (u_4p : Option Addr) (u_4n u_4c : Nat) (u_5p : Option Addr) (u_5n u_5c : Nat) (u_6p : Option Addr) (u_6n u_6c : Nat) (land : Int) (one : Int) (two : Int) (r_0 : Int) (r_1 : Int) (r_2p : Option Addr) (r_2n r_2c : Nat) {X : XP} (hX : XOK X) {h : LH} {A : Value → LH → Prop} (hw : (n10 u_0 u_1 u_2 u_3 u_4p u_4n u_4c u_5p u_5n u_5c u_6p u_6n u_6c land one two r_0 r_1 r_2p r_2n r_2c).wp X Tryd.prog (retQ A) h) : FWK X Tryd.prog .normal 10 #[.agg #[.int .i64 u_0, .int .i64 u_1, .int .i64 u_2, .int .i64 u_3, .slice u_4p u_4n u_4c, .slice u_5p u_5n u_5c, .slice u_6p u_6n u_6c], .int .u8 land, .int .u16 one, .int .u16 two, .agg #[.int .i64 r_0, .int .i64 r_1, .slice r_2p r_2n r_2c]] h A := fwk_neat (t10 u_0 u_1 u_2 u_3 u_4p u_4n u_4c u_5p u_5n u_5c u_6p u_6n u_6c land one two r_0 r_1 r_2p r_2n r_2c) (by simp) (by kernel_rfl) (by kernel_rfl) hX hw
end Go.Proofs.YtibibhojkfapnaaDoor
end
section
namespace Go.Proofs.YtibibhojkfapnaaDoor
open Go Go.TM Go.Proofs
attribute [local irreducible] T.wp CV FWK
def ReqB (h0 : Cells) (h : Cells) (a : Addr) (x : Request) : Prop := ∃ q m c, (∀ (j : Nat) w, [Value.int .i64 x.day, .int .i64 x.land, .slice q m c][j]? = some w → h.cell? (a.add j) = some w) ∧ Sl IntE 1 h0 q m x.items
theorem reqTold {h0 h : Cells} : ToldE (ReqB h0) (ReqEnc h0) 3 h := by
  rintro a x ⟨q, m, c, h1, h2⟩
  exact ⟨_, ⟨q, m, c, rfl, h2⟩, rfl, h1, fun w hw => by simp at hw; rcases hw with rfl | rfl | rfl <;> rfl⟩
theorem reqB_of {h0 h : Cells} (hr : Rd h0 h) {p : Option Addr} {n : Nat} {l : List Request} (s : Sl RequestE 3 h0 p n l) : Sl (ReqB h0) 3 h p n l := by
  refine ⟨s.1, s.2.1, fun i x hx => ?_⟩
  obtain ⟨a, ha, h1, h2, q, m, c, h4, h5⟩ := s.2.2 i x hx
  refine ⟨a, ha, q, m, c, fun j w hj => ?_, h5⟩
  match j, hj with
  | 0, hj => cases hj; exact hr _ _ h1
  | 1, hj => cases hj; exact hr _ _ h2
  | 2, hj => cases hj; exact hr _ _ h4
  | j + 3, hj => simp at hj
def ReqEnd (h : LH) (f : FileC) (u : UseFile) (y : Request) (vs : List Value) (h' : LH) : Prop := ∃ p n c, vs = [.int .i64 u.items, .int .i64 u.lands, .int .i64 u.from_, .int .i64 u.idle, .slice f.p4 f.n4 f.c4, .slice f.p5 f.n5 f.c5, .slice p n c] ∧ h.le h' ∧ FileR h'.get { f with p6 := p, n6 := n, c6 := c } { u with requests := u.requests ++ [y] }
theorem reqEnd_of {h h' : LH} {f : FileC} {u : UseFile} {y : Request} (hu : FileR h.get f u) (h8 : u.requests.length ≤ 8) {p : Option Addr} {n c : Nat} (hle : h.le h') (g : Growing (ReqEnc h.get) 64 3 h.get h'.get p n c (u.requests ++ [y])) : ReqEnd h f u y [.int .i64 u.items, .int .i64 u.lands, .int .i64 u.from_, .int .i64 u.idle, .slice f.p4 f.n4 f.c4, .slice f.p5 f.n5 f.c5, .slice p n c] h' :=
  ⟨p, n, c, rfl, hle, (hu.le hle.1).excuses, (hu.le hle.1).papers, g.sl ReqEnc.len (by omega) (ReqEnc.e (Rd.of_le hle.1)) (by simp; omega)⟩
theorem leftAll_get {u : UseFile} {k d : Int} {j : Nat} {y : Int} (hj : j < u.items.toNat) (hy : (leftAll u k d)[j]? = some y) : y = left u k j d := by
  unfold leftAll at hy
  rw [List.getElem?_map, List.getElem?_range hj] at hy
  simpa using hy.symm
theorem leftAll_len (u : UseFile) (k d : Int) : (leftAll u k d).length = u.items.toNat := by unfold leftAll; rw [List.length_map, List.length_range]
theorem noLess_of {u o : UseFile} {k d e : Int} (hi : o.items = u.items) (h : ∀ j : Nat, rk (left o k j e) ≤ rk (left u k j d)) : NoLessP (leftAll u k d) (leftAll o k e) := by
  refine ⟨by rw [leftAll_len, leftAll_len, hi], fun j x y hx hy => ?_⟩
  have hj := (List.getElem?_eq_some_iff.1 hx).1
  rw [leftAll_len] at hj
  rw [leftAll_get hj hx, leftAll_get (by rw [hi]; exact hj) hy]
  exact h j
theorem c10 {h : LH} (hch : h.chans = []) (hpe : h.pend = []) (hp : Parts h.get) {f : FileC} {u : UseFile} (hu : FileR h.get f u) (land : Int) (hl : 0 ≤ land ∧ land ≤ 255) (one : Int) (h1 : 0 ≤ one ∧ one ≤ 65535) (two : Int) (h2 : 0 ≤ two ∧ two ≤ 65535) {q : Option Addr} {m cq : Nat} {y : Request} (hy : Sl IntE 1 h.get q m y.items) :
    FW XT Tryd.prog 10 #[fileV f u, .int .u8 land, .int .u16 one, .int .u16 two, reqV y q m cq] h (Fin h) := by
  refine w10 _ _ _ _ _ _ _ _ _ _ _ _ _ _ _ _ _ _ _ _ _ XT_ok ?_
  unfold n10
  refine t_blk (fun vs h' => vs = [.bool false] ∧ h = h' ∧ checkF u = 0) ?_ ?_
  · refine t_call (FW.top (c36 hu)) ?_
    rintro _ _ ⟨rfl, b, rfl, hb⟩
    (repeat (first | (with_reducible first | apply gA | apply gB | apply gC | apply gD | apply gE | apply gF | apply gG | apply gH | apply gI | apply gJ | apply gK | apply gL | apply gM | apply gN | apply gO | apply gP | apply gQ | apply gR) | ((with_reducible apply gT); first | exact rfl | exact True.intro | omega | assumption) | ((with_reducible apply gS2); first | assumption | rfl) | ((with_reducible first | apply gL0 | apply gL1 | apply gL2 | apply gL3 | apply gL4); assumption)))
    refine t_cond (fun _ => ?_) (fun hbf => ?_)
    · refine t_shown hch hpe hp (LH.le_refl _) fun h' hh => ?_
      (repeat (first | (with_reducible first | apply gA | apply gB | apply gC | apply gD | apply gE | apply gF | apply gG | apply gH | apply gI | apply gJ | apply gK | apply gL | apply gM | apply gN | apply gO | apply gP | apply gQ | apply gR) | ((with_reducible apply gT); first | exact rfl | exact True.intro | omega | assumption) | ((with_reducible apply gS2); first | assumption | rfl) | ((with_reducible first | apply gL0 | apply gL1 | apply gL2 | apply gL3 | apply gL4); assumption)))
      exact t_ret ⟨rfl, hh⟩
    have hck := hb (by simpa using hbf)
    refine t_if (fun _ => ?_) (fun e => ?_)
    · refine t_shown hch hpe hp (LH.le_refl _) fun h' hh => ?_
      (repeat (first | (with_reducible first | apply gA | apply gB | apply gC | apply gD | apply gE | apply gF | apply gG | apply gH | apply gI | apply gJ | apply gK | apply gL | apply gM | apply gN | apply gO | apply gP | apply gQ | apply gR) | ((with_reducible apply gT); first | exact rfl | exact True.intro | omega | assumption) | ((with_reducible apply gS2); first | assumption | rfl) | ((with_reducible first | apply gL0 | apply gL1 | apply gL2 | apply gL3 | apply gL4); assumption)))
      exact t_ret ⟨rfl, hh⟩
    · exact t_again ⟨rfl, rfl, hck⟩
  rintro vs _ ⟨rfl, rfl, hck⟩
  obtain ⟨⟨i1, i2⟩, ⟨l1, l2⟩, ⟨f1, f2⟩, ⟨d1, d2⟩⟩ := num_ok (check_num hck)
  have hl0 : u.lands ≠ 0 := by omega
  have h4 := (check_requests hck).1
  have hn6 := hu.requests.1
  (repeat (first | (with_reducible first | apply gA | apply gB | apply gC | apply gD | apply gE | apply gF | apply gG | apply gH | apply gI | apply gJ | apply gK | apply gL | apply gM | apply gN | apply gO | apply gP | apply gQ | apply gR) | ((with_reducible apply gT); first | exact rfl | exact True.intro | omega | assumption) | ((with_reducible apply gS2); first | assumption | rfl) | ((with_reducible first | apply gL0 | apply gL1 | apply gL2 | apply gL3 | apply gL4); assumption)))
  refine t_pu (c37 h1) ?_
  (repeat (first | (with_reducible first | apply gA | apply gB | apply gC | apply gD | apply gE | apply gF | apply gG | apply gH | apply gI | apply gJ | apply gK | apply gL | apply gM | apply gN | apply gO | apply gP | apply gQ | apply gR) | ((with_reducible apply gT); first | exact rfl | exact True.intro | omega | assumption) | ((with_reducible apply gS2); first | assumption | rfl) | ((with_reducible first | apply gL0 | apply gL1 | apply gL2 | apply gL3 | apply gL4); assumption)))
  refine t_pu (c37 h2) ?_
  (repeat (first | (with_reducible first | apply gA | apply gB | apply gC | apply gD | apply gE | apply gF | apply gG | apply gH | apply gI | apply gJ | apply gK | apply gL | apply gM | apply gN | apply gO | apply gP | apply gQ | apply gR) | ((with_reducible apply gT); first | exact rfl | exact True.intro | omega | assumption) | ((with_reducible apply gS2); first | assumption | rfl) | ((with_reducible first | apply gL0 | apply gL1 | apply gL2 | apply gL3 | apply gL4); assumption)))
  refine t_pu (c37 h1) ?_
  (repeat (first | (with_reducible first | apply gA | apply gB | apply gC | apply gD | apply gE | apply gF | apply gG | apply gH | apply gI | apply gJ | apply gK | apply gL | apply gM | apply gN | apply gO | apply gP | apply gQ | apply gR) | ((with_reducible apply gT); first | exact rfl | exact True.intro | omega | assumption) | ((with_reducible apply gS2); first | assumption | rfl) | ((with_reducible first | apply gL0 | apply gL1 | apply gL2 | apply gL3 | apply gL4); assumption)))
  refine t_pu (c37 h2) ?_
  (repeat (first | (with_reducible first | apply gA | apply gB | apply gC | apply gD | apply gE | apply gF | apply gG | apply gH | apply gI | apply gJ | apply gK | apply gL | apply gM | apply gN | apply gO | apply gP | apply gQ | apply gR) | ((with_reducible apply gT); first | exact rfl | exact True.intro | omega | assumption) | ((with_reducible apply gS2); first | assumption | rfl) | ((with_reducible first | apply gL0 | apply gL1 | apply gL2 | apply gL3 | apply gL4); assumption)))
  rw [wrap_u8 hl, tmod_nn hl.1]
  have hk := mod_pos (n := land) (b := u.lands) (by omega)
  have m1 := mod_day (n := one)
  have m2 := mod_day (n := two)
  generalize land % u.lands = k at *
  generalize hd : (if two % 2001 < one % 2001 then two % 2001 else one % 2001) = d
  generalize he : (if two % 2001 > one % 2001 then two % 2001 else one % 2001) = e
  have hde : 0 ≤ d ∧ d ≤ e ∧ e ≤ 2000 := by
    subst hd; subst he; split <;> split <;> omega
  clear hd he m1 m2
  have hdd : 0 ≤ d ∧ d ≤ 2000 := by omega
  have hee : 0 ≤ e ∧ e ≤ 2000 := by omega
  have vu := Valid.of hck
  refine t_gr (c23 hp hu k d) ?_
  intro r1 g1 le1 hr1
  obtain ⟨p1, n1, k1, rfl, s1⟩ := hr1.form
  rw [leftQ_ok hck hk hdd, if_pos rfl] at s1
  rw [leftQ_ok hck hk hdd]
  (repeat (first | (with_reducible first | apply gA | apply gB | apply gC | apply gD | apply gE | apply gF | apply gG | apply gH | apply gI | apply gJ | apply gK | apply gL | apply gM | apply gN | apply gO | apply gP | apply gQ | apply gR) | ((with_reducible apply gT); first | exact rfl | exact True.intro | omega | assumption) | ((with_reducible apply gS2); first | assumption | rfl) | ((with_reducible first | apply gL0 | apply gL1 | apply gL2 | apply gL3 | apply gL4); assumption)))
  refine t_gr (c23 (hp.le le1.1) (hu.le le1.1) k e) ?_
  intro r2 g2 le2 hr2
  obtain ⟨p2, n2, k2, rfl, s2⟩ := hr2.form
  rw [leftQ_ok hck hk hee, if_pos rfl] at s2
  rw [leftQ_ok hck hk hee]
  (repeat (first | (with_reducible first | apply gA | apply gB | apply gC | apply gD | apply gE | apply gF | apply gG | apply gH | apply gI | apply gJ | apply gK | apply gL | apply gM | apply gN | apply gO | apply gP | apply gQ | apply gR) | ((with_reducible apply gT); first | exact rfl | exact True.intro | omega | assumption) | ((with_reducible apply gS2); first | assumption | rfl) | ((with_reducible first | apply gL0 | apply gL1 | apply gL2 | apply gL3 | apply gL4); assumption)))
  have le12 := LH.le_trans le1 le2
  have hu2 := hu.le le12.1
  have hp2 := hp.le le12.1
  have hy2 := hy.le IntE.grow le12.1
  refine t_blk (fun vs h' => vs = [.bool false] ∧ g2 = h') ?_ ?_
  · refine t_cond (fun e => absurd e (by simp)) (fun _ => ?_)
    refine t_cond (fun e => absurd e (by simp)) (fun _ => ?_)
    refine t_pu (c44 (s1.le IntE.grow le2.1) s2 (noLess_of rfl fun j => left_days hde.2.1)) ?_
    (repeat (first | (with_reducible first | apply gA | apply gB | apply gC | apply gD | apply gE | apply gF | apply gG | apply gH | apply gI | apply gJ | apply gK | apply gL | apply gM | apply gN | apply gO | apply gP | apply gQ | apply gR) | ((with_reducible apply gT); first | exact rfl | exact True.intro | omega | assumption) | ((with_reducible apply gS2); first | assumption | rfl) | ((with_reducible first | apply gL0 | apply gL1 | apply gL2 | apply gL3 | apply gL4); assumption)))
    refine t_cond (fun e => absurd e (by simp)) (fun _ => ?_)
    exact t_again ⟨rfl, rfl⟩
  rintro vs _ ⟨rfl, rfl⟩
  (repeat (first | (with_reducible first | apply gA | apply gB | apply gC | apply gD | apply gE | apply gF | apply gG | apply gH | apply gI | apply gJ | apply gK | apply gL | apply gM | apply gN | apply gO | apply gP | apply gQ | apply gR) | ((with_reducible apply gT); first | exact rfl | exact True.intro | omega | assumption) | ((with_reducible apply gS2); first | assumption | rfl) | ((with_reducible first | apply gL0 | apply gL1 | apply gL2 | apply gL3 | apply gL4); assumption)))
  refine t_blk (ReqEnd g2 f u y) ?_ ?_
  · have ones : ∀ v ∈ [Value.int .i64 y.day, .int .i64 y.land, .slice q m cq], isOne v = true := by
      intro w hw; simp at hw; rcases hw with rfl | rfl | rfl <;> rfl
    have enc : ReqEnc g2.get y [Value.int .i64 y.day, .int .i64 y.land, .slice q m cq] := ⟨q, m, cq, rfl, hy2⟩
    refine t_both ?_ ?_
    · refine t_build0G (h₀ := g2) (Enc := ReqEnc g2.get) und24 inf64 (LH.le_refl _) fun r0 h1 hr0 le1 g1 => ?_
      (repeat (first | (with_reducible first | apply gA | apply gB | apply gC | apply gD | apply gE | apply gF | apply gG | apply gH | apply gI | apply gJ | apply gK | apply gL | apply gM | apply gN | apply gO | apply gP | apply gQ | apply gR) | ((with_reducible apply gT); first | exact rfl | exact True.intro | omega | assumption) | ((with_reducible apply gS2); first | assumption | rfl) | ((with_reducible first | apply gL0 | apply gL1 | apply gL2 | apply gL3 | apply gL4); assumption)))
      refine t_both ?_ ?_
      · refine t_copy (h₀ := g2) rfl rfl und24 und24 inf64 rfl (by omega) (by omega) g1 le1 (reqB_of (Rd.of_le le1.1) hu2.requests) reqTold fun p2 c2 h2 le2 _ g2' => ?_
        (repeat (first | (with_reducible first | apply gA | apply gB | apply gC | apply gD | apply gE | apply gF | apply gG | apply gH | apply gI | apply gJ | apply gK | apply gL | apply gM | apply gN | apply gO | apply gP | apply gQ | apply gR) | ((with_reducible apply gT); first | exact rfl | exact True.intro | omega | assumption) | ((with_reducible apply gS2); first | assumption | rfl) | ((with_reducible first | apply gL0 | apply gL1 | apply gL2 | apply gL3 | apply gL4); assumption)))
        refine t_buildG und24 inf64 (by decide) (by decide) (cells := #[.int .i64 y.day, .int .i64 y.land, .slice q m cq]) (by kernel_rfl) fun r h3 le3 hr3 e3 => ?_
        (repeat (first | (with_reducible first | apply gA | apply gB | apply gC | apply gD | apply gE | apply gF | apply gG | apply gH | apply gI | apply gJ | apply gK | apply gL | apply gM | apply gN | apply gO | apply gP | apply gQ | apply gR) | ((with_reducible apply gT); first | exact rfl | exact True.intro | omega | assumption) | ((with_reducible apply gS2); first | assumption | rfl) | ((with_reducible first | apply gL0 | apply gL1 | apply gL2 | apply gL3 | apply gL4); assumption)))
        refine copy_end1 (h := g2) und24 inf64 rfl (by omega) (by omega) (g2'.le le3.1) (LH.le_trans le2 le3) enc rfl ones e3 (fun j w hj => by simpa using hj) fun p' c' h' le' g' => ?_
        (repeat (first | (with_reducible first | apply gA | apply gB | apply gC | apply gD | apply gE | apply gF | apply gG | apply gH | apply gI | apply gJ | apply gK | apply gL | apply gM | apply gN | apply gO | apply gP | apply gQ | apply gR) | ((with_reducible apply gT); first | exact rfl | exact True.intro | omega | assumption) | ((with_reducible apply gS2); first | assumption | rfl) | ((with_reducible first | apply gL0 | apply gL1 | apply gL2 | apply gL3 | apply gL4); assumption)))
        exact t_again (reqEnd_of hu2 (by omega) le' g')
      · refine t_buildG und24 inf64 (by decide) (by decide) (cells := #[.int .i64 y.day, .int .i64 y.land, .slice q m cq]) (by kernel_rfl) fun r h2 le2 hr2 e2 => ?_
        (repeat (first | (with_reducible first | apply gA | apply gB | apply gC | apply gD | apply gE | apply gF | apply gG | apply gH | apply gI | apply gJ | apply gK | apply gL | apply gM | apply gN | apply gO | apply gP | apply gQ | apply gR) | ((with_reducible apply gT); first | exact rfl | exact True.intro | omega | assumption) | ((with_reducible apply gS2); first | assumption | rfl) | ((with_reducible first | apply gL0 | apply gL1 | apply gL2 | apply gL3 | apply gL4); assumption)))
        have le02 := LH.le_trans le1 le2
        refine t_copy (h₀ := g2) rfl rfl und24 und24 inf64 rfl (by omega) (by omega) (g1.le le2.1) le02 (reqB_of (Rd.of_le le02.1) hu2.requests) reqTold fun p3 c3 h3 le3 kp g3 => ?_
        (repeat (first | (with_reducible first | apply gA | apply gB | apply gC | apply gD | apply gE | apply gF | apply gG | apply gH | apply gI | apply gJ | apply gK | apply gL | apply gM | apply gN | apply gO | apply gP | apply gQ | apply gR) | ((with_reducible apply gT); first | exact rfl | exact True.intro | omega | assumption) | ((with_reducible apply gS2); first | assumption | rfl) | ((with_reducible first | apply gL0 | apply gL1 | apply gL2 | apply gL3 | apply gL4); assumption)))
        have hne : r ≠ r0 := by
          rintro rfl
          obtain ⟨vs, ⟨_, hh⟩, _⟩ := g1.row
          rcases hh with ⟨hh, _⟩ | ⟨r', cs, hh, h5, _⟩
          · cases hh
          · cases hh; rw [hr2] at h5; cases h5
        have e3 := kp r _ (fun a ha e => by cases ha; exact hne e.symm) e2
        refine copy_end1 (h := g2) und24 inf64 rfl (by omega) (by omega) g3 le3 enc rfl ones e3 (fun j w hj => by simpa using hj) fun p' c' h' le' g' => ?_
        (repeat (first | (with_reducible first | apply gA | apply gB | apply gC | apply gD | apply gE | apply gF | apply gG | apply gH | apply gI | apply gJ | apply gK | apply gL | apply gM | apply gN | apply gO | apply gP | apply gQ | apply gR) | ((with_reducible apply gT); first | exact rfl | exact True.intro | omega | assumption) | ((with_reducible apply gS2); first | assumption | rfl) | ((with_reducible first | apply gL0 | apply gL1 | apply gL2 | apply gL3 | apply gL4); assumption)))
        exact t_again (reqEnd_of hu2 (by omega) le' g')
    · refine t_buildG und24 inf64 (by decide) (by decide) (cells := #[.int .i64 y.day, .int .i64 y.land, .slice q m cq]) (by kernel_rfl) fun r h1 le1 hr1 e1 => ?_
      (repeat (first | (with_reducible first | apply gA | apply gB | apply gC | apply gD | apply gE | apply gF | apply gG | apply gH | apply gI | apply gJ | apply gK | apply gL | apply gM | apply gN | apply gO | apply gP | apply gQ | apply gR) | ((with_reducible apply gT); first | exact rfl | exact True.intro | omega | assumption) | ((with_reducible apply gS2); first | assumption | rfl) | ((with_reducible first | apply gL0 | apply gL1 | apply gL2 | apply gL3 | apply gL4); assumption)))
      refine t_build0G (h₀ := g2) (Enc := ReqEnc g2.get) und24 inf64 le1 fun r0 h2 hr0 le2 g2' => ?_
      (repeat (first | (with_reducible first | apply gA | apply gB | apply gC | apply gD | apply gE | apply gF | apply gG | apply gH | apply gI | apply gJ | apply gK | apply gL | apply gM | apply gN | apply gO | apply gP | apply gQ | apply gR) | ((with_reducible apply gT); first | exact rfl | exact True.intro | omega | assumption) | ((with_reducible apply gS2); first | assumption | rfl) | ((with_reducible first | apply gL0 | apply gL1 | apply gL2 | apply gL3 | apply gL4); assumption)))
      have le02 := LH.le_trans le1 le2
      refine t_copy (h₀ := g2) rfl rfl und24 und24 inf64 rfl (by omega) (by omega) g2' le02 (reqB_of (Rd.of_le le02.1) hu2.requests) reqTold fun p3 c3 h3 le3 kp g3 => ?_
      (repeat (first | (with_reducible first | apply gA | apply gB | apply gC | apply gD | apply gE | apply gF | apply gG | apply gH | apply gI | apply gJ | apply gK | apply gL | apply gM | apply gN | apply gO | apply gP | apply gQ | apply gR) | ((with_reducible apply gT); first | exact rfl | exact True.intro | omega | assumption) | ((with_reducible apply gS2); first | assumption | rfl) | ((with_reducible first | apply gL0 | apply gL1 | apply gL2 | apply gL3 | apply gL4); assumption)))
      have hne : r ≠ r0 := by rintro rfl; rw [e1] at hr0; cases hr0
      have e3 := kp r _ (fun a ha e => by cases ha; exact hne e.symm) (le2.1 _ _ e1)
      refine copy_end1 (h := g2) und24 inf64 rfl (by omega) (by omega) g3 le3 enc rfl ones e3 (fun j w hj => by simpa using hj) fun p' c' h' le' g' => ?_
      (repeat (first | (with_reducible first | apply gA | apply gB | apply gC | apply gD | apply gE | apply gF | apply gG | apply gH | apply gI | apply gJ | apply gK | apply gL | apply gM | apply gN | apply gO | apply gP | apply gQ | apply gR) | ((with_reducible apply gT); first | exact rfl | exact True.intro | omega | assumption) | ((with_reducible apply gS2); first | assumption | rfl) | ((with_reducible first | apply gL0 | apply gL1 | apply gL2 | apply gL3 | apply gL4); assumption)))
      exact t_again (reqEnd_of hu2 (by omega) le' g')
  rintro vs h3 ⟨p3, n3, c3, rfl, le3, ho⟩
  (repeat (first | (with_reducible first | apply gA | apply gB | apply gC | apply gD | apply gE | apply gF | apply gG | apply gH | apply gI | apply gJ | apply gK | apply gL | apply gM | apply gN | apply gO | apply gP | apply gQ | apply gR) | ((with_reducible apply gT); first | exact rfl | exact True.intro | omega | assumption) | ((with_reducible apply gS2); first | assumption | rfl) | ((with_reducible first | apply gL0 | apply gL1 | apply gL2 | apply gL3 | apply gL4); assumption)))
  have le03 := LH.le_trans le12 le3
  have hp3 := hp.le le03.1
  refine t_pu (c27 ho) ?_
  (repeat (first | (with_reducible first | apply gA | apply gB | apply gC | apply gD | apply gE | apply gF | apply gG | apply gH | apply gI | apply gJ | apply gK | apply gL | apply gM | apply gN | apply gO | apply gP | apply gQ | apply gR) | ((with_reducible apply gT); first | exact rfl | exact True.intro | omega | assumption) | ((with_reducible apply gS2); first | assumption | rfl) | ((with_reducible first | apply gL0 | apply gL1 | apply gL2 | apply gL3 | apply gL4); assumption)))
  refine t_cond (fun _ => ?_) (fun ec => ?_)
  · exact t_shown hch hpe hp le03 fun h' hh => t_ret ⟨rfl, hh⟩
  have co : checkF { u with requests := u.requests ++ [y] } = 0 := by simpa using ec
  have hyd := (check_requests co).2 y (List.mem_append_right _ (List.mem_singleton.2 rfl))
  refine t_gr (c23 hp3 ho k e) ?_
  intro r4 h4' le4 hr4
  obtain ⟨p4, n4, k4, rfl, s4⟩ := hr4.form
  rw [leftQ_ok co hk hee, if_pos rfl] at s4
  rw [leftQ_ok co hk hee]
  (repeat (first | (with_reducible first | apply gA | apply gB | apply gC | apply gD | apply gE | apply gF | apply gG | apply gH | apply gI | apply gJ | apply gK | apply gL | apply gM | apply gN | apply gO | apply gP | apply gQ | apply gR) | ((with_reducible apply gT); first | exact rfl | exact True.intro | omega | assumption) | ((with_reducible apply gS2); first | assumption | rfl) | ((with_reducible first | apply gL0 | apply gL1 | apply gL2 | apply gL3 | apply gL4); assumption)))
  have le04 := LH.le_trans le03 le4
  have s2 := s2.le IntE.grow (LH.le_trans le3 le4).1
  have ll2 := leftAll_len u k e
  have ll4 := leftAll_len { u with requests := u.requests ++ [y] } k e
  have hn2 := s2.1
  have hn4 := s4.1
  have ll4' : (leftAll { u with requests := u.requests ++ [y] } k e).length = u.items.toNat := ll4
  refine t_blk (fun vs h' => vs = [.bool false] ∧ h4' = h') ?_ ?_
  · refine t_cond (fun e => absurd e (by simp)) (fun _ => ?_)
    refine t_pu (c44 s2 s4 (noLess_of rfl fun j => more_request)) ?_
    (repeat (first | (with_reducible first | apply gA | apply gB | apply gC | apply gD | apply gE | apply gF | apply gG | apply gH | apply gI | apply gJ | apply gK | apply gL | apply gM | apply gN | apply gO | apply gP | apply gQ | apply gR) | ((with_reducible apply gT); first | exact rfl | exact True.intro | omega | assumption) | ((with_reducible apply gS2); first | assumption | rfl) | ((with_reducible first | apply gL0 | apply gL1 | apply gL2 | apply gL3 | apply gL4); assumption)))
    refine t_cond (fun e => absurd e (by simp)) (fun _ => ?_)
    exact t_again ⟨rfl, rfl⟩
  rintro vs _ ⟨rfl, rfl⟩
  (repeat (first | (with_reducible first | apply gA | apply gB | apply gC | apply gD | apply gE | apply gF | apply gG | apply gH | apply gI | apply gJ | apply gK | apply gL | apply gM | apply gN | apply gO | apply gP | apply gQ | apply gR) | ((with_reducible apply gT); first | exact rfl | exact True.intro | omega | assumption) | ((with_reducible apply gS2); first | assumption | rfl) | ((with_reducible first | apply gL0 | apply gL1 | apply gL2 | apply gL3 | apply gL4); assumption)))
  refine t_loop (fun mm vs h' => h4'.le h' ∧ ∃ i : Nat, vs = [.bool false, .int .i64 i] ∧ i ≤ n4 ∧ mm = n4 - i) ⟨LH.le_refl _, 0, rfl, Nat.zero_le _, rfl⟩ ?_
  rintro Y mm vs h5 hY ⟨le5, j, rfl, hj, rfl⟩
  have le05 := LH.le_trans le04 le5
  (repeat (first | (with_reducible first | apply gA | apply gB | apply gC | apply gD | apply gE | apply gF | apply gG | apply gH | apply gI | apply gJ | apply gK | apply gL | apply gM | apply gN | apply gO | apply gP | apply gQ | apply gR) | ((with_reducible apply gT); first | exact rfl | exact True.intro | omega | assumption) | ((with_reducible apply gS2); first | assumption | rfl) | ((with_reducible first | apply gL0 | apply gL1 | apply gL2 | apply gL3 | apply gL4); assumption)))
  refine t_if (fun e2 => ?_) (fun e2 => ?_)
  · have hju : 0 ≤ (j : Int) ∧ (j : Int) < u.items := ⟨by omega, by omega⟩
    obtain ⟨y2, a2, hy2', ha2, e22⟩ := (s2.le IntE.grow le5.1).at (i := j) (by omega)
    obtain ⟨y4, a4, hy4', ha4, e44⟩ := (s4.le IntE.grow le5.1).at (i := j) (by omega)
    unfold IntE at e22 e44
    have q2 := leftAll_get (by omega) hy2'
    have q4 : y4 = left { u with requests := u.requests ++ [y] } k j e := leftAll_get (by show j < u.items.toNat; omega) hy4'
    have next : ∀ h', h4'.le h' → Y [.bool false, .int .i64 (IntKind.wrap .i64 ((j : Int) + 1))] h' := by
      intro h' le'
      refine hY (n4 - (j + 1)) _ _ (by omega) ⟨le', j + 1, ?_, by omega, rfl⟩
      rw [wrap_id (by omega) (by omega)]; rfl
    refine t_blk (fun vs h' => vs = [.bool false] ∧ h5 = h' ∧ agB k j e y = true) ?_ ?_
    · refine t_cond (fun b1 => ?_) (fun b1 => ?_)
      · have hag : agB k j e y = false := by
          have : (y.land == k) = false := by simpa using b1
          rw [agB, this]; rfl
        have heq : y4 = y2 := by rw [q4, q2]; exact other_request hag
        (repeat (first | (with_reducible first | apply gA | apply gB | apply gC | apply gD | apply gE | apply gF | apply gG | apply gH | apply gI | apply gJ | apply gK | apply gL | apply gM | apply gN | apply gO | apply gP | apply gQ | apply gR) | ((with_reducible apply gT); first | exact rfl | exact True.intro | omega | assumption) | ((with_reducible apply gS2); first | assumption | rfl) | ((with_reducible first | apply gL0 | apply gL1 | apply gL2 | apply gL3 | apply gL4); assumption)))
        refine t_cond (fun e => ?_) (fun _ => ?_)
        · rw [heq] at e; simp at e
        refine gR ?_
        refine t_cond (fun _ => ?_) (fun e => by cases e)
        (repeat (first | (with_reducible first | apply gA | apply gB | apply gC | apply gD | apply gE | apply gF | apply gG | apply gH | apply gI | apply gJ | apply gK | apply gL | apply gM | apply gN | apply gO | apply gP | apply gQ | apply gR) | ((with_reducible apply gT); first | exact rfl | exact True.intro | omega | assumption) | ((with_reducible apply gS2); first | assumption | rfl) | ((with_reducible first | apply gL0 | apply gL1 | apply gL2 | apply gL3 | apply gL4); assumption)))
        exact t_again (next _ le5)
      · have hland : (y.land == k) = true := by simpa using b1
        refine t_if (fun b2 => ?_) (fun b2 => ?_)
        · have hag : agB k j e y = false := by
            rw [agB, hland]; simp; intro hh; omega
          have heq : y4 = y2 := by rw [q4, q2]; exact other_request hag
          (repeat (first | (with_reducible first | apply gA | apply gB | apply gC | apply gD | apply gE | apply gF | apply gG | apply gH | apply gI | apply gJ | apply gK | apply gL | apply gM | apply gN | apply gO | apply gP | apply gQ | apply gR) | ((with_reducible apply gT); first | exact rfl | exact True.intro | omega | assumption) | ((with_reducible apply gS2); first | assumption | rfl) | ((with_reducible first | apply gL0 | apply gL1 | apply gL2 | apply gL3 | apply gL4); assumption)))
          refine t_cond (fun e => ?_) (fun _ => ?_)
          · rw [heq] at e; simp at e
          refine gR ?_
          refine t_cond (fun _ => ?_) (fun e => by cases e)
          (repeat (first | (with_reducible first | apply gA | apply gB | apply gC | apply gD | apply gE | apply gF | apply gG | apply gH | apply gI | apply gJ | apply gK | apply gL | apply gM | apply gN | apply gO | apply gP | apply gQ | apply gR) | ((with_reducible apply gT); first | exact rfl | exact True.intro | omega | assumption) | ((with_reducible apply gS2); first | assumption | rfl) | ((with_reducible first | apply gL0 | apply gL1 | apply gL2 | apply gL3 | apply gL4); assumption)))
          exact t_again (next _ le5)
        · refine t_pu (c41 (hy.le IntE.grow le05.1) j) ?_
          (repeat (first | (with_reducible first | apply gA | apply gB | apply gC | apply gD | apply gE | apply gF | apply gG | apply gH | apply gI | apply gJ | apply gK | apply gL | apply gM | apply gN | apply gO | apply gP | apply gQ | apply gR) | ((with_reducible apply gT); first | exact rfl | exact True.intro | omega | assumption) | ((with_reducible apply gS2); first | assumption | rfl) | ((with_reducible first | apply gL0 | apply gL1 | apply gL2 | apply gL3 | apply gL4); assumption)))
          refine t_cond (fun b3 => ?_) (fun b3 => ?_)
          · have hag : agB k j e y = false := by
              have : y.items.contains (j : Int) = false := by simpa using b3
              rw [agB, this]; simp
            have heq : y4 = y2 := by rw [q4, q2]; exact other_request hag
            (repeat (first | (with_reducible first | apply gA | apply gB | apply gC | apply gD | apply gE | apply gF | apply gG | apply gH | apply gI | apply gJ | apply gK | apply gL | apply gM | apply gN | apply gO | apply gP | apply gQ | apply gR) | ((with_reducible apply gT); first | exact rfl | exact True.intro | omega | assumption) | ((with_reducible apply gS2); first | assumption | rfl) | ((with_reducible first | apply gL0 | apply gL1 | apply gL2 | apply gL3 | apply gL4); assumption)))
            refine t_cond (fun e => ?_) (fun _ => ?_)
            · rw [heq] at e; simp at e
            refine gR ?_
            refine t_cond (fun _ => ?_) (fun e => by cases e)
            (repeat (first | (with_reducible first | apply gA | apply gB | apply gC | apply gD | apply gE | apply gF | apply gG | apply gH | apply gI | apply gJ | apply gK | apply gL | apply gM | apply gN | apply gO | apply gP | apply gQ | apply gR) | ((with_reducible apply gT); first | exact rfl | exact True.intro | omega | assumption) | ((with_reducible apply gS2); first | assumption | rfl) | ((with_reducible first | apply gL0 | apply gL1 | apply gL2 | apply gL3 | apply gL4); assumption)))
            exact t_again (next _ le5)
          · refine t_again ⟨rfl, rfl, ?_⟩
            have : y.items.contains (j : Int) = true := by simpa using b3
            rw [agB, hland, this]; simp; omega
    rintro vs _ ⟨rfl, rfl, hag⟩
    (repeat (first | (with_reducible first | apply gA | apply gB | apply gC | apply gD | apply gE | apply gF | apply gG | apply gH | apply gI | apply gJ | apply gK | apply gL | apply gM | apply gN | apply gO | apply gP | apply gQ | apply gR) | ((with_reducible apply gT); first | exact rfl | exact True.intro | omega | assumption) | ((with_reducible apply gS2); first | assumption | rfl) | ((with_reducible first | apply gL0 | apply gL1 | apply gL2 | apply gL3 | apply gL4); assumption)))
    refine t_gr (c19 (hp.le le05.1) (hu.le le05.1) k j y.day) ?_
    rintro _ h6 le6 rfl
    rw [safeR_ok hck hk hju hyd]
    (repeat (first | (with_reducible first | apply gA | apply gB | apply gC | apply gD | apply gE | apply gF | apply gG | apply gH | apply gI | apply gJ | apply gK | apply gL | apply gM | apply gN | apply gO | apply gP | apply gQ | apply gR) | ((with_reducible apply gT); first | exact rfl | exact True.intro | omega | assumption) | ((with_reducible apply gS2); first | assumption | rfl) | ((with_reducible first | apply gL0 | apply gL1 | apply gL2 | apply gL3 | apply gL4); assumption)))
    refine t_cond (fun e => absurd e (by simp)) (fun _ => ?_)
    have e44 := Cells.cell?_le le6.1 e44
    have hle := the_request vu hyd.1 hag (i := j) (e := e)
    rw [← q4] at hle
    (repeat (first | (with_reducible first | apply gA | apply gB | apply gC | apply gD | apply gE | apply gF | apply gG | apply gH | apply gI | apply gJ | apply gK | apply gL | apply gM | apply gN | apply gO | apply gP | apply gQ | apply gR) | ((with_reducible apply gT); first | exact rfl | exact True.intro | omega | assumption) | ((with_reducible apply gS2); first | assumption | rfl) | ((with_reducible first | apply gL0 | apply gL1 | apply gL2 | apply gL3 | apply gL4); assumption)))
    refine t_pu (c45 _ _) ?_
    rw [decide_eq_false (by omega : ¬ rk (safe u k j y.day) < rk y4)]
    (repeat (first | (with_reducible first | apply gA | apply gB | apply gC | apply gD | apply gE | apply gF | apply gG | apply gH | apply gI | apply gJ | apply gK | apply gL | apply gM | apply gN | apply gO | apply gP | apply gQ | apply gR) | ((with_reducible apply gT); first | exact rfl | exact True.intro | omega | assumption) | ((with_reducible apply gS2); first | assumption | rfl) | ((with_reducible first | apply gL0 | apply gL1 | apply gL2 | apply gL3 | apply gL4); assumption)))
    refine t_cond (fun e => by cases e) (fun _ => ?_)
    exact t_again (next _ (LH.le_trans le5 le6))
  · (repeat (first | (with_reducible first | apply gA | apply gB | apply gC | apply gD | apply gE | apply gF | apply gG | apply gH | apply gI | apply gJ | apply gK | apply gL | apply gM | apply gN | apply gO | apply gP | apply gQ | apply gR) | ((with_reducible apply gT); first | exact rfl | exact True.intro | omega | assumption) | ((with_reducible apply gS2); first | assumption | rfl) | ((with_reducible first | apply gL0 | apply gL1 | apply gL2 | apply gL3 | apply gL4); assumption)))
    exact t_shown hch hpe hp le05 fun h' hh => t_ret ⟨rfl, hh⟩
end Go.Proofs.YtibibhojkfapnaaDoor
end
section
namespace Go.Proofs.YtibibhojkfapnaaDoor
open Go Go.TM Go.Proofs Go.ChangeShapes Go.WideShapes Go.RowKit
set_option maxRecDepth 100000
theorem useRequests_lifted (os : Os) (started : os.Started) (H : Type) (enc : TypeId × Value → H) :
    ReturnsInLeavingWide {} Tryd.checked os 10 .any (fun w args => (Rows.useRequestsSpec.pre enc Tryd.prog Tryd.f10 [] false w args ∧ laidMetH Tryd.prog Rows.useWindowsRow.laid w) ∧ sizedMet enc Tryd.prog Tryd.f10 (OpenSpec.ofChange Rows.useRequestsSpec) false w args)
      (Rows.useRequestsSpec.post enc Tryd.prog Tryd.f10 false true false false) := by
  refine row_leaving (C := Tryd.checked) (tb := 4) own started Tryd.func10 (by kernel_rfl) rfl lo ?_ (by kernel_rfl) Tryd.underlying4 ?_
    (ChangeSpec.witness_shaped (enc := enc) (C := Tryd.checked) (os := os) (X := fun w _ => laidMetH Tryd.prog Rows.useWindowsRow.laid w) false (World.doorLaid Tryd.prog 200 os) #[noFile, .int .u8 0, .int .u16 0, .int .u16 0, .agg #[.int .i64 0, .int .i64 0, .slice none 0 0]] 8 rfl (door_shaped os _) (by kernel_rfl) (by kernel_rfl) (by kernel_rfl) (door_met os _)) ?_
  · exact fun t ht => of_decide_eq_true (List.all_eq_true.1 (show (Tryd.f10.params.toList.all fun t => decide (Tryd.prog.readableRec t = true ∧ t < Tryd.prog.types.size)) = true by kernel_rfl) t ht)
  · intro ds hd
    match ds, (show ds.length = 5 from hd) with
    | [d0, d1, d2, d3, d4], _ => rfl
  · intro W base args ds ps hval0 hA0 hz0 hL
    have hval : ∀ (j : Nat) t v, Tryd.f10.params[j]? = some t → args[j]? = some v → Value.okWide Tryd.prog W .any base t v := hval0
    have hz : ∀ (j : Nat) t d, Tryd.f10.params.toList[j]? = some t → ds[j]? = some d → Light Tryd.prog t d := hz0
    have hA : DataW.TrodAll enc Tryd.prog W 0 (fun _ => true) true Tryd.f10.params.toList args.toList ds ps := hA0
    rw [Tryd.params10] at hval hz hA
    obtain ⟨v0, v1, v2, v3, v4, d0, d1, d2, d3, d4, q00, q01, q02, q03, q04, rfl, rfl, rfl, h0, h1, h2, h3, h4⟩ := trodAll_five hA
    obtain ⟨f0, u0, rfl, hu0⟩ := file_arg UT (hval 0 26 v0 rfl rfl) (hz 0 26 d0 rfl rfl) h0
    obtain ⟨x1, rfl, _, _, w1⟩ := open_int und5 (hval 1 5 v1 rfl rfl) h1
    obtain ⟨x2, rfl, _, _, w2⟩ := open_int und57 (hval 2 57 v2 rfl rfl) h2
    obtain ⟨x3, rfl, _, _, w3⟩ := open_int und57 (hval 3 57 v3 rfl rfl) h3
    obtain ⟨q4, m4, k4, x4, rfl, s4⟩ := req_arg UT (hval 4 64 v4 rfl rfl) (hz 4 64 d4 rfl rfl) h4
    exact FW.mono (c10 (h := ⟨getW W, [], [], []⟩) rfl rfl (parts_of_laid hL) hu0 x1 (wf_u8 w1) x2 (wf_u16 w2) x3 (wf_u16 w3) s4) fun r h' hq => ⟨hq.1, hq.2.2.1⟩
theorem useRequests_row : Rows.UseRequestsSaid :=
  OpenClaim.holds_of_wide_leaving 10 Tryd.f10 rfl rfl rfl rfl rfl rfl rfl ⟨rfl, rfl, rfl, rfl, rfl⟩ rfl rfl rfl rfl rfl (by kernel_rfl) Tryd.func10 (by kernel_rfl)
    (of_decide_eq_true (by kernel_rfl)) (by unfold Func.isWrapper; first | (rw [if_pos (by decide +kernel)]; kernel_rfl) | (rw [if_neg (by decide +kernel)]; exact ⟨rfl, rfl⟩))
    (fun os started H enc _ => useRequests_lifted os started H enc)
theorem useRequests_holds : Rows.UseRequestsCardSaid :=
  card_goes [.funcs] true Rows.useRequestsCard.stood.harness false useRequests_row (by kernel_rfl) useRequests_row_tie rfl ⟨rfl, rfl⟩ (by kernel_rfl) rfl
    (fun f fn hf hfn => by
      obtain rfl : f = 10 := Option.some.inj ((show Tryd.prog.funcNamed Rows.useRequestsRow.func = some 10 by kernel_rfl).symm.trans hf) |>.symm
      obtain rfl : fn = Tryd.f10 := (Option.some.inj (Tryd.func10.symm.trans hfn)).symm
      exact ⟨by kernel_rfl, fun j t ht => by
        have hm := Array.mem_of_getElem? ht
        have := of_decide_eq_true (List.all_eq_true.1 (show (Tryd.f10.params.toList.all fun t => decide (Tryd.prog.wantsStandIn t = false)) = true by kernel_rfl) t (Array.mem_toList_iff.2 hm))
        exact this⟩)
    (by kernel_rfl)
end Go.Proofs.YtibibhojkfapnaaDoor
end
#print axioms Go.Proofs.YtibibhojkfapnaaDoor.useRequests_holds

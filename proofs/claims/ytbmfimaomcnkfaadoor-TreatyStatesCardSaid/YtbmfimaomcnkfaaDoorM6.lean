/- The law TreatyStates: what it needs of the road, of its contracts, and its row. -/
import Derived.Test.YtbmfimaomcnkfaaDoorM5
set_option linter.all false
section
namespace Go.Proofs.YtbmfimaomcnkfaaDoor
open Go Go.TM Go.Proofs Go.TM.Tr
attribute [local irreducible] T.wp CV FWK
theorem c2020 {h : LH} {p q : Option Addr} {n c m d : Nat} {a b : List Bool} (ha : Sl BoolE 1 h.get p n a) (hb : Sl BoolE 1 h.get q m b) : Pu Tryd.prog 20 #[.slice p n c, .slice q m d] h (.bool (decide (a = b))) := by
  refine w2020 _ _ _ _ _ _ X0_ok ?_
  unfold n2020
  have hn := ha.1
  have hm := hb.1
  have hbn := ha.2.1
  have hbm := hb.2.1
  refine t_cond (fun e => ?_) (fun e => ?_)
  · have : a ≠ b := by rintro rfl; simp at e; omega
    exact t_ret ⟨by simp [this], rfl⟩
  have hnm : n = m := by simp at e; omega
  refine t_loop (fun mm vs h' => h = h' ∧ ∃ i : Nat, vs = [.bool false, .int .i64 i] ∧ i ≤ n ∧ mm = n - i ∧ a.take i = b.take i) ⟨rfl, 0, rfl, Nat.zero_le _, rfl, rfl⟩ ?_
  rintro Y mm vs _ hY ⟨rfl, i, rfl, hi, rfl, hc⟩
  (repeat (first | (with_reducible first | apply gA | apply gB | apply gC | apply gD | apply gE | apply gF | apply gG | apply gH | apply gI | apply gJ | apply gK | apply gL | apply gM | apply gN | apply gO | apply gP | apply gQ | apply gR | apply gP2 | apply gP3) | ((with_reducible first | apply gT | apply gS2); first | exact rfl | assumption | omega | exact ⟨⟩) | ((with_reducible first | apply gL0 | apply gL1 | apply gL2 | apply gL3 | apply gL4); assumption)))
  refine t_if (fun e => ?_) (fun e => ?_)
  · obtain ⟨x, a1, hx, ha1, e1⟩ := ha.at (i := i) (by omega)
    obtain ⟨y, a2, hy, ha2, e2⟩ := hb.at (i := i) (by omega)
    unfold BoolE at e1 e2
    rw [add_zero'] at e1 e2
    (repeat (first | (with_reducible first | apply gA | apply gB | apply gC | apply gD | apply gE | apply gF | apply gG | apply gH | apply gI | apply gJ | apply gK | apply gL | apply gM | apply gN | apply gO | apply gP | apply gQ | apply gR | apply gP2 | apply gP3) | ((with_reducible first | apply gT | apply gS2); first | exact rfl | assumption | omega | exact ⟨⟩) | ((with_reducible first | apply gL0 | apply gL1 | apply gL2 | apply gL3 | apply gL4); assumption)))
    refine t_cond (fun b1 => ?_) (fun b1 => ?_)
    · (repeat (first | (with_reducible first | apply gA | apply gB | apply gC | apply gD | apply gE | apply gF | apply gG | apply gH | apply gI | apply gJ | apply gK | apply gL | apply gM | apply gN | apply gO | apply gP | apply gQ | apply gR | apply gP2 | apply gP3) | ((with_reducible first | apply gT | apply gS2); first | exact rfl | assumption | omega | exact ⟨⟩) | ((with_reducible first | apply gL0 | apply gL1 | apply gL2 | apply gL3 | apply gL4); assumption)))
      have : a ≠ b := by rintro rfl; rw [hx] at hy; cases hy; simp at b1
      exact t_ret ⟨by simp [this], rfl⟩
    · have b2 : x = y := by cases x <;> cases y <;> simp_all
      refine t_again (hY (n - (i + 1)) _ _ (by omega) ⟨rfl, i + 1, ?_, by omega, rfl, ?_⟩)
      · rw [wrap_id (by omega) (by omega)]; rfl
      · rw [List.take_add_one, List.take_add_one, hc, hx, hy, b2]
  · (repeat (first | (with_reducible first | apply gA | apply gB | apply gC | apply gD | apply gE | apply gF | apply gG | apply gH | apply gI | apply gJ | apply gK | apply gL | apply gM | apply gN | apply gO | apply gP | apply gQ | apply gR | apply gP2 | apply gP3) | ((with_reducible first | apply gT | apply gS2); first | exact rfl | assumption | omega | exact ⟨⟩) | ((with_reducible first | apply gL0 | apply gL1 | apply gL2 | apply gL3 | apply gL4); assumption)))
    rw [List.take_of_length_le (by omega), List.take_of_length_le (by omega)] at hc
    exact t_ret ⟨by simp [hc], rfl⟩
theorem c2025 {h : LH} {p q : Option Addr} {n c m d : Nat} {a b : List Sp} (ha : Sl SpE 2 h.get p n a) (hb : Sl SpE 2 h.get q m b) : Pu Tryd.prog 25 #[.slice p n c, .slice q m d] h (.bool (decide (a = b))) := by
  refine w2025 _ _ _ _ _ _ X0_ok ?_
  unfold n2025
  have hn := ha.1
  have hm := hb.1
  have hbn := ha.2.1
  have hbm := hb.2.1
  refine t_cond (fun e => ?_) (fun e => ?_)
  · have : a ≠ b := by rintro rfl; simp at e; omega
    exact t_ret ⟨by simp [this], rfl⟩
  have hnm : n = m := by simp at e; omega
  refine t_loop (fun mm vs h' => h = h' ∧ ∃ i : Nat, vs = [.bool false, .int .i64 i] ∧ i ≤ n ∧ mm = n - i ∧ a.take i = b.take i) ⟨rfl, 0, rfl, Nat.zero_le _, rfl, rfl⟩ ?_
  rintro Y mm vs _ hY ⟨rfl, i, rfl, hi, rfl, hc⟩
  (repeat (first | (with_reducible first | apply gA | apply gB | apply gC | apply gD | apply gE | apply gF | apply gG | apply gH | apply gI | apply gJ | apply gK | apply gL | apply gM | apply gN | apply gO | apply gP | apply gQ | apply gR | apply gP2 | apply gP3) | ((with_reducible first | apply gT | apply gS2); first | exact rfl | assumption | omega | exact ⟨⟩) | ((with_reducible first | apply gL0 | apply gL1 | apply gL2 | apply gL3 | apply gL4); assumption)))
  refine t_if (fun e => ?_) (fun e => ?_)
  · obtain ⟨x, a1, hx, ha1, e1, e3⟩ := ha.at (i := i) (by omega)
    obtain ⟨y, a2, hy, ha2, e2, e4⟩ := hb.at (i := i) (by omega)
    (repeat (first | (with_reducible first | apply gA | apply gB | apply gC | apply gD | apply gE | apply gF | apply gG | apply gH | apply gI | apply gJ | apply gK | apply gL | apply gM | apply gN | apply gO | apply gP | apply gQ | apply gR | apply gP2 | apply gP3) | ((with_reducible first | apply gT | apply gS2); first | exact rfl | assumption | omega | exact ⟨⟩) | ((with_reducible first | apply gL0 | apply gL1 | apply gL2 | apply gL3 | apply gL4); assumption)))
    refine t_ne2 two30 g30 ?_
    (repeat (first | (with_reducible first | apply gA | apply gB | apply gC | apply gD | apply gE | apply gF | apply gG | apply gH | apply gI | apply gJ | apply gK | apply gL | apply gM | apply gN | apply gO | apply gP | apply gQ | apply gR | apply gP2 | apply gP3) | ((with_reducible first | apply gT | apply gS2); first | exact rfl | assumption | omega | exact ⟨⟩) | ((with_reducible first | apply gL0 | apply gL1 | apply gL2 | apply gL3 | apply gL4); assumption)))
    refine t_cond (fun b1 => ?_) (fun b1 => ?_)
    · (repeat (first | (with_reducible first | apply gA | apply gB | apply gC | apply gD | apply gE | apply gF | apply gG | apply gH | apply gI | apply gJ | apply gK | apply gL | apply gM | apply gN | apply gO | apply gP | apply gQ | apply gR | apply gP2 | apply gP3) | ((with_reducible first | apply gT | apply gS2); first | exact rfl | assumption | omega | exact ⟨⟩) | ((with_reducible first | apply gL0 | apply gL1 | apply gL2 | apply gL3 | apply gL4); assumption)))
      have : a ≠ b := by rintro rfl; rw [hx] at hy; cases hy; simp at b1
      exact t_ret ⟨by simp [this], rfl⟩
    · have b2 : x = y := by obtain ⟨x1, x2⟩ := x; obtain ⟨y1, y2⟩ := y; simp at b1; simp [b1]
      refine t_again (hY (n - (i + 1)) _ _ (by omega) ⟨rfl, i + 1, ?_, by omega, rfl, ?_⟩)
      · rw [wrap_id (by omega) (by omega)]; rfl
      · rw [List.take_add_one, List.take_add_one, hc, hx, hy, b2]
  · (repeat (first | (with_reducible first | apply gA | apply gB | apply gC | apply gD | apply gE | apply gF | apply gG | apply gH | apply gI | apply gJ | apply gK | apply gL | apply gM | apply gN | apply gO | apply gP | apply gQ | apply gR | apply gP2 | apply gP3) | ((with_reducible first | apply gT | apply gS2); first | exact rfl | assumption | omega | exact ⟨⟩) | ((with_reducible first | apply gL0 | apply gL1 | apply gL2 | apply gL3 | apply gL4); assumption)))
    rw [List.take_of_length_le (by omega), List.take_of_length_le (by omega)] at hc
    exact t_ret ⟨by simp [hc], rfl⟩
end Go.Proofs.YtbmfimaomcnkfaaDoor
end
section
namespace Go.Proofs.YtbmfimaomcnkfaaDoor
open Go Go.TM Go.Proofs
set_option linter.unusedVariables false
set_option maxRecDepth 100000
noncomputable def n2016 (x_0 : Int) (x_1 : Int) (x_2 : Int) (x_3 : Int) (x_4 : Int) (x_5 : Int) (x_6p : Option Addr) (x_6n x_6c : Nat) : T := bif decide ((↑x_6n : Int) > 20) then .leaf (.ret (.bool true)) else .loop [.bool false, .int .i64 0] (fun vs => .popB vs fun b vs => .popI .i64 vs fun n vs => .unNil vs (bif decide (n < (↑x_6n : Int)) then .need (0 ≤ n ∧ n < (↑x_6n : Int)) (.someA x_6p fun a => .loadS (Addr.add (Addr.add a (Int.toNat n * 5)) 3) fun p n_1 c => bif decide ((↑n_1 : Int) > 20) then .leaf (.retn [.bool true, .int .i64 n]) else .leaf (.again [.bool b, .int .i64 (IntKind.wrap .i64 (n + 1))])) else .leaf (.brk [.bool b, .int .i64 n]))) (fun vs => .popB vs fun b vs => .popI .i64 vs fun n vs => .unNil vs (.leaf (.ret (.bool false)))) (fun vs => .popB vs fun b vs => .popI .i64 vs fun n vs => .unNil vs (.leaf (.ret (.bool b)))) fun x x_6 => .fail
theorem t2016 (x_0 : Int) (x_1 : Int) (x_2 : Int) (x_3 : Int) (x_4 : Int) (x_5 : Int) (x_6p : Option Addr) (x_6n x_6c : Nat) : ftree ({ P := Tryd.prog, priv := [1], loops := [{ id := 0, slots := [(2, .bool), (3, .int .i64)], ro := [1], outs := [] }], joins := [] }) Tryd.f16 [.agg #[.int .i64 x_0, .int .i64 x_1, .int .i64 x_2, .int .i64 x_3, .int .i64 x_4, .int .i64 x_5, .slice x_6p x_6n x_6c]] = n2016 x_0 x_1 x_2 x_3 x_4 x_5 x_6p x_6n x_6c := by kernel_rfl
theorem w2016 (x_0 : Int) (x_1 : Int) (x_2 : Int) (x_3 : Int) (x_4 : Int) (x_5 : Int) (x_6p : Option Addr) (x_6n x_6c : Nat) {X : XP} (hX : XOK X) {h : LH} {A : Value → LH → Prop} (hw : (n2016 x_0 x_1 x_2 x_3 x_4 x_5 x_6p x_6n x_6c).wp X Tryd.prog (retQ A) h) : FWK X Tryd.prog .normal 16 #[.agg #[.int .i64 x_0, .int .i64 x_1, .int .i64 x_2, .int .i64 x_3, .int .i64 x_4, .int .i64 x_5, .slice x_6p x_6n x_6c]] h A := fwk_neat (t2016 x_0 x_1 x_2 x_3 x_4 x_5 x_6p x_6n x_6c) (by simp) (by kernel_rfl) (by kernel_rfl) hX hw
noncomputable def n2017  : T := .call false 48 #[] fun v => .unAgg v fun l => .popI .i64 l fun n vs => .popI .i64 vs fun n_1 vs => .popI .i64 vs fun n_2 vs => .popI .i64 vs fun n_3 vs => .popI .i64 vs fun n_4 vs => .popI .i64 vs fun n_5 vs => .popS vs fun a n_6 c vs => .unNil vs (.call false 18 #[.agg #[.int .i64 n, .int .i64 n_1, .int .i64 n_2, .int .i64 n_3, .int .i64 n_4, .int .i64 n_5, .slice a n_6 c], .int .i64 0, .int .i64 15] fun v => .unTup v fun l => .unCons l fun v vs => .unS v fun a_1 n_7 c_1 => .unCons vs fun v vs => .unI .i64 v fun n_8 => .unNil vs (.call false 18 #[.agg #[.int .i64 n, .int .i64 n_1, .int .i64 n_2, .int .i64 n_3, .int .i64 n_4, .int .i64 n_5, .slice a n_6 c], .int .i64 1, .int .i64 40] fun v => .unTup v fun l => .unCons l fun v vs => .unS v fun a_2 n_9 c_2 => .unCons vs fun v vs => .unI .i64 v fun n_10 => .unNil vs (.call false 26 #[.agg #[.int .i64 n, .int .i64 n_1, .int .i64 n_2, .int .i64 n_3, .int .i64 n_4, .int .i64 n_5, .slice a n_6 c], .int .i64 0, .int .i64 18] fun v => .unTup v fun l => .unCons l fun v vs => .unS v fun a_3 n_11 c_3 => .unCons vs fun v vs => .unI .i64 v fun n_12 => .unNil vs (.call false 26 #[.agg #[.int .i64 n, .int .i64 n_1, .int .i64 n_2, .int .i64 n_3, .int .i64 n_4, .int .i64 n_5, .slice a n_6 c], .int .i64 0, .int .i64 44] fun v => .unTup v fun l => .unCons l fun v vs => .unS v fun a_4 n_13 c_4 => .unCons vs fun v vs => .unI .i64 v fun n_14 => .unNil vs (.call false 23 #[.agg #[.int .i64 n, .int .i64 n_1, .int .i64 n_2, .int .i64 n_3, .int .i64 n_4, .int .i64 n_5, .slice a n_6 c], .int .i64 0, .int .i64 0] fun v => .unTup v fun l => .unCons l fun v vs => .unS v fun a_5 n_15 c_5 => .unCons vs fun v vs => .unI .i64 v fun n_16 => .unNil vs (.call false 23 #[.agg #[.int .i64 n, .int .i64 n_1, .int .i64 n_2, .int .i64 n_3, .int .i64 n_4, .int .i64 n_5, .slice a n_6 c], .int .i64 0, .int .i64 1] fun v => .unTup v fun l => .unCons l fun v vs => .unS v fun a_6 n_17 c_6 => .unCons vs fun v vs => .unI .i64 v fun n_18 => .unNil vs (.call false 29 #[.agg #[.int .i64 n, .int .i64 n_1, .int .i64 n_2, .int .i64 n_3, .int .i64 n_4, .int .i64 n_5, .slice a n_6 c], .int .i64 1, .int .i64 45] fun v => .unTup v fun l => .unCons l fun v vs => .unS v fun a_7 n_19 c_7 => .unCons vs fun v vs => .unI .i64 v fun n_20 => .unNil vs (.call false 29 #[.agg #[.int .i64 n, .int .i64 n_1, .int .i64 n_2, .int .i64 n_3, .int .i64 n_4, .int .i64 n_5, .slice a n_6 c], .int .i64 1, .int .i64 46] fun v => .unTup v fun l => .unCons l fun v vs => .unS v fun a_8 n_21 c_8 => .unCons vs fun v vs => .unI .i64 v fun n_22 => .unNil vs (.call false 44 #[.agg #[.int .i64 n, .int .i64 n_1, .int .i64 n_2, .int .i64 n_3, .int .i64 n_4, .int .i64 n_5, .slice a n_6 c], .int .i64 0, .int .i64 0, .int .i64 44] fun v => .unTup v fun l => .unCons l fun v vs => .unS v fun a n c => .unCons vs fun v vs => .unB v fun b => .unCons vs fun v vs => .unI .i64 v fun n_23 => .unNil vs (.blk (bif n_8 != 0 then .leaf (.retn [.bool false]) else bif n_10 != 0 then .leaf (.retn [.bool false]) else bif n_12 != 0 then .leaf (.retn [.bool false]) else bif n_14 != 0 then .leaf (.retn [.bool false]) else bif n_16 != 0 then .leaf (.retn [.bool false]) else bif n_18 != 0 then .leaf (.retn [.bool false]) else bif n_20 != 0 then .leaf (.retn [.bool false]) else bif n_22 != 0 then .leaf (.retn [.bool false]) else bif n_23 != 0 then .leaf (.retn [.bool false]) else .leaf (.again [.bool false])) (fun vs => .popB vs fun b_1 vs => .unNil vs (.blk (.sem false (Instr.buildSlice 27 3 #[(0, .bool true), (1, .bool false), (2, .bool true)]) fun v => .unS v fun a_9 n_24 c_9 => .call false 20 #[.slice a_1 n_7 c_1, .slice a_9 n_24 c_9] fun v => .unB v fun b_2 => bif !b_2 then .leaf (.retn [.bool false]) else .sem false (Instr.buildSlice 27 3 #[(0, .bool false), (1, .bool true), (2, .bool false)]) fun v => .unS v fun a_10 n_25 c_10 => .call false 20 #[.slice a_2 n_9 c_2, .slice a_10 n_25 c_10] fun v => .unB v fun b_3 => bif !b_3 then .leaf (.retn [.bool false]) else .sem false (Instr.buildSlice 38 3 #[(0, .int .i64 3), (1, .int .i64 (-1)), (2, .int .i64 12)]) fun v => .unS v fun a_11 n_26 c_11 => .call false 28 #[.slice a_3 n_11 c_3, .slice a_11 n_26 c_11] fun v => .unB v fun b_4 => bif !b_4 then .leaf (.retn [.bool false]) else .sem false (Instr.buildSlice 38 3 #[(0, .int .i64 3), (1, .int .i64 12), (2, .int .i64 (-1))]) fun v => .unS v fun a_12 n_27 c_12 => .call false 28 #[.slice a_4 n_13 c_4, .slice a_12 n_27 c_12] fun v => .unB v fun b_5 => bif !b_5 then .leaf (.retn [.bool false]) else bif !b then .leaf (.retn [.bool false]) else .sem false (Instr.buildSlice 38 2 #[(0, .int .i64 0), (1, .int .i64 5)]) fun v => .unS v fun a_13 n_28 c_13 => .call false 28 #[.slice a n c, .slice a_13 n_28 c_13] fun v => .unB v fun b => bif !b then .leaf (.retn [.bool false]) else .leaf (.again [.bool b_1])) (fun vs => .popB vs fun b vs => .unNil vs (.call false 49 #[.int .i64 12, .int .i64 39] fun v => .unAgg v fun l => .popI .i64 l fun n vs => .popI .i64 vs fun n_24 vs => .unNil vs (.call false 49 #[.int .i64 44, .int .i64 9999] fun v => .unAgg v fun l => .popI .i64 l fun n_25 vs => .popI .i64 vs fun n_26 vs => .unNil vs (.sem false (Instr.buildSlice 33 2 #[(0, .agg #[.int .i64 n, .int .i64 n_24]), (1, .agg #[.int .i64 n_25, .int .i64 n_26])]) fun v => .unS v fun a n c => .call false 25 #[.slice a_5 n_15 c_5, .slice a n c] fun v => .unB v fun b => bif b then .call false 49 #[.int .i64 12, .int .i64 14] fun v => .unAgg v fun l => .popI .i64 l fun n vs => .popI .i64 vs fun n_27 vs => .unNil vs (.call false 49 #[.int .i64 25, .int .i64 9999] fun v => .unAgg v fun l => .popI .i64 l fun n_28 vs => .popI .i64 vs fun n_29 vs => .unNil vs (.sem false (Instr.buildSlice 33 2 #[(0, .agg #[.int .i64 n, .int .i64 n_27]), (1, .agg #[.int .i64 n_28, .int .i64 n_29])]) fun v => .unS v fun a n c => .call false 25 #[.slice a_6 n_17 c_6, .slice a n c] fun v => .unB v fun b => bif b then .sem false (Instr.buildSlice 38 1 #[(0, .int .i64 0)]) fun v => .unS v fun a n c => .call false 28 #[.slice a_7 n_19 c_7, .slice a n c] fun v => .unB v fun b => bif b then .leaf (.ret (.bool ((↑n_21 : Int) == 0))) else .leaf (.ret (.bool false)) else .leaf (.ret (.bool false)))) else .leaf (.ret (.bool false)))))) (fun vs => .popB vs fun b vs => .unNil vs (.leaf (.ret (.bool b)))) fun x x_1 => .fail)) (fun vs => .popB vs fun b vs => .unNil vs (.leaf (.ret (.bool b)))) fun x x_1 => .fail))))))))))
theorem t2017  : ftree ({ P := Tryd.prog, priv := [1], loops := [], joins := [{ id := 15, slots := [(0, .bool)], ro := [1], outs := [] }, { id := 13, slots := [(0, .bool)], ro := [1], outs := [] }] }) Tryd.f17 [] = n2017  := by kernel_rfl
theorem w2017  {X : XP} (hX : XOK X) {h : LH} {A : Value → LH → Prop} (hw : (n2017 ).wp X Tryd.prog (retQ A) h) : FWK X Tryd.prog .normal 17 #[] h A := fwk_neat (t2017 ) (by simp) (by kernel_rfl) (by kernel_rfl) hX hw
noncomputable def n2048  : T := .sem false (Instr.buildSlice 38 3 #[(0, .int .i64 0), (1, .int .i64 1), (2, .int .i64 2)]) fun v => .unS v fun a n c => .sem false (Instr.buildSlice 38 1 #[(0, .int .i64 1)]) fun v => .unS v fun a_1 n_1 c_1 => .sem false (Instr.buildSlice 38 1 #[(0, .int .i64 1)]) fun v => .unS v fun a_2 n_2 c_2 => .sem false (Instr.buildSlice 38 1 #[(0, .int .i64 2)]) fun v => .unS v fun a_3 n_3 c_3 => .sem false (Instr.buildSlice 38 1 #[(0, .int .i64 0)]) fun v => .unS v fun a_4 n_4 c_4 => .sem false (Instr.buildSlice 38 1 #[(0, .int .i64 0)]) fun v => .unS v fun a_5 n_5 c_5 => .sem false (Instr.buildSlice 38 2 #[(0, .int .i64 0), (1, .int .i64 1)]) fun v => .unS v fun a_6 n_6 c_6 => .sem false (Instr.buildSlice 38 1 #[(0, .int .i64 1)]) fun v => .unS v fun a_7 n_7 c_7 => .sem false (Instr.buildSlice 38 1 #[(0, .int .i64 1)]) fun v => .unS v fun a_8 n_8 c_8 => .sem false (Instr.buildSlice 38 1 #[(0, .int .i64 0)]) fun v => .unS v fun a_9 n_9 c_9 => .sem false (Instr.buildSlice 22 10 #[(0, .agg #[.int .i64 0, .int .i64 12, .int .i64 0, .slice a n c, .int .i64 0]), (1, .agg #[.int .i64 1, .int .i64 15, .int .i64 0, .slice a_1 n_1 c_1, .int .i64 0]), (2, .agg #[.int .i64 2, .int .i64 25, .int .i64 0, .slice a_2 n_2 c_2, .int .i64 0]), (3, .agg #[.int .i64 3, .int .i64 22, .int .i64 0, .slice a_3 n_3 c_3, .int .i64 0]), (4, .agg #[.int .i64 4, .int .i64 40, .int .i64 0, .slice a_4 n_4 c_4, .int .i64 30]), (5, .agg #[.int .i64 5, .int .i64 44, .int .i64 0, .slice a_5 n_5 c_5, .int .i64 0]), (6, .agg #[.int .i64 0, .int .i64 20, .int .i64 1, .slice a_6 n_6 c_6, .int .i64 0]), (7, .agg #[.int .i64 1, .int .i64 27, .int .i64 1, .slice a_7 n_7 c_7, .int .i64 0]), (8, .agg #[.int .i64 4, .int .i64 50, .int .i64 0, .slice a_8 n_8 c_8, .int .i64 31]), (9, .agg #[.int .i64 6, .int .i64 18, .int .i64 0, .slice a_9 n_9 c_9, .int .i64 3])]) fun v => .unS v fun a n c => .leaf (.ret (.agg #[.int .i64 3, .int .i64 2, .int .i64 10, .int .i64 20, .int .i64 6, .int .i64 5, .slice a n c]))
theorem t2048  : ftree ({ P := Tryd.prog, priv := [0], loops := [], joins := [] }) Tryd.f48 [] = n2048  := by kernel_rfl
theorem w2048  {X : XP} (hX : XOK X) {h : LH} {A : Value → LH → Prop} (hw : (n2048 ).wp X Tryd.prog (retQ A) h) : FWK X Tryd.prog .normal 48 #[] h A := fwk_neat (t2048 ) (by simp) (by kernel_rfl) (by kernel_rfl) hX hw
noncomputable def n2049 (a : Int) (b : Int) : T := .leaf (.ret (.agg #[.int .i64 a, .int .i64 b]))
theorem t2049 (a : Int) (b : Int) : ftree ({ P := Tryd.prog, priv := [4], loops := [], joins := [] }) Tryd.f49 [.int .i64 a, .int .i64 b] = n2049 a b := by kernel_rfl
theorem w2049 (a : Int) (b : Int) {X : XP} (hX : XOK X) {h : LH} {A : Value → LH → Prop} (hw : (n2049 a b).wp X Tryd.prog (retQ A) h) : FWK X Tryd.prog .normal 49 #[.int .i64 a, .int .i64 b] h A := fwk_neat (t2049 a b) (by simp) (by kernel_rfl) (by kernel_rfl) hX hw
end Go.Proofs.YtbmfimaomcnkfaaDoor
end
section
namespace Go.Proofs.YtbmfimaomcnkfaaDoor
open Go Go.TM Go.Proofs Go.TM.Tr
attribute [local irreducible] T.wp CV FWK
def bigB (x : TF) : Bool := decide (20 < x.events.length) || x.events.any fun e => decide (20 < e.items.length)
theorem c2016 {h : LH} {f : TC} {x : TF} (hx : TreatyR h.get f x) : Pu Tryd.prog 16 #[treatyV f x] h (.bool (bigB x)) := by
  refine w2016 _ _ _ _ _ _ _ _ _ X0_ok ?_
  unfold n2016
  have hn := hx.2.1
  have hb := hx.2.2.1
  refine t_if (fun e => ?_) (fun e => ?_)
  · exact t_ret ⟨by rw [bigB, decide_eq_true (by omega)]; rfl, rfl⟩
  have h0 : bigB x = x.events.any fun e => decide (20 < e.items.length) := by rw [bigB, decide_eq_false (by omega)]; rfl
  refine t_loop (fun mm vs h' => h = h' ∧ ∃ j : Nat, vs = [.bool false, .int .i64 j] ∧ j ≤ f.n ∧ mm = f.n - j ∧ bigB x = (x.events.drop j).any fun e => decide (20 < e.items.length)) ⟨rfl, 0, rfl, Nat.zero_le _, rfl, h0⟩ ?_
  rintro Y mm vs _ hY ⟨rfl, j, rfl, hj, rfl, hc⟩
  (repeat (first | (with_reducible first | apply gA | apply gB | apply gC | apply gD | apply gE | apply gF | apply gG | apply gH | apply gI | apply gJ | apply gK | apply gL | apply gM | apply gN | apply gO | apply gP | apply gQ | apply gR | apply gP2 | apply gP3) | ((with_reducible first | apply gT | apply gS2); first | exact rfl | assumption | omega | exact ⟨⟩) | ((with_reducible first | apply gL0 | apply gL1 | apply gL2 | apply gL3 | apply gL4); assumption)))
  refine t_if (fun e1 => ?_) (fun e1 => ?_)
  · obtain ⟨y, a, hy, ha, g0, g1, g2, ⟨q, m, c, g3, _, g5⟩, g4⟩ := hx.2.at (i := j) (by omega)
    rw [drop_of hy, List.any_cons] at hc
    have hm := g5.1
    (repeat (first | (with_reducible first | apply gA | apply gB | apply gC | apply gD | apply gE | apply gF | apply gG | apply gH | apply gI | apply gJ | apply gK | apply gL | apply gM | apply gN | apply gO | apply gP | apply gQ | apply gR | apply gP2 | apply gP3) | ((with_reducible first | apply gT | apply gS2); first | exact rfl | assumption | omega | exact ⟨⟩) | ((with_reducible first | apply gL0 | apply gL1 | apply gL2 | apply gL3 | apply gL4); assumption)))
    refine t_if (fun e2 => ?_) (fun e2 => ?_)
    · (repeat (first | (with_reducible first | apply gA | apply gB | apply gC | apply gD | apply gE | apply gF | apply gG | apply gH | apply gI | apply gJ | apply gK | apply gL | apply gM | apply gN | apply gO | apply gP | apply gQ | apply gR | apply gP2 | apply gP3) | ((with_reducible first | apply gT | apply gS2); first | exact rfl | assumption | omega | exact ⟨⟩) | ((with_reducible first | apply gL0 | apply gL1 | apply gL2 | apply gL3 | apply gL4); assumption)))
      rw [decide_eq_true (by omega), Bool.true_or] at hc
      exact t_ret ⟨by rw [hc], rfl⟩
    · rw [decide_eq_false (by omega), Bool.false_or] at hc
      refine t_again (hY (f.n - (j + 1)) _ _ (by omega) ⟨rfl, j + 1, ?_, by omega, rfl, hc⟩)
      rw [wrap_id (by omega) (by omega)]; rfl
  · (repeat (first | (with_reducible first | apply gA | apply gB | apply gC | apply gD | apply gE | apply gF | apply gG | apply gH | apply gI | apply gJ | apply gK | apply gL | apply gM | apply gN | apply gO | apply gP | apply gQ | apply gR | apply gP2 | apply gP3) | ((with_reducible first | apply gT | apply gS2); first | exact rfl | assumption | omega | exact ⟨⟩) | ((with_reducible first | apply gL0 | apply gL1 | apply gL2 | apply gL3 | apply gL4); assumption)))
    rw [List.drop_eq_nil_of_le (by omega)] at hc
    exact t_ret ⟨by rw [hc]; rfl, rfl⟩
theorem c2049 {h : LH} (a b : Int) : Pu Tryd.prog 49 #[.int .i64 a, .int .i64 b] h (.agg #[.int .i64 a, .int .i64 b]) := by
  refine w2049 _ _ X0_ok ?_
  unfold n2049
  exact t_ret ⟨rfl, rfl⟩
section
variable {X : XP} {Q : Leaf → LH → Prop} {h : LH} {n : Nat} {parts : Array (Nat × Value)} {k : Value → T}
theorem t_ints (l : List Int) (hn : n * 1 ≤ 2 ^ 24) (hl : l.length = n) (hpos : n * 1 ≠ 0)
    (hf : Instr.fill (fun i => some (i * 1, 1)) ((Array.range (n * 1)).map ((Value.int .i64 0).cells[· % (Value.int .i64 0).cells.size]!)) parts.toList = some (l.map (Value.int .i64)).toArray)
    (hk : ∀ r h', h.le h' → Sl IntE 1 h'.get (some ⟨r, 0, none⟩) n l → (k (.slice (some ⟨r, 0, none⟩) n n)).wp X Tryd.prog Q h') : (T.sem false (Instr.buildSlice 38 n parts) k).wp X Tryd.prog Q h := by
  refine t_buildR (l.map (Value.int .i64)) und50 inf3 hn hpos hf fun r h' le _ hc => hk r h' le ?_
  refine ⟨hl.symm, by omega, fun i x hx => ⟨_, rfl, ?_⟩⟩
  unfold IntE
  rw [Nat.mul_one]
  exact hc i _ (by rw [List.getElem?_map, hx]; rfl)
theorem t_bools (l : List Bool) (hn : n * 1 ≤ 2 ^ 24) (hl : l.length = n) (hpos : n * 1 ≠ 0)
    (hf : Instr.fill (fun i => some (i * 1, 1)) ((Array.range (n * 1)).map ((Value.bool false).cells[· % (Value.bool false).cells.size]!)) parts.toList = some (l.map Value.bool).toArray)
    (hk : ∀ r h', h.le h' → Sl BoolE 1 h'.get (some ⟨r, 0, none⟩) n l → (k (.slice (some ⟨r, 0, none⟩) n n)).wp X Tryd.prog Q h') : (T.sem false (Instr.buildSlice 27 n parts) k).wp X Tryd.prog Q h := by
  refine t_buildR (l.map Value.bool) undBs inf4 hn hpos hf fun r h' le _ hc => hk r h' le ?_
  refine ⟨hl.symm, by omega, fun i x hx => ⟨_, rfl, ?_⟩⟩
  unfold BoolE
  rw [Nat.mul_one, add_zero']
  exact hc i _ (by rw [List.getElem?_map, hx]; rfl)
end
theorem sp_two {h : Cells} {r : Nat} {a b : Sp} (hc : ∀ (j : Nat) w, [Value.int .i64 a.first, .int .i64 a.last, .int .i64 b.first, .int .i64 b.last][j]? = some w → h.cell? (Addr.add ⟨r, 0, none⟩ j) = some w) : Sl SpE 2 h (some ⟨r, 0, none⟩) 2 [a, b] := by
  refine ⟨rfl, by simp, fun i x hx => ⟨_, rfl, ?_⟩⟩
  match i, hx with
  | 0, hx => cases hx; exact ⟨hc 0 _ rfl, hc 1 _ rfl⟩
  | 1, hx => cases hx; exact ⟨by rw [add_plain, add_plain]; exact hc 2 _ rfl, by rw [add_plain, add_plain]; exact hc 3 _ rfl⟩
  | i + 2, hx => simp at hx
def exT : TF := ⟨3, 2, 10, 20, 6, 5, [⟨0, 12, 0, [0, 1, 2], 0⟩, ⟨1, 15, 0, [1], 0⟩, ⟨2, 25, 0, [1], 0⟩, ⟨3, 22, 0, [2], 0⟩, ⟨4, 40, 0, [0], 30⟩, ⟨5, 44, 0, [0], 0⟩, ⟨0, 20, 1, [0, 1], 0⟩, ⟨1, 27, 1, [1], 0⟩, ⟨4, 50, 0, [1], 31⟩, ⟨6, 18, 0, [0], 3⟩]⟩
set_option maxRecDepth 10000 in
theorem c2048 {h : LH} : Gr Tryd.prog 48 #[] h fun r h' => ∃ f, r = treatyV f exT ∧ TreatyR h'.get f exT := by
  refine w2048 X0_ok ?_
  unfold n2048
  refine t_ints [0, 1, 2] (by decide) rfl (by decide) (by kernel_rfl) fun r0 h0 l0 s0 => ?_
  (repeat (first | (with_reducible first | apply gA | apply gB | apply gC | apply gD | apply gE | apply gF | apply gG | apply gH | apply gI | apply gJ | apply gK | apply gL | apply gM | apply gN | apply gO | apply gP | apply gQ | apply gR | apply gP2 | apply gP3) | ((with_reducible first | apply gT | apply gS2); first | exact rfl | assumption | omega | exact ⟨⟩) | ((with_reducible first | apply gL0 | apply gL1 | apply gL2 | apply gL3 | apply gL4); assumption)))
  refine t_ints [1] (by decide) rfl (by decide) (by kernel_rfl) fun r1 h1 l1 s1 => ?_
  (repeat (first | (with_reducible first | apply gA | apply gB | apply gC | apply gD | apply gE | apply gF | apply gG | apply gH | apply gI | apply gJ | apply gK | apply gL | apply gM | apply gN | apply gO | apply gP | apply gQ | apply gR | apply gP2 | apply gP3) | ((with_reducible first | apply gT | apply gS2); first | exact rfl | assumption | omega | exact ⟨⟩) | ((with_reducible first | apply gL0 | apply gL1 | apply gL2 | apply gL3 | apply gL4); assumption)))
  refine t_ints [1] (by decide) rfl (by decide) (by kernel_rfl) fun r2 h2 l2 s2 => ?_
  (repeat (first | (with_reducible first | apply gA | apply gB | apply gC | apply gD | apply gE | apply gF | apply gG | apply gH | apply gI | apply gJ | apply gK | apply gL | apply gM | apply gN | apply gO | apply gP | apply gQ | apply gR | apply gP2 | apply gP3) | ((with_reducible first | apply gT | apply gS2); first | exact rfl | assumption | omega | exact ⟨⟩) | ((with_reducible first | apply gL0 | apply gL1 | apply gL2 | apply gL3 | apply gL4); assumption)))
  refine t_ints [2] (by decide) rfl (by decide) (by kernel_rfl) fun r3 h3 l3 s3 => ?_
  (repeat (first | (with_reducible first | apply gA | apply gB | apply gC | apply gD | apply gE | apply gF | apply gG | apply gH | apply gI | apply gJ | apply gK | apply gL | apply gM | apply gN | apply gO | apply gP | apply gQ | apply gR | apply gP2 | apply gP3) | ((with_reducible first | apply gT | apply gS2); first | exact rfl | assumption | omega | exact ⟨⟩) | ((with_reducible first | apply gL0 | apply gL1 | apply gL2 | apply gL3 | apply gL4); assumption)))
  refine t_ints [0] (by decide) rfl (by decide) (by kernel_rfl) fun r4 h4 l4 s4 => ?_
  (repeat (first | (with_reducible first | apply gA | apply gB | apply gC | apply gD | apply gE | apply gF | apply gG | apply gH | apply gI | apply gJ | apply gK | apply gL | apply gM | apply gN | apply gO | apply gP | apply gQ | apply gR | apply gP2 | apply gP3) | ((with_reducible first | apply gT | apply gS2); first | exact rfl | assumption | omega | exact ⟨⟩) | ((with_reducible first | apply gL0 | apply gL1 | apply gL2 | apply gL3 | apply gL4); assumption)))
  refine t_ints [0] (by decide) rfl (by decide) (by kernel_rfl) fun r5 h5 l5 s5 => ?_
  (repeat (first | (with_reducible first | apply gA | apply gB | apply gC | apply gD | apply gE | apply gF | apply gG | apply gH | apply gI | apply gJ | apply gK | apply gL | apply gM | apply gN | apply gO | apply gP | apply gQ | apply gR | apply gP2 | apply gP3) | ((with_reducible first | apply gT | apply gS2); first | exact rfl | assumption | omega | exact ⟨⟩) | ((with_reducible first | apply gL0 | apply gL1 | apply gL2 | apply gL3 | apply gL4); assumption)))
  refine t_ints [0, 1] (by decide) rfl (by decide) (by kernel_rfl) fun r6 h6 l6 s6 => ?_
  (repeat (first | (with_reducible first | apply gA | apply gB | apply gC | apply gD | apply gE | apply gF | apply gG | apply gH | apply gI | apply gJ | apply gK | apply gL | apply gM | apply gN | apply gO | apply gP | apply gQ | apply gR | apply gP2 | apply gP3) | ((with_reducible first | apply gT | apply gS2); first | exact rfl | assumption | omega | exact ⟨⟩) | ((with_reducible first | apply gL0 | apply gL1 | apply gL2 | apply gL3 | apply gL4); assumption)))
  refine t_ints [1] (by decide) rfl (by decide) (by kernel_rfl) fun r7 h7 l7 s7 => ?_
  (repeat (first | (with_reducible first | apply gA | apply gB | apply gC | apply gD | apply gE | apply gF | apply gG | apply gH | apply gI | apply gJ | apply gK | apply gL | apply gM | apply gN | apply gO | apply gP | apply gQ | apply gR | apply gP2 | apply gP3) | ((with_reducible first | apply gT | apply gS2); first | exact rfl | assumption | omega | exact ⟨⟩) | ((with_reducible first | apply gL0 | apply gL1 | apply gL2 | apply gL3 | apply gL4); assumption)))
  refine t_ints [1] (by decide) rfl (by decide) (by kernel_rfl) fun r8 h8 l8 s8 => ?_
  (repeat (first | (with_reducible first | apply gA | apply gB | apply gC | apply gD | apply gE | apply gF | apply gG | apply gH | apply gI | apply gJ | apply gK | apply gL | apply gM | apply gN | apply gO | apply gP | apply gQ | apply gR | apply gP2 | apply gP3) | ((with_reducible first | apply gT | apply gS2); first | exact rfl | assumption | omega | exact ⟨⟩) | ((with_reducible first | apply gL0 | apply gL1 | apply gL2 | apply gL3 | apply gL4); assumption)))
  refine t_ints [0] (by decide) rfl (by decide) (by kernel_rfl) fun r9 h9 l9 s9 => ?_
  (repeat (first | (with_reducible first | apply gA | apply gB | apply gC | apply gD | apply gE | apply gF | apply gG | apply gH | apply gI | apply gJ | apply gK | apply gL | apply gM | apply gN | apply gO | apply gP | apply gQ | apply gR | apply gP2 | apply gP3) | ((with_reducible first | apply gT | apply gS2); first | exact rfl | assumption | omega | exact ⟨⟩) | ((with_reducible first | apply gL0 | apply gL1 | apply gL2 | apply gL3 | apply gL4); assumption)))
  have s0 := s0.le IntE.grow (LH.le_trans l1 (LH.le_trans l2 (LH.le_trans l3 (LH.le_trans l4 (LH.le_trans l5 (LH.le_trans l6 (LH.le_trans l7 (LH.le_trans l8 (l9))))))))).1
  have s1 := s1.le IntE.grow (LH.le_trans l2 (LH.le_trans l3 (LH.le_trans l4 (LH.le_trans l5 (LH.le_trans l6 (LH.le_trans l7 (LH.le_trans l8 (l9)))))))).1
  have s2 := s2.le IntE.grow (LH.le_trans l3 (LH.le_trans l4 (LH.le_trans l5 (LH.le_trans l6 (LH.le_trans l7 (LH.le_trans l8 (l9))))))).1
  have s3 := s3.le IntE.grow (LH.le_trans l4 (LH.le_trans l5 (LH.le_trans l6 (LH.le_trans l7 (LH.le_trans l8 (l9)))))).1
  have s4 := s4.le IntE.grow (LH.le_trans l5 (LH.le_trans l6 (LH.le_trans l7 (LH.le_trans l8 (l9))))).1
  have s5 := s5.le IntE.grow (LH.le_trans l6 (LH.le_trans l7 (LH.le_trans l8 (l9)))).1
  have s6 := s6.le IntE.grow (LH.le_trans l7 (LH.le_trans l8 (l9))).1
  have s7 := s7.le IntE.grow (LH.le_trans l8 (l9)).1
  have s8 := s8.le IntE.grow (l9).1
  have l09 : h.le h9 := LH.le_trans l0 (LH.le_trans l1 (LH.le_trans l2 (LH.le_trans l3 (LH.le_trans l4 (LH.le_trans l5 (LH.le_trans l6 (LH.le_trans l7 (LH.le_trans l8 (l9)))))))))
  refine t_build undEvs infEv (by decide) (by decide) (cells := #[.int .i64 0, .int .i64 12, .int .i64 0, .slice (some ⟨r0, 0, none⟩) 3 3, .int .i64 0, .int .i64 1, .int .i64 15, .int .i64 0, .slice (some ⟨r1, 0, none⟩) 1 1, .int .i64 0, .int .i64 2, .int .i64 25, .int .i64 0, .slice (some ⟨r2, 0, none⟩) 1 1, .int .i64 0, .int .i64 3, .int .i64 22, .int .i64 0, .slice (some ⟨r3, 0, none⟩) 1 1, .int .i64 0, .int .i64 4, .int .i64 40, .int .i64 0, .slice (some ⟨r4, 0, none⟩) 1 1, .int .i64 30, .int .i64 5, .int .i64 44, .int .i64 0, .slice (some ⟨r5, 0, none⟩) 1 1, .int .i64 0, .int .i64 0, .int .i64 20, .int .i64 1, .slice (some ⟨r6, 0, none⟩) 2 2, .int .i64 0, .int .i64 1, .int .i64 27, .int .i64 1, .slice (some ⟨r7, 0, none⟩) 1 1, .int .i64 0, .int .i64 4, .int .i64 50, .int .i64 0, .slice (some ⟨r8, 0, none⟩) 1 1, .int .i64 31, .int .i64 6, .int .i64 18, .int .i64 0, .slice (some ⟨r9, 0, none⟩) 1 1, .int .i64 3]) (by kernel_rfl) fun r hr => ?_
  have la := LH.upd_le (x := (true, .cells #[.int .i64 0, .int .i64 12, .int .i64 0, .slice (some ⟨r0, 0, none⟩) 3 3, .int .i64 0, .int .i64 1, .int .i64 15, .int .i64 0, .slice (some ⟨r1, 0, none⟩) 1 1, .int .i64 0, .int .i64 2, .int .i64 25, .int .i64 0, .slice (some ⟨r2, 0, none⟩) 1 1, .int .i64 0, .int .i64 3, .int .i64 22, .int .i64 0, .slice (some ⟨r3, 0, none⟩) 1 1, .int .i64 0, .int .i64 4, .int .i64 40, .int .i64 0, .slice (some ⟨r4, 0, none⟩) 1 1, .int .i64 30, .int .i64 5, .int .i64 44, .int .i64 0, .slice (some ⟨r5, 0, none⟩) 1 1, .int .i64 0, .int .i64 0, .int .i64 20, .int .i64 1, .slice (some ⟨r6, 0, none⟩) 2 2, .int .i64 0, .int .i64 1, .int .i64 27, .int .i64 1, .slice (some ⟨r7, 0, none⟩) 1 1, .int .i64 0, .int .i64 4, .int .i64 50, .int .i64 0, .slice (some ⟨r8, 0, none⟩) 1 1, .int .i64 31, .int .i64 6, .int .i64 18, .int .i64 0, .slice (some ⟨r9, 0, none⟩) 1 1, .int .i64 3] 50 (0, 0))) hr
  have rows : Go.TM.Rows (EventEnc h9.get) [.int .i64 0, .int .i64 12, .int .i64 0, .slice (some ⟨r0, 0, none⟩) 3 3, .int .i64 0, .int .i64 1, .int .i64 15, .int .i64 0, .slice (some ⟨r1, 0, none⟩) 1 1, .int .i64 0, .int .i64 2, .int .i64 25, .int .i64 0, .slice (some ⟨r2, 0, none⟩) 1 1, .int .i64 0, .int .i64 3, .int .i64 22, .int .i64 0, .slice (some ⟨r3, 0, none⟩) 1 1, .int .i64 0, .int .i64 4, .int .i64 40, .int .i64 0, .slice (some ⟨r4, 0, none⟩) 1 1, .int .i64 30, .int .i64 5, .int .i64 44, .int .i64 0, .slice (some ⟨r5, 0, none⟩) 1 1, .int .i64 0, .int .i64 0, .int .i64 20, .int .i64 1, .slice (some ⟨r6, 0, none⟩) 2 2, .int .i64 0, .int .i64 1, .int .i64 27, .int .i64 1, .slice (some ⟨r7, 0, none⟩) 1 1, .int .i64 0, .int .i64 4, .int .i64 50, .int .i64 0, .slice (some ⟨r8, 0, none⟩) 1 1, .int .i64 31, .int .i64 6, .int .i64 18, .int .i64 0, .slice (some ⟨r9, 0, none⟩) 1 1, .int .i64 3] exT.events := Go.TM.Rows.snoc (x := (⟨6, 18, 0, [0], 3⟩ : Ev)) (ws := [.int .i64 6, .int .i64 18, .int .i64 0, .slice (some ⟨r9, 0, none⟩) 1 1, .int .i64 3]) (Go.TM.Rows.snoc (x := (⟨4, 50, 0, [1], 31⟩ : Ev)) (ws := [.int .i64 4, .int .i64 50, .int .i64 0, .slice (some ⟨r8, 0, none⟩) 1 1, .int .i64 31]) (Go.TM.Rows.snoc (x := (⟨1, 27, 1, [1], 0⟩ : Ev)) (ws := [.int .i64 1, .int .i64 27, .int .i64 1, .slice (some ⟨r7, 0, none⟩) 1 1, .int .i64 0]) (Go.TM.Rows.snoc (x := (⟨0, 20, 1, [0, 1], 0⟩ : Ev)) (ws := [.int .i64 0, .int .i64 20, .int .i64 1, .slice (some ⟨r6, 0, none⟩) 2 2, .int .i64 0]) (Go.TM.Rows.snoc (x := (⟨5, 44, 0, [0], 0⟩ : Ev)) (ws := [.int .i64 5, .int .i64 44, .int .i64 0, .slice (some ⟨r5, 0, none⟩) 1 1, .int .i64 0]) (Go.TM.Rows.snoc (x := (⟨4, 40, 0, [0], 30⟩ : Ev)) (ws := [.int .i64 4, .int .i64 40, .int .i64 0, .slice (some ⟨r4, 0, none⟩) 1 1, .int .i64 30]) (Go.TM.Rows.snoc (x := (⟨3, 22, 0, [2], 0⟩ : Ev)) (ws := [.int .i64 3, .int .i64 22, .int .i64 0, .slice (some ⟨r3, 0, none⟩) 1 1, .int .i64 0]) (Go.TM.Rows.snoc (x := (⟨2, 25, 0, [1], 0⟩ : Ev)) (ws := [.int .i64 2, .int .i64 25, .int .i64 0, .slice (some ⟨r2, 0, none⟩) 1 1, .int .i64 0]) (Go.TM.Rows.snoc (x := (⟨1, 15, 0, [1], 0⟩ : Ev)) (ws := [.int .i64 1, .int .i64 15, .int .i64 0, .slice (some ⟨r1, 0, none⟩) 1 1, .int .i64 0]) (Go.TM.Rows.snoc (x := (⟨0, 12, 0, [0, 1, 2], 0⟩ : Ev)) (ws := [.int .i64 0, .int .i64 12, .int .i64 0, .slice (some ⟨r0, 0, none⟩) 3 3, .int .i64 0]) (.nil) ⟨_, _, _, rfl, Nat.le_refl _, s0⟩) ⟨_, _, _, rfl, Nat.le_refl _, s1⟩) ⟨_, _, _, rfl, Nat.le_refl _, s2⟩) ⟨_, _, _, rfl, Nat.le_refl _, s3⟩) ⟨_, _, _, rfl, Nat.le_refl _, s4⟩) ⟨_, _, _, rfl, Nat.le_refl _, s5⟩) ⟨_, _, _, rfl, Nat.le_refl _, s6⟩) ⟨_, _, _, rfl, Nat.le_refl _, s7⟩) ⟨_, _, _, rfl, Nat.le_refl _, s8⟩) ⟨_, _, _, rfl, Nat.le_refl _, s9⟩
  (repeat (first | (with_reducible first | apply gA | apply gB | apply gC | apply gD | apply gE | apply gF | apply gG | apply gH | apply gI | apply gJ | apply gK | apply gL | apply gM | apply gN | apply gO | apply gP | apply gQ | apply gR | apply gP2 | apply gP3) | ((with_reducible first | apply gT | apply gS2); first | exact rfl | assumption | omega | exact ⟨⟩) | ((with_reducible first | apply gL0 | apply gL1 | apply gL2 | apply gL3 | apply gL4); assumption)))
  refine t_ret ⟨LH.le_trans l09 la, ⟨some ⟨r, 0, none⟩, 10, 10⟩, rfl, Nat.le_refl _, ?_⟩
  refine rows.sl EventEnc.len (by omega) (EventEnc.e (Rd.of_le la.1)) (el := 50) ⟨rfl, .inr ⟨r, _, rfl, Cells.upd_self _ _ _, rfl, Nat.le_refl _, fun j v hv => by simpa using hv⟩⟩ (by decide)
end Go.Proofs.YtbmfimaomcnkfaaDoor
end
section
namespace Go.Proofs.YtbmfimaomcnkfaaDoor
open Go Go.TM Go.Proofs Go.TM.Tr
attribute [local irreducible] T.wp CV FWK
def datesA (x : TF) (k d : Int) : List Int := if askedDayT x k d = 0 then datesT x k d else []
def protA (x : TF) (k d : Int) : List Bool := if askedDayT x k d = 0 then protT x k d else []
def turnsA (x : TF) (k d : Int) : List Int := if askedDayT x k d = 0 then turnsT x k d else []
def SpansA (x : TF) (k i : Int) (m : List Sp) : Prop := (askedItemT x k i ≠ 0 ∧ m = []) ∨ (askedItemT x k i = 0 ∧ ∃ l, IsDays x l ∧ m = spansT x k i l)
def needA (x : TF) (k i d : Int) : List Int := if askedAllT x k i d = 0 ∧ 0 ≤ dateOn x k i d then needT x k i d else []
def heldA (x : TF) (k i d : Int) : Bool := decide (askedAllT x k i d = 0 ∧ 0 ≤ dateOn x k i d)
theorem SpansA.one {x : TF} {k i : Int} {m m' : List Sp} (h : SpansA x k i m) (h' : SpansA x k i m') : m = m' := by
  rcases h with ⟨h1, rfl⟩ | ⟨h1, l, h2, rfl⟩ <;> rcases h' with ⟨h3, rfl⟩ | ⟨h3, l', h4, rfl⟩
  · rfl
  · exact absurd h3 h1
  · exact absurd h1 h3
  · rw [h2.one h4]
theorem ProtR.form {h : Cells} {x : TF} {k d : Int} {r : Value} (hr : ProtR h x k d r) : ∃ p n c, r = .tuple #[.slice p n c, .int .i64 (askedDayT x k d)] ∧ Sl BoolE 1 h p n (protA x k d) ∧ n ≤ c := hr
theorem DatesR.form {h : Cells} {x : TF} {k d : Int} {r : Value} (hr : DatesR h x k d r) : ∃ p n c, r = .tuple #[.slice p n c, .int .i64 (askedDayT x k d)] ∧ Sl IntE 1 h p n (datesA x k d) ∧ n ≤ c := by
  rcases hr with ⟨h1, rfl⟩ | ⟨h1, p, n, c, rfl, s, hn⟩
  · exact ⟨none, 0, 0, rfl, by rw [datesA, if_neg h1]; exact Sl.nil, Nat.le_refl _⟩
  · exact ⟨p, n, c, by rw [h1], by rw [datesA, if_pos h1]; exact s, hn⟩
theorem TurnsR.form {h : Cells} {x : TF} {k d : Int} {r : Value} (hr : TurnsR h x k d r) : ∃ p n c, r = .tuple #[.slice p n c, .int .i64 (askedDayT x k d)] ∧ Sl IntE 1 h p n (turnsA x k d) ∧ n ≤ c := by
  rcases hr with ⟨h1, rfl⟩ | ⟨h1, p, n, c, rfl, s, hn⟩
  · exact ⟨none, 0, 0, rfl, by rw [turnsA, if_neg h1]; exact Sl.nil, Nat.le_refl _⟩
  · exact ⟨p, n, c, by rw [h1], by rw [turnsA, if_pos h1]; exact s, hn⟩
theorem SpansR.form {h : Cells} {x : TF} {k i : Int} {r : Value} (hr : SpansR h x k i r) : ∃ p n c m, r = .tuple #[.slice p n c, .int .i64 (askedItemT x k i)] ∧ SpansA x k i m ∧ Sl SpE 2 h p n m ∧ n ≤ c := by
  rcases hr with ⟨h1, rfl⟩ | ⟨h1, p, n, c, l, rfl, hd, s, hn⟩
  · exact ⟨none, 0, 0, [], rfl, .inl ⟨h1, rfl⟩, Sl.nil, Nat.le_refl _⟩
  · exact ⟨p, n, c, _, by rw [h1], .inr ⟨h1, l, hd, rfl⟩, s, hn⟩
theorem NeedsR.form {h : Cells} {x : TF} {k i d : Int} {r : Value} (hr : NeedsR h x k i d r) : ∃ p n c, r = .tuple #[.slice p n c, .bool (heldA x k i d), .int .i64 (askedAllT x k i d)] ∧ Sl IntE 1 h p n (needA x k i d) ∧ n ≤ c := by
  rcases hr with ⟨h1, rfl⟩ | ⟨h1, h2, rfl⟩ | ⟨h1, h2, p, n, c, rfl, s, hn⟩
  · exact ⟨none, 0, 0, by rw [heldA, decide_eq_false (fun h => h1 h.1)], by rw [needA, if_neg (fun h => h1 h.1)]; exact Sl.nil, Nat.le_refl _⟩
  · exact ⟨none, 0, 0, by rw [heldA, decide_eq_false (fun h => h2 h.2), h1], by rw [needA, if_neg (fun h => h2 h.2)]; exact Sl.nil, Nat.le_refl _⟩
  · exact ⟨p, n, c, by rw [heldA, decide_eq_true ⟨h1, h2⟩, h1], by rw [needA, if_pos ⟨h1, h2⟩]; exact s, hn⟩
/-! ### The chapter's examples -/
def exDays : List Int := [0, 12, 15, 18, 20, 22, 25, 27, 40, 44, 50, 10000]
theorem ex_days : IsDays exT exDays := by
  refine ⟨by decide +kernel, fun v => ?_⟩
  simp only [exDays, exT, List.mem_cons, List.not_mem_nil, or_false, exists_eq_or_imp, false_and, exists_false, exists_eq_left]
  omega
theorem ex1 : askedDayT exT 0 15 = 0 ∧ protA exT 0 15 = [true, false, true] := by decide +kernel
theorem ex2 : askedDayT exT 1 40 = 0 ∧ protA exT 1 40 = [false, true, false] := by decide +kernel
theorem ex3 : askedDayT exT 0 18 = 0 ∧ datesA exT 0 18 = [3, -1, 12] := by decide +kernel
theorem ex4 : askedDayT exT 0 44 = 0 ∧ datesA exT 0 44 = [3, 12, -1] := by decide +kernel
theorem ex5 : askedItemT exT 0 0 = 0 ∧ spansT exT 0 0 exDays = [⟨12, 39⟩, ⟨44, 9999⟩] := by decide +kernel
theorem ex6 : askedItemT exT 0 1 = 0 ∧ spansT exT 0 1 exDays = [⟨12, 14⟩, ⟨25, 9999⟩] := by decide +kernel
theorem ex7 : askedDayT exT 1 45 = 0 ∧ turnsA exT 1 45 = [0] := by decide +kernel
theorem ex8 : askedDayT exT 1 46 = 0 ∧ turnsA exT 1 46 = [] := by decide +kernel
theorem ex9 : askedAllT exT 0 0 44 = 0 ∧ heldA exT 0 0 44 = true ∧ needA exT 0 0 44 = [0, 5] := by decide +kernel
theorem ex_spans {i : Int} (h0 : askedItemT exT 0 i = 0) {m : List Sp} (h : SpansA exT 0 i m) : m = spansT exT 0 i exDays := h.one (.inr ⟨h0, _, ex_days, rfl⟩)
set_option maxRecDepth 100000 in
theorem c2017 {h : LH} (hch : h.chans = []) (hpe : h.pend = []) (hk : Kinds h.get) : FW XT Tryd.prog 17 #[] h fun r h' => r = .bool true ∧ Rd h.get h'.get ∧ h'.chans = [] ∧ h'.pend = [] ∧ h'.todo = h.todo := by
  refine w2017 XT_ok ?_
  unfold n2017
  refine t_gr c2048 ?_
  rintro _ h0 le0 ⟨f, rfl, hx⟩
  have e : treatyV f exT = .agg #[.int .i64 3, .int .i64 2, .int .i64 10, .int .i64 20, .int .i64 6, .int .i64 5, .slice f.p f.n f.c] := rfl
  rw [e]
  (repeat (first | (with_reducible first | apply gA | apply gB | apply gC | apply gD | apply gE | apply gF | apply gG | apply gH | apply gI | apply gJ | apply gK | apply gL | apply gM | apply gN | apply gO | apply gP | apply gQ | apply gR | apply gP2 | apply gP3) | ((with_reducible first | apply gT | apply gS2); first | exact rfl | assumption | omega | exact ⟨⟩) | ((with_reducible first | apply gL0 | apply gL1 | apply gL2 | apply gL3 | apply gL4); assumption)))
  have hk0 := hk.le le0.1
  refine t_gr (c2018 hk0 hx 0 15) ?_
  intro r1 h1 le1 hr
  obtain ⟨p1, n1, k1, rfl, s1, _⟩ := hr.form
  rw [ex1.1]; rw [ex1.2] at s1
  (repeat (first | (with_reducible first | apply gA | apply gB | apply gC | apply gD | apply gE | apply gF | apply gG | apply gH | apply gI | apply gJ | apply gK | apply gL | apply gM | apply gN | apply gO | apply gP | apply gQ | apply gR | apply gP2 | apply gP3) | ((with_reducible first | apply gT | apply gS2); first | exact rfl | assumption | omega | exact ⟨⟩) | ((with_reducible first | apply gL0 | apply gL1 | apply gL2 | apply gL3 | apply gL4); assumption)))
  have hk1 := hk0.le le1.1
  have hx1 := hx.le le1.1
  refine t_gr (c2018 hk1 hx1 1 40) ?_
  intro r2 h2 le2 hr
  obtain ⟨p2, n2, k2, rfl, s2, _⟩ := hr.form
  rw [ex2.1]; rw [ex2.2] at s2
  (repeat (first | (with_reducible first | apply gA | apply gB | apply gC | apply gD | apply gE | apply gF | apply gG | apply gH | apply gI | apply gJ | apply gK | apply gL | apply gM | apply gN | apply gO | apply gP | apply gQ | apply gR | apply gP2 | apply gP3) | ((with_reducible first | apply gT | apply gS2); first | exact rfl | assumption | omega | exact ⟨⟩) | ((with_reducible first | apply gL0 | apply gL1 | apply gL2 | apply gL3 | apply gL4); assumption)))
  have hk2 := hk1.le le2.1
  have hx2 := hx1.le le2.1
  refine t_gr (c2026 hk2 hx2 0 18) ?_
  intro r3 h3 le3 hr
  obtain ⟨p3, n3, k3, rfl, s3, _⟩ := hr.form
  rw [ex3.1]; rw [ex3.2] at s3
  (repeat (first | (with_reducible first | apply gA | apply gB | apply gC | apply gD | apply gE | apply gF | apply gG | apply gH | apply gI | apply gJ | apply gK | apply gL | apply gM | apply gN | apply gO | apply gP | apply gQ | apply gR | apply gP2 | apply gP3) | ((with_reducible first | apply gT | apply gS2); first | exact rfl | assumption | omega | exact ⟨⟩) | ((with_reducible first | apply gL0 | apply gL1 | apply gL2 | apply gL3 | apply gL4); assumption)))
  have hk3 := hk2.le le3.1
  have hx3 := hx2.le le3.1
  refine t_gr (c2026 hk3 hx3 0 44) ?_
  intro r4 h4 le4 hr
  obtain ⟨p4, n4, k4, rfl, s4, _⟩ := hr.form
  rw [ex4.1]; rw [ex4.2] at s4
  (repeat (first | (with_reducible first | apply gA | apply gB | apply gC | apply gD | apply gE | apply gF | apply gG | apply gH | apply gI | apply gJ | apply gK | apply gL | apply gM | apply gN | apply gO | apply gP | apply gQ | apply gR | apply gP2 | apply gP3) | ((with_reducible first | apply gT | apply gS2); first | exact rfl | assumption | omega | exact ⟨⟩) | ((with_reducible first | apply gL0 | apply gL1 | apply gL2 | apply gL3 | apply gL4); assumption)))
  have hk4 := hk3.le le4.1
  have hx4 := hx3.le le4.1
  refine t_gr (c2023 hk4 hx4 0 0) ?_
  intro r5 h5 le5 hr
  obtain ⟨p5, n5, k5, m5, rfl, sp5, s5, _⟩ := hr.form
  obtain rfl := ex_spans ex5.1 sp5
  rw [ex5.1]; rw [ex5.2] at s5
  (repeat (first | (with_reducible first | apply gA | apply gB | apply gC | apply gD | apply gE | apply gF | apply gG | apply gH | apply gI | apply gJ | apply gK | apply gL | apply gM | apply gN | apply gO | apply gP | apply gQ | apply gR | apply gP2 | apply gP3) | ((with_reducible first | apply gT | apply gS2); first | exact rfl | assumption | omega | exact ⟨⟩) | ((with_reducible first | apply gL0 | apply gL1 | apply gL2 | apply gL3 | apply gL4); assumption)))
  have hk5 := hk4.le le5.1
  have hx5 := hx4.le le5.1
  refine t_gr (c2023 hk5 hx5 0 1) ?_
  intro r6 h6 le6 hr
  obtain ⟨p6, n6, k6, m6, rfl, sp6, s6, _⟩ := hr.form
  obtain rfl := ex_spans ex6.1 sp6
  rw [ex6.1]; rw [ex6.2] at s6
  (repeat (first | (with_reducible first | apply gA | apply gB | apply gC | apply gD | apply gE | apply gF | apply gG | apply gH | apply gI | apply gJ | apply gK | apply gL | apply gM | apply gN | apply gO | apply gP | apply gQ | apply gR | apply gP2 | apply gP3) | ((with_reducible first | apply gT | apply gS2); first | exact rfl | assumption | omega | exact ⟨⟩) | ((with_reducible first | apply gL0 | apply gL1 | apply gL2 | apply gL3 | apply gL4); assumption)))
  have hk6 := hk5.le le6.1
  have hx6 := hx5.le le6.1
  refine t_gr (c2029 hk6 hx6 1 45) ?_
  intro r7 h7 le7 hr
  obtain ⟨p7, n7, k7, rfl, s7, _⟩ := hr.form
  rw [ex7.1]; rw [ex7.2] at s7
  (repeat (first | (with_reducible first | apply gA | apply gB | apply gC | apply gD | apply gE | apply gF | apply gG | apply gH | apply gI | apply gJ | apply gK | apply gL | apply gM | apply gN | apply gO | apply gP | apply gQ | apply gR | apply gP2 | apply gP3) | ((with_reducible first | apply gT | apply gS2); first | exact rfl | assumption | omega | exact ⟨⟩) | ((with_reducible first | apply gL0 | apply gL1 | apply gL2 | apply gL3 | apply gL4); assumption)))
  have hk7 := hk6.le le7.1
  have hx7 := hx6.le le7.1
  refine t_gr (c2029 hk7 hx7 1 46) ?_
  intro r8 h8 le8 hr
  obtain ⟨p8, n8, k8, rfl, s8, _⟩ := hr.form
  rw [ex8.1]; rw [ex8.2] at s8
  (repeat (first | (with_reducible first | apply gA | apply gB | apply gC | apply gD | apply gE | apply gF | apply gG | apply gH | apply gI | apply gJ | apply gK | apply gL | apply gM | apply gN | apply gO | apply gP | apply gQ | apply gR | apply gP2 | apply gP3) | ((with_reducible first | apply gT | apply gS2); first | exact rfl | assumption | omega | exact ⟨⟩) | ((with_reducible first | apply gL0 | apply gL1 | apply gL2 | apply gL3 | apply gL4); assumption)))
  have hk8 := hk7.le le8.1
  have hx8 := hx7.le le8.1
  have le78 := le8
  have le68 := LH.le_trans le7 le78
  have le58 := LH.le_trans le6 le68
  have le48 := LH.le_trans le5 le58
  have le38 := LH.le_trans le4 le48
  have le28 := LH.le_trans le3 le38
  have le18 := LH.le_trans le2 le28
  have le08 := LH.le_trans le0 (LH.le_trans le1 le18)
  refine t_call (c2044 (by rw [le08.2.1, hch]) (by rw [le08.2.2.1, hpe]) hk8 hx8 0 0 44) ?_
  rintro r9 h9 ⟨rd9, hc9, hp9, ht9, hr⟩
  obtain ⟨p9, n9, k9, rfl, s9, _⟩ := hr.form
  rw [ex9.1, ex9.2.1]; rw [ex9.2.2] at s9
  (repeat (first | (with_reducible first | apply gA | apply gB | apply gC | apply gD | apply gE | apply gF | apply gG | apply gH | apply gI | apply gJ | apply gK | apply gL | apply gM | apply gN | apply gO | apply gP | apply gQ | apply gR | apply gP2 | apply gP3) | ((with_reducible first | apply gT | apply gS2); first | exact rfl | assumption | omega | exact ⟨⟩) | ((with_reducible first | apply gL0 | apply gL1 | apply gL2 | apply gL3 | apply gL4); assumption)))
  have s1 := (s1.le BoolE.grow le18.1).rd BoolE.grow rd9
  have s2 := (s2.le BoolE.grow le28.1).rd BoolE.grow rd9
  have s3 := (s3.le IntE.grow le38.1).rd IntE.grow rd9
  have s4 := (s4.le IntE.grow le48.1).rd IntE.grow rd9
  have s5 := (s5.le SpE.grow le58.1).rd SpE.grow rd9
  have s6 := (s6.le SpE.grow le68.1).rd SpE.grow rd9
  have s7 := (s7.le IntE.grow le78.1).rd IntE.grow rd9
  have s8 := s8.rd IntE.grow rd9
  have hn8 : n8 = 0 := s8.1
  subst hn8
  have rd09 := (Rd.of_le le08.1).trans rd9
  refine t_blk (fun vs h' => vs = [.bool false] ∧ h9 = h') ?_ ?_
  · refine t_cond (fun e => absurd e (by decide)) (fun _ => ?_)
    refine t_cond (fun e => absurd e (by decide)) (fun _ => ?_)
    refine t_cond (fun e => absurd e (by decide)) (fun _ => ?_)
    refine t_cond (fun e => absurd e (by decide)) (fun _ => ?_)
    refine t_cond (fun e => absurd e (by decide)) (fun _ => ?_)
    refine t_cond (fun e => absurd e (by decide)) (fun _ => ?_)
    refine t_cond (fun e => absurd e (by decide)) (fun _ => ?_)
    refine t_cond (fun e => absurd e (by decide)) (fun _ => ?_)
    refine t_cond (fun e => absurd e (by decide)) (fun _ => ?_)
    exact t_again ⟨rfl, rfl⟩
  rintro vs _ ⟨rfl, rfl⟩
  (repeat (first | (with_reducible first | apply gA | apply gB | apply gC | apply gD | apply gE | apply gF | apply gG | apply gH | apply gI | apply gJ | apply gK | apply gL | apply gM | apply gN | apply gO | apply gP | apply gQ | apply gR | apply gP2 | apply gP3) | ((with_reducible first | apply gT | apply gS2); first | exact rfl | assumption | omega | exact ⟨⟩) | ((with_reducible first | apply gL0 | apply gL1 | apply gL2 | apply gL3 | apply gL4); assumption)))
  refine t_blk (fun vs h' => vs = [.bool false] ∧ h9.le h') ?_ ?_
  · refine t_bools [true, false, true] (by decide) rfl (by decide) (by kernel_rfl) fun q1 g1 lg1 u1 => ?_
    (repeat (first | (with_reducible first | apply gA | apply gB | apply gC | apply gD | apply gE | apply gF | apply gG | apply gH | apply gI | apply gJ | apply gK | apply gL | apply gM | apply gN | apply gO | apply gP | apply gQ | apply gR | apply gP2 | apply gP3) | ((with_reducible first | apply gT | apply gS2); first | exact rfl | assumption | omega | exact ⟨⟩) | ((with_reducible first | apply gL0 | apply gL1 | apply gL2 | apply gL3 | apply gL4); assumption)))
    have e1 := c2020 (h := g1) (c := k1) (d := 3) (s1.le BoolE.grow lg1.1) u1
    rw [decide_eq_true rfl] at e1
    refine t_pu e1 ?_
    (repeat (first | (with_reducible first | apply gA | apply gB | apply gC | apply gD | apply gE | apply gF | apply gG | apply gH | apply gI | apply gJ | apply gK | apply gL | apply gM | apply gN | apply gO | apply gP | apply gQ | apply gR | apply gP2 | apply gP3) | ((with_reducible first | apply gT | apply gS2); first | exact rfl | assumption | omega | exact ⟨⟩) | ((with_reducible first | apply gL0 | apply gL1 | apply gL2 | apply gL3 | apply gL4); assumption)))
    refine t_cond (fun e => absurd e (by decide)) (fun _ => ?_)
    refine t_bools [false, true, false] (by decide) rfl (by decide) (by kernel_rfl) fun q2 g2 lg2 u2 => ?_
    (repeat (first | (with_reducible first | apply gA | apply gB | apply gC | apply gD | apply gE | apply gF | apply gG | apply gH | apply gI | apply gJ | apply gK | apply gL | apply gM | apply gN | apply gO | apply gP | apply gQ | apply gR | apply gP2 | apply gP3) | ((with_reducible first | apply gT | apply gS2); first | exact rfl | assumption | omega | exact ⟨⟩) | ((with_reducible first | apply gL0 | apply gL1 | apply gL2 | apply gL3 | apply gL4); assumption)))
    have lg := LH.le_trans lg1 lg2
    have e1 := c2020 (h := g2) (c := k2) (d := 3) (s2.le BoolE.grow lg.1) u2
    rw [decide_eq_true rfl] at e1
    refine t_pu e1 ?_
    (repeat (first | (with_reducible first | apply gA | apply gB | apply gC | apply gD | apply gE | apply gF | apply gG | apply gH | apply gI | apply gJ | apply gK | apply gL | apply gM | apply gN | apply gO | apply gP | apply gQ | apply gR | apply gP2 | apply gP3) | ((with_reducible first | apply gT | apply gS2); first | exact rfl | assumption | omega | exact ⟨⟩) | ((with_reducible first | apply gL0 | apply gL1 | apply gL2 | apply gL3 | apply gL4); assumption)))
    refine t_cond (fun e => absurd e (by decide)) (fun _ => ?_)
    refine t_ints [3, -1, 12] (by decide) rfl (by decide) (by kernel_rfl) fun q3 g3 lg3 u3 => ?_
    (repeat (first | (with_reducible first | apply gA | apply gB | apply gC | apply gD | apply gE | apply gF | apply gG | apply gH | apply gI | apply gJ | apply gK | apply gL | apply gM | apply gN | apply gO | apply gP | apply gQ | apply gR | apply gP2 | apply gP3) | ((with_reducible first | apply gT | apply gS2); first | exact rfl | assumption | omega | exact ⟨⟩) | ((with_reducible first | apply gL0 | apply gL1 | apply gL2 | apply gL3 | apply gL4); assumption)))
    have lg := LH.le_trans lg lg3
    have e1 := c35 (h := g3) (c := k3) (d := 3) (s3.le IntE.grow lg.1) u3
    rw [decide_eq_true rfl] at e1
    refine t_pu e1 ?_
    (repeat (first | (with_reducible first | apply gA | apply gB | apply gC | apply gD | apply gE | apply gF | apply gG | apply gH | apply gI | apply gJ | apply gK | apply gL | apply gM | apply gN | apply gO | apply gP | apply gQ | apply gR | apply gP2 | apply gP3) | ((with_reducible first | apply gT | apply gS2); first | exact rfl | assumption | omega | exact ⟨⟩) | ((with_reducible first | apply gL0 | apply gL1 | apply gL2 | apply gL3 | apply gL4); assumption)))
    refine t_cond (fun e => absurd e (by decide)) (fun _ => ?_)
    refine t_ints [3, 12, -1] (by decide) rfl (by decide) (by kernel_rfl) fun q4 g4 lg4 u4 => ?_
    (repeat (first | (with_reducible first | apply gA | apply gB | apply gC | apply gD | apply gE | apply gF | apply gG | apply gH | apply gI | apply gJ | apply gK | apply gL | apply gM | apply gN | apply gO | apply gP | apply gQ | apply gR | apply gP2 | apply gP3) | ((with_reducible first | apply gT | apply gS2); first | exact rfl | assumption | omega | exact ⟨⟩) | ((with_reducible first | apply gL0 | apply gL1 | apply gL2 | apply gL3 | apply gL4); assumption)))
    have lg := LH.le_trans lg lg4
    have e1 := c35 (h := g4) (c := k4) (d := 3) (s4.le IntE.grow lg.1) u4
    rw [decide_eq_true rfl] at e1
    refine t_pu e1 ?_
    (repeat (first | (with_reducible first | apply gA | apply gB | apply gC | apply gD | apply gE | apply gF | apply gG | apply gH | apply gI | apply gJ | apply gK | apply gL | apply gM | apply gN | apply gO | apply gP | apply gQ | apply gR | apply gP2 | apply gP3) | ((with_reducible first | apply gT | apply gS2); first | exact rfl | assumption | omega | exact ⟨⟩) | ((with_reducible first | apply gL0 | apply gL1 | apply gL2 | apply gL3 | apply gL4); assumption)))
    refine t_cond (fun e => absurd e (by decide)) (fun _ => ?_)
    refine t_cond (fun e => absurd e (by decide)) (fun _ => ?_)
    refine t_ints [0, 5] (by decide) rfl (by decide) (by kernel_rfl) fun q5 g5 lg5 u5 => ?_
    (repeat (first | (with_reducible first | apply gA | apply gB | apply gC | apply gD | apply gE | apply gF | apply gG | apply gH | apply gI | apply gJ | apply gK | apply gL | apply gM | apply gN | apply gO | apply gP | apply gQ | apply gR | apply gP2 | apply gP3) | ((with_reducible first | apply gT | apply gS2); first | exact rfl | assumption | omega | exact ⟨⟩) | ((with_reducible first | apply gL0 | apply gL1 | apply gL2 | apply gL3 | apply gL4); assumption)))
    have lg := LH.le_trans lg lg5
    have e1 := c35 (h := g5) (c := k9) (d := 2) (s9.le IntE.grow lg.1) u5
    rw [decide_eq_true rfl] at e1
    refine t_pu e1 ?_
    (repeat (first | (with_reducible first | apply gA | apply gB | apply gC | apply gD | apply gE | apply gF | apply gG | apply gH | apply gI | apply gJ | apply gK | apply gL | apply gM | apply gN | apply gO | apply gP | apply gQ | apply gR | apply gP2 | apply gP3) | ((with_reducible first | apply gT | apply gS2); first | exact rfl | assumption | omega | exact ⟨⟩) | ((with_reducible first | apply gL0 | apply gL1 | apply gL2 | apply gL3 | apply gL4); assumption)))
    refine t_cond (fun e => absurd e (by decide)) (fun _ => ?_)
    exact t_again ⟨rfl, lg⟩
  rintro vs g ⟨rfl, lg⟩
  (repeat (first | (with_reducible first | apply gA | apply gB | apply gC | apply gD | apply gE | apply gF | apply gG | apply gH | apply gI | apply gJ | apply gK | apply gL | apply gM | apply gN | apply gO | apply gP | apply gQ | apply gR | apply gP2 | apply gP3) | ((with_reducible first | apply gT | apply gS2); first | exact rfl | assumption | omega | exact ⟨⟩) | ((with_reducible first | apply gL0 | apply gL1 | apply gL2 | apply gL3 | apply gL4); assumption)))
  refine t_pu (c2049 _ _) ?_
  (repeat (first | (with_reducible first | apply gA | apply gB | apply gC | apply gD | apply gE | apply gF | apply gG | apply gH | apply gI | apply gJ | apply gK | apply gL | apply gM | apply gN | apply gO | apply gP | apply gQ | apply gR | apply gP2 | apply gP3) | ((with_reducible first | apply gT | apply gS2); first | exact rfl | assumption | omega | exact ⟨⟩) | ((with_reducible first | apply gL0 | apply gL1 | apply gL2 | apply gL3 | apply gL4); assumption)))
  refine t_pu (c2049 _ _) ?_
  (repeat (first | (with_reducible first | apply gA | apply gB | apply gC | apply gD | apply gE | apply gF | apply gG | apply gH | apply gI | apply gJ | apply gK | apply gL | apply gM | apply gN | apply gO | apply gP | apply gQ | apply gR | apply gP2 | apply gP3) | ((with_reducible first | apply gT | apply gS2); first | exact rfl | assumption | omega | exact ⟨⟩) | ((with_reducible first | apply gL0 | apply gL1 | apply gL2 | apply gL3 | apply gL4); assumption)))
  refine t_buildR [.int .i64 12, .int .i64 39, .int .i64 44, .int .i64 9999] und22 inf30 (by decide) (by decide) (by kernel_rfl) ?_
  intro q6 g6 lg6 _ u6
  (repeat (first | (with_reducible first | apply gA | apply gB | apply gC | apply gD | apply gE | apply gF | apply gG | apply gH | apply gI | apply gJ | apply gK | apply gL | apply gM | apply gN | apply gO | apply gP | apply gQ | apply gR | apply gP2 | apply gP3) | ((with_reducible first | apply gT | apply gS2); first | exact rfl | assumption | omega | exact ⟨⟩) | ((with_reducible first | apply gL0 | apply gL1 | apply gL2 | apply gL3 | apply gL4); assumption)))
  have lg := LH.le_trans lg lg6
  have e1 := c2025 (h := g6) (c := k5) (d := 2) (s5.le SpE.grow lg.1) (sp_two (a := ⟨12, 39⟩) (b := ⟨44, 9999⟩) u6)
  rw [decide_eq_true rfl] at e1
  refine t_pu e1 ?_
  (repeat (first | (with_reducible first | apply gA | apply gB | apply gC | apply gD | apply gE | apply gF | apply gG | apply gH | apply gI | apply gJ | apply gK | apply gL | apply gM | apply gN | apply gO | apply gP | apply gQ | apply gR | apply gP2 | apply gP3) | ((with_reducible first | apply gT | apply gS2); first | exact rfl | assumption | omega | exact ⟨⟩) | ((with_reducible first | apply gL0 | apply gL1 | apply gL2 | apply gL3 | apply gL4); assumption)))
  refine t_cond (fun _ => ?_) (fun e => by cases e)
  refine t_pu (c2049 _ _) ?_
  (repeat (first | (with_reducible first | apply gA | apply gB | apply gC | apply gD | apply gE | apply gF | apply gG | apply gH | apply gI | apply gJ | apply gK | apply gL | apply gM | apply gN | apply gO | apply gP | apply gQ | apply gR | apply gP2 | apply gP3) | ((with_reducible first | apply gT | apply gS2); first | exact rfl | assumption | omega | exact ⟨⟩) | ((with_reducible first | apply gL0 | apply gL1 | apply gL2 | apply gL3 | apply gL4); assumption)))
  refine t_pu (c2049 _ _) ?_
  (repeat (first | (with_reducible first | apply gA | apply gB | apply gC | apply gD | apply gE | apply gF | apply gG | apply gH | apply gI | apply gJ | apply gK | apply gL | apply gM | apply gN | apply gO | apply gP | apply gQ | apply gR | apply gP2 | apply gP3) | ((with_reducible first | apply gT | apply gS2); first | exact rfl | assumption | omega | exact ⟨⟩) | ((with_reducible first | apply gL0 | apply gL1 | apply gL2 | apply gL3 | apply gL4); assumption)))
  refine t_buildR [.int .i64 12, .int .i64 14, .int .i64 25, .int .i64 9999] und22 inf30 (by decide) (by decide) (by kernel_rfl) ?_
  intro q7 g7 lg7 _ u7
  (repeat (first | (with_reducible first | apply gA | apply gB | apply gC | apply gD | apply gE | apply gF | apply gG | apply gH | apply gI | apply gJ | apply gK | apply gL | apply gM | apply gN | apply gO | apply gP | apply gQ | apply gR | apply gP2 | apply gP3) | ((with_reducible first | apply gT | apply gS2); first | exact rfl | assumption | omega | exact ⟨⟩) | ((with_reducible first | apply gL0 | apply gL1 | apply gL2 | apply gL3 | apply gL4); assumption)))
  have lg := LH.le_trans lg lg7
  have e1 := c2025 (h := g7) (c := k6) (d := 2) (s6.le SpE.grow lg.1) (sp_two (a := ⟨12, 14⟩) (b := ⟨25, 9999⟩) u7)
  rw [decide_eq_true rfl] at e1
  refine t_pu e1 ?_
  (repeat (first | (with_reducible first | apply gA | apply gB | apply gC | apply gD | apply gE | apply gF | apply gG | apply gH | apply gI | apply gJ | apply gK | apply gL | apply gM | apply gN | apply gO | apply gP | apply gQ | apply gR | apply gP2 | apply gP3) | ((with_reducible first | apply gT | apply gS2); first | exact rfl | assumption | omega | exact ⟨⟩) | ((with_reducible first | apply gL0 | apply gL1 | apply gL2 | apply gL3 | apply gL4); assumption)))
  refine t_cond (fun _ => ?_) (fun e => by cases e)
  refine t_ints [0] (by decide) rfl (by decide) (by kernel_rfl) fun q8 g8 lg8 u8 => ?_
  (repeat (first | (with_reducible first | apply gA | apply gB | apply gC | apply gD | apply gE | apply gF | apply gG | apply gH | apply gI | apply gJ | apply gK | apply gL | apply gM | apply gN | apply gO | apply gP | apply gQ | apply gR | apply gP2 | apply gP3) | ((with_reducible first | apply gT | apply gS2); first | exact rfl | assumption | omega | exact ⟨⟩) | ((with_reducible first | apply gL0 | apply gL1 | apply gL2 | apply gL3 | apply gL4); assumption)))
  have lg := LH.le_trans lg lg8
  have e1 := c35 (h := g8) (c := k7) (d := 1) (s7.le IntE.grow lg.1) u8
  rw [decide_eq_true rfl] at e1
  refine t_pu e1 ?_
  (repeat (first | (with_reducible first | apply gA | apply gB | apply gC | apply gD | apply gE | apply gF | apply gG | apply gH | apply gI | apply gJ | apply gK | apply gL | apply gM | apply gN | apply gO | apply gP | apply gQ | apply gR | apply gP2 | apply gP3) | ((with_reducible first | apply gT | apply gS2); first | exact rfl | assumption | omega | exact ⟨⟩) | ((with_reducible first | apply gL0 | apply gL1 | apply gL2 | apply gL3 | apply gL4); assumption)))
  refine t_cond (fun _ => ?_) (fun e => by cases e)
  exact t_ret ⟨rfl, rd09.trans (Rd.of_le lg.1), lg.2.1.trans hc9, lg.2.2.1.trans hp9, by rw [lg.2.2.2, ht9, le08.2.2.2]⟩
def Fin (h : LH) : Value → LH → Prop := fun r h' => r = .bool true ∧ h'.chans = [] ∧ h'.pend = [] ∧ h'.todo = h.todo
structure Idle (h h' : LH) : Prop where
  rd : Rd h.get h'.get
  chans : h'.chans = []
  pend : h'.pend = []
  todo : h'.todo = h.todo
theorem Idle.of {h h' : LH} (hch : h.chans = []) (hpe : h.pend = []) (hle : h.le h') : Idle h h' := ⟨Rd.of_le hle.1, by rw [hle.2.1, hch], by rw [hle.2.2.1, hpe], hle.2.2.2⟩
theorem t_shown {h h' : LH} {k : Bool → T} {Q : Leaf → LH → Prop} (hk : Kinds h.get) (i : Idle h h') (hq : ∀ h'', Idle h h'' → (k true).wp XT Tryd.prog Q h'') :
    (T.call false 17 #[] fun v => T.unB v k).wp XT Tryd.prog Q h' := by
  refine t_call (c2017 i.chans i.pend (hk.rd i.rd)) ?_
  rintro _ h'' ⟨rfl, rd, h2, h3, h4⟩
  exact gC (hq h'' ⟨i.rd.trans rd, h2, h3, h4.trans i.todo⟩)
theorem Idle.fin {h h' : LH} (i : Idle h h') : Fin h (.bool true) h' := ⟨rfl, i.chans, i.pend, i.todo⟩
end Go.Proofs.YtbmfimaomcnkfaaDoor
end
section
namespace Go.Proofs.YtbmfimaomcnkfaaDoor
open Go Go.TM Go.Proofs
set_option linter.unusedVariables false
set_option maxRecDepth 100000
noncomputable def n2003 (x_0 : Int) (x_1 : Int) (x_2 : Int) (x_3 : Int) (x_4 : Int) (x_5 : Int) (x_6p : Option Addr) (x_6n x_6c : Nat) (land : Int) (item : Int) (day : Int) : T := .call false 16 #[.agg #[.int .i64 x_0, .int .i64 x_1, .int .i64 x_2, .int .i64 x_3, .int .i64 x_4, .int .i64 x_5, .slice x_6p x_6n x_6c]] fun v => .unB v fun b => bif b then .call false 17 #[] fun v => .unB v fun b => .leaf (.ret (.bool b)) else .call false 18 #[.agg #[.int .i64 x_0, .int .i64 x_1, .int .i64 x_2, .int .i64 x_3, .int .i64 x_4, .int .i64 x_5, .slice x_6p x_6n x_6c], .int .i64 land, .int .i64 day] fun v => .unTup v fun l => .unCons l fun v vs => .unS v fun a n c => .unCons vs fun v vs => .unI .i64 v fun n_1 => .unNil vs (.call false 19 #[.agg #[.int .i64 x_0, .int .i64 x_1, .int .i64 x_2, .int .i64 x_3, .int .i64 x_4, .int .i64 x_5, .slice x_6p x_6n x_6c], .int .i64 land, .int .i64 day] fun v => .unTup v fun l => .unCons l fun v vs => .unS v fun a_1 n_2 c_1 => .unCons vs fun v vs => .unI .i64 v fun n_3 => .unNil vs (.blk (.call false 20 #[.slice a n c, .slice a_1 n_2 c_1] fun v => .unB v fun b => bif !b then .nd (.bool !b) (.nd (.tuple #[]) (.nd (.bool true) (.nd (.bool !b) (.nd (.bool true) (.nd (.bool !b) (.nd (.bool true) (.nd (.bool !b) (.leaf (.retn [.bool false]))))))))) else bif n_1 != n_3 then .nd (.tuple #[]) (.nd (.bool (n_1 != n_3)) (.nd (.bool (n_1 != n_3)) (.nd (.int .i64 n_3) (.nd (.int .i64 n_1) (.need (AV.val (.bool !b) = AV.val (.bool false)) (.nd (.bool !b) (.nd (.bool (n_1 != n_3)) (.nd (.bool (n_1 != n_3)) (.nd (.int .i64 n_3) (.nd (.int .i64 n_1) (.need (AV.val (.bool !b) = AV.val (.bool false)) (.nd (.bool !b) (.nd (.bool (n_1 != n_3)) (.nd (.bool (n_1 != n_3)) (.nd (.int .i64 n_3) (.nd (.int .i64 n_1) (.need (AV.val (.bool !b) = AV.val (.bool false)) (.nd (.bool !b) (.leaf (.retn [.bool false])))))))))))))))))))) else .call false 21 #[.agg #[.int .i64 x_0, .int .i64 x_1, .int .i64 x_2, .int .i64 x_3, .int .i64 x_4, .int .i64 x_5, .slice x_6p x_6n x_6c]] fun v => .unI .i64 v fun n => .nd (.agg #[.int .i64 x_0, .int .i64 x_1, .int .i64 x_2, .int .i64 x_3, .int .i64 x_4, .int .i64 x_5, .slice x_6p x_6n x_6c]) (.nd (.bool (n_1 != n_3)) (.nd (.bool (n_1 != n_3)) (.nd (.int .i64 n_3) (.nd (.int .i64 n_1) (.need (AV.val (.bool !b) = AV.val (.bool false)) (.nd (.bool !b) (.call false 22 #[.agg #[.int .i64 x_0, .int .i64 x_1, .int .i64 x_2, .int .i64 x_3, .int .i64 x_4, .int .i64 x_5, .slice x_6p x_6n x_6c]] fun v => .unI .i64 v fun n_4 => .nd (.bool (n_1 != n_3)) (.nd (.bool (n_1 != n_3)) (.nd (.int .i64 n_3) (.nd (.int .i64 n_1) (.need (AV.val (.bool !b) = AV.val (.bool false)) (.nd (.bool !b) (bif n != n_4 then .leaf (.retn [.bool false]) else .leaf (.again [.bool false]))))))))))))))) (fun vs => .popB vs fun b vs => .unNil vs (.call false 23 #[.agg #[.int .i64 x_0, .int .i64 x_1, .int .i64 x_2, .int .i64 x_3, .int .i64 x_4, .int .i64 x_5, .slice x_6p x_6n x_6c], .int .i64 land, .int .i64 item] fun v => .unTup v fun l => .unCons l fun v vs => .unS v fun a n c => .unCons vs fun v vs => .unI .i64 v fun n_4 => .unNil vs (.call false 24 #[.agg #[.int .i64 x_0, .int .i64 x_1, .int .i64 x_2, .int .i64 x_3, .int .i64 x_4, .int .i64 x_5, .slice x_6p x_6n x_6c], .int .i64 land, .int .i64 item] fun v => .unTup v fun l => .unCons l fun v vs => .unS v fun a_2 n_5 c_2 => .unCons vs fun v vs => .unI .i64 v fun n_6 => .unNil vs (.call false 25 #[.slice a n c, .slice a_2 n_5 c_2] fun v => .unB v fun b => bif b then bif n_4 == n_6 then .call false 17 #[] fun v => .unB v fun b => .leaf (.ret (.bool b)) else .leaf (.ret (.bool false)) else .leaf (.ret (.bool false)))))) (fun vs => .popB vs fun b vs => .unNil vs (.leaf (.ret (.bool b)))) fun x x_6 => .fail))
theorem t2003 (x_0 : Int) (x_1 : Int) (x_2 : Int) (x_3 : Int) (x_4 : Int) (x_5 : Int) (x_6p : Option Addr) (x_6n x_6c : Nat) (land : Int) (item : Int) (day : Int) : ftree ({ P := Tryd.prog, priv := [4], loops := [], joins := [{ id := 7, slots := [(8, .bool)], ro := [4], outs := [] }] }) Tryd.f3 [.agg #[.int .i64 x_0, .int .i64 x_1, .int .i64 x_2, .int .i64 x_3, .int .i64 x_4, .int .i64 x_5, .slice x_6p x_6n x_6c], .int .i64 land, .int .i64 item, .int .i64 day] = n2003 x_0 x_1 x_2 x_3 x_4 x_5 x_6p x_6n x_6c land item day := by kernel_rfl
theorem w2003 (x_0 : Int) (x_1 : Int) (x_2 : Int) (x_3 : Int) (x_4 : Int) (x_5 : Int) (x_6p : Option Addr) (x_6n x_6c : Nat) (land : Int) (item : Int) (day : Int) {X : XP} (hX : XOK X) {h : LH} {A : Value → LH → Prop} (hw : (n2003 x_0 x_1 x_2 x_3 x_4 x_5 x_6p x_6n x_6c land item day).wp X Tryd.prog (retQ A) h) : FWK X Tryd.prog .normal 3 #[.agg #[.int .i64 x_0, .int .i64 x_1, .int .i64 x_2, .int .i64 x_3, .int .i64 x_4, .int .i64 x_5, .slice x_6p x_6n x_6c], .int .i64 land, .int .i64 item, .int .i64 day] h A := fwk_neat (t2003 x_0 x_1 x_2 x_3 x_4 x_5 x_6p x_6n x_6c land item day) (by simp) (by kernel_rfl) (by kernel_rfl) hX hw
end Go.Proofs.YtbmfimaomcnkfaaDoor
end
section
namespace Go.Proofs.YtbmfimaomcnkfaaDoor
open Go Go.TM Go.Proofs Go.TM.Tr
attribute [local irreducible] T.wp CV FWK
theorem c2003 {h : LH} (hch : h.chans = []) (hpe : h.pend = []) (hk : Kinds h.get) {f : TC} {x : TF} (hx : TreatyR h.get f x) (k i d : Int) : FW XT Tryd.prog 3 #[treatyV f x, .int .i64 k, .int .i64 i, .int .i64 d] h (Fin h) := by
  refine w2003 _ _ _ _ _ _ _ _ _ _ _ _ XT_ok ?_
  unfold n2003
  refine t_pu (c2016 hx) ?_
  (repeat (first | (with_reducible first | apply gA | apply gB | apply gC | apply gD | apply gE | apply gF | apply gG | apply gH | apply gI | apply gJ | apply gK | apply gL | apply gM | apply gN | apply gO | apply gP | apply gQ | apply gR | apply gP2 | apply gP3) | ((with_reducible first | apply gT | apply gS2); first | exact rfl | assumption | omega | exact ⟨⟩) | ((with_reducible first | apply gL0 | apply gL1 | apply gL2 | apply gL3 | apply gL4); assumption)))
  refine t_cond (fun _ => ?_) (fun _ => ?_)
  · exact t_shown hk (.of hch hpe (LH.le_refl _)) fun h' hh => t_ret hh.fin
  refine t_gr (c2018 hk hx k d) ?_
  intro r1 h1 le1 hr
  obtain ⟨p1, n1, k1, rfl, s1, _⟩ := hr.form
  (repeat (first | (with_reducible first | apply gA | apply gB | apply gC | apply gD | apply gE | apply gF | apply gG | apply gH | apply gI | apply gJ | apply gK | apply gL | apply gM | apply gN | apply gO | apply gP | apply gQ | apply gR | apply gP2 | apply gP3) | ((with_reducible first | apply gT | apply gS2); first | exact rfl | assumption | omega | exact ⟨⟩) | ((with_reducible first | apply gL0 | apply gL1 | apply gL2 | apply gL3 | apply gL4); assumption)))
  have hx1 := hx.le le1.1
  refine t_gr (c2019 hx1 k d) ?_
  intro r2 h2 le2 hr
  obtain ⟨p2, n2, k2, rfl, s2, _⟩ := hr.form
  (repeat (first | (with_reducible first | apply gA | apply gB | apply gC | apply gD | apply gE | apply gF | apply gG | apply gH | apply gI | apply gJ | apply gK | apply gL | apply gM | apply gN | apply gO | apply gP | apply gQ | apply gR | apply gP2 | apply gP3) | ((with_reducible first | apply gT | apply gS2); first | exact rfl | assumption | omega | exact ⟨⟩) | ((with_reducible first | apply gL0 | apply gL1 | apply gL2 | apply gL3 | apply gL4); assumption)))
  have le02 := LH.le_trans le1 le2
  have s1 := s1.le BoolE.grow le2.1
  have hx2 := hx1.le le2.1
  refine t_blk (fun vs h' => vs = [.bool false] ∧ h2 = h') ?_ ?_
  · have e1 := c2020 (h := h2) (c := k1) (d := k2) s1 s2
    rw [decide_eq_true rfl] at e1
    refine t_pu e1 ?_
    (repeat (first | (with_reducible first | apply gA | apply gB | apply gC | apply gD | apply gE | apply gF | apply gG | apply gH | apply gI | apply gJ | apply gK | apply gL | apply gM | apply gN | apply gO | apply gP | apply gQ | apply gR | apply gP2 | apply gP3) | ((with_reducible first | apply gT | apply gS2); first | exact rfl | assumption | omega | exact ⟨⟩) | ((with_reducible first | apply gL0 | apply gL1 | apply gL2 | apply gL3 | apply gL4); assumption)))
    refine t_cond (fun e => absurd e (by simp)) (fun _ => ?_)
    refine t_cond (fun e => absurd e (by simp)) (fun _ => ?_)
    refine t_pu (c2021 (hk.le le02.1) hx2) ?_
    (repeat (first | (with_reducible first | apply gA | apply gB | apply gC | apply gD | apply gE | apply gF | apply gG | apply gH | apply gI | apply gJ | apply gK | apply gL | apply gM | apply gN | apply gO | apply gP | apply gQ | apply gR | apply gP2 | apply gP3) | ((with_reducible first | apply gT | apply gS2); first | exact rfl | assumption | omega | exact ⟨⟩) | ((with_reducible first | apply gL0 | apply gL1 | apply gL2 | apply gL3 | apply gL4); assumption)))
    refine t_pu (c2022 hx2) ?_
    (repeat (first | (with_reducible first | apply gA | apply gB | apply gC | apply gD | apply gE | apply gF | apply gG | apply gH | apply gI | apply gJ | apply gK | apply gL | apply gM | apply gN | apply gO | apply gP | apply gQ | apply gR | apply gP2 | apply gP3) | ((with_reducible first | apply gT | apply gS2); first | exact rfl | assumption | omega | exact ⟨⟩) | ((with_reducible first | apply gL0 | apply gL1 | apply gL2 | apply gL3 | apply gL4); assumption)))
    refine t_cond (fun e => absurd e (by simp)) (fun _ => ?_)
    exact t_again ⟨rfl, rfl⟩
  rintro vs _ ⟨rfl, rfl⟩
  (repeat (first | (with_reducible first | apply gA | apply gB | apply gC | apply gD | apply gE | apply gF | apply gG | apply gH | apply gI | apply gJ | apply gK | apply gL | apply gM | apply gN | apply gO | apply gP | apply gQ | apply gR | apply gP2 | apply gP3) | ((with_reducible first | apply gT | apply gS2); first | exact rfl | assumption | omega | exact ⟨⟩) | ((with_reducible first | apply gL0 | apply gL1 | apply gL2 | apply gL3 | apply gL4); assumption)))
  refine t_gr (c2023 (hk.le le02.1) hx2 k i) ?_
  intro r3 h3 le3 hr
  obtain ⟨p3, n3, k3, m3, rfl, sp3, s3, _⟩ := hr.form
  (repeat (first | (with_reducible first | apply gA | apply gB | apply gC | apply gD | apply gE | apply gF | apply gG | apply gH | apply gI | apply gJ | apply gK | apply gL | apply gM | apply gN | apply gO | apply gP | apply gQ | apply gR | apply gP2 | apply gP3) | ((with_reducible first | apply gT | apply gS2); first | exact rfl | assumption | omega | exact ⟨⟩) | ((with_reducible first | apply gL0 | apply gL1 | apply gL2 | apply gL3 | apply gL4); assumption)))
  refine t_gr (c2024 (hx2.le le3.1) k i) ?_
  intro r4 h4 le4 hr
  obtain ⟨p4, n4, k4, m4, rfl, sp4, s4, _⟩ := hr.form
  (repeat (first | (with_reducible first | apply gA | apply gB | apply gC | apply gD | apply gE | apply gF | apply gG | apply gH | apply gI | apply gJ | apply gK | apply gL | apply gM | apply gN | apply gO | apply gP | apply gQ | apply gR | apply gP2 | apply gP3) | ((with_reducible first | apply gT | apply gS2); first | exact rfl | assumption | omega | exact ⟨⟩) | ((with_reducible first | apply gL0 | apply gL1 | apply gL2 | apply gL3 | apply gL4); assumption)))
  have s3 := s3.le SpE.grow le4.1
  obtain rfl := sp3.one sp4
  have e1 := c2025 (h := h4) (c := k3) (d := k4) s3 s4
  rw [decide_eq_true rfl] at e1
  refine t_pu e1 ?_
  (repeat (first | (with_reducible first | apply gA | apply gB | apply gC | apply gD | apply gE | apply gF | apply gG | apply gH | apply gI | apply gJ | apply gK | apply gL | apply gM | apply gN | apply gO | apply gP | apply gQ | apply gR | apply gP2 | apply gP3) | ((with_reducible first | apply gT | apply gS2); first | exact rfl | assumption | omega | exact ⟨⟩) | ((with_reducible first | apply gL0 | apply gL1 | apply gL2 | apply gL3 | apply gL4); assumption)))
  refine t_cond (fun _ => ?_) (fun e => absurd e (by simp))
  refine t_cond (fun _ => ?_) (fun e => absurd e (by simp))
  exact t_shown hk (.of hch hpe (LH.le_trans le02 (LH.le_trans le3 le4))) fun h' hh => t_ret hh.fin
end Go.Proofs.YtbmfimaomcnkfaaDoor
end
section
namespace Go.Proofs.YtbmfimaomcnkfaaDoor
open Go Go.TM Go.Proofs Go.ChangeShapes Go.WideShapes Go.RowKit
set_option maxRecDepth 100000
theorem treatyStates_lifted (os : Os) (started : os.Started) (H : Type) (enc : TypeId × Value → H) :
    ReturnsInLeavingWide {} Tryd.checked os 3 .any (fun w args => (Rows.treatyStatesSpec.pre enc Tryd.prog Tryd.f3 [] false w args ∧ laidMetH Tryd.prog Rows.treatyStatesRow.laid w) ∧ sizedMet enc Tryd.prog Tryd.f3 (OpenSpec.ofChange Rows.treatyStatesSpec) false w args)
      (Rows.treatyStatesSpec.post enc Tryd.prog Tryd.f3 false true false false) := by
  refine row_leaving (C := Tryd.checked) (tb := 4) own started Tryd.func3 (by kernel_rfl) rfl lo ?_ (by kernel_rfl) Tryd.underlying4 ?_
    (ChangeSpec.witness_shaped (enc := enc) (C := Tryd.checked) (os := os) (X := fun w _ => laidMetH Tryd.prog Rows.treatyStatesRow.laid w) false (World.doorLaid Tryd.prog 200 os) #[noFile, .int .i64 0, .int .i64 0, .int .i64 0] 8 rfl (door_shaped os _) (by kernel_rfl) (by kernel_rfl) (by kernel_rfl) (door_met os _)) ?_
  · exact fun t ht => of_decide_eq_true (List.all_eq_true.1 (show (Tryd.f3.params.toList.all fun t => decide (Tryd.prog.readableRec t = true ∧ t < Tryd.prog.types.size)) = true by kernel_rfl) t ht)
  · intro ds hd
    match ds, (show ds.length = 4 from hd) with
    | [d0, d1, d2, d3], _ => rfl
  · intro W base args ds ps hval0 hA0 hz0 hL
    have hval : ∀ (j : Nat) t v, Tryd.f3.params[j]? = some t → args[j]? = some v → Value.okWide Tryd.prog W .any base t v := hval0
    have hz : ∀ (j : Nat) t d, Tryd.f3.params.toList[j]? = some t → ds[j]? = some d → Light Tryd.prog t d := hz0
    have hA : DataW.TrodAll enc Tryd.prog W 0 (fun _ => true) true Tryd.f3.params.toList args.toList ds ps := hA0
    rw [Tryd.params3] at hval hz hA
    obtain ⟨v0, v1, v2, v3, d0, d1, d2, d3, q00, q01, q02, q03, rfl, rfl, rfl, h0, h1, h2, h3⟩ := trodAll_four hA
    obtain ⟨f0, u0, rfl, hu0⟩ := treaty_arg TT (hval 0 24 v0 rfl rfl) (hz 0 24 d0 rfl rfl) h0
    obtain ⟨x1, rfl, _, _⟩ := open_int TT.int (hval 1 3 v1 rfl rfl) h1
    obtain ⟨x2, rfl, _, _⟩ := open_int TT.int (hval 2 3 v2 rfl rfl) h2
    obtain ⟨x3, rfl, _, _⟩ := open_int TT.int (hval 3 3 v3 rfl rfl) h3
    exact FW.mono (c2003 (h := ⟨getW W, [], [], []⟩) rfl rfl (kinds_of_laid hL) hu0 x1 x2 x3) fun r h' hq => ⟨hq.1, hq.2.2.1⟩
theorem treatyStates_row : Rows.TreatyStatesSaid :=
  OpenClaim.holds_of_wide_leaving 3 Tryd.f3 rfl rfl rfl rfl rfl rfl rfl ⟨rfl, rfl, rfl, rfl, rfl⟩ rfl rfl rfl rfl rfl (by kernel_rfl) Tryd.func3 (by kernel_rfl)
    (of_decide_eq_true (by kernel_rfl)) (by unfold Func.isWrapper; first | (rw [if_pos (by decide +kernel)]; kernel_rfl) | (rw [if_neg (by decide +kernel)]; exact ⟨rfl, rfl⟩))
    (fun os started H enc _ => treatyStates_lifted os started H enc)
theorem treatyStates_holds : Rows.TreatyStatesCardSaid :=
  card_goes [.data, .funcsDeep] true Rows.treatyStatesCard.stood.harness false treatyStates_row (by kernel_rfl) treatyStates_row_tie rfl ⟨rfl, rfl⟩ (by kernel_rfl) rfl
    (fun f fn hf hfn => by
      obtain rfl : f = 3 := Option.some.inj ((show Tryd.prog.funcNamed Rows.treatyStatesRow.func = some 3 by kernel_rfl).symm.trans hf) |>.symm
      obtain rfl : fn = Tryd.f3 := (Option.some.inj (Tryd.func3.symm.trans hfn)).symm
      exact ⟨by kernel_rfl, fun j t ht => by
        have hm := Array.mem_of_getElem? ht
        have := of_decide_eq_true (List.all_eq_true.1 (show (Tryd.f3.params.toList.all fun t => decide (Tryd.prog.wantsStandIn t = false)) = true by kernel_rfl) t (Array.mem_toList_iff.2 hm))
        exact this⟩)
    (by kernel_rfl)
end Go.Proofs.YtbmfimaomcnkfaaDoor
end
#print axioms Go.Proofs.YtbmfimaomcnkfaaDoor.treatyStates_holds

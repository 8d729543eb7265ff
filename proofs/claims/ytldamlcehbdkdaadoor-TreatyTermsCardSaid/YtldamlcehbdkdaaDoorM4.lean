/- Contracts and laws for the proof, joined by a program. No condition. -/
import Derived.Test.YtldamlcehbdkdaaDoorM3
set_option linter.all false
section
namespace Go.Proofs.YtldamlcehbdkdaaDoor.Tre
open Go Go.TM Go.Proofs Go.TM.Tr
attribute [local irreducible] T.wp CV FWK
theorem c2052 {h : LH} (n a b : Int) : Pu Tryd.prog 116 #[.int .i64 n, .int .i64 a, .int .i64 b] h (.bool (inB n a b)) := by
  refine w2052 _ _ _ X0_ok ?_
  unfold n2052
  refine t_if (fun e => ?_) (fun e => ?_) <;> refine t_ret ⟨?_, rfl⟩ <;> simp [inB, e]
theorem c2053 {h : LH} (n : Int) : Pu Tryd.prog 113 #[.int .i64 n] h (.bool (dayB n)) := by
  refine w2053 _ X0_ok ?_
  unfold n2053
  refine t_pu (c2052 _ _ _) ?_
  refine gZ ?_
  exact t_ret ⟨rfl, rfl⟩
theorem c2140 {h : LH} : Pu Tryd.prog 175 #[] h (.bool true) := by
  refine w2140 X0_ok ?_
  unfold n2140
  exact t_ret ⟨rfl, rfl⟩
theorem c2141 {h : LH} : Pu Tryd.prog 176 #[] h (.bool false) := by
  refine w2141 X0_ok ?_
  unfold n2141
  exact t_ret ⟨rfl, rfl⟩
theorem c49 {h : LH} (n a b : Int) : Pu Tryd.prog 19 #[.int .i64 n, .int .i64 a, .int .i64 b] h (.bool (inB n a b)) := by
  refine w49 _ _ _ X0_ok ?_
  unfold n49
  refine t_if (fun e => ?_) (fun e => ?_) <;> refine t_ret ⟨?_, rfl⟩ <;> simp [inB, e]
theorem c2056 {h : LH} (n : Int) : Pu Tryd.prog 79 #[.int .i64 n] h (.bool (dayB n)) := by
  refine w2056 _ X0_ok ?_
  unfold n2056
  refine t_pu (c49 _ _ _) ?_
  refine gZ ?_
  exact t_ret ⟨rfl, rfl⟩
theorem pu_gr {f : FuncId} {args : Array Value} {h : LH} {v : Value} (c : Pu Tryd.prog f args h v) : Gr Tryd.prog f args h fun r _ => r = v :=
  FW.mono c (by rintro _ _ ⟨rfl, rfl⟩; exact ⟨LH.le_refl _, rfl⟩)
def indexF (x : Int) : Nat → List Int → Int
  | _, [] => -1
  | i, y :: l => if x == y then i else indexF x (i + 1) l
theorem indexF_ge (x : Int) : ∀ (l : List Int) (i : Nat), decide (indexF x i l ≥ 0) = l.contains x := by
  intro l
  induction l with
  | nil => intro i; rfl
  | cons y l ih =>
    intro i
    rw [indexF, List.contains_cons]
    split
    · rename_i h; rw [h]; simp
    · rename_i h
      have h' : (x == y) = false := by simpa using h
      rw [ih, h', Bool.false_or]
theorem c106 {h : LH} {p : Option Addr} {n c : Nat} {l : List Int} (hl : Sl IntE 1 h.get p n l) (x : Int) : Pu Tryd.prog 125 #[.slice p n c, .int .i64 x] h (.int .i64 (indexF x 0 l)) := by
  refine w106 _ _ _ _ X0_ok ?_
  unfold n106
  have hn := hl.1
  have hb := hl.2.1
  refine t_loop (fun m vs h' => h' = h ∧ ∃ i : Nat, vs = [.int .i64 0, .int .i64 i] ∧ i ≤ n ∧ m = n - i ∧ indexF x 0 l = indexF x i (l.drop i)) ⟨rfl, 0, rfl, Nat.zero_le _, rfl, rfl⟩ ?_
  rintro Y m vs _ hY ⟨rfl, i, rfl, hi, rfl, hc⟩
  refine gZ ?_
  refine t_if (fun e1 => ?_) (fun e1 => ?_)
  · obtain ⟨y, a, hx, ha, e2⟩ := hl.at (i := i) (by omega)
    unfold IntE at e2
    refine gZ ?_
    rw [drop_of hx, indexF] at hc
    refine t_cond (fun e3 => ?_) (fun e3 => ?_)
    · refine gZ ?_
      refine t_ret ⟨?_, rfl⟩
      rw [hc, if_pos e3]
    · refine t_again (hY (n - (i + 1)) _ _ (by omega) ⟨rfl, i + 1, ?_, by omega, rfl, ?_⟩)
      · rw [wrap_id (by omega) (by omega)]; rfl
      · rw [hc, if_neg (by simp [e3])]
  · refine gZ ?_
    refine t_ret ⟨?_, rfl⟩
    rw [hc, List.drop_eq_nil_of_le (by omega)]; rfl
theorem c100 {h : LH} {p : Option Addr} {n c : Nat} {l : List Int} (hl : Sl IntE 1 h.get p n l) (x : Int) : Pu Tryd.prog 109 #[.slice p n c, .int .i64 x] h (.bool (l.contains x)) := by
  refine w100 _ _ _ _ X0_ok ?_
  unfold n100
  refine t_pu (c106 hl x) ?_
  refine gZ ?_
  refine t_ret ⟨?_, rfl⟩
  rw [indexF_ge]
theorem c35 {h : LH} {p q : Option Addr} {n c m d : Nat} {a b : List Int} (ha : Sl IntE 1 h.get p n a) (hb : Sl IntE 1 h.get q m b) : Pu Tryd.prog 30 #[.slice p n c, .slice q m d] h (.bool (decide (a = b))) := by
  refine w35 _ _ _ _ _ _ X0_ok ?_
  unfold n35
  have hn := ha.1
  have hm := hb.1
  have hbn := ha.2.1
  have hbm := hb.2.1
  refine t_cond (fun e => ?_) (fun e => ?_)
  · have : a ≠ b := by rintro rfl; simp at e; omega
    exact t_ret ⟨by simp [this], rfl⟩
  have hnm : n = m := by simp at e; omega
  refine t_loop (fun mm vs h' => h = h' ∧ ∃ i : Nat, vs = [.bool false, .int .i64 i] ∧ i ≤ n ∧ mm = n - i ∧ a.take i = b.take i) ⟨rfl, 0, rfl, Nat.zero_le _, rfl, rfl⟩ ?_
  rintro Y mm vs _ hY ⟨rfl, i, rfl, hi, rfl, hc⟩
  refine gZ ?_
  refine t_if (fun e => ?_) (fun e => ?_)
  · obtain ⟨x, a1, hx, ha1, e1⟩ := ha.at (i := i) (by omega)
    obtain ⟨y, a2, hy, ha2, e2⟩ := hb.at (i := i) (by omega)
    unfold IntE at e1 e2
    refine gZ ?_
    refine t_cond (fun b1 => ?_) (fun b1 => ?_)
    · refine gZ ?_
      have : a ≠ b := by rintro rfl; rw [hx] at hy; cases hy; simp at b1
      exact t_ret ⟨by simp [this], rfl⟩
    · have b2 : x = y := by simpa using b1
      refine t_again (hY (n - (i + 1)) _ _ (by omega) ⟨rfl, i + 1, ?_, by omega, rfl, ?_⟩)
      · rw [wrap_id (by omega) (by omega)]; rfl
      · rw [List.take_add_one, List.take_add_one, hc, hx, hy, b2]
  · refine gZ ?_
    rw [List.take_of_length_le (by omega), List.take_of_length_le (by omega)] at hc
    exact t_ret ⟨by simp [hc], rfl⟩
theorem c109 {h : LH} (x : Int) : Pu Tryd.prog 135 #[.int .i64 x] h (.bool false) := by
  refine w109 _ X0_ok ?_
  unfold n109
  refine t_ret ⟨?_, rfl⟩
  simp
theorem c105 {h : LH} (x y : Int) : Pu Tryd.prog 124 #[.int .i64 x, .int .i64 y] h (.int .i64 (cmpI x y)) := by
  refine w105 _ _ X0_ok ?_
  unfold n105
  refine t_pu (c109 _) ?_
  refine gZ ?_
  refine t_pu (c109 _) ?_
  refine gZ ?_
  refine t_cond (fun e => by cases e) (fun _ => ?_)
  refine t_cond (fun e => by cases e) (fun _ => ?_)
  refine t_if (fun e => ?_) (fun e => ?_)
  · refine t_ret ⟨?_, rfl⟩; rw [cmpI, if_pos e]
  · refine t_if (fun e' => ?_) (fun e' => ?_) <;> refine t_ret ⟨?_, rfl⟩ <;> simp [cmpI, e, e']
theorem c97 {h : LH} {p q : Option Addr} {n c m d : Nat} {a b : List Int} (ha : Sl IntE 1 h.get p n a) (hb : Sl IntE 1 h.get q m b) : Pu Tryd.prog 103 #[.slice p n c, .slice q m d] h (.int .i64 (cmpL a b)) := by
  refine w97 _ _ _ _ _ _ X0_ok ?_
  unfold n97
  have hn := ha.1
  have hm := hb.1
  have hbn := ha.2.1
  have hbm := hb.2.1
  refine t_loop (fun mm vs h' => h = h' ∧ ∃ i : Nat, vs = [.int .i64 0, .int .i64 i] ∧ i ≤ n ∧ i ≤ m ∧ mm = n - i ∧ cmpL a b = cmpL (a.drop i) (b.drop i)) ⟨rfl, 0, rfl, Nat.zero_le _, Nat.zero_le _, rfl, rfl⟩ ?_
  rintro Y mm vs _ hY ⟨rfl, i, rfl, hi, hi', rfl, hc⟩
  refine gZ ?_
  refine t_if (fun e1 => ?_) (fun e1 => ?_)
  · obtain ⟨x, a1, hx, ha1, e2⟩ := ha.at (i := i) (by omega)
    unfold IntE at e2
    rw [drop_of hx] at hc
    refine gZ ?_
    refine t_if (fun e3 => ?_) (fun e3 => ?_)
    · refine gZ ?_
      rw [List.drop_eq_nil_of_le (show b.length ≤ i by omega), cmpL] at hc
      exact t_ret ⟨by rw [hc], rfl⟩
    · obtain ⟨y, b1, hy, hb1, e4⟩ := hb.at (i := i) (by omega)
      unfold IntE at e4
      rw [drop_of hy, cmpL] at hc
      refine gZ ?_
      refine t_pu (c105 _ _) ?_
      refine gZ ?_
      refine t_cond (fun e5 => ?_) (fun e5 => ?_)
      · refine gZ ?_
        rw [if_pos (by simpa using e5)] at hc
        exact t_ret ⟨by rw [hc], rfl⟩
      · rw [if_neg (by simpa using e5)] at hc
        refine t_again (hY (n - (i + 1)) _ _ (by omega) ⟨rfl, i + 1, ?_, by omega, by omega, rfl, hc⟩)
        rw [wrap_id (by omega) (by omega)]; rfl
  · refine gZ ?_
    rw [List.drop_eq_nil_of_le (show a.length ≤ i by omega)] at hc
    refine t_if (fun e3 => ?_) (fun e3 => ?_)
    · obtain ⟨y, hy⟩ : ∃ y, b[i]? = some y := ⟨b[i]'(by omega), List.getElem?_eq_getElem (by omega)⟩
      rw [drop_of hy, cmpL] at hc
      exact t_ret ⟨by rw [hc], rfl⟩
    · rw [List.drop_eq_nil_of_le (show b.length ≤ i by omega), cmpL] at hc
      exact t_ret ⟨by rw [hc], rfl⟩
theorem c2074 {h : LH} {p q : Option Addr} {n c m d : Nat} {a b : List Int} (ha : Sl IntE 1 h.get p n a) (hb : Sl IntE 1 h.get q m b) : Pu Tryd.prog 90 #[.slice p n c, .slice q m d] h (.int .i64 (fewerF a b)) := by
  refine w2074 _ _ _ _ _ _ X0_ok ?_
  unfold n2074
  have hn := ha.1
  have hm := hb.1
  have hbn := ha.2.1
  have hbm := hb.2.1
  refine t_cond (fun e => ?_) (fun e => ?_)
  · have e' : a.length ≠ b.length := by simp at e; omega
    rw [wrap_id (by omega) (by omega)]
    refine t_ret ⟨?_, rfl⟩
    rw [fewerF, if_pos e', hn, hm]
  · have e' : ¬ a.length ≠ b.length := by simp at e; omega
    refine t_pu (c97 ha hb) ?_
    refine gZ ?_
    refine t_ret ⟨?_, rfl⟩
    rw [fewerF, if_neg e']
end Go.Proofs.YtldamlcehbdkdaaDoor.Tre
end
section
namespace Go.Proofs.YtldamlcehbdkdaaDoor.Tre
open Go Go.TM Go.Proofs Go.TM.Tr
attribute [local irreducible] T.wp CV FWK
def landK (k : Nat) : Bool := !(Nat.beq k 4)
def sinceK (k : Nat) : Bool := Nat.beq k 4 || Nat.beq k 6
def givesK (k : Nat) : Bool := Nat.beq k 0 || (Nat.beq k 2 || Nat.beq k 5)
structure Kinds (h : Cells) : Prop where
  land : ∀ k, k < 7 → h.cell? ⟨1, k * 4 + 1, none⟩ = some (.bool (landK k))
  since : ∀ k, k < 7 → h.cell? ⟨1, k * 4 + 2, none⟩ = some (.bool (sinceK k))
  gives : ∀ k, k < 7 → h.cell? ⟨1, k * 4 + 3, none⟩ = some (.func (.func (if givesK k then 175 else 176)) #[] #[])
  b0 : h.cell? ⟨3, 0, none⟩ = some (.bool true)
  b1 : h.cell? ⟨3, 1, none⟩ = some (.bool false)
theorem Kinds.rd {h h' : Cells} (hl : Rd h h') (k : Kinds h) : Kinds h' := ⟨fun i hi => hl _ _ (k.land i hi), fun i hi => hl _ _ (k.since i hi), fun i hi => hl _ _ (k.gives i hi), hl _ _ k.b0, hl _ _ k.b1⟩
theorem Kinds.le {h h' : Cells} (hl : h.le h') (k : Kinds h) : Kinds h' := k.rd (Rd.of_le hl)
theorem kind_nat {k : Int} (h : inB k 0 6 = true) : ∃ n : Nat, k = n ∧ n < 7 := by
  unfold inB at h
  simp at h
  exact ⟨k.toNat, by omega, by omega⟩
theorem land_int {n : Nat} (hn : n < 7) : landK n = decide ((n : Int) ≠ 4) := by
  match n, hn with
  | 0, _ | 1, _ | 2, _ | 3, _ | 4, _ | 5, _ | 6, _ => decide
theorem since_int {n : Nat} (hn : n < 7) : sinceK n = decide ((n : Int) = 4 ∨ (n : Int) = 6) := by
  match n, hn with
  | 0, _ | 1, _ | 2, _ | 3, _ | 4, _ | 5, _ | 6, _ => decide
theorem Kinds.landAt {h : Cells} (k : Kinds h) {n : Nat} (hn : n < 7) : h.cell? (((Addr.add ⟨1, 0, none⟩ ((n : Int).toNat * 4)).add 1).add 0) = some (.bool (landK n)) := by
  rw [add_plain, add_plain, add_plain]; simpa using k.land n hn
theorem Kinds.landAt' {h : Cells} (k : Kinds h) {n : Nat} (hn : n < 7) : h.cell? ((((Addr.add ⟨1, 0, none⟩ ((n : Int).toNat * 4)).add 1).add 0).add 0) = some (.bool (landK n)) := by
  rw [add_plain, add_plain, add_plain, add_plain]; simpa using k.land n hn
theorem Kinds.sinceAt {h : Cells} (k : Kinds h) {n : Nat} (hn : n < 7) : h.cell? (((Addr.add ⟨1, 0, none⟩ ((n : Int).toNat * 4)).add 1).add 1) = some (.bool (sinceK n)) := by
  rw [add_plain, add_plain, add_plain]
  have := k.since n hn
  rw [show n * 4 + 2 = 0 + (n : Int).toNat * 4 + 1 + 1 by simp] at this
  exact this
theorem Kinds.givesAt {h : Cells} (k : Kinds h) {n : Nat} (hn : n < 7) : h.cell? ((Addr.add ⟨1, 0, none⟩ ((n : Int).toNat * 4)).add 3) = some (.func (.func (if givesK n then 175 else 176)) #[] #[]) := by
  rw [add_plain, add_plain]; simpa using k.gives n hn
theorem Kinds.bound0 {h : Cells} (k : Kinds h) : h.cell? (Addr.add ⟨3, 0, none⟩ 0) = some (.bool true) := by rw [add_plain]; exact k.b0
theorem Kinds.bound1 {h : Cells} (k : Kinds h) : h.cell? (Addr.add ⟨3, 0, none⟩ 1) = some (.bool false) := by rw [add_plain]; exact k.b1
theorem itemsT_run {l : List Int} {b : Int} {i : Nat} {x : Int} {y : Int} (hx : l[i]? = some x) (hy : 0 < i → l[i - 1]? = some y) : Tr.stepT l b i x = if inB x 0 (b - 1) = false then 6 else if 0 < i ∧ x ≤ y then 7 else 0 := by
  unfold Tr.stepT
  by_cases h0 : 0 < i
  · simp [List.getD, hy h0]
  · simp [h0]
theorem c2054 {h : LH} (hk : Kinds h.get) {f : TC} {x : TF} {e : Ev} {q : Option Addr} {m c : Nat} (hl : IsI (x.lands - 1)) (hi : IsI (x.items - 1)) (hs : Sl IntE 1 h.get q m e.items) :
    Pu Tryd.prog 136 #[treatyV f x, .agg #[.int .i64 e.kind, .int .i64 e.day, .int .i64 e.land, .slice q m c, .int .i64 e.since]] h (.int .i64 (eventT x e)) := by
  refine w2054 _ _ _ _ _ _ _ _ _ _ _ _ _ _ _ _ X0_ok ?_
  unfold n2054
  have hm := hs.1
  have hb := hs.2.1
  refine t_blk (fun vs h' => vs = [.bool (!(inB e.kind 0 6 && (dayB e.day && dayB e.since)))] ∧ h = h') ?_ ?_
  · refine t_blk (fun vs h' => vs = [.bool (!(inB e.kind 0 6))] ∧ h = h') ?_ ?_
    · refine t_pu (c2052 _ _ _) ?_
      refine gZ ?_
      exact t_again ⟨rfl, rfl⟩
    · rintro vs _ ⟨rfl, rfl⟩
      refine gZ ?_
      refine t_cond (fun b => ?_) (fun b => ?_)
      · have : inB e.kind 0 6 = false := by simpa using b
        exact t_again ⟨by rw [this]; rfl, rfl⟩
      · have b' : inB e.kind 0 6 = true := by simpa using b
        refine t_blk (fun vs h' => vs = [.bool (!(dayB e.day))] ∧ h = h') ?_ ?_
        · refine t_pu (c2053 _) ?_
          refine gZ ?_
          exact t_again ⟨rfl, rfl⟩
        · rintro vs _ ⟨rfl, rfl⟩
          refine gZ ?_
          refine t_cond (fun d => ?_) (fun d => ?_)
          · have : dayB e.day = false := by simpa using d
            exact t_again ⟨by rw [this, b']; rfl, rfl⟩
          · have d' : dayB e.day = true := by simpa using d
            refine t_pu (c2053 _) ?_
            refine gZ ?_
            exact t_again ⟨by rw [b', d']; rfl, rfl⟩
  rintro vs _ ⟨rfl, rfl⟩
  refine gZ ?_
  refine t_cond (fun b => ?_) (fun b => ?_)
  · refine t_ret ⟨?_, rfl⟩
    rw [eventT, if_pos (by simpa only [Bool.not_eq_true'] using b)]
  have b' : (inB e.kind 0 6 && (dayB e.day && dayB e.since)) = true := by simpa using b
  have hev1 : eventT x e = if inB e.land 0 (x.lands - 1) = false then 6 else if itemsT e.items x.items ≠ 0 then itemsT e.items x.items else if (e.kind = 4 ∧ e.land ≠ 0) ∨ (e.kind ≠ 4 ∧ e.kind ≠ 6 ∧ e.since ≠ 0) then 1 else if e.since > e.day then 7 else 0 := by
    rw [eventT, if_neg (by rw [b']; simp)]
  rw [wrap_id hl.1 hl.2]
  refine t_pu (c2052 _ _ _) ?_
  refine gZ ?_
  refine t_cond (fun d => ?_) (fun d => ?_)
  · refine t_ret ⟨?_, rfl⟩
    rw [hev1, if_pos (by simpa using d)]
  have hev2 : eventT x e = if itemsT e.items x.items ≠ 0 then itemsT e.items x.items else if (e.kind = 4 ∧ e.land ≠ 0) ∨ (e.kind ≠ 4 ∧ e.kind ≠ 6 ∧ e.since ≠ 0) then 1 else if e.since > e.day then 7 else 0 := by
    rw [hev1, if_neg (by simp at d; simp [d])]
  have hkind : inB e.kind 0 6 = true := by simp at b'; exact b'.1
  obtain ⟨kn, hkn, hk7⟩ := kind_nat hkind
  refine t_loop (fun mm vs h' => h = h' ∧ ∃ i : Nat, vs = [.int .i64 0, .int .i64 i] ∧ i ≤ m ∧ mm = m - i ∧ itemsT e.items x.items = firstT (Tr.stepT e.items x.items) i (e.items.drop i)) ⟨rfl, 0, rfl, Nat.zero_le _, rfl, rfl⟩ ?_
  rintro Y mm vs _ hY ⟨rfl, i, rfl, hi', rfl, hc⟩
  refine gZ ?_
  refine t_if (fun e1 => ?_) (fun e1 => ?_)
  · obtain ⟨y, a, hy, ha, e2⟩ := hs.at (i := i) (by omega)
    unfold IntE at e2
    rw [drop_of hy, firstT] at hc
    refine gZ ?_
    rw [wrap_id hi.1 hi.2]
    refine t_pu (c2052 _ _ _) ?_
    refine gZ ?_
    have next : Tr.stepT e.items x.items i y = 0 → Y [.int .i64 0, .int .i64 (IntKind.wrap .i64 ((i : Int) + 1))] h := by
      intro hz
      rw [if_neg (by rw [hz]; simp)] at hc
      refine hY (m - (i + 1)) _ _ (by omega) ⟨rfl, i + 1, ?_, by omega, rfl, hc⟩
      rw [wrap_id (by omega) (by omega)]; rfl
    have stop : ∀ z : Int, z ≠ 0 → Tr.stepT e.items x.items i y = z → eventT x e = z := by
      intro z hz hr
      rw [hr, if_pos hz] at hc
      rw [hev2, hc, if_pos hz]
    refine t_cond (fun d1 => ?_) (fun d1 => ?_)
    · refine gZ ?_
      refine t_ret ⟨?_, rfl⟩
      rw [stop 6 (by decide) (by rw [Tr.stepT, if_pos (by simpa using d1)])]
    have d1' : ¬ inB y 0 (x.items - 1) = false := by simp at d1; simp [d1]
    refine t_if (fun d2 => ?_) (fun d2 => ?_)
    · obtain ⟨z, a2, hz, ha2, e3⟩ := hs.at (i := i - 1) (by omega)
      unfold IntE at e3
      rw [ha] at ha2; cases ha2
      have hwi : IntKind.wrap .i64 ((i : Int) - 1) = ((i - 1 : Nat) : Int) := by rw [wrap_id (by omega) (by omega)]; omega
      have hrun := itemsT_run (b := x.items) hy (fun _ => hz)
      rw [hwi]
      refine gZ ?_
      refine t_if (fun d3 => ?_) (fun d3 => ?_)
      · refine gZ ?_
        refine t_ret ⟨?_, rfl⟩
        rw [stop 7 (by decide) (by rw [hrun, if_neg d1', if_pos ⟨by omega, d3⟩])]
      · exact t_again (next (by rw [hrun, if_neg d1', if_neg (by omega)]))
    · exact t_again (next (by rw [Tr.stepT, if_neg d1', if_neg (by omega)]))
  · refine gZ ?_
    rw [List.drop_eq_nil_of_le (by omega), firstT] at hc
    have hev3 : eventT x e = if (e.kind = 4 ∧ e.land ≠ 0) ∨ (e.kind ≠ 4 ∧ e.kind ≠ 6 ∧ e.since ≠ 0) then 1 else if e.since > e.day then 7 else 0 := by
      rw [hev2, if_neg (by rw [hc]; simp)]
    rw [hkn]
    have g1 := hk.landAt' hk7
    have g2 := hk.landAt hk7
    have g3 := hk.sinceAt hk7
    have g4 := hk.bound0
    have g5 := hk.bound1
    have hland := land_int hk7
    have hsince := since_int hk7
    refine gZ ?_
    refine t_blk (fun vs h' => vs = [.bool (decide ((e.kind = 4 ∧ e.land ≠ 0) ∨ (e.kind ≠ 4 ∧ e.kind ≠ 6 ∧ e.since ≠ 0)))] ∧ h = h') ?_ ?_
    · refine t_blk (fun vs h' => vs = [.bool (decide (e.kind ≠ 4 ∧ e.kind ≠ 6 ∧ e.since ≠ 0))] ∧ h = h') ?_ ?_
      · refine gZ ?_
        refine t_eqBB twoUses gUses ?_
        refine gZ ?_
        refine t_cond (fun d3 => ?_) (fun d3 => ?_)
        · refine t_again ⟨?_, rfl⟩
          rw [hland, hsince] at d3
          simp at d3
          congr 2
          rw [hkn]
          by_cases e0 : e.since = 0 <;> simp [e0, d3] <;> omega
        · refine t_again ⟨?_, rfl⟩
          rw [hland, hsince] at d3
          simp at d3
          congr 2
          rw [hkn]
          simp
          omega
      · rintro vs _ ⟨rfl, rfl⟩
        refine gZ ?_
        refine t_cond (fun d3 => ?_) (fun d3 => ?_)
        · refine t_again ⟨?_, rfl⟩
          simp at d3
          congr 2
          simp [d3]
        · simp at d3
          refine t_cond (fun d4 => ?_) (fun d4 => ?_)
          · rw [hland] at d4
            simp at d4
            refine t_again ⟨?_, rfl⟩
            congr 2
            rw [hkn, d4]
            simp
            by_cases e0 : e.land = 0 <;> simp [e0]
          · rw [hland] at d4
            simp at d4
            refine t_again ⟨?_, rfl⟩
            congr 2
            simp
            rw [hkn] at d3 ⊢
            constructor
            · omega
            · intro _ h6
              exact d3 (by omega) h6
    rintro vs _ ⟨rfl, rfl⟩
    refine gZ ?_
    refine t_cond (fun d5 => ?_) (fun d5 => ?_)
    · refine t_ret ⟨?_, rfl⟩
      rw [hev3, if_pos (by simpa using d5)]
    · rw [if_neg (by simpa using d5)] at hev3
      refine t_if (fun d6 => ?_) (fun d6 => ?_)
      · refine t_ret ⟨?_, rfl⟩
        rw [hev3, if_pos d6]
      · refine t_ret ⟨?_, rfl⟩
        rw [hev3, if_neg d6]
end Go.Proofs.YtldamlcehbdkdaaDoor.Tre
end
section
namespace Go.TM
open Go
section
variable {H : Type} {enc : TypeId × Value → H} {P : Program} {W : World} {base : Nat} {sp : Nat → Bool} {held : Bool} {fuel : Nat} {t : TypeId} {cs : List Value} {x : DataW H × List MemPlace}
structure TreatyTy (P : Program) (tI tIs tK tEv tEvs tFile : TypeId) : Prop where
  int : P.underlying tI = some (.int .i64)
  int1 : P.cellsOf tI = 1
  kind : P.underlying tK = some (.int .i64)
  kind1 : P.cellsOf tK = 1
  bytes : 0 < P.bytesOf tI ∧ 0 < P.bytesOf tEv
  ints : P.underlying tIs = some (.slice tI)
  ints1 : P.cellsOf tIs = 1
  ev : FieldsAre P tEv [(tK, 0), (tI, 1), (tI, 2), (tIs, 3), (tI, 4)]
  ev5 : P.cellsOf tEv = 5
  evs : P.underlying tEvs = some (.slice tEv)
  evs1 : P.cellsOf tEvs = 1
  file : FieldsAre P tFile [(tI, 0), (tI, 1), (tI, 2), (tI, 3), (tI, 4), (tI, 5), (tEvs, 6)]
  file7 : P.cellsOf tFile = 7
variable {tI tIs tK tEv tEvs tFile : TypeId}
theorem t_ints (T : TreatyTy P tI tIs tK tEv tEvs tFile) (hz : Light P tIs x.1) (h : DataW.trod enc P W base sp held fuel tIs cs = some x) :
    ∃ p n c l, cs = [.slice p n c] ∧ n ≤ c ∧ Sl IntE 1 (getW W) p n l := by
  refine sl_of_trodR T.ints T.int1 T.bytes.1 hz ?_ h
  intro n a cs y _ hc hy _
  obtain ⟨z, rfl, _, _⟩ := DataW.trod_int T.int hy
  exact ⟨z, hc 0 _ rfl⟩
theorem ev_cells (T : TreatyTy P tI tIs tK tEv tEvs tFile) (hl : cs.length = 5) (hz : Light P tEv x.1) (h : DataW.trod enc P W base sp held fuel tEv cs = some x) :
    ∃ q m c e, cs = [.int .i64 e.kind, .int .i64 e.day, .int .i64 e.land, .slice q m c, .int .i64 e.since] ∧ m ≤ c ∧ Sl IntE 1 (getW W) q m (Tr.Ev.items e) := by
  obtain ⟨_, m, hf⟩ := field_of T.ev hz h
  match cs, hl with
  | [c0, c1, c2, c3, c4], _ =>
    obtain ⟨y0, h0, zh0⟩ := hf 0 tK 0 rfl
    obtain ⟨y1, h1, zh1⟩ := hf 1 tI 1 rfl
    obtain ⟨y2, h2, zh2⟩ := hf 2 tI 2 rfl
    obtain ⟨y3, h3, zh3⟩ := hf 3 tIs 3 rfl
    obtain ⟨y4, h4, zh4⟩ := hf 4 tI 4 rfl
    rw [T.kind1] at h0; rw [T.int1] at h1 h2 h4; rw [T.ints1] at h3
    obtain ⟨a0, e0, _, _⟩ := DataW.trod_int T.kind h0
    obtain ⟨a1, e1, _, _⟩ := DataW.trod_int T.int h1
    obtain ⟨a2, e2, _, _⟩ := DataW.trod_int T.int h2
    obtain ⟨p, k, c, l, e3, hk, s⟩ := t_ints T zh3 h3
    obtain ⟨a4, e4, _, _⟩ := DataW.trod_int T.int h4
    simp at e0 e1 e2 e3 e4
    subst e0; subst e1; subst e2; subst e3; subst e4
    exact ⟨p, k, c, ⟨a0, a1, a2, l, a4⟩, rfl, hk, s⟩
theorem evs_of_trod (T : TreatyTy P tI tIs tK tEv tEvs tFile) (hz : Light P tEvs x.1) (h : DataW.trod enc P W base sp held fuel tEvs cs = some x) :
    ∃ p n c l, cs = [.slice p n c] ∧ n ≤ c ∧ Sl EventE 5 (getW W) p n l := by
  refine sl_of_trodR T.evs T.ev5 T.bytes.2 hz ?_ h
  intro n a cs y hl hc hy hz
  obtain ⟨q, m, c, e, rfl, hk, s⟩ := ev_cells T hl hz hy
  exact ⟨e, hc 0 _ rfl, hc 1 _ rfl, hc 2 _ rfl, ⟨q, m, c, hc 3 _ rfl, hk, s⟩, hc 4 _ rfl⟩
theorem treaty_of_trod (T : TreatyTy P tI tIs tK tEv tEvs tFile) (hz : Light P tFile x.1) (h : DataW.trod enc P W base sp held fuel tFile cs = some x) :
    ∃ f y, cs = [.int .i64 (Tr.TF.items y), .int .i64 y.lands, .int .i64 y.start, .int .i64 y.depend, .int .i64 y.refuse, .int .i64 y.turn, .slice (TC.p f) f.n f.c] ∧ TreatyR (getW W) f y := by
  obtain ⟨hl, m, hf⟩ := field_of T.file hz h
  rw [T.file7] at hl
  match cs, hl with
  | [c0, c1, c2, c3, c4, c5, c6], _ =>
    obtain ⟨y0, h0, zh0⟩ := hf 0 tI 0 rfl
    obtain ⟨y1, h1, zh1⟩ := hf 1 tI 1 rfl
    obtain ⟨y2, h2, zh2⟩ := hf 2 tI 2 rfl
    obtain ⟨y3, h3, zh3⟩ := hf 3 tI 3 rfl
    obtain ⟨y4, h4, zh4⟩ := hf 4 tI 4 rfl
    obtain ⟨y5, h5, zh5⟩ := hf 5 tI 5 rfl
    obtain ⟨y6, h6, zh6⟩ := hf 6 tEvs 6 rfl
    rw [T.int1] at h0 h1 h2 h3 h4 h5; rw [T.evs1] at h6
    obtain ⟨a0, e0, _, _⟩ := DataW.trod_int T.int h0
    obtain ⟨a1, e1, _, _⟩ := DataW.trod_int T.int h1
    obtain ⟨a2, e2, _, _⟩ := DataW.trod_int T.int h2
    obtain ⟨a3, e3, _, _⟩ := DataW.trod_int T.int h3
    obtain ⟨a4, e4, _, _⟩ := DataW.trod_int T.int h4
    obtain ⟨a5, e5, _, _⟩ := DataW.trod_int T.int h5
    obtain ⟨p, n, c, l, e6, hk, s⟩ := evs_of_trod T zh6 h6
    simp at e0 e1 e2 e3 e4 e5 e6
    subst e0; subst e1; subst e2; subst e3; subst e4; subst e5; subst e6
    exact ⟨⟨p, n, c⟩, ⟨a0, a1, a2, a3, a4, a5, l⟩, rfl, hk, s⟩
theorem treaty_arg (T : TreatyTy P tI tIs tK tEv tEvs tFile) {r : Reach} {b0 : Nat} {v : Value} {d : DataW H} {ps : List MemPlace}
    (hv : Value.okWide P W r b0 tFile v) (hz : Light P tFile d) (h : DataW.Trod enc P W base sp held tFile v d ps) : ∃ f y, v = treatyV f y ∧ TreatyR (getW W) f y := by
  obtain ⟨fs, hu, _⟩ := T.file
  obtain ⟨cs, rfl, _⟩ := WideShapes.okWide_struct hu hv
  obtain ⟨fuel, hf⟩ := h
  obtain ⟨f, y, e, hr⟩ := treaty_of_trod T hz hf
  exact ⟨f, y, agg_of e, hr⟩
end
end Go.TM
end
section
namespace Go.TM
open Go Go.Conc Go.ChangeShapes Go.RowKit
theorem trodAll9 {H : Type} {enc : TypeId × Value → H} {P : Program} {w : World} {base : Nat} {spare : Nat → Bool} {held : Bool} {t0 t1 t2 t3 t4 t5 t6 t7 t8 : TypeId} {args : Array Value} {ds : List (DataW H)} {ps : List MemPlace} (h : DataW.TrodAll enc P w base spare held [t0, t1, t2, t3, t4, t5, t6, t7, t8] args.toList ds ps) :
    ∃ v0 v1 v2 v3 v4 v5 v6 v7 v8 d0 d1 d2 d3 d4 d5 d6 d7 d8 p0 p1 p2 p3 p4 p5 p6 p7 p8, args = #[v0, v1, v2, v3, v4, v5, v6, v7, v8] ∧ ds = [d0, d1, d2, d3, d4, d5, d6, d7, d8] ∧ ps = p0 ++ p1 ++ p2 ++ p3 ++ p4 ++ p5 ++ p6 ++ p7 ++ p8 ∧ DataW.Trod enc P w base spare held t0 v0 d0 p0 ∧ DataW.Trod enc P w base spare held t1 v1 d1 p1 ∧ DataW.Trod enc P w base spare held t2 v2 d2 p2 ∧ DataW.Trod enc P w base spare held t3 v3 d3 p3 ∧ DataW.Trod enc P w base spare held t4 v4 d4 p4 ∧ DataW.Trod enc P w base spare held t5 v5 d5 p5 ∧ DataW.Trod enc P w base spare held t6 v6 d6 p6 ∧ DataW.Trod enc P w base spare held t7 v7 d7 p7 ∧ DataW.Trod enc P w base spare held t8 v8 d8 p8 := by
  obtain ⟨v0, vs0, d0, ds0, p0, q0, hargs, rfl, rfl, hd0, hr0⟩ := trodAll_cons h
  obtain ⟨v1, vs1, d1, ds1, p1, q1, rfl, rfl, rfl, hd1, hr1⟩ := trodAll_cons hr0
  obtain ⟨v2, vs2, d2, ds2, p2, q2, rfl, rfl, rfl, hd2, hr2⟩ := trodAll_cons hr1
  obtain ⟨v3, vs3, d3, ds3, p3, q3, rfl, rfl, rfl, hd3, hr3⟩ := trodAll_cons hr2
  obtain ⟨v4, vs4, d4, ds4, p4, q4, rfl, rfl, rfl, hd4, hr4⟩ := trodAll_cons hr3
  obtain ⟨v5, vs5, d5, ds5, p5, q5, rfl, rfl, rfl, hd5, hr5⟩ := trodAll_cons hr4
  obtain ⟨v6, vs6, d6, ds6, p6, q6, rfl, rfl, rfl, hd6, hr6⟩ := trodAll_cons hr5
  obtain ⟨v7, vs7, d7, ds7, p7, q7, rfl, rfl, rfl, hd7, hr7⟩ := trodAll_cons hr6
  obtain ⟨v8, vs8, d8, ds8, p8, q8, rfl, rfl, rfl, hd8, hr8⟩ := trodAll_cons hr7
  obtain ⟨rfl, rfl, rfl⟩ := trodAll_nil hr8
  exact ⟨v0, v1, v2, v3, v4, v5, v6, v7, v8, d0, d1, d2, d3, d4, d5, d6, d7, d8, p0, p1, p2, p3, p4, p5, p6, p7, p8, by cases args; simp_all, rfl, by simp, hd0, hd1, hd2, hd3, hd4, hd5, hd6, hd7, hd8⟩
end Go.TM
end
section
namespace Go.Proofs.YtldamlcehbdkdaaDoor
open Go Go.TM Go.Proofs Go.ChangeShapes Go.WideShapes Go.RowKit
set_option maxRecDepth 100000
theorem UT : UseTy Tryd.prog 3 28 32 22 105 23 107 24 26 where
  int := by kernel_rfl
  int1 := by kernel_rfl
  bytes := ⟨of_decide_eq_true (by kernel_rfl), of_decide_eq_true (by kernel_rfl), of_decide_eq_true (by kernel_rfl), of_decide_eq_true (by kernel_rfl)⟩
  ints := by kernel_rfl
  ints1 := by kernel_rfl
  span := ⟨_, Tryd.underlying32, rfl⟩
  span2 := by kernel_rfl
  spans := by kernel_rfl
  spans1 := by kernel_rfl
  paper := ⟨_, Tryd.underlying105, rfl⟩
  paper4 := by kernel_rfl
  papers := by kernel_rfl
  papers1 := by kernel_rfl
  req := ⟨_, Tryd.underlying107, rfl⟩
  req3 := by kernel_rfl
  reqs := by kernel_rfl
  reqs1 := by kernel_rfl
  file := ⟨_, Tryd.underlying26, rfl⟩
  file7 := by kernel_rfl
end Go.Proofs.YtldamlcehbdkdaaDoor
namespace Go.Proofs.YtldamlcehbdkdaaDoor.Tre
open Go Go.TM Go.Proofs Go.ChangeShapes Go.WideShapes Go.RowKit
set_option maxRecDepth 100000
theorem own : ownKnob Tryd.prog.godebug = none := by kernel_rfl
theorem lo : laidOutB Tryd.prog = true := by kernel_rfl
theorem TT : TreatyTy Tryd.prog 3 28 133 135 48 50 where
  int := by kernel_rfl
  int1 := by kernel_rfl
  kind := by kernel_rfl
  kind1 := by kernel_rfl
  bytes := ⟨of_decide_eq_true (by kernel_rfl), of_decide_eq_true (by kernel_rfl)⟩
  ints := by kernel_rfl
  ints1 := by kernel_rfl
  ev := ⟨_, Tryd.underlying135, rfl⟩
  ev5 := by kernel_rfl
  evs := by kernel_rfl
  evs1 := by kernel_rfl
  file := ⟨_, Tryd.underlying50, rfl⟩
  file7 := by kernel_rfl
theorem und57 : Tryd.prog.underlying 27 = some (.int .u16) := by kernel_rfl
theorem und5 : Tryd.prog.underlying 5 = some (.int .u8) := by kernel_rfl
theorem wf_u16 {n : Int} (h : (Lit.int .u16 n).wf = true) : 0 ≤ n ∧ n ≤ 65535 := by simpa [Lit.wf, IntKind.min, IntKind.max, IntKind.signed, IntKind.bits] using h
theorem wf_u8 {n : Int} (h : (Lit.int .u8 n).wf = true) : 0 ≤ n ∧ n ≤ 255 := by simpa [Lit.wf, IntKind.min, IntKind.max, IntKind.signed, IntKind.bits] using h
def kindsN : String := "touchmark/treaty.kinds"
def boundN : String := "touchmark/treaty.bound"
theorem gKinds : Tryd.prog.globalNamed kindsN = some 1 := by kernel_rfl
theorem gBound : Tryd.prog.globalNamed boundN = some 3 := by kernel_rfl
theorem tKinds : (Tryd.prog.globals[1]?).map (·.type) = some 185 := by kernel_rfl
theorem tBound : (Tryd.prog.globals[3]?).map (·.type) = some 182 := by kernel_rfl
theorem uses_of {H : Type} {enc : TypeId × Value → H} {W : World} {sp : Nat → Bool} {held : Bool} {fuel : Nat} {cs : List Value} {x : DataW H × List MemPlace} {a b : Bool} (h : DataW.trod enc Tryd.prog W 0 sp held fuel 182 cs = some x) (hx : x.1 = .agg [.lit (.bool a), .lit (.bool b)]) : cs = [.bool a, .bool b] := by
  obtain ⟨ys, n, _, rfl, hl, hlen, hf⟩ := DataW.trod_struct Tryd.underlying182 h
  rw [show Tryd.prog.cellsOf 182 = 2 by kernel_rfl] at hl
  match cs, hl, ys, hlen with
  | [v0, v1], _, [y0, y1], _ =>
    have h0 : DataW.trod enc Tryd.prog W 0 sp held n 4 (([v0, v1].drop 0).take (Tryd.prog.cellsOf 4)) = some y0 := hf 0 _ rfl
    have h1 : DataW.trod enc Tryd.prog W 0 sp held n 4 (([v0, v1].drop 1).take (Tryd.prog.cellsOf 4)) = some y1 := hf 1 _ rfl
    rw [show Tryd.prog.cellsOf 4 = 1 by kernel_rfl] at h0 h1
    obtain ⟨b0, e0, g0⟩ := DataW.trod_bool Tryd.underlying4 h0
    obtain ⟨b1, e1, g1⟩ := DataW.trod_bool Tryd.underlying4 h1
    simp at e0 e1
    simp [g0, g1] at hx
    rw [e0, e1, hx.1, hx.2]
theorem kind_of {W : World} {sp : Nat → Bool} {fuel : Nat} {cs : List Value} {x : DataW (List UInt8) × List MemPlace} {s : List UInt8} {a b : Bool} {c : UInt8} {r : List UInt8} {f0 : FuncId} (hone : ((List.range Tryd.prog.funcs.size).filter fun f => (Tryd.prog.funcs[f]?).any (·.name.toUTF8.data.toList == c :: r)) = [f0])
    (h : DataW.trod (funcToken Tryd.prog) Tryd.prog W 0 sp true fuel 184 cs = some x) (hx : x.1 = .agg [.lit (.string s), .agg [.lit (.bool a), .lit (.bool b)], .held (c :: r)]) : ∃ v0, cs = [v0, .bool a, .bool b, .func (.func f0) #[] #[]] := by
  obtain ⟨ys, n, _, rfl, hl, hlen, hf⟩ := DataW.trod_struct Tryd.underlying184 h
  rw [show Tryd.prog.cellsOf 184 = 4 by kernel_rfl] at hl
  match cs, hl, ys, hlen with
  | [v0, v1, v2, v3], _, [y0, y1, y2], _ =>
    have h1 : DataW.trod (funcToken Tryd.prog) Tryd.prog W 0 sp true n 182 (([v0, v1, v2, v3].drop 1).take (Tryd.prog.cellsOf 182)) = some y1 := hf 1 _ rfl
    have h2 : DataW.trod (funcToken Tryd.prog) Tryd.prog W 0 sp true n 38 (([v0, v1, v2, v3].drop 3).take (Tryd.prog.cellsOf 38)) = some y2 := hf 2 _ rfl
    rw [show Tryd.prog.cellsOf 182 = 2 by kernel_rfl] at h1
    rw [show Tryd.prog.cellsOf 38 = 1 by kernel_rfl] at h2
    simp only [List.map_cons, List.map_nil, DataW.agg.injEq, List.cons.injEq, and_true] at hx
    obtain ⟨_, hx1, hx2⟩ := hx
    obtain ⟨d1, q1⟩ := y1
    obtain ⟨d2, q2⟩ := y2
    simp only at hx1 hx2
    subst hx1; subst hx2
    have e1 := uses_of h1 rfl
    simp at e1
    rw [e1.1, e1.2]
    refine ⟨v0, ?_⟩
    have e2 : v3 = .func (.func f0) #[] #[] := Go.func_of_trod (P := Tryd.prog) Tryd.underlying38 hone h2
    rw [e2]
theorem yes_one : ((List.range Tryd.prog.funcs.size).filter fun f => (Tryd.prog.funcs[f]?).any (·.name.toUTF8.data.toList == [116, 111, 117, 99, 104, 109, 97, 114, 107, 47, 116, 114, 101, 97, 116, 121, 46, 121, 101, 115])) = [175] := by kernel_rfl
theorem no_one : ((List.range Tryd.prog.funcs.size).filter fun f => (Tryd.prog.funcs[f]?).any (·.name.toUTF8.data.toList == [116, 111, 117, 99, 104, 109, 97, 114, 107, 47, 116, 114, 101, 97, 116, 121, 46, 110, 111])) = [176] := by kernel_rfl
theorem array7 {α : Type} : ∀ {l : List α}, l.length = 7 → ∃ a b c d e f g, l = [a, b, c, d, e, f, g]
  | [a, b, c, d, e, f, g], _ => ⟨a, b, c, d, e, f, g, rfl⟩
theorem four_cells {cs : List Value} {i : Nat} {v0 v1 v2 v3 : Value} (h : (cs.drop (i * 4)).take 4 = [v0, v1, v2, v3]) : cs[i * 4 + 1]? = some v1 ∧ cs[i * 4 + 2]? = some v2 ∧ cs[i * 4 + 3]? = some v3 := by
  have key : ∀ j, j < 4 → cs[i * 4 + j]? = [v0, v1, v2, v3][j]? := by
    intro j hj
    rw [← h, List.getElem?_take, if_pos hj, List.getElem?_drop]
  exact ⟨key 1 (by omega), key 2 (by omega), key 3 (by omega)⟩
theorem laid_at {P : Program} {w : World} {n : String} {d : DataW Unit} : ∀ {l : List (String × DataW Unit)} {ps : List MemPlace}, DataW.LaidVars P w l ps → (n, d) ∈ l → ∃ g t cs fuel p, P.globalNamed n = some g ∧ (P.globals[g]?).map (·.type) = some t ∧ w.var? P n = some cs ∧ DataW.trod (fun _ => ()) P w 0 (fun _ => true) false fuel t cs.toList = some (d, p)
  | [], _, _, h => by simp at h
  | (m, e) :: r, ps, h, hm => by
    obtain ⟨g, t, cs, fuel, p, q, h1, h2, h3, h4, h5, _⟩ := h
    rcases List.mem_cons.1 hm with h6 | h6
    · cases h6
      exact ⟨g, t, cs, fuel, p, h1, h2, h3, h4⟩
    · exact laid_at h5 h6
theorem kinds_of_laid {l : List (String × DataW Unit)} {W : World} (h : laidMetH Tryd.prog l W) (hk : (kindsN, Rows.laid_touchmark_treaty_kinds) ∈ l) (hbm : (boundN, Rows.laid_touchmark_treaty_bound) ∈ l) : Kinds (getW W) := by
  obtain ⟨g, t, cs, fuel, p, hg, ht, hv, hd⟩ := laidMetH.funcs h (n := kindsN) hk
  obtain rfl := Option.some.inj (gKinds.symm.trans hg)
  obtain rfl := Option.some.inj (tKinds.symm.trans ht)
  obtain ⟨xs, m, _, hx, hl, hn, hel⟩ := DataW.trod_array Tryd.underlying185 hd
  have hcell : ∀ j : Nat, W.cell? ⟨1, j, none⟩ = cs[j]? := World.var?_cell gKinds hv
  obtain ⟨x0, x1, x2, x3, x4, x5, x6, rfl⟩ := array7 hn
  have e4 : Tryd.prog.cellsOf 184 = 4 := by kernel_rfl
  simp only [Prod.mk.injEq] at hx
  obtain ⟨hx, _⟩ := hx
  simp only [DataW.funcsOut, DataW.funcsOutAll, List.map_cons, List.map_nil, DataW.agg.injEq, List.cons.injEq, beq_self_eq_true, if_true, and_true] at hx
  obtain ⟨g0, g1, g2, g3, g4, g5, g6⟩ := hx
  rw [e4] at hel
  have key : ∀ i, i < 7 → ∃ v0, (cs.toList.drop (i * 4)).take 4 = [v0, .bool (landK i), .bool (sinceK i), .func (.func (if givesK i then 175 else 176)) #[] #[]] := by
    intro i hi
    have hi' := hel i hi
    match i, hi with
    | 0, _ => exact kind_of yes_one hi' g0.symm
    | 1, _ => exact kind_of no_one hi' g1.symm
    | 2, _ => exact kind_of yes_one hi' g2.symm
    | 3, _ => exact kind_of no_one hi' g3.symm
    | 4, _ => exact kind_of no_one hi' g4.symm
    | 5, _ => exact kind_of yes_one hi' g5.symm
    | 6, _ => exact kind_of no_one hi' g6.symm
  have cell : ∀ i, i < 7 → cs[i * 4 + 1]? = some (.bool (landK i)) ∧ cs[i * 4 + 2]? = some (.bool (sinceK i)) ∧ cs[i * 4 + 3]? = some (.func (.func (if givesK i then 175 else 176)) #[] #[]) := by
    intro i hi
    obtain ⟨v0, h0⟩ := key i hi
    have := four_cells h0
    simpa using this
  obtain ⟨ps, hL, _⟩ := (laidMetH_iff.1 h).1
  obtain ⟨g', t', cs', fuel', p', hg', ht', hv', hd'⟩ := laid_at hL (List.mem_filter.2 ⟨hbm, rfl⟩)
  obtain rfl := Option.some.inj (gBound.symm.trans hg')
  obtain rfl := Option.some.inj (tBound.symm.trans ht')
  have hb := uses_of hd' rfl
  have hcell' : ∀ j : Nat, W.cell? ⟨3, j, none⟩ = cs'[j]? := World.var?_cell gBound hv'
  have hb' : ∀ j : Nat, cs'[j]? = [Value.bool true, .bool false][j]? := fun j => by rw [← hb]; simp
  exact ⟨fun i hi => getW_cell (by rw [hcell]; exact (cell i hi).1), fun i hi => getW_cell (by rw [hcell]; exact (cell i hi).2.1), fun i hi => getW_cell (by rw [hcell]; exact (cell i hi).2.2), getW_cell (by rw [hcell', hb']; rfl), getW_cell (by rw [hcell', hb']; rfl)⟩
def noTreaty : Value := .agg #[.int .i64 0, .int .i64 0, .int .i64 0, .int .i64 0, .int .i64 0, .int .i64 0, .slice none 0 0]
end Go.Proofs.YtldamlcehbdkdaaDoor.Tre
end
section
namespace Go.TM.Te
def lens : List Int := [31, 28, 31, 30, 31, 30, 31, 31, 30, 31, 30, 31]
def lengthT (y m : Int) : Int := if m = 2 ∧ y % 4 = 0 then 29 else lens.getD (m - 1).toNat 0
def beforeT (y : Int) : Int := (y - 2000) / 4 * 1461 + (y - 2000) % 4 * 365 + (if (y - 2000) % 4 < 1 then (y - 2000) % 4 else 1)
def sumT (y : Int) : Nat → Int
  | 0 => 0
  | 1 => 0
  | m + 2 => sumT y (m + 1) + lengthT y ((m + 1 : Nat) : Int)
def dayOfT (y m d : Int) : Int := beforeT y + sumT y m.toNat + d - 1
theorem month_of {m : Int} (h : 1 ≤ m ∧ m ≤ 12) : m = 1 ∨ m = 2 ∨ m = 3 ∨ m = 4 ∨ m = 5 ∨ m = 6 ∨ m = 7 ∨ m = 8 ∨ m = 9 ∨ m = 10 ∨ m = 11 ∨ m = 12 := by omega
theorem length_range {y m : Int} (h : 1 ≤ m ∧ m ≤ 12) : 28 ≤ lengthT y m ∧ lengthT y m ≤ 31 := by
  unfold lengthT
  split
  · omega
  · rcases month_of h with rfl | rfl | rfl | rfl | rfl | rfl | rfl | rfl | rfl | rfl | rfl | rfl <;> decide
theorem sum_next {y m : Int} (h : 1 ≤ m) : sumT y (m + 1).toNat = sumT y m.toNat + lengthT y m := by
  obtain ⟨n, rfl⟩ : ∃ n : Nat, m = ((n + 1 : Nat) : Int) := ⟨(m - 1).toNat, by omega⟩
  have e1 : (((n + 1 : Nat) : Int) + 1).toNat = n + 2 := by omega
  have e2 : ((n + 1 : Nat) : Int).toNat = n + 1 := by omega
  rw [e1, e2]; rfl
theorem before_next (y : Int) : beforeT (y + 1) = beforeT y + (if y % 4 = 0 then 366 else 365) := by
  unfold beforeT
  split <;> split <;> split <;> omega
theorem year_sum (y : Int) : sumT y 12 + lengthT y 12 = if y % 4 = 0 then 366 else 365 := by
  have key : sumT y 12 = 31 + lengthT y 2 + 31 + 30 + 31 + 30 + 31 + 31 + 30 + 31 + 30 := by
    simp only [sumT]
    simp [lengthT, lens]
  rw [key]
  unfold lengthT
  by_cases h : y % 4 = 0
  · simp [h, lens]
  · simp [h, lens]
def startM (M : Int) : Int := dayOfT (M / 12) (M % 12 + 1) 1
def lenM (M : Int) : Int := lengthT (M / 12) (M % 12 + 1)
theorem lenM_range (M : Int) : 28 ≤ lenM M ∧ lenM M ≤ 31 := length_range (by omega)
theorem startM_next (M : Int) : startM (M + 1) = startM M + lenM M := by
  unfold startM lenM dayOfT
  by_cases h : M % 12 = 11
  · have e1 : (M + 1) / 12 = M / 12 + 1 := by omega
    have e2 : (M + 1) % 12 + 1 = 1 := by omega
    have e3 : M % 12 + 1 = 12 := by omega
    rw [e1, e2, e3, before_next]
    have := year_sum (M / 12)
    have e4 : (12 : Int).toNat = 12 := rfl
    have e5 : sumT (M / 12 + 1) (1 : Int).toNat = 0 := rfl
    rw [e4, e5]
    omega
  · have e1 : (M + 1) / 12 = M / 12 := by omega
    have e2 : (M + 1) % 12 = M % 12 + 1 := by omega
    rw [e1, e2, sum_next (by omega)]
    omega
theorem startM_far {M : Int} : ∀ (n : Nat), startM M + 28 * (n : Int) ≤ startM (M + n)
  | 0 => by simp
  | n + 1 => by
    have ih := startM_far (M := M) n
    have h1 := startM_next (M + n)
    have h2 := lenM_range (M + n)
    have : M + ((n + 1 : Nat) : Int) = M + n + 1 := by omega
    rw [this, h1]
    omega
theorem startM_up {a b : Int} (h : a ≤ b) : startM a ≤ startM b := by
  have := startM_far (M := a) (b - a).toNat
  rw [show a + ((b - a).toNat : Int) = b by omega] at this
  omega
theorem startM_lt {a b : Int} (h : a < b) : startM a + lenM a ≤ startM b := by
  rw [← startM_next]
  exact startM_up (by omega)
theorem last_day : startM (2100 * 12) = 36525 := by decide +kernel
structure PartsOf (s y m d : Int) : Prop where
  year : 2000 ≤ y ∧ y ≤ 2099
  month : 1 ≤ m ∧ m ≤ 12
  date : 1 ≤ d ∧ d ≤ lengthT y m
  day : dayOfT y m d = s
theorem parts_of {s y m r : Int} (hy : 2000 ≤ y ∧ y ≤ 2099) (hm : 1 ≤ m ∧ m ≤ 12) (h : s = beforeT y + sumT y m.toNat + r) (hr : 0 ≤ r ∧ r < lengthT y m) : PartsOf s y m (r + 1) :=
  ⟨hy, hm, by omega, by unfold dayOfT; omega⟩
theorem month_more {y m r : Int} (hm : 1 ≤ m ∧ m ≤ 12) (h : sumT y m.toNat + r < if y % 4 = 0 then 366 else 365) (hr : lengthT y m ≤ r) : m + 1 ≤ 12 := by
  by_cases e : m = 12
  · subst e
    have := year_sum y
    have e4 : (12 : Int).toNat = 12 := rfl
    rw [e4] at h
    omega
  · omega
theorem year_here {s y : Int} (h : s < beforeT (y + 1)) : s - beforeT y < if y % 4 = 0 then 366 else 365 := by
  rw [before_next] at h
  omega
theorem year_last : beforeT 2100 = 36525 := by decide +kernel
theorem year_first : beforeT 2000 = 0 := by decide +kernel
def monthNo (y m : Int) : Int := y * 12 + (m - 1)
theorem day_start {y m d : Int} (hm : 1 ≤ m ∧ m ≤ 12) : dayOfT y m d = startM (monthNo y m) + d - 1 ∧ lengthT y m = lenM (monthNo y m) := by
  unfold startM lenM monthNo dayOfT
  have e1 : (y * 12 + (m - 1)) / 12 = y := by omega
  have e2 : (y * 12 + (m - 1)) % 12 + 1 = m := by omega
  rw [e1, e2]
  exact ⟨by omega, rfl⟩
def monthsT (y m d n : Int) : Int :=
  if 2099 < y + (m + n - 1) / 12 then 36524 else dayOfT (y + (m + n - 1) / 12) ((m + n - 1) % 12 + 1) (if lengthT (y + (m + n - 1) / 12) ((m + n - 1) % 12 + 1) < d then lengthT (y + (m + n - 1) / 12) ((m + n - 1) % 12 + 1) else d)
theorem months_is {y m d n : Int} : monthsT y m d n = if 2099 < (monthNo y m + n) / 12 then 36524 else startM (monthNo y m + n) + (if lenM (monthNo y m + n) < d then lenM (monthNo y m + n) else d) - 1 := by
  have e1 : y + (m + n - 1) / 12 = (monthNo y m + n) / 12 := by unfold monthNo; omega
  have e2 : (m + n - 1) % 12 = (monthNo y m + n) % 12 := by unfold monthNo; omega
  unfold monthsT
  rw [e1, e2]
  split
  · rfl
  · obtain ⟨h1, h2⟩ := day_start (y := (monthNo y m + n) / 12) (m := (monthNo y m + n) % 12 + 1) (d := if lenM (monthNo y m + n) < d then lenM (monthNo y m + n) else d) (by omega)
    have e3 : monthNo ((monthNo y m + n) / 12) ((monthNo y m + n) % 12 + 1) = monthNo y m + n := by
      generalize monthNo y m + n = K
      unfold monthNo; omega
    rw [e3] at h1 h2
    rw [h2, h1]
theorem months_up {y m d n k : Int} (hd : 1 ≤ d) (h : n ≤ k) : monthsT y m d n ≤ monthsT y m d k := by
  rw [months_is, months_is]
  generalize ha : monthNo y m + n = a
  generalize hb : monthNo y m + k = b
  have hab : a ≤ b := by omega
  have la := lenM_range a
  have lb := lenM_range b
  by_cases h1 : 2099 < a / 12
  · rw [if_pos h1, if_pos (by omega)]; omega
  · rw [if_neg h1]
    by_cases h2 : 2099 < b / 12
    · rw [if_pos h2]
      have := startM_lt (a := a) (b := 2100 * 12) (by omega)
      rw [last_day] at this
      split <;> omega
    · rw [if_neg h2]
      by_cases e : a = b
      · subst e; omega
      · have := startM_lt (a := a) (b := b) (by omega)
        split <;> split <;> omega
theorem months_none {s y m d : Int} (p : PartsOf s y m d) : monthsT y m d 0 = s := by
  obtain ⟨h1, h2⟩ := day_start (y := y) (m := m) (d := d) p.month
  have := p.date
  have := p.year
  have := p.month
  have := p.day
  rw [months_is, if_neg (by unfold monthNo; omega), Int.add_zero, if_neg (by omega)]
  omega
structure Cal where
  closed : List Int
  closures : List (Int × Int)
def openB (c : Cal) (day : Int) : Bool := !(c.closed.contains ((day + 5) % 7) || c.closures.any fun s => decide (s.1 ≤ day) && decide (day ≤ s.2))
def nextGo (c : Cal) : Nat → Int → Int
  | 0, _ => 36524
  | n + 1, day => if openB c day then day else nextGo c n (day + 1)
def nextT (c : Cal) (day : Int) : Int := nextGo c (36525 - day).toNat day
theorem next_ge (c : Cal) : ∀ (n : Nat) (day : Int), day + n ≤ 36525 → day ≤ 36524 → day ≤ nextGo c n day ∧ nextGo c n day ≤ 36524
  | 0, day, _, h => ⟨h, Int.le_refl _⟩
  | n + 1, day, h, hd => by
    rw [nextGo]
    split
    · exact ⟨Int.le_refl _, hd⟩
    · by_cases e : day = 36524
      · have : n = 0 := by omega
        subst this
        exact ⟨hd, Int.le_refl _⟩
      · have := next_ge c n (day + 1) (by omega) (by omega)
        omega
theorem next_up (c : Cal) : ∀ (n m : Nat) (a b : Int), a + n = 36525 → b + m = 36525 → a ≤ b → b ≤ 36524 → nextGo c n a ≤ nextGo c m b
  | 0, m, a, b, h1, h2, h3, h4 => by omega
  | n + 1, m, a, b, h1, h2, h3, h4 => by
    rw [nextGo]
    split
    · have := next_ge c m b (by omega) h4
      omega
    · rename_i hc
      by_cases e : a = b
      · subst e
        have : m = n + 1 := by omega
        subst this
        rw [nextGo, if_neg hc]; exact Int.le_refl _
      · exact next_up c n m (a + 1) b (by omega) h2 (by omega) h4
theorem nextT_up {c : Cal} {a b : Int} (h : a ≤ b) (hb : b ≤ 36524) : nextT c a ≤ nextT c b := next_up c _ _ a b (by omega) (by omega) h hb
theorem nextT_ge {c : Cal} {a : Int} (h : a ≤ 36524) : a ≤ nextT c a ∧ nextT c a ≤ 36524 := next_ge c _ a (by omega) h
theorem next_closed {c : Cal} {s : Int × Int} : ∀ (n : Nat) (day : Int), day + n ≤ 36525 → day ≤ 36524 → nextGo c n day ≤ nextGo { c with closures := c.closures ++ [s] } n day
  | 0, _, _, _ => Int.le_refl _
  | n + 1, day, h, hd => by
    rw [nextGo, nextGo]
    have key : openB { c with closures := c.closures ++ [s] } day = true → openB c day = true := by
      unfold openB
      simp only [List.any_append, Bool.not_eq_true', Bool.or_eq_false_iff]
      exact fun hh => ⟨hh.1, hh.2.1⟩
    by_cases h1 : openB { c with closures := c.closures ++ [s] } day = true
    · rw [if_pos h1, if_pos (key h1)]; exact Int.le_refl _
    · rw [if_neg h1]
      split
      · by_cases e : day = 36524
        · have : n = 0 := by omega
          subst this
          rw [nextGo]; exact hd
        · have := (next_ge { c with closures := c.closures ++ [s] } n (day + 1) (by omega) (by omega)).1
          omega
      · by_cases e : day = 36524
        · have : n = 0 := by omega
          subst this
          exact Int.le_refl _
        · exact next_closed n (day + 1) (by omega) (by omega)
theorem nextT_closed {c : Cal} {s : Int × Int} {a : Int} (h : a ≤ 36524) : nextT c a ≤ nextT { c with closures := c.closures ++ [s] } a := next_closed _ a (by omega) h
end Go.TM.Te
end
section
namespace Go.TM.Te
theorem parts_uniq {s y m d y' m' d' : Int} (p : PartsOf s y m d) (q : PartsOf s y' m' d') : y = y' ∧ m = m' ∧ d = d' := by
  obtain ⟨h1, h2⟩ := day_start (y := y) (m := m) (d := d) p.month
  obtain ⟨g1, g2⟩ := day_start (y := y') (m := m') (d := d') q.month
  have pd := p.date; have pm := p.month; have pe := p.day
  have qd := q.date; have qm := q.month; have qe := q.day
  rw [h2] at pd; rw [g2] at qd
  have hM : monthNo y m = monthNo y' m' := by
    by_cases c1 : monthNo y m < monthNo y' m'
    · have := startM_lt c1; omega
    · by_cases c2 : monthNo y' m' < monthNo y m
      · have := startM_lt c2; omega
      · omega
  have e1 : y = y' ∧ m = m' := by unfold monthNo at hM; omega
  rw [hM] at h1
  exact ⟨e1.1, e1.2, by omega⟩
theorem months_most {y m d n : Int} : monthsT y m d n ≤ 36524 := by
  rw [months_is]
  split
  · omega
  · rename_i h
    have h1 := startM_lt (a := monthNo y m + n) (b := 2100 * 12) (by omega)
    rw [last_day] at h1
    split <;> omega
def LeadsTo (s unit n r : Int) : Prop := (unit = 2 ∧ ∃ y m d, PartsOf s y m d ∧ r = monthsT y m d n) ∨ (unit = 1 ∧ r = if s + n * 7 < 36524 then s + n * 7 else 36524) ∨ (unit = 0 ∧ r = if s + n < 36524 then s + n else 36524)
theorem LeadsTo.most {s unit n r : Int} (h : LeadsTo s unit n r) : r ≤ 36524 := by
  rcases h with ⟨_, y, m, d, _, rfl⟩ | ⟨_, rfl⟩ | ⟨_, rfl⟩
  · exact months_most
  · split <;> omega
  · split <;> omega
theorem LeadsTo.from {s unit n r : Int} (h : LeadsTo s unit n r) (hs : s ≤ 36524) (hn : 0 ≤ n) : s ≤ r := by
  rcases h with ⟨_, y, m, d, p, rfl⟩ | ⟨_, rfl⟩ | ⟨_, rfl⟩
  · have h1 := months_up (y := y) (m := m) p.date.1 hn
    rw [months_none p] at h1
    exact h1
  · split <;> omega
  · split <;> omega
theorem LeadsTo.up {s unit n k r r' : Int} (h : LeadsTo s unit n r) (h' : LeadsTo s unit k r') (hn : n ≤ k) : r ≤ r' := by
  rcases h with ⟨e, y, m, d, p, rfl⟩ | ⟨e, rfl⟩ | ⟨e, rfl⟩
  · rcases h' with ⟨_, y', m', d', p', rfl⟩ | ⟨e', _⟩ | ⟨e', _⟩
    · obtain ⟨rfl, rfl, rfl⟩ := parts_uniq p p'
      exact months_up p.date.1 hn
    · omega
    · omega
  · rcases h' with ⟨e', _⟩ | ⟨_, rfl⟩ | ⟨e', _⟩
    · omega
    · split <;> split <;> omega
    · omega
  · rcases h' with ⟨e', _⟩ | ⟨e', _⟩ | ⟨_, rfl⟩
    · omega
    · omega
    · split <;> split <;> omega
def EndsAt (c : Cal) (s unit n x : Int) : Prop := ∃ r, LeadsTo s unit n r ∧ x = nextT c r
theorem EndsAt.range {c : Cal} {s unit n x : Int} (h : EndsAt c s unit n x) (hs : s ≤ 36524) (hn : 0 ≤ n) : s ≤ x ∧ x ≤ 36524 := by
  obtain ⟨r, h1, rfl⟩ := h
  have := h1.from hs hn
  have := nextT_ge (c := c) h1.most
  omega
theorem EndsAt.up {c : Cal} {s unit n k x y : Int} (h : EndsAt c s unit n x) (h' : EndsAt c s unit k y) (hn : n ≤ k) : x ≤ y := by
  obtain ⟨r, h1, rfl⟩ := h
  obtain ⟨r', h2, rfl⟩ := h'
  exact nextT_up (h1.up h2 hn) h2.most
theorem EndsAt.closed {c : Cal} {t : Int × Int} {s unit n x y : Int} (h : EndsAt c s unit n x) (h' : EndsAt { c with closures := c.closures ++ [t] } s unit n y) : x ≤ y := by
  obtain ⟨r, h1, rfl⟩ := h
  obtain ⟨r', h2, rfl⟩ := h'
  have e1 := h1.up h2 (Int.le_refl _)
  have e2 := h2.up h1 (Int.le_refl _)
  have : r = r' := by omega
  subst this
  exact nextT_closed h1.most
end Go.TM.Te
end
section
namespace Go.TM
open Go
structure CalC where
  p0 : Option Addr
  n0 : Nat
  c0 : Nat
  p1 : Option Addr
  n1 : Nat
  c1 : Nat
structure CalD where
  closed : List Int
  closures : List Span
def calV (f : CalC) : Value := .agg #[.slice f.p0 f.n0 f.c0, .slice f.p1 f.n1 f.c1]
structure CalR (h : Cells) (f : CalC) (x : CalD) : Prop where
  closed : Sl IntE 1 h f.p0 f.n0 x.closed
  closures : Sl SpanE 2 h f.p1 f.n1 x.closures
theorem CalR.rd {h h' : Cells} {f : CalC} {x : CalD} (hl : Rd h h') (r : CalR h f x) : CalR h' f x := ⟨r.closed.rd IntE.grow hl, r.closures.rd SpanE.grow hl⟩
theorem CalR.le {h h' : Cells} {f : CalC} {x : CalD} (hl : h.le h') (r : CalR h f x) : CalR h' f x := r.rd (Rd.of_le hl)
def CalD.cal (x : CalD) : Te.Cal := ⟨x.closed, x.closures.map fun s => (s.first, s.last)⟩
structure CalOk (x : CalD) : Prop where
  closed : ∀ (i : Nat) v, x.closed[i]? = some v → (0 ≤ v ∧ v ≤ 6) ∧ ∀ u, 0 < i → x.closed[i - 1]? = some u → u < v
  many : x.closures.length ≤ 6
  closures : ∀ s ∈ x.closures, 0 ≤ s.first ∧ s.first ≤ s.last ∧ s.last ≤ 36524
section
variable {H : Type} {enc : TypeId × Value → H} {P : Program} {W : World} {base : Nat} {sp : Nat → Bool} {held : Bool} {fuel : Nat} {t : TypeId} {cs : List Value} {x : DataW H × List MemPlace}
structure DateTy (P : Program) (tIs tSpans tCal : TypeId) : Prop where
  cal : FieldsAre P tCal [(tIs, 0), (tSpans, 1)]
  cal2 : P.cellsOf tCal = 2
variable {tI tIs tSpan tSpans tPaper tPapers tReq tReqs tFile tCal : TypeId}
theorem cal_arg (T : UseTy P tI tIs tSpan tSpans tPaper tPapers tReq tReqs tFile) (D : DateTy P tIs tSpans tCal) {r : Reach} {b0 : Nat} {v : Value} {d : DataW H} {ps : List MemPlace}
    (hv : Value.okWide P W r b0 tCal v) (hz : Light P tCal d) (h : DataW.Trod enc P W base sp held tCal v d ps) : ∃ f y, v = calV f ∧ CalR (getW W) f y := by
  obtain ⟨fs, hu, _⟩ := D.cal
  obtain ⟨cs, rfl, _⟩ := WideShapes.okWide_struct hu hv
  obtain ⟨fuel, hf⟩ := h
  obtain ⟨hl, m, hg⟩ := field_of D.cal hz hf
  rw [D.cal2] at hl
  have hl : cs.toList.length = 2 := hl
  have hcs : ∃ a b, cs.toList = [a, b] := by
    match cs.toList, hl with
    | [a, b], _ => exact ⟨a, b, rfl⟩
  obtain ⟨a, b, hcs⟩ := hcs
  have hc : (Value.agg cs).cells.toList = [a, b] := hcs
  rw [hc] at hg
  obtain ⟨y0, h0, zh0⟩ := hg 0 tIs 0 rfl
  obtain ⟨y1, h1, zh1⟩ := hg 1 tSpans 1 rfl
  rw [T.ints1] at h0; rw [T.spans1] at h1
  obtain ⟨p0, n0, k0, l0, e0, s0⟩ := ints_of_trod T zh0 h0
  obtain ⟨p1, n1, k1, l1, e1, s1⟩ := spans_of_trod T zh1 h1
  simp at e0 e1
  subst e0; subst e1
  exact ⟨⟨p0, n0, k0, p1, n1, k1⟩, ⟨l0, l1⟩, agg_of hc, s0, s1⟩
end
end Go.TM
end
section
namespace Go.Proofs.YtldamlcehbdkdaaDoor
open Go Go.TM Go.Proofs
set_option linter.unusedVariables false
set_option maxRecDepth 100000
noncomputable def n1038 (c_0p : Option Addr) (c_0n c_0c : Nat) (c_1p : Option Addr) (c_1n c_1c : Nat) : T := bif decide ((↑c_0n : Int) > 20) then .leaf (.ret (.bool true)) else .leaf (.ret (.bool (decide ((↑c_1n : Int) > 20))))
theorem t1038 (c_0p : Option Addr) (c_0n c_0c : Nat) (c_1p : Option Addr) (c_1n c_1c : Nat) : ftree ({ P := Tryd.prog, priv := [1], loops := [], joins := [] }) Tryd.f6 [.agg #[.slice c_0p c_0n c_0c, .slice c_1p c_1n c_1c]] = n1038 c_0p c_0n c_0c c_1p c_1n c_1c := by kernel_rfl
theorem w1038 (c_0p : Option Addr) (c_0n c_0c : Nat) (c_1p : Option Addr) (c_1n c_1c : Nat) {X : XP} (hX : XOK X) {h : LH} {A : Value → LH → Prop} (hw : (n1038 c_0p c_0n c_0c c_1p c_1n c_1c).wp X Tryd.prog (retQ A) h) : FWK X Tryd.prog .normal 6 #[.agg #[.slice c_0p c_0n c_0c, .slice c_1p c_1n c_1c]] h A := fwk_neat (t1038 c_0p c_0n c_0c c_1p c_1n c_1c) (by simp) (by kernel_rfl) (by kernel_rfl) hX hw
noncomputable def n1039 (c_0p : Option Addr) (c_0n c_0c : Nat) (c_1p : Option Addr) (c_1n c_1c : Nat) : T := .loop [.int .i64 0, .int .i64 0] (fun vs => .popI .i64 vs fun n vs => .popI .i64 vs fun n_1 vs => .unNil vs (bif decide (n_1 < (↑c_0n : Int)) then .need (0 ≤ n_1 ∧ n_1 < (↑c_0n : Int)) (.someA c_0p fun a => .loadI .i64 (Addr.add a (Int.toNat n_1 * 1)) fun n_2 => .call false 19 #[.int .i64 n_2, .int .i64 0, .int .i64 6] fun v => .unB v fun b => bif !b then .leaf (.retn [.int .i64 1, .int .i64 n_1]) else bif decide (n_1 > 0) then .need (0 ≤ n_1 ∧ n_1 < (↑c_0n : Int)) (.someA c_0p fun a => .loadI .i64 (Addr.add a (Int.toNat n_1 * 1)) fun n_3 => .need (0 ≤ IntKind.wrap .i64 (n_1 - 1) ∧ IntKind.wrap .i64 (n_1 - 1) < (↑c_0n : Int)) (.someA c_0p fun a => .loadI .i64 (Addr.add a (Int.toNat (IntKind.wrap .i64 (n_1 - 1)) * 1)) fun n_4 => bif decide (n_3 ≤ n_4) then .leaf (.retn [.int .i64 7, .int .i64 n_1]) else .leaf (.again [.int .i64 n, .int .i64 (IntKind.wrap .i64 (n_1 + 1))]))) else .nd (.tuple #[]) (.nd (.tuple #[]) (.nd (.tuple #[]) (.nd (.tuple #[]) (.nd (.tuple #[]) (.nd (.tuple #[]) (.nd (.tuple #[]) (.nd (.bool (decide (n_1 > 0))) (.nd (.int .i64 n_1) (.nd (.tuple #[]) (.nd (.tuple #[]) (.nd (.tuple #[]) (.nd (.tuple #[]) (.nd (.tuple #[]) (.nd (.tuple #[]) (.nd (.tuple #[]) (.nd (.bool (decide (n_1 > 0))) (.nd (.int .i64 n_1) (.leaf (.again [.int .i64 n, .int .i64 (IntKind.wrap .i64 (n_1 + 1))])))))))))))))))))))) else .leaf (.brk [.int .i64 n, .int .i64 n_1]))) (fun vs => .popI .i64 vs fun n vs => .popI .i64 vs fun n_1 vs => .unNil vs (bif decide ((↑c_1n : Int) > 6) then .leaf (.ret (.int .i64 2)) else .loop [.int .i64 n, .int .i64 0] (fun vs => .popI .i64 vs fun n vs => .popI .i64 vs fun n_2 vs => .unNil vs (bif decide (n_2 < (↑c_1n : Int)) then .need (0 ≤ n_2 ∧ n_2 < (↑c_1n : Int)) (.someA c_1p fun a => .loadI .i64 (Addr.add (Addr.add a (Int.toNat n_2 * 2)) 0) fun n_3 => .loadI .i64 (Addr.add (Addr.add a (Int.toNat n_2 * 2)) 1) fun n_4 => .call false 20 #[.agg #[.int .i64 n_3, .int .i64 n_4], .int .i64 0, .int .i64 36524] fun v => .unB v fun b => bif !b then .leaf (.retn [.int .i64 1, .int .i64 n_2]) else .leaf (.again [.int .i64 n, .int .i64 (IntKind.wrap .i64 (n_2 + 1))])) else .leaf (.brk [.int .i64 n, .int .i64 n_2]))) (fun vs => .popI .i64 vs fun n vs => .popI .i64 vs fun n vs => .unNil vs (.leaf (.ret (.int .i64 0)))) (fun vs => .popI .i64 vs fun n vs => .popI .i64 vs fun n_2 vs => .unNil vs (.leaf (.ret (.int .i64 n)))) fun x x_1 => .fail)) (fun vs => .popI .i64 vs fun n vs => .popI .i64 vs fun n_1 vs => .unNil vs (.leaf (.ret (.int .i64 n)))) fun x x_1 => .fail
theorem t1039 (c_0p : Option Addr) (c_0n c_0c : Nat) (c_1p : Option Addr) (c_1n c_1c : Nat) : ftree ({ P := Tryd.prog, priv := [1], loops := [{ id := 0, slots := [(2, .int .i64), (3, .int .i64)], ro := [1], outs := [] }, { id := 2, slots := [(2, .int .i64), (4, .int .i64)], ro := [1], outs := [] }], joins := [] }) Tryd.f7 [.agg #[.slice c_0p c_0n c_0c, .slice c_1p c_1n c_1c]] = n1039 c_0p c_0n c_0c c_1p c_1n c_1c := by kernel_rfl
theorem w1039 (c_0p : Option Addr) (c_0n c_0c : Nat) (c_1p : Option Addr) (c_1n c_1c : Nat) {X : XP} (hX : XOK X) {h : LH} {A : Value → LH → Prop} (hw : (n1039 c_0p c_0n c_0c c_1p c_1n c_1c).wp X Tryd.prog (retQ A) h) : FWK X Tryd.prog .normal 7 #[.agg #[.slice c_0p c_0n c_0c, .slice c_1p c_1n c_1c]] h A := fwk_neat (t1039 c_0p c_0n c_0c c_1p c_1n c_1c) (by simp) (by kernel_rfl) (by kernel_rfl) hX hw
noncomputable def n1040 (c_0p : Option Addr) (c_0n c_0c : Nat) (c_1p : Option Addr) (c_1n c_1c : Nat) (start : Int) (t_0 : Int) (t_1 : Int) : T := .call false 34 #[.agg #[.slice c_0p c_0n c_0c, .slice c_1p c_1n c_1c]] fun v => .unI .i64 v fun n => .nd (.agg #[.int .i64 t_0, .int .i64 t_1]) (.nd (.int .i64 start) (.call false 36 #[.int .i64 start] fun v => .unB v fun b => .nd (.agg #[.int .i64 t_0, .int .i64 t_1]) (.call false 35 #[.bool !b, .int .i64 1] fun v => .unI .i64 v fun n_1 => .nd (.agg #[.int .i64 t_0, .int .i64 t_1]) (.call false 37 #[.agg #[.int .i64 t_0, .int .i64 t_1]] fun v => .unI .i64 v fun n_2 => .sem false (Instr.buildSlice 123 3 #[(0, .int .i64 n), (1, .int .i64 n_1), (2, .int .i64 n_2)]) fun v => .unS v fun a n c => .call false 33 #[.slice a n c] fun v => .unI .i64 v fun n => bif n != 0 then .leaf (.ret (.tuple #[.int .i64 0, .int .i64 n])) else .call false 39 #[.int .i64 start, .agg #[.int .i64 t_0, .int .i64 t_1]] fun v => .unI .i64 v fun n => .nd (.agg #[.slice c_0p c_0n c_0c, .slice c_1p c_1n c_1c]) (.call false 38 #[.agg #[.slice c_0p c_0n c_0c, .slice c_1p c_1n c_1c], .int .i64 n] fun v => .unI .i64 v fun n => .leaf (.ret (.tuple #[.int .i64 n, .int .i64 0])))))))
theorem t1040 (c_0p : Option Addr) (c_0n c_0c : Nat) (c_1p : Option Addr) (c_1n c_1c : Nat) (start : Int) (t_0 : Int) (t_1 : Int) : ftree ({ P := Tryd.prog, priv := [3, 5, 8], loops := [], joins := [] }) Tryd.f10 [.agg #[.slice c_0p c_0n c_0c, .slice c_1p c_1n c_1c], .int .i64 start, .agg #[.int .i64 t_0, .int .i64 t_1]] = n1040 c_0p c_0n c_0c c_1p c_1n c_1c start t_0 t_1 := by kernel_rfl
theorem w1040 (c_0p : Option Addr) (c_0n c_0c : Nat) (c_1p : Option Addr) (c_1n c_1c : Nat) (start : Int) (t_0 : Int) (t_1 : Int) {X : XP} (hX : XOK X) {h : LH} {A : Value → LH → Prop} (hw : (n1040 c_0p c_0n c_0c c_1p c_1n c_1c start t_0 t_1).wp X Tryd.prog (retQ A) h) : FWK X Tryd.prog .normal 10 #[.agg #[.slice c_0p c_0n c_0c, .slice c_1p c_1n c_1c], .int .i64 start, .agg #[.int .i64 t_0, .int .i64 t_1]] h A := fwk_neat (t1040 c_0p c_0n c_0c c_1p c_1n c_1c start t_0 t_1) (by simp) (by kernel_rfl) (by kernel_rfl) hX hw
noncomputable def n1074 (flawsp : Option Addr) (flawsn flawsc : Nat) : T := .loop [.int .i64 0, .int .i64 0] (fun vs => .popI .i64 vs fun n vs => .popI .i64 vs fun n_1 vs => .unNil vs (bif decide (n_1 < (↑flawsn : Int)) then .need (0 ≤ n_1 ∧ n_1 < (↑flawsn : Int)) (.someA flawsp fun a => .loadI .i64 (Addr.add a (Int.toNat n_1 * 1)) fun n_2 => bif n_2 != 0 then .leaf (.retn [.int .i64 n_2, .int .i64 n_1]) else .leaf (.again [.int .i64 n, .int .i64 (IntKind.wrap .i64 (n_1 + 1))])) else .leaf (.brk [.int .i64 n, .int .i64 n_1]))) (fun vs => .popI .i64 vs fun n vs => .popI .i64 vs fun n vs => .unNil vs (.leaf (.ret (.int .i64 0)))) (fun vs => .popI .i64 vs fun n vs => .popI .i64 vs fun n_1 vs => .unNil vs (.leaf (.ret (.int .i64 n)))) fun x x_1 => .fail
theorem t1074 (flawsp : Option Addr) (flawsn flawsc : Nat) : ftree ({ P := Tryd.prog, priv := [], loops := [{ id := 0, slots := [(2, .int .i64), (7, .int .i64)], ro := [], outs := [] }], joins := [] }) Tryd.f33 [.slice flawsp flawsn flawsc] = n1074 flawsp flawsn flawsc := by kernel_rfl
theorem w1074 (flawsp : Option Addr) (flawsn flawsc : Nat) {X : XP} (hX : XOK X) {h : LH} {A : Value → LH → Prop} (hw : (n1074 flawsp flawsn flawsc).wp X Tryd.prog (retQ A) h) : FWK X Tryd.prog .normal 33 #[.slice flawsp flawsn flawsc] h A := fwk_neat (t1074 flawsp flawsn flawsc) (by simp) (by kernel_rfl) (by kernel_rfl) hX hw
noncomputable def n1075 (c_0p : Option Addr) (c_0n c_0c : Nat) (c_1p : Option Addr) (c_1n c_1c : Nat) : T := .loop [.int .i64 0, .int .i64 0] (fun vs => .popI .i64 vs fun n vs => .popI .i64 vs fun n_1 vs => .unNil vs (bif decide (n_1 < (↑c_0n : Int)) then .need (0 ≤ n_1 ∧ n_1 < (↑c_0n : Int)) (.someA c_0p fun a => .loadI .i64 (Addr.add a (Int.toNat n_1 * 1)) fun n_2 => .call false 71 #[.int .i64 n_2, .int .i64 0, .int .i64 6] fun v => .unB v fun b => bif !b then .leaf (.retn [.int .i64 1, .int .i64 n_1]) else bif decide (n_1 > 0) then .need (0 ≤ IntKind.wrap .i64 (n_1 - 1) ∧ IntKind.wrap .i64 (n_1 - 1) < (↑c_0n : Int)) (.someA c_0p fun a => .loadI .i64 (Addr.add a (Int.toNat (IntKind.wrap .i64 (n_1 - 1)) * 1)) fun n_3 => bif decide (n_2 ≤ n_3) then .leaf (.retn [.int .i64 7, .int .i64 n_1]) else .leaf (.again [.int .i64 n, .int .i64 (IntKind.wrap .i64 (n_1 + 1))])) else .leaf (.again [.int .i64 n, .int .i64 (IntKind.wrap .i64 (n_1 + 1))])) else .leaf (.brk [.int .i64 n, .int .i64 n_1]))) (fun vs => .popI .i64 vs fun n vs => .popI .i64 vs fun n vs => .unNil vs (bif decide ((↑c_1n : Int) > 6) then .leaf (.ret (.int .i64 2)) else .call false 73 #[.slice c_1p c_1n c_1c, .func (Fn.func 72) #[] #[]] fun v => .unB v fun b => .call false 35 #[.bool b, .int .i64 1] fun v => .unI .i64 v fun n => .leaf (.ret (.int .i64 n)))) (fun vs => .popI .i64 vs fun n vs => .popI .i64 vs fun n_1 vs => .unNil vs (.leaf (.ret (.int .i64 n)))) fun x x_1 => .fail
theorem t1075 (c_0p : Option Addr) (c_0n c_0c : Nat) (c_1p : Option Addr) (c_1n c_1c : Nat) : ftree ({ P := Tryd.prog, priv := [1], loops := [{ id := 0, slots := [(2, .int .i64), (10, .int .i64)], ro := [1], outs := [] }], joins := [] }) Tryd.f34 [.agg #[.slice c_0p c_0n c_0c, .slice c_1p c_1n c_1c]] = n1075 c_0p c_0n c_0c c_1p c_1n c_1c := by kernel_rfl
theorem w1075 (c_0p : Option Addr) (c_0n c_0c : Nat) (c_1p : Option Addr) (c_1n c_1c : Nat) {X : XP} (hX : XOK X) {h : LH} {A : Value → LH → Prop} (hw : (n1075 c_0p c_0n c_0c c_1p c_1n c_1c).wp X Tryd.prog (retQ A) h) : FWK X Tryd.prog .normal 34 #[.agg #[.slice c_0p c_0n c_0c, .slice c_1p c_1n c_1c]] h A := fwk_neat (t1075 c_0p c_0n c_0c c_1p c_1n c_1c) (by simp) (by kernel_rfl) (by kernel_rfl) hX hw
noncomputable def n1076 (is : Bool) (f : Int) : T := bif is then .leaf (.ret (.int .i64 f)) else .leaf (.ret (.int .i64 0))
theorem t1076 (is : Bool) (f : Int) : ftree ({ P := Tryd.prog, priv := [], loops := [], joins := [] }) Tryd.f35 [.bool is, .int .i64 f] = n1076 is f := by kernel_rfl
theorem w1076 (is : Bool) (f : Int) {X : XP} (hX : XOK X) {h : LH} {A : Value → LH → Prop} (hw : (n1076 is f).wp X Tryd.prog (retQ A) h) : FWK X Tryd.prog .normal 35 #[.bool is, .int .i64 f] h A := fwk_neat (t1076 is f) (by simp) (by kernel_rfl) (by kernel_rfl) hX hw
noncomputable def n1077 (n : Int) : T := .call false 71 #[.int .i64 n, .int .i64 0, .int .i64 36524] fun v => .unB v fun b => .leaf (.ret (.bool b))
theorem t1077 (n : Int) : ftree ({ P := Tryd.prog, priv := [], loops := [], joins := [] }) Tryd.f36 [.int .i64 n] = n1077 n := by kernel_rfl
theorem w1077 (n : Int) {X : XP} (hX : XOK X) {h : LH} {A : Value → LH → Prop} (hw : (n1077 n).wp X Tryd.prog (retQ A) h) : FWK X Tryd.prog .normal 36 #[.int .i64 n] h A := fwk_neat (t1077 n) (by simp) (by kernel_rfl) (by kernel_rfl) hX hw
noncomputable def n1078 (t_0 : Int) (t_1 : Int) : T := .call false 71 #[.int .i64 t_0, .int .i64 0, .int .i64 999] fun v => .unB v fun b => bif !b then .call false 35 #[.bool true, .int .i64 1] fun v => .unI .i64 v fun n => .leaf (.ret (.int .i64 n)) else .call false 71 #[.int .i64 t_1, .int .i64 0, .int .i64 2] fun v => .unB v fun b => .call false 35 #[.bool !b, .int .i64 1] fun v => .unI .i64 v fun n => .leaf (.ret (.int .i64 n))
theorem t1078 (t_0 : Int) (t_1 : Int) : ftree ({ P := Tryd.prog, priv := [1], loops := [], joins := [] }) Tryd.f37 [.agg #[.int .i64 t_0, .int .i64 t_1]] = n1078 t_0 t_1 := by kernel_rfl
theorem w1078 (t_0 : Int) (t_1 : Int) {X : XP} (hX : XOK X) {h : LH} {A : Value → LH → Prop} (hw : (n1078 t_0 t_1).wp X Tryd.prog (retQ A) h) : FWK X Tryd.prog .normal 37 #[.agg #[.int .i64 t_0, .int .i64 t_1]] h A := fwk_neat (t1078 t_0 t_1) (by simp) (by kernel_rfl) (by kernel_rfl) hX hw
noncomputable def n1079 (c_0p : Option Addr) (c_0n c_0c : Nat) (c_1p : Option Addr) (c_1n c_1c : Nat) (day : Int) : T := .call false 74 #[.agg #[.slice c_0p c_0n c_0c, .slice c_1p c_1n c_1c], .int .i64 day] fun v => .each v [.int .i64 0] (fun xs vs => .unCons xs fun v vs_1 => .unI .i64 v fun n => .unNil vs_1 (.popI .i64 vs fun n_1 vs => .unNil vs (.leaf (.retn [.int .i64 n])))) (fun vs => .popI .i64 vs fun n vs => .unNil vs (.leaf (.ret (.int .i64 36524)))) (fun vs => .popI .i64 vs fun n vs => .unNil vs (.leaf (.ret (.int .i64 36524)))) (fun vs => .popI .i64 vs fun n vs => .unNil vs (.leaf (.ret (.int .i64 n)))) fun x x_1 => .fail
theorem t1079 (c_0p : Option Addr) (c_0n c_0c : Nat) (c_1p : Option Addr) (c_1n c_1c : Nat) (day : Int) : ftree ({ P := Tryd.prog, priv := [2, 4], loops := [{ id := 0, slots := [(20480, .int .i64)], ro := [2], outs := [], ps := [.cell (.int .i64)] }], joins := [] }) Tryd.f38 [.agg #[.slice c_0p c_0n c_0c, .slice c_1p c_1n c_1c], .int .i64 day] = n1079 c_0p c_0n c_0c c_1p c_1n c_1c day := by kernel_rfl
theorem w1079 (c_0p : Option Addr) (c_0n c_0c : Nat) (c_1p : Option Addr) (c_1n c_1c : Nat) (day : Int) {X : XP} (hX : XOK X) {h : LH} {A : Value → LH → Prop} (hw : (n1079 c_0p c_0n c_0c c_1p c_1n c_1c day).wp X Tryd.prog (retQ A) h) : FWK X Tryd.prog .normal 38 #[.agg #[.slice c_0p c_0n c_0c, .slice c_1p c_1n c_1c], .int .i64 day] h A := fwk_neat (t1079 c_0p c_0n c_0c c_1p c_1n c_1c day) (by simp) (by kernel_rfl) (by kernel_rfl) hX hw
noncomputable def n1080 (start : Int) (t_0 : Int) (t_1 : Int) : T := bif t_1 == 1 then .leaf (.ret (.int .i64 (if IntKind.wrap .i64 (start + IntKind.wrap .i64 (t_0 * 7)) < 36524 then IntKind.wrap .i64 (start + IntKind.wrap .i64 (t_0 * 7)) else 36524))) else bif t_1 == 0 then .leaf (.ret (.int .i64 (if IntKind.wrap .i64 (start + t_0) < 36524 then IntKind.wrap .i64 (start + t_0) else 36524))) else .call false 75 #[.int .i64 start] fun v => .unTup v fun l => .unCons l fun v vs => .unI .i64 v fun n => .unCons vs fun v vs => .unI .i64 v fun n_1 => .unCons vs fun v vs => .unI .i64 v fun n_2 => .unNil vs (.need ((12 : Int) ≠ 0) (.need ((12 : Int) ≠ 0) (bif decide (IntKind.wrap .i64 (n + IntKind.wrap .i64 (Int.tdiv (IntKind.wrap .i64 (n_1 + IntKind.wrap .i64 (t_0 - 1))) 12)) > 2099) then .leaf (.ret (.int .i64 36524)) else .call false 77 #[.int .i64 (IntKind.wrap .i64 (n + IntKind.wrap .i64 (Int.tdiv (IntKind.wrap .i64 (n_1 + IntKind.wrap .i64 (t_0 - 1))) 12))), .int .i64 (IntKind.wrap .i64 (Int.tmod (IntKind.wrap .i64 (n_1 + IntKind.wrap .i64 (t_0 - 1))) 12 + 1))] fun v => .unI .i64 v fun n_3 => .call false 76 #[.int .i64 (IntKind.wrap .i64 (n + IntKind.wrap .i64 (Int.tdiv (IntKind.wrap .i64 (n_1 + IntKind.wrap .i64 (t_0 - 1))) 12))), .int .i64 (IntKind.wrap .i64 (Int.tmod (IntKind.wrap .i64 (n_1 + IntKind.wrap .i64 (t_0 - 1))) 12 + 1)), .int .i64 (if n_3 < n_2 then n_3 else n_2)] fun v => .unI .i64 v fun n => .leaf (.ret (.int .i64 n)))))
theorem t1080 (start : Int) (t_0 : Int) (t_1 : Int) : ftree ({ P := Tryd.prog, priv := [3], loops := [], joins := [] }) Tryd.f39 [.int .i64 start, .agg #[.int .i64 t_0, .int .i64 t_1]] = n1080 start t_0 t_1 := by kernel_rfl
theorem w1080 (start : Int) (t_0 : Int) (t_1 : Int) {X : XP} (hX : XOK X) {h : LH} {A : Value → LH → Prop} (hw : (n1080 start t_0 t_1).wp X Tryd.prog (retQ A) h) : FWK X Tryd.prog .normal 39 #[.int .i64 start, .agg #[.int .i64 t_0, .int .i64 t_1]] h A := fwk_neat (t1080 start t_0 t_1) (by simp) (by kernel_rfl) (by kernel_rfl) hX hw
noncomputable def n1102 (n : Int) (first : Int) (last : Int) : T := bif decide (first ≤ n) then .leaf (.ret (.bool (decide (n ≤ last)))) else .leaf (.ret (.bool false))
theorem t1102 (n : Int) (first : Int) (last : Int) : ftree ({ P := Tryd.prog, priv := [], loops := [], joins := [] }) Tryd.f71 [.int .i64 n, .int .i64 first, .int .i64 last] = n1102 n first last := by kernel_rfl
theorem w1102 (n : Int) (first : Int) (last : Int) {X : XP} (hX : XOK X) {h : LH} {A : Value → LH → Prop} (hw : (n1102 n first last).wp X Tryd.prog (retQ A) h) : FWK X Tryd.prog .normal 71 #[.int .i64 n, .int .i64 first, .int .i64 last] h A := fwk_neat (t1102 n first last) (by simp) (by kernel_rfl) (by kernel_rfl) hX hw
noncomputable def n1103 (s_0 : Int) (s_1 : Int) : T := .call false 36 #[.int .i64 s_0] fun v => .unB v fun b => bif !b then .leaf (.ret (.bool true)) else .call false 36 #[.int .i64 s_1] fun v => .unB v fun b => bif !b then .leaf (.ret (.bool true)) else .leaf (.ret (.bool (decide (s_0 > s_1))))
theorem t1103 (s_0 : Int) (s_1 : Int) : ftree ({ P := Tryd.prog, priv := [1], loops := [], joins := [] }) Tryd.f72 [.agg #[.int .i64 s_0, .int .i64 s_1]] = n1103 s_0 s_1 := by kernel_rfl
theorem w1103 (s_0 : Int) (s_1 : Int) {X : XP} (hX : XOK X) {h : LH} {A : Value → LH → Prop} (hw : (n1103 s_0 s_1).wp X Tryd.prog (retQ A) h) : FWK X Tryd.prog .normal 72 #[.agg #[.int .i64 s_0, .int .i64 s_1]] h A := fwk_neat (t1103 s_0 s_1) (by simp) (by kernel_rfl) (by kernel_rfl) hX hw
noncomputable def n1104 (c_0p : Option Addr) (c_0n c_0c : Nat) (c_1p : Option Addr) (c_1n c_1c : Nat) (day : Int) : T := .new 81 #[.slice c_0p c_0n c_0c, .slice c_1p c_1n c_1c] fun r => .new 3 #[.int .i64 day] fun r_1 => .leaf (.ret (.func (Fn.func 108) #[] #[.pointer (some { block := r_1, off := 0 }), .pointer (some { block := r, off := 0 })]))
theorem t1104 (c_0p : Option Addr) (c_0n c_0c : Nat) (c_1p : Option Addr) (c_1n c_1c : Nat) (day : Int) : ftree ({ P := Tryd.prog, priv := [], loops := [], joins := [] }) Tryd.f74 [.agg #[.slice c_0p c_0n c_0c, .slice c_1p c_1n c_1c], .int .i64 day] = n1104 c_0p c_0n c_0c c_1p c_1n c_1c day := by kernel_rfl
theorem w1104 (c_0p : Option Addr) (c_0n c_0c : Nat) (c_1p : Option Addr) (c_1n c_1c : Nat) (day : Int) {X : XP} (hX : XOK X) {h : LH} {A : Value → LH → Prop} (hw : (n1104 c_0p c_0n c_0c c_1p c_1n c_1c day).wp X Tryd.prog (retQ A) h) : FWK X Tryd.prog .normal 74 #[.agg #[.slice c_0p c_0n c_0c, .slice c_1p c_1n c_1c], .int .i64 day] h A := fwk_neat (t1104 c_0p c_0n c_0c c_1p c_1n c_1c day) (by simp) (by kernel_rfl) (by kernel_rfl) hX hw
noncomputable def n1105 (day : Int) : T := .loop [.int .i64 2000] (fun vs => .popI .i64 vs fun n vs => .unNil vs (bif decide (n < 2099) then .call false 111 #[.int .i64 (IntKind.wrap .i64 (n + 1))] fun v => .unI .i64 v fun n_1 => bif decide (n_1 ≤ day) then .leaf (.again [.int .i64 (IntKind.wrap .i64 (n + 1))]) else .leaf (.brk [.int .i64 n]) else .leaf (.brk [.int .i64 n]))) (fun vs => .popI .i64 vs fun n vs => .unNil vs (.call false 111 #[.int .i64 n] fun v => .unI .i64 v fun n_1 => .loop [.int .i64 (IntKind.wrap .i64 (day - n_1)), .int .i64 1] (fun vs => .popI .i64 vs fun n_2 vs => .popI .i64 vs fun n_3 vs => .unNil vs (.call false 77 #[.int .i64 n, .int .i64 n_3] fun v => .unI .i64 v fun n_4 => bif decide (n_2 ≥ n_4) then .call false 77 #[.int .i64 n, .int .i64 n_3] fun v => .unI .i64 v fun n => .leaf (.again [.int .i64 (IntKind.wrap .i64 (n_2 - n)), .int .i64 (IntKind.wrap .i64 (n_3 + 1))]) else .leaf (.brk [.int .i64 n_2, .int .i64 n_3]))) (fun vs => .popI .i64 vs fun n_2 vs => .popI .i64 vs fun n_3 vs => .unNil vs (.leaf (.ret (.tuple #[.int .i64 n, .int .i64 n_3, .int .i64 (IntKind.wrap .i64 (n_2 + 1))])))) (fun vs => .popI .i64 vs fun n_2 vs => .popI .i64 vs fun n_3 vs => .unNil vs (.leaf (.ret (.tuple #[.int .i64 n, .int .i64 n_3, .int .i64 0])))) fun x x_1 => .fail)) (fun vs => .popI .i64 vs fun n vs => .unNil vs (.leaf (.ret (.tuple #[.int .i64 n, .int .i64 0, .int .i64 0])))) fun x x_1 => .fail
theorem t1105 (day : Int) : ftree ({ P := Tryd.prog, priv := [], loops := [{ id := 0, slots := [(2, .int .i64)], ro := [], outs := [] }, { id := 2, slots := [(0, .int .i64), (3, .int .i64)], ro := [], outs := [] }], joins := [] }) Tryd.f75 [.int .i64 day] = n1105 day := by kernel_rfl
theorem w1105 (day : Int) {X : XP} (hX : XOK X) {h : LH} {A : Value → LH → Prop} (hw : (n1105 day).wp X Tryd.prog (retQ A) h) : FWK X Tryd.prog .normal 75 #[.int .i64 day] h A := fwk_neat (t1105 day) (by simp) (by kernel_rfl) (by kernel_rfl) hX hw
noncomputable def n1106 (year : Int) (month : Int) (date : Int) : T := .call false 111 #[.int .i64 year] fun v => .unI .i64 v fun n => .loop [.int .i64 n, .int .i64 1] (fun vs => .popI .i64 vs fun n vs => .popI .i64 vs fun n_1 vs => .unNil vs (bif decide (n_1 < month) then .call false 77 #[.int .i64 year, .int .i64 n_1] fun v => .unI .i64 v fun n_2 => .leaf (.again [.int .i64 (IntKind.wrap .i64 (n + n_2)), .int .i64 (IntKind.wrap .i64 (n_1 + 1))]) else .leaf (.brk [.int .i64 n, .int .i64 n_1]))) (fun vs => .popI .i64 vs fun n vs => .popI .i64 vs fun n_1 vs => .unNil vs (.leaf (.ret (.int .i64 (IntKind.wrap .i64 (IntKind.wrap .i64 (n + date) - 1)))))) (fun vs => .popI .i64 vs fun n vs => .popI .i64 vs fun n vs => .unNil vs (.leaf (.ret (.int .i64 0)))) fun x x_1 => .fail
theorem t1106 (year : Int) (month : Int) (date : Int) : ftree ({ P := Tryd.prog, priv := [], loops := [{ id := 0, slots := [(7, .int .i64), (8, .int .i64)], ro := [], outs := [] }], joins := [] }) Tryd.f76 [.int .i64 year, .int .i64 month, .int .i64 date] = n1106 year month date := by kernel_rfl
theorem w1106 (year : Int) (month : Int) (date : Int) {X : XP} (hX : XOK X) {h : LH} {A : Value → LH → Prop} (hw : (n1106 year month date).wp X Tryd.prog (retQ A) h) : FWK X Tryd.prog .normal 76 #[.int .i64 year, .int .i64 month, .int .i64 date] h A := fwk_neat (t1106 year month date) (by simp) (by kernel_rfl) (by kernel_rfl) hX hw
noncomputable def n1107 (year : Int) (month : Int) : T := bif month == 2 then .need ((4 : Int) ≠ 0) (bif Int.tmod year 4 == 0 then .leaf (.ret (.int .i64 29)) else .need (0 ≤ IntKind.wrap .i64 (month - 1) ∧ IntKind.wrap .i64 (month - 1) < (↑12 : Int)) (.loadI .i64 (Addr.add { block := 0, off := 0 } (Int.toNat (IntKind.wrap .i64 (month - 1)) * 1)) fun n => .leaf (.ret (.int .i64 n)))) else .need (0 ≤ IntKind.wrap .i64 (month - 1) ∧ IntKind.wrap .i64 (month - 1) < (↑12 : Int)) (.loadI .i64 (Addr.add { block := 0, off := 0 } (Int.toNat (IntKind.wrap .i64 (month - 1)) * 1)) fun n => .leaf (.ret (.int .i64 n)))
theorem t1107 (year : Int) (month : Int) : ftree ({ P := Tryd.prog, priv := [], loops := [], joins := [] }) Tryd.f77 [.int .i64 year, .int .i64 month] = n1107 year month := by kernel_rfl
theorem w1107 (year : Int) (month : Int) {X : XP} (hX : XOK X) {h : LH} {A : Value → LH → Prop} (hw : (n1107 year month).wp X Tryd.prog (retQ A) h) : FWK X Tryd.prog .normal 77 #[.int .i64 year, .int .i64 month] h A := fwk_neat (t1107 year month) (by simp) (by kernel_rfl) (by kernel_rfl) hX hw
noncomputable def n1116 (yield : Value) (z0 : Addr) (z1 : Addr) : T := .loop [] (fun vs => .unNil vs (.loadI .i64 z0 fun n => .call false 36 #[.int .i64 n] fun v => .unB v fun b => bif b then .loadS (Addr.add (Addr.add z1 0) 0) fun p n c => .loadI .i64 z0 fun n_1 => .need ((7 : Int) ≠ 0) (.call false 109 #[.slice p n c, .int .i64 (Int.tmod (IntKind.wrap .i64 (n_1 + 5)) 7)] fun v => .unB v fun b => bif b then .loadI .i64 z0 fun n => .store (Addr.add z0 0) (.int .i64 (IntKind.wrap .i64 (n + 1))) (.leaf (.again [])) else .loadS (Addr.add (Addr.add z1 0) 1) fun p n c => .call false 73 #[.slice p n c, .func (Fn.func 110) #[] #[.pointer (some z0)]] fun v => .unB v fun b => bif !b then .loadI .i64 z0 fun n => .callv false yield #[.int .i64 n] fun v => .unB v fun b => bif !b then .leaf (.retn []) else .loadI .i64 z0 fun n => .store (Addr.add z0 0) (.int .i64 (IntKind.wrap .i64 (n + 1))) (.leaf (.again [])) else .loadI .i64 z0 fun n => .store (Addr.add z0 0) (.int .i64 (IntKind.wrap .i64 (n + 1))) (.leaf (.again []))) else .leaf (.brk []))) (fun vs => .unNil vs (.leaf (.ret (.tuple #[])))) (fun vs => .unNil vs (.leaf (.ret (.tuple #[])))) fun x x_1 => .fail
theorem t1116 (yield : Value) (z0 : Addr) (z1 : Addr) : ftree ({ P := Tryd.prog, priv := [], loops := [{ id := 0, slots := [], ro := [], outs := [] }], joins := [] }) Tryd.f108 [yield, .pointer (some z0), .pointer (some z1)] = n1116 yield z0 z1 := by kernel_rfl
theorem w1116 (yield : Value) (z0 : Addr) (z1 : Addr) {X : XP} (hX : XOK X) {h : LH} {A : Value → LH → Prop} (hw : (n1116 yield z0 z1).wp X Tryd.prog (retQ A) h) : FWK X Tryd.prog .normal 108 #[yield, .pointer (some z0), .pointer (some z1)] h A := fwk_neat (t1116 yield z0 z1) (by simp) (by kernel_rfl) (by kernel_rfl) hX hw
noncomputable def n1117 (s_0 : Int) (s_1 : Int) (z0 : Addr) : T := .loadI .i64 z0 fun n => .call false 71 #[.int .i64 n, .int .i64 s_0, .int .i64 s_1] fun v => .unB v fun b => .leaf (.ret (.bool b))
theorem t1117 (s_0 : Int) (s_1 : Int) (z0 : Addr) : ftree ({ P := Tryd.prog, priv := [2], loops := [], joins := [] }) Tryd.f110 [.agg #[.int .i64 s_0, .int .i64 s_1], .pointer (some z0)] = n1117 s_0 s_1 z0 := by kernel_rfl
theorem w1117 (s_0 : Int) (s_1 : Int) (z0 : Addr) {X : XP} (hX : XOK X) {h : LH} {A : Value → LH → Prop} (hw : (n1117 s_0 s_1 z0).wp X Tryd.prog (retQ A) h) : FWK X Tryd.prog .normal 110 #[.agg #[.int .i64 s_0, .int .i64 s_1], .pointer (some z0)] h A := fwk_neat (t1117 s_0 s_1 z0) (by simp) (by kernel_rfl) (by kernel_rfl) hX hw
noncomputable def n1118 (year : Int) : T := .need ((4 : Int) ≠ 0) (.need ((4 : Int) ≠ 0) (.need ((4 : Int) ≠ 0) (.leaf (.ret (.int .i64 (IntKind.wrap .i64 (IntKind.wrap .i64 (IntKind.wrap .i64 (IntKind.wrap .i64 (Int.tdiv (IntKind.wrap .i64 (year - 2000)) 4) * 1461) + IntKind.wrap .i64 (Int.tmod (IntKind.wrap .i64 (year - 2000)) 4 * 365)) + if Int.tmod (IntKind.wrap .i64 (year - 2000)) 4 < 1 then Int.tmod (IntKind.wrap .i64 (year - 2000)) 4 else 1)))))))
theorem t1118 (year : Int) : ftree ({ P := Tryd.prog, priv := [], loops := [], joins := [] }) Tryd.f111 [.int .i64 year] = n1118 year := by kernel_rfl
theorem w1118 (year : Int) {X : XP} (hX : XOK X) {h : LH} {A : Value → LH → Prop} (hw : (n1118 year).wp X Tryd.prog (retQ A) h) : FWK X Tryd.prog .normal 111 #[.int .i64 year] h A := fwk_neat (t1118 year) (by simp) (by kernel_rfl) (by kernel_rfl) hX hw
end Go.Proofs.YtldamlcehbdkdaaDoor
end
section
namespace Go.Proofs.YtldamlcehbdkdaaDoor
open Go Go.TM Go.Proofs
attribute [local irreducible] T.wp CV FWK
theorem c1102 {h : LH} (n a b : Int) : Pu Tryd.prog 71 #[.int .i64 n, .int .i64 a, .int .i64 b] h (.bool (isIn n a b)) := by
  refine w1102 _ _ _ X0_ok ?_
  unfold n1102
  refine t_if (fun e => ?_) (fun e => ?_) <;> refine t_ret ⟨?_, rfl⟩ <;> simp [isIn, e]
theorem c1077 {h : LH} (n : Int) : Pu Tryd.prog 36 #[.int .i64 n] h (.bool (isIn n 0 36524)) := by
  refine w1077 _ X0_ok ?_
  unfold n1077
  refine t_pu (c1102 _ _ _) ?_
  refine gZ ?_
  exact t_ret ⟨rfl, rfl⟩
theorem c1076 {h : LH} (b : Bool) (n : Int) : Pu Tryd.prog 35 #[.bool b, .int .i64 n] h (.int .i64 (if b then n else 0)) := by
  refine w1076 _ _ X0_ok ?_
  unfold n1076
  refine t_cond (fun e => ?_) (fun e => ?_) <;> refine t_ret ⟨?_, rfl⟩ <;> simp [e]
def firstNZ : List Int → Int
  | [] => 0
  | x :: l => if x ≠ 0 then x else firstNZ l
theorem c1074 {h : LH} {p : Option Addr} {n c : Nat} {l : List Int} (hl : Sl IntE 1 h.get p n l) : Pu Tryd.prog 33 #[.slice p n c] h (.int .i64 (firstNZ l)) := by
  refine w1074 _ _ _ X0_ok ?_
  unfold n1074
  have hn := hl.1
  have hb := hl.2.1
  refine t_loop (fun mm vs h' => h = h' ∧ ∃ i : Nat, vs = [.int .i64 0, .int .i64 i] ∧ i ≤ n ∧ mm = n - i ∧ firstNZ l = firstNZ (l.drop i)) ⟨rfl, 0, rfl, Nat.zero_le _, rfl, rfl⟩ ?_
  rintro Y mm vs _ hY ⟨rfl, i, rfl, hi, rfl, hc⟩
  refine gZ ?_
  refine t_if (fun e1 => ?_) (fun e1 => ?_)
  · obtain ⟨x, a, hx, ha, e2⟩ := hl.at (i := i) (by omega)
    unfold IntE at e2
    rw [drop_of hx, firstNZ] at hc
    refine gZ ?_
    refine t_cond (fun b1 => ?_) (fun b1 => ?_)
    · have hx0 : x ≠ 0 := by simpa using b1
      rw [if_pos hx0] at hc
      refine gZ ?_
      exact t_ret ⟨by rw [hc], rfl⟩
    · have hx0 : x = 0 := by simpa using b1
      rw [if_neg (by simp [hx0])] at hc
      refine t_again (hY (n - (i + 1)) _ _ (by omega) ⟨rfl, i + 1, ?_, by omega, rfl, hc⟩)
      rw [wrap_id (by omega) (by omega)]; rfl
  · refine gZ ?_
    rw [List.drop_eq_nil_of_le (by omega)] at hc
    exact t_ret ⟨by rw [hc]; rfl, rfl⟩
end Go.Proofs.YtldamlcehbdkdaaDoor
end
section
namespace Go.Proofs.YtldamlcehbdkdaaDoor
open Go Go.TM Go.Proofs
attribute [local irreducible] T.wp CV FWK
def beforeY (year : Int) : Int := (year - 2000) / 4 * 1461 + (year - 2000) % 4 * 365 + (if (year - 2000) % 4 < 1 then (year - 2000) % 4 else 1)
theorem c1118 {h : LH} {year : Int} (hy : 2000 ≤ year ∧ year ≤ 2200) : Pu Tryd.prog 111 #[.int .i64 year] h (.int .i64 (beforeY year)) := by
  refine w1118 _ X0_ok ?_
  unfold n1118
  refine gZ ?_
  refine t_ret ⟨?_, rfl⟩
  have h1 : IntKind.wrap .i64 (year - 2000) = year - 2000 := wrap_id (by omega) (by omega)
  have h2 : Int.tdiv (year - 2000) 4 = (year - 2000) / 4 := Int.tdiv_eq_ediv_of_nonneg (by omega)
  have h3 : Int.tmod (year - 2000) 4 = (year - 2000) % 4 := Int.tmod_eq_emod_of_nonneg (by omega)
  rw [h1, h2, h3]
  have e1 : IntKind.wrap .i64 ((year - 2000) / 4) = (year - 2000) / 4 := wrap_id (by omega) (by omega)
  rw [e1]
  have e2 : IntKind.wrap .i64 ((year - 2000) / 4 * 1461) = (year - 2000) / 4 * 1461 := wrap_id (by omega) (by omega)
  have e3 : IntKind.wrap .i64 ((year - 2000) % 4 * 365) = (year - 2000) % 4 * 365 := wrap_id (by omega) (by omega)
  rw [e2, e3]
  have e4 : IntKind.wrap .i64 ((year - 2000) / 4 * 1461 + (year - 2000) % 4 * 365) = (year - 2000) / 4 * 1461 + (year - 2000) % 4 * 365 := wrap_id (by omega) (by omega)
  rw [e4]
  rw [wrap_id (by split <;> omega) (by split <;> omega)]
  rfl
end Go.Proofs.YtldamlcehbdkdaaDoor
end
section
namespace Go.Proofs.YtldamlcehbdkdaaDoor
open Go Go.TM Go.Proofs
attribute [local irreducible] T.wp CV FWK
def Lens (h : Cells) : Prop := ∀ j : Nat, j < 12 → h.cell? ⟨0, j, none⟩ = some (.int .i64 (Te.lens.getD j 0))
theorem Lens.le {h h' : Cells} (hl : h.le h') (l : Lens h) : Lens h' := fun j hj => Cells.cell?_le hl (l j hj)
theorem c1107 {h : LH} (hl : Lens h.get) {y m : Int} (hy : 0 ≤ y) (hm : 1 ≤ m ∧ m ≤ 12) : Pu Tryd.prog 77 #[.int .i64 y, .int .i64 m] h (.int .i64 (Te.lengthT y m)) := by
  refine w1107 _ _ X0_ok ?_
  unfold n1107
  have e0 : IntKind.wrap .i64 (m - 1) = m - 1 := wrap_id (by omega) (by omega)
  have e1 : h.get.cell? (Addr.add ⟨0, 0, none⟩ (Int.toNat (m - 1) * 1)) = some (.int .i64 (Te.lens.getD (m - 1).toNat 0)) := by
    rw [add_plain, Nat.zero_add, Nat.mul_one]
    exact hl _ (by omega)
  have e2 : Int.tmod y 4 = y % 4 := Int.tmod_eq_emod_of_nonneg hy
  rw [e0, e2]
  have hm' : 0 ≤ m - 1 ∧ m - 1 < ((12 : Nat) : Int) := by omega
  refine t_cond (fun b => ?_) (fun b => ?_)
  · have b' : m = 2 := by simpa using b
    refine gZ ?_
    refine t_cond (fun c => ?_) (fun c => ?_)
    · have c' : y % 4 = 0 := by simpa using c
      refine t_ret ⟨?_, rfl⟩
      rw [Te.lengthT, if_pos ⟨b', c'⟩]
    · have c' : ¬ y % 4 = 0 := by simpa using c
      refine gZ ?_
      refine t_ret ⟨?_, rfl⟩
      rw [Te.lengthT, if_neg (fun hh => c' hh.2)]
  · have b' : ¬ m = 2 := by simpa using b
    refine gZ ?_
    refine t_ret ⟨?_, rfl⟩
    rw [Te.lengthT, if_neg (fun hh => b' hh.1)]
theorem before_same (y : Int) : beforeY y = Te.beforeT y := rfl
theorem sum_range {y : Int} : ∀ m : Nat, m ≤ 12 → 0 ≤ Te.sumT y m ∧ Te.sumT y m ≤ 31 * m
  | 0, _ => by simp [Te.sumT]
  | 1, _ => by simp [Te.sumT]
  | m + 2, h => by
    have ih := sum_range (y := y) (m + 1) (by omega)
    have := Te.length_range (y := y) (m := ((m + 1 : Nat) : Int)) (by omega)
    rw [Te.sumT]
    omega
theorem c1105 {h : LH} (hl : Lens h.get) {s : Int} (hs : 0 ≤ s ∧ s ≤ 36524) : FW X0 Tryd.prog 75 #[.int .i64 s] h fun r h' => h = h' ∧ ∃ y m d, r = .tuple #[.int .i64 y, .int .i64 m, .int .i64 d] ∧ Te.PartsOf s y m d := by
  refine w1105 _ X0_ok ?_
  unfold n1105
  have y0 := Te.year_first
  have y9 := Te.year_last
  refine t_loopB (fun mm vs h' => h = h' ∧ ∃ y : Int, vs = [.int .i64 y] ∧ 2000 ≤ y ∧ y ≤ 2099 ∧ mm = (2099 - y).toNat ∧ Te.beforeT y ≤ s)
    (fun vs h' => h = h' ∧ ∃ y : Int, vs = [.int .i64 y] ∧ 2000 ≤ y ∧ y ≤ 2099 ∧ Te.beforeT y ≤ s ∧ s < Te.beforeT (y + 1)) ⟨rfl, 2000, rfl, by omega, by omega, rfl, by omega⟩ ?_ ?_
  · rintro Y mm vs _ hY ⟨rfl, y, rfl, h1, h2, rfl, h3⟩
    refine gZ ?_
    refine t_if (fun e1 => ?_) (fun e1 => ?_)
    · have ew : IntKind.wrap .i64 (y + 1) = y + 1 := wrap_id (by omega) (by omega)
      rw [ew]
      refine t_pu (c1118 (by omega)) ?_
      rw [before_same]
      refine gZ ?_
      refine t_if (fun e2 => ?_) (fun e2 => ?_)
      · exact t_again (hY (2099 - (y + 1)).toNat _ _ (by omega) ⟨rfl, y + 1, rfl, by omega, by omega, rfl, e2⟩)
      · exact gH ⟨rfl, y, rfl, h1, h2, h3, by omega⟩
    · have : y = 2099 := by omega
      subst this
      exact gH ⟨rfl, 2099, rfl, by omega, by omega, h3, by rw [show (2099 : Int) + 1 = 2100 by rfl]; omega⟩
  · rintro vs _ ⟨rfl, y, rfl, h1, h2, h3, h4⟩
    refine gZ ?_
    refine t_pu (c1118 (by omega)) ?_
    rw [before_same]
    refine gZ ?_
    have hb0 : 0 ≤ Te.beforeT y := by unfold Te.beforeT; split <;> omega
    have hyr := Te.year_here h4
    rw [wrap_id (n := s - Te.beforeT y) (by omega) (by omega)]
    refine t_loop (fun mm vs h' => h = h' ∧ ∃ r m : Int, vs = [.int .i64 r, .int .i64 m] ∧ 1 ≤ m ∧ m ≤ 12 ∧ mm = (12 - m).toNat ∧ 0 ≤ r ∧ s = Te.beforeT y + Te.sumT y m.toNat + r) ⟨rfl, s - Te.beforeT y, 1, rfl, by omega, by omega, rfl, by omega, by show s = _ + 0 + _; omega⟩ ?_
    rintro Y mm vs _ hY ⟨rfl, r, m, rfl, g1, g2, rfl, g3, g4⟩
    refine gZ ?_
    refine t_pu (c1107 hl (by omega) ⟨g1, g2⟩) ?_
    refine gZ ?_
    have hlen := Te.length_range (y := y) ⟨g1, g2⟩
    refine t_if (fun e2 => ?_) (fun e2 => ?_)
    · refine t_pu (c1107 hl (by omega) ⟨g1, g2⟩) ?_
      refine gZ ?_
      have hm1 := Te.month_more (y := y) (m := m) (r := r) ⟨g1, g2⟩ (by omega) e2
      have hn := Te.sum_next (y := y) g1
      have hsr := sum_range (y := y) m.toNat (by omega)
      rw [wrap_id (n := r - Te.lengthT y m) (by omega) (by omega), wrap_id (n := m + 1) (by omega) (by omega)]
      exact t_again (hY (12 - (m + 1)).toNat _ _ (by omega) ⟨rfl, r - Te.lengthT y m, m + 1, rfl, by omega, by omega, rfl, by omega, by omega⟩)
    · refine gZ ?_
      rw [wrap_id (n := r + 1) (by omega) (by omega)]
      exact t_ret ⟨rfl, y, m, r + 1, rfl, Te.parts_of ⟨h1, h2⟩ ⟨g1, g2⟩ g4 ⟨g3, by omega⟩⟩
theorem c1106 {h : LH} (hl : Lens h.get) {y m d : Int} (hy : 2000 ≤ y ∧ y ≤ 2200) (hm : 1 ≤ m ∧ m ≤ 12) (hd : 0 ≤ d ∧ d ≤ 100) : Pu Tryd.prog 76 #[.int .i64 y, .int .i64 m, .int .i64 d] h (.int .i64 (Te.dayOfT y m d)) := by
  refine w1106 _ _ _ X0_ok ?_
  unfold n1106
  refine t_pu (c1118 hy) ?_
  rw [before_same]
  refine gZ ?_
  have hb0 : 0 ≤ Te.beforeT y ∧ Te.beforeT y ≤ 100000 := by unfold Te.beforeT; split <;> omega
  refine t_loop (fun mm vs h' => h = h' ∧ ∃ j : Int, vs = [.int .i64 (Te.beforeT y + Te.sumT y j.toNat), .int .i64 j] ∧ 1 ≤ j ∧ j ≤ m ∧ mm = (m - j).toNat) ⟨rfl, 1, by simp [Te.sumT], by omega, by omega, rfl⟩ ?_
  rintro Y mm vs _ hY ⟨rfl, j, rfl, g1, g2, rfl⟩
  have hs := sum_range (y := y) j.toNat (by omega)
  refine gZ ?_
  refine t_if (fun e1 => ?_) (fun e1 => ?_)
  · refine t_pu (c1107 hl (by omega) ⟨g1, by omega⟩) ?_
    refine gZ ?_
    have hn := Te.sum_next (y := y) g1
    have hlen := Te.length_range (y := y) (m := j) ⟨g1, by omega⟩
    rw [wrap_id (n := Te.beforeT y + Te.sumT y j.toNat + Te.lengthT y j) (by omega) (by omega), wrap_id (n := j + 1) (by omega) (by omega)]
    refine t_again (hY (m - (j + 1)).toNat _ _ (by omega) ⟨rfl, j + 1, ?_, by omega, by omega, rfl⟩)
    rw [hn, Int.add_assoc]
  · have : j = m := by omega
    subst this
    refine gZ ?_
    refine t_ret ⟨?_, rfl⟩
    rw [wrap_id (n := Te.beforeT y + Te.sumT y j.toNat + d) (by omega) (by omega), wrap_id (by omega) (by omega)]
    rfl
theorem c1080 {h : LH} (hl : Lens h.get) {s n unit : Int} (hs : 0 ≤ s ∧ s ≤ 36524) (hn : 0 ≤ n ∧ n ≤ 999) (hu : 0 ≤ unit ∧ unit ≤ 2) : FW X0 Tryd.prog 39 #[.int .i64 s, .agg #[.int .i64 n, .int .i64 unit]] h fun r h' => h = h' ∧ ∃ v, r = .int .i64 v ∧ Te.LeadsTo s unit n v := by
  refine w1080 _ _ _ X0_ok ?_
  unfold n1080
  refine t_cond (fun b => ?_) (fun b => ?_)
  · have b' : unit = 1 := by simpa using b
    rw [wrap_id (n := n * 7) (by omega) (by omega), wrap_id (n := s + n * 7) (by omega) (by omega)]
    exact t_ret ⟨rfl, _, rfl, .inr (.inl ⟨b', rfl⟩)⟩
  refine t_cond (fun c => ?_) (fun c => ?_)
  · have c' : unit = 0 := by simpa using c
    rw [wrap_id (n := s + n) (by omega) (by omega)]
    exact t_ret ⟨rfl, _, rfl, .inr (.inr ⟨c', rfl⟩)⟩
  have hunit : unit = 2 := by
    have b' : ¬ unit = 1 := by simpa using b
    have c' : ¬ unit = 0 := by simpa using c
    omega
  refine t_call (FW.top (c1105 hl hs)) ?_
  rintro _ _ ⟨rfl, y, m, d, rfl, p⟩
  have py := p.year
  have pm := p.month
  have pd := p.date
  have hlen0 := Te.length_range (y := y) pm
  refine gZ ?_
  have e1 : IntKind.wrap .i64 (n - 1) = n - 1 := wrap_id (by omega) (by omega)
  have e2 : IntKind.wrap .i64 (m + (n - 1)) = m + n - 1 := by rw [wrap_id (by omega) (by omega)]; omega
  have e3 : Int.tdiv (m + n - 1) 12 = (m + n - 1) / 12 := Int.tdiv_eq_ediv_of_nonneg (by omega)
  have e4 : Int.tmod (m + n - 1) 12 = (m + n - 1) % 12 := Int.tmod_eq_emod_of_nonneg (by omega)
  have e5 : IntKind.wrap .i64 ((m + n - 1) / 12) = (m + n - 1) / 12 := wrap_id (by omega) (by omega)
  have e6 : IntKind.wrap .i64 (y + (m + n - 1) / 12) = y + (m + n - 1) / 12 := wrap_id (by omega) (by omega)
  have e7 : IntKind.wrap .i64 ((m + n - 1) % 12 + 1) = (m + n - 1) % 12 + 1 := wrap_id (by omega) (by omega)
  simp only [e1, e2, e3, e4, e5, e6, e7]
  refine t_if (fun e8 => ?_) (fun e8 => ?_)
  · refine t_ret ⟨rfl, _, rfl, .inl ⟨hunit, y, m, d, p, ?_⟩⟩
    rw [Te.monthsT, if_pos (by omega)]
  · have hlen := Te.length_range (y := y + (m + n - 1) / 12) (m := (m + n - 1) % 12 + 1) (by omega)
    refine t_pu (c1107 hl (by omega) (by omega)) ?_
    refine gZ ?_
    have hdd : 0 ≤ (if Te.lengthT (y + (m + n - 1) / 12) ((m + n - 1) % 12 + 1) < d then Te.lengthT (y + (m + n - 1) / 12) ((m + n - 1) % 12 + 1) else d) ∧ (if Te.lengthT (y + (m + n - 1) / 12) ((m + n - 1) % 12 + 1) < d then Te.lengthT (y + (m + n - 1) / 12) ((m + n - 1) % 12 + 1) else d) ≤ 100 := by split <;> omega
    refine t_pu (c1106 hl (by omega) (by omega) hdd) ?_
    refine gZ ?_
    refine t_ret ⟨rfl, _, rfl, .inl ⟨hunit, y, m, d, p, ?_⟩⟩
    rw [Te.monthsT, if_neg (show ¬ 2099 < y + (m + n - 1) / 12 by omega)]
end Go.Proofs.YtldamlcehbdkdaaDoor
end
section
namespace Go.Proofs.YtldamlcehbdkdaaDoor
open Go Go.TM Go.Proofs Go.Proofs.YtldamlcehbdkdaaDoor.Tre Go.ChangeShapes Go.WideShapes Go.RowKit
set_option maxRecDepth 100000
theorem DT : DateTy Tryd.prog 28 22 30 where
  cal := ⟨_, Tryd.underlying30, rfl⟩
  cal2 := by kernel_rfl
def lensN : String := "touchmark/dates.lengths"
theorem gLens : Tryd.prog.globalNamed lensN = some 0 := by kernel_rfl
theorem tLens : (Tryd.prog.globals[0]?).map (·.type) = some 166 := by kernel_rfl
theorem lens_of_laid {l : List (String × DataW Unit)} {W : World} (h : laidMetH Tryd.prog l W) (hm : (lensN, Rows.laid_touchmark_dates_lengths) ∈ l) : Lens (getW W) := by
  obtain ⟨ps, hL, _⟩ := (laidMetH_iff.1 h).1
  obtain ⟨g', t', cs', fuel', p', hg', ht', hv', hd'⟩ := laid_at hL (List.mem_filter.2 ⟨hm, rfl⟩)
  obtain rfl := Option.some.inj (gLens.symm.trans hg')
  obtain rfl := Option.some.inj (tLens.symm.trans ht')
  obtain ⟨xs, m, _, hx, hl, hn, hel⟩ := DataW.trod_array Tryd.underlying166 hd'
  have e1 : Tryd.prog.cellsOf 3 = 1 := by kernel_rfl
  have hcell : ∀ j : Nat, W.cell? ⟨0, j, none⟩ = cs'[j]? := World.var?_cell gLens hv'
  have hx : (Rows.laid_touchmark_dates_lengths : DataW Unit) = .agg (xs.map (·.1)) := (Prod.mk.inj hx).1
  intro j hj
  refine getW_cell ?_
  rw [hcell]
  have hi := hel j (by omega)
  rw [e1] at hi
  cases hxj : xs[j]? with
  | none => have := List.getElem?_eq_none_iff.1 hxj; omega
  | some y =>
    rw [hxj] at hi
    obtain ⟨n, e2, e3, _⟩ := DataW.trod_int Tryd.underlying3 hi
    have hy : (xs.map (·.1))[j]? = some (.lit (.int .i64 n)) := by rw [List.getElem?_map, hxj, e3]; rfl
    have hlist : ∀ i : Nat, i < 12 → ∀ z : DataW Unit, (xs.map (·.1))[i]? = some z → z = .lit (.int .i64 (Te.lens.getD i 0)) := by
      intro i hi12 z hz
      have : (DataW.agg (xs.map (·.1)) : DataW Unit) = Rows.laid_touchmark_dates_lengths := hx.symm
      unfold Rows.laid_touchmark_dates_lengths at this
      injection this with this
      rw [this] at hz
      match i, hi12 with
      | 0, _ => cases hz; rfl
      | 1, _ => cases hz; rfl
      | 2, _ => cases hz; rfl
      | 3, _ => cases hz; rfl
      | 4, _ => cases hz; rfl
      | 5, _ => cases hz; rfl
      | 6, _ => cases hz; rfl
      | 7, _ => cases hz; rfl
      | 8, _ => cases hz; rfl
      | 9, _ => cases hz; rfl
      | 10, _ => cases hz; rfl
      | 11, _ => cases hz; rfl
    have hn' := hlist j hj _ hy
    injection hn' with hn'
    injection hn' with _ hn'
    have hc : (cs'.toList.drop (j * 1)).take 1 = [.int .i64 n] := e2
    have : cs'.toList[j]? = some (.int .i64 n) := by
      have h2 : ((cs'.toList.drop (j * 1)).take 1)[0]? = some (.int .i64 n) := by rw [hc]; rfl
      rw [List.getElem?_take, if_pos (by omega), List.getElem?_drop] at h2
      simpa using h2
    rw [← Array.getElem?_toList, this, hn']
end Go.Proofs.YtldamlcehbdkdaaDoor
end
section
namespace Go.Proofs.YtldamlcehbdkdaaDoor
open Go Go.TM Go.Proofs
attribute [local irreducible] T.wp CV FWK
def indexF (x : Int) : Nat → List Int → Int
  | _, [] => -1
  | i, y :: l => if x == y then i else indexF x (i + 1) l
theorem indexF_ge (x : Int) : ∀ (l : List Int) (i : Nat), decide (indexF x i l ≥ 0) = l.contains x := by
  intro l
  induction l with
  | nil => intro i; rfl
  | cons y l ih =>
    intro i
    rw [indexF, List.contains_cons]
    split
    · rename_i h; rw [h]; simp
    · rename_i h
      have h' : (x == y) = false := by simpa using h
      rw [ih, h', Bool.false_or]
theorem c106 {h : LH} {p : Option Addr} {n c : Nat} {l : List Int} (hl : Sl IntE 1 h.get p n l) (x : Int) : Pu Tryd.prog 125 #[.slice p n c, .int .i64 x] h (.int .i64 (indexF x 0 l)) := by
  refine w106 _ _ _ _ X0_ok ?_
  unfold n106
  have hn := hl.1
  have hb := hl.2.1
  refine t_loop (fun m vs h' => h' = h ∧ ∃ i : Nat, vs = [.int .i64 0, .int .i64 i] ∧ i ≤ n ∧ m = n - i ∧ indexF x 0 l = indexF x i (l.drop i)) ⟨rfl, 0, rfl, Nat.zero_le _, rfl, rfl⟩ ?_
  rintro Y m vs _ hY ⟨rfl, i, rfl, hi, rfl, hc⟩
  refine gZ ?_
  refine t_if (fun e1 => ?_) (fun e1 => ?_)
  · obtain ⟨y, a, hx, ha, e2⟩ := hl.at (i := i) (by omega)
    unfold IntE at e2
    refine gZ ?_
    rw [drop_of hx, indexF] at hc
    refine t_cond (fun e3 => ?_) (fun e3 => ?_)
    · refine gZ ?_
      refine t_ret ⟨?_, rfl⟩
      rw [hc, if_pos e3]
    · refine t_again (hY (n - (i + 1)) _ _ (by omega) ⟨rfl, i + 1, ?_, by omega, rfl, ?_⟩)
      · rw [wrap_id (by omega) (by omega)]; rfl
      · rw [hc, if_neg (by simp [e3])]
  · refine gZ ?_
    refine t_ret ⟨?_, rfl⟩
    rw [hc, List.drop_eq_nil_of_le (by omega)]; rfl
theorem c100 {h : LH} {p : Option Addr} {n c : Nat} {l : List Int} (hl : Sl IntE 1 h.get p n l) (x : Int) : Pu Tryd.prog 109 #[.slice p n c, .int .i64 x] h (.bool (l.contains x)) := by
  refine w100 _ _ _ _ X0_ok ?_
  unfold n100
  refine t_pu (c106 hl x) ?_
  refine gZ ?_
  refine t_ret ⟨?_, rfl⟩
  rw [indexF_ge]
def placeF {α : Type} (f : α → Bool) : Nat → List α → Int
  | _, [] => -1
  | i, y :: l => if f y then i else placeF f (i + 1) l
theorem placeF_ge {α : Type} (f : α → Bool) : ∀ (l : List α) (i : Nat), decide (placeF f i l ≥ 0) = l.any f := by
  intro l
  induction l with
  | nil => intro i; rfl
  | cons y l ih =>
    intro i
    rw [placeF, List.any_cons]
    split
    · rename_i h; rw [h]; simp
    · rename_i h
      have h' : f y = false := by simpa using h
      rw [ih, h', Bool.false_or]
end Go.Proofs.YtldamlcehbdkdaaDoor
end
section
namespace Go.Proofs.YtldamlcehbdkdaaDoor
open Go Go.TM Go.Proofs
attribute [local irreducible] T.wp CV FWK
theorem p98 {h : LH} {p : Option Addr} {n c : Nat} {l : List Span} {fv : Value} {g : Span → Bool} (hl : Sl SpanE 2 h.get p n l) (hf : ∀ x : Span, CV X0 Tryd.prog fv #[.agg #[.int .i64 x.first, .int .i64 x.last]] h fun r h' => r = .bool (g x) ∧ h' = h) :
    Pu Tryd.prog 107 #[.slice p n c, fv] h (.int .i64 (placeF g 0 l)) := by
  refine w98 _ _ _ _ X0_ok ?_
  unfold n98
  have hn := hl.1
  have hb := hl.2.1
  refine t_loop (fun m vs h' => h' = h ∧ ∃ i : Nat, vs = [.int .i64 0, .int .i64 i] ∧ i ≤ n ∧ m = n - i ∧ placeF g 0 l = placeF g i (l.drop i)) ⟨rfl, 0, rfl, Nat.zero_le _, rfl, rfl⟩ ?_
  rintro Y m vs _ hY ⟨rfl, i, rfl, hi, rfl, hc⟩
  refine gZ ?_
  refine t_if (fun e1 => ?_) (fun e1 => ?_)
  · obtain ⟨x, a, hx, ha, e2, e4⟩ := hl.at (i := i) (by omega)
    refine gZ ?_
    refine t_callv (hf x) ?_
    rintro _ _ ⟨rfl, rfl⟩
    refine gZ ?_
    rw [drop_of hx, placeF] at hc
    refine t_cond (fun e3 => ?_) (fun e3 => ?_)
    · refine gZ ?_
      refine t_ret ⟨?_, rfl⟩
      rw [hc, if_pos e3]
    · refine t_again (hY (n - (i + 1)) _ _ (by omega) ⟨rfl, i + 1, ?_, by omega, rfl, ?_⟩)
      · rw [wrap_id (by omega) (by omega)]; rfl
      · rw [hc, if_neg (by simp [e3])]
  · refine gZ ?_
    refine t_ret ⟨?_, rfl⟩
    rw [hc, List.drop_eq_nil_of_le (by omega)]; rfl
theorem p79 {h : LH} {p : Option Addr} {n c : Nat} {l : List Span} {fv : Value} {g : Span → Bool} (hl : Sl SpanE 2 h.get p n l) (hf : ∀ x : Span, CV X0 Tryd.prog fv #[.agg #[.int .i64 x.first, .int .i64 x.last]] h fun r h' => r = .bool (g x) ∧ h' = h) :
    Pu Tryd.prog 73 #[.slice p n c, fv] h (.bool (l.any g)) := by
  refine w79 _ _ _ _ X0_ok ?_
  unfold n79
  refine t_pu (p98 hl hf) ?_
  refine gZ ?_
  refine t_ret ⟨?_, rfl⟩
  rw [placeF_ge]
theorem c1117 {h : LH} {z : Addr} {day : Int} (hz : h.get.cell? z = some (.int .i64 day)) (a b : Int) : Pu Tryd.prog 110 #[.agg #[.int .i64 a, .int .i64 b], .pointer (some z)] h (.bool (isIn day a b)) := by
  refine w1117 _ _ _ X0_ok ?_
  unfold n1117
  refine gZ ?_
  refine t_pu (c1102 _ _ _) ?_
  refine gZ ?_
  exact t_ret ⟨rfl, rfl⟩
def boxC (z : Nat) (el : TypeId) (v : Value) : Cells := oneC z (.cells #[v] el (0, 0))
theorem box_cell {h : LH} {z : Nat} {el : TypeId} {v : Value} (hz : h.get z = none) : (h.add (boxC z el v)).get.cell? ⟨z, 0, none⟩ = some v := by
  have : (h.add (boxC z el v)).get z = some (true, .cells #[v] el (0, 0)) := add_oneC_get hz
  unfold Cells.cell?
  simp only [this]
  rfl
theorem box_own {h : LH} {z : Nat} {el : TypeId} {v : Value} (hz : h.get z = none) : (h.add (boxC z el v)).get z = some (true, .cells #[v] el (0, 0)) := add_oneC_get hz
theorem box_store {h : LH} {z : Nat} {el : TypeId} {v w : Value} (hz : h.get z = none) : { h.add (boxC z el v) with get := (h.add (boxC z el v)).get.setCell ⟨z, 0, none⟩ w } = h.add (boxC z el w) := by
  have hg : (h.add (boxC z el v)).get.setCell ⟨z, 0, none⟩ w = (h.add (boxC z el w)).get := by
    funext r
    unfold Cells.setCell
    by_cases e : r = z
    · subst e
      rw [box_own hz, if_pos rfl, box_own hz]
      rfl
    · rw [if_neg e]
      show h.get.add (boxC z el v) r = h.get.add (boxC z el w) r
      unfold Cells.add boxC oneC
      simp only [if_neg e]
  show (⟨(h.add (boxC z el v)).get.setCell ⟨z, 0, none⟩ w, _, _, _⟩ : LH) = _
  rw [hg]
  rfl
theorem LH.le_add (h : LH) (k : Cells) : h.le (h.add k) := ⟨fun _ _ hx => Cells.add_left hx, rfl, rfl, rfl⟩
theorem t_storeBox {X : XP} {P : Program} {Q : Leaf → LH → Prop} {h : LH} {k : T} {z : Nat} {el : TypeId} {v w : Value} (hz : h.get z = none) (h1 : isOne w = true) (hk : k.wp X P Q (h.add (boxC z el w))) : (T.store (Addr.add ⟨z, 0, none⟩ 0) w k).wp X P Q (h.add (boxC z el v)) := by
  have e : Addr.add ⟨z, 0, none⟩ 0 = ⟨z, 0, none⟩ := by rw [add_plain]
  rw [e]
  refine t_store h1 ⟨_, box_own hz⟩ (box_cell hz) (by simp [Cells.frozen?, box_own hz]) ?_
  rw [box_store hz]
  exact hk
def NextDay (c : Te.Cal) (s : Int) (xs : List Value) (s' : Int) : Prop := ∃ d, s ≤ d ∧ d ≤ 36524 ∧ (∀ e, s ≤ e → e < d → Te.openB c e = false) ∧ Te.openB c d = true ∧ xs = [.int .i64 d] ∧ s' = d + 1
def NoDay (c : Te.Cal) (s : Int) : Prop := ∀ e, s ≤ e → e ≤ 36524 → Te.openB c e = false
theorem open_is (c : CalD) (d : Int) : Te.openB c.cal d = !(c.closed.contains ((d + 5) % 7) || c.closures.any fun s => isIn d s.first s.last) := by
  unfold Te.openB CalD.cal isIn
  simp only [List.any_map]
  rfl
theorem hands1116 {h₀ : LH} {zc zd : Nat} {el : TypeId} {f : CalC} {c : CalD} (hc0 : h₀.get.cell? (Addr.add (Addr.add ⟨zc, 0, none⟩ 0) 0) = some (.slice f.p0 f.n0 f.c0)) (hc1 : h₀.get.cell? (Addr.add (Addr.add ⟨zc, 0, none⟩ 0) 1) = some (.slice f.p1 f.n1 f.c1)) (hr : CalR h₀.get f c) {day : Int} (hd : 0 ≤ day ∧ day ≤ 36524) :
    HandsF X0 Tryd.prog (.func (.func 108) #[] #[.pointer (some ⟨zd, 0, none⟩), .pointer (some ⟨zc, 0, none⟩)]) h₀ (boxC zd el (.int .i64 day)) (NextDay c.cal) (NoDay c.cal) day := by
  intro y J E hJ hE hyield h hle hJ0 hdk
  refine cv_fw X0_ok (by rfl) (?_ : FW X0 Tryd.prog 108 #[y, .pointer (some ⟨zd, 0, none⟩), .pointer (some ⟨zc, 0, none⟩)] (h.add (boxC zd el (.int .i64 day))) _)
  refine w1116 _ _ _ X0_ok ?_
  unfold n1116
  refine t_loop (fun mm vs h' => vs = [] ∧ ∃ (n s : Int) (hm : LH), h' = hm.add (boxC zd el (.int .i64 n)) ∧ hm.get zd = none ∧ h₀.le hm ∧ s ≤ n ∧ 0 ≤ n ∧ n ≤ 36525 ∧ (∀ e, s ≤ e → e < n → Te.openB c.cal e = false) ∧ J s hm ∧ mm = (36525 - n).toNat)
    ⟨rfl, day, day, h, rfl, oneC_none hdk, hle, by omega, by omega, by omega, fun e h1 h2 => by omega, hJ0, rfl⟩ ?_
  rintro Y mm vs _ hY ⟨rfl, n, s, hm, rfl, hz, hle1, hsn, hn0, hn1, hcl, hJs, rfl⟩
  have lem := LH.le_add hm (boxC zd el (.int .i64 n))
  have hdm : Disj hm.get (boxC zd el (.int .i64 n)) := disj_oneC hz
  have hz0 := box_cell (el := el) (v := .int .i64 n) hz
  have b0 := Cells.cell?_le (LH.le_trans hle1 lem).1 hc0
  have b1 := Cells.cell?_le (LH.le_trans hle1 lem).1 hc1
  have hr1 := hr.le (LH.le_trans hle1 lem).1
  have ew : IntKind.wrap .i64 (n + 1) = n + 1 := wrap_id (by omega) (by omega)
  have e5 : IntKind.wrap .i64 (n + 5) = n + 5 := wrap_id (by omega) (by omega)
  have e7 : Int.tmod (n + 5) 7 = (n + 5) % 7 := Int.tmod_eq_emod_of_nonneg (by omega)
  have shut : n ≤ 36524 → Te.openB c.cal n = false → Y [] (hm.add (boxC zd el (.int .i64 (n + 1)))) := fun hn2 ho =>
    hY (36525 - (n + 1)).toNat _ _ (by omega) ⟨rfl, n + 1, s, hm, rfl, hz, hle1, by omega, by omega, by omega, fun e h1 h2 => by
      by_cases e9 : e = n
      · rw [e9]; exact ho
      · exact hcl e h1 (by omega), hJs, rfl⟩
  refine gZ ?_
  refine t_pu (c1077 n) ?_
  refine gZ ?_
  refine t_cond (fun g1 => ?_) (fun g1 => ?_)
  · have hin : n ≤ 36524 := by
      unfold isIn at g1
      simp only [Bool.and_eq_true, decide_eq_true_eq] at g1
      exact g1.2
    refine gZ ?_
    rw [e5, e7]
    refine t_pu (c100 hr1.closed _) ?_
    refine gZ ?_
    refine t_cond (fun g2 => ?_) (fun g2 => ?_)
    · refine gZ ?_
      rw [ew]
      refine t_storeBox hz rfl ?_
      exact t_again (shut hin (by rw [open_is, g2]; rfl))
    · refine gZ ?_
      refine t_pu (p79 hr1.closures (g := fun s => isIn n s.first s.last) (fun x => ?_)) ?_
      · exact CV.mono (cv_fw X0_ok (by rfl) (c1117 hz0 x.first x.last)) (by rintro v h' ⟨rfl, rfl⟩; exact ⟨rfl, rfl⟩)
      refine gZ ?_
      refine t_cond (fun g3 => ?_) (fun g3 => ?_)
      · refine gZ ?_
        have ho : Te.openB c.cal n = true := by
          rw [open_is, g2, Bool.false_or]; exact g3
        have hcv := CV.frame X0_ok (hyield s hm [.int .i64 n] (n + 1) hle1 ⟨n, hsn, hin, hcl, ho, rfl, rfl⟩ hJs) hdm
        refine t_callv hcv ?_
        rintro b h₂ ⟨h', hd', rfl, hle2, ⟨rfl, hJ2⟩ | ⟨rfl, hE2⟩⟩
        · have hz' : h'.get zd = none := oneC_none hd'
          have hz2 := box_cell (el := el) (v := .int .i64 n) hz'
          refine gZ ?_
          refine t_cond (fun e => by cases e) (fun _ => ?_)
          refine gZ ?_
          rw [ew]
          refine t_storeBox hz' rfl ?_
          exact t_again (hY (36525 - (n + 1)).toNat _ _ (by omega) ⟨rfl, n + 1, n + 1, h', rfl, hz', hle2, by omega, by omega, by omega, fun e h1 h2 => by omega, hJ2, rfl⟩)
        · refine gZ ?_
          refine t_cond (fun _ => ?_) (fun e => by cases e)
          refine gI ?_
          refine gZ ?_
          exact t_ret ⟨LH.le_trans hle2 (LH.le_add _ _), .inr (hE _ _ hE2 hd')⟩
      · refine gZ ?_
        rw [ew]
        refine t_storeBox hz rfl ?_
        refine t_again (shut hin ?_)
        rw [open_is]
        have : (c.closures.any fun s => isIn n s.first s.last) = true := by simpa using g3
        rw [this, Bool.or_true]; rfl
  · have hout : n = 36525 := by
      unfold isIn at g1
      simp only [Bool.and_eq_false_iff, decide_eq_false_iff_not] at g1
      omega
    refine gH ?_
    refine gZ ?_
    refine t_ret ⟨LH.le_trans hle1 lem, .inl ⟨s, fun e h1 h2 => hcl e h1 (by omega), hJ _ _ _ hJs hdm⟩⟩
theorem next_first {c : Te.Cal} : ∀ (k : Nat) (s d : Int), s + k = 36525 → s ≤ d → d ≤ 36524 → (∀ e, s ≤ e → e < d → Te.openB c e = false) → Te.openB c d = true → Te.nextGo c k s = d
  | 0, s, d, h1, h2, h3, _, _ => by omega
  | k + 1, s, d, h1, h2, h3, h4, h5 => by
    rw [Te.nextGo]
    by_cases e : s = d
    · subst e; rw [if_pos h5]
    · rw [if_neg (by rw [h4 s (by omega) (by omega)]; simp)]
      exact next_first k (s + 1) d (by omega) (by omega) h3 (fun e h6 h7 => h4 e (by omega) h7) h5
theorem next_none {c : Te.Cal} : ∀ (k : Nat) (s : Int), s + k = 36525 → NoDay c s → Te.nextGo c k s = 36524
  | 0, _, _, _ => rfl
  | k + 1, s, h1, h2 => by
    rw [Te.nextGo, if_neg (by rw [h2 s (by omega) (by omega)]; simp)]
    exact next_none k (s + 1) (by omega) fun e h3 h4 => h2 e (by omega) h4
theorem c1079 {h : LH} {f : CalC} {c : CalD} (hr : CalR h.get f c) {day : Int} (hd : 0 ≤ day ∧ day ≤ 36524) : Gr Tryd.prog 38 #[calV f, .int .i64 day] h fun r _ => r = .int .i64 (Te.nextT c.cal day) := by
  refine w1079 _ _ _ _ _ _ _ X0_ok ?_
  unfold n1079
  refine t_call (A := fun r h' => ∃ zc zd : Nat, ∃ hm : LH, r = .func (.func 108) #[] #[.pointer (some ⟨zd, 0, none⟩), .pointer (some ⟨zc, 0, none⟩)] ∧ h.le hm ∧ hm.get.cell? (Addr.add (Addr.add ⟨zc, 0, none⟩ 0) 0) = some (.slice f.p0 f.n0 f.c0) ∧ hm.get.cell? (Addr.add (Addr.add ⟨zc, 0, none⟩ 0) 1) = some (.slice f.p1 f.n1 f.c1) ∧ hm.get zd = none ∧ h' = hm.add (boxC zd 3 (.int .i64 day))) ?_ ?_
  · refine w1104 _ _ _ _ _ _ _ X0_ok ?_
    unfold n1104
    refine t_new fun zc hzc => ?_
    refine t_new fun zd hzd => ?_
    refine t_ret ⟨zc, zd, _, rfl, LH.upd_le hzc, ?_, ?_, hzd, ?_⟩
    · rw [add_plain, add_plain]; exact cell_upd rfl
    · rw [add_plain, add_plain]; exact cell_upd rfl
    · unfold LH.add
      congr 1
      funext r
      unfold Cells.upd Cells.add boxC oneC
      by_cases e : r = zd
      · subst e
        simp only [if_pos rfl]
        have : (if r = zc then some (true, Obj.cells #[Value.slice f.p0 f.n0 f.c0, .slice f.p1 f.n1 f.c1] 81 (0, 0)) else h.get r) = none := hzd
        rw [this]
      · simp only [if_neg e]
        generalize (if r = zc then _ else h.get r) = o
        cases o <;> rfl
  · rintro _ _ ⟨zc, zd, hm, rfl, hle, e0, e1, hz, rfl⟩
    refine t_eachF (μ := fun s : Int => (36525 - s).toNat) ?_ (hm := hm) (k₀ := boxC zd 3 (.int .i64 day)) rfl (disj_oneC hz) (LH.le_refl hm) (hands1116 e0 e1 (hr.le hle.1) hd) (fun s vs h' => s = day ∧ vs = [.int .i64 0]) ⟨rfl, rfl⟩ ?_ ?_
    · rintro s xs s' ⟨d, h1, h2, _, _, _, rfl⟩
      omega
    · rintro s vs h' hfin hl ⟨rfl, rfl⟩
      refine gZ ?_
      refine t_ret ⟨LH.le_trans hle hl, ?_⟩
      rw [Te.nextT, next_none _ _ (by omega) hfin]
    · rintro s xs s' vs h' ⟨d, h1, h2, h3, h4, rfl, rfl⟩ hl ⟨rfl, rfl⟩ Y hY
      refine gZ ?_
      refine t_retnE hl ?_
      refine gZ ?_
      refine t_ret ⟨LH.le_trans hle hl, ?_⟩
      rw [Te.nextT, next_first _ _ d (by omega) h1 h2 h3 h4]
end Go.Proofs.YtldamlcehbdkdaaDoor
end
section
namespace Go.Proofs.YtldamlcehbdkdaaDoor
open Go Go.TM Go.Proofs
set_option linter.unusedVariables false
set_option maxRecDepth 100000
noncomputable def n93 (x_0 : Int) (x_1 : Int) (first : Int) (last : Int) : T := bif decide (first ≤ x_0) then bif decide (x_0 ≤ x_1) then .leaf (.ret (.bool (decide (x_1 ≤ last)))) else .leaf (.ret (.bool false)) else .leaf (.ret (.bool false))
theorem t93 (x_0 : Int) (x_1 : Int) (first : Int) (last : Int) : ftree ({ P := Tryd.prog, priv := [3], loops := [], joins := [] }) Tryd.f20 [.agg #[.int .i64 x_0, .int .i64 x_1], .int .i64 first, .int .i64 last] = n93 x_0 x_1 first last := by kernel_rfl
theorem w93 (x_0 : Int) (x_1 : Int) (first : Int) (last : Int) {X : XP} (hX : XOK X) {h : LH} {A : Value → LH → Prop} (hw : (n93 x_0 x_1 first last).wp X Tryd.prog (retQ A) h) : FWK X Tryd.prog .normal 20 #[.agg #[.int .i64 x_0, .int .i64 x_1], .int .i64 first, .int .i64 last] h A := fwk_neat (t93 x_0 x_1 first last) (by simp) (by kernel_rfl) (by kernel_rfl) hX hw
end Go.Proofs.YtldamlcehbdkdaaDoor
end
section
namespace Go.Proofs.YtldamlcehbdkdaaDoor
open Go Go.TM Go.Proofs
attribute [local irreducible] T.wp CV FWK
theorem c49 {h : LH} (n a b : Int) : Pu Tryd.prog 19 #[.int .i64 n, .int .i64 a, .int .i64 b] h (.bool (isIn n a b)) := by
  refine w49 _ _ _ X0_ok ?_
  unfold n49
  refine t_if (fun e => ?_) (fun e => ?_) <;> refine t_ret ⟨?_, rfl⟩ <;> simp [isIn, e]
theorem c93 {h : LH} (a b x y : Int) : Pu Tryd.prog 20 #[.agg #[.int .i64 a, .int .i64 b], .int .i64 x, .int .i64 y] h (.bool (decide (x ≤ a) && (decide (a ≤ b) && decide (b ≤ y)))) := by
  refine w93 _ _ _ _ X0_ok ?_
  unfold n93
  refine t_if (fun e => ?_) (fun e => ?_)
  · refine t_if (fun e' => ?_) (fun e' => ?_) <;> refine t_ret ⟨?_, rfl⟩ <;> simp [e, e']
  · refine t_ret ⟨?_, rfl⟩; simp [e]
end Go.Proofs.YtldamlcehbdkdaaDoor
end
section
namespace Go.Proofs.YtldamlcehbdkdaaDoor
open Go Go.TM Go.Proofs
attribute [local irreducible] T.wp CV FWK
theorem c1103 {h : LH} (a b : Int) : Pu Tryd.prog 72 #[.agg #[.int .i64 a, .int .i64 b]] h (.bool (!isIn a 0 36524 || (!isIn b 0 36524 || decide (a > b)))) := by
  refine w1103 _ _ X0_ok ?_
  unfold n1103
  refine t_pu (c1077 _) ?_
  refine gZ ?_
  refine t_cond (fun e => ?_) (fun e => ?_)
  · exact t_ret ⟨by simp only [e, Bool.true_or], rfl⟩
  refine t_pu (c1077 _) ?_
  refine gZ ?_
  refine t_cond (fun e' => ?_) (fun e' => ?_)
  · exact t_ret ⟨by simp only [e', Bool.true_or, Bool.or_true], rfl⟩
  · exact t_ret ⟨by simp only [e, e', Bool.false_or], rfl⟩
theorem c1075 {h : LH} {f : CalC} {c : CalD} (hr : CalR h.get f c) (ok : CalOk c) : Pu Tryd.prog 34 #[calV f] h (.int .i64 0) := by
  refine w1075 _ _ _ _ _ _ X0_ok ?_
  unfold n1075
  have hn := hr.closed.1
  have hb := hr.closed.2.1
  have hn1 := hr.closures.1
  have hm := ok.many
  refine t_loopB (fun mm vs h' => h = h' ∧ ∃ i : Nat, vs = [.int .i64 0, .int .i64 i] ∧ i ≤ f.n0 ∧ mm = f.n0 - i) (fun vs h' => h = h' ∧ ∃ i : Nat, vs = [.int .i64 0, .int .i64 i]) ⟨rfl, 0, rfl, Nat.zero_le _, rfl⟩ ?_ ?_
  · rintro Y mm vs _ hY ⟨rfl, i, rfl, hi, rfl⟩
    refine gZ ?_
    refine t_if (fun e1 => ?_) (fun e1 => ?_)
    · obtain ⟨x, a, hx, ha, e2⟩ := hr.closed.at (i := i) (by omega)
      unfold IntE at e2
      obtain ⟨⟨k1, k2⟩, k3⟩ := ok.closed i x hx
      have next : Y [.int .i64 0, .int .i64 (IntKind.wrap .i64 ((i : Int) + 1))] h := by
        refine hY (f.n0 - (i + 1)) _ _ (by omega) ⟨rfl, i + 1, ?_, by omega, rfl⟩
        rw [wrap_id (by omega) (by omega)]; rfl
      refine gZ ?_
      refine t_pu (c1102 _ _ _) ?_
      have : isIn x 0 6 = true := by unfold isIn; simp [k1, k2]
      rw [this]
      refine gZ ?_
      refine t_cond (fun e => by cases e) (fun _ => ?_)
      refine t_if (fun e3 => ?_) (fun e3 => t_again next)
      obtain ⟨u, a', hu, ha', e4⟩ := hr.closed.at (i := i - 1) (by omega)
      unfold IntE at e4
      have hlt := k3 u (by omega) hu
      have ew : IntKind.wrap .i64 ((i : Int) - 1) = ((i - 1 : Nat) : Int) := by rw [wrap_id (by omega) (by omega)]; omega
      rw [ew]
      have hin : 0 ≤ ((i - 1 : Nat) : Int) ∧ ((i - 1 : Nat) : Int) < (f.n0 : Int) := by omega
      refine gZ ?_
      refine t_if (fun e5 => by omega) (fun _ => t_again next)
    · exact gH ⟨rfl, i, rfl⟩
  · rintro vs _ ⟨rfl, i, rfl⟩
    refine gZ ?_
    refine t_if (fun e1 => by omega) (fun _ => ?_)
    refine t_pu (p79 hr.closures (g := fun s => !isIn s.first 0 36524 || (!isIn s.last 0 36524 || decide (s.first > s.last))) (fun x => ?_)) ?_
    · exact CV.mono (cv_fw X0_ok (by rfl) (c1103 x.first x.last)) (by rintro v h' ⟨rfl, rfl⟩; exact ⟨rfl, rfl⟩)
    have hall : (c.closures.any fun s => !isIn s.first 0 36524 || (!isIn s.last 0 36524 || decide (s.first > s.last))) = false := by
      rw [List.any_eq_false]
      intro s hs
      obtain ⟨g1, g2, g3⟩ := ok.closures s hs
      unfold isIn
      simp
      omega
    rw [hall]
    refine gZ ?_
    refine t_pu (c1076 _ _) ?_
    refine gZ ?_
    exact t_ret ⟨rfl, rfl⟩
theorem c1078 {h : LH} {n u : Int} (hn : 0 ≤ n ∧ n ≤ 999) (hu : 0 ≤ u ∧ u ≤ 2) : Pu Tryd.prog 37 #[.agg #[.int .i64 n, .int .i64 u]] h (.int .i64 0) := by
  refine w1078 _ _ X0_ok ?_
  unfold n1078
  refine t_pu (c1102 _ _ _) ?_
  have e1 : isIn n 0 999 = true := by unfold isIn; simp [hn]
  have e2 : isIn u 0 2 = true := by unfold isIn; simp [hu]
  rw [e1]
  refine gZ ?_
  refine t_cond (fun e => by cases e) (fun _ => ?_)
  refine t_pu (c1102 _ _ _) ?_
  rw [e2]
  refine gZ ?_
  refine t_pu (c1076 _ _) ?_
  refine gZ ?_
  exact t_ret ⟨rfl, rfl⟩
theorem c1040 {h : LH} (hl : Lens h.get) {f : CalC} {c : CalD} (hr : CalR h.get f c) (ok : CalOk c) {s n u : Int} (hs : 0 ≤ s ∧ s ≤ 36524) (hn : 0 ≤ n ∧ n ≤ 999) (hu : 0 ≤ u ∧ u ≤ 2) :
    Gr Tryd.prog 10 #[calV f, .int .i64 s, .agg #[.int .i64 n, .int .i64 u]] h fun r _ => ∃ x, r = .tuple #[.int .i64 x, .int .i64 0] ∧ Te.EndsAt c.cal s u n x := by
  refine w1040 _ _ _ _ _ _ _ _ _ X0_ok ?_
  unfold n1040
  refine t_pu (c1075 hr ok) ?_
  refine gZ ?_
  refine t_pu (c1077 s) ?_
  have e1 : isIn s 0 36524 = true := by unfold isIn; simp [hs]
  rw [e1]
  refine gZ ?_
  refine t_pu (c1076 _ _) ?_
  refine gZ ?_
  refine t_pu (c1078 hn hu) ?_
  refine gZ ?_
  refine t_build und134 inf31 (by decide) (by decide) (cells := #[.int .i64 0, .int .i64 0, .int .i64 0]) (by kernel_rfl) fun r hr0 => ?_
  have le1 : h.le _ := LH.upd_le (x := (true, .cells #[.int .i64 0, .int .i64 0, .int .i64 0] 36 (0, 0))) hr0
  refine gZ ?_
  have hsl : Sl IntE 1 (h.get.upd r (true, .cells #[.int .i64 0, .int .i64 0, .int .i64 0] 36 (0, 0))) (some ⟨r, 0, none⟩) 3 [0, 0, 0] := by
    refine ⟨rfl, by decide, fun i x hx => ⟨_, rfl, ?_⟩⟩
    unfold IntE
    rw [add_plain, add_plain]
    refine cell_upd ?_
    match i, hx with
    | 0, hx => cases hx; rfl
    | 1, hx => cases hx; rfl
    | 2, hx => cases hx; rfl
  refine t_pu (c1074 hsl) ?_
  refine gZ ?_
  refine t_cond (fun e => absurd e (by decide)) (fun _ => ?_)
  refine t_call (FW.top (c1080 (hl.le le1.1) hs hn hu)) ?_
  rintro _ _ ⟨rfl, v, rfl, hv⟩
  refine gZ ?_
  refine t_gr (c1079 (hr.le le1.1) (day := v) ⟨Int.le_trans hs.1 (hv.from hs.2 hn.1), hv.most⟩) ?_
  rintro _ h2 le2 rfl
  refine gZ ?_
  exact t_ret ⟨LH.le_trans le1 le2, _, rfl, v, hv, rfl⟩
/-! ### What the laws ask of calendars -/
theorem c1038 {h : LH} (f : CalC) : Pu Tryd.prog 6 #[calV f] h (.bool (decide ((f.n0 : Int) > 20) || decide ((f.n1 : Int) > 20))) := by
  refine w1038 _ _ _ _ _ _ X0_ok ?_
  unfold n1038
  refine t_if (fun e => ?_) (fun e => ?_)
  · exact t_ret ⟨by rw [decide_eq_true e, Bool.true_or], rfl⟩
  · exact t_ret ⟨by rw [decide_eq_false e, Bool.false_or], rfl⟩
theorem c1039 {h : LH} {f : CalC} {c : CalD} (hr : CalR h.get f c) : FW X0 Tryd.prog 7 #[calV f] h fun r h' => h = h' ∧ ∃ g : Int, r = .int .i64 g ∧ (g = 0 → CalOk c) := by
  refine w1039 _ _ _ _ _ _ X0_ok ?_
  unfold n1039
  have hn := hr.closed.1
  have hb := hr.closed.2.1
  have hn1 := hr.closures.1
  have hb1 := hr.closures.2.1
  refine t_loopB (fun mm vs h' => h = h' ∧ ∃ i : Nat, vs = [.int .i64 0, .int .i64 i] ∧ i ≤ f.n0 ∧ mm = f.n0 - i ∧ ∀ (j : Nat) v, j < i → c.closed[j]? = some v → (0 ≤ v ∧ v ≤ 6) ∧ ∀ u, 0 < j → c.closed[j - 1]? = some u → u < v)
    (fun vs h' => h = h' ∧ ∃ i : Nat, vs = [.int .i64 0, .int .i64 i] ∧ ∀ (j : Nat) v, c.closed[j]? = some v → (0 ≤ v ∧ v ≤ 6) ∧ ∀ u, 0 < j → c.closed[j - 1]? = some u → u < v) ⟨rfl, 0, rfl, Nat.zero_le _, rfl, fun j v hj => absurd hj (Nat.not_lt_zero _)⟩ ?_ ?_
  · rintro Y mm vs _ hY ⟨rfl, i, rfl, hi, rfl, hall⟩
    refine gZ ?_
    refine t_if (fun e1 => ?_) (fun e1 => ?_)
    · obtain ⟨x, a, hx, ha, e2⟩ := hr.closed.at (i := i) (by omega)
      unfold IntE at e2
      have next : ((0 ≤ x ∧ x ≤ 6) ∧ ∀ u, 0 < i → c.closed[i - 1]? = some u → u < x) → Y [.int .i64 0, .int .i64 (IntKind.wrap .i64 ((i : Int) + 1))] h := by
        intro hok
        refine hY (f.n0 - (i + 1)) _ _ (by omega) ⟨rfl, i + 1, ?_, by omega, rfl, fun j v hj hv => ?_⟩
        · rw [wrap_id (by omega) (by omega)]; rfl
        · by_cases e : j = i
          · subst e; rw [hx] at hv; cases hv; exact hok
          · exact hall j v (by omega) hv
      refine gZ ?_
      refine t_pu (c49 _ _ _) ?_
      refine gZ ?_
      refine t_cond (fun e => ?_) (fun e => ?_)
      · refine gI ?_
        refine gZ ?_
        exact t_ret ⟨rfl, 1, rfl, fun e => by cases e⟩
      have hin6 : 0 ≤ x ∧ x ≤ 6 := by
        unfold isIn at e
        simpa using e
      refine t_if (fun e3 => ?_) (fun e3 => ?_)
      · obtain ⟨u, a', hu, ha', e4⟩ := hr.closed.at (i := i - 1) (by omega)
        unfold IntE at e4
        obtain rfl : a = a' := Option.some.inj (ha.symm.trans ha')
        have ew : IntKind.wrap .i64 ((i : Int) - 1) = ((i - 1 : Nat) : Int) := by rw [wrap_id (by omega) (by omega)]; omega
        rw [ew]
        have hin : 0 ≤ ((i - 1 : Nat) : Int) ∧ ((i - 1 : Nat) : Int) < (f.n0 : Int) := by omega
        refine gZ ?_
        refine t_if (fun e5 => ?_) (fun e5 => ?_)
        · refine gI ?_
          refine gZ ?_
          exact t_ret ⟨rfl, 7, rfl, fun e => by cases e⟩
        · refine t_again (next ⟨hin6, fun u' _ hu' => ?_⟩)
          rw [hu] at hu'; cases hu'; omega
      · refine gZ ?_
        exact t_again (next ⟨hin6, fun u' h0 _ => by omega⟩)
    · refine gH ⟨rfl, i, rfl, fun j v hv => hall j v ?_ hv⟩
      have := (List.getElem?_eq_some_iff.1 hv).1
      omega
  · rintro vs _ ⟨rfl, i, rfl, hcl⟩
    refine gZ ?_
    refine t_if (fun e1 => ?_) (fun e1 => ?_)
    · exact t_ret ⟨rfl, 2, rfl, fun e => by cases e⟩
    refine t_loop (fun mm vs h' => h = h' ∧ ∃ j : Nat, vs = [.int .i64 0, .int .i64 j] ∧ j ≤ f.n1 ∧ mm = f.n1 - j ∧ ∀ (k : Nat) s, k < j → c.closures[k]? = some s → 0 ≤ s.first ∧ s.first ≤ s.last ∧ s.last ≤ 36524) ⟨rfl, 0, rfl, Nat.zero_le _, rfl, fun k s hk => absurd hk (Nat.not_lt_zero _)⟩ ?_
    rintro Y mm vs _ hY ⟨rfl, j, rfl, hj, rfl, hall⟩
    refine gZ ?_
    refine t_if (fun e2 => ?_) (fun e2 => ?_)
    · obtain ⟨x, a, hx, ha, e3, e4⟩ := hr.closures.at (i := j) (by omega)
      refine gZ ?_
      refine t_pu (c93 _ _ _ _) ?_
      refine gZ ?_
      refine t_cond (fun e => ?_) (fun e => ?_)
      · refine gI ?_
        refine gZ ?_
        exact t_ret ⟨rfl, 1, rfl, fun e => by cases e⟩
      · have hin : 0 ≤ x.first ∧ x.first ≤ x.last ∧ x.last ≤ 36524 := by simpa using e
        refine t_again (hY (f.n1 - (j + 1)) _ _ (by omega) ⟨rfl, j + 1, ?_, by omega, rfl, fun k s hk hs => ?_⟩)
        · rw [wrap_id (by omega) (by omega)]; rfl
        · by_cases e5 : k = j
          · subst e5; rw [hx] at hs; cases hs; exact hin
          · exact hall k s (by omega) hs
    · refine gZ ?_
      refine t_ret ⟨rfl, 0, rfl, fun _ => ⟨hcl, by omega, fun s hs => ?_⟩⟩
      obtain ⟨k, hk⟩ := List.mem_iff_getElem?.1 hs
      have := (List.getElem?_eq_some_iff.1 hk).1
      exact hall k s (by omega) hk
def CalEnd (h : LH) (f : CalC) (c : CalD) (y : Span) (vs : List Value) (h' : LH) : Prop := ∃ p n k, vs = [.slice f.p0 f.n0 f.c0, .slice p n k] ∧ h.le h' ∧ CalR h'.get { f with p1 := p, n1 := n, c1 := k } { c with closures := c.closures ++ [y] }
end Go.Proofs.YtldamlcehbdkdaaDoor
end
section
namespace Go.Proofs.YtldamlcehbdkdaaDoor
open Go Go.TM Go.Proofs
attribute [local irreducible] T.wp CV FWK
theorem t_buildG {X : XP} {Q : Leaf → LH → Prop} {h : LH} {k : Value → T} {t el : TypeId} {n s b : Nat} {parts : Array (Nat × Value)} {z : Value} {cells : Array Value} (hu : Tryd.prog.underlying t = some (.slice el)) (hi : (Tryd.prog.info? el).map (fun i => (i.size, i.bytes, i.zero)) = some (s, b, some z)) (hn : n * s ≤ 2 ^ 24) (hpos : n * s ≠ 0)
    (hf : Instr.fill (fun i => some (i * s, s)) ((Array.range (n * s)).map (z.cells[· % z.cells.size]!)) parts.toList = some cells)
    (hk : ∀ r h', h.le h' → h.get r = none → h'.get r = some (true, .cells cells el (0, 0)) → (k (.slice (some ⟨r, 0, none⟩) n n)).wp X Tryd.prog Q h') : (T.sem false (Instr.buildSlice t n parts) k).wp X Tryd.prog Q h :=
  t_build hu hi hn hpos hf fun r hr => hk r _ (LH.upd_le hr) hr (Cells.upd_self _ _ _)
end Go.Proofs.YtldamlcehbdkdaaDoor
end
section
namespace Go.Proofs.YtldamlcehbdkdaaDoor
open Go Go.TM Go.Proofs
attribute [local irreducible] T.wp CV FWK
theorem tmod_nn {a b : Int} (ha : 0 ≤ a) : Int.tmod a b = a % b := by rw [Int.tmod_eq_emod_of_nonneg ha]
end Go.Proofs.YtldamlcehbdkdaaDoor
end
section
namespace Go.Proofs.YtldamlcehbdkdaaDoor
open Go Go.TM Go.Proofs
attribute [local irreducible] T.wp CV FWK
theorem mod_pos {n b : Int} (hb : 0 < b) : 0 ≤ n % b ∧ n % b < b := ⟨Int.emod_nonneg _ (by omega), Int.emod_lt_of_pos _ hb⟩
end Go.Proofs.YtldamlcehbdkdaaDoor
end
section
namespace Go.Proofs.YtldamlcehbdkdaaDoor
open Go Go.TM Go.Proofs
attribute [local irreducible] T.wp CV FWK
def SpanEnc (x : Span) (ws : List Value) : Prop := ws = [.int .i64 x.first, .int .i64 x.last]
theorem SpanEnc.len : ∀ x ws, SpanEnc x ws → ws.length = 2 := by rintro x _ rfl; rfl
theorem SpanEnc.e {h' : Cells} : ∀ a x ws, SpanEnc x ws → (∀ (j : Nat) w, ws[j]? = some w → h'.cell? (a.add j) = some w) → SpanE h' a x := by
  rintro a x _ rfl hc
  exact ⟨hc 0 _ rfl, hc 1 _ rfl⟩
theorem spanTold {h : Cells} : ToldE SpanE SpanEnc 2 h := by
  rintro a x ⟨h1, h2⟩
  refine ⟨_, rfl, rfl, fun j w hj => ?_, fun w hw => by simp at hw; rcases hw with rfl | rfl <;> rfl⟩
  match j, hj with
  | 0, hj => cases hj; exact h1
  | 1, hj => cases hj; exact h2
  | j + 2, hj => simp at hj
theorem row_stands {h h' : Cells} {r : Nat} {cs : Array Value} {el : TypeId} {ws : List Value} (hr : h r = some (true, .cells cs el (0, 0))) (hc : ∀ (j : Nat) w, ws[j]? = some w → cs[j]? = some w) (hk : h' r = h r) (j : Nat) (w : Value) (hj : ws[j]? = some w) : h'.cell? ((⟨r, 0, none⟩ : Addr).add j) = some w := by
  rw [add_plain, Nat.zero_add]
  unfold Cells.cell?
  rw [hk, hr]
  exact hc j w hj
section
variable {X : XP} {Q : Leaf → LH → Prop}
theorem copy_end1 {α : Type} {Enc : α → List Value → Prop} {h h₁ : LH} {K : Value → T} {tS el : TypeId} {s by_ : Nat} {z : Value} {p : Option Addr} {n c : Nat} {l : List α} {x : α} {ws : List Value} {r : Nat} {cs : Array Value} (hu : Tryd.prog.underlying tS = some (.slice el)) (hi : (Tryd.prog.info? el).map (fun i => (i.size, i.bytes, i.zero)) = some (s, by_, some z)) (hsz : z.cells.size = s) (hb : by_ ≤ 1024) (hn : n + 1 ≤ 2 ^ 30)
    (g : Growing Enc el s h.get h₁.get p n c l) (hle : h.le h₁) (he : Enc x ws) (hl : ws.length = s) (one : ∀ v ∈ ws, isOne v = true) (hr : h₁.get r = some (true, .cells cs el (0, 0))) (hc : ∀ (j : Nat) w, ws[j]? = some w → cs[j]? = some w)
    (hk : ∀ p' c' h', h.le h' → Growing Enc el s h.get h'.get p' (n + 1) c' (l ++ [x]) → (K (.slice p' (n + 1) c')).wp X Tryd.prog Q h') : (T.sem false (Builtin.append_ #[tS, tS] tS #[.slice p n c, .slice (some ⟨r, 0, none⟩) 1 1]) K).wp X Tryd.prog Q h₁ :=
  t_grow (h₀ := h) (x := x) (ws := ws) rfl rfl hu hu hi hsz hb hn g hle he hl (fun j v hj => row_stands hr hc rfl j v hj) one fun p' c' h' a _ b => hk p' c' h' a b
end
end Go.Proofs.YtldamlcehbdkdaaDoor
end
section
namespace Go.Proofs.YtldamlcehbdkdaaDoor
open Go Go.TM Go.Proofs
attribute [local irreducible] T.wp CV FWK
theorem t_sliceHigh {P : Program} {X : XP} {Q : Leaf → LH → Prop} {h : LH} {K : Value → T} {t el : TypeId} {s b : Nat} {z : Option Value} {p : Option Addr} {n c i : Nat} (hu : P.underlying t = some (.slice el)) (hi : (P.info? el).map (fun i => (i.size, i.bytes, i.zero)) = some (s, b, z)) (hin : i ≤ c)
    (hk : (K (.slice p i c)).wp X P Q h) : (T.sem false (Instr.sliceAt t (.slice p n c) none (some (.int .i64 (i : Int))) none) K).wp X P Q h := by
  obtain ⟨inf, g1, g2, _, _⟩ := info_of hi
  refine t_sem (A := fun v h' => v = .slice p i c ∧ h' = h.get) ?_ (by rintro v h' ⟨rfl, rfl⟩; exact hk)
  unfold Instr.sliceAt
  simp only [lwp_bind, lwp_underlying hu]
  unfold Instr.slice
  simp only [lwp_bind, lwp_underlying hu]
  unfold Instr.sliceBounds Instr.sliceBound
  simp only [lwp_bind, lwp_pure, asIntOf]
  rw [if_pos (show 0 ≤ (i : Int) ∧ (i : Int) ≤ (c : Int) by omega)]
  simp only [lwp_pure, lwp_sizeOf g1, Int.toNat_natCast, g2, Nat.zero_mul, Nat.sub_zero]
  have e : (p.map fun x : Addr => x.add 0) = p := by cases p <;> simp [Addr.add]
  rw [e]
  simp
end Go.Proofs.YtldamlcehbdkdaaDoor
end
section
namespace Go.Proofs.YtldamlcehbdkdaaDoor
open Go Go.TM Go.Proofs
attribute [local irreducible] T.wp CV FWK
theorem calEnd_of {h h' : LH} {f : CalC} {c : CalD} {y : Span} (hc : CalR h.get f c) (hm : c.closures.length ≤ 6) {p : Option Addr} {n k : Nat} (hle : h.le h') (g : Growing SpanEnc 32 2 h.get h'.get p n k (c.closures ++ [y])) : CalEnd h f c y [.slice f.p0 f.n0 f.c0, .slice p n k] h' :=
  ⟨p, n, k, rfl, hle, (hc.le hle.1).closed, g.sl SpanEnc.len (by omega) SpanEnc.e (by simp; omega)⟩
theorem unit_mod {u : Int} (hu : 0 ≤ u ∧ u ≤ 255) : IntKind.wrap .i64 (Int.tmod u 3) = u % 3 ∧ 0 ≤ u % 3 ∧ u % 3 ≤ 2 := by
  have h := mod_pos (n := u) (b := 3) (by omega)
  rw [tmod_nn hu.1, wrap_id (by omega) (by omega)]
  exact ⟨rfl, by omega, by omega⟩
end Go.Proofs.YtldamlcehbdkdaaDoor
end
section
namespace Go.Proofs.YtldamlcehbdkdaaDoor.Tre
open Go Go.TM Go.Proofs Go.TM.Tr
attribute [local irreducible] T.wp CV FWK
theorem not_and_false {a b : Bool} (h : a = false) : (a && b) = false := by rw [h]; rfl
def numsB (x : TF) : Bool := inB x.items 0 5 && (inB x.lands 1 3 && (dayB x.start && (dayB x.depend && (dayB x.refuse && dayB x.turn))))
theorem nums_ok {x : TF} (h : numsB x = true) : IsI (x.lands - 1) ∧ IsI (x.items - 1) := by
  simp [numsB, inB] at h
  unfold IsI
  omega
theorem checkT_nums {x : TF} (h : numsB x = false) : checkT x = 1 := by unfold checkT; exact if_pos h
theorem checkT_many {x : TF} (h : numsB x = true) (h2 : 10 < x.events.length) : checkT x = 2 := by
  unfold checkT
  rw [if_neg (by unfold numsB at h; rw [h]; simp), if_pos h2]
theorem checkT_each {x : TF} (h : numsB x = true) (h2 : ¬ 10 < x.events.length) : checkT x = firstT (fun _ e => eventT x e) 0 x.events := by
  unfold checkT
  rw [if_neg (by unfold numsB at h; rw [h]; simp), if_neg h2]
theorem check_is {x : TF} (h : checkT x = 0) : IsI (x.lands - 1) ∧ IsI (x.items - 1) := by
  have := check_numbers h
  unfold IsI; omega
theorem c2021 {h : LH} (hk : Kinds h.get) {f : TC} {x : TF} (hx : TreatyR h.get f x) : Pu Tryd.prog 126 #[treatyV f x] h (.int .i64 (checkT x)) := by
  refine w2021 _ _ _ _ _ _ _ _ _ X0_ok ?_
  unfold n2021
  have hn := hx.2.1
  have hb := hx.2.2.1
  refine t_blk (fun vs h' => vs = [.int .i64 0] ∧ numsB x = true ∧ h = h') ?_ ?_
  · refine t_pu (c2052 _ _ _) ?_
    refine gZ ?_
    refine t_cond (fun e => ?_) (fun e0 => ?_)
    · refine gI ?_
      refine gZ ?_
      exact t_ret ⟨by rw [checkT_nums (not_and_false (by simpa using e))], rfl⟩
    have e0 : inB x.items 0 5 = true := by simpa using e0
    refine t_pu (c2052 _ _ _) ?_
    refine gZ ?_
    refine t_cond (fun e => ?_) (fun e1 => ?_)
    · refine gI ?_
      refine gZ ?_
      have e : inB x.lands 1 3 = false := by simpa using e
      exact t_ret ⟨by rw [checkT_nums (by simp [numsB, e])], rfl⟩
    have e1 : inB x.lands 1 3 = true := by simpa using e1
    refine t_pu (c2053 _) ?_
    refine gZ ?_
    refine t_cond (fun e => ?_) (fun e2 => ?_)
    · refine gI ?_
      refine gZ ?_
      have e : dayB x.start = false := by simpa using e
      exact t_ret ⟨by rw [checkT_nums (by simp [numsB, e])], rfl⟩
    have e2 : dayB x.start = true := by simpa using e2
    refine t_pu (c2053 _) ?_
    refine gZ ?_
    refine t_cond (fun e => ?_) (fun e3 => ?_)
    · refine gI ?_
      refine gZ ?_
      have e : dayB x.depend = false := by simpa using e
      exact t_ret ⟨by rw [checkT_nums (by simp [numsB, e])], rfl⟩
    have e3 : dayB x.depend = true := by simpa using e3
    refine t_pu (c2053 _) ?_
    refine gZ ?_
    refine t_cond (fun e => ?_) (fun e4 => ?_)
    · refine gI ?_
      refine gZ ?_
      have e : dayB x.refuse = false := by simpa using e
      exact t_ret ⟨by rw [checkT_nums (by simp [numsB, e])], rfl⟩
    have e4 : dayB x.refuse = true := by simpa using e4
    refine t_pu (c2053 _) ?_
    refine gZ ?_
    refine t_cond (fun e => ?_) (fun e5 => ?_)
    · refine gI ?_
      refine gZ ?_
      have e : dayB x.turn = false := by simpa using e
      exact t_ret ⟨by rw [checkT_nums (by simp [numsB, e])], rfl⟩
    have e5 : dayB x.turn = true := by simpa using e5
    exact t_again ⟨rfl, by simp [numsB, e0, e1, e2, e3, e4, e5], rfl⟩
  rintro vs _ ⟨rfl, hnum, rfl⟩
  refine gZ ?_
  refine t_if (fun e => ?_) (fun e => ?_)
  · exact t_ret ⟨by rw [checkT_many hnum (by omega)], rfl⟩
  have hck := checkT_each hnum (by omega)
  refine t_loop (fun mm vs h' => h = h' ∧ ∃ i : Nat, vs = [.int .i64 0, .int .i64 i] ∧ i ≤ f.n ∧ mm = f.n - i ∧ checkT x = firstT (fun _ e => eventT x e) i (x.events.drop i)) ⟨rfl, 0, rfl, Nat.zero_le _, rfl, hck⟩ ?_
  rintro Y mm vs _ hY ⟨rfl, i, rfl, hi, rfl, hc⟩
  refine gZ ?_
  refine t_if (fun e1 => ?_) (fun e1 => ?_)
  · obtain ⟨y, a, hy, ha, g0, g1, g2, ⟨q, m, c, g3, _, g5⟩, g4⟩ := hx.2.at (i := i) (by omega)
    rw [drop_of hy, firstT] at hc
    refine gZ ?_
    refine t_pu (c2054 hk (f := f) (x := x) (e := y) (nums_ok hnum).1 (nums_ok hnum).2 g5) ?_
    refine gZ ?_
    refine t_cond (fun d => ?_) (fun d => ?_)
    · refine gZ ?_
      rw [if_pos (by simpa using d)] at hc
      exact t_ret ⟨by rw [hc], rfl⟩
    · rw [if_neg (by simpa using d)] at hc
      refine t_again (hY (f.n - (i + 1)) _ _ (by omega) ⟨rfl, i + 1, ?_, by omega, rfl, hc⟩)
      rw [wrap_id (by omega) (by omega)]; rfl
  · refine gZ ?_
    rw [List.drop_eq_nil_of_le (by omega), firstT] at hc
    exact t_ret ⟨by rw [hc], rfl⟩
def askedT (x : TF) (land : Int) : Int := if checkT x ≠ 0 then checkT x else if inB land 0 (x.lands - 1) = false then 6 else 0
def askedDayT (x : TF) (land day : Int) : Int := if askedT x land ≠ 0 then askedT x land else if dayB day then 0 else 1
def askedItemT (x : TF) (land item : Int) : Int := if askedT x land ≠ 0 then askedT x land else if inB item 0 (x.items - 1) then 0 else 6
def askedAllT (x : TF) (land item day : Int) : Int := if askedItemT x land item ≠ 0 then askedItemT x land item else if dayB day then 0 else 1
theorem asked_ok {x : TF} {land : Int} (h : askedT x land = 0) : checkT x = 0 ∧ inB land 0 (x.lands - 1) = true := by
  unfold askedT at h
  split at h
  · rename_i h1; exact absurd h h1
  · rename_i h1
    split at h
    · cases h
    · rename_i h2; exact ⟨by simpa using h1, by simpa using h2⟩
theorem askedDay_ok {x : TF} {land day : Int} (h : askedDayT x land day = 0) : askedT x land = 0 ∧ dayB day = true := by
  unfold askedDayT at h
  split at h
  · rename_i h1; exact absurd h h1
  · rename_i h1
    split at h
    · rename_i h2; exact ⟨by simpa using h1, h2⟩
    · cases h
theorem askedItem_ok {x : TF} {land item : Int} (h : askedItemT x land item = 0) : askedT x land = 0 ∧ inB item 0 (x.items - 1) = true := by
  unfold askedItemT at h
  split at h
  · rename_i h1; exact absurd h h1
  · rename_i h1
    split at h
    · rename_i h2; exact ⟨by simpa using h1, h2⟩
    · cases h
theorem askedAll_ok {x : TF} {land item day : Int} (h : askedAllT x land item day = 0) : askedItemT x land item = 0 ∧ dayB day = true := by
  unfold askedAllT at h
  split at h
  · rename_i h1; exact absurd h h1
  · rename_i h1
    split at h
    · rename_i h2; exact ⟨by simpa using h1, h2⟩
    · cases h
theorem c2079 {h : LH} (hk : Kinds h.get) {f : TC} {x : TF} (hx : TreatyR h.get f x) (land : Int) : Pu Tryd.prog 112 #[treatyV f x, .int .i64 land] h (.int .i64 (askedT x land)) := by
  refine w2079 _ _ _ _ _ _ _ _ _ _ X0_ok ?_
  unfold n2079
  refine t_pu (c2021 hk hx) ?_
  refine gZ ?_
  refine t_cond (fun e => ?_) (fun e => ?_)
  · exact t_ret ⟨by rw [askedT, if_pos (by simpa using e)], rfl⟩
  have e : checkT x = 0 := by simpa using e
  have hi := check_is e
  rw [wrap_id hi.1.1 hi.1.2]
  refine t_pu (c2052 _ _ _) ?_
  refine gZ ?_
  refine t_cond (fun d => ?_) (fun d => ?_)
  · exact t_ret ⟨by rw [askedT, if_neg (by simp [e]), if_pos (by simpa using d)], rfl⟩
  · exact t_ret ⟨by rw [askedT, if_neg (by simp [e]), if_neg (by simp at d; simp [d])], rfl⟩
theorem c2063 {h : LH} (hk : Kinds h.get) {f : TC} {x : TF} (hx : TreatyR h.get f x) (land day : Int) : Pu Tryd.prog 81 #[treatyV f x, .int .i64 land, .int .i64 day] h (.int .i64 (askedDayT x land day)) := by
  refine w2063 _ _ _ _ _ _ _ _ _ _ _ X0_ok ?_
  unfold n2063
  refine t_pu (c2079 hk hx land) ?_
  refine gZ ?_
  refine t_cond (fun e => ?_) (fun e => ?_)
  · exact t_ret ⟨by rw [askedDayT, if_pos (by simpa using e)], rfl⟩
  have e : askedT x land = 0 := by simpa using e
  refine t_pu (c2053 _) ?_
  refine gZ ?_
  refine t_cond (fun d => ?_) (fun d => ?_)
  · exact t_ret ⟨by rw [askedDayT, if_neg (by simp [e]), if_pos d, e], rfl⟩
  · exact t_ret ⟨by rw [askedDayT, if_neg (by simp [e]), if_neg (by simp [d])], rfl⟩
theorem c2058 {h : LH} (hk : Kinds h.get) {f : TC} {x : TF} (hx : TreatyR h.get f x) (land item : Int) : Pu Tryd.prog 83 #[treatyV f x, .int .i64 land, .int .i64 item] h (.int .i64 (askedItemT x land item)) := by
  refine w2058 _ _ _ _ _ _ _ _ _ _ _ X0_ok ?_
  unfold n2058
  refine t_pu (c2079 hk hx land) ?_
  refine gZ ?_
  refine t_cond (fun e => ?_) (fun e => ?_)
  · exact t_ret ⟨by rw [askedItemT, if_pos (by simpa using e)], rfl⟩
  have e : askedT x land = 0 := by simpa using e
  have hi := check_is (asked_ok e).1
  rw [wrap_id hi.2.1 hi.2.2]
  refine t_pu (c2052 _ _ _) ?_
  refine gZ ?_
  refine t_cond (fun d => ?_) (fun d => ?_)
  · exact t_ret ⟨by rw [askedItemT, if_neg (by simp [e]), if_pos d, e], rfl⟩
  · exact t_ret ⟨by rw [askedItemT, if_neg (by simp [e]), if_neg (by simp [d])], rfl⟩
theorem c2066 {h : LH} (hk : Kinds h.get) {f : TC} {x : TF} (hx : TreatyR h.get f x) (land item day : Int) : Pu Tryd.prog 86 #[treatyV f x, .int .i64 land, .int .i64 item, .int .i64 day] h (.int .i64 (askedAllT x land item day)) := by
  refine w2066 _ _ _ _ _ _ _ _ _ _ _ _ X0_ok ?_
  unfold n2066
  refine t_pu (c2058 hk hx land item) ?_
  refine gZ ?_
  refine t_cond (fun e => ?_) (fun e => ?_)
  · exact t_ret ⟨by rw [askedAllT, if_pos (by simpa using e)], rfl⟩
  have e : askedItemT x land item = 0 := by simpa using e
  refine t_pu (c2053 _) ?_
  refine gZ ?_
  refine t_cond (fun d => ?_) (fun d => ?_)
  · exact t_ret ⟨by rw [askedAllT, if_neg (by simp [e]), if_pos d, e], rfl⟩
  · exact t_ret ⟨by rw [askedAllT, if_neg (by simp [e]), if_neg (by simp [d])], rfl⟩
end Go.Proofs.YtldamlcehbdkdaaDoor.Tre
end
section
namespace Go.Proofs.YtldamlcehbdkdaaDoor.Tre
open Go Go.TM Go.Proofs Go.TM.Tr
attribute [local irreducible] T.wp CV FWK
set_option maxRecDepth 10000 in
theorem c2057 {h : LH} {f : TC} {x : TF} {e : Ev} {q : Option Addr} {m c : Nat} (hl : IsI (x.lands - 1)) (hi : IsI (x.items - 1)) (hs : Sl IntE 1 h.get q m e.items) :
    Pu Tryd.prog 80 #[treatyV f x, .agg #[.int .i64 e.kind, .int .i64 e.day, .int .i64 e.land, .slice q m c, .int .i64 e.since]] h (.int .i64 (eventT x e)) := by
  refine w2057 _ _ _ _ _ _ _ _ _ _ _ _ _ _ _ _ X0_ok ?_
  unfold n2057
  have hm := hs.1
  have hb := hs.2.1
  refine t_blk (fun vs h' => vs = [.int .i64 0] ∧ (inB e.kind 0 6 && (dayB e.day && dayB e.since)) = true ∧ h = h') ?_ ?_
  · have bad : (inB e.kind 0 6 && (dayB e.day && dayB e.since)) = false → eventT x e = 1 := fun hb => by rw [eventT, if_pos hb]
    refine t_if (fun e1 => ?_) (fun e1 => ?_)
    · refine gI ?_
      refine gZ ?_
      exact t_ret ⟨by rw [bad (by rw [show inB e.kind 0 6 = false by unfold inB; rw [decide_eq_false (by omega), Bool.false_and]]; rfl)], rfl⟩
    refine t_if (fun e2 => ?_) (fun e2 => ?_)
    · refine gI ?_
      refine gZ ?_
      exact t_ret ⟨by rw [bad (by rw [show inB e.kind 0 6 = false by unfold inB; rw [decide_eq_false (p := e.kind ≤ 6) (by omega), Bool.and_false]]; rfl)], rfl⟩
    have hk : inB e.kind 0 6 = true := by unfold inB; rw [decide_eq_true (by omega), decide_eq_true (by omega)]; rfl
    refine t_pu (c2056 _) ?_
    refine gZ ?_
    refine t_cond (fun e3 => ?_) (fun e3 => ?_)
    · refine gI ?_
      refine gZ ?_
      have : dayB e.day = false := by simpa using e3
      exact t_ret ⟨by rw [bad (by rw [this]; simp)], rfl⟩
    have hd : dayB e.day = true := by simpa using e3
    refine t_pu (c2056 _) ?_
    refine gZ ?_
    refine t_cond (fun e3 => ?_) (fun e3 => ?_)
    · refine gI ?_
      refine gZ ?_
      have : dayB e.since = false := by simpa using e3
      exact t_ret ⟨by rw [bad (by rw [this]; simp)], rfl⟩
    have he : dayB e.since = true := by simpa using e3
    exact t_again ⟨rfl, by rw [hk, hd, he]; rfl, rfl⟩
  rintro vs _ ⟨rfl, b', rfl⟩
  have hev1 : eventT x e = if inB e.land 0 (x.lands - 1) = false then 6 else if itemsT e.items x.items ≠ 0 then itemsT e.items x.items else if (e.kind = 4 ∧ e.land ≠ 0) ∨ (e.kind ≠ 4 ∧ e.kind ≠ 6 ∧ e.since ≠ 0) then 1 else if e.since > e.day then 7 else 0 := by
    rw [eventT, if_neg (by rw [b']; simp)]
  refine gZ ?_
  rw [wrap_id hl.1 hl.2]
  refine t_pu (c49 _ _ _) ?_
  refine gZ ?_
  refine t_cond (fun d => ?_) (fun d => ?_)
  · refine t_ret ⟨?_, rfl⟩
    rw [hev1, if_pos (by simpa using d)]
  have hev2 : eventT x e = if itemsT e.items x.items ≠ 0 then itemsT e.items x.items else if (e.kind = 4 ∧ e.land ≠ 0) ∨ (e.kind ≠ 4 ∧ e.kind ≠ 6 ∧ e.since ≠ 0) then 1 else if e.since > e.day then 7 else 0 := by
    rw [hev1, if_neg (by simp at d; simp [d])]
  refine t_loop (fun mm vs h' => h = h' ∧ ∃ i : Nat, vs = [.int .i64 0, .int .i64 i] ∧ i ≤ m ∧ mm = m - i ∧ itemsT e.items x.items = firstT (Tr.stepT e.items x.items) i (e.items.drop i)) ⟨rfl, 0, rfl, Nat.zero_le _, rfl, rfl⟩ ?_
  rintro Y mm vs _ hY ⟨rfl, i, rfl, hi', rfl, hc⟩
  refine gZ ?_
  refine t_if (fun e1 => ?_) (fun e1 => ?_)
  · obtain ⟨y, a, hy, ha, e2⟩ := hs.at (i := i) (by omega)
    unfold IntE at e2
    rw [drop_of hy, firstT] at hc
    refine gZ ?_
    rw [wrap_id hi.1 hi.2]
    refine t_pu (c49 _ _ _) ?_
    refine gZ ?_
    have next : Tr.stepT e.items x.items i y = 0 → Y [.int .i64 0, .int .i64 (IntKind.wrap .i64 ((i : Int) + 1))] h := by
      intro hz
      rw [if_neg (by rw [hz]; simp)] at hc
      refine hY (m - (i + 1)) _ _ (by omega) ⟨rfl, i + 1, ?_, by omega, rfl, hc⟩
      rw [wrap_id (by omega) (by omega)]; rfl
    have stop : ∀ z : Int, z ≠ 0 → Tr.stepT e.items x.items i y = z → eventT x e = z := by
      intro z hz hr
      rw [hr, if_pos hz] at hc
      rw [hev2, hc, if_pos hz]
    refine t_cond (fun d1 => ?_) (fun d1 => ?_)
    · refine gZ ?_
      refine t_ret ⟨?_, rfl⟩
      rw [stop 6 (by decide) (by rw [Tr.stepT, if_pos (by simpa using d1)])]
    have d1' : ¬ inB y 0 (x.items - 1) = false := by simp at d1; simp [d1]
    refine t_if (fun d2 => ?_) (fun d2 => ?_)
    · obtain ⟨z, a2, hz, ha2, e3⟩ := hs.at (i := i - 1) (by omega)
      unfold IntE at e3
      rw [ha] at ha2; cases ha2
      have hwi : IntKind.wrap .i64 ((i : Int) - 1) = ((i - 1 : Nat) : Int) := by rw [wrap_id (by omega) (by omega)]; omega
      have hrun := itemsT_run (b := x.items) hy (fun _ => hz)
      rw [hwi]
      refine gZ ?_
      refine t_if (fun d3 => ?_) (fun d3 => ?_)
      · refine gZ ?_
        refine t_ret ⟨?_, rfl⟩
        rw [stop 7 (by decide) (by rw [hrun, if_neg d1', if_pos ⟨by omega, d3⟩])]
      · exact t_again (next (by rw [hrun, if_neg d1', if_neg (by omega)]))
    · refine gZ ?_
      exact t_again (next (by rw [Tr.stepT, if_neg d1', if_neg (by omega)]))
  · refine gZ ?_
    rw [List.drop_eq_nil_of_le (by omega), firstT] at hc
    have hev3 : eventT x e = if (e.kind = 4 ∧ e.land ≠ 0) ∨ (e.kind ≠ 4 ∧ e.kind ≠ 6 ∧ e.since ≠ 0) then 1 else if e.since > e.day then 7 else 0 := by
      rw [hev2, if_neg (by rw [hc]; simp)]
    rw [hev3]
    repeat' first
      | (refine t_cond (fun _ => ?_) (fun _ => ?_))
      | (refine t_ret ⟨?_, rfl⟩)
    all_goals (congr 1; simp_all; try omega)
theorem c2022 {h : LH} {f : TC} {x : TF} (hx : TreatyR h.get f x) : Pu Tryd.prog 45 #[treatyV f x] h (.int .i64 (checkT x)) := by
  refine w2022 _ _ _ _ _ _ _ _ _ X0_ok ?_
  unfold n2022
  have hn := hx.2.1
  have hb := hx.2.2.1
  refine t_blk (fun vs h' => vs = [.int .i64 0] ∧ numsB x = true ∧ h = h') ?_ ?_
  · refine t_pu (c49 _ _ _) ?_
    refine gZ ?_
    refine t_cond (fun e => ?_) (fun e0 => ?_)
    · refine gI ?_
      refine gZ ?_
      exact t_ret ⟨by rw [checkT_nums (not_and_false (by simpa using e))], rfl⟩
    have e0 : inB x.items 0 5 = true := by simpa using e0
    refine t_pu (c49 _ _ _) ?_
    refine gZ ?_
    refine t_cond (fun e => ?_) (fun e1 => ?_)
    · refine gI ?_
      refine gZ ?_
      have e : inB x.lands 1 3 = false := by simpa using e
      exact t_ret ⟨by rw [checkT_nums (by simp [numsB, e])], rfl⟩
    have e1 : inB x.lands 1 3 = true := by simpa using e1
    refine t_pu (c2056 _) ?_
    refine gZ ?_
    refine t_cond (fun e => ?_) (fun e2 => ?_)
    · refine gI ?_
      refine gZ ?_
      have e : dayB x.start = false := by simpa using e
      exact t_ret ⟨by rw [checkT_nums (by simp [numsB, e])], rfl⟩
    have e2 : dayB x.start = true := by simpa using e2
    refine t_pu (c2056 _) ?_
    refine gZ ?_
    refine t_cond (fun e => ?_) (fun e3 => ?_)
    · refine gI ?_
      refine gZ ?_
      have e : dayB x.depend = false := by simpa using e
      exact t_ret ⟨by rw [checkT_nums (by simp [numsB, e])], rfl⟩
    have e3 : dayB x.depend = true := by simpa using e3
    refine t_pu (c2056 _) ?_
    refine gZ ?_
    refine t_cond (fun e => ?_) (fun e4 => ?_)
    · refine gI ?_
      refine gZ ?_
      have e : dayB x.refuse = false := by simpa using e
      exact t_ret ⟨by rw [checkT_nums (by simp [numsB, e])], rfl⟩
    have e4 : dayB x.refuse = true := by simpa using e4
    refine t_pu (c2056 _) ?_
    refine gZ ?_
    refine t_cond (fun e => ?_) (fun e5 => ?_)
    · refine gI ?_
      refine gZ ?_
      have e : dayB x.turn = false := by simpa using e
      exact t_ret ⟨by rw [checkT_nums (by simp [numsB, e])], rfl⟩
    have e5 : dayB x.turn = true := by simpa using e5
    exact t_again ⟨rfl, by simp [numsB, e0, e1, e2, e3, e4, e5], rfl⟩
  rintro vs _ ⟨rfl, hnum, rfl⟩
  refine gZ ?_
  refine t_if (fun e => ?_) (fun e => ?_)
  · exact t_ret ⟨by rw [checkT_many hnum (by omega)], rfl⟩
  have hck := checkT_each hnum (by omega)
  refine t_loop (fun mm vs h' => h = h' ∧ ∃ i : Nat, vs = [.int .i64 0, .int .i64 i] ∧ i ≤ f.n ∧ mm = f.n - i ∧ checkT x = firstT (fun _ e => eventT x e) i (x.events.drop i)) ⟨rfl, 0, rfl, Nat.zero_le _, rfl, hck⟩ ?_
  rintro Y mm vs _ hY ⟨rfl, i, rfl, hi, rfl, hc⟩
  refine gZ ?_
  refine t_if (fun e1 => ?_) (fun e1 => ?_)
  · obtain ⟨y, a, hy, ha, g0, g1, g2, ⟨q, m, c, g3, _, g5⟩, g4⟩ := hx.2.at (i := i) (by omega)
    rw [drop_of hy, firstT] at hc
    refine gZ ?_
    refine t_pu (c2057 (h := h) (f := f) (x := x) (e := y) (nums_ok hnum).1 (nums_ok hnum).2 g5) ?_
    refine gZ ?_
    refine t_cond (fun d => ?_) (fun d => ?_)
    · refine gZ ?_
      rw [if_pos (by simpa using d)] at hc
      exact t_ret ⟨by rw [hc], rfl⟩
    · rw [if_neg (by simpa using d)] at hc
      refine t_again (hY (f.n - (i + 1)) _ _ (by omega) ⟨rfl, i + 1, ?_, by omega, rfl, hc⟩)
      rw [wrap_id (by omega) (by omega)]; rfl
  · refine gZ ?_
    rw [List.drop_eq_nil_of_le (by omega), firstT] at hc
    exact t_ret ⟨by rw [hc], rfl⟩
end Go.Proofs.YtldamlcehbdkdaaDoor.Tre
end
section
namespace Go.Proofs.YtldamlcehbdkdaaDoor.Tre
open Go Go.TM Go.Proofs Go.TM.Tr
attribute [local irreducible] T.wp CV FWK
def matV (f : TC) (x : TF) (k i : Int) : Value := .agg #[.int .i64 x.items, .int .i64 x.lands, .int .i64 x.start, .int .i64 x.depend, .int .i64 x.refuse, .int .i64 x.turn, .slice f.p f.n f.c, .int .i64 k, .int .i64 i]
structure MatAt (h : Cells) (a : Addr) (f : TC) (x : TF) (k i : Int) : Prop where
  f0 : h.cell? ((a.add 0).add 0) = some (.int .i64 x.items)
  f1 : h.cell? ((a.add 0).add 1) = some (.int .i64 x.lands)
  f2 : h.cell? ((a.add 0).add 2) = some (.int .i64 x.start)
  f3 : h.cell? ((a.add 0).add 3) = some (.int .i64 x.depend)
  f4 : h.cell? ((a.add 0).add 4) = some (.int .i64 x.refuse)
  f5 : h.cell? ((a.add 0).add 5) = some (.int .i64 x.turn)
  f6 : h.cell? ((a.add 0).add 6) = some (.slice f.p f.n f.c)
  f7 : h.cell? ((a.add 0).add 7) = some (.int .i64 k)
  f8 : h.cell? ((a.add 0).add 8) = some (.int .i64 i)
theorem MatAt.rd {h h' : Cells} {a : Addr} {f : TC} {x : TF} {k i : Int} (hl : Rd h h') (m : MatAt h a f x k i) : MatAt h' a f x k i :=
  ⟨hl _ _ m.f0, hl _ _ m.f1, hl _ _ m.f2, hl _ _ m.f3, hl _ _ m.f4, hl _ _ m.f5, hl _ _ m.f6, hl _ _ m.f7, hl _ _ m.f8⟩
theorem MatAt.le {h h' : Cells} {a : Addr} {f : TC} {x : TF} {k i : Int} (hl : h.le h') (m : MatAt h a f x k i) : MatAt h' a f x k i := m.rd (Rd.of_le hl)
theorem add_zero' (a : Addr) : a.add 0 = a := by unfold Addr.add; simp
theorem add_zero2 (a : Addr) (i : Nat) : (a.add 0).add i = a.add i := by rw [add_zero']
theorem MatAt.s7 {h : Cells} {a : Addr} {f : TC} {x : TF} {k i : Int} (m : MatAt h a f x k i) : h.cell? (a.add 7) = some (.int .i64 k) := by have := m.f7; rwa [add_zero2] at this
theorem MatAt.s8 {h : Cells} {a : Addr} {f : TC} {x : TF} {k i : Int} (m : MatAt h a f x k i) : h.cell? (a.add 8) = some (.int .i64 i) := by have := m.f8; rwa [add_zero2] at this
def allB (K : Nat) (k i : Int) (e : Ev) : Bool := (e.kind == (K : Int)) && ((!landK K || (e.land == k)) && e.items.contains i)
theorem allB_about {K : Nat} (hK : K ≠ 4) (k i : Int) (e : Ev) : allB K k i e = about e K k i := by
  unfold allB about landK
  have : Nat.beq K 4 = false := by
    cases hb : Nat.beq K 4 with
    | false => rfl
    | true => exact absurd (Nat.eq_of_beq_eq_true hb) hK
  simp [this]
def handedE {α : Type} (V : Nat → Value) (s : α → Bool) : List α → Nat → List (List Value)
  | [], _ => []
  | x :: l, i => if s x then [V i] :: handedE V s l (i + 1) else handedE V s l (i + 1)
theorem handedE_len {α : Type} (V : Nat → Value) (s : α → Bool) : ∀ (l : List α) (i : Nat), (handedE V s l i).length = (l.filter s).length := by
  intro l
  induction l with
  | nil => intro i; rfl
  | cons x l ih => intro i; rw [handedE, List.filter_cons]; split <;> simp [ih]
theorem handedE_get {α : Type} (V : Nat → Value) (s : α → Bool) : ∀ (l : List α) (i k : Nat) xs, (handedE V s l i)[k]? = some xs → ∃ x j, (l.filter s)[k]? = some x ∧ l[j]? = some x ∧ xs = [V (i + j)] := by
  intro l
  induction l with
  | nil => intro i k xs h; simp [handedE] at h
  | cons x l ih =>
    intro i k xs h
    rw [handedE] at h
    rw [List.filter_cons]
    split at h
    · rename_i hs
      rw [if_pos hs]
      cases k with
      | zero => simp at h; exact ⟨x, 0, rfl, rfl, by simp [← h]⟩
      | succ k =>
        obtain ⟨y, j, h1, h2, h3⟩ := ih (i + 1) k xs (by simpa using h)
        exact ⟨y, j + 1, by simpa using h1, by simpa using h2, by rw [h3, show i + 1 + j = i + (j + 1) by omega]⟩
    · rename_i hs
      rw [if_neg hs]
      obtain ⟨y, j, h1, h2, h3⟩ := ih (i + 1) k xs h
      exact ⟨y, j + 1, h1, by simpa using h2, by rw [h3, show i + 1 + j = i + (j + 1) by omega]⟩
def evV (e : Ev) (q : Option Addr) (m c : Nat) : Value := .agg #[.int .i64 e.kind, .int .i64 e.day, .int .i64 e.land, .slice q m c, .int .i64 e.since]
theorem hands2095 {X : XP} (hX : XOK X) {h₀ : LH} (hk : Kinds h₀.get) {z0 z1 : Addr} {f : TC} {x : TF} {k i : Int} {K : Nat} (hK : K < 7) (hm : MatAt h₀.get z0 f x k i) (hz1 : h₀.get.cell? z1 = some (.int .i64 (K : Int))) (hx : TreatyR h₀.get f x) :
    ∃ L, L.length = (x.events.filter (allB K k i)).length ∧ (∀ (j : Nat) xs, L[j]? = some xs → ∃ e q m c, (x.events.filter (allB K k i))[j]? = some e ∧ xs = [evV e q m c] ∧ Sl IntE 1 h₀.get q m e.items) ∧
      Hands X Tryd.prog (.func (.func 128) #[] #[.pointer (some z0), .pointer (some z1)]) h₀ L := by
  have hs := hx.2
  let R : Nat → Value → Prop := fun j v => ∃ e a q m c, x.events[j]? = some e ∧ f.p = some a ∧ v = evV e q m c ∧ h₀.get.cell? ((a.add (j * 5)).add 0) = some (.int .i64 e.kind) ∧ h₀.get.cell? ((a.add (j * 5)).add 1) = some (.int .i64 e.day) ∧ h₀.get.cell? ((a.add (j * 5)).add 2) = some (.int .i64 e.land) ∧ h₀.get.cell? ((a.add (j * 5)).add 3) = some (.slice q m c) ∧ h₀.get.cell? ((a.add (j * 5)).add 4) = some (.int .i64 e.since) ∧ Sl IntE 1 h₀.get q m e.items
  have hR : ∀ j e, x.events[j]? = some e → ∃ v, R j v := by
    intro j e he
    obtain ⟨a, ha, e1, e2, e3, ⟨q, m, c, e4, _, e5⟩, e6⟩ := hs.2.2 j e he
    exact ⟨_, e, a, q, m, c, he, ha, rfl, e1, e2, e3, e4, e6, e5⟩
  let V : Nat → Value := fun j => Classical.epsilon (R j)
  have hV : ∀ j e, x.events[j]? = some e → R j (V j) := fun j e he => Classical.epsilon_spec (hR j e he)
  refine ⟨handedE V (allB K k i) x.events 0, handedE_len _ _ _ _, ?_, ?_⟩
  · intro j xs hj
    obtain ⟨e, j', h1, h2, h3⟩ := handedE_get _ _ _ _ _ _ hj
    rw [Nat.zero_add] at h3
    obtain ⟨e', a, q, m, c, g1, _, g3, _, _, _, _, _, g8⟩ := hV j' e h2
    rw [h2] at g1; cases g1
    exact ⟨e, q, m, c, h1, by rw [h3, g3], g8⟩
  · intro y J E _ _ hyield h hle hJ
    generalize hL : handedE V (allB K k i) x.events 0 = L at hyield ⊢
    refine cv_fw hX (by rfl) (?_ : FW X Tryd.prog 128 #[y, .pointer (some z0), .pointer (some z1)] h _)
    refine w2095 _ _ _ hX ?_
    unfold n2095
    have hn := hs.1
    have hb := hs.2.1
    have y6 := Cells.cell?_le hle.1 hm.f6
    refine gL1 y6 ?_
    refine t_loop (fun mm vs h' => h₀.le h' ∧ ∃ (j cnt : Nat), vs = [.int .i64 j] ∧ j ≤ f.n ∧ mm = f.n - j ∧ J cnt h' ∧ cnt ≤ L.length ∧ L.drop cnt = handedE V (allB K k i) (x.events.drop j) j) (n := f.n) ⟨hle, 0, 0, rfl, Nat.zero_le _, by omega, hJ, Nat.zero_le _, by rw [← hL]; rfl⟩ ?_
    rintro Y mm vs h₁ hY ⟨le1, j, cnt, rfl, hj, rfl, hJ1, hcl, hdrop⟩
    refine gZ ?_
    refine t_if (fun e1 => ?_) (fun e1 => ?_)
    · obtain ⟨e, he⟩ : ∃ e, x.events[j]? = some e := ⟨x.events[j]'(by omega), List.getElem?_eq_getElem (by omega)⟩
      obtain ⟨e', a, q, m, c, g1, ha, hVj, c0, c1, c2, c3, c4, hit⟩ := hV j e he
      rw [he] at g1; cases g1
      have d0 := Cells.cell?_le le1.1 c0
      have d1 := Cells.cell?_le le1.1 c1
      have d2 := Cells.cell?_le le1.1 c2
      have d3 := Cells.cell?_le le1.1 c3
      have d4 := Cells.cell?_le le1.1 c4
      have w1 := Cells.cell?_le le1.1 hz1
      have m1 := hm.le le1.1
      have w7 := m1.s7
      have w8 := m1.s8
      have kl := (hk.le le1.1).landAt' hK
      have kl2 := (hk.le le1.1).landAt hK
      rw [drop_of he, handedE] at hdrop
      refine gZ ?_
      have skip : allB K k i e = false → Y [.int .i64 (IntKind.wrap .i64 ((j : Int) + 1))] h₁ := by
        intro hno
        rw [if_neg (by rw [hno]; simp)] at hdrop
        refine hY (f.n - (j + 1)) _ _ (by omega) ⟨le1, j + 1, cnt, ?_, by omega, rfl, hJ1, hcl, hdrop⟩
        rw [wrap_id (by omega) (by omega)]; rfl
      refine t_blk (fun vs h' => vs = [.bool (!landK K || (e.land == k))] ∧ h₁ = h') ?_ ?_
      · refine gZ ?_
        refine t_cond (fun e2 => ?_) (fun e2 => ?_)
        · exact t_again ⟨by simp at e2; rw [e2]; rfl, rfl⟩
        · refine gZ ?_
          exact t_again ⟨by simp at e2; rw [e2]; rfl, rfl⟩
      rintro vs _ ⟨rfl, rfl⟩
      refine gZ ?_
      refine t_cond (fun e2 => ?_) (fun e2 => ?_)
      · refine t_cond (fun e3 => ?_) (fun e3 => ?_)
        · refine gZ ?_
          refine t_pu (c100 (hit.le IntE.grow le1.1) i) ?_
          refine gZ ?_
          refine t_cond (fun e4 => ?_) (fun e4 => ?_)
          · have hsh : allB K k i e = true := by unfold allB; rw [e2, e3, e4]; rfl
            rw [if_pos hsh] at hdrop
            have hget : L[cnt]? = some [V j] := by
              have : (L.drop cnt)[0]? = some [V j] := by rw [hdrop]; rfl
              simpa using this
            have hlt : cnt < L.length := (List.getElem?_eq_some_iff.1 hget).1
            have hcv := hyield cnt h₁ [V j] le1 hget hJ1
            rw [hVj] at hcv
            refine t_callv hcv ?_
            rintro b h₂ ⟨le2, ⟨rfl, hJ2⟩ | ⟨rfl, hE⟩⟩
            · refine gZ ?_
              refine t_cond (fun e => by cases e) (fun _ => ?_)
              refine t_again (hY (f.n - (j + 1)) _ _ (by omega) ⟨le2, j + 1, cnt + 1, ?_, by omega, rfl, hJ2, by omega, ?_⟩)
              · rw [wrap_id (by omega) (by omega)]; rfl
              · rw [← List.drop_drop, hdrop]; rfl
            · refine gZ ?_
              refine t_cond (fun _ => ?_) (fun e => by cases e)
              refine gZ ?_
              exact t_ret ⟨le2, .inr hE⟩
          · exact t_again (skip (by unfold allB; rw [e4]; simp))
        · exact t_again (skip (by unfold allB; rw [e3]; simp))
      · exact t_again (skip (by unfold allB; rw [e2]; rfl))
    · refine gZ ?_
      refine t_ret ⟨le1, .inl ?_⟩
      rw [List.drop_eq_nil_of_le (by omega : x.events.length ≤ j), handedE] at hdrop
      have : cnt = L.length := by
        have := List.drop_eq_nil_iff.1 hdrop; omega
      rw [← this]; exact hJ1
theorem c2083 {h : LH} (f : TC) (x : TF) (k i : Int) (K : Int) : Gr Tryd.prog 115 #[matV f x k i, .int .i64 K] h fun r h' => ∃ z0 z1, r = .func (.func 128) #[] #[.pointer (some z0), .pointer (some z1)] ∧ MatAt h'.get z0 f x k i ∧ h'.get.cell? z1 = some (.int .i64 K) := by
  refine w2083 _ _ _ _ _ _ _ _ _ _ _ _ X0_ok ?_
  unfold n2083
  refine t_new fun r hr => ?_
  refine t_new fun r1 hr1 => ?_
  have l1 : h.le _ := LH.upd_le (x := (true, .cells #[.int .i64 x.items, .int .i64 x.lands, .int .i64 x.start, .int .i64 x.depend, .int .i64 x.refuse, .int .i64 x.turn, .slice f.p f.n f.c, .int .i64 k, .int .i64 i] 141 (0, 0))) hr
  have l2 := LH.upd_le (x := (true, .cells #[.int .i64 K] 133 (0, 0))) hr1
  refine t_ret ⟨LH.le_trans l1 l2, _, _, rfl, ?_, cell_upd rfl⟩
  refine MatAt.le l2.1 ?_
  constructor <;> (rw [add_plain, add_plain]; exact cell_upd rfl)
theorem t_all {X : XP} {Q : Leaf → LH → Prop} {h : LH} {kk : Value → T} (hX : XOK X) (hk : Kinds h.get) {f : TC} {x : TF} (hx : TreatyR h.get f x) (k i : Int) (K : Nat) (hK : K < 7)
    (hw : ∀ v h' L, h.le h' → L.length = (x.events.filter (allB K k i)).length → (∀ (j : Nat) xs, L[j]? = some xs → ∃ e q m c, (x.events.filter (allB K k i))[j]? = some e ∧ xs = [evV e q m c] ∧ Sl IntE 1 h'.get q m e.items) → Hands X Tryd.prog v h' L → (kk v).wp X Tryd.prog Q h') :
    (T.call false 115 #[matV f x k i, .int .i64 (K : Int)] kk).wp X Tryd.prog Q h := by
  refine t_gr (c2083 f x k i K) ?_
  rintro _ h₁ le1 ⟨z0, z1, rfl, hm, hz⟩
  obtain ⟨L, h1, h2, h3⟩ := hands2095 hX (hk.le le1.1) hK hm hz (hx.le le1.1)
  exact hw _ h₁ L le1 h1 h2 h3
def leastFrom (a : Int) : List Int → Int
  | [] => a
  | y :: l => leastFrom (if y < a then y else a) l
theorem least_nil : least [] = 10000 := rfl
theorem least_cons (y : Int) (l : List Int) : least (y :: l) = if y < least l then y else least l := rfl
theorem leastFrom_min : ∀ (l : List Int) (a : Int), a ≤ 10000 → leastFrom a l = (if a < least l then a else least l)
  | [], a, h => by
    rw [leastFrom, least_nil]
    split <;> omega
  | y :: l, a, h => by
    have hc := least_cap l
    rw [leastFrom, leastFrom_min l _ (by split <;> omega), least_cons]
    generalize least l = b at hc ⊢
    by_cases e1 : y < a <;> by_cases e2 : y < b <;> by_cases e3 : a < b <;> by_cases e4 : a < y <;> simp [e1, e2, e3, e4] <;> omega
theorem leastFrom_cap (l : List Int) : leastFrom 10000 l = least l := by
  rw [leastFrom_min l _ (Int.le_refl _)]
  have hc := least_cap l
  split <;> omega
theorem fallsL_all (x : TF) (k i fr : Int) : fallsL x i fr = ((x.events.filter (allB 4 k i)).filter fun e => decide (e.since ≤ x.start + x.depend) && decide (fr ≤ e.day)).map (·.day) := by
  unfold fallsL
  rw [List.filter_filter]
  congr 1
  refine List.filter_congr fun e _ => ?_
  unfold Tr.early allB landK
  have h4 : Nat.beq 4 4 = true := rfl
  rw [h4, Bool.not_true, Bool.not_false, Bool.true_or, Bool.true_and]
  show ((e.kind == 4) && decide (e.since ≤ x.start + x.depend) && (e.items.contains i && decide (fr ≤ e.day))) = (decide (e.since ≤ x.start + x.depend) && decide (fr ≤ e.day) && ((e.kind == 4) && e.items.contains i))
  cases (e.kind == 4) <;> cases decide (e.since ≤ x.start + x.depend) <;> cases e.items.contains i <;> cases decide (fr ≤ e.day) <;> rfl
theorem limitsL_all (x : TF) (k i fr : Int) : limitsL x k i fr = ((x.events.filter (allB 3 k i)).filter fun e => decide (fr ≤ e.day)).map (·.day) := by
  unfold limitsL
  rw [List.filter_filter]
  congr 1
  refine List.filter_congr fun e _ => ?_
  rw [allB_about (by decide)]
  rw [Bool.and_comm]; rfl
theorem c2096 {h : LH} (hk : Kinds h.get) {f : TC} {x : TF} (hx : TreatyR h.get f x) (hsum : IsI (x.start + x.depend)) (k i fr : Int) : Gr Tryd.prog 132 #[matV f x k i, .int .i64 fr] h fun r _ => r = .int .i64 (falls x i fr) := by
  refine w2096 _ _ _ _ _ _ _ _ _ _ _ _ X0_ok ?_
  unfold n2096
  refine t_all X0_ok hk hx k i 4 (by decide) ?_
  intro v h₁ L le1 hL1 hL2 hH
  rw [falls, fallsL_all x k i fr]
  generalize hF : x.events.filter (allB 4 k i) = F at hL1 hL2
  refine t_each (LH.le_refl h₁) hH (fun j vs h' => ∃ d : Int, vs = [.int .i64 d] ∧ d ≤ 10000 ∧ least ((F.filter fun e => decide (e.since ≤ x.start + x.depend) && decide (fr ≤ e.day)).map (·.day)) = leastFrom d (((F.drop j).filter fun e => decide (e.since ≤ x.start + x.depend) && decide (fr ≤ e.day)).map (·.day)))
    ⟨10000, rfl, Int.le_refl _, (leastFrom_cap _).symm⟩ ?_ ?_
  · rintro vs h' hle ⟨d, rfl, _, hc⟩
    rw [List.drop_eq_nil_of_le (by omega)] at hc
    refine gZ ?_
    exact t_ret ⟨LH.le_trans le1 hle, by rw [hc]; rfl⟩
  · rintro j xs vs h' hj hle ⟨d, rfl, hd, hc⟩ Y hY
    obtain ⟨e, q, m, c, he, rfl, hit⟩ := hL2 j xs hj
    rw [drop_of he, List.filter_cons] at hc
    unfold evV
    refine gZ ?_
    rw [wrap_id hsum.1 hsum.2]
    refine t_if (fun e1 => ?_) (fun e1 => ?_)
    · refine t_if (fun e2 => ?_) (fun e2 => ?_)
      · rw [if_pos (by simp; omega), List.map_cons, leastFrom] at hc
        exact t_againE hle (hY _ _ hle ⟨_, rfl, by split <;> omega, hc⟩)
      · rw [if_neg (by simp; omega)] at hc
        exact t_againE hle (hY _ _ hle ⟨_, rfl, hd, hc⟩)
    · rw [if_neg (by simp; omega)] at hc
      exact t_againE hle (hY _ _ hle ⟨_, rfl, hd, hc⟩)
theorem c2094 {h : LH} (hk : Kinds h.get) {f : TC} {x : TF} (hx : TreatyR h.get f x) (k i fr : Int) : Gr Tryd.prog 127 #[matV f x k i, .int .i64 fr] h fun r _ => r = .int .i64 (limits x k i fr) := by
  refine w2094 _ _ _ _ _ _ _ _ _ _ _ _ X0_ok ?_
  unfold n2094
  refine t_all X0_ok hk hx k i 3 (by decide) ?_
  intro v h₁ L le1 hL1 hL2 hH
  rw [limits, limitsL_all x k i fr]
  generalize hF : x.events.filter (allB 3 k i) = F at hL1 hL2
  refine t_each (LH.le_refl h₁) hH (fun j vs h' => ∃ d : Int, vs = [.int .i64 d] ∧ d ≤ 10000 ∧ least ((F.filter fun e => decide (fr ≤ e.day)).map (·.day)) = leastFrom d (((F.drop j).filter fun e => decide (fr ≤ e.day)).map (·.day)))
    ⟨10000, rfl, Int.le_refl _, (leastFrom_cap _).symm⟩ ?_ ?_
  · rintro vs h' hle ⟨d, rfl, _, hc⟩
    rw [List.drop_eq_nil_of_le (by omega)] at hc
    refine gZ ?_
    exact t_ret ⟨LH.le_trans le1 hle, by rw [hc]; rfl⟩
  · rintro j xs vs h' hj hle ⟨d, rfl, hd, hc⟩ Y hY
    obtain ⟨e, q, m, c, he, rfl, hit⟩ := hL2 j xs hj
    rw [drop_of he, List.filter_cons] at hc
    unfold evV
    refine gZ ?_
    refine t_if (fun e2 => ?_) (fun e2 => ?_)
    · rw [if_pos (by simp; omega), List.map_cons, leastFrom] at hc
      exact t_againE hle (hY _ _ hle ⟨_, rfl, by split <;> omega, hc⟩)
    · rw [if_neg (by simp; omega)] at hc
      exact t_againE hle (hY _ _ hle ⟨_, rfl, hd, hc⟩)
end Go.Proofs.YtldamlcehbdkdaaDoor.Tre
end
section
namespace Go.TM
open Go Go.Conc
variable {P : Program} {E : Halt → Cells → Prop}
theorem lwp_pure' {α : Type} {a : α} {Q : α → Cells → Prop} {h : Cells} : Sem.lwp P (Sem.pure a) Q E h = Q a h := rfl
structure Keys (es : Array MapEntry) (c : Nat) (l : List Int) : Prop where
  keys : es.toList.map (·.key) = l.map (Value.int .i64)
  nodup : l.Nodup
  born : (es.toList.map (·.born)).Nodup
  lt : ∀ e ∈ es.toList, e.born < c
def MapOf (h : Cells) (m : Nat) (l : List Int) : Prop := ∃ es c, h m = some (true, .map es c) ∧ Keys es c l
theorem Keys.nil : Keys #[] 0 [] := ⟨rfl, List.nodup_nil, List.nodup_nil, fun e he => by simp at he⟩
theorem Keys.isKey {es : Array MapEntry} {c : Nat} {l : List Int} (k : Keys es c l) {kt : TypeId} (ht : isI64 P kt = true) : ∀ e ∈ es.toList, IsKey P kt e.key := by
  intro e he
  have : e.key ∈ es.toList.map (·.key) := List.mem_map.2 ⟨e, he, rfl⟩
  rw [k.keys] at this
  obtain ⟨n, _, hn⟩ := List.mem_map.1 this
  exact .inl ⟨ht, n, hn.symm⟩
variable {X : XP} {Q : Leaf → LH → Prop}
theorem t_putKey {h : LH} {K : Value → T} {t kt et : TypeId} {m : Nat} {l : List Int} {k : Int} {v : Value} (hu : P.underlying t = some (.map kt et)) (ht : isI64 P kt = true) (hm : MapOf h.get m l)
    (hq : ∀ es c l', (h.get.upd m (true, .map es c)) m = some (true, .map es c) → Keys es c l' → (∀ x, x ∈ l' ↔ x = k ∨ x ∈ l) → (K undef).wp X P Q { h with get := h.get.upd m (true, .map es c) }) : (T.sem false (Sem.bind (Instr.mapUpdate t (.map (some m)) (.int .i64 k) v) fun _ => pure (.tuple #[])) K).wp X P Q h := by
  obtain ⟨es, c, hmc, hK⟩ := hm
  refine t_sem (A := fun v h' => v = undef ∧ (K undef).wp X P Q { h with get := h' }) (Sem.lwp_bind _ _ ?_) (by rintro v h' ⟨rfl, hw⟩; exact hw)
  unfold Instr.mapUpdate
  rw [lwp_bind, lwp_underlying hu]
  simp only [lwp_bind]
  refine ⟨_, _, hmc, trivial, ?_⟩
  show Sem.lwp P (_ >>= _) _ _ _
  rw [lwp_bind]
  have hkey : IsKey P kt (.int .i64 k) := .inl ⟨ht, k, rfl⟩
  refine lwp_checkKey hkey ?_
  rw [lwp_bind]
  refine lwp_findKey hkey (hK.isKey ht) (fun j e he hek => ?_) fun hno => ?_
  · have he' : es[j]? = some e := by rw [← Array.getElem?_toList]; exact he
    simp only [lwp_bind, Instr.keyThatStays, he', Option.map_some, Option.getD_some, hek, sameBits_key hkey, if_true, lwp_pure]
    refine ⟨⟨_, hmc, trivial⟩, ?_⟩
    have hlist : (es.modify j fun e => { e with key := .int .i64 k, val := v }).toList = es.toList.modify j fun e => { e with key := .int .i64 k, val := v } := by simp
    have hjl : j < es.toList.length := (List.getElem?_eq_some_iff.1 he).1
    have keys' : ((es.modify j fun e => { e with key := .int .i64 k, val := v }).toList).map (·.key) = es.toList.map (·.key) := by
      rw [hlist]
      refine List.ext_getElem? fun i => ?_
      rw [List.getElem?_map, List.getElem?_map, List.getElem?_modify]
      by_cases hij : j = i
      · subst hij; simp [he, hek]
      · simp [hij]
    have born' : ((es.modify j fun e => { e with key := .int .i64 k, val := v }).toList).map (·.born) = es.toList.map (·.born) := by
      rw [hlist]
      refine List.ext_getElem? fun i => ?_
      rw [List.getElem?_map, List.getElem?_map, List.getElem?_modify]
      by_cases hij : j = i
      · subst hij; simp [he]
      · simp [hij]
    refine ⟨rfl, hq _ _ l (Cells.upd_self _ _ _) ⟨keys'.trans hK.keys, hK.nodup, by rw [born']; exact hK.born, fun e2 he2 => ?_⟩ fun x => ?_⟩
    · have : e2.born ∈ es.toList.map (·.born) := by rw [← born']; exact List.mem_map.2 ⟨e2, he2, rfl⟩
      obtain ⟨e3, h3, h4⟩ := List.mem_map.1 this
      rw [← h4]; exact hK.lt e3 h3
    · have : Value.int .i64 k ∈ l.map (Value.int .i64) := by rw [← hK.keys]; exact List.mem_map.2 ⟨e, List.mem_of_getElem? he, hek⟩
      obtain ⟨n, h1, h2⟩ := List.mem_map.1 this
      cases h2
      exact ⟨.inr, fun h => h.elim (fun e => e ▸ h1) id⟩
  · refine ⟨⟨_, hmc, trivial⟩, rfl, hq _ _ (l ++ [k]) (Cells.upd_self _ _ _) ⟨?_, ?_, ?_, ?_⟩ fun x => ?_⟩
    · simp [hK.keys]
    · refine List.nodup_append.2 ⟨hK.nodup, by simp, fun a ha b hb e => ?_⟩
      simp at hb; subst hb; subst e
      have : Value.int .i64 a ∈ es.toList.map (·.key) := by rw [hK.keys]; exact List.mem_map.2 ⟨a, ha, rfl⟩
      obtain ⟨e, h1, h2⟩ := List.mem_map.1 this
      exact hno e h1 h2
    · simp only [Array.toList_push, List.map_append, List.map_cons, List.map_nil]
      refine List.nodup_append.2 ⟨hK.born, by simp, fun a ha b hb e => ?_⟩
      simp at hb; subst hb; subst e
      obtain ⟨e, h1, h2⟩ := List.mem_map.1 ha
      have := hK.lt e h1
      omega
    · intro e he
      simp only [Array.toList_push, List.mem_append, List.mem_singleton] at he
      rcases he with he | rfl
      · have := hK.lt e he; omega
      · exact Nat.lt_succ_self _
    · simp [or_comm]
def NextKey (es : Array MapEntry) (seen : Array Nat) (xs : List Value) (seen' : Array Nat) : Prop := ∃ e ∈ es.toList, e.born ∉ seen.toList ∧ xs = [e.key] ∧ seen' = seen.push e.born
def AllSeen (es : Array MapEntry) (seen : Array Nat) : Prop := ∀ e ∈ es.toList, e.born ∈ seen.toList
theorem t_range {h : LH} {K : Value → T} {t kt et : TypeId} {m c : Nat} {es : Array MapEntry} {b : Bool} (hu : P.underlying t = some (.map kt et)) (hm : h.get m = some (b, .map es c))
    (hk : ∀ r, h.get r = none → (K (.pointer (some ⟨r, 0, none⟩))).wp X P Q { h with get := h.get.upd r (true, .mapIter (some m) c #[] c) }) : (T.sem false (Instr.range t (.map (some m))) K).wp X P Q h := by
  refine t_sem (A := fun v h' => ∃ r, h.get r = none ∧ v = .pointer (some ⟨r, 0, none⟩) ∧ h' = h.get.upd r (true, .mapIter (some m) c #[] c)) ?_ (by rintro v h' ⟨r, hr, rfl, rfl⟩; exact hk r hr)
  unfold Instr.range
  simp only [lwp_bind, lwp_underlying hu]
  refine ⟨_, _, hm, trivial, ?_⟩
  show Sem.lwp P (pure _) _ _ _
  rw [lwp_pure]
  intro r hr
  exact ⟨r, hr, rfl, rfl⟩
theorem t_next {h : LH} {K : Value → T} {ty : TypeId} {m r c : Nat} {es : Array MapEntry} {seen : Array Nat} {b : Bool} (hr : h.get r = some (true, .mapIter (some m) c seen c)) (hm : h.get m = some (b, .map es c)) (hlt : ∀ e ∈ es.toList, e.born < c)
    (hend : AllSeen es seen → (K (.tuple #[.bool false])).wp X P Q h)
    (hk : ∀ e ∈ es.toList, e.born ∉ seen.toList → (K (.tuple #[.bool true, e.key, e.val])).wp X P Q { h with get := h.get.upd r (true, .mapIter (some m) c (seen.push e.born) c) }) : (T.sem false (Instr.next (.pointer (some ⟨r, 0, none⟩)) false ty) K).wp X P Q h := by
  refine t_sem (A := fun v h' => (K v).wp X P Q { h with get := h' }) ?_ (fun v h' hw => hw)
  unfold Instr.next
  simp only [lwp_bind]
  refine ⟨_, _, hr, trivial, ?_⟩
  show Sem.lwp P (_ >>= _) _ _ _
  rw [lwp_bind]
  refine ⟨_, _, hm, trivial, ?_⟩
  have hall : (!seen.isEmpty && !es.isEmpty && es.all fun x => decide (x.born ≥ c)) = false := by
    cases he : es.toList with
    | nil =>
      have : es = #[] := by rw [← Array.toList_inj, he]
      simp [this]
    | cons e l =>
      have h1 := hlt e (by rw [he]; simp)
      have h2 : (es.all fun x => decide (x.born ≥ c)) = false := by
        rw [← Array.all_toList, he]
        simp; omega
      simp [h2]
  simp only [lwp_pure', hall, Bool.false_eq_true, if_false, lwp_bind, lwp_pure]
  have hold : ((es.filter fun e => !seen.contains e.born).filter fun x => decide (x.born < c)) = es.filter fun e => !seen.contains e.born := by
    rw [Array.filter_eq_self]
    intro e he
    have := hlt e (Array.mem_toList_iff.2 (Array.mem_filter.1 he).1)
    simp [this]
  have hnew : ((es.filter fun e => !seen.contains e.born).filter fun x => decide (x.born ≥ c)) = #[] := by
    rw [Array.filter_filter]
    refine Array.filter_eq_empty_iff.2 fun e he => ?_
    have := hlt e (Array.mem_toList_iff.2 he)
    simp; omega
  rw [hold, hnew, Array.append_empty]
  by_cases hL : (es.filter fun e => !seen.contains e.born).isEmpty = true
  · have hL' : (es.filter fun e => !seen.contains e.born) = #[] := Array.isEmpty_iff.1 hL
    rw [hL']
    simp only [Array.isEmpty_empty, if_true, Array.map_empty, Array.append_empty]
    show Sem.lwp P (choose (Question.mapNext 1)) _ _ _
    show (if _ then _ else _)
    rw [if_pos (by rfl)]
    refine hend fun e he => ?_
    have := Array.filter_eq_empty_iff.1 hL' e (Array.mem_toList_iff.1 he)
    simpa using this
  · rw [Bool.not_eq_true] at hL
    simp only [hL, Bool.false_eq_true, if_false, Array.empty_append, Array.size_map]
    have hpos : 0 < (es.filter fun e => !seen.contains e.born).size := by
      rcases Nat.eq_zero_or_pos (es.filter fun e => !seen.contains e.born).size with h0 | h0
      · rw [Array.size_eq_zero_iff] at h0; rw [h0] at hL; cases hL
      · exact h0
    have fin : ∀ i, i < (es.filter fun e => !seen.contains e.born).size → Sem.lwp P (match (Array.map some (es.filter fun e => !seen.contains e.born))[i]? with
      | some (some e) => do
        setObj r (.mapIter (some m) c (seen.push e.born) c)
        pure (.tuple #[.bool true, e.key, e.val])
      | some none => pure (.tuple #[.bool false])
      | none => stuck "Next: no such candidate" : Sem Value) (fun v h' => (K v).wp X P Q { h with get := h' }) (fun _ _ => False) h.get := by
      intro i hi
      have hmem : (es.filter fun e => !seen.contains e.born)[i] ∈ es.filter fun e => !seen.contains e.born := Array.getElem_mem hi
      rw [Array.mem_filter] at hmem
      have hget : (Array.map some (es.filter fun e => !seen.contains e.born))[i]? = some (some (es.filter fun e => !seen.contains e.born)[i]) := by simp [hi]
      rw [hget]
      simp only [lwp_bind]
      refine ⟨⟨_, hr, trivial⟩, ?_⟩
      simp only [lwp_pure', lwp_pure]
      refine hk _ (Array.mem_toList_iff.2 hmem.1) ?_
      have := hmem.2
      simpa using this
    show (if _ then _ else _)
    split
    · exact fin 0 hpos
    · exact fun t => fin _ (Nat.mod_lt _ hpos)
theorem t_entry {h : LH} {K : Value → T} {m r c : Nat} {es : Array MapEntry} {seen : Array Nat} {e : MapEntry} {b : Bool} (hr : h.get r = some (true, .mapIter (some m) c (seen.push e.born) c)) (hm : h.get m = some (b, .map es c)) (he : e ∈ es.toList) (hb : (es.toList.map (·.born)).Nodup)
    (hk : (K (.tuple #[e.key, e.val])).wp X P Q h) : (T.sem false (Instr.entry (.pointer (some ⟨r, 0, none⟩))) K).wp X P Q h := by
  refine t_sem (A := fun v h' => v = .tuple #[e.key, e.val] ∧ h' = h.get) ?_ (by rintro v h' ⟨rfl, rfl⟩; exact hk)
  unfold Instr.entry
  simp only [lwp_bind]
  refine ⟨_, _, hr, trivial, ?_⟩
  simp only [lwp_pure', Array.back?_push, lwp_bind]
  refine ⟨_, _, hm, trivial, ?_⟩
  have hf : es.find? (fun x => x.born == e.born) = some e := by
    rw [← Array.find?_toList]
    have : ∀ l : List MapEntry, e ∈ l → (l.map (·.born)).Nodup → l.find? (fun x => x.born == e.born) = some e := by
      intro l
      induction l with
      | nil => intro h; simp at h
      | cons a l ih =>
        intro h1 h2
        simp only [List.map_cons, List.nodup_cons] at h2
        rw [List.find?_cons]
        rcases List.mem_cons.1 h1 with rfl | h1
        · simp
        · have hne : (a.born == e.born) = false := by
            cases hb : (a.born == e.born) with
            | false => rfl
            | true => exact absurd (List.mem_map.2 ⟨e, h1, (eq_of_beq hb).symm⟩) h2.1
          rw [hne]; exact ih h1 h2.2
    exact this _ he hb
  simp only [lwp_pure', bne_self_eq_false, Bool.false_eq_true, if_false, lwp_bind, lwp_pure, hf]
  exact ⟨trivial, trivial⟩
end Go.TM
end
section
namespace Go.TM
open Go Go.Conc
variable {P : Program} {X : XP} {Q : Leaf → LH → Prop}
theorem t_push {α : Type} {Enc : α → List Value → Prop} {h h₀ : LH} {K : Value → T} {ts : Array TypeId} {ty t el : TypeId} {s by_ : Nat} {z : Value} {parts : Array (Nat × Value)} {p : Option Addr} {n c : Nat} {l : List α} (x : α) (ws : List Value) (h0 : ts[0]? = some t) (h1 : ts[1]? = some t) (hu : P.underlying t = some (.slice el))
    (hi : (P.info? el).map (fun i => (i.size, i.bytes, i.zero)) = some (s, by_, some z)) (hsz : z.cells.size = s) (hb : by_ ≤ 1024) (hs : 1 * s ≤ 2 ^ 24 ∧ 1 * s ≠ 0) (hf : Instr.fill (fun i => some (i * s, s)) ((Array.range (1 * s)).map (z.cells[· % z.cells.size]!)) parts.toList = some ws.toArray)
    (hl : ws.length = s) (one : ∀ v ∈ ws, isOne v = true) (hn : n + 1 ≤ 2 ^ 30) (g : Growing Enc el s h₀.get h.get p n c l) (hle : h₀.le h) (he : Enc x ws)
    (hk : ∀ p' c' h', h₀.le h' → (∀ r y, (∀ a, p = some a → a.block ≠ r) → h.get r = some y → h'.get r = some y) → Growing Enc el s h₀.get h'.get p' (n + 1) c' (l ++ [x]) → (K (.slice p' (n + 1) c')).wp X P Q h') :
    (T.sem false (Instr.buildSlice t 1 parts) fun v => T.unS v fun a m mc => T.sem false (Builtin.append_ ts ty #[.slice p n c, .slice a m mc]) K).wp X P Q h := by
  refine t_build hu hi hs.1 hs.2 hf fun r hr => ?_
  have le2 : h.le _ := LH.upd_le (x := (true, .cells ws.toArray el (0, 0))) hr
  refine gG ?_
  refine t_grow (h₀ := h₀) (x := x) (ws := ws) h0 h1 hu hu hi hsz hb hn (g.le le2.1) (LH.le_trans hle le2) he hl ?_ one fun p' c' h' hle' hkept g' => hk p' c' h' hle' (fun b y hb hy => hkept b y hb (le2.1 b y hy)) g'
  intro j w hj
  rw [add_plain, Nat.zero_add]
  exact cell_upd (by simpa using hj)
end Go.TM
namespace Go.TM
open Go Go.Conc
variable {P : Program} {X : XP} {Q : Leaf → LH → Prop}
theorem t_buildR {h : LH} {k : Value → T} {t el : TypeId} {n s b : Nat} {parts : Array (Nat × Value)} {z : Value} (ws : List Value) (hu : P.underlying t = some (.slice el)) (hi : (P.info? el).map (fun i => (i.size, i.bytes, i.zero)) = some (s, b, some z)) (hn : n * s ≤ 2 ^ 24) (hpos : n * s ≠ 0)
    (hf : Instr.fill (fun i => some (i * s, s)) ((Array.range (n * s)).map (z.cells[· % z.cells.size]!)) parts.toList = some ws.toArray)
    (hk : ∀ r h', h.le h' → h.get r = none → (∀ (j : Nat) w, ws[j]? = some w → h'.get.cell? (Addr.add ⟨r, 0, none⟩ j) = some w) → (k (.slice (some ⟨r, 0, none⟩) n n)).wp X P Q h') : (T.sem false (Instr.buildSlice t n parts) k).wp X P Q h :=
  t_build hu hi hn hpos hf fun r hr => hk r _ (LH.upd_le hr) hr fun j w hj => by
    rw [add_plain, Nat.zero_add]
    exact cell_upd (by simpa using hj)
theorem t_growR {α : Type} {Enc : α → List Value → Prop} {h h₀ : LH} {k : Value → T} {ts : Array TypeId} {ty t el : TypeId} {s by_ : Nat} {z : Value} {p : Option Addr} {n c mc r : Nat} {l : List α} (x : α) (ws : List Value) (h0 : ts[0]? = some t) (h1 : ts[1]? = some t) (hu : P.underlying t = some (.slice el))
    (hi : (P.info? el).map (fun i => (i.size, i.bytes, i.zero)) = some (s, by_, some z)) (hsz : z.cells.size = s) (hb : by_ ≤ 1024) (hn : n + 1 ≤ 2 ^ 30) (g : Growing Enc el s h₀.get h.get p n c l) (hle : h₀.le h) (he : Enc x ws) (hl : ws.length = s) (hc : ∀ (j : Nat) w, ws[j]? = some w → h.get.cell? (Addr.add ⟨r, 0, none⟩ j) = some w) (one : ∀ v ∈ ws, isOne v = true)
    (hk : ∀ p' c' h', h₀.le h' → (∀ r y, (∀ a, p = some a → a.block ≠ r) → h.get r = some y → h'.get r = some y) → Growing Enc el s h₀.get h'.get p' (n + 1) c' (l ++ [x]) → (k (.slice p' (n + 1) c')).wp X P Q h') : (T.sem false (Builtin.append_ ts ty #[.slice p n c, .slice (some ⟨r, 0, none⟩) 1 mc]) k).wp X P Q h :=
  t_grow (h₀ := h₀) (x := x) (ws := ws) h0 h1 hu hu hi hsz hb hn g hle he hl hc one hk
end Go.TM
namespace Go.TM
open Go Go.Conc
variable {P : Program} {X : XP} {Q : Leaf → LH → Prop}
theorem setCell_updU {h : Cells} {r o : Nat} {cs : Array Value} {el : TypeId} {fz : Nat × Nat} {v : Value} : (h.upd r (true, .cells cs el fz)).setCell ⟨r, o, none⟩ v = h.upd r (true, .cells (cs.setIfInBounds o v) el fz) := by
  funext k
  unfold Cells.setCell Cells.upd
  by_cases e : k = r
  · subst e; simp
  · simp [e]
theorem frozen_upd {h : Cells} {r o : Nat} {cs : Array Value} {el : TypeId} : (h.upd r (true, .cells cs el (0, 0))).frozen? ⟨r, o, none⟩ = false := by
  unfold Cells.frozen?
  simp [Cells.upd]
theorem t_storeU {h : LH} {r o : Nat} {cs : Array Value} {el : TypeId} {a : Addr} {v : Value} {k : T} (ha : a = ⟨r, o, none⟩) (h1 : isOne v = true) (ho : o < cs.size) (hk : k.wp X P Q { h with get := h.get.upd r (true, .cells (cs.setIfInBounds o v) el (0, 0)) }) :
    (T.store a v k).wp X P Q { h with get := h.get.upd r (true, .cells cs el (0, 0)) } := by
  subst ha
  refine t_store (v₀ := cs[o]) h1 ⟨_, Cells.upd_self _ _ _⟩ (cell_upd (by simp [ho])) frozen_upd ?_
  show k.wp X P Q { h with get := (h.get.upd r (true, .cells cs el (0, 0))).setCell ⟨r, o, none⟩ v }
  rw [setCell_updU]; exact hk
def BoolE (h : Cells) (a : Addr) (b : Bool) : Prop := h.cell? (a.add 0) = some (.bool b)
theorem BoolE.grow : Grow BoolE := fun _ _ _ _ hl h => hl _ _ h
end Go.TM
end
section
namespace Go.Proofs.YtldamlcehbdkdaaDoor.Tre
open Go Go.TM Go.Proofs Go.TM.Tr
attribute [local irreducible] T.wp CV FWK
theorem c2097 {h : LH} (hk : Kinds h.get) {f : TC} {x : TF} (hx : TreatyR h.get f x) {z0 z1 : Addr} {k i d : Int} (hm : MatAt h.get z0 f x k i) (hz : h.get.cell? z1 = some (.int .i64 d)) (fr : Int) :
    Gr Tryd.prog 133 #[.int .i64 fr, .pointer (some z0), .pointer (some z1)] h fun r _ => r = .bool (lifted x k i fr d) := by
  refine w2097 _ _ _ X0_ok ?_
  unfold n2097
  obtain ⟨f0, f1, f2, f3, f4, f5, f6, f7, f8⟩ := hm
  refine gZ ?_
  refine t_all X0_ok hk hx k i 2 (by decide) ?_
  intro v h₁ L le1 hL1 hL2 hH
  have hlift : lifted x k i fr d = (x.events.filter (allB 2 k i)).any fun l => decide (fr ≤ l.day ∧ l.day ≤ d) := by
    unfold Tr.lifted
    rw [List.any_filter]
    refine congrArg (fun q => x.events.any q) (funext fun e => ?_)
    rw [allB_about (by decide)]; rfl
  rw [hlift]
  generalize hF : x.events.filter (allB 2 k i) = F at hL1 hL2
  have hz1 := Cells.cell?_le le1.1 hz
  refine t_each (LH.le_refl h₁) hH (fun j vs h' => vs = [.bool false] ∧ (F.any fun l => decide (fr ≤ l.day ∧ l.day ≤ d)) = (F.drop j).any fun l => decide (fr ≤ l.day ∧ l.day ≤ d)) ⟨rfl, rfl⟩ ?_ ?_
  · rintro vs h' hle ⟨rfl, hc⟩
    rw [List.drop_eq_nil_of_le (by omega)] at hc
    refine gZ ?_
    exact t_ret ⟨LH.le_trans le1 hle, by rw [hc]; rfl⟩
  · rintro j xs vs h' hj hle ⟨rfl, hc⟩ Y hY
    obtain ⟨e, q, m, c, he, rfl, hit⟩ := hL2 j xs hj
    rw [drop_of he, List.any_cons] at hc
    have hz2 := Cells.cell?_le hle.1 hz1
    unfold evV
    refine gZ ?_
    refine t_pu (c2052 _ _ _) ?_
    refine gZ ?_
    refine t_cond (fun e1 => ?_) (fun e1 => ?_)
    · refine t_retnE hle ?_
      have e1' : decide (fr ≤ e.day ∧ e.day ≤ d) = true := by simpa [inB] using e1
      rw [e1', Bool.true_or] at hc
      refine gZ ?_
      exact t_ret ⟨LH.le_trans le1 hle, by rw [hc]⟩
    · have e1' : decide (fr ≤ e.day ∧ e.day ≤ d) = false := by simpa [inB] using e1
      rw [e1', Bool.false_or] at hc
      exact t_againE hle (hY _ _ hle ⟨rfl, hc⟩)
def askCells (f : TC) (x : TF) (k i a : Int) : List Value := [.int .i64 x.items, .int .i64 x.lands, .int .i64 x.start, .int .i64 x.depend, .int .i64 x.refuse, .int .i64 x.turn, .slice f.p f.n f.c, .int .i64 k, .int .i64 i, .int .i64 a, .int .i64 (askEnd x k i a), .bool (fallen x k i a)]
def askV (f : TC) (x : TF) (k i a : Int) : Value := .agg #[.int .i64 x.items, .int .i64 x.lands, .int .i64 x.start, .int .i64 x.depend, .int .i64 x.refuse, .int .i64 x.turn, .slice f.p f.n f.c, .int .i64 k, .int .i64 i, .int .i64 a, .int .i64 (askEnd x k i a), .bool (fallen x k i a)]
def AskE (f : TC) (x : TF) (k i : Int) (h : Cells) (a : Addr) (d : Int) : Prop := ∀ (j : Nat) w, (askCells f x k i d)[j]? = some w → h.cell? (a.add j) = some w
def AskEnc (f : TC) (x : TF) (k i : Int) (d : Int) (ws : List Value) : Prop := ws = askCells f x k i d
theorem AskE.grow {f : TC} {x : TF} {k i : Int} : Grow (AskE f x k i) := fun _ _ _ _ hl h j w hj => hl _ _ (h j w hj)
theorem AskEnc.len {f : TC} {x : TF} {k i : Int} : ∀ d ws, AskEnc f x k i d ws → ws.length = 12 := by rintro d _ rfl; rfl
theorem AskEnc.e {f : TC} {x : TF} {k i : Int} {h' : Cells} : ∀ a d ws, AskEnc f x k i d ws → (∀ (j : Nat) w, ws[j]? = some w → h'.cell? (a.add j) = some w) → AskE f x k i h' a d := by
  rintro a d _ rfl hc; exact hc
theorem refused_any (x : TF) (k i a d : Int) : refused x k i a d = (x.events.filter (allB 1 k i)).any fun r => decide (a ≤ r.day ∧ r.day ≤ a + x.refuse ∧ r.day ≤ d) && !lifted x k i r.day d := by
  unfold Tr.refused
  rw [List.any_filter]
  refine congrArg (fun q => x.events.any q) (funext fun e => ?_)
  rw [allB_about (by decide)]; rfl
theorem in_min (n a b d : Int) : inB n a (if b < d then b else d) = decide (a ≤ n ∧ n ≤ b ∧ n ≤ d) := by
  unfold inB
  rw [Bool.eq_iff_iff]
  simp only [Bool.and_eq_true, decide_eq_true_eq]
  split <;> omega
theorem c2085 {h : LH} (hk : Kinds h.get) {f : TC} {x : TF} (hx : TreatyR h.get f x) (k i : Int) {a : Int} (ha : IsI (a + x.refuse)) (e : Int) (fl : Bool) (d : Int) :
    Gr Tryd.prog 120 #[.agg #[.int .i64 x.items, .int .i64 x.lands, .int .i64 x.start, .int .i64 x.depend, .int .i64 x.refuse, .int .i64 x.turn, .slice f.p f.n f.c, .int .i64 k, .int .i64 i, .int .i64 a, .int .i64 e, .bool fl], .int .i64 d] h fun r _ => r = .bool (refused x k i a d) := by
  refine w2085 _ _ _ _ _ _ _ _ _ _ _ _ _ _ _ X0_ok ?_
  unfold n2085
  refine t_new fun r hr => ?_
  refine t_new fun r1 hr1 => ?_
  have l1 : h.le _ := LH.upd_le (x := (true, .cells #[.int .i64 x.items, .int .i64 x.lands, .int .i64 x.start, .int .i64 x.depend, .int .i64 x.refuse, .int .i64 x.turn, .slice f.p f.n f.c, .int .i64 k, .int .i64 i, .int .i64 a, .int .i64 e, .bool fl] 145 (0, 0))) hr
  have l2 := LH.upd_le (x := (true, .cells #[.int .i64 d] 3 (0, 0))) hr1
  have hm : MatAt (h.get.upd r (true, .cells #[.int .i64 x.items, .int .i64 x.lands, .int .i64 x.start, .int .i64 x.depend, .int .i64 x.refuse, .int .i64 x.turn, .slice f.p f.n f.c, .int .i64 k, .int .i64 i, .int .i64 a, .int .i64 e, .bool fl] 145 (0, 0))) ⟨r, 0, none⟩ f x k i := by
    constructor <;> (rw [add_plain, add_plain]; exact cell_upd rfl)
  have h9 : Cells.cell? (h.get.upd r (true, .cells #[.int .i64 x.items, .int .i64 x.lands, .int .i64 x.start, .int .i64 x.depend, .int .i64 x.refuse, .int .i64 x.turn, .slice f.p f.n f.c, .int .i64 k, .int .i64 i, .int .i64 a, .int .i64 e, .bool fl] 145 (0, 0))) (Addr.add ⟨r, 0, none⟩ 9) = some (.int .i64 a) := by rw [add_plain]; exact cell_upd rfl
  have hz := cell_upd (h := h.get.upd r (true, .cells #[.int .i64 x.items, .int .i64 x.lands, .int .i64 x.start, .int .i64 x.depend, .int .i64 x.refuse, .int .i64 x.turn, .slice f.p f.n f.c, .int .i64 k, .int .i64 i, .int .i64 a, .int .i64 e, .bool fl] 145 (0, 0))) (r := r1) (i := 0) (m := true) (cs := #[.int .i64 d]) (el := 3) (f := (0, 0)) (v := .int .i64 d) rfl
  have hm := hm.le l2.1
  have h9 := Cells.cell?_le l2.1 h9
  have l12 := LH.le_trans l1 l2
  generalize hh : ({ h with get := (h.get.upd r (true, .cells #[.int .i64 x.items, .int .i64 x.lands, .int .i64 x.start, .int .i64 x.depend, .int .i64 x.refuse, .int .i64 x.turn, .slice f.p f.n f.c, .int .i64 k, .int .i64 i, .int .i64 a, .int .i64 e, .bool fl] 145 (0, 0))).upd r1 (true, .cells #[.int .i64 d] 3 (0, 0)) } : LH) = h2 at l12 ⊢
  have hm : MatAt h2.get ⟨r, 0, none⟩ f x k i := by rw [← hh]; exact hm
  have h9 : h2.get.cell? (Addr.add ⟨r, 0, none⟩ 9) = some (.int .i64 a) := by rw [← hh]; exact h9
  have hz : h2.get.cell? ⟨r1, 0, none⟩ = some (.int .i64 d) := by rw [← hh]; exact hz
  clear hh l1 l2
  have hm2 := hm
  obtain ⟨f0, f1, f2, f3, f4, f5, f6, f7, f8⟩ := hm
  refine gZ ?_
  refine t_all X0_ok (hk.le l12.1) (hx.le l12.1) k i 1 (by decide) ?_
  intro v h₁ L le1 hL1 hL2 hH
  rw [refused_any]
  generalize hF : x.events.filter (allB 1 k i) = F at hL1 hL2
  have hm3 := hm2.le le1.1
  have h93 := Cells.cell?_le le1.1 h9
  have hz3 := Cells.cell?_le le1.1 hz
  refine t_each (LH.le_refl h₁) hH (fun j vs h' => vs = [.bool false] ∧ (F.any fun r => decide (a ≤ r.day ∧ r.day ≤ a + x.refuse ∧ r.day ≤ d) && !lifted x k i r.day d) = (F.drop j).any fun r => decide (a ≤ r.day ∧ r.day ≤ a + x.refuse ∧ r.day ≤ d) && !lifted x k i r.day d) ⟨rfl, rfl⟩ ?_ ?_
  · rintro vs h' hle ⟨rfl, hc⟩
    rw [List.drop_eq_nil_of_le (by omega)] at hc
    refine gZ ?_
    exact t_ret ⟨LH.le_trans l12 (LH.le_trans le1 hle), by rw [hc]; rfl⟩
  · rintro j xs vs h' hj hle ⟨rfl, hc⟩ Y hY
    obtain ⟨ev, q, m, c, he, rfl, hit⟩ := hL2 j xs hj
    rw [drop_of he, List.any_cons] at hc
    have hm4 := hm3.le hle.1
    have h94 := Cells.cell?_le hle.1 h93
    have hz4 := Cells.cell?_le hle.1 hz3
    have f44 : h'.get.cell? (Addr.add (Addr.add (Addr.add ⟨r, 0, none⟩ 0) 0) 4) = some (.int .i64 x.refuse) := by
      have := hm4.f4
      rwa [show Addr.add (Addr.add (⟨r, 0, none⟩ : Addr) 0) 0 = Addr.add ⟨r, 0, none⟩ 0 by rw [add_zero']]
    unfold evV
    refine gZ ?_
    rw [wrap_id ha.1 ha.2]
    refine t_pu (c2052 _ _ _) ?_
    rw [in_min]
    refine gZ ?_
    refine t_cond (fun e1 => ?_) (fun e1 => ?_)
    · rw [e1, Bool.true_and] at hc
      have le24 := LH.le_trans le1 hle
      refine t_callv (cv_fw X0_ok (by rfl) (c2097 ((hk.le l12.1).le le24.1) ((hx.le l12.1).le le24.1) hm4 hz4 ev.day)) ?_
      rintro _ h5 ⟨le5, rfl⟩
      refine gZ ?_
      refine t_cond (fun e2 => ?_) (fun e2 => ?_)
      · refine t_retnE (LH.le_trans hle le5) ?_
        refine gZ ?_
        rw [e2, Bool.true_or] at hc
        exact t_ret ⟨LH.le_trans l12 (LH.le_trans le24 le5), by rw [hc]⟩
      · rw [e2, Bool.false_or] at hc
        exact t_againE (LH.le_trans hle le5) (hY _ _ (LH.le_trans hle le5) ⟨rfl, hc⟩)
    · rw [e1, Bool.false_and, Bool.false_or] at hc
      exact t_againE hle (hY _ _ hle ⟨rfl, hc⟩)
theorem c2137 {h : LH} (hk : Kinds h.get) {f : TC} {x : TF} (hx : TreatyR h.get f x) (k i : Int) {a : Int} (ha : IsI (a + x.refuse)) (he : IsI (askEnd x k i a - 1)) (d : Int) :
    Gr Tryd.prog 172 #[askV f x k i a, .int .i64 d] h fun r _ => r = .tuple #[.int .i64 a, .bool (decide (a ≤ d ∧ d < askEnd x k i a) && !refused x k i a d)] := by
  refine w2137 _ _ _ _ _ _ _ _ _ _ _ _ _ _ _ X0_ok ?_
  unfold n2137
  rw [wrap_id he.1 he.2]
  have hin : inB d a (askEnd x k i a - 1) = decide (a ≤ d ∧ d < askEnd x k i a) := by
    unfold inB
    rw [Bool.eq_iff_iff]
    simp only [Bool.and_eq_true, decide_eq_true_eq]
    omega
  refine t_pu (c2052 _ _ _) ?_
  rw [hin]
  refine gZ ?_
  refine t_cond (fun e1 => ?_) (fun e1 => ?_)
  · refine t_gr (c2085 hk hx k i ha _ _ d) ?_
    rintro _ h1 le1 rfl
    refine gZ ?_
    exact t_ret ⟨le1, by rw [e1, Bool.true_and]⟩
  · refine gZ ?_
    refine t_both ?_ ?_
    · refine gZ ?_
      exact t_ret ⟨LH.le_refl _, by rw [e1, Bool.false_and]⟩
    · refine gZ ?_
      exact t_ret ⟨LH.le_refl _, by rw [e1, Bool.false_and]⟩
theorem askDays_all (x : TF) (k i : Int) : askDays x k i = ((x.events.filter (allB 0 k i)).filter fun e => decide (e.day < falls x i 0)).map (·.day) := by
  unfold askDays
  rw [List.filter_filter]
  congr 1
  refine List.filter_congr fun e _ => ?_
  rw [allB_about (by decide), Bool.and_comm]; rfl
theorem c2084 {h : LH} (hk : Kinds h.get) {f : TC} {x : TF} (hx : TreatyR h.get f x) (hsum : IsI (x.start + x.depend)) (hlen : x.events.length ≤ 1000) (k i : Int) :
    Gr Tryd.prog 119 #[matV f x k i] h fun r h' => ∃ p n c, r = .slice p n c ∧ Sl (AskE f x k i) 12 h'.get p n (askDays x k i) := by
  refine w2084 _ _ _ _ _ _ _ _ _ _ _ X0_ok ?_
  unfold n2084
  refine t_all X0_ok hk hx k i 0 (by decide) ?_
  intro v h₁ L le1 hL1 hL2 hH
  rw [askDays_all]
  have hFl : (x.events.filter (allB 0 k i)).length ≤ 1000 := Nat.le_trans (List.length_filter_le _ _) hlen
  generalize hF : x.events.filter (allB 0 k i) = F at hL1 hL2 hFl
  refine t_each (LH.le_refl h₁) hH (fun j vs h' => ∃ (p : Option Addr) (n c : Nat), vs = [.slice p n c] ∧ Growing (AskEnc f x k i) 145 12 h₁.get h'.get p n c (((F.take j).filter fun e => decide (e.day < falls x i 0)).map (·.day)))
    ⟨none, 0, 0, rfl, Growing.nil⟩ ?_ ?_
  · rintro vs h' hle ⟨p, n, c, rfl, g⟩
    rw [hL1, List.take_of_length_le (Nat.le_refl _)] at g
    refine gZ ?_
    refine t_ret ⟨LH.le_trans le1 hle, p, n, c, rfl, g.sl AskEnc.len (by omega) AskEnc.e ?_⟩
    rw [List.length_map]
    have := List.length_filter_le (fun e : Ev => decide (e.day < falls x i 0)) F
    omega
  · rintro j xs vs h' hj hle ⟨p, n, c, rfl, g⟩ Y hY
    obtain ⟨e, q, m, cc, he, rfl, hit⟩ := hL2 j xs hj
    have htake : F.take (j + 1) = F.take j ++ [e] := by rw [List.take_add_one, he]; rfl
    have le2 := LH.le_trans le1 hle
    unfold evV
    refine gZ ?_
    refine t_gr (c2096 (hk.le le2.1) (hx.le le2.1) hsum k i 0) ?_
    rintro _ h3 le3 rfl
    refine gZ ?_
    refine t_if (fun e1 => ?_) (fun e1 => ?_)
    · refine t_againE (LH.le_trans hle le3) (hY _ _ (LH.le_trans hle le3) ⟨p, n, c, rfl, ?_⟩)
      rw [htake, List.filter_append, List.filter_cons, if_neg (by simp; omega)]
      simpa using g.le le3.1
    have le23 := LH.le_trans le2 le3
    refine t_gr (c2096 (hk.le le23.1) (hx.le le23.1) hsum k i e.day) ?_
    rintro _ h4 le4 rfl
    refine gZ ?_
    have le24 := LH.le_trans le23 le4
    refine t_gr (c2094 (hk.le le24.1) (hx.le le24.1) k i e.day) ?_
    rintro _ h5 le5 rfl
    refine gZ ?_
    have hle5 := LH.le_trans hle (LH.le_trans le3 (LH.le_trans le4 le5))
    have hn : n ≤ 1000 := by
      rw [g.count AskEnc.len (by omega), List.length_map]
      have h1 := List.length_filter_le (fun e : Ev => decide (e.day < falls x i 0)) (F.take j)
      have h2 : (F.take j).length ≤ 1000 := by rw [List.length_take]; omega
      omega
    refine t_push e.day (askCells f x k i e.day) rfl rfl undAsks infAsk rfl (by omega) (by decide) (by kernel_rfl) rfl ?_ (by omega) (g.le (LH.le_trans le3 (LH.le_trans le4 le5)).1) hle5 rfl ?_
    · intro w hw
      simp only [askCells, List.mem_cons, List.not_mem_nil, or_false] at hw
      rcases hw with rfl | rfl | rfl | rfl | rfl | rfl | rfl | rfl | rfl | rfl | rfl | rfl <;> rfl
    · intro p' c' h6 le6 _ g6
      refine gZ ?_
      refine t_againE le6 (hY _ _ le6 ⟨p', _, c', rfl, ?_⟩)
      rw [htake, List.filter_append, List.filter_cons, if_pos (by simp; omega), List.map_append]
      exact g6
end Go.Proofs.YtldamlcehbdkdaaDoor.Tre
end
section
namespace Go.Proofs.YtldamlcehbdkdaaDoor.Tre
open Go Go.TM Go.Proofs Go.TM.Tr
attribute [local irreducible] T.wp CV FWK
structure Right (x : TF) : Prop where
  ok : Ok x
  start : 0 ≤ x.start ∧ x.start ≤ 9999
  depend : 0 ≤ x.depend ∧ x.depend ≤ 9999
  refuse : 0 ≤ x.refuse ∧ x.refuse ≤ 9999
  turn : 0 ≤ x.turn ∧ x.turn ≤ 9999
  many : x.events.length ≤ 10
theorem Right.of {x : TF} (h : checkT x = 0) : Right x := by
  have := check_numbers h
  exact ⟨check_ok h, this.2.2.1, this.2.2.2.1, this.2.2.2.2.1, this.2.2.2.2.2.1, this.2.2.2.2.2.2⟩
theorem Right.sum {x : TF} (r : Right x) : IsI (x.start + x.depend) := by have := r.start; have := r.depend; unfold IsI; omega
theorem Right.askDay {x : TF} (r : Right x) {k i a : Int} (h : a ∈ askDays x k i) : 0 ≤ a ∧ a ≤ 9999 := r.ok.has (mem_asks.1 h).1
theorem falls_low {x : TF} (v : Ok x) (i f : Int) : 0 ≤ falls x i f ∧ falls x i f ≤ 10000 := by
  refine ⟨?_, least_cap _⟩
  rcases least_mem (l := fallsL x i f) with h | h
  · unfold falls; omega
  · obtain ⟨e, h1, _, _, h4⟩ := (mem_falls.1 h).1
    have := v e h1
    unfold falls; omega
theorem limits_low {x : TF} (v : Ok x) (k i f : Int) : 0 ≤ limits x k i f ∧ limits x k i f ≤ 10000 := by
  refine ⟨?_, least_cap _⟩
  rcases least_mem (l := limitsL x k i f) with h | h
  · unfold limits; omega
  · have := v.has (mem_limits.1 h).1
    unfold limits; omega
theorem askEnd_low {x : TF} (v : Ok x) (k i a : Int) : 0 ≤ askEnd x k i a ∧ askEnd x k i a ≤ 10000 := by
  have h1 := falls_low v i a
  have h2 := limits_low v k i a
  unfold askEnd; split <;> omega
theorem askDays_len (x : TF) (k i : Int) : (askDays x k i).length ≤ x.events.length := by
  unfold askDays; rw [List.length_map]; exact List.length_filter_le _ _
def bestI : Option Int → List Int → Option Int
  | o, [] => o
  | none, a :: l => bestI (some a) l
  | some b, a :: l => bestI (some (if a < b then a else b)) l
theorem bestI_some : ∀ (l : List Int) (b : Int), bestI (some b) l = some (leastFrom b l)
  | [], b => rfl
  | a :: l, b => by rw [bestI, leastFrom, bestI_some l]
theorem bestI_least {l : List Int} (h : ∀ v ∈ l, v < 10000) : leastOr l = match bestI none l with | none => -1 | some n => n := by
  cases l with
  | nil => rfl
  | cons a l =>
    rw [bestI, bestI_some]
    have ha := h a (by simp)
    simp only
    rw [leastFrom_min l a (by omega), leastOr, if_neg (by simp), least_cons]
def zeroAsk : List Value := [.int .i64 0, .int .i64 0, .int .i64 0, .int .i64 0, .int .i64 0, .int .i64 0, .slice none 0 0, .int .i64 0, .int .i64 0, .int .i64 0, .int .i64 0, .bool false]
def bestCells (f : TC) (x : TF) (k i : Int) : Option Int → List Value
  | none => zeroAsk
  | some a => askCells f x k i a
theorem goodBy_step {x : TF} {k i d a : Int} {l : List Int} : (a :: l).filter (goodBy x k i d) = if goodBy x k i d a = true then a :: l.filter (goodBy x k i d) else l.filter (goodBy x k i d) := List.filter_cons
def turnO (x : TF) (k i d : Int) : Option Int := bestI none (turnedL x k i d)
theorem turnO_turned {x : TF} (v : Ok x) (k i d : Int) : turned x k i d = match turnO x k i d with | none => -1 | some n => n :=
  bestI_least fun n hn => (v.turnedL n hn).2
theorem turnO_some {x : TF} (v : Ok x) {k i d n : Int} (h : turnO x k i d = some n) : 0 ≤ n ∧ n = turned x k i d := by
  have h1 := turnO_turned v k i d
  rw [h] at h1
  simp only at h1
  refine ⟨?_, h1.symm⟩
  rcases turned_vals v k i d with ⟨h2, h3⟩ | ⟨h2, _⟩
  · unfold turnO at h; rw [h3] at h; cases h
  · have := (v.turnedL _ h2).1; omega
theorem turnO_none {x : TF} (v : Ok x) {k i d : Int} : turnO x k i d = none ↔ ¬ 0 ≤ turned x k i d := by
  have h1 := turnO_turned v k i d
  cases h : turnO x k i d with
  | none => rw [h] at h1; simp only at h1; constructor
            · intro _; omega
            · intro _; rfl
  | some n =>
    have := turnO_some v h
    constructor
    · intro e; cases e
    · intro h2; omega
set_option maxRecDepth 10000 in
theorem c2064 {h : LH} (hk : Kinds h.get) {f : TC} {x : TF} (hx : TreatyR h.get f x) (rt : Right x) (k i d : Int) :
    Gr Tryd.prog 85 #[matV f x k i, .int .i64 d] h fun r _ => r = .tuple #[.agg (bestCells f x k i (turnO x k i d)).toArray, .bool (turnO x k i d).isSome] := by
  refine w2064 _ _ _ _ _ _ _ _ _ _ _ _ X0_ok ?_
  unfold n2064
  refine t_gr (c2084 hk hx rt.sum (Nat.le_trans rt.many (by omega)) k i) ?_
  rintro _ h₁ le1 ⟨p, n, c, rfl, hs⟩
  refine gZ ?_
  have hn := hs.1
  have hb := hs.2.1
  have hlen := askDays_len x k i
  have hmany := rt.many
  refine t_loop (fun mm vs h' => h₁.le h' ∧ ∃ (j : Nat) (o : Option Int), vs = .bool o.isSome :: .int .i64 j :: bestCells f x k i o ∧ j ≤ n ∧ mm = n - j ∧ turnO x k i d = bestI o (((askDays x k i).drop j).filter (goodBy x k i d)))
    ⟨LH.le_refl _, 0, none, rfl, Nat.zero_le _, rfl, rfl⟩ ?_
  rintro Y mm vs h2 hY ⟨le2, j, o, rfl, hj, rfl, hc⟩
  have next : ∀ h' (o' : Option Int), h₁.le h' → j + 1 ≤ n → turnO x k i d = bestI o' (((askDays x k i).drop (j + 1)).filter (goodBy x k i d)) → Y (.bool o'.isSome :: .int .i64 (IntKind.wrap .i64 ((j : Int) + 1)) :: bestCells f x k i o') h' := by
    intro h' o' hle' hlt hc'
    refine hY (n - (j + 1)) _ _ (by omega) ⟨hle', j + 1, o', ?_, by omega, rfl, hc'⟩
    rw [wrap_id (by omega) (by omega)]; rfl
  rcases o with _ | best
  all_goals
    simp only [Option.isSome, bestCells, zeroAsk, askCells] at next ⊢
    refine gZ ?_
    refine t_if (fun e1 => ?_) (fun e1 => ?_)
    · obtain ⟨a, ad, ha, had, he⟩ := (hs.le AskE.grow le2.1).at (i := j) (by omega)
      have g0 := he 0 _ rfl
      have g1 := he 1 _ rfl
      have g2 := he 2 _ rfl
      have g3 := he 3 _ rfl
      have g4 := he 4 _ rfl
      have g5 := he 5 _ rfl
      have g6 := he 6 _ rfl
      have g7 := he 7 _ rfl
      have g8 := he 8 _ rfl
      have g9 := he 9 _ rfl
      have g10 := he 10 _ rfl
      have g11 := he 11 _ rfl
      have had2 := rt.askDay (List.mem_of_getElem? ha)
      have hend := askEnd_low rt.ok k i a
      have hturn := rt.turn
      have href := rt.refuse
      have le12 := LH.le_trans le1 le2
      rw [drop_of ha, goodBy_step] at hc
      have hgb : goodBy x k i d a = (fallen x k i a && (decide (askEnd x k i a ≤ d ∧ d ≤ askEnd x k i a + x.turn) && !refused x k i a (askEnd x k i a - 1))) := rfl
      have bad : goodBy x k i d a = false → ∀ h', h₁.le h' → Y _ h' := fun hb h' hle' => next h' _ hle' (by omega) (by rw [if_neg (by rw [hb]; simp)] at hc; exact hc)
      refine gZ ?_
      refine t_cond (fun e2 => ?_) (fun e2 => ?_)
      · rw [wrap_id (by omega) (by omega)]
        refine t_pu (c2052 _ _ _) ?_
        have hin : inB d (askEnd x k i a) (askEnd x k i a + x.turn) = decide (askEnd x k i a ≤ d ∧ d ≤ askEnd x k i a + x.turn) := by
          unfold inB
          rw [Bool.eq_iff_iff]
          simp only [Bool.and_eq_true, decide_eq_true_eq]
        rw [hin]
        refine gZ ?_
        refine t_cond (fun e3 => ?_) (fun e3 => ?_)
        · rw [wrap_id (by omega) (by omega)]
          refine t_gr (c2085 (hk.le le12.1) (hx.le le12.1) k i (a := a) (by unfold IsI; omega) _ _ _) ?_
          rintro _ h3 le3 rfl
          refine gZ ?_
          have le13 := LH.le_trans le2 le3
          refine t_cond (fun e4 => ?_) (fun e4 => ?_)
          · have hg : goodBy x k i d a = true := by rw [hgb, e2, e3, e4]; rfl
            rw [if_pos hg] at hc
            first
              | (refine t_cond (fun _ => ?_) (fun e => by cases e)
                 exact t_again (next h3 (some a) le13 (by omega) hc))
              | (refine t_cond (fun e => by cases e) (fun _ => ?_)
                 refine t_if (fun e5 => ?_) (fun e5 => ?_)
                 · exact t_again (next h3 (some a) le13 (by omega) (by rw [hc, bestI, if_pos e5]))
                 · exact t_again (next h3 (some best) le13 (by omega) (by rw [hc, bestI, if_neg e5])))
          · exact t_again (bad (by rw [hgb, e4]; simp) h3 le13)
        · exact t_again (bad (by rw [hgb, e3]; simp) h2 le2)
      · exact t_again (bad (by rw [hgb, e2]; simp) h2 le2)
    · refine gZ ?_
      rw [List.drop_eq_nil_of_le (by omega)] at hc
      refine t_ret ⟨LH.le_trans le1 le2, ?_⟩
      rw [hc]; rfl
end Go.Proofs.YtldamlcehbdkdaaDoor.Tre
end
section
namespace Go.Proofs.YtldamlcehbdkdaaDoor.Tre
open Go Go.TM Go.Proofs Go.TM.Tr
set_option maxRecDepth 100000 in
theorem via_ask_eq {v : Value} {d : Int} {A : Next → Cells → Prop} {E : Halt → Cells → Prop} {H : Cells} : Sem.lwp Tryd.prog (do let d ← Deferred.ofValue (.func (.func 172) #[] #[]) #[v, .int .i64 d]; invoke d.target d.args) A E H = Sem.lwp Tryd.prog (do let d ← Deferred.ofValue (.func (.method "touchmark/treaty.on") #[.iface 145 v] #[]) #[.int .i64 d]; invoke d.target d.args) A E H := by
  kernel_rfl
set_option maxRecDepth 100000 in
theorem via_ask {X : XP} {v : Value} {d : Int} {h : LH} {Q : Value → LH → Prop} (c : CV X Tryd.prog (.func (.func 172) #[] #[]) #[v, .int .i64 d] h Q) : CV X Tryd.prog (.func (.method "touchmark/treaty.on") #[.iface 145 v] #[]) #[.int .i64 d] h Q := by
  intro main R hR fr cs hk
  exact via_ask_eq.mp (c main R hR fr cs hk)
set_option maxRecDepth 100000 in
theorem via_turn_eq {v : Value} {d : Int} {A : Next → Cells → Prop} {E : Halt → Cells → Prop} {H : Cells} : Sem.lwp Tryd.prog (do let d ← Deferred.ofValue (.func (.func 173) #[] #[]) #[v, .int .i64 d]; invoke d.target d.args) A E H = Sem.lwp Tryd.prog (do let d ← Deferred.ofValue (.func (.method "touchmark/treaty.on") #[.iface 192 v] #[]) #[.int .i64 d]; invoke d.target d.args) A E H := by
  kernel_rfl
set_option maxRecDepth 100000 in
theorem via_turn {X : XP} {v : Value} {d : Int} {h : LH} {Q : Value → LH → Prop} (c : CV X Tryd.prog (.func (.func 173) #[] #[]) #[v, .int .i64 d] h Q) : CV X Tryd.prog (.func (.method "touchmark/treaty.on") #[.iface 192 v] #[]) #[.int .i64 d] h Q := by
  intro main R hR fr cs hk
  exact via_turn_eq.mp (c main R hR fr cs hk)
attribute [local irreducible] T.wp CV FWK
inductive Title where
  | ask (a : Int)
  | turn (a b : Int)
def turnV (f : TC) (x : TF) (k i a b : Int) : Value := .agg #[.int .i64 x.items, .int .i64 x.lands, .int .i64 x.start, .int .i64 x.depend, .int .i64 x.refuse, .int .i64 x.turn, .slice f.p f.n f.c, .int .i64 k, .int .i64 i, .int .i64 a, .int .i64 (askEnd x k i a), .bool (fallen x k i a), .int .i64 b, .int .i64 (limits x k i b)]
def titleV (f : TC) (x : TF) (k i : Int) : Title → Value
  | .ask a => .iface 145 (askV f x k i a)
  | .turn a b => .iface 192 (turnV f x k i a b)
def titleDate : Title → Int
  | .ask a => a
  | .turn a _ => a
def titleOn (x : TF) (k i d : Int) : Title → Bool
  | .ask a => decide (a ≤ d ∧ d < askEnd x k i a) && !refused x k i a d
  | .turn _ b => decide (b ≤ d ∧ d < limits x k i b)
def turnsL (x : TF) (k i : Int) (l : List Ev) : List Title := (l.filter fun e => decide (0 ≤ turned x k i e.day)).map fun e => .turn (turned x k i e.day) e.day
def titlesL (x : TF) (k i : Int) : List Title := (askDays x k i).map .ask ++ turnsL x k i (x.events.filter (allB 5 k i))
theorem titles_held (x : TF) (k i d : Int) : ((titlesL x k i).filter (titleOn x k i d)).map titleDate = held x k i d := by
  unfold titlesL turnsL held askHeld turnHeld
  rw [List.filter_append, List.map_append]
  congr 1
  · rw [List.filter_map, List.map_map]
    have : titleDate ∘ Title.ask = id := rfl
    rw [this, List.map_id]; rfl
  · rw [List.filter_map, List.map_map, List.filter_filter, List.filter_filter]
    congr 1
    refine List.filter_congr fun e _ => ?_
    rw [allB_about (by decide)]
    show (decide (e.day ≤ d ∧ d < limits x k i e.day) && decide (0 ≤ turned x k i e.day) && about e 5 k i) = _
    cases about e 5 k i <;> cases decide (0 ≤ turned x k i e.day) <;> cases decide (e.day ≤ d ∧ d < limits x k i e.day) <;> rfl
def TitleE (f : TC) (x : TF) (k i : Int) (h : Cells) (a : Addr) (t : Title) : Prop := h.cell? (a.add 0) = some (titleV f x k i t)
def TitleEnc (f : TC) (x : TF) (k i : Int) (t : Title) (ws : List Value) : Prop := ws = [titleV f x k i t]
theorem TitleE.grow {f : TC} {x : TF} {k i : Int} : Grow (TitleE f x k i) := fun _ _ _ _ hl h => hl _ _ h
theorem TitleEnc.len {f : TC} {x : TF} {k i : Int} : ∀ d ws, TitleEnc f x k i d ws → ws.length = 1 := by rintro d _ rfl; rfl
theorem TitleEnc.e {f : TC} {x : TF} {k i : Int} {h' : Cells} : ∀ a d ws, TitleEnc f x k i d ws → (∀ (j : Nat) w, ws[j]? = some w → h'.cell? (a.add j) = some w) → TitleE f x k i h' a d := by
  rintro a d _ rfl hc; exact hc 0 _ rfl
theorem titleV_one (f : TC) (x : TF) (k i : Int) (t : Title) : isOne (titleV f x k i t) = true := by cases t <;> rfl
theorem c2138 {h : LH} (f : TC) (x : TF) (v : Ok x) (k i a b d : Int) : Pu Tryd.prog 173 #[turnV f x k i a b, .int .i64 d] h (.tuple #[.int .i64 a, .bool (decide (b ≤ d ∧ d < limits x k i b))]) := by
  refine w2138 _ _ _ _ _ _ _ _ _ _ _ _ _ _ _ _ _ X0_ok ?_
  unfold n2138
  have hl := limits_low v k i b
  rw [wrap_id (by omega) (by omega)]
  have hin : inB d b (limits x k i b - 1) = decide (b ≤ d ∧ d < limits x k i b) := by
    unfold inB
    rw [Bool.eq_iff_iff]
    simp only [Bool.and_eq_true, decide_eq_true_eq]
    omega
  refine t_pu (c2052 _ _ _) ?_
  rw [hin]
  refine gZ ?_
  exact t_ret ⟨rfl, rfl⟩
theorem titles_ask {x : TF} {k i : Int} {t : Title} (h : t ∈ titlesL x k i) : (∃ a, t = .ask a ∧ a ∈ askDays x k i) ∨ ∃ e ∈ x.events, t = .turn (turned x k i e.day) e.day ∧ 0 ≤ turned x k i e.day := by
  unfold titlesL turnsL at h
  rcases List.mem_append.1 h with h | h
  · obtain ⟨a, ha, rfl⟩ := List.mem_map.1 h
    exact .inl ⟨a, rfl, ha⟩
  · obtain ⟨e, he, rfl⟩ := List.mem_map.1 h
    have h1 := List.mem_filter.1 he
    exact .inr ⟨e, (List.mem_filter.1 h1.1).1, rfl, by simpa using h1.2⟩
theorem titles_len (x : TF) (k i : Int) : (titlesL x k i).length ≤ 2 * x.events.length := by
  unfold titlesL turnsL
  rw [List.length_append, List.length_map, List.length_map]
  have h1 := askDays_len x k i
  have h2 := List.length_filter_le (fun e : Ev => decide (0 ≤ turned x k i e.day)) (x.events.filter (allB 5 k i))
  have h3 := List.length_filter_le (allB 5 k i) x.events
  omega
theorem cv_title {h : LH} (hk : Kinds h.get) {f : TC} {x : TF} (hx : TreatyR h.get f x) (rt : Right x) (k i d : Int) {t : Title} (ht : t ∈ titlesL x k i) :
    CV X0 Tryd.prog (.func (.method "touchmark/treaty.on") #[titleV f x k i t] #[]) #[.int .i64 d] h fun r h' => h.le h' ∧ r = .tuple #[.int .i64 (titleDate t), .bool (titleOn x k i d t)] := by
  rcases titles_ask ht with ⟨a, rfl, ha⟩ | ⟨e, _, rfl, _⟩
  · refine via_ask (cv_fw X0_ok (hargs := #[askV f x k i a, .int .i64 d]) (by rfl) ?_)
    have h1 := rt.askDay ha
    have h2 := rt.refuse
    have h3 := askEnd_low rt.ok k i a
    exact c2137 hk hx k i (by unfold IsI; omega) (by unfold IsI; omega) d
  · refine via_turn (cv_fw X0_ok (hargs := #[turnV f x k i (turned x k i e.day) e.day, .int .i64 d]) (by rfl) ?_)
    exact pu_gr (c2138 f x rt.ok k i _ _ d)
theorem turns_step {x : TF} {k i : Int} {l : List Ev} {e : Ev} (h : 0 ≤ turned x k i e.day) : turnsL x k i (l ++ [e]) = turnsL x k i l ++ [.turn (turned x k i e.day) e.day] := by
  unfold turnsL
  rw [List.filter_append, List.map_append, List.filter_cons, if_pos (by simpa using h)]; rfl
theorem turns_skip {x : TF} {k i : Int} {l : List Ev} {e : Ev} (h : ¬ 0 ≤ turned x k i e.day) : turnsL x k i (l ++ [e]) = turnsL x k i l := by
  unfold turnsL
  rw [List.filter_append, List.map_append, List.filter_cons, if_neg (by simpa using h)]; simp
def butOf (h : Cells) : Option Addr → Cells
  | none => h
  | some a => fun r => if r = a.block then none else h r
def onlyOf (h : Cells) : Option Addr → Cells
  | none => fun _ => none
  | some a => fun r => if r = a.block then h r else none
theorem but_only (h : Cells) (p : Option Addr) : h = (butOf h p).add (onlyOf h p) ∧ Disj (butOf h p) (onlyOf h p) := by
  cases p with
  | none => exact ⟨by funext r; unfold butOf onlyOf Cells.add; simp only; cases h r <;> rfl, fun r => .inr rfl⟩
  | some a =>
    refine ⟨?_, fun r => ?_⟩
    · funext r
      unfold butOf onlyOf Cells.add
      by_cases e : r = a.block
      · simp [e]
      · simp [e]; cases h r <;> rfl
    · unfold butOf onlyOf
      by_cases e : r = a.block
      · simp [e]
      · simp [e]
theorem but_le {h₁ h : Cells} {p : Option Addr} (hl : h₁.le h) (hp : NewIn h₁ p) : h₁.le (butOf h p) := by
  intro r x hr
  cases p with
  | none => exact hl r x hr
  | some a =>
    unfold butOf
    have hne : r ≠ a.block := by
      rintro rfl
      have := hp a rfl
      rw [this] at hr; cases hr
    simp [hne]; exact hl r x hr
theorem Growing.over {α : Type} {Enc : α → List Value → Prop} {el : TypeId} {k : Nat} {h₀ h hb : Cells} {p : Option Addr} {n c : Nat} {l : List α} (g : Growing Enc el k h₀ h p n c l) (d : Disj hb (onlyOf h p)) : Growing Enc el k hb (hb.add (onlyOf h p)) p n c l := by
  obtain ⟨vs, ⟨h1, h2⟩, h3⟩ := g.row
  rcases h2 with h2 | ⟨r, cs, rfl, hr, h4⟩
  · exact ⟨⟨vs, ⟨h1, .inl h2⟩, h3⟩, fun a ha => by rw [h2.1] at ha; cases ha⟩
  · have ho : onlyOf h (some ⟨r, 0, none⟩) r = some (true, .cells cs el (0, 0)) := by unfold onlyOf; simp [hr]
    refine ⟨⟨vs, ⟨h1, .inr ⟨r, cs, rfl, Cells.add_right' d ho, h4⟩⟩, h3⟩, fun a ha => ?_⟩
    cases ha
    rcases d r with h5 | h5
    · exact h5
    · rw [ho] at h5; cases h5
theorem t_allF {X : XP} {Q : Leaf → LH → Prop} {h hb : LH} {kq : Cells} {kk : Value → T} (hX : XOK X) (hh : h = hb.add kq) (d : Disj hb.get kq) (hk : Kinds hb.get) {f : TC} {x : TF} (hx : TreatyR hb.get f x) (k i : Int) (K : Nat) (hK : K < 7)
    (hw : ∀ v hb' L, hb.le hb' → Disj hb'.get kq → L.length = (x.events.filter (allB K k i)).length → (∀ (j : Nat) xs, L[j]? = some xs → ∃ e q m c, (x.events.filter (allB K k i))[j]? = some e ∧ xs = [evV e q m c] ∧ Sl IntE 1 hb'.get q m e.items) → Hands X Tryd.prog v hb' L → (kk v).wp X Tryd.prog Q (hb'.add kq)) :
    (T.call false 115 #[matV f x k i, .int .i64 (K : Int)] kk).wp X Tryd.prog Q h := by
  subst hh
  refine t_call (FW.frame hX (FW.top (c2083 (h := hb) f x k i K)) d) ?_
  rintro _ _ ⟨h', d', rfl, le1, z0, z1, rfl, hm, hz⟩
  obtain ⟨L, h1, h2, h3⟩ := hands2095 hX (hk.le le1.1) hK hm hz (hx.le le1.1)
  exact hw _ h' L le1 d' h1 h2 h3
set_option maxRecDepth 10000 in
theorem c2082 {h : LH} (hk : Kinds h.get) {f : TC} {x : TF} (hx : TreatyR h.get f x) (rt : Right x) (k i : Int) :
    Gr Tryd.prog 114 #[matV f x k i] h fun r h' => ∃ p n c, r = .slice p n c ∧ Sl (TitleE f x k i) 1 h'.get p n (titlesL x k i) := by
  refine w2082 _ _ _ _ _ _ _ _ _ _ _ X0_ok ?_
  unfold n2082
  refine t_gr (c2084 hk hx rt.sum (Nat.le_trans rt.many (by omega)) k i) ?_
  rintro _ h₁ le1 ⟨p, n, c, rfl, hs⟩
  refine gZ ?_
  have hn := hs.1
  have hb := hs.2.1
  have hlen := askDays_len x k i
  have hmany := rt.many
  have htl := titles_len x k i
  refine t_loop (fun mm vs h' => h₁.le h' ∧ ∃ (j : Nat) (q : Option Addr) (m cc : Nat), vs = [.int .i64 j, .slice q m cc] ∧ j ≤ n ∧ mm = n - j ∧ Growing (TitleEnc f x k i) 171 1 h₁.get h'.get q m cc (((askDays x k i).take j).map .ask))
    ⟨LH.le_refl _, 0, none, 0, 0, rfl, Nat.zero_le _, rfl, Growing.nil⟩ ?_
  rintro Y mm vs h2 hY ⟨le2, j, q, m, cc, rfl, hj, rfl, g⟩
  refine gZ ?_
  refine t_if (fun e1 => ?_) (fun e1 => ?_)
  · obtain ⟨a, ad, ha, had, he⟩ := (hs.le AskE.grow le2.1).at (i := j) (by omega)
    have g0 := he 0 _ rfl
    have g1 := he 1 _ rfl
    have g2 := he 2 _ rfl
    have g3 := he 3 _ rfl
    have g4 := he 4 _ rfl
    have g5 := he 5 _ rfl
    have g6 := he 6 _ rfl
    have g7 := he 7 _ rfl
    have g8 := he 8 _ rfl
    have g9 := he 9 _ rfl
    have g10 := he 10 _ rfl
    have g11 := he 11 _ rfl
    have hm : m ≤ 100 := by
      rw [g.count TitleEnc.len (by omega), List.length_map, List.length_take]; omega
    refine gZ ?_
    refine t_push (Title.ask a) [titleV f x k i (.ask a)] rfl rfl undTitles infTitle rfl (by omega) (by decide) (by kernel_rfl) rfl (by simp [titleV_one]) (by omega) g le2 rfl ?_
    intro p' c' h3 le3 _ g3'
    refine gZ ?_
    refine t_again (hY (n - (j + 1)) _ _ (by omega) ⟨le3, j + 1, p', m + 1, c', ?_, by omega, rfl, ?_⟩)
    · rw [wrap_id (by omega) (by omega)]; rfl
    · rw [List.take_add_one, ha, List.map_append]
      exact g3'
  · refine gZ ?_
    have hjn : j = (askDays x k i).length := by omega
    subst hjn
    rw [List.take_of_length_le (Nat.le_refl _)] at g
    have hbo := but_only h2.get q
    have lebut : h₁.get.le (butOf h2.get q) := but_le le2.1 g.new
    refine t_allF (hb := { h2 with get := butOf h2.get q }) (kq := onlyOf h2.get q) X0_ok (by unfold LH.add; simp only; rw [← hbo.1]) hbo.2 ((hk.le le1.1).le lebut) ((hx.le le1.1).le lebut) k i 5 (by decide) ?_
    intro v h3 L leb3 d3 hL1 hL2 hH
    have le3 : h₁.le h3 := ⟨Cells.le_trans lebut leb3.1, leb3.2.1.trans le2.2.1, leb3.2.2.1.trans le2.2.2.1, leb3.2.2.2.trans le2.2.2.2⟩
    have le03 := LH.le_trans le1 le3
    have hFl := List.length_filter_le (allB 5 k i) x.events
    have htit : titlesL x k i = (askDays x k i).map .ask ++ turnsL x k i (x.events.filter (allB 5 k i)) := rfl
    rw [htit]
    generalize hF : x.events.filter (allB 5 k i) = F at hL1 hL2 hFl
    have leA : h3.le (h3.add (onlyOf h2.get q)) := ⟨Cells.le_add _ _, rfl, rfl, rfl⟩
    refine t_each leA hH (fun j vs h' => ∃ (q : Option Addr) (m cc : Nat), vs = [.slice q m cc] ∧ Growing (TitleEnc f x k i) 171 1 h3.get h'.get q m cc ((askDays x k i).map .ask ++ turnsL x k i (F.take j)))
      ⟨q, m, cc, rfl, by simpa [turnsL, LH.add] using Growing.over g d3⟩ ?_ ?_
    · rintro vs h' hle ⟨q, m, cc, rfl, g⟩
      rw [hL1, List.take_of_length_le (Nat.le_refl _)] at g
      refine gZ ?_
      refine t_ret ⟨LH.le_trans le03 hle, q, m, cc, rfl, g.sl TitleEnc.len (by omega) TitleEnc.e ?_⟩
      rw [htit, hF] at htl; omega
    · rintro j xs vs h' hj2 hle ⟨q, m, cc, rfl, g⟩ Y2 hY2
      obtain ⟨e, qe, me, ce, he, rfl, hit⟩ := hL2 j xs hj2
      have htake : F.take (j + 1) = F.take j ++ [e] := by rw [List.take_add_one, he]; rfl
      have le13 := LH.le_trans le03 hle
      unfold evV
      refine gZ ?_
      refine t_gr (c2064 (hk.le le13.1) (hx.le le13.1) rt k i e.day) ?_
      rintro _ h4 le4 rfl
      have le14 := LH.le_trans le13 le4
      cases ho : turnO x k i e.day with
      | none =>
        have hno := (turnO_none rt.ok).1 ho
        simp only [Option.isSome, bestCells, zeroAsk]
        refine gZ ?_
        refine t_cond (fun e => by cases e) (fun _ => ?_)
        refine gZ ?_
        refine t_againE (LH.le_trans hle le4) (hY2 _ _ (LH.le_trans hle le4) ⟨q, m, cc, rfl, ?_⟩)
        rw [htake, turns_skip hno]
        exact g.le le4.1
      | some a =>
        obtain ⟨ha0, hae⟩ := turnO_some rt.ok ho
        simp only [Option.isSome, bestCells, askCells]
        refine gZ ?_
        refine t_cond (fun _ => ?_) (fun e => by cases e)
        refine gZ ?_
        refine t_gr (c2094 (hk.le le14.1) (hx.le le14.1) k i e.day) ?_
        rintro _ h5 le5 rfl
        refine gZ ?_
        have hm : m ≤ 100 := by
          rw [g.count TitleEnc.len (by omega), List.length_append, List.length_map]
          unfold turnsL
          rw [List.length_map]
          have h1 := List.length_filter_le (fun e : Ev => decide (0 ≤ turned x k i e.day)) (F.take j)
          have h2 : (F.take j).length ≤ F.length := by rw [List.length_take]; omega
          omega
        refine t_buildR [titleV f x k i (.turn a e.day)] undTitles infTitle (by decide) (by decide) (by kernel_rfl) ?_
        intro r h6 le6 _ hr6
        refine gZ ?_
        refine t_growR (h₀ := h3) (Enc := TitleEnc f x k i) (Title.turn a e.day) [titleV f x k i (.turn a e.day)] rfl rfl undTitles infTitle rfl (by omega) (by omega) (g.le (LH.le_trans le4 (LH.le_trans le5 le6)).1) (LH.le_trans hle (LH.le_trans le4 (LH.le_trans le5 le6))) rfl rfl hr6 (by simp [titleV_one]) ?_
        intro p' c' h7 le7 kp7 g7
        refine gZ ?_
        refine t_againE le7 (hY2 _ _ le7 ⟨p', _, c', rfl, ?_⟩)
        rw [htake, turns_step (by rw [← hae]; exact ha0), ← List.append_assoc, ← hae]
        exact g7
end Go.Proofs.YtldamlcehbdkdaaDoor.Tre
end
section
namespace Go.Proofs.YtldamlcehbdkdaaDoor.Tre
open Go Go.TM Go.Proofs Go.TM.Tr
attribute [local irreducible] T.wp CV FWK
theorem dated_all (x : TF) (k i d a : Int) (ha : a ≤ 10000) : dated x k i d a = leastFrom a (((x.events.filter (allB 6 k i)).filter fun e => decide (e.day ≤ d) && decide (e.since ≤ a)).map (·.since)) := by
  unfold dated oldL
  rw [leastFrom_min _ _ ha, List.filter_filter, least_cons]
  have : (x.events.filter fun e => about e 6 k i && (decide (e.day ≤ d) && decide (e.since ≤ a))) = x.events.filter fun e => (decide (e.day ≤ d) && decide (e.since ≤ a)) && allB 6 k i e := by
    refine List.filter_congr fun e _ => ?_
    rw [allB_about (by decide), Bool.and_comm]; rfl
  rw [this]
theorem dateOn_least {x : TF} (v : Ok x) (k i d : Int) : dateOn x k i d = if least ((held x k i d).map (dated x k i d)) = 10000 then -1 else least ((held x k i d).map (dated x k i d)) := by
  unfold dateOn
  rcases leastOr_mem (date_vals v (k := k) (i := i) (d := d)) with ⟨h1, h2⟩ | ⟨h1, h2⟩
  · rw [h1, h2]; rfl
  · rw [h2]
    have := date_vals v (k := k) (i := i) (d := d) _ h1
    rw [h2] at this
    rw [if_neg (by omega)]
theorem title_low {x : TF} (rt : Right x) {k i : Int} {t : Title} (h : t ∈ titlesL x k i) : titleDate t ≤ 10000 := by
  rcases titles_ask h with ⟨a, rfl, ha⟩ | ⟨e, _, rfl, _⟩
  · have := rt.askDay ha
    show a ≤ 10000
    omega
  · show turned x k i e.day ≤ 10000
    rcases turned_vals rt.ok k i e.day with ⟨h1, _⟩ | ⟨h1, _⟩
    · omega
    · have := rt.ok.turnedL _ h1; omega
set_option maxRecDepth 10000 in
theorem c2060 {h : LH} (hk : Kinds h.get) {f : TC} {x : TF} (hx : TreatyR h.get f x) (rt : Right x) (k i d : Int) :
    Gr Tryd.prog 82 #[matV f x k i, .int .i64 d] h fun r _ => r = .int .i64 (dateOn x k i d) := by
  refine w2060 _ _ _ _ _ _ _ _ _ _ _ _ X0_ok ?_
  unfold n2060
  refine t_gr (c2082 hk hx rt k i) ?_
  rintro _ h₁ le1 ⟨p, n, c, rfl, hs⟩
  refine gZ ?_
  have hn := hs.1
  have hb := hs.2.1
  have htl := titles_len x k i
  have hmany := rt.many
  refine t_loop (fun mm vs h' => h₁.le h' ∧ ∃ (j : Nat) (b : Int), vs = [.int .i64 b, .int .i64 j, .int .i64 x.items, .int .i64 x.lands, .int .i64 x.start, .int .i64 x.depend, .int .i64 x.refuse, .int .i64 x.turn, .slice f.p f.n f.c, .int .i64 k, .int .i64 i, .int .i64 d] ∧ j ≤ n ∧ mm = n - j ∧ b ≤ 10000 ∧
      least ((held x k i d).map (dated x k i d)) = leastFrom b (((((titlesL x k i).drop j).filter (titleOn x k i d)).map titleDate).map (dated x k i d)))
    ⟨LH.le_refl _, 0, 10000, rfl, Nat.zero_le _, rfl, Int.le_refl _, by rw [List.drop_zero, titles_held, leastFrom_cap]⟩ ?_
  rintro Y mm vs h2 hY ⟨le2, j, b, rfl, hj, rfl, hb1, hc⟩
  have le12 := LH.le_trans le1 le2
  have next : ∀ h' (b' : Int), h₁.le h' → j + 1 ≤ n → b' ≤ 10000 → least ((held x k i d).map (dated x k i d)) = leastFrom b' (((((titlesL x k i).drop (j + 1)).filter (titleOn x k i d)).map titleDate).map (dated x k i d)) →
      Y [.int .i64 b', .int .i64 (IntKind.wrap .i64 ((j : Int) + 1)), .int .i64 x.items, .int .i64 x.lands, .int .i64 x.start, .int .i64 x.depend, .int .i64 x.refuse, .int .i64 x.turn, .slice f.p f.n f.c, .int .i64 k, .int .i64 i, .int .i64 d] h' := by
    intro h' b' hle' hlt hb' hc'
    refine hY (n - (j + 1)) _ _ (by omega) ⟨hle', j + 1, b', ?_, by omega, rfl, hb', hc'⟩
    rw [wrap_id (by omega) (by omega)]; rfl
  refine gZ ?_
  refine t_if (fun e1 => ?_) (fun e1 => ?_)
  · obtain ⟨t, ad, ht, had, he⟩ := (hs.le TitleE.grow le2.1).at (i := j) (by omega)
    unfold TitleE at he
    rw [add_zero'] at he
    have htm := List.mem_of_getElem? ht
    rw [drop_of ht, List.filter_cons] at hc
    subst had
    refine gT (by omega) (gS2 rfl (t_loadV he ?_))
    refine t_callv (cv_title (hk.le le12.1) (hx.le le12.1) rt k i d htm) ?_
    rintro _ h3 ⟨le3, rfl⟩
    have le13 := LH.le_trans le12 le3
    have le23 := LH.le_trans le2 le3
    refine gZ ?_
    refine t_cond (fun e2 => ?_) (fun e2 => ?_)
    · have e2 : titleOn x k i d t = false := by simpa using e2
      rw [e2, if_neg (by simp)] at hc
      exact t_again (next h3 b le23 (by omega) hb1 hc)
    · have e2 : titleOn x k i d t = true := by simpa using e2
      rw [e2, if_pos rfl, List.map_cons, List.map_cons, leastFrom] at hc
      have hlow := title_low rt htm
      refine t_all X0_ok (hk.le le13.1) (hx.le le13.1) k i 6 (by decide) ?_
      intro v h4 L le4 hL1 hL2 hH
      have hdt := dated_all x k i d (titleDate t) hlow
      generalize hF : x.events.filter (allB 6 k i) = F at hL1 hL2 hdt
      have le24 := LH.le_trans le23 le4
      refine t_each (LH.le_refl h4) hH (fun j vs h' => ∃ a : Int, vs = [.int .i64 a] ∧ a ≤ 10000 ∧ dated x k i d (titleDate t) = leastFrom a (((F.drop j).filter fun e => decide (e.day ≤ d) && decide (e.since ≤ titleDate t)).map (·.since)))
        ⟨_, rfl, hlow, hdt⟩ ?_ ?_
      · rintro vs h' hle ⟨a, rfl, hal, hda⟩
        rw [List.drop_eq_nil_of_le (by omega)] at hda
        simp only [List.filter_nil, List.map_nil, leastFrom] at hda
        rw [hda] at hc
        refine gZ ?_
        exact t_again (next h' _ (LH.le_trans le24 hle) (by omega) (by split <;> omega) hc)
      · rintro j2 xs vs h' hj2 hle ⟨a, rfl, hal, hda⟩ Y2 hY2
        obtain ⟨e, q, m, cc, hev, rfl, hit⟩ := hL2 j2 xs hj2
        rw [drop_of hev, List.filter_cons] at hda
        unfold evV
        refine gZ ?_
        refine t_if (fun e3 => ?_) (fun e3 => ?_)
        · refine t_if (fun e4 => ?_) (fun e4 => ?_)
          · rw [if_pos (by simp; omega), List.map_cons, leastFrom] at hda
            exact t_againE hle (hY2 _ _ hle ⟨_, rfl, by split <;> omega, hda⟩)
          · rw [if_neg (by simp; omega)] at hda
            exact t_againE hle (hY2 _ _ hle ⟨_, rfl, hal, hda⟩)
        · rw [if_neg (by simp; omega)] at hda
          exact t_againE hle (hY2 _ _ hle ⟨_, rfl, hal, hda⟩)
  · refine gZ ?_
    rw [List.drop_eq_nil_of_le (by omega)] at hc
    simp only [List.filter_nil, List.map_nil, leastFrom] at hc
    have hd := dateOn_least rt.ok k i d
    rw [hc] at hd
    refine t_cond (fun e2 => ?_) (fun e2 => ?_)
    · exact t_ret ⟨le12, by rw [hd, if_pos (by simpa using e2)]⟩
    · exact t_ret ⟨le12, by rw [hd, if_neg (by simpa using e2)]⟩
def datesT (x : TF) (k d : Int) : List Int := (List.range x.items.toNat).map fun i : Nat => dateOn x k (i : Int) d
def DatesR (h : Cells) (x : TF) (k d : Int) (r : Value) : Prop :=
  (askedDayT x k d ≠ 0 ∧ r = .tuple #[.slice none 0 0, .int .i64 (askedDayT x k d)]) ∨
  (askedDayT x k d = 0 ∧ ∃ p n c, r = .tuple #[.slice p n c, .int .i64 0] ∧ Sl IntE 1 h p n (datesT x k d) ∧ n ≤ c)
theorem c2026 {h : LH} (hk : Kinds h.get) {f : TC} {x : TF} (hx : TreatyR h.get f x) (k d : Int) : Gr Tryd.prog 48 #[treatyV f x, .int .i64 k, .int .i64 d] h fun r h' => DatesR h'.get x k d r := by
  refine w2026 _ _ _ _ _ _ _ _ _ _ _ X0_ok ?_
  unfold n2026
  refine t_pu (c2063 hk hx k d) ?_
  refine gZ ?_
  refine t_cond (fun e => ?_) (fun e => ?_)
  · exact t_ret ⟨LH.le_refl _, .inl ⟨by simpa using e, rfl⟩⟩
  have e0 : askedDayT x k d = 0 := by simpa using e
  have hck := (asked_ok (askedDay_ok e0).1).1
  have rt := Right.of hck
  have hit := (check_numbers hck).1
  refine t_loop (fun mm vs h' => h.le h' ∧ ∃ (j : Nat) (p : Option Addr) (n c : Nat), vs = [.slice p n c, .int .i64 j] ∧ (j : Int) ≤ x.items ∧ mm = x.items.toNat - j ∧ Growing IntEnc 3 1 h.get h'.get p n c ((List.range j).map fun i : Nat => dateOn x k (i : Int) d))
    ⟨LH.le_refl _, 0, none, 0, 0, rfl, by omega, rfl, Growing.nil⟩ ?_
  rintro Y mm vs h₁ hY ⟨le1, j, p, n, c, rfl, hj, rfl, g⟩
  refine gZ ?_
  refine t_if (fun e1 => ?_) (fun e1 => ?_)
  · refine t_gr (c2060 (hk.le le1.1) (hx.le le1.1) rt k j d) ?_
    rintro _ h2 le2 rfl
    refine gZ ?_
    have hnn : n = j := by rw [g.count IntEnc.len (by omega)]; simp
    refine t_push (dateOn x k j d) [.int .i64 (dateOn x k j d)] rfl rfl und50 inf3 rfl (by omega) (by decide) (by kernel_rfl) rfl (by simp; rfl) (by omega) (g.le le2.1) (LH.le_trans le1 le2) rfl ?_
    intro p' c' h3 le3 _ g3
    refine gZ ?_
    refine t_again (hY (x.items.toNat - (j + 1)) _ _ (by omega) ⟨le3, j + 1, p', n + 1, c', ?_, by omega, rfl, ?_⟩)
    · rw [wrap_id (by omega) (by omega)]; rfl
    · rw [List.range_succ, List.map_append]; exact g3
  · refine gZ ?_
    have hjn : x.items.toNat = j := by omega
    refine t_ret ⟨le1, .inr ⟨e0, p, n, c, rfl, ?_, ?_⟩⟩
    · unfold datesT
      rw [hjn]
      exact g.sl IntEnc.len (by omega) IntEnc.e (by simp; omega)
    · obtain ⟨vs, o, _⟩ := g.row
      exact o.le_cap
end Go.Proofs.YtldamlcehbdkdaaDoor.Tre
end
section
namespace Go.Proofs.YtldamlcehbdkdaaDoor.Tre
open Go Go.TM Go.Proofs Go.TM.Tr
attribute [local irreducible] T.wp CV FWK
def protT (x : TF) (k d : Int) : List Bool := (datesT x k d).map fun d => decide (d ≥ 0)
def ProtR (h : Cells) (x : TF) (k d : Int) (r : Value) : Prop :=
  ∃ p n c, r = .tuple #[.slice p n c, .int .i64 (askedDayT x k d)] ∧ Sl BoolE 1 h p n (if askedDayT x k d = 0 then protT x k d else []) ∧ n ≤ c
theorem dates_len (x : TF) (k d : Int) : (datesT x k d).length = x.items.toNat := by unfold datesT; simp
set_option maxRecDepth 10000 in
theorem c2018 {h : LH} (hk : Kinds h.get) {f : TC} {x : TF} (hx : TreatyR h.get f x) (k d : Int) : Gr Tryd.prog 47 #[treatyV f x, .int .i64 k, .int .i64 d] h fun r h' => ProtR h'.get x k d r := by
  refine w2018 _ _ _ _ _ _ _ _ _ _ _ X0_ok ?_
  unfold n2018
  refine t_gr (c2026 hk hx k d) ?_
  intro r h₁ le1 hr
  obtain ⟨p, n, c, g, l, rfl, hs, hg, hl, hl5⟩ : ∃ p n c g l, r = .tuple #[.slice p n c, .int .i64 g] ∧ Sl IntE 1 h₁.get p n l ∧ g = askedDayT x k d ∧ (if askedDayT x k d = 0 then protT x k d else []) = l.map (fun d => decide (d ≥ 0)) ∧ l.length ≤ 5 := by
    rcases hr with ⟨h1, rfl⟩ | ⟨h1, p, n, c, rfl, h2, h3⟩
    · exact ⟨none, 0, 0, _, [], rfl, Sl.nil, rfl, by rw [if_neg h1]; rfl, by simp⟩
    · refine ⟨p, n, c, 0, _, rfl, h2, h1.symm, by rw [if_pos h1]; rfl, ?_⟩
      have := (check_numbers (asked_ok (askedDay_ok h1).1).1).1
      rw [dates_len]; omega
  refine gZ ?_
  have hn := hs.1
  refine t_new fun r hr => ?_
  have le2 : ∀ cs, h₁.le { h₁ with get := h₁.get.upd r (true, .cells cs 138 (0, 0)) } := fun cs => LH.upd_le hr
  refine t_loop (fun mm vs h' => ∃ (j : Nat) (cs : Array Value), vs = [.int .i64 j] ∧ j ≤ n ∧ mm = n - j ∧ h' = { h₁ with get := h₁.get.upd r (true, .cells cs 138 (0, 0)) } ∧ cs.size = 5 ∧ (∀ (i : Nat) y, i < j → l[i]? = some y → cs[i]? = some (.bool (decide (y ≥ 0)))) ∧ ∀ i : Nat, j ≤ i → i < 5 → cs[i]? = some (.bool false))
    ⟨0, #[.bool false, .bool false, .bool false, .bool false, .bool false], rfl, Nat.zero_le _, rfl, rfl, rfl, fun i y hi => absurd hi (Nat.not_lt_zero _), fun i _ hi => by match i, hi with | 0, _ | 1, _ | 2, _ | 3, _ | 4, _ => rfl⟩ ?_
  rintro Y mm vs _ hY ⟨j, cs, rfl, hj, rfl, rfl, hsz, hlow, hhigh⟩
  refine gZ ?_
  refine t_if (fun e1 => ?_) (fun e1 => ?_)
  · obtain ⟨y, a, hy, ha, e2⟩ := (hs.le IntE.grow (le2 cs).1).at (i := j) (by omega)
    unfold IntE at e2
    refine gZ ?_
    refine t_storeU (o := j) (by rw [add_plain, add_plain]; simp) rfl (by omega) ?_
    refine t_again (hY (n - (j + 1)) _ _ (by omega) ⟨j + 1, _, ?_, by omega, rfl, rfl, by simp [hsz], fun i z hi hz => ?_, fun i hi h5 => ?_⟩)
    · rw [wrap_id (by omega) (by omega)]; rfl
    · by_cases e : i = j
      · subst e
        rw [hy] at hz; cases hz
        rw [Array.getElem?_setIfInBounds_self_of_lt (by omega)]
      · rw [Array.getElem?_setIfInBounds_ne (Ne.symm e)]
        exact hlow i z (by omega) hz
    · rw [Array.getElem?_setIfInBounds_ne (by omega)]
      exact hhigh i (by omega) h5
  · refine gZ ?_
    have hjn : j = n := by omega
    subst hjn
    obtain ⟨bs, hbs5, hbs⟩ : ∃ bs : List Bool, bs.length = 5 ∧ ∀ (i : Nat) b, bs[i]? = some b → cs[i]? = some (.bool b) := by
      refine ⟨(List.range 5).map fun i : Nat => match (l[i]? : Option Int) with | some y => decide (y ≥ 0) | none => false, by simp, fun i b hb => ?_⟩
      rw [List.getElem?_map] at hb
      by_cases h5 : i < 5
      · rw [List.getElem?_range h5] at hb
        simp only [Option.map_some, Option.some.injEq] at hb
        cases hly : l[i]? with
        | none =>
          rw [hly] at hb; subst hb
          exact hhigh i (by rw [hn]; exact List.getElem?_eq_none_iff.1 hly) h5
        | some y =>
          rw [hly] at hb; subst hb
          exact hlow i y (by rw [hn]; exact (List.getElem?_eq_some_iff.1 hly).1) hly
      · rw [List.getElem?_eq_none (by simp; omega)] at hb; cases hb
    match bs, hbs5 with
    | [b0, b1, b2, b3, b4], _ =>
      have c0 : Cells.cell? (h₁.get.upd r (true, .cells cs 138 (0, 0))) (Addr.add ⟨r, 0, none⟩ 0) = some (.bool b0) := by rw [add_plain]; exact cell_upd (hbs 0 _ rfl)
      have c1 : Cells.cell? (h₁.get.upd r (true, .cells cs 138 (0, 0))) (Addr.add ⟨r, 0, none⟩ 1) = some (.bool b1) := by rw [add_plain]; exact cell_upd (hbs 1 _ rfl)
      have c2 : Cells.cell? (h₁.get.upd r (true, .cells cs 138 (0, 0))) (Addr.add ⟨r, 0, none⟩ 2) = some (.bool b2) := by rw [add_plain]; exact cell_upd (hbs 2 _ rfl)
      have c3 : Cells.cell? (h₁.get.upd r (true, .cells cs 138 (0, 0))) (Addr.add ⟨r, 0, none⟩ 3) = some (.bool b3) := by rw [add_plain]; exact cell_upd (hbs 3 _ rfl)
      have c4 : Cells.cell? (h₁.get.upd r (true, .cells cs 138 (0, 0))) (Addr.add ⟨r, 0, none⟩ 4) = some (.bool b4) := by rw [add_plain]; exact cell_upd (hbs 4 _ rfl)
      refine gL2 c0 (gL2 c1 (gL2 c2 (gL2 c3 (gL2 c4 ?_))))
      refine t_eqA5 undItems bo4 inf4 gItems ?_
      refine gZ ?_
      refine t_cond (fun e => ?_) (fun e => ?_)
      · have e : [b0, b1, b2, b3, b4] = [false, false, false, false, false] := by simpa only [decide_eq_true_eq] using e
        refine t_makeSlice undBs inf4 rfl (by decide) (by omega) fun r2 cs2 hr2 hsz2 hcs2 => ?_
        refine gZ ?_
        refine t_ret ⟨LH.le_trans (LH.le_trans le1 (le2 cs)) (LH.upd_le hr2), _, _, _, by rw [hg], ?_, Nat.le_refl _⟩
        rw [hl]
        refine ⟨by rw [List.length_map]; exact hn, by rw [List.length_map]; omega, fun i b hb => ⟨_, rfl, ?_⟩⟩
        unfold BoolE
        rw [add_plain, add_plain]
        rw [List.getElem?_map] at hb
        cases hly : l[i]? with
        | none => rw [hly] at hb; cases hb
        | some y =>
          rw [hly] at hb
          simp only [Option.map_some, Option.some.injEq] at hb
          have hi := (List.getElem?_eq_some_iff.1 hly).1
          have h1 := hlow i y (by omega) hly
          have hcell := hcs2 i (by omega)
          have hb' : b = false := by
            have h2 := hbs i
            match i, hi with
            | 0, _ => have := h2 b0 rfl; cases e; rw [this] at h1; simp only [Option.some.injEq, Value.bool.injEq] at h1; rw [← hb, ← h1]
            | 1, _ => have := h2 b1 rfl; cases e; rw [this] at h1; simp only [Option.some.injEq, Value.bool.injEq] at h1; rw [← hb, ← h1]
            | 2, _ => have := h2 b2 rfl; cases e; rw [this] at h1; simp only [Option.some.injEq, Value.bool.injEq] at h1; rw [← hb, ← h1]
            | 3, _ => have := h2 b3 rfl; cases e; rw [this] at h1; simp only [Option.some.injEq, Value.bool.injEq] at h1; rw [← hb, ← h1]
            | 4, _ => have := h2 b4 rfl; cases e; rw [this] at h1; simp only [Option.some.injEq, Value.bool.injEq] at h1; rw [← hb, ← h1]
            | i + 5, hi => omega
          rw [hb']
          have hz : 0 + i * 1 + 0 = i := by omega
          rw [hz]
          exact cell_upd hcell
      · refine t_sliceArr undItems inf4 (by omega) fun a' ha0 ha1 => ?_
        refine gZ ?_
        refine t_ret ⟨LH.le_trans le1 (le2 cs), _, _, _, by rw [hg], ?_, Nat.le_refl _⟩
        rw [hl]
        have haa : a' = ⟨r, 0, none⟩ := by
          by_cases e0 : j = 0
          · exact ha0 e0
          · rw [ha1 e0, add_plain]
        subst haa
        refine ⟨by rw [List.length_map]; exact hn, by rw [List.length_map]; omega, fun i b hb => ⟨_, rfl, ?_⟩⟩
        unfold BoolE
        rw [add_plain, add_plain]
        rw [List.getElem?_map] at hb
        cases hly : l[i]? with
        | none => rw [hly] at hb; cases hb
        | some y =>
          rw [hly] at hb
          simp only [Option.map_some, Option.some.injEq] at hb
          have hi := (List.getElem?_eq_some_iff.1 hly).1
          have h1 := hlow i y (by omega) hly
          have hz : 0 + i * 1 + 0 = i := by omega
          rw [hz, ← hb]
          exact cell_upd h1
def turnsT (x : TF) (k d : Int) : List Int := ((List.range x.items.toNat).filter fun i : Nat => decide (0 ≤ turned x k (i : Int) d)).map fun i : Nat => (i : Int)
def TurnsR (h : Cells) (x : TF) (k d : Int) (r : Value) : Prop :=
  (askedDayT x k d ≠ 0 ∧ r = .tuple #[.slice none 0 0, .int .i64 (askedDayT x k d)]) ∨
  (askedDayT x k d = 0 ∧ ∃ p n c, r = .tuple #[.slice p n c, .int .i64 0] ∧ Sl IntE 1 h p n (turnsT x k d) ∧ n ≤ c)
set_option maxRecDepth 10000 in
theorem c2029 {h : LH} (hk : Kinds h.get) {f : TC} {x : TF} (hx : TreatyR h.get f x) (k d : Int) : Gr Tryd.prog 50 #[treatyV f x, .int .i64 k, .int .i64 d] h fun r h' => TurnsR h'.get x k d r := by
  refine w2029 _ _ _ _ _ _ _ _ _ _ _ X0_ok ?_
  unfold n2029
  refine t_pu (c2063 hk hx k d) ?_
  refine gZ ?_
  refine t_cond (fun e => ?_) (fun e => ?_)
  · exact t_ret ⟨LH.le_refl _, .inl ⟨by simpa using e, rfl⟩⟩
  have e0 : askedDayT x k d = 0 := by simpa using e
  have hck := (asked_ok (askedDay_ok e0).1).1
  have rt := Right.of hck
  have hit := (check_numbers hck).1
  refine t_loop (fun mm vs h' => h.le h' ∧ ∃ (j : Nat) (p : Option Addr) (n c : Nat), vs = [.slice p n c, .int .i64 j] ∧ (j : Int) ≤ x.items ∧ mm = x.items.toNat - j ∧ Growing IntEnc 3 1 h.get h'.get p n c (((List.range j).filter fun i : Nat => decide (0 ≤ turned x k (i : Int) d)).map fun i : Nat => (i : Int)))
    ⟨LH.le_refl _, 0, none, 0, 0, rfl, by omega, rfl, Growing.nil⟩ ?_
  rintro Y mm vs h₁ hY ⟨le1, j, p, n, c, rfl, hj, rfl, g⟩
  have hnn : n ≤ j := by
    rw [g.count IntEnc.len (by omega), List.length_map]
    have := List.length_filter_le (fun i : Nat => decide (0 ≤ turned x k (i : Int) d)) (List.range j)
    rw [List.length_range] at this; exact this
  refine gZ ?_
  refine t_if (fun e1 => ?_) (fun e1 => ?_)
  · refine t_gr (c2064 (hk.le le1.1) (hx.le le1.1) rt k j d) ?_
    rintro _ h2 le2 rfl
    cases ho : turnO x k (j : Int) d with
    | none =>
      have hno := (turnO_none rt.ok).1 ho
      simp only [Option.isSome, bestCells, zeroAsk]
      refine gZ ?_
      refine t_cond (fun e => by cases e) (fun _ => ?_)
      refine t_again (hY (x.items.toNat - (j + 1)) _ _ (by omega) ⟨LH.le_trans le1 le2, j + 1, p, n, c, ?_, by omega, rfl, ?_⟩)
      · rw [wrap_id (by omega) (by omega)]; rfl
      · rw [List.range_succ, List.filter_append, List.filter_cons, if_neg (by simpa using hno)]
        simpa using g.le le2.1
    | some a =>
      obtain ⟨ha0, hae⟩ := turnO_some rt.ok ho
      simp only [Option.isSome, bestCells, askCells]
      refine gZ ?_
      refine t_cond (fun _ => ?_) (fun e => by cases e)
      refine t_push (j : Int) [.int .i64 (j : Int)] rfl rfl und50 inf3 rfl (by omega) (by decide) (by kernel_rfl) rfl (by simp; rfl) (by omega) (g.le le2.1) (LH.le_trans le1 le2) rfl ?_
      intro p' c' h3 le3 _ g3
      refine gZ ?_
      refine t_again (hY (x.items.toNat - (j + 1)) _ _ (by omega) ⟨le3, j + 1, p', n + 1, c', ?_, by omega, rfl, ?_⟩)
      · rw [wrap_id (by omega) (by omega)]; rfl
      · rw [List.range_succ, List.filter_append, List.filter_cons, if_pos (by rw [← hae]; simpa using ha0), List.map_append]; exact g3
  · refine gZ ?_
    have hjn : x.items.toNat = j := by omega
    refine t_ret ⟨le1, .inr ⟨e0, p, n, c, rfl, ?_, ?_⟩⟩
    · unfold turnsT
      rw [hjn]
      refine g.sl IntEnc.len (by omega) IntEnc.e ?_
      rw [← g.count IntEnc.len (by omega)]; omega
    · obtain ⟨vs, o, _⟩ := g.row
      exact o.le_cap
end Go.Proofs.YtldamlcehbdkdaaDoor.Tre
end
section
namespace Go.Proofs.YtldamlcehbdkdaaDoor.Tre
open Go Go.TM Go.Proofs Go.TM.Tr
attribute [local irreducible] T.wp CV FWK
def KindsOk (x : TF) : Prop := ∀ e ∈ x.events, 0 ≤ e.kind ∧ e.kind ≤ 6
theorem KindsOk.of {x : TF} (h : checkT x = 0) : KindsOk x := fun e he => (event_ok.1 (check_event h e he)).kind
theorem KindsOk.nat {x : TF} (h : KindsOk x) {e : Ev} (he : e ∈ x.events) : ∃ n : Nat, e.kind = n ∧ n < 7 := by
  have := h e he
  exact ⟨e.kind.toNat, by omega, by omega⟩
theorem gives_int {n : Nat} (hn : n < 7) {e : Ev} (he : e.kind = n) : givesK n = givesB e := by
  unfold givesB
  rw [he]
  match n, hn with
  | 0, _ | 1, _ | 2, _ | 3, _ | 4, _ | 5, _ | 6, _ => rfl
theorem cv_gives {h : LH} (n : Nat) : CV X0 Tryd.prog (.func (.func (if givesK n then 175 else 176)) #[] #[]) #[] h fun r h' => r = .bool (givesK n) ∧ h = h' := by
  cases hg : givesK n with
  | true => exact cv_fw X0_ok (by rfl) (FW.mono c2140 fun _ _ h => ⟨h.1, h.2.symm⟩)
  | false => exact cv_fw X0_ok (by rfl) (FW.mono c2141 fun _ _ h => ⟨h.1, h.2.symm⟩)
theorem giving_snoc {e : Ev} : ∀ (l : List Ev) (n : Int), givingGo (l ++ [e]) n = givingGo l n ++ if givesB e then [n + (l.length : Int)] else []
  | [], n => by simp [givingGo]
  | c :: l, n => by
    rw [List.cons_append, givingGo, givingGo, giving_snoc l (n + 1)]
    have : n + 1 + (l.length : Int) = n + ((c :: l).length : Int) := by simp; omega
    rw [this]
    split <;> simp
theorem with_snoc {L : List Int} {e : Ev} : ∀ (l : List Ev) (n : Int), withGo L (l ++ [e]) n = withGo L l n ++ if (!givesB e || L.contains (n + (l.length : Int))) then [e] else []
  | [], n => by simp [withGo]
  | c :: l, n => by
    rw [List.cons_append, withGo, withGo, with_snoc l (n + 1)]
    have : n + 1 + (l.length : Int) = n + ((c :: l).length : Int) := by simp; omega
    rw [this]
    split <;> simp
theorem giving_len : ∀ (l : List Ev) (n : Int), (givingGo l n).length ≤ l.length
  | [], _ => Nat.le_refl _
  | c :: l, n => by
    have := giving_len l (n + 1)
    rw [givingGo]
    split <;> simp <;> omega
theorem with_len (L : List Int) : ∀ (l : List Ev) (n : Int), (withGo L l n).length ≤ l.length
  | [], _ => Nat.le_refl _
  | c :: l, n => by
    have := with_len L l (n + 1)
    rw [withGo]
    split <;> simp <;> omega
theorem Right.with {x : TF} (r : Right x) (L : List Int) : Right (withE x L) :=
  ⟨ok_with r.ok L, r.start, r.depend, r.refuse, r.turn, Nat.le_trans (with_len L x.events 0) r.many⟩
theorem c2067 {h : LH} (hk : Kinds h.get) {f : TC} {x : TF} (hx : TreatyR h.get f x) (hkd : KindsOk x) (hmany : x.events.length ≤ 10) :
    Gr Tryd.prog 87 #[treatyV f x] h fun r h' => ∃ p n c, r = .slice p n c ∧ Sl IntE 1 h'.get p n (giving x) ∧ n ≤ c := by
  refine w2067 _ _ _ _ _ _ _ _ _ X0_ok ?_
  unfold n2067
  have hs := hx.2
  have hn := hs.1
  refine t_loop (fun mm vs h' => h.le h' ∧ ∃ (j : Nat) (p : Option Addr) (n c : Nat), vs = [.slice p n c, .int .i64 j] ∧ j ≤ f.n ∧ mm = f.n - j ∧ Growing IntEnc 3 1 h.get h'.get p n c (givingGo (x.events.take j) 0))
    ⟨LH.le_refl _, 0, none, 0, 0, rfl, Nat.zero_le _, rfl, Growing.nil⟩ ?_
  rintro Y mm vs h₁ hY ⟨le1, j, p, n, c, rfl, hj, rfl, g⟩
  have hnn : n ≤ 10 := by
    rw [g.count IntEnc.len (by omega)]
    have := giving_len (x.events.take j) 0
    rw [List.length_take] at this; omega
  refine gZ ?_
  refine t_if (fun e1 => ?_) (fun e1 => ?_)
  · obtain ⟨e, a, he, ha, g0, g1, g2, ⟨q, m, cc, g3, _, g5⟩, g4⟩ := (hs.le EventE.grow le1.1).at (i := j) (by omega)
    obtain ⟨kn, hkn, hk7⟩ := hkd.nat (List.mem_of_getElem? he)
    have htake : x.events.take (j + 1) = x.events.take j ++ [e] := by rw [List.take_add_one, he]; rfl
    have hlen : (x.events.take j).length = j := by rw [List.length_take]; omega
    have hg := (hk.le le1.1).givesAt hk7
    rw [hkn] at g0
    refine gZ ?_
    refine t_loadV hg ?_
    refine t_callv (cv_gives kn) ?_
    rintro _ _ ⟨rfl, rfl⟩
    rw [gives_int hk7 hkn]
    refine gZ ?_
    refine t_cond (fun e2 => ?_) (fun e2 => ?_)
    · refine t_push (j : Int) [.int .i64 (j : Int)] rfl rfl und50 inf3 rfl (by omega) (by decide) (by kernel_rfl) rfl (by simp; rfl) (by omega) g le1 rfl ?_
      intro p' c' h3 le3 _ g3
      refine gZ ?_
      refine t_again (hY (f.n - (j + 1)) _ _ (by omega) ⟨le3, j + 1, p', n + 1, c', ?_, by omega, rfl, ?_⟩)
      · rw [wrap_id (by omega) (by omega)]; rfl
      · rw [htake, giving_snoc, if_pos e2, hlen, Int.zero_add]; exact g3
    · refine t_again (hY (f.n - (j + 1)) _ _ (by omega) ⟨le1, j + 1, p, n, c, ?_, by omega, rfl, ?_⟩)
      · rw [wrap_id (by omega) (by omega)]; rfl
      · rw [htake, giving_snoc, if_neg (by rw [e2]; simp), List.append_nil]; exact g
  · refine gZ ?_
    rw [List.take_of_length_le (by omega)] at g
    refine t_ret ⟨le1, p, n, c, rfl, g.sl IntEnc.len (by omega) IntEnc.e ?_, ?_⟩
    · show (givingGo x.events 0).length < _
      rw [← g.count IntEnc.len (by omega)]; omega
    · obtain ⟨vs, o, _⟩ := g.row
      exact o.le_cap
set_option maxRecDepth 10000 in
theorem c2069 {h : LH} (hk : Kinds h.get) {f : TC} {x : TF} (hx : TreatyR h.get f x) (rt : Right x) (hkd : KindsOk x) (k i d : Int) {ep : Option Addr} {en ec : Nat} {L : List Int} (hL : Sl IntE 1 h.get ep en L) :
    Gr Tryd.prog 89 #[treatyV f x, .int .i64 k, .int .i64 i, .int .i64 d, .slice ep en ec] h fun r _ => r = .bool (holdsB x k i d L) := by
  refine w2069 _ _ _ _ _ _ _ _ _ _ _ _ _ _ _ X0_ok ?_
  unfold n2069
  have hs := hx.2
  have hn := hs.1
  have hmany := rt.many
  refine t_loop (fun mm vs h' => h.le h' ∧ ∃ (j : Nat) (p : Option Addr) (n c : Nat), vs = [.int .i64 j, .int .i64 x.items, .int .i64 x.lands, .int .i64 x.start, .int .i64 x.depend, .int .i64 x.refuse, .int .i64 x.turn, .slice p n c] ∧ j ≤ f.n ∧ mm = f.n - j ∧ Growing (EventEnc h.get) 135 5 h.get h'.get p n c (withGo L (x.events.take j) 0))
    ⟨LH.le_refl _, 0, none, 0, 0, rfl, Nat.zero_le _, rfl, Growing.nil⟩ ?_
  rintro Y mm vs h₁ hY ⟨le1, j, p, n, c, rfl, hj, rfl, g⟩
  have hnn : n ≤ 10 := by
    rw [g.count EventEnc.len (by omega)]
    have := with_len L (x.events.take j) 0
    rw [List.length_take] at this; omega
  refine gZ ?_
  refine t_if (fun e1 => ?_) (fun e1 => ?_)
  · obtain ⟨e, a, he, ha, g0, g1, g2, ⟨q, m, cc, g3, g6, g5⟩, g4⟩ := hs.at (i := j) (by omega)
    have hws : EventEnc h.get e [.int .i64 e.kind, .int .i64 e.day, .int .i64 e.land, .slice q m cc, .int .i64 e.since] := ⟨q, m, cc, rfl, g6, g5⟩
    obtain ⟨kn, hkn, hk7⟩ := hkd.nat (List.mem_of_getElem? he)
    have htake : x.events.take (j + 1) = x.events.take j ++ [e] := by rw [List.take_add_one, he]; rfl
    have hlen : (x.events.take j).length = j := by rw [List.length_take]; omega
    have hg := (hk.le le1.1).givesAt hk7
    rw [hkn] at g0 hws
    have g0 := Cells.cell?_le le1.1 g0
    have g1 := Cells.cell?_le le1.1 g1
    have g2 := Cells.cell?_le le1.1 g2
    have g3 := Cells.cell?_le le1.1 g3
    have g4 := Cells.cell?_le le1.1 g4
    refine gZ ?_
    refine t_loadV hg ?_
    refine t_callv (cv_gives kn) ?_
    rintro _ _ ⟨rfl, rfl⟩
    rw [gives_int hk7 hkn]
    have keep : (!givesB e || L.contains (j : Int)) = true → ∀ {K : Value → T} {Q : Leaf → LH → Prop}, (∀ p' c' h', h.le h' → Growing (EventEnc h.get) 135 5 h.get h'.get p' (n + 1) c' (withGo L (x.events.take (j + 1)) 0) → (K (.slice p' (n + 1) c')).wp X0 Tryd.prog Q h') →
        (T.sem false (Instr.buildSlice 48 1 #[(0, .agg #[.int .i64 (kn : Int), .int .i64 e.day, .int .i64 e.land, .slice q m cc, .int .i64 e.since])]) fun v => T.unS v fun a m mc => T.sem false (Builtin.append_ #[48, 48] 48 #[.slice p n c, .slice a m mc]) K).wp X0 Tryd.prog Q h₁ := by
      intro hkeep K Q hK
      refine t_push e [.int .i64 (kn : Int), .int .i64 e.day, .int .i64 e.land, .slice q m cc, .int .i64 e.since] rfl rfl undEvs infEv rfl (by omega) (by decide) (by kernel_rfl) rfl ?_ (by omega) g le1 hws ?_
      · intro w hw
        simp only [List.mem_cons, List.not_mem_nil, or_false] at hw
        rcases hw with rfl | rfl | rfl | rfl | rfl <;> rfl
      · intro p' c' h3 le3 _ g3
        refine hK p' c' h3 le3 ?_
        rw [htake, with_snoc, hlen, Int.zero_add, if_pos hkeep]; exact g3
    have next : ∀ h' p' n' c', h.le h' → Growing (EventEnc h.get) 135 5 h.get h'.get p' n' c' (withGo L (x.events.take (j + 1)) 0) → Y [.int .i64 (IntKind.wrap .i64 ((j : Int) + 1)), .int .i64 x.items, .int .i64 x.lands, .int .i64 x.start, .int .i64 x.depend, .int .i64 x.refuse, .int .i64 x.turn, .slice p' n' c'] h' := by
      intro h' p' n' c' hle' g'
      refine hY (f.n - (j + 1)) _ _ (by omega) ⟨hle', j + 1, p', n', c', ?_, by omega, rfl, g'⟩
      rw [wrap_id (by omega) (by omega)]; rfl
    refine gZ ?_
    refine t_cond (fun e2 => ?_) (fun e2 => ?_)
    · refine keep (by rw [e2, Bool.true_or]) fun p' c' h' hle' g' => ?_
      refine gZ ?_
      exact t_again (next h' p' _ c' hle' g')
    · refine t_pu (c100 (hL.le IntE.grow le1.1) (j : Int)) ?_
      refine gZ ?_
      refine t_cond (fun e3 => ?_) (fun e3 => ?_)
      · refine keep (by rw [e3, Bool.or_true]) fun p' c' h' hle' g' => ?_
        refine gZ ?_
        exact t_again (next h' p' _ c' hle' g')
      · refine t_again (next h₁ p n c le1 ?_)
        rw [htake, with_snoc, hlen, Int.zero_add, if_neg (by rw [e2, e3]; simp), List.append_nil]; exact g
  · refine gZ ?_
    rw [List.take_of_length_le (by omega)] at g
    have hx' : TreatyR h₁.get ⟨p, n, c⟩ (withE x L) := by
      refine ⟨?_, g.sl EventEnc.len (by omega) (EventEnc.e (Rd.of_le le1.1)) ?_⟩
      · obtain ⟨vs, o, _⟩ := g.row
        exact o.le_cap
      · show (withGo L x.events 0).length < _
        rw [← g.count EventEnc.len (by omega)]; omega
    refine t_gr (c2060 (hk.le le1.1) hx' (rt.with L) k i d) ?_
    rintro _ h2 le2 rfl
    refine gZ ?_
    exact t_ret ⟨LH.le_trans le1 le2, rfl⟩
end Go.Proofs.YtldamlcehbdkdaaDoor.Tre
end
section
namespace Go.TM
open Go Go.Conc
variable {P : Program} {X : XP} {Q : Leaf → LH → Prop}
theorem t_indexStr {h : LH} {K : Value → T} {t : TypeId} {s : ByteArray} {i : Nat} (hu : P.underlying t = some .string) (hs : s.size = 256) (hi : i < 256) (hk : ∀ b : Nat, (K (.int .u8 (b : Int))).wp X P Q h) : (T.sem false (Instr.index t (.string s) (.int .u8 (i : Int))) K).wp X P Q h := by
  refine t_sem (A := fun w h' => h' = h.get ∧ ∃ b : Nat, w = .int .u8 (b : Int)) ?_ (by rintro w h' ⟨rfl, b, rfl⟩; exact hk b)
  unfold Instr.index
  simp only [asIntOf, lwp_bind, lwp_pure, lwp_underlying hu]
  have h1 : s[(i : Int).toNat]? = some (s[i]'(by omega)) := by
    rw [Int.toNat_natCast]; exact getElem?_pos s i (by omega)
  rw [if_pos (by omega), h1]
  exact ⟨rfl, _, rfl⟩
def Reads (cs : Array Value) (l : List Int) : Prop := ∀ (i : Nat) y, l[i]? = some y → cs[i]? = some (.int .i64 y)
theorem swap_perm : ∀ (m : List Int) (j : Nat) (x y : Int), m[j]? = some y → m[j + 1]? = some x → ((m.set (j + 1) y).set j x).Perm m
  | [], j, x, y, h, _ => by simp at h
  | [a], j, x, y, _, h => by simp at h
  | a :: b :: r, 0, x, y, h1, h2 => by
    simp at h1 h2; subst h1; subst h2
    simp only [List.set_cons_succ, List.set_cons_zero]
    exact List.Perm.swap _ _ _
  | a :: b :: r, j + 1, x, y, h1, h2 => by
    simp only [List.set_cons_succ]
    exact (swap_perm (b :: r) j x y (by simpa using h1) (by simpa using h2)).cons a
structure Ins (m : List Int) (i j : Nat) : Prop where
  rest : ∀ a b u v, a < b → b ≤ i → a ≠ j → b ≠ j → m[a]? = some u → m[b]? = some v → u ≤ v
  small : ∀ b u v, j < b → b ≤ i → m[j]? = some u → m[b]? = some v → u ≤ v
theorem Ins.swap {m : List Int} {i j : Nat} {x y : Int} (h : Ins m i (j + 1)) (hj : j + 1 ≤ i) (hy : m[j]? = some y) (hx : m[j + 1]? = some x) (hlt : x < y) : Ins ((m.set (j + 1) y).set j x) i j := by
  have len : j + 1 < m.length := (List.getElem?_eq_some_iff.1 hx).1
  have get : ∀ a, ((m.set (j + 1) y).set j x)[a]? = if a = j then some x else if a = j + 1 then some y else m[a]? := by
    intro a
    rw [List.getElem?_set, List.getElem?_set]
    by_cases e1 : a = j
    · subst e1; simp; omega
    · by_cases e2 : a = j + 1
      · subst e2; simp; omega
      · rw [if_neg (Ne.symm e1), if_neg (Ne.symm e2), if_neg e1, if_neg e2]
  refine ⟨fun a b u v hab hbi ha hb hu hv => ?_, fun b u v hjb hbi hu hv => ?_⟩
  · rw [get, if_neg ha] at hu
    rw [get, if_neg hb] at hv
    by_cases e1 : a = j + 1
    · rw [if_pos e1] at hu; cases hu
      rw [if_neg (by omega)] at hv
      exact h.rest j b y v (by omega) hbi (by omega) (by omega) hy hv
    · rw [if_neg e1] at hu
      by_cases e2 : b = j + 1
      · rw [if_pos e2] at hv; cases hv
        exact h.rest a j u y (by omega) (by omega) (by omega) (by omega) hu hy
      · rw [if_neg e2] at hv
        exact h.rest a b u v hab hbi e1 e2 hu hv
  · rw [get, if_pos rfl] at hu; cases hu
    rw [get, if_neg (by omega)] at hv
    by_cases e2 : b = j + 1
    · rw [if_pos e2] at hv; cases hv; omega
    · rw [if_neg e2] at hv
      exact h.small b x v (by omega) hbi hx hv
theorem Ins.done {m : List Int} {i j : Nat} (h : Ins m i j) (hj : j = 0 ∨ ∃ x y, m[j - 1]? = some y ∧ m[j]? = some x ∧ y ≤ x) : ∀ a b u v, a < b → b ≤ i → m[a]? = some u → m[b]? = some v → u ≤ v := by
  intro a b u v hab hbi hu hv
  by_cases ea : a = j
  · subst ea; exact h.small b u v hab hbi hu hv
  · by_cases eb : b = j
    · subst eb
      rcases hj with h0 | ⟨x, y, h1, h2, h3⟩
      · omega
      · rw [hv] at h2; cases h2
        by_cases e : a = b - 1
        · subst e; rw [hu] at h1; cases h1; exact h3
        · exact Int.le_trans (h.rest a (b - 1) u y (by omega) (by omega) ea (by omega) hu h1) h3
    · exact h.rest a b u v hab hbi ea eb hu hv
theorem sorted_of {m : List Int} {n : Nat} (hn : m.length ≤ n) (h : ∀ a b u v, a < b → b < n → m[a]? = some u → m[b]? = some v → u ≤ v) : m.Pairwise (· ≤ ·) := by
  rw [List.pairwise_iff_getElem]
  intro a b ha hb hab
  exact h a b _ _ hab (by omega) (List.getElem?_eq_getElem ha) (List.getElem?_eq_getElem hb)
end Go.TM
namespace Go.Proofs.YtldamlcehbdkdaaDoor.Tre
open Go Go.TM Go.Proofs Go.TM.Tr
attribute [local irreducible] T.wp CV FWK
theorem c2111 {h : LH} (x y : Int) : Pu Tryd.prog 146 #[.int .i64 x, .int .i64 y] h (.bool (decide (x < y))) := by
  refine w2111 _ _ X0_ok ?_
  unfold n2111
  refine t_pu (c109 _) ?_
  refine gZ ?_
  refine t_cond (fun e => by cases e) (fun _ => ?_)
  exact t_ret ⟨rfl, rfl⟩
set_option maxRecDepth 10000 in
theorem c2105 {h : LH} {r c : Nat} {el : TypeId} : ∀ {cs : Array Value} {l : List Int}, Reads cs l → l.length ≤ 12 →
    FW X0 Tryd.prog 140 #[.slice (some ⟨r, 0, none⟩) l.length c, .int .i64 0, .int .i64 (l.length : Int)] { h with get := h.get.upd r (true, .cells cs el (0, 0)) } fun v h' => v = .tuple #[] ∧
      ∃ cs' l', cs'.size = cs.size ∧ Reads cs' l' ∧ l'.Perm l ∧ l'.Pairwise (· ≤ ·) ∧ h' = { h with get := h.get.upd r (true, .cells cs' el (0, 0)) } := by
  intro cs l hr hl
  have hcell : ∀ {cs : Array Value} {m : List Int} {j : Nat} {y : Int}, Reads cs m → m[j]? = some y → Cells.cell? (h.get.upd r (true, .cells cs el (0, 0))) (Addr.add ⟨r, 0, none⟩ ((j : Int).toNat * 1)) = some (.int .i64 y) := by
    intro cs m j y hm hy
    rw [add_plain]
    have e : 0 + (j : Int).toNat * 1 = j := by simp
    rw [e]
    exact cell_upd (hm j y hy)
  refine w2105 _ _ _ _ _ X0_ok ?_
  unfold n2105
  have hw0 : IntKind.wrap .i64 ((0 : Int) + 1) = ((1 : Nat) : Int) := by rw [wrap_id (by omega) (by omega)]; rfl
  rw [hw0]
  refine t_loop (fun mm vs h' => ∃ (i : Nat) (cs' : Array Value) (m : List Int), vs = [.int .i64 i] ∧ mm = l.length + 1 - i ∧ 1 ≤ i ∧ i ≤ l.length + 1 ∧ h' = { h with get := h.get.upd r (true, .cells cs' el (0, 0)) } ∧ cs'.size = cs.size ∧ Reads cs' m ∧ m.Perm l ∧ ∀ a b u v, a < b → b < i → m[a]? = some u → m[b]? = some v → u ≤ v)
    ⟨1, cs, l, rfl, rfl, Nat.le_refl _, by omega, rfl, rfl, hr, List.Perm.refl _, fun a b u v hab hb => by omega⟩ ?_
  rintro Y mm vs _ hY ⟨i, cs1, m1, rfl, rfl, hi1, hi2, rfl, hsz1, hr1, hp1, hso1⟩
  refine gZ ?_
  refine t_if (fun e1 => ?_) (fun e1 => ?_)
  · have hlen1 := hp1.length_eq
    refine t_loop (fun mm vs h' => ∃ (j : Nat) (cs' : Array Value) (m : List Int), vs = [.int .i64 j] ∧ j = mm ∧ j ≤ i ∧ h' = { h with get := h.get.upd r (true, .cells cs' el (0, 0)) } ∧ cs'.size = cs.size ∧ Reads cs' m ∧ m.Perm l ∧ Ins m i j)
      ⟨i, cs1, m1, rfl, rfl, Nat.le_refl _, rfl, hsz1, hr1, hp1, fun a b u v hab hbi ha hb hu hv => hso1 a b u v hab (by omega) hu hv, fun b u v h1 h2 => by omega⟩ ?_
    rintro Y2 mm vs _ hY2 ⟨j, cs2, m2, rfl, rfl, hj, rfl, hsz2, hr2, hp2, hins⟩
    have hlen2 := hp2.length_eq
    have fin : (∀ a b u v, a < b → b ≤ i → m2[a]? = some u → m2[b]? = some v → u ≤ v) → Y [.int .i64 (IntKind.wrap .i64 ((i : Int) + 1))] { h with get := h.get.upd r (true, .cells cs2 el (0, 0)) } := by
      intro hso
      refine hY (l.length + 1 - (i + 1)) _ _ (by omega) ⟨i + 1, cs2, m2, ?_, rfl, by omega, by omega, rfl, hsz2, hr2, hp2, fun a b u v hab hb => hso a b u v hab (by omega)⟩
      rw [wrap_id (by omega) (by omega)]; rfl
    refine gZ ?_
    refine t_blk (fun vs h' => vs = [] ∧ h' = { h with get := h.get.upd r (true, .cells cs2 el (0, 0)) } ∧ ∃ (j' : Nat) (x y : Int), j = j' + 1 ∧ m2[j']? = some y ∧ m2[j' + 1]? = some x ∧ x < y) ?_ ?_
    · refine t_if (fun e2 => ?_) (fun e2 => ?_)
      · obtain ⟨j', rfl⟩ : ∃ j', j = j' + 1 := ⟨j - 1, by omega⟩
        obtain ⟨y, hy⟩ : ∃ y, m2[j']? = some y := ⟨m2[j']'(by omega), List.getElem?_eq_getElem (by omega)⟩
        obtain ⟨x, hx⟩ : ∃ x, m2[j' + 1]? = some x := ⟨m2[j' + 1]'(by omega), List.getElem?_eq_getElem (by omega)⟩
        have hw : IntKind.wrap .i64 (((j' + 1 : Nat) : Int) - 1) = (j' : Int) := by rw [wrap_id (by omega) (by omega)]; omega
        rw [hw]
        have g1 := hcell hr2 hx
        have g2 := hcell hr2 hy
        refine gT (by omega) (gS2 rfl (gL0 g1 (gT (by omega) (gS2 rfl (gL0 g2 ?_)))))
        refine t_pu (c2111 _ _) ?_
        refine gZ ?_
        refine t_cond (fun e3 => ?_) (fun e3 => ?_)
        · exact t_again ⟨rfl, rfl, j', x, y, rfl, hy, hx, by simpa using e3⟩
        · refine gR ?_
          refine t_cond (fun _ => ?_) (fun e => by cases e)
          refine gZ ?_
          have e3 : ¬ x < y := by simpa using e3
          exact t_again (fin (hins.done (.inr ⟨x, y, by simpa using hy, hx, by omega⟩)))
      · refine gZ ?_
        refine t_cond (fun _ => ?_) (fun e => by cases e)
        refine gZ ?_
        exact t_again (fin (hins.done (.inl (by omega))))
    · rintro vs _ ⟨rfl, rfl, j', x, y, rfl, hy, hx, hlt⟩
      have hw : IntKind.wrap .i64 (((j' + 1 : Nat) : Int) - 1) = (j' : Int) := by rw [wrap_id (by omega) (by omega)]; omega
      have g1 := hcell hr2 hx
      have g2 := hcell hr2 hy
      have hjs : j' + 1 < cs2.size := (Array.getElem?_eq_some_iff.1 (hr2 _ _ hx)).1
      rw [hw]
      refine gZ ?_
      refine t_storeU (o := j' + 1) (by rw [add_plain, add_plain]; simp) rfl hjs ?_
      refine gZ ?_
      refine t_storeU (o := j') (by rw [add_plain, add_plain]; simp) rfl (by simp; omega) ?_
      refine t_again (hY2 j' _ _ (by omega) ⟨j', _, (m2.set (j' + 1) y).set j' x, rfl, rfl, by omega, rfl, by simp [hsz2], ?_, (swap_perm m2 j' x y hy hx).trans hp2, hins.swap (by omega) hy hx hlt⟩)
      intro a z hz
      rw [List.getElem?_set, List.getElem?_set] at hz
      by_cases e4 : a = j'
      · subst e4
        rw [Array.getElem?_setIfInBounds_self_of_lt (by simp; omega)]
        simp at hz
        rw [hz.2]
      · rw [Array.getElem?_setIfInBounds_ne (Ne.symm e4)]
        rw [if_neg (Ne.symm e4)] at hz
        by_cases e5 : a = j' + 1
        · subst e5
          rw [Array.getElem?_setIfInBounds_self_of_lt (by omega)]
          simp at hz
          rw [hz.2]
        · rw [Array.getElem?_setIfInBounds_ne (Ne.symm e5)]
          rw [if_neg (Ne.symm e5)] at hz
          exact hr2 a z hz
  · refine gZ ?_
    refine t_ret ⟨rfl, cs1, m1, hsz1, hr1, hp1, sorted_of (n := i) (by rw [hp1.length_eq]; omega) hso1, rfl⟩
theorem c2101 {h : LH} {r c : Nat} {el : TypeId} {cs : Array Value} {l : List Int} (hr : Reads cs l) (hl : l.length ≤ 12) (lim : Int) :
    FW X0 Tryd.prog 138 #[.slice (some ⟨r, 0, none⟩) l.length c, .int .i64 0, .int .i64 (l.length : Int), .int .i64 lim] { h with get := h.get.upd r (true, .cells cs el (0, 0)) } fun v h' => v = .tuple #[] ∧
      ∃ cs' l', cs'.size = cs.size ∧ Reads cs' l' ∧ l'.Perm l ∧ l'.Pairwise (· ≤ ·) ∧ h' = { h with get := h.get.upd r (true, .cells cs' el (0, 0)) } := by
  refine w2101 _ _ _ _ _ _ X0_ok ?_
  unfold n2101
  refine t_loop (fun mm vs h' => mm = 0 ∧ vs = [.int .i64 0, .int .i64 (l.length : Int), .int .i64 lim, .bool true, .bool true] ∧ h' = { h with get := h.get.upd r (true, .cells cs el (0, 0)) }) ⟨rfl, rfl, rfl⟩ ?_
  rintro Y mm vs _ hY ⟨rfl, rfl, rfl⟩
  refine gZ ?_
  have hw : IntKind.wrap .i64 ((l.length : Int) - 0) = (l.length : Int) := by rw [wrap_id (by omega) (by omega)]; omega
  rw [hw]
  refine t_if (fun e => ?_) (fun e => absurd (by omega) e)
  refine t_call (c2105 hr hl) ?_
  rintro _ h2 ⟨rfl, hq⟩
  refine gZ ?_
  exact t_ret ⟨rfl, hq⟩
set_option maxRecDepth 100000 in
theorem c2115 {h : LH} {x : Nat} (hx : x < 256) : FW X0 Tryd.prog 150 #[.int .u64 (x : Int)] h fun v h' => h' = h ∧ ∃ z, v = .int .i64 z := by
  refine w2115 _ X0_ok ?_
  unfold n2115
  refine t_blk (fun vs h' => vs = [.int .u64 (x : Int), .int .i64 0] ∧ h = h') ?_ ?_
  · refine t_if (fun e => by omega) (fun e => ?_)
    exact t_again ⟨rfl, rfl⟩
  rintro vs _ ⟨rfl, rfl⟩
  refine gZ ?_
  refine t_blk (fun vs h' => vs = [.int .u64 (x : Int), .int .i64 0] ∧ h = h') ?_ ?_
  · refine t_if (fun e => by omega) (fun e => ?_)
    exact t_again ⟨rfl, rfl⟩
  rintro vs _ ⟨rfl, rfl⟩
  refine gZ ?_
  refine t_if (fun e => by omega) (fun e => ?_)
  have hw : IntKind.wrap .u8 (x : Int) = (x : Int) := by
    have e1 : (2 ^ IntKind.u8.bits : Int) = 256 := rfl
    simp only [IntKind.wrap, e1, show IntKind.u8.signed = false from rfl, Bool.false_and, Bool.false_eq_true, if_false]
    omega
  rw [hw]
  refine t_indexStr (by kernel_rfl) (by kernel_rfl) hx fun b => ?_
  refine gZ ?_
  exact t_ret ⟨rfl, _, rfl⟩
theorem c2102 {h : LH} {x : Nat} (hx : x < 256) : FW X0 Tryd.prog 139 #[.int .u64 (x : Int)] h fun v h' => h' = h ∧ ∃ z, v = .int .i64 z := by
  refine w2102 _ X0_ok ?_
  unfold n2102
  refine t_call (c2115 hx) ?_
  rintro _ _ ⟨rfl, z, rfl⟩
  refine gZ ?_
  exact t_ret ⟨rfl, _, rfl⟩
theorem c2092 {h : LH} {r c : Nat} {el : TypeId} {cs : Array Value} {l : List Int} (hr : Reads cs l) (hl : l.length ≤ 12) :
    FW X0 Tryd.prog 130 #[.slice (some ⟨r, 0, none⟩) l.length c] { h with get := h.get.upd r (true, .cells cs el (0, 0)) } fun v h' => v = .tuple #[] ∧
      ∃ cs' l', cs'.size = cs.size ∧ Reads cs' l' ∧ l'.Perm l ∧ l'.Pairwise (· ≤ ·) ∧ h' = { h with get := h.get.upd r (true, .cells cs' el (0, 0)) } := by
  refine w2092 _ _ _ X0_ok ?_
  unfold n2092
  have hw : IntKind.wrap .u64 (l.length : Int) = (l.length : Int) := by
    have e1 : (2 ^ IntKind.u64.bits : Int) = 18446744073709551616 := rfl
    simp only [IntKind.wrap, e1, show IntKind.u64.signed = false from rfl, Bool.false_and, Bool.false_eq_true, if_false]
    omega
  rw [hw]
  refine t_call (c2102 (by omega)) ?_
  rintro _ _ ⟨rfl, z, rfl⟩
  refine gZ ?_
  refine t_call (c2101 hr hl z) ?_
  rintro _ h2 ⟨rfl, hq⟩
  refine gZ ?_
  exact t_ret ⟨rfl, hq⟩
end Go.Proofs.YtldamlcehbdkdaaDoor.Tre
end

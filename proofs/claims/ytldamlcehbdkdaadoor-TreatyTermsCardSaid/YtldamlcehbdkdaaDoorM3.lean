/- Contracts and laws for the proof, joined by a program. No condition. -/
import Derived.Test.YtldamlcehbdkdaaDoorM2
set_option linter.all false
section
namespace Go.TM
open Go Go.Conc
variable {P : Program} {E : Halt → Cells → Prop} {h : Cells}
theorem lwp_newRow {Q : Addr → Cells → Prop} {el : TypeId} {cells : Array Value} (hq : ∀ r, h r = none → Q ⟨r, 0, none⟩ (h.upd r (true, .cells cells el (0, 0)))) : Sem.lwp P (newRow el cells) Q E h := fun r hr => hq r hr
theorem lwp_buildSlice {Q : Value → Cells → Prop} {t el : TypeId} {n : Nat} {parts : Array (Nat × Value)} {inf : TypeInfo} {z : Value} {cells : Array Value} (hu : P.underlying t = some (.slice el)) (hi : P.info? el = some inf) (hz : inf.zero = some z) (hn : n * inf.size ≤ 2 ^ 24) (hpos : n * inf.size ≠ 0)
    (hf : Instr.fill (fun i => some (i * inf.size, inf.size)) ((Array.range (n * inf.size)).map (z.cells[· % z.cells.size]!)) parts.toList = some cells) (hq : ∀ r, h r = none → Q (.slice (some ⟨r, 0, none⟩) n n) (h.upd r (true, .cells cells el (0, 0)))) : Sem.lwp P (Instr.buildSlice t n parts) Q E h := by
  unfold Instr.buildSlice
  rw [lwp_bind, lwp_underlying hu]
  simp only []
  simp only [lwp_bind, lwp_sizeOf hi, if_neg (Nat.not_lt.2 hn), lwp_pure, if_neg hpos, lwp_zeroValue hi hz, hf]
  exact lwp_newRow hq
def OwnRow (el : TypeId) (k : Nat) (h : Cells) (p : Option Addr) (n c : Nat) (vs : List Value) : Prop :=
  vs.length = n * k ∧ ((p = none ∧ n = 0 ∧ c = 0) ∨ ∃ (r : Nat) (cs : Array Value), p = some ⟨r, 0, none⟩ ∧ h r = some (true, .cells cs el (0, 0)) ∧ cs.size = c * k ∧ n ≤ c ∧ ∀ (j : Nat) (v : Value), vs[j]? = some v → cs[j]? = some v)
theorem OwnRow.nil {el : TypeId} {k : Nat} : OwnRow el k h none 0 0 [] := ⟨by simp, .inl ⟨rfl, rfl, rfl⟩⟩
def KeptBut (p : Option Addr) (h h' : Cells) : Prop := ∀ r x, h r = some x → (∀ a, p = some a → a.block ≠ r) → h' r = some x
theorem growBy_le (N : Nat) : ∀ (rounds c : Nat), c ≤ 2 * N + 400 → Builtin.growBy N rounds c ≤ 2 * N + 400 := by
  intro rounds
  induction rounds with
  | zero => intro c hc; exact hc
  | succ k ih =>
    intro c hc
    unfold Builtin.growBy
    split
    · exact hc
    · exact ih _ (by omega)
theorem nextslicecap_le {N c : Nat} (hc : c < N) : Builtin.nextslicecap N c ≤ 2 * N + 400 := by
  unfold Builtin.nextslicecap
  split
  · omega
  · split
    · omega
    · exact growBy_le N 4 c (by omega)
theorem setMany_get {vs : List Value} {cs : Array Value} {o : Nat} (ho : o + vs.length ≤ cs.size) (i : Nat) : (setMany cs o vs)[i]? = if o ≤ i ∧ i < o + vs.length then vs[i - o]? else cs[i]? := get_setMany vs cs o ho i
theorem lwp_loads {Q : Array Value → Cells → Prop} {l : List Value} {a : Addr} {n : Nat} (hn : l.length = n) (hc : ∀ (t : Nat) v, l[t]? = some v → h.cell? (a.add t) = some v) (hq : Q l.toArray h) : Sem.lwp P (loadCells a n) Q E h := by
  unfold loadCells
  subst hn
  refine lwp_loadCells l a 0 #[] h (fun t v ht => by rw [Nat.zero_add]; exact hc t v ht) ?_
  rw [Array.empty_append]; exact hq
theorem lwp_append {Q : Value → Cells → Prop} {ts : Array TypeId} {ty sT xT el xe : TypeId} {inf : TypeInfo} {z : Value} {p : Option Addr} {n c m mc : Nat} {b : Addr} {vs ws : List Value} (h0 : ts[0]? = some sT) (h1 : ts[1]? = some xT) (hu : P.underlying sT = some (.slice el)) (hx : P.underlying xT = some (.slice xe))
    (hi : P.info? el = some inf) (hz : inf.zero = some z) (hsz : z.cells.size = inf.size) (hb : inf.bytes ≤ 1024) (hnm : n + m ≤ 2 ^ 30) (own : OwnRow el inf.size h p n c vs) (hl : ws.length = m * inf.size) (hc : ∀ (j : Nat) v, ws[j]? = some v → h.cell? (b.add j) = some v) (one : ∀ v ∈ ws, isOne v = true) (hm : 0 < m)
    (hq : ∀ p' c' h', OwnRow el inf.size h' p' (n + m) c' (vs ++ ws) → KeptBut p h h' → (p' = p ∨ ∃ r, p' = some ⟨r, 0, none⟩ ∧ h r = none) → Q (.slice p' (n + m) c') h') : Sem.lwp P (Builtin.append_ ts ty #[.slice p n c, .slice (some b) m mc]) Q E h := by
  unfold Builtin.append_
  rw [h0, h1]
  simp only [List.getElem?_toArray, List.getElem?_cons_zero, List.getElem?_cons_succ]
  simp only [lwp_bind, lwp_underlying hu, lwp_sizeOf hi, lwp_underlying hx, lwp_pure, Bool.false_eq_true, if_false, Bool.not_false, if_true, Builtin.lenOf]
  obtain ⟨hvl, hown⟩ := own
  by_cases hroom : n + m ≤ c
  · simp only [if_pos hroom, lwp_bind, Builtin.firstCells]
    refine lwp_loads (l := ws) hl hc ?_
    rcases hown with ⟨rfl, rfl, rfl⟩ | ⟨r, cs, rfl, hr, hcs, hnc, hv⟩
    · omega
    · simp only []
      have hle : n * inf.size + ws.length ≤ cs.size := by rw [hl, hcs, ← Nat.add_mul]; exact Nat.mul_le_mul_right _ hroom
      have ha : Addr.add ⟨r, 0, none⟩ (n * inf.size) = ⟨r, n * inf.size, none⟩ := by unfold Addr.add; split <;> simp_all
      rw [ha]
      rw [lwp_bind]
      refine lwp_storeCells ws 0 h r (n * inf.size) cs el hr (by omega) one ?_
      rw [lwp_pure]
      refine hq _ _ _ ⟨by simp [hvl, hl, Nat.add_mul], .inr ⟨r, _, rfl, Cells.upd_self _ _ _, ?_, hroom, ?_⟩⟩ ?_ (.inl rfl)
      · rw [size_setMany]; exact hcs
      · intro j v hj
        rw [setMany_get (by omega)]
        by_cases hlt : j < vs.length
        · rw [if_neg (by omega)]
          rw [List.getElem?_append_left hlt] at hj
          exact hv j v hj
        · rw [List.getElem?_append_right (by omega)] at hj
          have hj' : j - vs.length < ws.length := (List.getElem?_eq_some_iff.1 hj).1
          rw [if_pos (by omega), ← hj]; congr 1; omega
      · intro r' x hx' hne
        have : r' ≠ r := fun e => hne _ rfl e.symm
        rw [Cells.upd_ne _ _ this]; exact hx'
  · have hnot : ¬ ((((n + m : Nat) : Int) > IntKind.i64.max) ∧ ((false : Bool) = true ∨ inf.bytes = 0)) := by
      rintro ⟨h1, _⟩
      have e : IntKind.i64.max = 9223372036854775807 := rfl
      rw [e] at h1; omega
    have hcap := nextslicecap_le (Nat.lt_of_not_le hroom)
    have hbytes : ¬ (Builtin.nextslicecap (n + m) c * inf.bytes > 2 ^ 48) := by
      have := Nat.mul_le_mul hcap hb
      have h2 : (2 * (n + m) + 400) * 1024 ≤ (2 * 2 ^ 30 + 400) * 1024 := Nat.mul_le_mul_right _ (by omega)
      have : (2 * 2 ^ 30 + 400) * 1024 ≤ 2 ^ 48 := by decide
      omega
    have hnot' : ¬ ((((n + m : Nat) : Int) > IntKind.i64.max) ∧ (False ∨ inf.bytes = 0)) := fun h => hnot ⟨h.1, h.2.imp_left False.elim⟩
    simp only [if_neg hroom, lwp_bind, lwp_typeInfo hi, if_neg hnot', if_neg hbytes, lwp_pure]
    have hch : ∀ {K : Nat → Cells → Prop}, (∀ a, n + m ≤ a → K a h) → Sem.lwp P (choose (Question.appendCap (n + m) c el)) K E h := by
      intro K hK
      show (if _ then _ else _)
      split
      · rename_i hf; simp [Question.forced] at hf
      · intro t; exact hK _ (Nat.le_add_right _ _)
    refine hch fun a ha => ?_
    have hroom' : ∀ {K : Unit → Cells → Prop}, K () h → Sem.lwp P (askRoom (a * inf.bytes)) K E h := by
      intro K hK
      unfold askRoom
      split
      · exact ⟨rfl, hK⟩
      · exact hK
    refine hroom' ?_
    have hold : ∀ {K : Array Value → Cells → Prop}, (∀ old : Array Value, old.toList = vs → K old h) → Sem.lwp P (Builtin.firstCells inf.size n (Value.slice p n c)) K E h := by
      intro K hK
      rcases hown with ⟨rfl, rfl, rfl⟩ | ⟨r, cs, rfl, hr, hcs, hnc, hv⟩
      · have : vs = [] := List.eq_nil_of_length_eq_zero (by rw [hvl]; simp)
        simp only [Builtin.firstCells, lwp_pure]
        exact hK #[] (by rw [this])
      · simp only [Builtin.firstCells]
        refine lwp_loads (l := vs) hvl (fun j v hj => ?_) (hK _ rfl)
        have e : Addr.add ⟨r, 0, none⟩ j = ⟨r, j, none⟩ := by unfold Addr.add; split <;> simp_all
        rw [e]
        simp only [Cells.cell?, hr, Option.isSome_none, Bool.false_eq_true, if_false]
        exact hv j v hj
    refine hold fun old hold => ?_
    simp only [Builtin.firstCells]
    refine lwp_loads (l := ws) hl hc ?_
    simp only [lwp_zeroValue hi hz]
    refine lwp_newRow fun r hr => ?_
    have hzs : (Builtin.zeroCells z.cells (a - (n + m))).size = (a - (n + m)) * inf.size := by simp [Builtin.zeroCells, hsz]
    refine hq _ _ _ ⟨by simp [hvl, hl, Nat.add_mul], .inr ⟨r, _, rfl, Cells.upd_self _ _ _, ?_, ha, ?_⟩⟩ ?_ (.inr ⟨r, rfl, hr⟩)
    · have e1 : old.size = n * inf.size := by rw [← Array.length_toList, hold, hvl]
      have e2 : (ws.toArray).size = m * inf.size := by simp [hl]
      simp only [Array.size_append, e1, e2, hzs]
      rw [← Nat.add_mul, ← Nat.add_mul]; congr 1; omega
    · intro j v hj
      have hlen : j < (vs ++ ws).length := (List.getElem?_eq_some_iff.1 hj).1
      rw [← Array.getElem?_toList, Array.toList_append, Array.toList_append, hold, List.getElem?_append_left (by simpa using hlen)]
      exact hj
    · intro r' x hx' _
      have : r' ≠ r := by rintro rfl; rw [hr] at hx'; cases hx'
      rw [Cells.upd_ne _ _ this]; exact hx'
theorem info_of {t : TypeId} {s b : Nat} {z : Option Value} (h : (P.info? t).map (fun i => (i.size, i.bytes, i.zero)) = some (s, b, z)) : ∃ i, P.info? t = some i ∧ i.size = s ∧ i.bytes = b ∧ i.zero = z := by
  cases hi : P.info? t with
  | none => rw [hi] at h; cases h
  | some i => rw [hi] at h; simp only [Option.map_some, Option.some.injEq, Prod.mk.injEq] at h; exact ⟨i, rfl, h.1, h.2.1, h.2.2⟩
theorem lwp_buildS {Q : Value → Cells → Prop} {t el : TypeId} {n s b : Nat} {parts : Array (Nat × Value)} {z : Value} {cells : Array Value} (hu : P.underlying t = some (.slice el)) (hi : (P.info? el).map (fun i => (i.size, i.bytes, i.zero)) = some (s, b, some z)) (hn : n * s ≤ 2 ^ 24) (hpos : n * s ≠ 0)
    (hf : Instr.fill (fun i => some (i * s, s)) ((Array.range (n * s)).map (z.cells[· % z.cells.size]!)) parts.toList = some cells) (hq : ∀ r, h r = none → Q (.slice (some ⟨r, 0, none⟩) n n) (h.upd r (true, .cells cells el (0, 0)))) : Sem.lwp P (Instr.buildSlice t n parts) Q E h := by
  obtain ⟨i, h1, h2, _, h4⟩ := info_of hi
  subst h2
  exact lwp_buildSlice hu h1 h4 hn hpos hf hq
theorem lwp_appendS {Q : Value → Cells → Prop} {ts : Array TypeId} {ty sT xT el xe : TypeId} {s by_ : Nat} {z : Value} {p : Option Addr} {n c m mc : Nat} {b : Addr} {vs ws : List Value} (h0 : ts[0]? = some sT) (h1 : ts[1]? = some xT) (hu : P.underlying sT = some (.slice el)) (hx : P.underlying xT = some (.slice xe))
    (hi : (P.info? el).map (fun i => (i.size, i.bytes, i.zero)) = some (s, by_, some z)) (hsz : z.cells.size = s) (hb : by_ ≤ 1024) (hnm : n + m ≤ 2 ^ 30) (own : OwnRow el s h p n c vs) (hl : ws.length = m * s) (hc : ∀ (j : Nat) v, ws[j]? = some v → h.cell? (b.add j) = some v) (one : ∀ v ∈ ws, isOne v = true) (hm : 0 < m)
    (hq : ∀ p' c' h', OwnRow el s h' p' (n + m) c' (vs ++ ws) → KeptBut p h h' → (p' = p ∨ ∃ r, p' = some ⟨r, 0, none⟩ ∧ h r = none) → Q (.slice p' (n + m) c') h') : Sem.lwp P (Builtin.append_ ts ty #[.slice p n c, .slice (some b) m mc]) Q E h := by
  obtain ⟨i, g1, g2, g3, g4⟩ := info_of hi
  subst g2; subst g3
  exact lwp_append h0 h1 hu hx g1 g4 hsz hb hnm own hl hc one hm hq
theorem LH.upd_le {h : LH} {r : Nat} {x : Bool × Obj} (hr : h.get r = none) : h.le { h with get := h.get.upd r x } := ⟨Cells.le_upd x hr, rfl, rfl, rfl⟩
theorem cell_upd {r i : Nat} {m : Bool} {cs : Array Value} {el : TypeId} {f : Nat × Nat} {v : Value} (hv : cs[i]? = some v) : (h.upd r (m, .cells cs el f)).cell? ⟨r, i, none⟩ = some v := by
  simp [Cells.cell?, Cells.upd_self, hv]
theorem add_plain (r o i : Nat) : Addr.add ⟨r, o, none⟩ i = ⟨r, o + i, none⟩ := by unfold Addr.add; split <;> simp_all
theorem t_build {X : XP} {Q : Leaf → LH → Prop} {h : LH} {k : Value → T} {t el : TypeId} {n s b : Nat} {parts : Array (Nat × Value)} {z : Value} {cells : Array Value} (hu : P.underlying t = some (.slice el)) (hi : (P.info? el).map (fun i => (i.size, i.bytes, i.zero)) = some (s, b, some z)) (hn : n * s ≤ 2 ^ 24) (hpos : n * s ≠ 0)
    (hf : Instr.fill (fun i => some (i * s, s)) ((Array.range (n * s)).map (z.cells[· % z.cells.size]!)) parts.toList = some cells)
    (hk : ∀ r, h.get r = none → (k (.slice (some ⟨r, 0, none⟩) n n)).wp X P Q { h with get := h.get.upd r (true, .cells cells el (0, 0)) }) : (T.sem false (Instr.buildSlice t n parts) k).wp X P Q h :=
  t_sem (A := fun v h' => ∃ r, h.get r = none ∧ v = .slice (some ⟨r, 0, none⟩) n n ∧ h' = h.get.upd r (true, .cells cells el (0, 0))) (lwp_buildS hu hi hn hpos hf fun r hr => ⟨r, hr, rfl, rfl⟩) (by rintro v h' ⟨r, hr, rfl, rfl⟩; exact hk r hr)
theorem t_append {X : XP} {Q : Leaf → LH → Prop} {h : LH} {k : Value → T} {ts : Array TypeId} {ty sT xT el xe : TypeId} {s by_ : Nat} {z : Value} {p : Option Addr} {n c m mc : Nat} {b : Addr} {vs ws : List Value} (h0 : ts[0]? = some sT) (h1 : ts[1]? = some xT) (hu : P.underlying sT = some (.slice el)) (hx : P.underlying xT = some (.slice xe))
    (hi : (P.info? el).map (fun i => (i.size, i.bytes, i.zero)) = some (s, by_, some z)) (hsz : z.cells.size = s) (hb : by_ ≤ 1024) (hnm : n + m ≤ 2 ^ 30) (own : OwnRow el s h.get p n c vs) (hl : ws.length = m * s) (hc : ∀ (j : Nat) v, ws[j]? = some v → h.get.cell? (b.add j) = some v) (one : ∀ v ∈ ws, isOne v = true) (hm : 0 < m)
    (hk : ∀ p' c' h', OwnRow el s h' p' (n + m) c' (vs ++ ws) → KeptBut p h.get h' → (p' = p ∨ ∃ r, p' = some ⟨r, 0, none⟩ ∧ h.get r = none) → (k (.slice p' (n + m) c')).wp X P Q { h with get := h' }) : (T.sem false (Builtin.append_ ts ty #[.slice p n c, .slice (some b) m mc]) k).wp X P Q h :=
  t_sem (A := fun v h' => ∃ p' c', v = .slice p' (n + m) c' ∧ OwnRow el s h' p' (n + m) c' (vs ++ ws) ∧ KeptBut p h.get h' ∧ (p' = p ∨ ∃ r, p' = some ⟨r, 0, none⟩ ∧ h.get r = none)) (lwp_appendS h0 h1 hu hx hi hsz hb hnm own hl hc one hm fun p' c' h' a b c => ⟨p', c', rfl, a, b, c⟩)
    (by rintro v h' ⟨p', c', rfl, a, b, c⟩; exact hk p' c' h' a b c)
end Go.TM
end
section
namespace Go.Proofs.YtldamlcehbdkdaaDoor
open Go Go.TM Go.Proofs
theorem inf31 : (Tryd.prog.info? 36).map (fun i => (i.size, i.bytes, i.zero)) = some (1, 8, some (.int .i64 0)) := by kernel_rfl
theorem und134 : Tryd.prog.underlying 123 = some (.slice 36) := by kernel_rfl
end Go.Proofs.YtldamlcehbdkdaaDoor
end
section
namespace Go.Proofs.YtldamlcehbdkdaaDoor
open Go Go.TM Go.Proofs
set_option linter.unusedVariables false
set_option maxRecDepth 100000
noncomputable def n35 (ap : Option Addr) (an ac : Nat) (bp : Option Addr) (bn bc : Nat) : T := bif (↑an : Int) != (↑bn : Int) then .leaf (.ret (.bool false)) else .loop [.bool false, .int .i64 0] (fun vs => .popB vs fun b vs => .popI .i64 vs fun n vs => .unNil vs (bif decide (n < (↑an : Int)) then .need (0 ≤ n ∧ n < (↑an : Int)) (.someA ap fun a => .loadI .i64 (Addr.add a (Int.toNat n * 1)) fun n_1 => .need (0 ≤ n ∧ n < (↑bn : Int)) (.someA bp fun a => .loadI .i64 (Addr.add a (Int.toNat n * 1)) fun n_2 => bif n_1 != n_2 then .leaf (.retn [.bool false, .int .i64 n]) else .leaf (.again [.bool b, .int .i64 (IntKind.wrap .i64 (n + 1))]))) else .leaf (.brk [.bool b, .int .i64 n]))) (fun vs => .popB vs fun b vs => .popI .i64 vs fun n vs => .unNil vs (.leaf (.ret (.bool true)))) (fun vs => .popB vs fun b vs => .popI .i64 vs fun n vs => .unNil vs (.leaf (.ret (.bool b)))) fun x x_1 => .fail
theorem t35 (ap : Option Addr) (an ac : Nat) (bp : Option Addr) (bn bc : Nat) : ftree ({ P := Tryd.prog, priv := [], loops := [{ id := 0, slots := [(4, .bool), (5, .int .i64)], ro := [], outs := [] }], joins := [] }) Tryd.f30 [.slice ap an ac, .slice bp bn bc] = n35 ap an ac bp bn bc := by kernel_rfl
theorem w35 (ap : Option Addr) (an ac : Nat) (bp : Option Addr) (bn bc : Nat) {X : XP} (hX : XOK X) {h : LH} {A : Value → LH → Prop} (hw : (n35 ap an ac bp bn bc).wp X Tryd.prog (retQ A) h) : FWK X Tryd.prog .normal 30 #[.slice ap an ac, .slice bp bn bc] h A := fwk_neat (t35 ap an ac bp bn bc) (by simp) (by kernel_rfl) (by kernel_rfl) hX hw
noncomputable def n49 (n : Int) (first : Int) (last : Int) : T := bif decide (first ≤ n) then .leaf (.ret (.bool (decide (n ≤ last)))) else .leaf (.ret (.bool false))
theorem t49 (n : Int) (first : Int) (last : Int) : ftree ({ P := Tryd.prog, priv := [], loops := [], joins := [] }) Tryd.f19 [.int .i64 n, .int .i64 first, .int .i64 last] = n49 n first last := by kernel_rfl
theorem w49 (n : Int) (first : Int) (last : Int) {X : XP} (hX : XOK X) {h : LH} {A : Value → LH → Prop} (hw : (n49 n first last).wp X Tryd.prog (retQ A) h) : FWK X Tryd.prog .normal 19 #[.int .i64 n, .int .i64 first, .int .i64 last] h A := fwk_neat (t49 n first last) (by simp) (by kernel_rfl) (by kernel_rfl) hX hw
noncomputable def n97 (s1p : Option Addr) (s1n s1c : Nat) (s2p : Option Addr) (s2n s2c : Nat) : T := .loop [.int .i64 0, .int .i64 0] (fun vs => .popI .i64 vs fun n vs => .popI .i64 vs fun n_1 vs => .unNil vs (bif decide (n_1 < (↑s1n : Int)) then .need (0 ≤ n_1 ∧ n_1 < (↑s1n : Int)) (.someA s1p fun a => .loadI .i64 (Addr.add a (Int.toNat n_1 * 1)) fun n_2 => bif decide (n_1 ≥ (↑s2n : Int)) then .leaf (.retn [.int .i64 1, .int .i64 n_1]) else .need (0 ≤ n_1 ∧ n_1 < (↑s2n : Int)) (.someA s2p fun a => .loadI .i64 (Addr.add a (Int.toNat n_1 * 1)) fun n_3 => .call false 124 #[.int .i64 n_2, .int .i64 n_3] fun v => .unI .i64 v fun n_4 => bif n_4 != 0 then .leaf (.retn [.int .i64 n_4, .int .i64 n_1]) else .leaf (.again [.int .i64 n, .int .i64 (IntKind.wrap .i64 (n_1 + 1))]))) else .leaf (.brk [.int .i64 n, .int .i64 n_1]))) (fun vs => .popI .i64 vs fun n vs => .popI .i64 vs fun n vs => .unNil vs (bif decide ((↑s1n : Int) < (↑s2n : Int)) then .leaf (.ret (.int .i64 (-1))) else .leaf (.ret (.int .i64 0)))) (fun vs => .popI .i64 vs fun n vs => .popI .i64 vs fun n_1 vs => .unNil vs (.leaf (.ret (.int .i64 n)))) fun x x_1 => .fail
theorem t97 (s1p : Option Addr) (s1n s1c : Nat) (s2p : Option Addr) (s2n s2c : Nat) : ftree ({ P := Tryd.prog, priv := [], loops := [{ id := 0, slots := [(4, .int .i64), (11, .int .i64)], ro := [], outs := [] }], joins := [] }) Tryd.f103 [.slice s1p s1n s1c, .slice s2p s2n s2c] = n97 s1p s1n s1c s2p s2n s2c := by kernel_rfl
theorem w97 (s1p : Option Addr) (s1n s1c : Nat) (s2p : Option Addr) (s2n s2c : Nat) {X : XP} (hX : XOK X) {h : LH} {A : Value → LH → Prop} (hw : (n97 s1p s1n s1c s2p s2n s2c).wp X Tryd.prog (retQ A) h) : FWK X Tryd.prog .normal 103 #[.slice s1p s1n s1c, .slice s2p s2n s2c] h A := fwk_neat (t97 s1p s1n s1c s2p s2n s2c) (by simp) (by kernel_rfl) (by kernel_rfl) hX hw
noncomputable def n100 (sp : Option Addr) (sn sc : Nat) (v : Int) : T := .call false 125 #[.slice sp sn sc, .int .i64 v] fun v => .unI .i64 v fun n => .leaf (.ret (.bool (decide (n ≥ 0))))
theorem t100 (sp : Option Addr) (sn sc : Nat) (v : Int) : ftree ({ P := Tryd.prog, priv := [], loops := [], joins := [] }) Tryd.f109 [.slice sp sn sc, .int .i64 v] = n100 sp sn sc v := by kernel_rfl
theorem w100 (sp : Option Addr) (sn sc : Nat) (v : Int) {X : XP} (hX : XOK X) {h : LH} {A : Value → LH → Prop} (hw : (n100 sp sn sc v).wp X Tryd.prog (retQ A) h) : FWK X Tryd.prog .normal 109 #[.slice sp sn sc, .int .i64 v] h A := fwk_neat (t100 sp sn sc v) (by simp) (by kernel_rfl) (by kernel_rfl) hX hw
noncomputable def n105 (x : Int) (y : Int) : T := .call false 135 #[.int .i64 x] fun v => .unB v fun b => .call false 135 #[.int .i64 y] fun v => .unB v fun b_1 => bif b then bif b_1 then .leaf (.ret (.int .i64 0)) else .leaf (.ret (.int .i64 (-1))) else bif b_1 then .leaf (.ret (.int .i64 1)) else bif decide (x < y) then .leaf (.ret (.int .i64 (-1))) else bif decide (x > y) then .leaf (.ret (.int .i64 1)) else .leaf (.ret (.int .i64 0))
theorem t105 (x : Int) (y : Int) : ftree ({ P := Tryd.prog, priv := [], loops := [], joins := [] }) Tryd.f124 [.int .i64 x, .int .i64 y] = n105 x y := by kernel_rfl
theorem w105 (x : Int) (y : Int) {X : XP} (hX : XOK X) {h : LH} {A : Value → LH → Prop} (hw : (n105 x y).wp X Tryd.prog (retQ A) h) : FWK X Tryd.prog .normal 124 #[.int .i64 x, .int .i64 y] h A := fwk_neat (t105 x y) (by simp) (by kernel_rfl) (by kernel_rfl) hX hw
noncomputable def n106 (sp : Option Addr) (sn sc : Nat) (v : Int) : T := .loop [.int .i64 0, .int .i64 0] (fun vs => .popI .i64 vs fun n vs => .popI .i64 vs fun n_1 vs => .unNil vs (bif decide (n_1 < (↑sn : Int)) then .need (0 ≤ n_1 ∧ n_1 < (↑sn : Int)) (.someA sp fun a => .loadI .i64 (Addr.add a (Int.toNat n_1 * 1)) fun n_2 => bif v == n_2 then .leaf (.retn [.int .i64 n_1, .int .i64 n_1]) else .leaf (.again [.int .i64 n, .int .i64 (IntKind.wrap .i64 (n_1 + 1))])) else .leaf (.brk [.int .i64 n, .int .i64 n_1]))) (fun vs => .popI .i64 vs fun n vs => .popI .i64 vs fun n vs => .unNil vs (.leaf (.ret (.int .i64 (-1))))) (fun vs => .popI .i64 vs fun n vs => .popI .i64 vs fun n_1 vs => .unNil vs (.leaf (.ret (.int .i64 n)))) fun x x_1 => .fail
theorem t106 (sp : Option Addr) (sn sc : Nat) (v : Int) : ftree ({ P := Tryd.prog, priv := [], loops := [{ id := 0, slots := [(4, .int .i64), (8, .int .i64)], ro := [], outs := [] }], joins := [] }) Tryd.f125 [.slice sp sn sc, .int .i64 v] = n106 sp sn sc v := by kernel_rfl
theorem w106 (sp : Option Addr) (sn sc : Nat) (v : Int) {X : XP} (hX : XOK X) {h : LH} {A : Value → LH → Prop} (hw : (n106 sp sn sc v).wp X Tryd.prog (retQ A) h) : FWK X Tryd.prog .normal 125 #[.slice sp sn sc, .int .i64 v] h A := fwk_neat (t106 sp sn sc v) (by simp) (by kernel_rfl) (by kernel_rfl) hX hw
noncomputable def n109 (x : Int) : T := .leaf (.ret (.bool (x != x)))
theorem t109 (x : Int) : ftree ({ P := Tryd.prog, priv := [], loops := [], joins := [] }) Tryd.f135 [.int .i64 x] = n109 x := by kernel_rfl
theorem w109 (x : Int) {X : XP} (hX : XOK X) {h : LH} {A : Value → LH → Prop} (hw : (n109 x).wp X Tryd.prog (retQ A) h) : FWK X Tryd.prog .normal 135 #[.int .i64 x] h A := fwk_neat (t109 x) (by simp) (by kernel_rfl) (by kernel_rfl) hX hw
end Go.Proofs.YtldamlcehbdkdaaDoor
end
section
namespace Go.Proofs.YtldamlcehbdkdaaDoor
open Go Go.TM Go.Proofs
set_option linter.unusedVariables false
set_option maxRecDepth 100000
noncomputable def n79 (sp : Option Addr) (sn sc : Nat) (f : Value) : T := .call false 107 #[.slice sp sn sc, f] fun v => .unI .i64 v fun n => .leaf (.ret (.bool (decide (n ≥ 0))))
theorem t79 (sp : Option Addr) (sn sc : Nat) (f : Value) : ftree ({ P := Tryd.prog, priv := [], loops := [], joins := [] }) Tryd.f73 [.slice sp sn sc, f] = n79 sp sn sc f := by kernel_rfl
theorem w79 (sp : Option Addr) (sn sc : Nat) (f : Value) {X : XP} (hX : XOK X) {h : LH} {A : Value → LH → Prop} (hw : (n79 sp sn sc f).wp X Tryd.prog (retQ A) h) : FWK X Tryd.prog .normal 73 #[.slice sp sn sc, f] h A := fwk_neat (t79 sp sn sc f) (by simp) (by kernel_rfl) (by kernel_rfl) hX hw
noncomputable def n98 (sp : Option Addr) (sn sc : Nat) (f : Value) : T := .loop [.int .i64 0, .int .i64 0] (fun vs => .popI .i64 vs fun n vs => .popI .i64 vs fun n_1 vs => .unNil vs (bif decide (n_1 < (↑sn : Int)) then .need (0 ≤ n_1 ∧ n_1 < (↑sn : Int)) (.someA sp fun a => .loadI .i64 (Addr.add (Addr.add a (Int.toNat n_1 * 2)) 0) fun n_2 => .loadI .i64 (Addr.add (Addr.add a (Int.toNat n_1 * 2)) 1) fun n_3 => .callv false f #[.agg #[.int .i64 n_2, .int .i64 n_3]] fun v => .unB v fun b => bif b then .leaf (.retn [.int .i64 n_1, .int .i64 n_1]) else .leaf (.again [.int .i64 n, .int .i64 (IntKind.wrap .i64 (n_1 + 1))])) else .leaf (.brk [.int .i64 n, .int .i64 n_1]))) (fun vs => .popI .i64 vs fun n vs => .popI .i64 vs fun n vs => .unNil vs (.leaf (.ret (.int .i64 (-1))))) (fun vs => .popI .i64 vs fun n vs => .popI .i64 vs fun n_1 vs => .unNil vs (.leaf (.ret (.int .i64 n)))) fun x x_1 => .fail
theorem t98 (sp : Option Addr) (sn sc : Nat) (f : Value) : ftree ({ P := Tryd.prog, priv := [], loops := [{ id := 0, slots := [(4, .int .i64), (8, .int .i64)], ro := [], outs := [] }], joins := [] }) Tryd.f107 [.slice sp sn sc, f] = n98 sp sn sc f := by kernel_rfl
theorem w98 (sp : Option Addr) (sn sc : Nat) (f : Value) {X : XP} (hX : XOK X) {h : LH} {A : Value → LH → Prop} (hw : (n98 sp sn sc f).wp X Tryd.prog (retQ A) h) : FWK X Tryd.prog .normal 107 #[.slice sp sn sc, f] h A := fwk_neat (t98 sp sn sc f) (by simp) (by kernel_rfl) (by kernel_rfl) hX hw
end Go.Proofs.YtldamlcehbdkdaaDoor
end
section
namespace Go.TM
open Go Go.Conc
variable {P : Program} {E : Halt → Cells → Prop} {h : Cells}
def isI64 (P : Program) (t : TypeId) : Bool := match P.underlying t with
  | some (.int .i64) => true
  | _ => false
def twoInts (P : Program) (t : TypeId) : Bool := match P.underlying t with
  | some (.struct fs) => (match fs.toList with
    | [a, b] => a.name != "_" && b.name != "_" && isI64 P a.type && isI64 P b.type && Nat.beq a.offset 0 && Nat.beq b.offset 1
    | _ => false) && !P.stoodInHeld t
  | _ => false
theorem isI64_und {t : TypeId} (ht : isI64 P t = true) : P.underlying t = some (.int .i64) := by
  unfold isI64 at ht
  split at ht
  · assumption
  · cases ht
theorem isI64_agg {t : TypeId} (ht : isI64 P t = true) : isAggT P t = false := by
  unfold isAggT; rw [isI64_und ht]
theorem twoInts_spec {t : TypeId} (ht : twoInts P t = true) : ∃ a b : Field, P.underlying t = some (.struct #[a, b]) ∧ a.name ≠ "_" ∧ b.name ≠ "_" ∧ isI64 P a.type = true ∧ isI64 P b.type = true ∧ a.offset = 0 ∧ b.offset = 1 ∧ P.stoodInHeld t = false := by
  unfold twoInts at ht
  split at ht
  · rename_i fs hu
    simp only [Bool.and_eq_true, Bool.not_eq_true'] at ht
    obtain ⟨h1, h2⟩ := ht
    split at h1
    · rename_i a b hfs
      simp only [Bool.and_eq_true, bne_iff_ne] at h1
      obtain ⟨⟨⟨⟨⟨h3, h4⟩, h5⟩, h6⟩, h7⟩, h8⟩ := h1
      have : fs = #[a, b] := by rw [← hfs]
      exact ⟨a, b, by rw [hu, this], h3, h4, h5, h6, nbeq_true h7, nbeq_true h8, h2⟩
    · cases h1
  · cases ht
theorem lwp_partI {Q : Value → Cells → Prop} {t : TypeId} {cs : Array Value} {o : Nat} {v : Value} (ht : isI64 P t = true) (hv : cs[o]? = some v) (hq : Q v h) : Sem.lwp P (part t cs o) Q E h := by
  unfold part
  rw [lwp_bind, lwp_isAgg_false (isI64_und ht) (isI64_agg ht)]
  simp only [Bool.false_eq_true, if_false, hv]
  exact hq
theorem lwp_equalI {Q : Bool → Cells → Prop} {t : TypeId} {d : Nat} {a b : Int} (ht : isI64 P t = true) (hq : Q (a == b) h) : Sem.lwp P (Op.equalIn (d + 1) t (.int .i64 a) (.int .i64 b)) Q E h := by
  unfold Op.equalIn
  rw [lwp_bind, lwp_underlying (isI64_und ht)]
  exact hq
theorem lwp_equal2 {Q : Bool → Cells → Prop} {t : TypeId} {a b c d : Int} (ht : twoInts P t = true) (hq : Q (decide (a = c ∧ b = d)) h) : Sem.lwp P (Op.equal t (.agg #[.int .i64 a, .int .i64 b]) (.agg #[.int .i64 c, .int .i64 d])) Q E h := by
  obtain ⟨f, g, hu, n1, n2, i1, i2, o1, o2, hs⟩ := twoInts_spec ht
  unfold Op.equal
  have hmd : Op.maxDepth = 9998 + 1 + 1 := rfl
  rw [hmd, Op.equalIn]
  rw [lwp_bind, lwp_underlying hu]
  simp only [lwp_bind, lwp_program, hs, Bool.false_eq_true, if_false, List.forIn_toArray, List.forIn_cons, List.forIn_nil, n1, n2, ne_eq, not_false_eq_true, if_true]
  refine lwp_partI i1 (v := .int .i64 a) (by rw [o1]; rfl) ?_
  refine lwp_partI i1 (v := .int .i64 c) (by rw [o1]; rfl) ?_
  refine lwp_equalI i1 ?_
  by_cases e1 : a = c
  · subst e1
    simp only [beq_self_eq_true, Bool.not_true, Bool.false_eq_true, if_false, lwp_pure, lwp_bind]
    refine lwp_partI i2 (v := .int .i64 b) (by rw [o2]; rfl) ?_
    refine lwp_partI i2 (v := .int .i64 d) (by rw [o2]; rfl) ?_
    refine lwp_equalI i2 ?_
    by_cases e2 : b = d
    · subst e2
      simpa [lwp_pure] using hq
    · have e3 : (b == d) = false := by simpa using e2
      simpa [lwp_pure, e2, e3] using hq
  · have e3 : (a == c) = false := by simpa using e1
    simpa [lwp_pure, e1, e3] using hq
def IsKey (P : Program) (kt : TypeId) (v : Value) : Prop := (isI64 P kt = true ∧ ∃ n, v = .int .i64 n) ∨ (twoInts P kt = true ∧ ∃ a b, v = .agg #[.int .i64 a, .int .i64 b])
theorem lwp_checkKey {Q : Unit → Cells → Prop} {e : Bool} {kt : TypeId} {v : Value} (hk : IsKey P kt v) (hq : Q () h) : Sem.lwp P (Instr.checkKey e 10000 kt v) Q E h := by
  have one : ∀ {Q : Unit → Cells → Prop} {d : Nat} {t : TypeId} {n : Int}, isI64 P t = true → Q () h → Sem.lwp P (Instr.checkKey e (d + 1) t (.int .i64 n)) Q E h := by
    intro Q d t n ht hq
    unfold Instr.checkKey
    rw [lwp_bind, lwp_underlying (isI64_und ht)]
    exact hq
  rcases hk with ⟨ht, n, rfl⟩ | ⟨ht, a, b, rfl⟩
  · exact one (d := 9999) ht hq
  · obtain ⟨f, g, hu, n1, n2, i1, i2, o1, o2, hs⟩ := twoInts_spec ht
    rw [show (10000 : Nat) = 9998 + 1 + 1 from rfl, Instr.checkKey]
    rw [lwp_bind, lwp_underlying hu]
    simp only [lwp_bind, List.forIn_toArray, List.forIn_cons, List.forIn_nil, n1, n2, ne_eq, not_false_eq_true, if_true, lwp_pure]
    refine lwp_partI i1 (v := .int .i64 a) (by rw [o1]; rfl) ?_
    refine one i1 ?_
    refine lwp_partI i2 (v := .int .i64 b) (by rw [o2]; rfl) ?_
    exact one i2 hq
theorem findNow_int {t : TypeId} {n : Int} : ∀ (es : List MapEntry) (i : Nat), (∀ e ∈ es, ∃ m, e.key = .int .i64 m) →
    (∃ j e, es[j]? = some e ∧ e.key = .int .i64 n ∧ Instr.findNow (.int .i64) (.int .i64 n) es i = some (some (i + j, e.val))) ∨ ((∀ e ∈ es, e.key ≠ .int .i64 n) ∧ Instr.findNow (.int .i64) (.int .i64 n) es i = some none) := by
  intro es
  induction es with
  | nil => intro i _; exact .inr ⟨fun e he => by simp at he, rfl⟩
  | cons e es ih =>
    intro i hes
    obtain ⟨m, hm⟩ := hes e (by simp)
    unfold Instr.findNow
    rw [hm]
    simp only [Instr.sameNow, if_true]
    by_cases hnm : n = m
    · subst hnm
      left
      refine ⟨0, e, rfl, hm, ?_⟩
      simp
    · have hb : (n == m) = false := by simpa using hnm
      rw [hb]
      simp only []
      rcases ih (i + 1) (fun e' he' => hes e' (by simp [he'])) with ⟨j, e', h1, h2, h3⟩ | ⟨h1, h2⟩
      · left
        exact ⟨j + 1, e', by simpa using h1, h2, by rw [h3]; congr 3; omega⟩
      · right
        refine ⟨fun e' he' => ?_, h2⟩
        rcases List.mem_cons.1 he' with rfl | he'
        · rw [hm]; intro hc; cases hc; exact hnm rfl
        · exact h1 e' he'
theorem lwp_findAsking {Q : Option (Nat × Value) → Cells → Prop} {kt : TypeId} {a b : Int} (ht : twoInts P kt = true) : ∀ (es : List MapEntry) (i : Nat), (∀ e ∈ es, ∃ c d, e.key = .agg #[.int .i64 c, .int .i64 d]) →
    (∀ j e, es[j]? = some e → e.key = .agg #[.int .i64 a, .int .i64 b] → Q (some (i + j, e.val)) h) → ((∀ e ∈ es, e.key ≠ .agg #[.int .i64 a, .int .i64 b]) → Q none h) → Sem.lwp P (Instr.findAsking kt (.agg #[.int .i64 a, .int .i64 b]) es i) Q E h := by
  intro es
  induction es with
  | nil => intro i _ _ h2; exact h2 fun e he => by simp at he
  | cons e es ih =>
    intro i hes h1 h2
    obtain ⟨c, d, hm⟩ := hes e (by simp)
    unfold Instr.findAsking
    rw [lwp_bind, hm]
    refine lwp_equal2 ht ?_
    by_cases hab : a = c ∧ b = d
    · obtain ⟨rfl, rfl⟩ := hab
      simp only [and_self, decide_true, if_true, lwp_pure]
      have := h1 0 e rfl hm
      simpa using this
    · simp only [hab, decide_false, Bool.false_eq_true, if_false]
      refine ih (i + 1) (fun e' he' => hes e' (by simp [he'])) (fun j e' he' hk => ?_) fun hno => h2 fun e' he' => ?_
      · have := h1 (j + 1) e' (by simpa using he') hk
        rw [show i + 1 + j = i + (j + 1) by omega]; exact this
      · rcases List.mem_cons.1 he' with rfl | he'
        · rw [hm]; intro hc
          simp only [Value.agg.injEq, Array.mk.injEq, List.cons.injEq, Value.int.injEq, and_true, true_and] at hc
          exact hab ⟨hc.1.symm, hc.2.symm⟩
        · exact hno e' he'
theorem lwp_findKey {Q : Option (Nat × Value) → Cells → Prop} {kt : TypeId} {k : Value} {es : List MapEntry} (hk : IsKey P kt k) (hes : ∀ e ∈ es, IsKey P kt e.key) (h1 : ∀ j e, es[j]? = some e → e.key = k → Q (some (j, e.val)) h) (h2 : (∀ e ∈ es, e.key ≠ k) → Q none h) : Sem.lwp P (Instr.findKey kt k es) Q E h := by
  unfold Instr.findKey
  rcases hk with ⟨ht, n, rfl⟩ | ⟨ht, a, b, rfl⟩
  · rw [lwp_bind, lwp_underlying (isI64_und ht)]
    have hes' : ∀ e ∈ es, ∃ m, e.key = .int .i64 m := by
      intro e he
      rcases hes e he with ⟨_, m, hm⟩ | ⟨ht', _⟩
      · exact ⟨m, hm⟩
      · obtain ⟨f, g, hu, _⟩ := twoInts_spec ht'
        rw [isI64_und ht] at hu; cases hu
    rcases findNow_int (t := kt) (n := n) es 0 hes' with ⟨j, e, g1, g2, g3⟩ | ⟨g1, g2⟩
    · rw [g3]
      simp only [lwp_pure]
      have := h1 j e g1 g2
      simpa using this
    · rw [g2]; exact h2 g1
  · obtain ⟨f, g, hu, _⟩ := twoInts_spec ht
    rw [lwp_bind, lwp_underlying hu]
    have hes' : ∀ e ∈ es, ∃ c d, e.key = .agg #[.int .i64 c, .int .i64 d] := by
      intro e he
      rcases hes e he with ⟨ht', _⟩ | ⟨_, c, d, hm⟩
      · rw [isI64_und ht'] at hu; cases hu
      · exact ⟨c, d, hm⟩
    cases es with
    | nil => exact h2 fun e he => by simp at he
    | cons e es =>
      obtain ⟨c, d, hm⟩ := hes' e (by simp)
      have : Instr.findNow (.struct #[f, g]) (.agg #[.int .i64 a, .int .i64 b]) (e :: es) 0 = none := by
        unfold Instr.findNow; rw [hm]; rfl
      rw [this]
      refine lwp_findAsking ht (e :: es) 0 hes' (fun j e' he' hk => ?_) h2
      have := h1 j e' he' hk
      simpa using this
theorem sameBits_key {kt : TypeId} {k : Value} (hk : IsKey P kt k) : Instr.sameBits 10000 k k = true := by
  rcases hk with ⟨_, n, rfl⟩ | ⟨_, a, b, rfl⟩
  · simp [Instr.sameBits]
  · rw [show (10000 : Nat) = 9999 + 1 from rfl]
    simp [Instr.sameBits]
variable {X : XP} {Q : Leaf → LH → Prop}
theorem t_makeMap {h : LH} {k : Value → T} {t : TypeId} (hk : ∀ r, h.get r = none → (k (.map (some r))).wp X P Q { h with get := h.get.upd r (true, .map #[] 0) }) : (T.sem false (Instr.makeMap t none) k).wp X P Q h := by
  refine t_sem (A := fun v h' => ∃ r, h.get r = none ∧ v = .map (some r) ∧ h' = h.get.upd r (true, .map #[] 0)) ?_ (by rintro v h' ⟨r, hr, rfl, rfl⟩; exact hk r hr)
  unfold Instr.makeMap
  rw [lwp_bind]
  intro r hr
  exact ⟨r, hr, rfl, rfl⟩
theorem t_ne2 {h : LH} {K : Value → T} {t : TypeId} {x y : Operand} {a b c d : Int} (ht : twoInts P t = true) (hg : P.eqGuardType P.depth t = false) (hk : (K (.bool (!decide (a = c ∧ b = d)))).wp X P Q h) :
    (T.sem false (Sem.bind (eqGuard .neq t x y (.agg #[.int .i64 a, .int .i64 b]) (.agg #[.int .i64 c, .int .i64 d])) fun _ => binOp .neq t (.agg #[.int .i64 a, .int .i64 b]) (.agg #[.int .i64 c, .int .i64 d])) K).wp X P Q h := by
  refine t_sem (A := fun w h' => w = .bool (!decide (a = c ∧ b = d)) ∧ h' = h.get) (Sem.lwp_bind _ _ ?_) (by rintro w h' ⟨rfl, rfl⟩; exact hk)
  unfold eqGuard
  simp only [Bool.not_true, Bool.false_eq_true, if_false, lwp_bind, lwp_program, hg, Bool.not_false, if_true, lwp_pure]
  unfold binOp
  rw [lwp_bind]
  exact lwp_equal2 ht ⟨rfl, rfl⟩
theorem Hands.g {v : Value} {h₀ : LH} {L : List (List Value)} (hH : Hands X P v h₀ L) : HandsG X P v h₀ (fun (i : Nat) xs j => L[i]? = some xs ∧ j = i + 1) (fun i => i = L.length) 0 := by
  intro y J E hJ hE hc h hle h0
  refine CV.mono (hH y J E hJ hE (fun i h xs hl hx hj => hc i h xs (i + 1) hl ⟨hx, rfl⟩ hj) h hle h0) ?_
  rintro b h' ⟨h1, h2 | h2⟩
  · exact ⟨h1, .inl ⟨_, rfl, h2⟩⟩
  · exact ⟨h1, .inr h2⟩
theorem LH.add_none (h : LH) : h.add (fun _ => none) = h := by
  unfold LH.add
  have : h.get.add (fun _ => none) = h.get := by funext b; unfold Cells.add; cases h.get b <;> rfl
  rw [this]
theorem HandsG.f {v : Value} {h₀ : LH} {S : Type} {nx : S → List Value → S → Prop} {fin : S → Prop} {s₀ : S} (hH : HandsG X P v h₀ nx fin s₀) : HandsF X P v h₀ (fun _ => none) nx fin s₀ := by
  intro y J E hJ hE hc h hle h0 _
  rw [LH.add_none]
  exact hH y J E hJ hE hc h hle h0
theorem t_eachF {h h₀ hm : LH} {k₀ : Cells} {v : Value} {init : List Value} {body : List Value → List Value → T} {kf kb kr : List Value → T} {ko : Nat → List Value → T} {S : Type} {nx : S → List Value → S → Prop} {fin : S → Prop} {s₀ : S} (μ : S → Nat) (hμ : ∀ s xs s', nx s xs s' → μ s' < μ s)
    (heq : h = hm.add k₀) (hdk : Disj hm.get k₀) (hle : h₀.le hm) (hH : HandsF X P v h₀ k₀ nx fin s₀)
    (I : S → List Value → LH → Prop) (h0 : I s₀ init hm)
    (hend : ∀ s vs h', fin s → h₀.le h' → I s vs h' → (kf vs).wp X P Q h')
    (hb : ∀ s xs s' vs h', nx s xs s' → h₀.le h' → I s vs h' → ∀ Y : List Value → LH → Prop, (∀ vs' h'', h₀.le h'' → I s' vs' h'' → Y vs' h'') →
      (body xs vs).wp X P (fun l h'' => h₀.le h'' ∧ l.go h'' Y (fun vs h' => (kb vs).wp X P Q h') (fun vs h' => (kr vs).wp X P Q h') (fun j vs h' => (ko j vs).wp X P Q h')) h') : (T.each v init body kf kb kr ko).wp X P Q h := by
  refine ⟨S, nx, fin, s₀, h₀, hm, k₀, heq, hdk, hle, hH, fun Y hY => ?_⟩
  have key : ∀ n s, μ s = n → ∀ vs h', h₀.le h' → I s vs h' → Y s vs h' := by
    intro n
    induction n using Nat.strongRecOn with
    | ind n ih =>
      intro s hs vs h' hl hi
      refine hY s vs h' hl (fun hf => hend s vs h' hf hl hi) fun xs s' hn => ?_
      exact hb s xs s' vs h' hn hl hi _ fun vs' h'' hl'' hi'' => ih (μ s') (hs ▸ hμ s xs s' hn) s' rfl vs' h'' hl'' hi''
  exact key _ s₀ rfl init hm hle h0
theorem t_eachG {h h₀ : LH} {v : Value} {init : List Value} {body : List Value → List Value → T} {kf kb kr : List Value → T} {ko : Nat → List Value → T} {S : Type} {nx : S → List Value → S → Prop} {fin : S → Prop} {s₀ : S} (μ : S → Nat) (hμ : ∀ s xs s', nx s xs s' → μ s' < μ s) (hle : h₀.le h) (hH : HandsG X P v h₀ nx fin s₀)
    (I : S → List Value → LH → Prop) (h0 : I s₀ init h)
    (hend : ∀ s vs h', fin s → h₀.le h' → I s vs h' → (kf vs).wp X P Q h')
    (hb : ∀ s xs s' vs h', nx s xs s' → h₀.le h' → I s vs h' → ∀ Y : List Value → LH → Prop, (∀ vs' h'', h₀.le h'' → I s' vs' h'' → Y vs' h'') →
      (body xs vs).wp X P (fun l h'' => h₀.le h'' ∧ l.go h'' Y (fun vs h' => (kb vs).wp X P Q h') (fun vs h' => (kr vs).wp X P Q h') (fun j vs h' => (ko j vs).wp X P Q h')) h') : (T.each v init body kf kb kr ko).wp X P Q h := by
  exact t_eachF μ hμ (hm := h) (k₀ := fun _ => none) (LH.add_none h).symm (fun _ => .inr rfl) hle (hH.f) I h0 hend hb
theorem t_each {h h₀ : LH} {v : Value} {init : List Value} {body : List Value → List Value → T} {kf kb kr : List Value → T} {ko : Nat → List Value → T} {L : List (List Value)} (hle : h₀.le h) (hH : Hands X P v h₀ L) (I : Nat → List Value → LH → Prop) (h0 : I 0 init h)
    (hend : ∀ vs h', h₀.le h' → I L.length vs h' → (kf vs).wp X P Q h')
    (hb : ∀ i xs vs h', L[i]? = some xs → h₀.le h' → I i vs h' → ∀ Y : List Value → LH → Prop, (∀ vs' h'', h₀.le h'' → I (i + 1) vs' h'' → Y vs' h'') →
      (body xs vs).wp X P (fun l h'' => h₀.le h'' ∧ l.go h'' Y (fun vs h' => (kb vs).wp X P Q h') (fun vs h' => (kr vs).wp X P Q h') (fun j vs h' => (ko j vs).wp X P Q h')) h') : (T.each v init body kf kb kr ko).wp X P Q h := by
  refine t_eachG (fun i => L.length - i) (fun i xs j hn => ?_) hle hH.g I h0 (fun s vs h' hf hl hi => hend vs h' hl (hf ▸ hi)) fun i xs j vs h' hn hl hi => ?_
  · have := (List.getElem?_eq_some_iff.1 hn.1).1
    have := hn.2
    omega
  · obtain ⟨h1, rfl⟩ := hn
    exact hb i xs vs h' h1 hl hi
end Go.TM
end
section
namespace Go.TM
open Go Go.Conc
variable {P : Program} {E : Halt → Cells → Prop} {h : Cells}
theorem boT_und {t : TypeId} (ht : isBoolT P t = true) : P.underlying t = some .bool := by
  unfold isBoolT at ht
  split at ht
  · assumption
  · cases ht
theorem boT_agg {t : TypeId} (ht : isBoolT P t = true) : isAggT P t = false := by
  unfold isAggT; rw [boT_und ht]
theorem lwp_partB {Q : Value → Cells → Prop} {t : TypeId} {cs : Array Value} {o : Nat} {v : Value} (ht : isBoolT P t = true) (hv : cs[o]? = some v) (hq : Q v h) : Sem.lwp P (part t cs o) Q E h := by
  unfold part
  rw [lwp_bind, lwp_isAgg_false (boT_und ht) (boT_agg ht)]
  simp only [Bool.false_eq_true, if_false, hv]
  exact hq
theorem lwp_equalB {Q : Bool → Cells → Prop} {t : TypeId} {d : Nat} {a b : Bool} (ht : isBoolT P t = true) (hq : Q (a == b) h) : Sem.lwp P (Op.equalIn (d + 1) t (.bool a) (.bool b)) Q E h := by
  unfold Op.equalIn
  rw [lwp_bind, lwp_underlying (boT_und ht)]
  exact hq
def twoBools (P : Program) (t : TypeId) : Bool := match P.underlying t with
  | some (.struct fs) => (match fs.toList with
    | [a, b] => a.name != "_" && b.name != "_" && isBoolT P a.type && isBoolT P b.type && Nat.beq a.offset 0 && Nat.beq b.offset 1
    | _ => false) && !P.stoodInHeld t
  | _ => false
theorem twoBools_spec {t : TypeId} (ht : twoBools P t = true) : ∃ a b : Field, P.underlying t = some (.struct #[a, b]) ∧ a.name ≠ "_" ∧ b.name ≠ "_" ∧ isBoolT P a.type = true ∧ isBoolT P b.type = true ∧ a.offset = 0 ∧ b.offset = 1 ∧ P.stoodInHeld t = false := by
  unfold twoBools at ht
  split at ht
  · rename_i fs hu
    simp only [Bool.and_eq_true, Bool.not_eq_true'] at ht
    obtain ⟨h1, h2⟩ := ht
    split at h1
    · rename_i a b hfs
      simp only [Bool.and_eq_true, bne_iff_ne] at h1
      obtain ⟨⟨⟨⟨⟨h3, h4⟩, h5⟩, h6⟩, h7⟩, h8⟩ := h1
      have : fs = #[a, b] := by rw [← hfs]
      exact ⟨a, b, by rw [hu, this], h3, h4, h5, h6, nbeq_true h7, nbeq_true h8, h2⟩
    · cases h1
  · cases ht
theorem lwp_equalBB {Q : Bool → Cells → Prop} {t : TypeId} {a b c d : Bool} (ht : twoBools P t = true) (hq : Q (decide (a = c ∧ b = d)) h) : Sem.lwp P (Op.equal t (.agg #[.bool a, .bool b]) (.agg #[.bool c, .bool d])) Q E h := by
  obtain ⟨f, g, hu, n1, n2, i1, i2, o1, o2, hs⟩ := twoBools_spec ht
  unfold Op.equal
  have hmd : Op.maxDepth = 9998 + 1 + 1 := rfl
  rw [hmd, Op.equalIn]
  rw [lwp_bind, lwp_underlying hu]
  simp only [lwp_bind, lwp_program, hs, Bool.false_eq_true, if_false, List.forIn_toArray, List.forIn_cons, List.forIn_nil, n1, n2, ne_eq, not_false_eq_true, if_true]
  refine lwp_partB i1 (v := .bool a) (by rw [o1]; rfl) ?_
  refine lwp_partB i1 (v := .bool c) (by rw [o1]; rfl) ?_
  refine lwp_equalB i1 ?_
  by_cases e1 : a = c
  · subst e1
    simp only [beq_self_eq_true, Bool.not_true, Bool.false_eq_true, if_false, lwp_pure, lwp_bind]
    refine lwp_partB i2 (v := .bool b) (by rw [o2]; rfl) ?_
    refine lwp_partB i2 (v := .bool d) (by rw [o2]; rfl) ?_
    refine lwp_equalB i2 ?_
    by_cases e2 : b = d
    · subst e2
      simpa [lwp_pure] using hq
    · have e3 : (b == d) = false := by simpa using e2
      simpa [lwp_pure, e2, e3] using hq
  · have e3 : (a == c) = false := by simpa using e1
    simpa [lwp_pure, e1, e3] using hq
theorem lwp_equalA5 {Q : Bool → Cells → Prop} {t el : TypeId} {s b : Nat} {z : Option Value} {a₀ a₁ a₂ a₃ a₄ b₀ b₁ b₂ b₃ b₄ : Bool} (hu : P.underlying t = some (.array 5 el)) (he : isBoolT P el = true) (hi : (P.info? el).map (fun i => (i.size, i.bytes, i.zero)) = some (1, b, z))
    (hq : Q (decide ([a₀, a₁, a₂, a₃, a₄] = [b₀, b₁, b₂, b₃, b₄])) h) : Sem.lwp P (Op.equal t (.agg #[.bool a₀, .bool a₁, .bool a₂, .bool a₃, .bool a₄]) (.agg #[.bool b₀, .bool b₁, .bool b₂, .bool b₃, .bool b₄])) Q E h := by
  obtain ⟨inf, g1, g2, _, _⟩ := info_of hi
  unfold Op.equal
  have hmd : Op.maxDepth = 9998 + 1 + 1 := rfl
  rw [hmd, Op.equalIn]
  rw [lwp_bind, lwp_underlying hu]
  simp only [lwp_bind, lwp_sizeOf g1, g2]
  simp only [Std.Legacy.Range.forIn_eq_forIn_range', show (List.range' 0 ([:5] : Std.Legacy.Range).size) = [0, 1, 2, 3, 4] by decide, List.forIn_cons, List.forIn_nil, lwp_bind]
  have step : ∀ (i : Nat) (x y : Bool) {K : Bool → Cells → Prop}, (#[Value.bool a₀, .bool a₁, .bool a₂, .bool a₃, .bool a₄])[i * 1]? = some (.bool x) → (#[Value.bool b₀, .bool b₁, .bool b₂, .bool b₃, .bool b₄])[i * 1]? = some (.bool y) → K (x == y) h →
      Sem.lwp P (part el #[Value.bool a₀, .bool a₁, .bool a₂, .bool a₃, .bool a₄] (i * 1)) (fun p h => Sem.lwp P (part el #[Value.bool b₀, .bool b₁, .bool b₂, .bool b₃, .bool b₄] (i * 1)) (fun q h => Sem.lwp P (Op.equalIn (9998 + 1) el p q) K E h) E h) E h := by
    intro i x y K h1 h2 hk
    refine lwp_partB he h1 (lwp_partB he h2 (lwp_equalB he hk))
  refine step 0 a₀ b₀ rfl rfl ?_
  by_cases e0 : a₀ = b₀
  · subst e0
    simp only [beq_self_eq_true, Bool.not_true, Bool.false_eq_true, if_false, lwp_pure, lwp_bind]
    refine step 1 a₁ b₁ rfl rfl ?_
    by_cases e1 : a₁ = b₁
    · subst e1
      simp only [beq_self_eq_true, Bool.not_true, Bool.false_eq_true, if_false, lwp_pure, lwp_bind]
      refine step 2 a₂ b₂ rfl rfl ?_
      by_cases e2 : a₂ = b₂
      · subst e2
        simp only [beq_self_eq_true, Bool.not_true, Bool.false_eq_true, if_false, lwp_pure, lwp_bind]
        refine step 3 a₃ b₃ rfl rfl ?_
        by_cases e3 : a₃ = b₃
        · subst e3
          simp only [beq_self_eq_true, Bool.not_true, Bool.false_eq_true, if_false, lwp_pure, lwp_bind]
          refine step 4 a₄ b₄ rfl rfl ?_
          by_cases e4 : a₄ = b₄
          · subst e4
            simpa [lwp_pure] using hq
          · have e' : (a₄ == b₄) = false := by simpa using e4
            simpa [lwp_pure, e4, e'] using hq
        · have e' : (a₃ == b₃) = false := by simpa using e3
          simpa [lwp_pure, e3, e'] using hq
      · have e' : (a₂ == b₂) = false := by simpa using e2
        simpa [lwp_pure, e2, e'] using hq
    · have e' : (a₁ == b₁) = false := by simpa using e1
      simpa [lwp_pure, e1, e'] using hq
  · have e' : (a₀ == b₀) = false := by simpa using e0
    simpa [lwp_pure, e0, e'] using hq
section
variable {X : XP} {Q : Leaf → LH → Prop}
theorem t_eqBB {h : LH} {K : Value → T} {t : TypeId} {x y : Operand} {a b c d : Bool} (ht : twoBools P t = true) (hg : P.eqGuardType P.depth t = false) (hk : (K (.bool (decide (a = c ∧ b = d)))).wp X P Q h) :
    (T.sem false (Sem.bind (eqGuard .eql t x y (.agg #[.bool a, .bool b]) (.agg #[.bool c, .bool d])) fun _ => binOp .eql t (.agg #[.bool a, .bool b]) (.agg #[.bool c, .bool d])) K).wp X P Q h := by
  refine t_sem (A := fun w h' => w = .bool (decide (a = c ∧ b = d)) ∧ h' = h.get) (Sem.lwp_bind _ _ ?_) (by rintro w h' ⟨rfl, rfl⟩; exact hk)
  unfold eqGuard
  simp only [Bool.not_true, Bool.false_eq_true, if_false, lwp_bind, lwp_program, hg, Bool.not_false, if_true, lwp_pure]
  unfold binOp
  rw [lwp_bind]
  exact lwp_equalBB ht ⟨rfl, rfl⟩
theorem t_eqA5 {h : LH} {K : Value → T} {t el : TypeId} {x y : Operand} {b : Nat} {z : Option Value} {a₀ a₁ a₂ a₃ a₄ b₀ b₁ b₂ b₃ b₄ : Bool} (hu : P.underlying t = some (.array 5 el)) (he : isBoolT P el = true) (hi : (P.info? el).map (fun i => (i.size, i.bytes, i.zero)) = some (1, b, z)) (hg : P.eqGuardType P.depth t = false)
    (hk : (K (.bool (decide ([a₀, a₁, a₂, a₃, a₄] = [b₀, b₁, b₂, b₃, b₄])))).wp X P Q h) :
    (T.sem false (Sem.bind (eqGuard .eql t x y (.agg #[.bool a₀, .bool a₁, .bool a₂, .bool a₃, .bool a₄]) (.agg #[.bool b₀, .bool b₁, .bool b₂, .bool b₃, .bool b₄])) fun _ => binOp .eql t (.agg #[.bool a₀, .bool a₁, .bool a₂, .bool a₃, .bool a₄]) (.agg #[.bool b₀, .bool b₁, .bool b₂, .bool b₃, .bool b₄])) K).wp X P Q h := by
  refine t_sem (A := fun w h' => w = .bool (decide ([a₀, a₁, a₂, a₃, a₄] = [b₀, b₁, b₂, b₃, b₄])) ∧ h' = h.get) (Sem.lwp_bind _ _ ?_) (by rintro w h' ⟨rfl, rfl⟩; exact hk)
  unfold eqGuard
  simp only [Bool.not_true, Bool.false_eq_true, if_false, lwp_bind, lwp_program, hg, Bool.not_false, if_true, lwp_pure]
  unfold binOp
  rw [lwp_bind]
  exact lwp_equalA5 (s := 1) hu he hi ⟨rfl, rfl⟩
theorem t_sliceArr {h : LH} {K : Value → T} {t el : TypeId} {n i s b : Nat} {z : Option Value} {a : Addr} (hu : P.underlying t = some (.array n el)) (hi : (P.info? el).map (fun i => (i.size, i.bytes, i.zero)) = some (s, b, z)) (hin : i ≤ n)
    (hk : ∀ a', (i = 0 → a' = a) → (i ≠ 0 → a' = a.add 0) → (K (.slice (some a') i i)).wp X P Q h) : (T.sem false (Instr.sliceAt t (.pointer (some a)) none (some (.int .i64 (i : Int))) (some (.int .i64 (i : Int)))) K).wp X P Q h := by
  obtain ⟨inf, g1, g2, _, _⟩ := info_of hi
  refine t_sem (A := fun v h' => h' = h.get ∧ (K v).wp X P Q h) ?_ (by rintro v h' ⟨rfl, hw⟩; exact hw)
  unfold Instr.sliceAt
  simp only [lwp_bind, lwp_underlying hu, Instr.sureAddr]
  unfold Instr.sliceBounds Instr.sliceBound
  simp only [lwp_bind, lwp_pure, asIntOf]
  rw [if_pos (show 0 ≤ (i : Int) ∧ (i : Int) ≤ (n : Int) by omega)]
  simp only [lwp_pure, lwp_bind, Int.toNat_natCast]
  rw [if_pos (show 0 ≤ (i : Int) ∧ (i : Int) ≤ (i : Int) by omega)]
  simp only [lwp_pure, lwp_bind, Int.toNat_natCast, lwp_sizeOf g1, Nat.zero_mul, Nat.sub_zero]
  refine ⟨trivial, hk _ (fun e => ?_) (fun e => ?_)⟩
  · rw [if_pos e]
  · rw [if_neg e]
theorem t_makeSlice {h : LH} {K : Value → T} {t el : TypeId} {n b : Nat} {z : Value} (hu : P.underlying t = some (.slice el)) (hi : (P.info? el).map (fun i => (i.size, i.bytes, i.zero)) = some (1, b, some z)) (hz : z.cells = #[z]) (hb : b ≤ 1024) (hn : n ≤ 2 ^ 30)
    (hk : ∀ r cs, h.get r = none → cs.size = n → (∀ j, j < n → cs[j]? = some z) → (K (.slice (some ⟨r, 0, none⟩) n n)).wp X P Q { h with get := h.get.upd r (true, .cells cs el (0, 0)) }) : (T.sem false (Instr.makeSlice t (.int .i64 (n : Int)) (.int .i64 (n : Int))) K).wp X P Q h := by
  obtain ⟨inf, g1, g2, g3, g4⟩ := info_of hi
  refine t_sem (A := fun v h' => ∃ r cs, h.get r = none ∧ cs.size = n ∧ (∀ j, j < n → cs[j]? = some z) ∧ v = .slice (some ⟨r, 0, none⟩) n n ∧ h' = h.get.upd r (true, .cells cs el (0, 0))) ?_ (by rintro v h' ⟨r, cs, h1, h2, h3, rfl, rfl⟩; exact hk r cs h1 h2 h3)
  unfold Instr.makeSlice
  have hw : IntKind.i64.wrap (n : Int) = n := wrap_id (by omega) (by omega)
  simp only [lwp_bind, lwp_underlying hu, asInt, asIntOf, lwp_pure, lwp_typeInfo g1, hw, g3]
  have hbn : b * n ≤ 1024 * 2 ^ 30 := Nat.mul_le_mul hb hn
  have hle : ((b : Int) * (n : Int)) ≤ 1024 * 2 ^ 30 := by
    have : ((b * n : Nat) : Int) ≤ ((1024 * 2 ^ 30 : Nat) : Int) := Int.ofNat_le.2 hbn
    simpa using this
  have hnot : ¬ ((decide ((n : Int) < 0) || decide (((b : Int) * (n : Int)) > 2 ^ 48) || decide ((n : Int) < 0) || decide ((n : Int) > (n : Int))) = true) := by
    simp
    omega
  have e1 : (((decide ((n : Int) < 0) || decide (((b : Int) * (n : Int)) > 2 ^ 48)) || decide ((n : Int) < 0)) || decide ((n : Int) > (n : Int))) = false := by
    simp
    omega
  rw [if_neg (by simpa using e1)]
  have hroom' : ∀ {K : Unit → Cells → Prop}, K () h.get → Sem.lwp P (askRoom ((n : Int).toNat * b)) K (fun _ _ => False) h.get := by
    intro K hK
    unfold askRoom
    split
    · exact ⟨rfl, hK⟩
    · exact hK
  simp only [lwp_bind]
  refine hroom' ?_
  simp only [lwp_sizeOf g1, g2, Nat.mul_one, Int.toNat_natCast]
  have fin : ∀ zs : Array Value, (n ≠ 0 → zs = #[z]) → Sem.lwp P (newRow el ((Array.range n).map fun x => zs[x % zs.size]!)) (fun a h' => Sem.lwp P (pure (Value.slice (some a) n n)) (fun v h' => ∃ r cs, h.get r = none ∧ cs.size = n ∧ (∀ j, j < n → cs[j]? = some z) ∧ v = .slice (some ⟨r, 0, none⟩) n n ∧ h' = h.get.upd r (true, .cells cs el (0, 0))) (fun _ _ => False) h') (fun _ _ => False) h.get := by
    intro zs hzs
    refine lwp_newRow fun r hr => ?_
    rw [lwp_pure]
    refine ⟨r, _, hr, by simp, fun j hj => ?_, rfl, rfl⟩
    have := hzs (by omega)
    subst this
    simp [hj, Nat.mod_one]
  by_cases h0 : n = 0
  · simp only [h0, if_true, lwp_pure]
    subst h0
    exact fin #[] (fun e => absurd rfl e)
  · simp only [if_neg h0, lwp_bind, lwp_zeroValue g1 g4, lwp_pure, hz]
    exact fin #[z] (fun _ => rfl)
theorem CV.frame (hX : XOK X) {v : Value} {args : Array Value} {h : LH} {A : Value → LH → Prop} (c : CV X P v args h A) {k : Cells} (d : Disj h.get k) : CV X P v args (h.add k) fun r h₂ => ∃ h', Disj h'.get k ∧ h₂ = h'.add k ∧ A r h' := by
  intro main R hR fr cs hk
  have hcv := c main (fun g h => Disj h.get k → R g (h.add k)) (hR.frame hX k) fr cs ?_
  · refine Sem.lwp_mono _ (lwp_frame _ hcv d) ?_ ?_
    · rintro nx h₂ ⟨h', d', rfl, hN⟩
      cases nx <;> first | exact hN.elim | exact hN d'
    · rintro e' h₂ ⟨_, _, _, hf⟩; exact hf.elim
  · intro v h' j dj' hQ dk
    have d1 : Disj h'.get k := dk.of_add_left
    have d2 : Disj j k := Disj.of_add_right dj' dk
    have e1 : (h'.add j).add k = (h'.add k).add j := by unfold LH.add; simp only; rw [Cells.add_swap d2]
    rw [e1]
    exact hk v (h'.add k) j (Disj.add dj' d2.symm) ⟨h', d1, rfl, hQ⟩
end
end Go.TM
end
section
namespace Go.Proofs.YtldamlcehbdkdaaDoor.Tre
open Go Go.TM Go.Proofs
theorem inf3 : (Tryd.prog.info? 3).map (fun i => (i.size, i.bytes, i.zero)) = some (1, 8, some (.int .i64 0)) := by kernel_rfl
theorem inf4 : (Tryd.prog.info? 4).map (fun i => (i.size, i.bytes, i.zero)) = some (1, 1, some (.bool false)) := by kernel_rfl
theorem inf30 : (Tryd.prog.info? 32).map (fun i => (i.size, i.bytes, i.zero)) = some (2, 16, some (.agg #[.int .i64 0, .int .i64 0])) := by kernel_rfl
theorem inf50 : (Tryd.prog.info? 28).map (fun i => (i.size, i.bytes, i.zero)) = some (1, 24, some (.slice none 0 0)) := by kernel_rfl
theorem infEv : (Tryd.prog.info? 135).map (fun i => (i.size, i.bytes, i.zero)) = some (5, 56, some (.agg #[.int .i64 0, .int .i64 0, .int .i64 0, .slice none 0 0, .int .i64 0])) := by kernel_rfl
theorem infAsk : (Tryd.prog.info? 145).map (fun i => (i.size, i.bytes, i.zero)) = some (12, 112, some (.agg #[.int .i64 0, .int .i64 0, .int .i64 0, .int .i64 0, .int .i64 0, .int .i64 0, .slice none 0 0, .int .i64 0, .int .i64 0, .int .i64 0, .int .i64 0, .bool false])) := by kernel_rfl
theorem infTitle : (Tryd.prog.info? 171).map (fun i => (i.size, i.bytes, i.zero)) = some (1, 16, some .nilIface) := by kernel_rfl
theorem und22 : Tryd.prog.underlying 22 = some (.slice 32) := by kernel_rfl
theorem und50 : Tryd.prog.underlying 28 = some (.slice 3) := by kernel_rfl
theorem undBs : Tryd.prog.underlying 94 = some (.slice 4) := by kernel_rfl
theorem undEvs : Tryd.prog.underlying 48 = some (.slice 135) := by kernel_rfl
theorem undAsks : Tryd.prog.underlying 179 = some (.slice 145) := by kernel_rfl
theorem undTitles : Tryd.prog.underlying 168 = some (.slice 171) := by kernel_rfl
theorem undItems : Tryd.prog.underlying 138 = some (.array 5 4) := by kernel_rfl
theorem undMap : Tryd.prog.underlying 142 = some (.map 3 4) := by kernel_rfl
theorem i64_3 : isI64 Tryd.prog 3 = true := by kernel_rfl
theorem bo4 : isBoolT Tryd.prog 4 = true := by kernel_rfl
theorem twoUses : twoBools Tryd.prog 182 = true := by kernel_rfl
theorem gUses : Tryd.prog.eqGuardType Tryd.prog.depth 182 = false := by kernel_rfl
theorem gItems : Tryd.prog.eqGuardType Tryd.prog.depth 138 = false := by kernel_rfl
theorem two30 : twoInts Tryd.prog 32 = true := by kernel_rfl
theorem g30 : Tryd.prog.eqGuardType Tryd.prog.depth 32 = false := by kernel_rfl
theorem undCI : Tryd.prog.underlying 117 = some (.chan .both 28) := by kernel_rfl
theorem undCB : Tryd.prog.underlying 150 = some (.chan .both 4) := by kernel_rfl
end Go.Proofs.YtldamlcehbdkdaaDoor.Tre
end
section
namespace Go.TM.Tr
structure Ev where
  kind : Int
  day : Int
  land : Int
  items : List Int
  since : Int
  deriving DecidableEq
structure TF where
  items : Int
  lands : Int
  start : Int
  depend : Int
  refuse : Int
  turn : Int
  events : List Ev
  deriving DecidableEq
def least : List Int → Int
  | [] => 10000
  | x :: l => if x < least l then x else least l
theorem lt_least {n : Int} : ∀ {l : List Int}, n < least l ↔ n < 10000 ∧ ∀ v ∈ l, n < v
  | [] => by simp [least]
  | x :: l => by
    have ih := lt_least (n := n) (l := l)
    rw [least]
    simp only [List.mem_cons, forall_eq_or_imp]
    split
    · rename_i h
      constructor
      · intro h1
        have := ih.1 (by omega)
        exact ⟨this.1, h1, this.2⟩
      · intro h1; exact h1.2.1
    · rename_i h
      constructor
      · intro h1
        have := ih.1 h1
        exact ⟨this.1, by omega, this.2⟩
      · intro h1; exact ih.2 ⟨h1.1, h1.2.2⟩
theorem least_le {n : Int} {l : List Int} : least l ≤ n ↔ 10000 ≤ n ∨ ∃ v ∈ l, v ≤ n := by
  rw [← Int.not_lt, lt_least]
  constructor
  · intro h
    by_cases h1 : 10000 ≤ n
    · exact .inl h1
    · right
      apply Classical.byContradiction
      intro h2
      exact h ⟨by omega, fun v hv => by
        apply Int.not_le.1
        exact fun h3 => h2 ⟨v, hv, h3⟩⟩
  · rintro (h | ⟨v, hv, h⟩) ⟨h1, h2⟩
    · omega
    · have := h2 v hv; omega
theorem least_mem : ∀ {l : List Int}, least l = 10000 ∨ least l ∈ l
  | [] => .inl rfl
  | x :: l => by
    rw [least]
    split
    · exact .inr (by simp)
    · rcases least_mem (l := l) with h | h
      · exact .inl h
      · exact .inr (List.mem_cons_of_mem _ h)
theorem least_cap (l : List Int) : least l ≤ 10000 := least_le.2 (.inl (Int.le_refl _))
theorem least_same {l m : List Int} (h : ∀ v, v ∈ l ↔ v ∈ m) : least l = least m := by
  have key : ∀ {l m : List Int}, (∀ v, v ∈ l ↔ v ∈ m) → least l ≤ least m := by
    intro l m h
    rw [least_le]
    rcases least_mem (l := m) with h1 | h1
    · left; omega
    · exact .inr ⟨_, (h _).2 h1, Int.le_refl _⟩
  exact Int.le_antisymm (key h) (key fun v => (h v).symm)
theorem least_more {l m : List Int} (h : ∀ v ∈ l, ∃ w ∈ m, w ≤ v) : least m ≤ least l := by
  rw [least_le]
  rcases least_mem (l := l) with h1 | h1
  · left; omega
  · obtain ⟨w, hw, h2⟩ := h _ h1
    exact .inr ⟨w, hw, h2⟩
def about (e : Ev) (kind land item : Int) : Bool := (e.kind == kind) && ((e.land == land) && e.items.contains item)
def early (x : TF) (e : Ev) : Bool := (e.kind == 4) && decide (e.since ≤ x.start + x.depend)
def fallsL (x : TF) (i f : Int) : List Int := (x.events.filter fun e => early x e && (e.items.contains i && decide (f ≤ e.day))).map (·.day)
def falls (x : TF) (i f : Int) : Int := least (fallsL x i f)
def limitsL (x : TF) (k i f : Int) : List Int := (x.events.filter fun e => about e 3 k i && decide (f ≤ e.day)).map (·.day)
def limits (x : TF) (k i f : Int) : Int := least (limitsL x k i f)
def lifted (x : TF) (k i r d : Int) : Bool := x.events.any fun l => about l 2 k i && decide (r ≤ l.day ∧ l.day ≤ d)
def refused (x : TF) (k i a d : Int) : Bool := x.events.any fun r => about r 1 k i && (decide (a ≤ r.day ∧ r.day ≤ a + x.refuse ∧ r.day ≤ d) && !lifted x k i r.day d)
def askDays (x : TF) (k i : Int) : List Int := (x.events.filter fun e => about e 0 k i && decide (e.day < falls x i 0)).map (·.day)
def askEnd (x : TF) (k i a : Int) : Int := if limits x k i a < falls x i a then limits x k i a else falls x i a
def fallen (x : TF) (k i a : Int) : Bool := decide (falls x i a < limits x k i a)
def goodBy (x : TF) (k i d a : Int) : Bool := fallen x k i a && (decide (askEnd x k i a ≤ d ∧ d ≤ askEnd x k i a + x.turn) && !refused x k i a (askEnd x k i a - 1))
def turnedL (x : TF) (k i d : Int) : List Int := (askDays x k i).filter (goodBy x k i d)
def leastOr (l : List Int) : Int := if l.isEmpty then -1 else least l
def turned (x : TF) (k i d : Int) : Int := leastOr (turnedL x k i d)
def askHeld (x : TF) (k i d : Int) : List Int := (askDays x k i).filter fun a => decide (a ≤ d ∧ d < askEnd x k i a) && !refused x k i a d
def turnHeld (x : TF) (k i d : Int) : List Int := (x.events.filter fun e => about e 5 k i && (decide (0 ≤ turned x k i e.day) && decide (e.day ≤ d ∧ d < limits x k i e.day))).map fun e => turned x k i e.day
def held (x : TF) (k i d : Int) : List Int := askHeld x k i d ++ turnHeld x k i d
def oldL (x : TF) (k i d a : Int) : List Int := (x.events.filter fun e => about e 6 k i && (decide (e.day ≤ d) && decide (e.since ≤ a))).map (·.since)
def dated (x : TF) (k i d a : Int) : Int := least (a :: oldL x k i d a)
def dateOn (x : TF) (k i d : Int) : Int := leastOr ((held x k i d).map (dated x k i d))
namespace Same
variable {x y : TF}
end Same
end Go.TM.Tr
end
section
namespace Go.TM.Tr
def has (x : TF) (k i K t : Int) : Prop := ∃ e ∈ x.events, about e K k i = true ∧ e.day = t
def fell (x : TF) (i t : Int) : Prop := ∃ e ∈ x.events, early x e = true ∧ e.items.contains i = true ∧ e.day = t
def older (x : TF) (k i t s : Int) : Prop := ∃ e ∈ x.events, about e 6 k i = true ∧ e.day = t ∧ e.since = s
theorem mem_falls {x : TF} {i f v : Int} : v ∈ fallsL x i f ↔ fell x i v ∧ f ≤ v := by
  unfold fallsL fell
  simp only [List.mem_map, List.mem_filter, Bool.and_eq_true, decide_eq_true_eq]
  constructor
  · rintro ⟨e, ⟨h1, h2, h3, h4⟩, rfl⟩; exact ⟨⟨e, h1, h2, h3, rfl⟩, h4⟩
  · rintro ⟨⟨e, h1, h2, h3, rfl⟩, h4⟩; exact ⟨e, ⟨h1, h2, h3, h4⟩, rfl⟩
theorem mem_limits {x : TF} {k i f v : Int} : v ∈ limitsL x k i f ↔ has x k i 3 v ∧ f ≤ v := by
  unfold limitsL has
  simp only [List.mem_map, List.mem_filter, Bool.and_eq_true, decide_eq_true_eq]
  constructor
  · rintro ⟨e, ⟨h1, h2, h3⟩, rfl⟩; exact ⟨⟨e, h1, h2, rfl⟩, h3⟩
  · rintro ⟨⟨e, h1, h2, rfl⟩, h3⟩; exact ⟨e, ⟨h1, h2, h3⟩, rfl⟩
theorem lifted_iff {x : TF} {k i r d : Int} : lifted x k i r d = true ↔ ∃ t, has x k i 2 t ∧ r ≤ t ∧ t ≤ d := by
  unfold lifted has
  simp only [List.any_eq_true, Bool.and_eq_true, decide_eq_true_eq]
  constructor
  · rintro ⟨e, h1, h2, h3⟩; exact ⟨_, ⟨e, h1, h2, rfl⟩, h3⟩
  · rintro ⟨_, ⟨e, h1, h2, rfl⟩, h3⟩; exact ⟨e, h1, h2, h3⟩
theorem refused_iff {x : TF} {k i a d : Int} : refused x k i a d = true ↔ ∃ t, has x k i 1 t ∧ (a ≤ t ∧ t ≤ a + x.refuse ∧ t ≤ d) ∧ ¬ ∃ l, has x k i 2 l ∧ t ≤ l ∧ l ≤ d := by
  unfold refused
  simp only [List.any_eq_true, Bool.and_eq_true, decide_eq_true_eq, Bool.not_eq_true', ← Bool.not_eq_true, lifted_iff]
  constructor
  · rintro ⟨e, h1, h2, h3, h4⟩; exact ⟨_, ⟨e, h1, h2, rfl⟩, h3, h4⟩
  · rintro ⟨_, ⟨e, h1, h2, rfl⟩, h3, h4⟩; exact ⟨e, h1, h2, h3, h4⟩
theorem mem_asks {x : TF} {k i v : Int} : v ∈ askDays x k i ↔ has x k i 0 v ∧ v < falls x i 0 := by
  unfold askDays has
  simp only [List.mem_map, List.mem_filter, Bool.and_eq_true, decide_eq_true_eq]
  constructor
  · rintro ⟨e, ⟨h1, h2, h3⟩, rfl⟩; exact ⟨⟨e, h1, h2, rfl⟩, h3⟩
  · rintro ⟨⟨e, h1, h2, rfl⟩, h3⟩; exact ⟨e, ⟨h1, h2, h3⟩, rfl⟩
theorem mem_askHeld {x : TF} {k i d v : Int} : v ∈ askHeld x k i d ↔ (has x k i 0 v ∧ v < falls x i 0) ∧ (v ≤ d ∧ d < askEnd x k i v) ∧ ¬ refused x k i v d = true := by
  unfold askHeld
  simp only [List.mem_filter, mem_asks, Bool.and_eq_true, decide_eq_true_eq, Bool.not_eq_true', ← Bool.not_eq_true]
theorem mem_turnHeld {x : TF} {k i d v : Int} : v ∈ turnHeld x k i d ↔ ∃ t, has x k i 5 t ∧ 0 ≤ turned x k i t ∧ (t ≤ d ∧ d < limits x k i t) ∧ v = turned x k i t := by
  unfold turnHeld has
  simp only [List.mem_map, List.mem_filter, Bool.and_eq_true, decide_eq_true_eq]
  constructor
  · rintro ⟨e, ⟨h1, h2, h3, h4⟩, rfl⟩; exact ⟨_, ⟨e, h1, h2, rfl⟩, h3, h4, rfl⟩
  · rintro ⟨_, ⟨e, h1, h2, rfl⟩, h3, h4, rfl⟩; exact ⟨e, ⟨h1, h2, h3, h4⟩, rfl⟩
theorem mem_held {x : TF} {k i d v : Int} : v ∈ held x k i d ↔ v ∈ askHeld x k i d ∨ v ∈ turnHeld x k i d := by
  unfold held; rw [List.mem_append]
theorem mem_old {x : TF} {k i d a v : Int} : v ∈ oldL x k i d a ↔ (∃ t, older x k i t v ∧ t ≤ d) ∧ v ≤ a := by
  unfold oldL older
  simp only [List.mem_map, List.mem_filter, Bool.and_eq_true, decide_eq_true_eq]
  constructor
  · rintro ⟨e, ⟨h1, h2, h3, h4⟩, rfl⟩; exact ⟨⟨_, ⟨e, h1, h2, rfl, rfl⟩, h3⟩, h4⟩
  · rintro ⟨⟨_, ⟨e, h1, h2, rfl, rfl⟩, h3⟩, h4⟩; exact ⟨e, ⟨h1, h2, h3, h4⟩, rfl⟩
theorem mem_turned {x : TF} {k i d v : Int} : v ∈ turnedL x k i d ↔ (has x k i 0 v ∧ v < falls x i 0) ∧ (fallen x k i v = true ∧ (askEnd x k i v ≤ d ∧ d ≤ askEnd x k i v + x.turn) ∧ ¬ refused x k i v (askEnd x k i v - 1) = true) := by
  unfold turnedL goodBy
  simp only [List.mem_filter, mem_asks, Bool.and_eq_true, decide_eq_true_eq, Bool.not_eq_true', ← Bool.not_eq_true]
theorem leastOr_mem {l : List Int} (h : ∀ v ∈ l, 0 ≤ v ∧ v < 10000) : (leastOr l = -1 ∧ l = []) ∨ (leastOr l ∈ l ∧ leastOr l = least l) := by
  unfold leastOr
  cases l with
  | nil => exact .inl ⟨rfl, rfl⟩
  | cons a l =>
    right
    simp only [List.isEmpty_cons, Bool.false_eq_true, if_false]
    rcases least_mem (l := a :: l) with h2 | h2
    · have h3 := h a (by simp)
      have h4 : least (a :: l) ≤ a := least_le.2 (.inr ⟨a, by simp, Int.le_refl _⟩)
      omega
    · exact ⟨h2, trivial⟩
theorem leastOr_more {l m : List Int} (hl : ∀ v ∈ l, 0 ≤ v ∧ v < 10000) (hm : ∀ v ∈ m, 0 ≤ v ∧ v < 10000) (h : ∀ v ∈ l, ∃ w ∈ m, w ≤ v) (h0 : 0 ≤ leastOr l) : 0 ≤ leastOr m ∧ leastOr m ≤ leastOr l := by
  rcases leastOr_mem hl with ⟨h1, _⟩ | ⟨h1, h2⟩
  · omega
  · obtain ⟨w, hw, h3⟩ := h _ h1
    rcases leastOr_mem hm with ⟨_, h4⟩ | ⟨h4, h5⟩
    · rw [h4] at hw; simp at hw
    · have : leastOr m ≤ w := by rw [h5]; exact least_le.2 (.inr ⟨w, hw, Int.le_refl _⟩)
      have := (hm _ h4).1
      exact ⟨this, by omega⟩
structure Facts (x y : TF) (k i d : Int) : Prop where
  refuse : y.refuse = x.refuse
  turn : y.turn = x.turn
  has : ∀ K t, K ≠ 6 → K ≠ 4 → t ≤ d → (has y k i K t ↔ has x k i K t)
  fell : ∀ t, t ≤ d → (fell y i t ↔ fell x i t)
  older : ∀ t s, t ≤ d → (older y k i t s ↔ older x k i t s)
namespace Facts
variable {x y : TF} {k i d : Int}
theorem turned_le {x : TF} {k i d v : Int} (h : v ∈ turnedL x k i d) : v ≤ Tr.askEnd x k i v ∧ Tr.askEnd x k i v ≤ d := by
  obtain ⟨_, _, h2, _⟩ := mem_turned.1 h
  refine ⟨?_, h2.1⟩
  unfold Tr.askEnd
  have h1 : v ≤ Tr.limits x k i v ∨ Tr.limits x k i v = 10000 := by
    rcases least_mem (l := limitsL x k i v) with h | h
    · exact .inr h
    · exact .inl (mem_limits.1 h).2
  have h3 : v ≤ Tr.falls x i v ∨ Tr.falls x i v = 10000 := by
    rcases least_mem (l := fallsL x i v) with h | h
    · exact .inr h
    · exact .inl (mem_falls.1 h).2
  have h4 : v < 10000 := by
    have := (mem_turned.1 h).1.2
    have := least_cap (fallsL x i 0)
    unfold Tr.falls at *; omega
  split <;> omega
end Facts
end Go.TM.Tr
end
section
namespace Go.TM.Tr
def Ok (x : TF) : Prop := ∀ e ∈ x.events, 0 ≤ e.day ∧ e.day ≤ 9999 ∧ 0 ≤ e.since ∧ e.since ≤ e.day
theorem Ok.has {x : TF} (v : Ok x) {k i K t : Int} (h : has x k i K t) : 0 ≤ t ∧ t ≤ 9999 := by
  obtain ⟨e, h1, _, rfl⟩ := h
  have := v e h1; omega
theorem Ok.older {x : TF} (v : Ok x) {k i t s : Int} (h : older x k i t s) : 0 ≤ s ∧ s ≤ t ∧ t ≤ 9999 := by
  obtain ⟨e, h1, _, rfl, rfl⟩ := h
  have := v e h1; omega
theorem Ok.turnedL {x : TF} (v : Ok x) {k i d : Int} : ∀ n ∈ turnedL x k i d, 0 ≤ n ∧ n < 10000 := fun n h => by
  have := v.has (mem_turned.1 h).1.1; omega
theorem turned_vals {x : TF} (v : Ok x) (k i d : Int) : (turned x k i d = -1 ∧ turnedL x k i d = []) ∨ (turned x k i d ∈ turnedL x k i d ∧ turned x k i d = least (turnedL x k i d)) := leastOr_mem v.turnedL
theorem falls_up {x : TF} {i a b : Int} (h : a ≤ b) : falls x i a ≤ falls x i b :=
  least_more fun v hv => by
    obtain ⟨h1, h2⟩ := mem_falls.1 hv
    exact ⟨v, mem_falls.2 ⟨h1, by omega⟩, Int.le_refl _⟩
theorem turned_lt {x : TF} (v : Ok x) {k i d n : Int} (h : n ∈ turnedL x k i d) : n < d := by
  have hle := Facts.turned_le h
  obtain ⟨⟨h0, h1⟩, h2, h3, _⟩ := mem_turned.1 h
  have := falls_up (x := x) (i := i) (v.has h0).1
  unfold fallen at h2
  unfold askEnd at h3
  rw [decide_eq_true_eq] at h2
  rw [if_neg (by omega)] at h3
  omega
theorem held_vals {x : TF} (v : Ok x) {k i d a : Int} (h : a ∈ held x k i d) : 0 ≤ a ∧ a ≤ d ∧ a ≤ 9999 ∧ has x k i 0 a := by
  rcases mem_held.1 h with h | h
  · obtain ⟨⟨h1, _⟩, h2, _⟩ := mem_askHeld.1 h
    have := v.has h1
    exact ⟨this.1, h2.1, this.2, h1⟩
  · obtain ⟨t, h1, h2, h3, rfl⟩ := mem_turnHeld.1 h
    rcases turned_vals v k i t with ⟨e, _⟩ | ⟨e, _⟩
    · omega
    · have h4 := turned_lt v e
      have h5 := (mem_turned.1 e).1.1
      have := v.has h5
      exact ⟨this.1, by omega, this.2, h5⟩
theorem dated_vals {x : TF} (v : Ok x) {k i d a : Int} (ha : 0 ≤ a ∧ a ≤ 9999) : 0 ≤ dated x k i d a ∧ dated x k i d a ≤ a ∧ (dated x k i d a = a ∨ ∃ t, older x k i t (dated x k i d a) ∧ t ≤ d) := by
  have h1 : dated x k i d a ≤ a := least_le.2 (.inr ⟨a, by simp, Int.le_refl _⟩)
  rcases least_mem (l := a :: oldL x k i d a) with h | h
  · unfold dated at h1 ⊢; omega
  · rcases List.mem_cons.1 h with h | h
    · exact ⟨by unfold dated; omega, h1, .inl h⟩
    · obtain ⟨⟨t, h2, h3⟩, h4⟩ := mem_old.1 h
      exact ⟨(v.older h2).1, h1, .inr ⟨t, h2, h3⟩⟩
theorem date_vals {x : TF} (v : Ok x) {k i d : Int} : ∀ n ∈ (held x k i d).map (dated x k i d), 0 ≤ n ∧ n < 10000 := by
  intro n hn
  obtain ⟨a, ha, rfl⟩ := List.mem_map.1 hn
  obtain ⟨h1, h2, h3, _⟩ := held_vals v ha
  have := dated_vals v (k := k) (i := i) (d := d) ⟨h1, h3⟩
  omega
theorem protected_iff {x : TF} (v : Ok x) {k i d : Int} : 0 ≤ dateOn x k i d ↔ ∃ a, a ∈ held x k i d := by
  unfold dateOn
  rcases leastOr_mem (date_vals v (k := k) (i := i) (d := d)) with ⟨h1, h2⟩ | ⟨h1, h2⟩
  · rw [h1]
    rw [List.map_eq_nil_iff] at h2
    rw [h2]
    simp
  · have := (date_vals v _ h1).1
    obtain ⟨a, ha, _⟩ := List.mem_map.1 h1
    exact ⟨fun _ => ⟨a, ha⟩, fun _ => this⟩
theorem dated_mono {x : TF} {k i d a b : Int} (h : a ≤ b) : dated x k i d a ≤ dated x k i d b :=
  least_more fun v hv => by
    rcases List.mem_cons.1 hv with rfl | hv
    · exact ⟨a, by simp, h⟩
    · obtain ⟨h1, h2⟩ := mem_old.1 hv
      by_cases e : v ≤ a
      · exact ⟨v, List.mem_cons_of_mem _ (mem_old.2 ⟨h1, e⟩), Int.le_refl _⟩
      · exact ⟨a, by simp, by omega⟩
structure Gives (x y : TF) (k i : Int) : Prop where
  refuse : y.refuse = x.refuse
  turn : y.turn = x.turn
  h0 : ∀ t, has x k i 0 t → has y k i 0 t
  h1 : ∀ t, has y k i 1 t ↔ has x k i 1 t
  h2 : ∀ t, has x k i 2 t → has y k i 2 t
  h3 : ∀ t, has y k i 3 t ↔ has x k i 3 t
  h5 : ∀ t, has x k i 5 t → has y k i 5 t
  fell : ∀ t, fell y i t ↔ fell x i t
  older : ∀ t s, older y k i t s ↔ older x k i t s
namespace Gives
variable {x y : TF} {k i : Int}
theorem falls (s : Gives x y k i) (f : Int) : Tr.falls y i f = Tr.falls x i f := least_same fun v => by rw [mem_falls, mem_falls, s.fell]
theorem limits (s : Gives x y k i) (f : Int) : Tr.limits y k i f = Tr.limits x k i f := least_same fun v => by rw [mem_limits, mem_limits, s.h3]
theorem askEnd (s : Gives x y k i) (a : Int) : Tr.askEnd y k i a = Tr.askEnd x k i a := by unfold Tr.askEnd; rw [s.falls, s.limits]
theorem refused (s : Gives x y k i) {a d : Int} (h : Tr.refused y k i a d = true) : Tr.refused x k i a d = true := by
  obtain ⟨t, g1, g2, g3⟩ := refused_iff.1 h
  exact refused_iff.2 ⟨t, (s.h1 t).1 g1, by rw [← s.refuse]; exact g2, fun ⟨l, g4, g5⟩ => g3 ⟨l, s.h2 l g4, g5⟩⟩
theorem turnedL (s : Gives x y k i) {d v : Int} (h : v ∈ Tr.turnedL x k i d) : v ∈ Tr.turnedL y k i d := by
  obtain ⟨⟨g0, g1⟩, g2, g3, g4⟩ := mem_turned.1 h
  refine mem_turned.2 ⟨⟨s.h0 v g0, by rw [s.falls]; exact g1⟩, ?_, by rw [s.askEnd, s.turn]; exact g3, by rw [s.askEnd]; exact fun hh => g4 (s.refused hh)⟩
  unfold fallen at *
  rw [s.falls, s.limits]; exact g2
theorem turned (s : Gives x y k i) (vx : Ok x) (vy : Ok y) {d : Int} (h : 0 ≤ Tr.turned x k i d) : 0 ≤ Tr.turned y k i d ∧ Tr.turned y k i d ≤ Tr.turned x k i d :=
  leastOr_more vx.turnedL vy.turnedL (fun v hv => ⟨v, s.turnedL hv, Int.le_refl _⟩) h
theorem held (s : Gives x y k i) (vx : Ok x) (vy : Ok y) {d v : Int} (h : v ∈ Tr.held x k i d) : ∃ w ∈ Tr.held y k i d, w ≤ v := by
  rcases mem_held.1 h with h | h
  · obtain ⟨⟨g0, g1⟩, g2, g3⟩ := mem_askHeld.1 h
    exact ⟨v, mem_held.2 (.inl (mem_askHeld.2 ⟨⟨s.h0 v g0, by rw [s.falls]; exact g1⟩, by rw [s.askEnd]; exact g2, fun hh => g3 (s.refused hh)⟩)), Int.le_refl _⟩
  · obtain ⟨t, g1, g2, g3, rfl⟩ := mem_turnHeld.1 h
    obtain ⟨g4, g5⟩ := s.turned vx vy g2
    exact ⟨_, mem_held.2 (.inr (mem_turnHeld.2 ⟨t, s.h5 t g1, g4, by rw [s.limits]; exact g3, rfl⟩)), g5⟩
theorem dated (s : Gives x y k i) (d a : Int) : Tr.dated y k i d a = Tr.dated x k i d a :=
  least_same fun v => by
    rw [List.mem_cons, List.mem_cons, mem_old, mem_old]
    simp only [s.older]
theorem noLess (s : Gives x y k i) (vx : Ok x) (vy : Ok y) {d : Int} (h : 0 ≤ dateOn x k i d) : 0 ≤ dateOn y k i d ∧ dateOn y k i d ≤ dateOn x k i d := by
  refine leastOr_more (date_vals vx) (date_vals vy) (fun v hv => ?_) h
  obtain ⟨a, ha, rfl⟩ := List.mem_map.1 hv
  obtain ⟨w, hw, hle⟩ := s.held vx vy ha
  exact ⟨_, List.mem_map.2 ⟨w, hw, rfl⟩, by rw [s.dated]; exact dated_mono hle⟩
end Gives
namespace Takes
variable {x y : TF} {k i : Int}
end Takes
end Go.TM.Tr
end
section
namespace Go.TM.Tr
theorem about_kind {e : Ev} {K k i : Int} (h : about e K k i = true) : e.kind = K := by
  unfold about at h; simp at h; exact h.1
theorem early_kind {x : TF} {e : Ev} (h : early x e = true) : e.kind = 4 := by
  unfold early at h; simp at h; exact h.1
end Go.TM.Tr
end
section
namespace Go.TM.Tr
structure Sp where
  first : Int
  last : Int
  deriving DecidableEq
def join (out : List Sp) (d e : Int) : List Sp :=
  match out.getLast? with
  | some s => if s.last = d - 1 then out.dropLast ++ [⟨s.first, e - 1⟩] else out ++ [⟨d, e - 1⟩]
  | none => out ++ [⟨d, e - 1⟩]
def spansGo (p : Int → Bool) : List Int → List Sp → List Sp
  | d :: e :: l, out => spansGo p (e :: l) (if p d then join out d e else out)
  | _, out => out
end Go.TM.Tr
end
section
namespace Go.TM.Tr
def givesB (e : Ev) : Bool := e.kind == 0 || (e.kind == 2 || e.kind == 5)
def givingGo : List Ev → Int → List Int
  | [], _ => []
  | e :: l, n => if givesB e then n :: givingGo l (n + 1) else givingGo l (n + 1)
def giving (x : TF) : List Int := givingGo x.events 0
def withGo (L : List Int) : List Ev → Int → List Ev
  | [], _ => []
  | e :: l, n => if !givesB e || L.contains n then e :: withGo L l (n + 1) else withGo L l (n + 1)
def withE (x : TF) (L : List Int) : TF := { x with events := withGo L x.events 0 }
def holdsB (x : TF) (k i d : Int) (L : List Int) : Bool := decide (0 ≤ dateOn (withE x L) k i d)
theorem mem_with {L : List Int} {e : Ev} : ∀ {l : List Ev} {n : Int}, e ∈ withGo L l n ↔ ∃ j : Nat, l[j]? = some e ∧ (givesB e = false ∨ (n + (j : Int)) ∈ L)
  | [], n => by simp [withGo]
  | c :: l, n => by
    have ih := mem_with (L := L) (e := e) (l := l) (n := n + 1)
    have hstep : (∃ j : Nat, (c :: l)[j]? = some e ∧ (givesB e = false ∨ (n + (j : Int)) ∈ L)) ↔ (c = e ∧ (givesB e = false ∨ n ∈ L)) ∨ ∃ j : Nat, l[j]? = some e ∧ (givesB e = false ∨ (n + 1 + (j : Int)) ∈ L) := by
      constructor
      · rintro ⟨j, h1, h2⟩
        cases j with
        | zero => simp at h1; left; exact ⟨h1, by simpa using h2⟩
        | succ j =>
          right
          refine ⟨j, by simpa using h1, ?_⟩
          rw [show n + 1 + (j : Int) = n + ((j + 1 : Nat) : Int) by omega]; exact h2
      · rintro (⟨h1, h2⟩ | ⟨j, h1, h2⟩)
        · exact ⟨0, by simp [h1], by simpa using h2⟩
        · refine ⟨j + 1, by simpa using h1, ?_⟩
          rw [show n + ((j + 1 : Nat) : Int) = n + 1 + (j : Int) by omega]; exact h2
    rw [hstep, withGo, ← ih]
    by_cases hc : (!givesB c || L.contains n) = true
    · rw [if_pos hc, List.mem_cons]
      constructor
      · rintro (rfl | h)
        · left
          refine ⟨rfl, ?_⟩
          simpa using hc
        · exact .inr h
      · rintro (⟨rfl, _⟩ | h)
        · exact .inl rfl
        · exact .inr h
    · rw [if_neg hc]
      constructor
      · exact fun h => .inr h
      · rintro (⟨rfl, h⟩ | h)
        · exact absurd (by simpa using h) hc
        · exact h
theorem ok_with {x : TF} (v : Ok x) (L : List Int) : Ok (withE x L) := fun e he => by
  obtain ⟨j, h, _⟩ := mem_with.1 he
  exact v e (List.mem_of_getElem? h)
theorem gives_kind {e : Ev} {K k i : Int} (h : about e K k i = true) (hK : K ≠ 0 ∧ K ≠ 2 ∧ K ≠ 5) : givesB e = false := by
  have := about_kind h
  unfold givesB
  simp; omega
theorem with_gives {x : TF} {L M : List Int} (h : ∀ n ∈ L, n ∈ M) (k i : Int) : Gives (withE x L) (withE x M) k i := by
  have up : ∀ e, e ∈ (withE x L).events → e ∈ (withE x M).events := fun e he => by
    obtain ⟨j, h1, h2⟩ := mem_with.1 he
    exact mem_with.2 ⟨j, h1, h2.imp id (h _)⟩
  have eq : ∀ e, givesB e = false → (e ∈ (withE x M).events ↔ e ∈ (withE x L).events) := fun e he =>
    ⟨fun hm => by
      obtain ⟨j, h1, _⟩ := mem_with.1 hm
      exact mem_with.2 ⟨j, h1, .inl he⟩, up e⟩
  have hh : ∀ K, (K ≠ 0 ∧ K ≠ 2 ∧ K ≠ 5) → ∀ t, has (withE x M) k i K t ↔ has (withE x L) k i K t := fun K hK t =>
    ⟨fun ⟨e, h1, h2, h3⟩ => ⟨e, (eq e (gives_kind h2 hK)).1 h1, h2, h3⟩, fun ⟨e, h1, h2, h3⟩ => ⟨e, up e h1, h2, h3⟩⟩
  refine ⟨rfl, rfl, fun t ⟨e, h1, h2⟩ => ⟨e, up e h1, h2⟩, hh 1 (by decide), fun t ⟨e, h1, h2⟩ => ⟨e, up e h1, h2⟩, hh 3 (by decide), fun t ⟨e, h1, h2⟩ => ⟨e, up e h1, h2⟩, fun t => ?_, fun t s => ?_⟩
  · refine ⟨fun ⟨e, h1, h2, h3⟩ => ⟨e, (eq e ?_).1 h1, h2, h3⟩, fun ⟨e, h1, h2⟩ => ⟨e, up e h1, h2⟩⟩
    have := early_kind h2
    unfold givesB; simp; omega
  · exact ⟨fun ⟨e, h1, h2, h3⟩ => ⟨e, (eq e (gives_kind h2 (by decide))).1 h1, h2, h3⟩, fun ⟨e, h1, h2⟩ => ⟨e, up e h1, h2⟩⟩
theorem holds_more {x : TF} (v : Ok x) {L M : List Int} (h : ∀ n ∈ L, n ∈ M) {k i d : Int} (hL : holdsB x k i d L = true) : holdsB x k i d M = true := by
  unfold holdsB at *
  rw [decide_eq_true_eq] at *
  exact ((with_gives h k i).noLess (ok_with v L) (ok_with v M) hL).1
theorem mem_giving {m : Int} : ∀ {l : List Ev} {n : Int}, m ∈ givingGo l n ↔ ∃ (j : Nat) (e : Ev), l[j]? = some e ∧ givesB e = true ∧ m = n + (j : Int)
  | [], n => by simp [givingGo]
  | c :: l, n => by
    have ih := mem_giving (m := m) (l := l) (n := n + 1)
    have hstep : (∃ (j : Nat) (e : Ev), (c :: l)[j]? = some e ∧ givesB e = true ∧ m = n + (j : Int)) ↔ (givesB c = true ∧ m = n) ∨ ∃ (j : Nat) (e : Ev), l[j]? = some e ∧ givesB e = true ∧ m = n + 1 + (j : Int) := by
      constructor
      · rintro ⟨j, e, h1, h2, h3⟩
        cases j with
        | zero => simp at h1; subst h1; exact .inl ⟨h2, by simpa using h3⟩
        | succ j => exact .inr ⟨j, e, by simpa using h1, h2, by omega⟩
      · rintro (⟨h1, h2⟩ | ⟨j, e, h1, h2, h3⟩)
        · exact ⟨0, c, rfl, h1, by simpa using h2⟩
        · exact ⟨j + 1, e, by simpa using h1, h2, by omega⟩
    rw [hstep, givingGo, ← ih]
    by_cases hc : givesB c = true
    · rw [if_pos hc, List.mem_cons]
      simp [hc]
    · rw [if_neg hc]
      simp [hc]
theorem with_all (x : TF) : withE x (giving x) = x := by
  have key : ∀ (l : List Ev) (n : Int) (L : List Int), (∀ (j : Nat) e, l[j]? = some e → givesB e = true → (n + (j : Int)) ∈ L) → withGo L l n = l := by
    intro l
    induction l with
    | nil => intro n L _; rfl
    | cons c l ih =>
      intro n L h
      rw [withGo, if_pos, ih]
      · intro j e h1 h2
        rw [show n + 1 + (j : Int) = n + ((j + 1 : Nat) : Int) by omega]
        exact h (j + 1) e (by simpa using h1) h2
      · cases hg : givesB c with
        | false => rfl
        | true =>
          have := h 0 c rfl hg
          simpa using this
  unfold withE
  have := key x.events 0 (giving x) fun j e h1 h2 => mem_giving.2 ⟨j, e, h1, h2, rfl⟩
  rw [this]
theorem giving_sorted : ∀ (l : List Ev) (n : Int), (givingGo l n).Pairwise (· < ·)
  | [], _ => .nil
  | c :: l, n => by
    rw [givingGo]
    have ih := giving_sorted l (n + 1)
    split
    · refine List.pairwise_cons.2 ⟨fun m hm => ?_, ih⟩
      obtain ⟨j, e, _, _, h3⟩ := mem_giving.1 hm
      omega
    · exact ih
end Go.TM.Tr
end
section
namespace Go.TM.Tr
def inB (n a b : Int) : Bool := decide (a ≤ n) && decide (n ≤ b)
def dayB (n : Int) : Bool := inB n 0 9999
def firstT {α : Type} (f : Nat → α → Int) : Nat → List α → Int
  | _, [] => 0
  | i, x :: l => if f i x ≠ 0 then f i x else firstT f (i + 1) l
theorem firstT_zero {α : Type} {f : Nat → α → Int} : ∀ {l : List α} {i : Nat}, firstT f i l = 0 ↔ ∀ (j : Nat) x, l[j]? = some x → f (i + j) x = 0
  | [], i => by simp [firstT]
  | y :: l, i => by
    rw [firstT]
    by_cases h : f i y ≠ 0
    · rw [if_pos h]
      exact ⟨fun h1 => absurd h1 h, fun h1 => absurd (h1 0 y rfl) h⟩
    · rw [if_neg h, firstT_zero]
      constructor
      · intro h1 j x hx
        cases j with
        | zero => simp at hx; subst hx; simpa using h
        | succ j => rw [show i + (j + 1) = i + 1 + j by omega]; exact h1 j x (by simpa using hx)
      · intro h1 j x hx
        rw [show i + 1 + j = i + (j + 1) by omega]; exact h1 (j + 1) x (by simpa using hx)
def stepT (l : List Int) (below : Int) (i : Nat) (n : Int) : Int := if inB n 0 (below - 1) = false then 6 else if 0 < i ∧ n ≤ l.getD (i - 1) 0 then 7 else 0
def itemsT (l : List Int) (below : Int) : Int := firstT (stepT l below) 0 l
def eventT (x : TF) (e : Ev) : Int :=
  if (inB e.kind 0 6 && (dayB e.day && dayB e.since)) = false then 1
  else if inB e.land 0 (x.lands - 1) = false then 6
  else if itemsT e.items x.items ≠ 0 then itemsT e.items x.items
  else if (e.kind = 4 ∧ e.land ≠ 0) ∨ (e.kind ≠ 4 ∧ e.kind ≠ 6 ∧ e.since ≠ 0) then 1
  else if e.since > e.day then 7 else 0
def checkT (x : TF) : Int :=
  if (inB x.items 0 5 && (inB x.lands 1 3 && (dayB x.start && (dayB x.depend && (dayB x.refuse && dayB x.turn))))) = false then 1
  else if 10 < x.events.length then 2 else firstT (fun _ e => eventT x e) 0 x.events
theorem check_numbers {x : TF} (h : checkT x = 0) : (0 ≤ x.items ∧ x.items ≤ 5) ∧ (1 ≤ x.lands ∧ x.lands ≤ 3) ∧ (0 ≤ x.start ∧ x.start ≤ 9999) ∧ (0 ≤ x.depend ∧ x.depend ≤ 9999) ∧ (0 ≤ x.refuse ∧ x.refuse ≤ 9999) ∧ (0 ≤ x.turn ∧ x.turn ≤ 9999) ∧ x.events.length ≤ 10 := by
  unfold checkT at h
  split at h
  · cases h
  · rename_i h1
    split at h
    · cases h
    · rename_i h2
      simp [inB, dayB] at h1
      omega
theorem check_event {x : TF} (h : checkT x = 0) : ∀ e ∈ x.events, eventT x e = 0 := by
  intro e he
  obtain ⟨j, hj⟩ := List.mem_iff_getElem?.1 he
  unfold checkT at h
  split at h
  · cases h
  · split at h
    · cases h
    · exact firstT_zero.1 h j e hj
structure EventOk (x : TF) (e : Ev) : Prop where
  kind : 0 ≤ e.kind ∧ e.kind ≤ 6
  day : 0 ≤ e.day ∧ e.day ≤ 9999
  since : 0 ≤ e.since ∧ e.since ≤ e.day
  land : 0 ≤ e.land ∧ e.land < x.lands
  items : itemsT e.items x.items = 0
  fall : e.kind = 4 → e.land = 0
  date : e.kind ≠ 4 → e.kind ≠ 6 → e.since = 0
theorem event_ok {x : TF} {e : Ev} : eventT x e = 0 ↔ EventOk x e := by
  unfold eventT
  constructor
  · intro h
    split at h
    · cases h
    · rename_i h1
      split at h
      · cases h
      · rename_i h2
        split at h
        · rename_i h3; exact absurd h h3
        · rename_i h3
          split at h
          · cases h
          · rename_i h4
            split at h
            · cases h
            · rename_i h5
              simp [inB, dayB] at h1 h2
              simp only [ne_eq, Decidable.not_not] at h3
              exact ⟨by omega, by omega, by omega, by omega, h3, by omega, by omega⟩
  · intro h
    obtain ⟨a, b, c, d, e', f, g⟩ := h
    rw [if_neg (by simp [inB, dayB]; omega), if_neg (by simp [inB]; omega), if_neg (by simp [e']), if_neg (by omega), if_neg (by omega)]
theorem check_ok {x : TF} (h : checkT x = 0) : Ok x := fun e he => by
  have := event_ok.1 (check_event h e he)
  obtain ⟨_, b, c, _⟩ := this
  omega
end Go.TM.Tr
end
section
namespace Go.TM.Tr
theorem sorted_one : ∀ {l m : List Int}, l.Pairwise (· < ·) → m.Pairwise (· < ·) → (∀ v, v ∈ l ↔ v ∈ m) → l = m
  | [], [], _, _, _ => rfl
  | [], b :: m, _, _, h => by simpa using (h b).2 (by simp)
  | a :: l, [], _, _, h => by simpa using (h a).1 (by simp)
  | a :: l, b :: m, hl, hm, h => by
    have l1 := List.pairwise_cons.1 hl
    have m1 := List.pairwise_cons.1 hm
    have hab : a = b := by
      rcases List.mem_cons.1 ((h a).1 (by simp)) with e | e
      · exact e
      · rcases List.mem_cons.1 ((h b).2 (by simp)) with e2 | e2
        · exact e2.symm
        · have := m1.1 a e
          have := l1.1 b e2
          omega
    subst hab
    congr 1
    refine sorted_one l1.2 m1.2 fun v => ?_
    constructor
    · intro hv
      rcases List.mem_cons.1 ((h v).1 (List.mem_cons_of_mem _ hv)) with e | e
      · have := l1.1 v hv; omega
      · exact e
    · intro hv
      rcases List.mem_cons.1 ((h v).2 (List.mem_cons_of_mem _ hv)) with e | e
      · have := m1.1 v hv; omega
      · exact e
structure IsDays (x : TF) (l : List Int) : Prop where
  up : l.Pairwise (· < ·)
  mem : ∀ v, v ∈ l ↔ v = 0 ∨ v = 10000 ∨ ∃ e ∈ x.events, e.day = v
theorem IsDays.one {x : TF} {l m : List Int} (a : IsDays x l) (b : IsDays x m) : l = m := sorted_one a.up b.up fun v => by rw [a.mem, b.mem]
def spansT (x : TF) (k i : Int) (l : List Int) : List Sp := spansGo (fun d => decide (0 ≤ dateOn x k i d)) l []
end Go.TM.Tr
end
section
namespace Go.TM.Tr
def cmpI (x y : Int) : Int := if x < y then -1 else if x > y then 1 else 0
def cmpL : List Int → List Int → Int
  | [], [] => 0
  | [], _ :: _ => -1
  | _ :: _, [] => 1
  | x :: xs, y :: ys => if cmpI x y ≠ 0 then cmpI x y else cmpL xs ys
def fewerF (a b : List Int) : Int := if a.length ≠ b.length then (a.length : Int) - b.length else cmpL a b
theorem cmpI_neg (x y : Int) : cmpI y x = - cmpI x y := by unfold cmpI; repeat' split <;> omega
theorem cmpI_zero {x y : Int} : cmpI x y = 0 ↔ x = y := by unfold cmpI; repeat' split <;> omega
theorem cmpL_neg : ∀ a b : List Int, cmpL b a = - cmpL a b := by
  intro a
  induction a with
  | nil => intro b; cases b <;> rfl
  | cons x a ih =>
    intro b
    cases b with
    | nil => rfl
    | cons y b =>
      simp only [cmpL]
      rw [cmpI_neg x y, ih b]
      by_cases e : cmpI x y = 0
      · simp [e]
      · rw [if_pos (by omega), if_pos e]
theorem cmpL_trans : ∀ a b c : List Int, cmpL a b ≤ 0 → cmpL b c ≤ 0 → cmpL a c ≤ 0 := by
  intro a
  induction a with
  | nil => intro b c _ _; cases c <;> simp [cmpL]
  | cons x a ih =>
    intro b c h1 h2
    cases b with
    | nil => simp [cmpL] at h1
    | cons y b =>
      cases c with
      | nil => simp [cmpL] at h2
      | cons z c =>
        simp only [cmpL] at h1 h2 ⊢
        have := ih b c
        unfold cmpI at h1 h2 ⊢
        by_cases a1 : x < y
        · by_cases a2 : y < z
          · rw [if_pos (by rw [if_pos (show x < z by omega)]; omega), if_pos (show x < z by omega)]; omega
          · by_cases a3 : y = z
            · subst a3; simp [a1]
            · have : y > z := by omega
              simp [a2, this] at h2
        · by_cases a4 : x = y
          · subst a4
            simp at h1
            by_cases a2 : x < z
            · simp [a2]
            · by_cases a3 : x = z
              · subst a3; simp at h2 ⊢; exact this h1 h2
              · have : x > z := by omega
                simp [a2, this] at h2
          · have : x > y := by omega
            simp [a1, this] at h1
theorem fewer_neg (a b : List Int) : fewerF b a = - fewerF a b := by
  unfold fewerF
  by_cases e : a.length = b.length
  · rw [if_neg (by omega), if_neg (by omega), cmpL_neg a b]
  · rw [if_pos (by omega), if_pos (by omega)]; omega
theorem fewer_trans {a b c : List Int} (h1 : fewerF a b ≤ 0) (h2 : fewerF b c ≤ 0) : fewerF a c ≤ 0 := by
  unfold fewerF at *
  by_cases e1 : a.length = b.length
  · rw [if_neg (by omega)] at h1
    by_cases e2 : b.length = c.length
    · rw [if_neg (by omega)] at h2
      rw [if_neg (by omega)]
      exact cmpL_trans a b c h1 h2
    · rw [if_pos (by omega)] at h2
      rw [if_pos (by omega)]; omega
  · rw [if_pos (by omega)] at h1
    by_cases e2 : b.length = c.length
    · rw [if_pos (by omega)]; omega
    · rw [if_pos (by omega)] at h2
      rw [if_pos (by omega)]; omega
theorem fewer_self (a : List Int) : fewerF a a ≤ 0 := by
  have := fewer_neg a a
  omega
def tailsS : List Int → List (List Int)
  | [] => []
  | x :: r => (([] : List Int) :: tailsS r).map (x :: ·) ++ tailsS r
def subl (l : List Int) : List (List Int) := [] :: tailsS l
theorem mem_subl {l m : List Int} (h : m.Sublist l) : m ∈ subl l := by
  induction h with
  | slnil => simp [subl]
  | @cons l₁ l₂ a h ih =>
    unfold subl at ih ⊢
    rw [tailsS]
    rcases List.mem_cons.1 ih with rfl | ih
    · simp
    · exact List.mem_cons_of_mem _ (List.mem_append_right _ ih)
  | @cons_cons l₁ l₂ a h ih =>
    unfold subl at ih ⊢
    rw [tailsS]
    exact List.mem_cons_of_mem _ (List.mem_append_left _ (List.mem_map.2 ⟨l₁, ih, rfl⟩))
theorem subl_sub : ∀ {l m : List Int}, m ∈ subl l → m.Sublist l := by
  intro l
  induction l with
  | nil => intro m h; simp [subl, tailsS] at h; subst h; exact List.Sublist.slnil
  | cons x l ih =>
    intro m h
    unfold subl at h ih
    rw [tailsS] at h
    simp only [List.mem_cons, List.mem_append, List.mem_map] at h
    rcases h with rfl | ⟨w, hw, rfl⟩ | h
    · exact List.nil_sublist _
    · exact (ih (by simpa using hw)).cons_cons x
    · exact (ih (by simp [h])).cons x
theorem bits_of (p : Nat → Bool) : ∀ n, ∃ j, j < 2 ^ n ∧ ∀ b, b < n → j.testBit b = p b := by
  intro n
  induction n with
  | zero => exact ⟨0, by omega, fun b hb => by omega⟩
  | succ n ih =>
    obtain ⟨j, hj, hb⟩ := ih
    by_cases e : p n = true
    · refine ⟨2 ^ n + j, by rw [Nat.pow_succ]; omega, fun b hlt => ?_⟩
      by_cases eb : b = n
      · subst eb
        rw [Nat.testBit_two_pow_add_eq, Nat.testBit_lt_two_pow hj, e]; rfl
      · rw [Nat.testBit_two_pow_add_gt (by omega)]; exact hb b (by omega)
    · refine ⟨j, by rw [Nat.pow_succ]; omega, fun b hlt => ?_⟩
      by_cases eb : b = n
      · subst eb
        rw [Nat.testBit_lt_two_pow hj]; simpa using e
      · exact hb b (by omega)
theorem filter_sub {l m : List Int} (h : m.Sublist l) : l.Nodup → l.filter (fun x => decide (x ∈ m)) = m := by
  induction h with
  | slnil => intro _; rfl
  | @cons l₁ l₂ a h ih =>
    intro hn
    have hn' := List.nodup_cons.1 hn
    have : a ∉ l₁ := fun hm => hn'.1 (h.subset hm)
    rw [List.filter_cons, if_neg (by simp [this])]
    exact ih hn'.2
  | @cons_cons l₁ l₂ a h ih =>
    intro hn
    have hn' := List.nodup_cons.1 hn
    rw [List.filter_cons, if_pos (by simp)]
    congr 1
    rw [← ih hn'.2]
    refine List.filter_congr fun x hx => ?_
    have hne : x ≠ a := by rintro rfl; exact hn'.1 hx
    rw [ih hn'.2]
    simp [hne]
theorem cmpL_self : ∀ l : List Int, cmpL l l = 0
  | [] => rfl
  | x :: l => by rw [cmpL, if_neg (by simp [cmpI]), cmpL_self l]
theorem cmpL_eq : ∀ {a b : List Int}, cmpL a b = 0 → a = b
  | [], [], _ => rfl
  | [], _ :: _, h => by simp [cmpL] at h
  | _ :: _, [], h => by simp [cmpL] at h
  | x :: a, y :: b, h => by
    rw [cmpL] at h
    split at h
    · rename_i h1; exact absurd h h1
    · rename_i h1
      have e : x = y := cmpI_zero.1 (by simpa using h1)
      rw [e, cmpL_eq h]
theorem fewer_eq {a b : List Int} (h1 : fewerF a b ≤ 0) (h2 : fewerF b a ≤ 0) : a = b := by
  rw [fewer_neg a b] at h2
  have h0 : fewerF a b = 0 := by omega
  unfold fewerF at h0
  split at h0
  · rename_i h; omega
  · exact cmpL_eq h0
theorem subl_sorted : ∀ {l : List Int}, l.Pairwise (· < ·) → (subl l).Pairwise fun a b => cmpL a b < 0 := by
  intro l
  induction l with
  | nil => intro _; simp [subl, tailsS]
  | cons x l ih =>
    intro h
    obtain ⟨hx, hl⟩ := List.pairwise_cons.1 h
    have ih := ih hl
    have hne : ∀ b ∈ tailsS l, ∃ y r, b = y :: r ∧ y ∈ l := by
      have key : ∀ (l : List Int), ∀ b ∈ tailsS l, ∃ y r, b = y :: r ∧ y ∈ l := by
        intro l
        induction l with
        | nil => intro b hb; simp [tailsS] at hb
        | cons z l ih =>
          intro b hb
          rw [tailsS] at hb
          simp only [List.mem_append, List.mem_map] at hb
          rcases hb with ⟨w, _, rfl⟩ | hb
          · exact ⟨z, w, rfl, by simp⟩
          · obtain ⟨y, r, h1, h2⟩ := ih b hb
            exact ⟨y, r, h1, by simp [h2]⟩
      exact key l
    unfold subl at ih ⊢
    rw [tailsS]
    refine List.pairwise_cons.2 ⟨fun b hb => ?_, List.pairwise_append.2 ⟨?_, (List.pairwise_cons.1 ih).2, fun a ha b hb => ?_⟩⟩
    · have : ∃ y r, b = y :: r := by
        rcases List.mem_append.1 hb with hb | hb
        · obtain ⟨w, _, rfl⟩ := List.mem_map.1 hb; exact ⟨x, w, rfl⟩
        · obtain ⟨y, r, h1, _⟩ := hne b hb; exact ⟨y, r, h1⟩
      obtain ⟨y, r, rfl⟩ := this
      simp [cmpL]
    · refine List.Pairwise.map _ (fun a b hab => ?_) ih
      rw [cmpL, if_neg (by simp [cmpI])]; exact hab
    · obtain ⟨w, _, rfl⟩ := List.mem_map.1 ha
      obtain ⟨y, r, rfl, hy⟩ := hne b hb
      have hlt := hx y hy
      have : cmpI x y = -1 := by unfold cmpI; rw [if_pos hlt]
      rw [cmpL, this, if_pos (by omega)]; omega
def scanS (ok : List Int → Bool) : List Int → List (List Int) → List Int
  | best, [] => best
  | best, l :: ls => scanS ok (if decide (l.length < best.length) && ok l then l else best) ls
theorem scan_spec (ok : List Int → Bool) : ∀ (ls : List (List Int)) (best : List Int), (∀ l ∈ ls, l.length = best.length → cmpL best l ≤ 0) → ls.Pairwise (fun a b => cmpL a b < 0) → ok best = true →
    ok (scanS ok best ls) = true ∧ (scanS ok best ls = best ∨ scanS ok best ls ∈ ls) ∧ fewerF (scanS ok best ls) best ≤ 0 ∧ ∀ l ∈ ls, ok l = true → fewerF (scanS ok best ls) l ≤ 0 := by
  intro ls
  induction ls with
  | nil => intro best _ _ hb; exact ⟨hb, .inl rfl, fewer_self _, fun l hl => by simp at hl⟩
  | cons l ls ih =>
    intro best h1 h2 hb
    obtain ⟨h3, h4⟩ := List.pairwise_cons.1 h2
    rw [scanS]
    by_cases e : (decide (l.length < best.length) && ok l) = true
    · rw [if_pos e]
      simp only [Bool.and_eq_true, decide_eq_true_eq] at e
      obtain ⟨a, b, c, d⟩ := ih l (fun l' hl' _ => Int.le_of_lt (h3 l' hl')) h4 e.2
      have hlb : fewerF l best ≤ 0 := by unfold fewerF; rw [if_pos (by omega)]; omega
      refine ⟨a, .inr ?_, fewer_trans c hlb, fun l' hl' ho => ?_⟩
      · rcases b with b | b
        · rw [b]; simp
        · simp [b]
      · rcases List.mem_cons.1 hl' with rfl | hl'
        · exact c
        · exact d l' hl' ho
    · rw [if_neg e]
      obtain ⟨a, b, c, d⟩ := ih best (fun l' hl' => h1 l' (by simp [hl'])) h4 hb
      refine ⟨a, ?_, c, fun l' hl' ho => ?_⟩
      · rcases b with b | b
        · exact .inl b
        · exact .inr (by simp [b])
      · rcases List.mem_cons.1 hl' with rfl | hl'
        · have hlen : best.length ≤ l'.length := by
            apply Nat.le_of_not_lt
            intro hlt
            exact e (by simp [hlt, ho])
          refine fewer_trans c ?_
          unfold fewerF
          by_cases he : best.length = l'.length
          · rw [if_neg (by omega)]; exact h1 l' (by simp) he.symm
          · rw [if_pos (by omega)]; omega
        · exact d l' hl' ho
end Go.TM.Tr
end
section
namespace Go.TM.Tr
def needT (x : TF) (k i d : Int) : List Int := scanS (holdsB x k i d) (giving x) (subl (giving x))
theorem holds_all (x : TF) (k i d : Int) : holdsB x k i d (giving x) = decide (0 ≤ dateOn x k i d) := by
  unfold holdsB; rw [with_all]
theorem need_spec {x : TF} {k i d : Int} (h : 0 ≤ dateOn x k i d) : holdsB x k i d (needT x k i d) = true ∧ (needT x k i d).Sublist (giving x) ∧ ∀ l, l.Sublist (giving x) → holdsB x k i d l = true → fewerF (needT x k i d) l ≤ 0 := by
  have hs : (giving x).Pairwise (· < ·) := giving_sorted x.events 0
  have hall : holdsB x k i d (giving x) = true := by rw [holds_all, decide_eq_true h]
  obtain ⟨a, b, _, c⟩ := scan_spec (holdsB x k i d) (subl (giving x)) (giving x) (fun l hl e => by
    have := (subl_sub hl).eq_of_length e
    rw [this, cmpL_self]; exact Int.le_refl _) (subl_sorted hs) hall
  refine ⟨a, ?_, fun l hl hk => c l (mem_subl hl) hk⟩
  unfold needT
  rcases b with b | b
  · rw [b]; exact List.Sublist.refl _
  · exact subl_sub b
theorem need_one {x : TF} {k i d : Int} (h : 0 ≤ dateOn x k i d) {l : List Int} (h1 : l.Sublist (giving x)) (h2 : holdsB x k i d l = true) (h3 : ∀ m, m.Sublist (giving x) → holdsB x k i d m = true → fewerF l m ≤ 0) : l = needT x k i d := by
  obtain ⟨a, b, c⟩ := need_spec h
  exact fewer_eq (h3 _ b a) (c l h1 h2)
theorem none_holds {x : TF} (v : Ok x) {k i d : Int} (h : ¬ 0 ≤ dateOn x k i d) {l : List Int} (hl : l.Sublist (giving x)) : holdsB x k i d l = false := by
  cases hb : holdsB x k i d l with
  | false => rfl
  | true =>
    have := holds_more v (M := giving x) (fun n hn => hl.subset hn) hb
    rw [holds_all] at this
    exact absurd (by simpa using this) h
end Go.TM.Tr
end
section
namespace Go.TM
open Go Go.Conc
theorem OwnRow.le {el : TypeId} {k : Nat} {h h' : Cells} {p : Option Addr} {n c : Nat} {vs : List Value} (hl : h.le h') (o : OwnRow el k h p n c vs) : OwnRow el k h' p n c vs := by
  obtain ⟨h1, h2 | ⟨r, cs, e1, e2, e3, e4, e5⟩⟩ := o
  · exact ⟨h1, .inl h2⟩
  · exact ⟨h1, .inr ⟨r, cs, e1, hl _ _ e2, e3, e4, e5⟩⟩
def NewIn (h₀ : Cells) (p : Option Addr) : Prop := ∀ a, p = some a → h₀ a.block = none
theorem NewIn.none {h₀ : Cells} : NewIn h₀ none := fun a h => by cases h
theorem after_append {h₀ h h' : Cells} {p p' : Option Addr} (hle : h₀.le h) (hp : NewIn h₀ p) (hk : KeptBut p h h') (hp' : p' = p ∨ ∃ r, p' = some ⟨r, 0, none⟩ ∧ h r = none) : h₀.le h' ∧ NewIn h₀ p' := by
  refine ⟨fun r x hr => hk r x (hle r x hr) fun a ha e => ?_, ?_⟩
  · have := hp a ha; rw [e, hr] at this; cases this
  · rcases hp' with rfl | ⟨r, rfl, hr⟩
    · exact hp
    · intro a ha
      cases ha
      cases hx : h₀ r with
      | none => rfl
      | some x => rw [hle _ _ hx] at hr; cases hr
inductive Rows {α : Type} (Enc : α → List Value → Prop) : List Value → List α → Prop
  | nil : Rows Enc [] []
  | snoc {vs : List Value} {l : List α} {x : α} {ws : List Value} : Rows Enc vs l → Enc x ws → Rows Enc (vs ++ ws) (l ++ [x])
theorem Rows.len {α : Type} {Enc : α → List Value → Prop} {k : Nat} (hk : ∀ x ws, Enc x ws → ws.length = k) {vs : List Value} {l : List α} (r : Rows Enc vs l) : vs.length = l.length * k := by
  induction r with
  | nil => simp
  | snoc r he ih => simp [ih, hk _ _ he, Nat.add_mul]
theorem Rows.at {α : Type} {Enc : α → List Value → Prop} {k : Nat} (hk : ∀ x ws, Enc x ws → ws.length = k) {vs : List Value} {l : List α} (r : Rows Enc vs l) : ∀ (i : Nat) x, l[i]? = some x → ∃ ws, Enc x ws ∧ ∀ (j : Nat) w, ws[j]? = some w → vs[i * k + j]? = some w := by
  induction r with
  | nil => intro i x h; simp at h
  | snoc r he ih =>
    rename_i vs l y ws
    intro i x hi
    have hlen := r.len hk
    by_cases hlt : i < l.length
    · rw [List.getElem?_append_left hlt] at hi
      obtain ⟨us, h1, h2⟩ := ih i x hi
      refine ⟨us, h1, fun j w hj => ?_⟩
      have hjl : j < us.length := (List.getElem?_eq_some_iff.1 hj).1
      rw [hk _ _ h1] at hjl
      have : i * k + j < vs.length := by
        rw [hlen]
        calc i * k + j < i * k + k := by omega
          _ = (i + 1) * k := by rw [Nat.add_mul]; omega
          _ ≤ l.length * k := Nat.mul_le_mul_right _ hlt
      rw [List.getElem?_append_left this]; exact h2 j w hj
    · have hil : i = l.length := by
        have := (List.getElem?_eq_some_iff.1 hi).1
        simp at this; omega
      subst hil
      rw [List.getElem?_append_right (Nat.le_refl _), Nat.sub_self] at hi
      simp at hi; subst hi
      refine ⟨ws, he, fun j w hj => ?_⟩
      rw [List.getElem?_append_right (by omega), hlen]
      rw [show l.length * k + j - l.length * k = j by omega]; exact hj
theorem Rows.sl {α : Type} {E : Cells → Addr → α → Prop} {Enc : α → List Value → Prop} {el : TypeId} {k : Nat} {h' : Cells} {p : Option Addr} {n c : Nat} {vs : List Value} {l : List α} (hk : ∀ x ws, Enc x ws → ws.length = k) (hpos : 0 < k) (hE : ∀ a x ws, Enc x ws → (∀ (j : Nat) w, ws[j]? = some w → h'.cell? (a.add j) = some w) → E h' a x)
    (own : OwnRow el k h' p n c vs) (r : Rows Enc vs l) (hb : l.length < 4611686018427387904) : Sl E k h' p n l := by
  have hlen := r.len hk
  obtain ⟨h1, h2⟩ := own
  have hn : n = l.length := Nat.eq_of_mul_eq_mul_right hpos (h1.symm.trans hlen)
  refine ⟨hn, hb, fun i x hx => ?_⟩
  obtain ⟨ws, e1, e2⟩ := r.at hk i x hx
  rcases h2 with ⟨rfl, rfl, rfl⟩ | ⟨b, cs, rfl, hr, hcs, hnc, hv⟩
  · have : l = [] := List.eq_nil_of_length_eq_zero hn.symm
    subst this; simp at hx
  · refine ⟨_, rfl, hE _ _ _ e1 fun j w hj => ?_⟩
    rw [add_plain, add_plain, Nat.zero_add]
    simp only [Cells.cell?, hr, Option.isSome_none, Bool.false_eq_true, if_false]
    exact hv _ _ (e2 j w hj)
def IntEnc (x : Int) (ws : List Value) : Prop := ws = [.int .i64 x]
theorem IntEnc.len : ∀ x ws, IntEnc x ws → ws.length = 1 := by rintro x _ rfl; rfl
theorem IntEnc.e {h' : Cells} : ∀ a x ws, IntEnc x ws → (∀ (j : Nat) w, ws[j]? = some w → h'.cell? (a.add j) = some w) → IntE h' a x := by
  rintro a x _ rfl hc
  exact hc 0 _ rfl
structure Growing {α : Type} (Enc : α → List Value → Prop) (el : TypeId) (k : Nat) (h₀ h : Cells) (p : Option Addr) (n c : Nat) (l : List α) : Prop where
  row : ∃ vs, OwnRow el k h p n c vs ∧ Rows Enc vs l
  new : NewIn h₀ p
theorem Growing.nil {α : Type} {Enc : α → List Value → Prop} {el : TypeId} {k : Nat} {h₀ h : Cells} : Growing Enc el k h₀ h none 0 0 [] := ⟨⟨[], OwnRow.nil, .nil⟩, NewIn.none⟩
theorem Growing.le {α : Type} {Enc : α → List Value → Prop} {el : TypeId} {k : Nat} {h₀ h h' : Cells} {p : Option Addr} {n c : Nat} {l : List α} (hl : h.le h') (g : Growing Enc el k h₀ h p n c l) : Growing Enc el k h₀ h' p n c l := by
  obtain ⟨vs, h1, h2⟩ := g.row
  exact ⟨⟨vs, h1.le hl, h2⟩, g.new⟩
theorem Growing.count {α : Type} {Enc : α → List Value → Prop} {el : TypeId} {k : Nat} {h₀ h : Cells} {p : Option Addr} {n c : Nat} {l : List α} (hk : ∀ x ws, Enc x ws → ws.length = k) (hpos : 0 < k) (g : Growing Enc el k h₀ h p n c l) : n = l.length := by
  obtain ⟨vs, h1, h2⟩ := g.row
  exact Nat.eq_of_mul_eq_mul_right hpos (h1.1.symm.trans (h2.len hk))
theorem Growing.sl {α : Type} {E : Cells → Addr → α → Prop} {Enc : α → List Value → Prop} {el : TypeId} {k : Nat} {h₀ h : Cells} {p : Option Addr} {n c : Nat} {l : List α} (hk : ∀ x ws, Enc x ws → ws.length = k) (hpos : 0 < k) (hE : ∀ a x ws, Enc x ws → (∀ (j : Nat) w, ws[j]? = some w → h.cell? (a.add j) = some w) → E h a x)
    (g : Growing Enc el k h₀ h p n c l) (hb : l.length < 4611686018427387904) : Sl E k h p n l := by
  obtain ⟨vs, h1, h2⟩ := g.row
  exact h2.sl hk hpos hE h1 hb
section
variable {P : Program} {X : XP} {Q : Leaf → LH → Prop}
theorem t_grow {α : Type} {Enc : α → List Value → Prop} {h h₀ : LH} {k : Value → T} {ts : Array TypeId} {ty sT xT el xe : TypeId} {s by_ : Nat} {z : Value} {p : Option Addr} {n c mc : Nat} {b : Addr} {l : List α} {x : α} {ws : List Value} (h0 : ts[0]? = some sT) (h1 : ts[1]? = some xT) (hu : P.underlying sT = some (.slice el)) (hx : P.underlying xT = some (.slice xe))
    (hi : (P.info? el).map (fun i => (i.size, i.bytes, i.zero)) = some (s, by_, some z)) (hsz : z.cells.size = s) (hb : by_ ≤ 1024) (hn : n + 1 ≤ 2 ^ 30) (g : Growing Enc el s h₀.get h.get p n c l) (hle : h₀.le h) (he : Enc x ws) (hl : ws.length = s) (hc : ∀ (j : Nat) v, ws[j]? = some v → h.get.cell? (b.add j) = some v) (one : ∀ v ∈ ws, isOne v = true)
    (hk : ∀ p' c' h', h₀.le h' → (∀ r y, (∀ a, p = some a → a.block ≠ r) → h.get r = some y → h'.get r = some y) → Growing Enc el s h₀.get h'.get p' (n + 1) c' (l ++ [x]) → (k (.slice p' (n + 1) c')).wp X P Q h') : (T.sem false (Builtin.append_ ts ty #[.slice p n c, .slice (some b) 1 mc]) k).wp X P Q h := by
  obtain ⟨vs, o, r⟩ := g.row
  refine t_append h0 h1 hu hx hi hsz hb hn o (by rw [hl, Nat.one_mul]) hc one (by omega) fun p' c' h' a b c => ?_
  obtain ⟨l1, l2⟩ := after_append hle.1 g.new b c
  refine hk p' c' _ ⟨l1, hle.2⟩ (fun r y hr hy => b r y hy hr) ⟨⟨vs ++ ws, a, .snoc r he⟩, l2⟩
end
end Go.TM
end
section
namespace Go.TM
open Go Go.Conc
variable {P : Program}
theorem spawn_wk {f : FuncId} {first args cap hargs : Array Value} {hc : Cells} {s : Script} (hne : s ≠ []) (ha : (first ++ args) ++ cap = hargs) (c : FWK XW P .deferred f hargs ⟨hc, [], [], s⟩ fun _ _ => False) :
    Wk P (G (baseOf P [deferOf (.func (.func f) first cap) args]) []) ⟨hc, [], [], s⟩ := by
  obtain ⟨⟨fn, hf, hb, hname⟩, hrun⟩ := c
  have hgo := hrun false _ (wk_closed P) [baseOf P []] (.inr ⟨rfl, rfl⟩) (fun _ _ _ _ _ _ _ hq => hq.elim) hne
  have hbn : fn.body.isNone = false := by cases h : fn.body <;> simp_all
  refine .step (N := fun g h => g = G (Frame.enter P f hargs .deferred) [baseOf P []] ∧ h = ⟨hc, [], [], s⟩) hne ?_ ?_
  · intro w hfit
    refine ⟨_, w, #[], hc, ?_, Tr.refl hfit, by simp, rfl, rfl⟩
    have hcall : (callFunc f hargs).runT P w #[] = (.ok (.enter f hargs) w, #[]) := by
      show ((program).bind _).runT P w #[] = _
      simp only [program, Sem.bind, Sem.runT, hf, hname, hbn, Bool.false_eq_true, if_false]
      rfl
    have h1 : (callFunc f hargs).run P w = .ok (.enter f hargs) w := by rw [← Sem.runT_fst _ _ _ #[], hcall]
    have h2 : (callFunc f hargs).events P w #[] = #[] := by show ((callFunc f hargs).runT P w #[]).2 = _; rw [hcall]
    have hinv : invoke (deferOf (.func (.func f) first cap) args).target (deferOf (.func (.func f) first cap) args).args = callFunc f hargs := by rw [← ha]; rfl
    have hnil : ((deferOf (.func (.func f) first cap) args).target matches .nil) = false := rfl
    have hcd : ∀ fr cs, callDeferred P fr cs none (deferOf (.func (.func f) first cap) args) w = .go (G (Frame.enter P f hargs .deferred) (fr :: cs)) w (seen P fr.fn #[]) := by
      intro fr cs
      unfold callDeferred
      simp only [hinv, hnil, Bool.false_and, Bool.false_eq_true, if_false, hcall]
      rfl
    show unwind P false (baseOf P [deferOf (.func (.func f) first cap) args]) [] none w = _
    unfold unwind
    simp only [baseOf, deferOf]
    exact hcd _ _
  · rintro _ _ ⟨rfl, rfl⟩; exact hgo
theorem spawnW {f : FuncId} {first args cap hargs : Array Value} {h : LH} {Q : LH → Prop} (F : Nat → Bool) (hc : Cells) (s : Script) (hne : s ≠ []) (ha : (first ++ args) ++ cap = hargs) (hhc : ∀ r x, hc r = some x → x.1 = false ∧ freezeC F h.get r = some x)
    (hch : ∀ y ∈ s, y.1 ∈ h.chans) (c : FWK XW P .deferred f hargs ⟨hc, [], [], s⟩ fun _ _ => False) (hQ : Q { h with get := freezeC F h.get, pend := h.pend ++ [s] }) : SpawnW XT P (.func (.func f) first cap) args h Q := by
  intro main R hR fr cs _ _ hst k d hk
  obtain ⟨rfl, _, h2, _, _⟩ := hR.2
  refine h2 fr cs (h.add k) (fun r => F r && (h.get r).isSome) hc _ s ⟨hst⟩ ?_ hne hch (spawn_wk hne ha c) ?_
  · intro r x hx
    obtain ⟨a, b⟩ := hhc r x hx
    refine ⟨a, ?_⟩
    show freezeC _ (h.get.add k) r = _
    rw [freezeC_add]; exact Cells.add_left b
  · have e : freezeC (fun r => F r && (h.get r).isSome) (h.add k).get = (freezeC F h.get).add k := freezeC_add F h.get k
    rw [e]
    refine hk { h with get := freezeC F h.get, pend := h.pend ++ [s] } ?_ hQ
    intro r
    rcases d r with hr | hr
    · left; simp only [freezeC, hr]
    · exact .inr hr
theorem drop_add {a k : Cells} {c : Nat} (hk : k c = none) : dropC (a.add k) c = (dropC a c).add k := by
  funext r
  unfold dropC Cells.add
  by_cases e : r = c
  · subst e; simp [hk]
  · simp [e]
theorem upd_add {a k : Cells} {c : Nat} {x : Bool × Obj} : (a.add k).upd c x = (a.upd c x).add k := by
  funext r
  unfold Cells.upd Cells.add
  by_cases e : r = c <;> simp [e]
theorem Disj.drop {a k : Cells} (d : Disj a k) (c : Nat) : Disj (dropC a c) k := by
  intro r
  rcases d r with hr | hr
  · left; unfold dropC; split
    · rfl
    · exact hr
  · exact .inr hr
theorem SpawnW.opened {v : Value} {args : Array Value} {h : LH} {Q : LH → Prop} (c s : Nat) (hs : h.get c = some (true, .chan 0 #[] false s s false)) (hS : SpawnW XT P v args { h with get := dropC h.get c, chans := c :: h.chans } Q) : SpawnW XT P v args h Q := by
  intro main R hR fr cs hat hstk hst k d hk
  have hkc : k c = none := by
    rcases d c with h' | h'
    · rw [hs] at h'; cases h'
    · exact h'
  refine hR.2.2.2.2.1 _ (h.add k) c s (Cells.add_left hs) ?_
  have := hS main R hR fr cs hat hstk hst k (d.drop c) hk
  unfold LH.add at this ⊢
  simp only [drop_add hkc]
  exact this
theorem commW_recv {last : Bool} {cases : Array CommCase} {shape : CommShape} {h : LH} {Q : Value → LH → Prop} (recv : ∀ (k : Nat) (cc : CommCase), cases[k]? = some cc → ∃ c z, cc = rcase c z ∧ c ∈ h.chans) (some_ : h.pend ≠ [])
    (heads : ∀ s ∈ h.pend, ∃ (c : Nat) (φ : Value → Cells → Prop) (s' : Script) (k : Nat) (z : Value), s = (c, φ) :: s' ∧ cases[k]? = some (rcase c z))
    (hQ : ∀ pre φ s post (k : Nat) c v hv z, h.pend = pre ++ ((c, φ) :: s) :: post → cases[k]? = some (rcase c z) → Disj h.get hv → (∀ r x, hv r = some x → x.1 = true) → φ v hv →
      Q (commResult cases shape (k : Nat) v true) { h with get := h.get.add hv, pend := pre ++ cons' s post }) : CommW XT P last cases shape h Q := by
  intro main R hR fr cs _ _ _ hst k d hk
  obtain ⟨rfl, h1, _, _, _⟩ := hR.2
  refine h1 fr cs cases shape (h.add k) ⟨hst, recv, some_, heads⟩ ?_
  intro pre φ s post j c v hv z hp hcase hd hown hφ
  have d1 : Disj h.get hv := hd.of_add_left
  have d2 : Disj k hv := Disj.of_add_right d hd
  have e : ((h.get.add hv).add k) = ((h.get.add k).add hv) := Cells.add_swap d2.symm
  have := hk _ { h with get := h.get.add hv, pend := pre ++ cons' s post } (Disj.add d d2.symm) (hQ pre φ s post j c v hv z hp hcase d1 hown hφ)
  unfold LH.add at this
  simp only [e] at this
  exact this
theorem CommW.closed {last : Bool} {cases : Array CommCase} {shape : CommShape} {h : LH} {Q : Value → LH → Prop}
    (hC : CommW XT P last cases shape h fun v h' => Q v h' ∨ ∃ c ∈ h'.chans, h'.pend = [] ∧ ∀ s, h'.get c = none → Q v { h' with get := h'.get.upd c (true, .chan 0 #[] false s s false), chans := h'.chans.filter (· ≠ c) }) : CommW XT P last cases shape h Q := by
  intro main R hR fr cs hat hstk hl hst k d hk
  refine hC main R hR fr cs hat hstk hl hst k d ?_
  rintro v h' d' (hq | ⟨c, hc, hp, hq⟩)
  · exact hk v h' d' hq
  · refine hR.2.2.2.2.2 _ (h'.add k) c hc hp ?_
    intro hcn s
    have hhc : h'.get c = none := by
      cases hx : h'.get c with
      | none => rfl
      | some x => rw [show (h'.add k).get c = some x from Cells.add_left hx] at hcn; cases hcn
    have hkc : k c = none := by
      have := hcn
      rw [show (h'.add k).get c = k c from Cells.add_right hhc] at this; exact this
    have d2 : Disj (h'.get.upd c (true, .chan 0 #[] false s s false)) k := by
      intro r
      by_cases e : r = c
      · right; rw [e]; exact hkc
      · rw [Cells.upd_ne _ _ e]; exact d' r
    have := hk v _ d2 (hq s hhc)
    unfold LH.add at this ⊢
    simp only [upd_add]
    exact this
theorem commW_send {last : Bool} {c : Nat} {v z : Value} {φ : Value → Cells → Prop} {s : Script} {h : LH} {hv hr : Cells} {Q : Value → LH → Prop} (todo : h.todo = (c, φ) :: s) (get : h.get = hv.add hr) (disj : Disj hv hr) (own : ∀ r x, hv r = some x → x.1 = true)
    (val : φ v hv) (hl : s = [] → last = true) (hQ : s ≠ [] → Q undef { h with get := hr, todo := s }) : CommW XW P last #[scase c v z] .send h Q := by
  intro main R hR fr cs hat hstk hlast hst k d hk
  obtain ⟨rfl, h1⟩ := hR.2
  have hs : Sends P fr cs h c z v φ s hv hr := ⟨hat, hst, todo, get, disj, own, val⟩
  exact h1 fr cs (h.add k) c z v φ s hv (hr.add k) hstk (hs.frame d) (fun e => hlast (hl e)) fun hne => hk undef { h with get := hr, todo := s } (hs.rest d) (hQ hne)
end Go.TM
end
section
namespace Go.TM
open Go Go.Conc
variable {P : Program} {X : XP} {Q : Leaf → LH → Prop} {h : LH}
theorem t_spawn {v : Value} {args : Array Value} {k : T} (hs : SpawnW X P v args h fun h' => k.wp X P Q h') : (T.spawn v args k).wp X P Q h := hs
theorem t_comm {last : Bool} {cases : Array CommCase} {shape : CommShape} {k : Value → T} (hc : CommW X P last cases shape h fun v h' => (k v).wp X P Q h') : (T.comm last cases shape k).wp X P Q h := hc
theorem t_makeChan {t el : TypeId} {d : ChanDir} {s b : Nat} {z : Option Value} {K : Value → T} (hu : P.underlying t = some (.chan d el)) (hi : (P.info? el).map (fun i => (i.size, i.bytes, i.zero)) = some (s, b, z))
    (hk : ∀ r, h.get r = none → (K (.chan (some r))).wp X P Q { h with get := h.get.upd r (true, .chan 0 #[] false 0 0 false) }) : (T.sem false (Instr.makeChan t (.int .i64 0)) K).wp X P Q h := by
  obtain ⟨inf, g1, _, _, _⟩ := info_of hi
  refine t_sem (A := fun v h' => ∃ r, h.get r = none ∧ v = .chan (some r) ∧ h' = h.get.upd r (true, .chan 0 #[] false 0 0 false)) ?_ (by rintro v h' ⟨r, hr, rfl, rfl⟩; exact hk r hr)
  unfold Instr.makeChan
  have e : IntKind.i64.max = 9223372036854775807 := rfl
  simp only [asInt, asIntOf, lwp_bind, lwp_pure, lwp_underlying hu, lwp_typeInfo g1]
  rw [if_neg (by rw [e]; omega)]
  rw [lwp_bind]
  intro r hr
  exact ⟨r, hr, rfl, rfl⟩
theorem t_build0 {K : Value → T} {t el : TypeId} {s b : Nat} {z : Option Value} (hu : P.underlying t = some (.slice el)) (hi : (P.info? el).map (fun i => (i.size, i.bytes, i.zero)) = some (s, b, z))
    (hk : ∀ r, h.get r = none → (K (.slice (some ⟨r, 0, none⟩) 0 0)).wp X P Q { h with get := h.get.upd r (true, .cells #[] el (0, 0)) }) : (T.sem false (Instr.buildSlice t 0 #[]) K).wp X P Q h := by
  obtain ⟨inf, g1, _, _, _⟩ := info_of hi
  refine t_sem (A := fun v h' => ∃ r, h.get r = none ∧ v = .slice (some ⟨r, 0, none⟩) 0 0 ∧ h' = h.get.upd r (true, .cells #[] el (0, 0))) ?_ (by rintro v h' ⟨r, hr, rfl, rfl⟩; exact hk r hr)
  unfold Instr.buildSlice
  simp only [lwp_bind, lwp_underlying hu, lwp_sizeOf g1, Nat.zero_mul, lwp_pure]
  rw [if_neg (by omega)]
  simp only [if_true, lwp_bind, lwp_pure]
  have hf : Instr.fill (fun i => some (i * inf.size, inf.size)) (Array.map (fun x => (#[] : Array Value)[x % (#[] : Array Value).size]!) (Array.range 0)) (#[] : Array (Nat × Value)).toList = some #[] := by simp [Instr.fill]
  rw [hf]
  simp only [lwp_bind]
  exact lwp_newRow fun r hr => ⟨r, hr, rfl, rfl⟩
end Go.TM
end
section
namespace Go.TM
open Go Go.Conc
theorem Addr.add_add' (a : Addr) (x y : Nat) : (a.add x).add y = a.add (x + y) := by
  unfold Addr.add
  by_cases h1 : x = 0
  · subst h1; simp
  · by_cases h2 : y = 0
    · subst h2; simp [h1]
    · simp [h1, h2]; omega
def ToldE {α : Type} (E : Cells → Addr → α → Prop) (Enc : α → List Value → Prop) (k : Nat) (h : Cells) : Prop := ∀ a x, E h a x → ∃ ws, Enc x ws ∧ ws.length = k ∧ (∀ (j : Nat) w, ws[j]? = some w → h.cell? (a.add j) = some w) ∧ ∀ w ∈ ws, isOne w = true
theorem flat {α : Type} {E : Cells → Addr → α → Prop} {Enc : α → List Value → Prop} {k : Nat} {h : Cells} (he : ToldE E Enc k h) {b : Addr} {n : Nat} {l : List α} (s : Sl E k h (some b) n l) : ∀ i, i ≤ l.length → ∃ vs, Rows Enc vs (l.take i) ∧ vs.length = i * k ∧ (∀ (t : Nat) v, vs[t]? = some v → h.cell? (b.add t) = some v) ∧ ∀ v ∈ vs, isOne v = true := by
  intro i
  induction i with
  | zero => intro _; exact ⟨[], .nil, by simp, fun t v hv => by simp at hv, fun v hv => by simp at hv⟩
  | succ i ih =>
    intro hi
    obtain ⟨vs, h1, h2, h3, h4⟩ := ih (by omega)
    obtain ⟨x, a, hx, ha, hE⟩ := s.at (i := i) (by rw [s.1]; omega)
    cases ha
    obtain ⟨ws, w1, w2, w3, w4⟩ := he _ _ hE
    refine ⟨vs ++ ws, ?_, by rw [List.length_append, h2, w2, Nat.add_mul]; omega, fun t v hv => ?_, fun v hv => ?_⟩
    · rw [List.take_add_one, hx]; exact h1.snoc w1
    · by_cases ht : t < vs.length
      · rw [List.getElem?_append_left ht] at hv; exact h3 t v hv
      · rw [List.getElem?_append_right (by omega)] at hv
        have := w3 _ v hv
        rw [Addr.add_add'] at this
        rw [show t = i * k + (t - vs.length) by omega]; exact this
    · rcases List.mem_append.1 hv with hv | hv
      · exact h4 v hv
      · exact w4 v hv
theorem Rows.append {α : Type} {Enc : α → List Value → Prop} {vs : List Value} {l : List α} (r : Rows Enc vs l) {ws : List Value} {l' : List α} (r' : Rows Enc ws l') : Rows Enc (vs ++ ws) (l ++ l') := by
  induction r' with
  | nil => simpa using r
  | snoc r' he ih => rw [← List.append_assoc, ← List.append_assoc]; exact ih.snoc he
section
variable {P : Program} {X : XP} {Q : Leaf → LH → Prop}
theorem t_append0 {h : LH} {k : Value → T} {ts : Array TypeId} {ty sT xT el xe : TypeId} {s by_ : Nat} {z : Option Value} {p q : Option Addr} {n c mc : Nat} (h0 : ts[0]? = some sT) (h1 : ts[1]? = some xT) (hu : P.underlying sT = some (.slice el)) (hx : P.underlying xT = some (.slice xe))
    (hi : (P.info? el).map (fun i => (i.size, i.bytes, i.zero)) = some (s, by_, z)) (hnc : n ≤ c) (hk : (k (.slice p n c)).wp X P Q h) : (T.sem false (Builtin.append_ ts ty #[.slice p n c, .slice q 0 mc]) k).wp X P Q h := by
  obtain ⟨inf, g1, _, _, _⟩ := info_of hi
  refine t_sem (A := fun v h' => v = .slice p n c ∧ h' = h.get) ?_ (by rintro v h' ⟨rfl, rfl⟩; exact hk)
  unfold Builtin.append_
  rw [h0, h1]
  simp only [List.getElem?_toArray, List.getElem?_cons_zero, List.getElem?_cons_succ]
  simp only [lwp_bind, lwp_underlying hu, lwp_sizeOf g1, lwp_underlying hx, lwp_pure, Bool.false_eq_true, if_false, Bool.not_false, if_true, Builtin.lenOf, Nat.add_zero, if_pos hnc]
  cases q with
  | none =>
    simp only [Builtin.firstCells, lwp_pure]
    cases p with
    | none => exact ⟨rfl, rfl⟩
    | some a => exact ⟨rfl, rfl⟩
  | some b =>
    simp only [Builtin.firstCells, Nat.zero_mul]
    refine lwp_loads (l := []) rfl (fun t v hv => by simp at hv) ?_
    cases p with
    | none => exact ⟨rfl, rfl⟩
    | some a => exact ⟨rfl, rfl⟩
theorem OwnRow.le_cap {el : TypeId} {k : Nat} {h : Cells} {p : Option Addr} {n c : Nat} {vs : List Value} (o : OwnRow el k h p n c vs) : n ≤ c := by
  rcases o.2 with ⟨_, h1, h2⟩ | ⟨_, _, _, _, _, h, _⟩
  · omega
  · exact h
theorem t_copy {α : Type} {E : Cells → Addr → α → Prop} {Enc : α → List Value → Prop} {h h₀ : LH} {k : Value → T} {ts : Array TypeId} {ty sT xT el xe : TypeId} {s by_ : Nat} {z : Value} {p q : Option Addr} {n c m mc : Nat} {l l1 : List α} (h0 : ts[0]? = some sT) (h1 : ts[1]? = some xT) (hu : P.underlying sT = some (.slice el)) (hx : P.underlying xT = some (.slice xe))
    (hi : (P.info? el).map (fun i => (i.size, i.bytes, i.zero)) = some (s, by_, some z)) (hsz : z.cells.size = s) (hb : by_ ≤ 1024) (hn : n + m ≤ 2 ^ 30) (g : Growing Enc el s h₀.get h.get p n c l) (hle : h₀.le h) (src : Sl E s h.get q m l1) (he : ToldE E Enc s h.get)
    (hk : ∀ p' c' h', h₀.le h' → (∀ r y, (∀ a, p = some a → a.block ≠ r) → h.get r = some y → h'.get r = some y) → Growing Enc el s h₀.get h'.get p' (n + m) c' (l ++ l1) → (k (.slice p' (n + m) c')).wp X P Q h') : (T.sem false (Builtin.append_ ts ty #[.slice p n c, .slice q m mc]) k).wp X P Q h := by
  obtain ⟨vs, o, r⟩ := g.row
  by_cases hm : m = 0
  · subst hm
    have hl1 : l1 = [] := List.eq_nil_of_length_eq_zero src.1.symm
    subst hl1
    refine t_append0 h0 h1 hu hx hi o.le_cap ?_
    have := hk p c h hle (fun r y _ hy => hy) (by rw [List.append_nil]; exact g)
    exact this
  · obtain ⟨x, b, _, hb', _⟩ := src.at (i := 0) (by omega)
    subst hb'
    obtain ⟨ws, w1, w2, w3, w4⟩ := flat he src l1.length (Nat.le_refl _)
    rw [List.take_length] at w1
    have hm' := src.1
    refine t_append h0 h1 hu hx hi hsz hb hn o (by rw [w2, hm']) w3 w4 (by omega) fun p' c' h' a b c => ?_
    obtain ⟨l1', l2'⟩ := after_append hle.1 g.new b c
    exact hk p' c' _ ⟨l1', hle.2⟩ (fun r y hr hy => b r y hy hr) ⟨⟨vs ++ ws, a, r.append w1⟩, l2'⟩
theorem t_build0G {α : Type} {Enc : α → List Value → Prop} {h h₀ : LH} {K : Value → T} {t el : TypeId} {s b : Nat} {z : Option Value} (hu : P.underlying t = some (.slice el)) (hi : (P.info? el).map (fun i => (i.size, i.bytes, i.zero)) = some (s, b, z)) (hle : h₀.le h)
    (hk : ∀ r h', h.get r = none → h.le h' → Growing Enc el s h₀.get h'.get (some ⟨r, 0, none⟩) 0 0 [] → (K (.slice (some ⟨r, 0, none⟩) 0 0)).wp X P Q h') : (T.sem false (Instr.buildSlice t 0 #[]) K).wp X P Q h := by
  refine t_build0 hu hi fun r hr => ?_
  refine hk r _ hr (LH.upd_le hr) ⟨⟨[], ⟨by simp, .inr ⟨r, #[], rfl, Cells.upd_self _ _ _, by simp, Nat.le_refl _, fun j v hv => by simp at hv⟩⟩, .nil⟩, fun a ha => ?_⟩
  cases ha
  cases hx : h₀.get r with
  | none => rfl
  | some x => rw [hle.1 _ _ hx] at hr; cases hr
end
end Go.TM
end
section
namespace Go.TM
open Go
def EventE (h : Cells) (a : Addr) (e : Tr.Ev) : Prop := h.cell? (a.add 0) = some (.int .i64 e.kind) ∧ h.cell? (a.add 1) = some (.int .i64 e.day) ∧ h.cell? (a.add 2) = some (.int .i64 e.land) ∧
  (∃ q m c, h.cell? (a.add 3) = some (.slice q m c) ∧ m ≤ c ∧ Sl IntE 1 h q m e.items) ∧ h.cell? (a.add 4) = some (.int .i64 e.since)
theorem EventE.grow : Grow EventE := fun _ _ _ _ hl h => by
  obtain ⟨h0, h1, h2, ⟨q, m, c, h3, h5, h6⟩, h4⟩ := h
  exact ⟨hl _ _ h0, hl _ _ h1, hl _ _ h2, ⟨q, m, c, hl _ _ h3, h5, h6.rd IntE.grow hl⟩, hl _ _ h4⟩
def EventEnc (h₀ : Cells) (e : Tr.Ev) (ws : List Value) : Prop := ∃ q m c, ws = [.int .i64 e.kind, .int .i64 e.day, .int .i64 e.land, .slice q m c, .int .i64 e.since] ∧ m ≤ c ∧ Sl IntE 1 h₀ q m e.items
theorem EventEnc.len {h₀ : Cells} : ∀ x ws, EventEnc h₀ x ws → ws.length = 5 := by rintro x _ ⟨q, m, c, rfl, _⟩; rfl
theorem EventEnc.e {h₀ h' : Cells} (hr : Rd h₀ h') : ∀ a x ws, EventEnc h₀ x ws → (∀ (j : Nat) w, ws[j]? = some w → h'.cell? (a.add j) = some w) → EventE h' a x := by
  rintro a x _ ⟨q, m, c, rfl, hc5, hs⟩ hc
  exact ⟨hc 0 _ rfl, hc 1 _ rfl, hc 2 _ rfl, ⟨q, m, c, hc 3 _ rfl, hc5, hs.rd IntE.grow hr⟩, hc 4 _ rfl⟩
structure TC where
  p : Option Addr
  n : Nat
  c : Nat
def treatyV (f : TC) (x : Tr.TF) : Value := .agg #[.int .i64 x.items, .int .i64 x.lands, .int .i64 x.start, .int .i64 x.depend, .int .i64 x.refuse, .int .i64 x.turn, .slice f.p f.n f.c]
def TreatyR (h : Cells) (f : TC) (x : Tr.TF) : Prop := f.n ≤ f.c ∧ Sl EventE 5 h f.p f.n x.events
theorem TreatyR.rd {h h' : Cells} {f : TC} {x : Tr.TF} (hr : Rd h h') (t : TreatyR h f x) : TreatyR h' f x := ⟨t.1, t.2.rd EventE.grow hr⟩
theorem TreatyR.le {h h' : Cells} {f : TC} {x : Tr.TF} (hl : h.le h') (t : TreatyR h f x) : TreatyR h' f x := t.rd (Rd.of_le hl)
end Go.TM
end
section
namespace Go.Proofs.YtldamlcehbdkdaaDoor
open Go Go.TM Go.Proofs
set_option linter.unusedVariables false
set_option maxRecDepth 100000
noncomputable def n2018 (x_0 : Int) (x_1 : Int) (x_2 : Int) (x_3 : Int) (x_4 : Int) (x_5 : Int) (x_6p : Option Addr) (x_6n x_6c : Nat) (land : Int) (day : Int) : T := .call false 48 #[.agg #[.int .i64 x_0, .int .i64 x_1, .int .i64 x_2, .int .i64 x_3, .int .i64 x_4, .int .i64 x_5, .slice x_6p x_6n x_6c], .int .i64 land, .int .i64 day] fun v => .unTup v fun l => .unCons l fun v vs => .unS v fun a n c => .unCons vs fun v vs => .unI .i64 v fun n_1 => .unNil vs (.new 138 #[.bool false, .bool false, .bool false, .bool false, .bool false] fun r => .loop [.int .i64 0] (fun vs => .popI .i64 vs fun n_2 vs => .unNil vs (bif decide (n_2 < (↑n : Int)) then .need (0 ≤ n_2 ∧ n_2 < (↑n : Int)) (.someA a fun a => .loadI .i64 (Addr.add a (Int.toNat n_2 * 1)) fun n => .need (0 ≤ n_2 ∧ n_2 < (↑5 : Int)) (.store (Addr.add (Addr.add { block := r, off := 0 } (Int.toNat n_2 * 1)) 0) (.bool (decide (n ≥ 0))) (.leaf (.again [.int .i64 (IntKind.wrap .i64 (n_2 + 1))])))) else .leaf (.brk [.int .i64 n_2]))) (fun vs => .popI .i64 vs fun n_2 vs => .unNil vs (.loadB (Addr.add { block := r, off := 0 } 0) fun b => .loadB (Addr.add { block := r, off := 0 } 1) fun b_1 => .loadB (Addr.add { block := r, off := 0 } 2) fun b_2 => .loadB (Addr.add { block := r, off := 0 } 3) fun b_3 => .loadB (Addr.add { block := r, off := 0 } 4) fun b_4 => .sem false (Sem.bind (eqGuard BinOp.eql 138 (Operand.tmp 32) (Operand.tmp 33) (.agg #[.bool b, .bool b_1, .bool b_2, .bool b_3, .bool b_4]) (.agg #[.bool false, .bool false, .bool false, .bool false, .bool false])) fun __r => binOp BinOp.eql 138 (.agg #[.bool b, .bool b_1, .bool b_2, .bool b_3, .bool b_4]) (.agg #[.bool false, .bool false, .bool false, .bool false, .bool false])) fun v => .unB v fun b => bif b then .sem false (Instr.makeSlice 94 (.int .i64 (↑n : Int)) (.int .i64 (↑n : Int))) fun v => .unS v fun a n c => .leaf (.ret (.tuple #[.slice a n c, .int .i64 n_1])) else .sem false (Instr.sliceAt 138 (.pointer (some { block := r, off := 0 })) none (some (.int .i64 (↑n : Int))) (some (.int .i64 (↑n : Int)))) fun w => .unS w fun a n c => .leaf (.ret (.tuple #[.slice a n c, .int .i64 n_1])))) (fun vs => .popI .i64 vs fun n vs => .unNil vs (.leaf (.ret (.tuple #[.slice none 0 0, .int .i64 0])))) fun x x_6 => .fail)
theorem t2018 (x_0 : Int) (x_1 : Int) (x_2 : Int) (x_3 : Int) (x_4 : Int) (x_5 : Int) (x_6p : Option Addr) (x_6n x_6c : Nat) (land : Int) (day : Int) : ftree ({ P := Tryd.prog, priv := [3], loops := [{ id := 0, slots := [(22, .int .i64)], ro := [3], outs := [] }], joins := [] }) Tryd.f47 [.agg #[.int .i64 x_0, .int .i64 x_1, .int .i64 x_2, .int .i64 x_3, .int .i64 x_4, .int .i64 x_5, .slice x_6p x_6n x_6c], .int .i64 land, .int .i64 day] = n2018 x_0 x_1 x_2 x_3 x_4 x_5 x_6p x_6n x_6c land day := by kernel_rfl
theorem w2018 (x_0 : Int) (x_1 : Int) (x_2 : Int) (x_3 : Int) (x_4 : Int) (x_5 : Int) (x_6p : Option Addr) (x_6n x_6c : Nat) (land : Int) (day : Int) {X : XP} (hX : XOK X) {h : LH} {A : Value → LH → Prop} (hw : (n2018 x_0 x_1 x_2 x_3 x_4 x_5 x_6p x_6n x_6c land day).wp X Tryd.prog (retQ A) h) : FWK X Tryd.prog .normal 47 #[.agg #[.int .i64 x_0, .int .i64 x_1, .int .i64 x_2, .int .i64 x_3, .int .i64 x_4, .int .i64 x_5, .slice x_6p x_6n x_6c], .int .i64 land, .int .i64 day] h A := fwk_neat (t2018 x_0 x_1 x_2 x_3 x_4 x_5 x_6p x_6n x_6c land day) (by simp) (by kernel_rfl) (by kernel_rfl) hX hw
noncomputable def n2021 (x_0 : Int) (x_1 : Int) (x_2 : Int) (x_3 : Int) (x_4 : Int) (x_5 : Int) (x_6p : Option Addr) (x_6n x_6c : Nat) : T := .blk (.call false 116 #[.int .i64 x_0, .int .i64 0, .int .i64 5] fun v => .unB v fun b => bif !b then .leaf (.retn [.int .i64 1]) else .call false 116 #[.int .i64 x_1, .int .i64 1, .int .i64 3] fun v => .unB v fun b => bif !b then .leaf (.retn [.int .i64 1]) else .call false 113 #[.int .i64 x_2] fun v => .unB v fun b => bif !b then .leaf (.retn [.int .i64 1]) else .call false 113 #[.int .i64 x_3] fun v => .unB v fun b => bif !b then .leaf (.retn [.int .i64 1]) else .call false 113 #[.int .i64 x_4] fun v => .unB v fun b => bif !b then .leaf (.retn [.int .i64 1]) else .call false 113 #[.int .i64 x_5] fun v => .unB v fun b => bif !b then .leaf (.retn [.int .i64 1]) else .leaf (.again [.int .i64 0])) (fun vs => .popI .i64 vs fun n vs => .unNil vs (bif decide ((↑x_6n : Int) > 10) then .leaf (.ret (.int .i64 2)) else .loop [.int .i64 n, .int .i64 0] (fun vs => .popI .i64 vs fun n vs => .popI .i64 vs fun n_1 vs => .unNil vs (bif decide (n_1 < (↑x_6n : Int)) then .need (0 ≤ n_1 ∧ n_1 < (↑x_6n : Int)) (.someA x_6p fun a => .loadI .i64 (Addr.add (Addr.add a (Int.toNat n_1 * 5)) 0) fun n_2 => .loadI .i64 (Addr.add (Addr.add a (Int.toNat n_1 * 5)) 1) fun n_3 => .loadI .i64 (Addr.add (Addr.add a (Int.toNat n_1 * 5)) 2) fun n_4 => .loadS (Addr.add (Addr.add a (Int.toNat n_1 * 5)) 3) fun p n_5 c => .loadI .i64 (Addr.add (Addr.add a (Int.toNat n_1 * 5)) 4) fun n_6 => .call false 136 #[.agg #[.int .i64 x_0, .int .i64 x_1, .int .i64 x_2, .int .i64 x_3, .int .i64 x_4, .int .i64 x_5, .slice x_6p x_6n x_6c], .agg #[.int .i64 n_2, .int .i64 n_3, .int .i64 n_4, .slice p n_5 c, .int .i64 n_6]] fun v => .unI .i64 v fun n_7 => bif n_7 != 0 then .leaf (.retn [.int .i64 n_7, .int .i64 n_1]) else .leaf (.again [.int .i64 n, .int .i64 (IntKind.wrap .i64 (n_1 + 1))])) else .leaf (.brk [.int .i64 n, .int .i64 n_1]))) (fun vs => .popI .i64 vs fun n vs => .popI .i64 vs fun n vs => .unNil vs (.leaf (.ret (.int .i64 0)))) (fun vs => .popI .i64 vs fun n vs => .popI .i64 vs fun n_1 vs => .unNil vs (.leaf (.ret (.int .i64 n)))) fun x x_6 => .fail)) (fun vs => .popI .i64 vs fun n vs => .unNil vs (.leaf (.ret (.int .i64 n)))) fun x x_6 => .fail
theorem t2021 (x_0 : Int) (x_1 : Int) (x_2 : Int) (x_3 : Int) (x_4 : Int) (x_5 : Int) (x_6p : Option Addr) (x_6n x_6c : Nat) : ftree ({ P := Tryd.prog, priv := [1, 4], loops := [{ id := 0, slots := [(2, .int .i64), (47, .int .i64)], ro := [1], outs := [] }], joins := [{ id := 3, slots := [(2, .int .i64)], ro := [1], outs := [] }] }) Tryd.f126 [.agg #[.int .i64 x_0, .int .i64 x_1, .int .i64 x_2, .int .i64 x_3, .int .i64 x_4, .int .i64 x_5, .slice x_6p x_6n x_6c]] = n2021 x_0 x_1 x_2 x_3 x_4 x_5 x_6p x_6n x_6c := by kernel_rfl
theorem w2021 (x_0 : Int) (x_1 : Int) (x_2 : Int) (x_3 : Int) (x_4 : Int) (x_5 : Int) (x_6p : Option Addr) (x_6n x_6c : Nat) {X : XP} (hX : XOK X) {h : LH} {A : Value → LH → Prop} (hw : (n2021 x_0 x_1 x_2 x_3 x_4 x_5 x_6p x_6n x_6c).wp X Tryd.prog (retQ A) h) : FWK X Tryd.prog .normal 126 #[.agg #[.int .i64 x_0, .int .i64 x_1, .int .i64 x_2, .int .i64 x_3, .int .i64 x_4, .int .i64 x_5, .slice x_6p x_6n x_6c]] h A := fwk_neat (t2021 x_0 x_1 x_2 x_3 x_4 x_5 x_6p x_6n x_6c) (by simp) (by kernel_rfl) (by kernel_rfl) hX hw
noncomputable def n2023 (x_0 : Int) (x_1 : Int) (x_2 : Int) (x_3 : Int) (x_4 : Int) (x_5 : Int) (x_6p : Option Addr) (x_6n x_6c : Nat) (land : Int) (item : Int) : T := .call false 83 #[.agg #[.int .i64 x_0, .int .i64 x_1, .int .i64 x_2, .int .i64 x_3, .int .i64 x_4, .int .i64 x_5, .slice x_6p x_6n x_6c], .int .i64 land, .int .i64 item] fun v => .unI .i64 v fun n => bif n != 0 then .leaf (.ret (.tuple #[.slice none 0 0, .int .i64 n])) else .sem false (Instr.makeMap 142 none) fun v => .unM v fun a => .sem false (Sem.bind (Instr.mapUpdate 142 (.map a) (.int .i64 0) (.bool true)) fun __r => pure (.tuple #[])) fun x => .sem false (Sem.bind (Instr.mapUpdate 142 (.map a) (.int .i64 10000) (.bool true)) fun __r => pure (.tuple #[])) fun x => .loop [.int .i64 0] (fun vs => .popI .i64 vs fun n vs => .unNil vs (bif decide (n < (↑x_6n : Int)) then .need (0 ≤ n ∧ n < (↑x_6n : Int)) (.someA x_6p fun a_1 => .loadI .i64 (Addr.add (Addr.add a_1 (Int.toNat n * 5)) 0) fun n_1 => .loadI .i64 (Addr.add (Addr.add a_1 (Int.toNat n * 5)) 1) fun n_2 => .loadI .i64 (Addr.add (Addr.add a_1 (Int.toNat n * 5)) 2) fun n_3 => .loadS (Addr.add (Addr.add a_1 (Int.toNat n * 5)) 3) fun p n_4 c => .loadI .i64 (Addr.add (Addr.add a_1 (Int.toNat n * 5)) 4) fun n_5 => .sem false (Sem.bind (Instr.mapUpdate 142 (.map a) (.int .i64 n_2) (.bool true)) fun __r => pure (.tuple #[])) fun x => .leaf (.again [.int .i64 (IntKind.wrap .i64 (n + 1))])) else .leaf (.brk [.int .i64 n]))) (fun vs => .popI .i64 vs fun n vs => .unNil vs (.call false 84 #[.map a] fun v => .unS v fun a n c => .sem false (Instr.sliceAt 28 (.slice a n c) none (some (.int .i64 (IntKind.wrap .i64 ((↑n : Int) - 1)))) none) fun w => .unS w fun a_1 n_1 c => .loop [.slice none 0 0, .int .i64 0] (fun vs => .popS vs fun a_2 n_2 c vs => .popI .i64 vs fun n_3 vs => .unNil vs (bif decide (n_3 < (↑n_1 : Int)) then .need (0 ≤ n_3 ∧ n_3 < (↑n_1 : Int)) (.someA a_1 fun a_3 => .loadI .i64 (Addr.add a_3 (Int.toNat n_3 * 1)) fun n_4 => .need (0 ≤ IntKind.wrap .i64 (n_3 + 1) ∧ IntKind.wrap .i64 (n_3 + 1) < (↑n : Int)) (.someA a fun a => .loadI .i64 (Addr.add a (Int.toNat (IntKind.wrap .i64 (n_3 + 1)) * 1)) fun n => .call false 82 #[.agg #[.int .i64 x_0, .int .i64 x_1, .int .i64 x_2, .int .i64 x_3, .int .i64 x_4, .int .i64 x_5, .slice x_6p x_6n x_6c, .int .i64 land, .int .i64 item], .int .i64 n_4] fun v => .unI .i64 v fun n_5 => bif decide (n_5 < 0) then .leaf (.again [.slice a_2 n_2 c, .int .i64 (IntKind.wrap .i64 (n_3 + 1))]) else bif decide ((↑n_2 : Int) > 0) then .need (0 ≤ IntKind.wrap .i64 ((↑n_2 : Int) - 1) ∧ IntKind.wrap .i64 ((↑n_2 : Int) - 1) < (↑n_2 : Int)) (.someA a_2 fun a => .loadI .i64 (Addr.add (Addr.add a (Int.toNat (IntKind.wrap .i64 ((↑n_2 : Int) - 1)) * 2)) 1) fun n_6 => bif n_6 == IntKind.wrap .i64 (n_4 - 1) then .need (0 ≤ IntKind.wrap .i64 ((↑n_2 : Int) - 1) ∧ IntKind.wrap .i64 ((↑n_2 : Int) - 1) < (↑n_2 : Int)) (.someA a_2 fun a => .store (Addr.add (Addr.add (Addr.add a (Int.toNat (IntKind.wrap .i64 ((↑n_2 : Int) - 1)) * 2)) 1) 0) (.int .i64 (IntKind.wrap .i64 (n - 1))) (.leaf (.again [.slice a_2 n_2 c, .int .i64 (IntKind.wrap .i64 (n_3 + 1))]))) else .sem false (Instr.buildSlice 22 1 #[(0, .agg #[.int .i64 n_4, .int .i64 (IntKind.wrap .i64 (n - 1))])]) fun v => .unS v fun a n c_1 => .sem false (Builtin.append_ #[22, 22] 22 #[.slice a_2 n_2 c, .slice a n c_1]) fun v => .unS v fun a n c => .leaf (.again [.slice a n c, .int .i64 (IntKind.wrap .i64 (n_3 + 1))])) else .sem false (Instr.buildSlice 22 1 #[(0, .agg #[.int .i64 n_4, .int .i64 (IntKind.wrap .i64 (n - 1))])]) fun v => .unS v fun a n c_1 => .sem false (Builtin.append_ #[22, 22] 22 #[.slice a_2 n_2 c, .slice a n c_1]) fun v => .unS v fun a n c => .leaf (.again [.slice a n c, .int .i64 (IntKind.wrap .i64 (n_3 + 1))]))) else .leaf (.brk [.slice a_2 n_2 c, .int .i64 n_3]))) (fun vs => .popS vs fun a n c vs => .popI .i64 vs fun n_2 vs => .unNil vs (.leaf (.ret (.tuple #[.slice a n c, .int .i64 0])))) (fun vs => .popS vs fun a n c vs => .popI .i64 vs fun n vs => .unNil vs (.leaf (.ret (.tuple #[.slice none 0 0, .int .i64 0])))) fun x x_6 => .fail)) (fun vs => .popI .i64 vs fun n vs => .unNil vs (.leaf (.ret (.tuple #[.slice none 0 0, .int .i64 0])))) fun x x_6 => .fail
theorem t2023 (x_0 : Int) (x_1 : Int) (x_2 : Int) (x_3 : Int) (x_4 : Int) (x_5 : Int) (x_6p : Option Addr) (x_6n x_6c : Nat) (land : Int) (item : Int) : ftree ({ P := Tryd.prog, priv := [3, 11, 13], loops := [{ id := 0, slots := [(31, .int .i64)], ro := [3], outs := [] }, { id := 2, slots := [(14, .slice), (51, .int .i64)], ro := [3, 13], outs := [] }], joins := [] }) Tryd.f49 [.agg #[.int .i64 x_0, .int .i64 x_1, .int .i64 x_2, .int .i64 x_3, .int .i64 x_4, .int .i64 x_5, .slice x_6p x_6n x_6c], .int .i64 land, .int .i64 item] = n2023 x_0 x_1 x_2 x_3 x_4 x_5 x_6p x_6n x_6c land item := by kernel_rfl
theorem w2023 (x_0 : Int) (x_1 : Int) (x_2 : Int) (x_3 : Int) (x_4 : Int) (x_5 : Int) (x_6p : Option Addr) (x_6n x_6c : Nat) (land : Int) (item : Int) {X : XP} (hX : XOK X) {h : LH} {A : Value → LH → Prop} (hw : (n2023 x_0 x_1 x_2 x_3 x_4 x_5 x_6p x_6n x_6c land item).wp X Tryd.prog (retQ A) h) : FWK X Tryd.prog .normal 49 #[.agg #[.int .i64 x_0, .int .i64 x_1, .int .i64 x_2, .int .i64 x_3, .int .i64 x_4, .int .i64 x_5, .slice x_6p x_6n x_6c], .int .i64 land, .int .i64 item] h A := fwk_neat (t2023 x_0 x_1 x_2 x_3 x_4 x_5 x_6p x_6n x_6c land item) (by simp) (by kernel_rfl) (by kernel_rfl) hX hw
noncomputable def n2026 (x_0 : Int) (x_1 : Int) (x_2 : Int) (x_3 : Int) (x_4 : Int) (x_5 : Int) (x_6p : Option Addr) (x_6n x_6c : Nat) (land : Int) (day : Int) : T := .call false 81 #[.agg #[.int .i64 x_0, .int .i64 x_1, .int .i64 x_2, .int .i64 x_3, .int .i64 x_4, .int .i64 x_5, .slice x_6p x_6n x_6c], .int .i64 land, .int .i64 day] fun v => .unI .i64 v fun n => bif n != 0 then .leaf (.ret (.tuple #[.slice none 0 0, .int .i64 n])) else .loop [.slice none 0 0, .int .i64 0] (fun vs => .popS vs fun a n c vs => .popI .i64 vs fun n_1 vs => .unNil vs (bif decide (n_1 < x_0) then .call false 82 #[.agg #[.int .i64 x_0, .int .i64 x_1, .int .i64 x_2, .int .i64 x_3, .int .i64 x_4, .int .i64 x_5, .slice x_6p x_6n x_6c, .int .i64 land, .int .i64 n_1], .int .i64 day] fun v => .unI .i64 v fun n_2 => .sem false (Instr.buildSlice 28 1 #[(0, .int .i64 n_2)]) fun v => .unS v fun a_1 n_3 c_1 => .sem false (Builtin.append_ #[28, 28] 28 #[.slice a n c, .slice a_1 n_3 c_1]) fun v => .unS v fun a n c => .leaf (.again [.slice a n c, .int .i64 (IntKind.wrap .i64 (n_1 + 1))]) else .leaf (.brk [.slice a n c, .int .i64 n_1]))) (fun vs => .popS vs fun a n c vs => .popI .i64 vs fun n_1 vs => .unNil vs (.leaf (.ret (.tuple #[.slice a n c, .int .i64 0])))) (fun vs => .popS vs fun a n c vs => .popI .i64 vs fun n vs => .unNil vs (.leaf (.ret (.tuple #[.slice none 0 0, .int .i64 0])))) fun x x_6 => .fail
theorem t2026 (x_0 : Int) (x_1 : Int) (x_2 : Int) (x_3 : Int) (x_4 : Int) (x_5 : Int) (x_6p : Option Addr) (x_6n x_6c : Nat) (land : Int) (day : Int) : ftree ({ P := Tryd.prog, priv := [3], loops := [{ id := 0, slots := [(9, .slice), (20, .int .i64)], ro := [3], outs := [] }], joins := [] }) Tryd.f48 [.agg #[.int .i64 x_0, .int .i64 x_1, .int .i64 x_2, .int .i64 x_3, .int .i64 x_4, .int .i64 x_5, .slice x_6p x_6n x_6c], .int .i64 land, .int .i64 day] = n2026 x_0 x_1 x_2 x_3 x_4 x_5 x_6p x_6n x_6c land day := by kernel_rfl
theorem w2026 (x_0 : Int) (x_1 : Int) (x_2 : Int) (x_3 : Int) (x_4 : Int) (x_5 : Int) (x_6p : Option Addr) (x_6n x_6c : Nat) (land : Int) (day : Int) {X : XP} (hX : XOK X) {h : LH} {A : Value → LH → Prop} (hw : (n2026 x_0 x_1 x_2 x_3 x_4 x_5 x_6p x_6n x_6c land day).wp X Tryd.prog (retQ A) h) : FWK X Tryd.prog .normal 48 #[.agg #[.int .i64 x_0, .int .i64 x_1, .int .i64 x_2, .int .i64 x_3, .int .i64 x_4, .int .i64 x_5, .slice x_6p x_6n x_6c], .int .i64 land, .int .i64 day] h A := fwk_neat (t2026 x_0 x_1 x_2 x_3 x_4 x_5 x_6p x_6n x_6c land day) (by simp) (by kernel_rfl) (by kernel_rfl) hX hw
noncomputable def n2029 (x_0 : Int) (x_1 : Int) (x_2 : Int) (x_3 : Int) (x_4 : Int) (x_5 : Int) (x_6p : Option Addr) (x_6n x_6c : Nat) (land : Int) (day : Int) : T := .call false 81 #[.agg #[.int .i64 x_0, .int .i64 x_1, .int .i64 x_2, .int .i64 x_3, .int .i64 x_4, .int .i64 x_5, .slice x_6p x_6n x_6c], .int .i64 land, .int .i64 day] fun v => .unI .i64 v fun n => bif n != 0 then .leaf (.ret (.tuple #[.slice none 0 0, .int .i64 n])) else .loop [.slice none 0 0, .int .i64 0] (fun vs => .popS vs fun a n c vs => .popI .i64 vs fun n_1 vs => .unNil vs (bif decide (n_1 < x_0) then .call false 85 #[.agg #[.int .i64 x_0, .int .i64 x_1, .int .i64 x_2, .int .i64 x_3, .int .i64 x_4, .int .i64 x_5, .slice x_6p x_6n x_6c, .int .i64 land, .int .i64 n_1], .int .i64 day] fun v => .unTup v fun l => .unCons l fun v vs => .unAgg v fun l => .popI .i64 l fun n_2 vs_1 => .popI .i64 vs_1 fun n_3 vs_2 => .popI .i64 vs_2 fun n_4 vs_3 => .popI .i64 vs_3 fun n_5 vs_4 => .popI .i64 vs_4 fun n_6 vs_5 => .popI .i64 vs_5 fun n_7 vs_6 => .popS vs_6 fun a_1 n_8 c_1 vs_7 => .popI .i64 vs_7 fun n_9 vs_8 => .popI .i64 vs_8 fun n_10 vs_9 => .popI .i64 vs_9 fun n_11 vs_10 => .popI .i64 vs_10 fun n_12 vs_11 => .popB vs_11 fun b vs_12 => .unNil vs_12 (.unCons vs fun v vs => .unB v fun b => .unNil vs (bif b then .sem false (Instr.buildSlice 28 1 #[(0, .int .i64 n_1)]) fun v => .unS v fun a_2 n_13 c_2 => .sem false (Builtin.append_ #[28, 28] 28 #[.slice a n c, .slice a_2 n_13 c_2]) fun v => .unS v fun a n c => .leaf (.again [.slice a n c, .int .i64 (IntKind.wrap .i64 (n_1 + 1))]) else .leaf (.again [.slice a n c, .int .i64 (IntKind.wrap .i64 (n_1 + 1))]))) else .leaf (.brk [.slice a n c, .int .i64 n_1]))) (fun vs => .popS vs fun a n c vs => .popI .i64 vs fun n_1 vs => .unNil vs (.leaf (.ret (.tuple #[.slice a n c, .int .i64 0])))) (fun vs => .popS vs fun a n c vs => .popI .i64 vs fun n vs => .unNil vs (.leaf (.ret (.tuple #[.slice none 0 0, .int .i64 0])))) fun x x_6 => .fail
theorem t2029 (x_0 : Int) (x_1 : Int) (x_2 : Int) (x_3 : Int) (x_4 : Int) (x_5 : Int) (x_6p : Option Addr) (x_6n x_6c : Nat) (land : Int) (day : Int) : ftree ({ P := Tryd.prog, priv := [3, 11], loops := [{ id := 0, slots := [(9, .slice), (22, .int .i64)], ro := [3], outs := [] }], joins := [] }) Tryd.f50 [.agg #[.int .i64 x_0, .int .i64 x_1, .int .i64 x_2, .int .i64 x_3, .int .i64 x_4, .int .i64 x_5, .slice x_6p x_6n x_6c], .int .i64 land, .int .i64 day] = n2029 x_0 x_1 x_2 x_3 x_4 x_5 x_6p x_6n x_6c land day := by kernel_rfl
theorem w2029 (x_0 : Int) (x_1 : Int) (x_2 : Int) (x_3 : Int) (x_4 : Int) (x_5 : Int) (x_6p : Option Addr) (x_6n x_6c : Nat) (land : Int) (day : Int) {X : XP} (hX : XOK X) {h : LH} {A : Value → LH → Prop} (hw : (n2029 x_0 x_1 x_2 x_3 x_4 x_5 x_6p x_6n x_6c land day).wp X Tryd.prog (retQ A) h) : FWK X Tryd.prog .normal 50 #[.agg #[.int .i64 x_0, .int .i64 x_1, .int .i64 x_2, .int .i64 x_3, .int .i64 x_4, .int .i64 x_5, .slice x_6p x_6n x_6c], .int .i64 land, .int .i64 day] h A := fwk_neat (t2029 x_0 x_1 x_2 x_3 x_4 x_5 x_6p x_6n x_6c land day) (by simp) (by kernel_rfl) (by kernel_rfl) hX hw
noncomputable def n2044 (x_0 : Int) (x_1 : Int) (x_2 : Int) (x_3 : Int) (x_4 : Int) (x_5 : Int) (x_6p : Option Addr) (x_6n x_6c : Nat) (land : Int) (item : Int) (day : Int) : T := .new 50 #[.int .i64 x_0, .int .i64 x_1, .int .i64 x_2, .int .i64 x_3, .int .i64 x_4, .int .i64 x_5, .slice x_6p x_6n x_6c] fun r => .new 3 #[.int .i64 land] fun r_1 => .new 3 #[.int .i64 item] fun r_2 => .new 3 #[.int .i64 day] fun r_3 => .loadI .i64 (Addr.add { block := r, off := 0 } 0) fun n => .loadI .i64 (Addr.add { block := r, off := 0 } 1) fun n_1 => .loadI .i64 (Addr.add { block := r, off := 0 } 2) fun n_2 => .loadI .i64 (Addr.add { block := r, off := 0 } 3) fun n_3 => .loadI .i64 (Addr.add { block := r, off := 0 } 4) fun n_4 => .loadI .i64 (Addr.add { block := r, off := 0 } 5) fun n_5 => .loadS (Addr.add { block := r, off := 0 } 6) fun p n_6 c => .loadI .i64 { block := r_1, off := 0 } fun n_7 => .loadI .i64 { block := r_2, off := 0 } fun n_8 => .loadI .i64 { block := r_3, off := 0 } fun n_9 => .call false 86 #[.agg #[.int .i64 n, .int .i64 n_1, .int .i64 n_2, .int .i64 n_3, .int .i64 n_4, .int .i64 n_5, .slice p n_6 c], .int .i64 n_7, .int .i64 n_8, .int .i64 n_9] fun v => .unI .i64 v fun n => bif n != 0 then .leaf (.ret (.tuple #[.slice none 0 0, .bool false, .int .i64 n])) else .loadI .i64 (Addr.add { block := r, off := 0 } 0) fun n => .loadI .i64 (Addr.add { block := r, off := 0 } 1) fun n_10 => .loadI .i64 (Addr.add { block := r, off := 0 } 2) fun n_11 => .loadI .i64 (Addr.add { block := r, off := 0 } 3) fun n_12 => .loadI .i64 (Addr.add { block := r, off := 0 } 4) fun n_13 => .loadI .i64 (Addr.add { block := r, off := 0 } 5) fun n_14 => .loadS (Addr.add { block := r, off := 0 } 6) fun p n_15 c => .call false 87 #[.agg #[.int .i64 n, .int .i64 n_10, .int .i64 n_11, .int .i64 n_12, .int .i64 n_13, .int .i64 n_14, .slice p n_15 c]] fun v => .unS v fun a n c => .new 28 #[.slice none 0 0] fun r_4 => .store (Addr.add { block := r_4, off := 0 } 0) (.slice a n c) (.blk (.both (.sem false (Instr.makeChan 117 (.int .i64 0)) fun v => .unC v fun a => .both (.sem false (Instr.makeChan 150 (.int .i64 0)) fun v => .unC v fun a_1 => .both (.new 117 #[.chan none] fun r => .new 150 #[.chan none] fun r_5 => .store (Addr.add { block := r, off := 0 } 0) (.chan a) (.store (Addr.add { block := r_5, off := 0 } 0) (.chan a_1) (.leaf (.again [.pointer (some { block := r, off := 0 }), .pointer (some { block := r_5, off := 0 })])))) (.new 150 #[.chan none] fun r => .new 117 #[.chan none] fun r_5 => .store (Addr.add { block := r_5, off := 0 } 0) (.chan a) (.store (Addr.add { block := r, off := 0 } 0) (.chan a_1) (.leaf (.again [.pointer (some { block := r_5, off := 0 }), .pointer (some { block := r, off := 0 })]))))) (.both (.new 117 #[.chan none] fun r => .both (.sem false (Instr.makeChan 150 (.int .i64 0)) fun v => .unC v fun a_1 => .new 150 #[.chan none] fun r_5 => .store (Addr.add { block := r, off := 0 } 0) (.chan a) (.store (Addr.add { block := r_5, off := 0 } 0) (.chan a_1) (.leaf (.again [.pointer (some { block := r, off := 0 }), .pointer (some { block := r_5, off := 0 })])))) (.new 150 #[.chan none] fun r_5 => .both (.sem false (Instr.makeChan 150 (.int .i64 0)) fun v => .unC v fun a_1 => .store (Addr.add { block := r, off := 0 } 0) (.chan a) (.store (Addr.add { block := r_5, off := 0 } 0) (.chan a_1) (.leaf (.again [.pointer (some { block := r, off := 0 }), .pointer (some { block := r_5, off := 0 })])))) (.store (Addr.add { block := r, off := 0 } 0) (.chan a) (.sem false (Instr.makeChan 150 (.int .i64 0)) fun v => .unC v fun a => .store (Addr.add { block := r_5, off := 0 } 0) (.chan a) (.leaf (.again [.pointer (some { block := r, off := 0 }), .pointer (some { block := r_5, off := 0 })])))))) (.new 150 #[.chan none] fun r => .both (.sem false (Instr.makeChan 150 (.int .i64 0)) fun v => .unC v fun a_1 => .new 117 #[.chan none] fun r_5 => .store (Addr.add { block := r_5, off := 0 } 0) (.chan a) (.store (Addr.add { block := r, off := 0 } 0) (.chan a_1) (.leaf (.again [.pointer (some { block := r_5, off := 0 }), .pointer (some { block := r, off := 0 })])))) (.new 117 #[.chan none] fun r_5 => .both (.sem false (Instr.makeChan 150 (.int .i64 0)) fun v => .unC v fun a_1 => .store (Addr.add { block := r_5, off := 0 } 0) (.chan a) (.store (Addr.add { block := r, off := 0 } 0) (.chan a_1) (.leaf (.again [.pointer (some { block := r_5, off := 0 }), .pointer (some { block := r, off := 0 })])))) (.store (Addr.add { block := r_5, off := 0 } 0) (.chan a) (.sem false (Instr.makeChan 150 (.int .i64 0)) fun v => .unC v fun a => .store (Addr.add { block := r, off := 0 } 0) (.chan a) (.leaf (.again [.pointer (some { block := r_5, off := 0 }), .pointer (some { block := r, off := 0 })])))))))) (.both (.sem false (Instr.makeChan 150 (.int .i64 0)) fun v => .unC v fun a => .both (.sem false (Instr.makeChan 117 (.int .i64 0)) fun v => .unC v fun a_1 => .both (.new 117 #[.chan none] fun r => .new 150 #[.chan none] fun r_5 => .store (Addr.add { block := r, off := 0 } 0) (.chan a_1) (.store (Addr.add { block := r_5, off := 0 } 0) (.chan a) (.leaf (.again [.pointer (some { block := r, off := 0 }), .pointer (some { block := r_5, off := 0 })])))) (.new 150 #[.chan none] fun r => .new 117 #[.chan none] fun r_5 => .store (Addr.add { block := r_5, off := 0 } 0) (.chan a_1) (.store (Addr.add { block := r, off := 0 } 0) (.chan a) (.leaf (.again [.pointer (some { block := r_5, off := 0 }), .pointer (some { block := r, off := 0 })]))))) (.both (.new 117 #[.chan none] fun r => .both (.sem false (Instr.makeChan 117 (.int .i64 0)) fun v => .unC v fun a_1 => .new 150 #[.chan none] fun r_5 => .store (Addr.add { block := r, off := 0 } 0) (.chan a_1) (.store (Addr.add { block := r_5, off := 0 } 0) (.chan a) (.leaf (.again [.pointer (some { block := r, off := 0 }), .pointer (some { block := r_5, off := 0 })])))) (.new 150 #[.chan none] fun r_5 => .sem false (Instr.makeChan 117 (.int .i64 0)) fun v => .unC v fun a_1 => .store (Addr.add { block := r, off := 0 } 0) (.chan a_1) (.store (Addr.add { block := r_5, off := 0 } 0) (.chan a) (.leaf (.again [.pointer (some { block := r, off := 0 }), .pointer (some { block := r_5, off := 0 })]))))) (.new 150 #[.chan none] fun r => .both (.sem false (Instr.makeChan 117 (.int .i64 0)) fun v => .unC v fun a_1 => .new 117 #[.chan none] fun r_5 => .store (Addr.add { block := r_5, off := 0 } 0) (.chan a_1) (.store (Addr.add { block := r, off := 0 } 0) (.chan a) (.leaf (.again [.pointer (some { block := r_5, off := 0 }), .pointer (some { block := r, off := 0 })])))) (.new 117 #[.chan none] fun r_5 => .sem false (Instr.makeChan 117 (.int .i64 0)) fun v => .unC v fun a_1 => .store (Addr.add { block := r_5, off := 0 } 0) (.chan a_1) (.store (Addr.add { block := r, off := 0 } 0) (.chan a) (.leaf (.again [.pointer (some { block := r_5, off := 0 }), .pointer (some { block := r, off := 0 })]))))))) (.both (.new 117 #[.chan none] fun r => .both (.sem false (Instr.makeChan 117 (.int .i64 0)) fun v => .unC v fun a => .both (.sem false (Instr.makeChan 150 (.int .i64 0)) fun v => .unC v fun a_1 => .new 150 #[.chan none] fun r_5 => .store (Addr.add { block := r, off := 0 } 0) (.chan a) (.store (Addr.add { block := r_5, off := 0 } 0) (.chan a_1) (.leaf (.again [.pointer (some { block := r, off := 0 }), .pointer (some { block := r_5, off := 0 })])))) (.new 150 #[.chan none] fun r_5 => .both (.sem false (Instr.makeChan 150 (.int .i64 0)) fun v => .unC v fun a_1 => .store (Addr.add { block := r, off := 0 } 0) (.chan a) (.store (Addr.add { block := r_5, off := 0 } 0) (.chan a_1) (.leaf (.again [.pointer (some { block := r, off := 0 }), .pointer (some { block := r_5, off := 0 })])))) (.store (Addr.add { block := r, off := 0 } 0) (.chan a) (.sem false (Instr.makeChan 150 (.int .i64 0)) fun v => .unC v fun a => .store (Addr.add { block := r_5, off := 0 } 0) (.chan a) (.leaf (.again [.pointer (some { block := r, off := 0 }), .pointer (some { block := r_5, off := 0 })])))))) (.both (.sem false (Instr.makeChan 150 (.int .i64 0)) fun v => .unC v fun a => .both (.sem false (Instr.makeChan 117 (.int .i64 0)) fun v => .unC v fun a_1 => .new 150 #[.chan none] fun r_5 => .store (Addr.add { block := r, off := 0 } 0) (.chan a_1) (.store (Addr.add { block := r_5, off := 0 } 0) (.chan a) (.leaf (.again [.pointer (some { block := r, off := 0 }), .pointer (some { block := r_5, off := 0 })])))) (.new 150 #[.chan none] fun r_5 => .sem false (Instr.makeChan 117 (.int .i64 0)) fun v => .unC v fun a_1 => .store (Addr.add { block := r, off := 0 } 0) (.chan a_1) (.store (Addr.add { block := r_5, off := 0 } 0) (.chan a) (.leaf (.again [.pointer (some { block := r, off := 0 }), .pointer (some { block := r_5, off := 0 })]))))) (.new 150 #[.chan none] fun r_5 => .both (.sem false (Instr.makeChan 117 (.int .i64 0)) fun v => .unC v fun a => .both (.sem false (Instr.makeChan 150 (.int .i64 0)) fun v => .unC v fun a_1 => .store (Addr.add { block := r, off := 0 } 0) (.chan a) (.store (Addr.add { block := r_5, off := 0 } 0) (.chan a_1) (.leaf (.again [.pointer (some { block := r, off := 0 }), .pointer (some { block := r_5, off := 0 })])))) (.store (Addr.add { block := r, off := 0 } 0) (.chan a) (.sem false (Instr.makeChan 150 (.int .i64 0)) fun v => .unC v fun a => .store (Addr.add { block := r_5, off := 0 } 0) (.chan a) (.leaf (.again [.pointer (some { block := r, off := 0 }), .pointer (some { block := r_5, off := 0 })]))))) (.sem false (Instr.makeChan 150 (.int .i64 0)) fun v => .unC v fun a => .sem false (Instr.makeChan 117 (.int .i64 0)) fun v => .unC v fun a_1 => .store (Addr.add { block := r, off := 0 } 0) (.chan a_1) (.store (Addr.add { block := r_5, off := 0 } 0) (.chan a) (.leaf (.again [.pointer (some { block := r, off := 0 }), .pointer (some { block := r_5, off := 0 })]))))))) (.new 150 #[.chan none] fun r => .both (.sem false (Instr.makeChan 117 (.int .i64 0)) fun v => .unC v fun a => .both (.sem false (Instr.makeChan 150 (.int .i64 0)) fun v => .unC v fun a_1 => .new 117 #[.chan none] fun r_5 => .store (Addr.add { block := r_5, off := 0 } 0) (.chan a) (.store (Addr.add { block := r, off := 0 } 0) (.chan a_1) (.leaf (.again [.pointer (some { block := r_5, off := 0 }), .pointer (some { block := r, off := 0 })])))) (.new 117 #[.chan none] fun r_5 => .both (.sem false (Instr.makeChan 150 (.int .i64 0)) fun v => .unC v fun a_1 => .store (Addr.add { block := r_5, off := 0 } 0) (.chan a) (.store (Addr.add { block := r, off := 0 } 0) (.chan a_1) (.leaf (.again [.pointer (some { block := r_5, off := 0 }), .pointer (some { block := r, off := 0 })])))) (.store (Addr.add { block := r_5, off := 0 } 0) (.chan a) (.sem false (Instr.makeChan 150 (.int .i64 0)) fun v => .unC v fun a => .store (Addr.add { block := r, off := 0 } 0) (.chan a) (.leaf (.again [.pointer (some { block := r_5, off := 0 }), .pointer (some { block := r, off := 0 })])))))) (.both (.sem false (Instr.makeChan 150 (.int .i64 0)) fun v => .unC v fun a => .both (.sem false (Instr.makeChan 117 (.int .i64 0)) fun v => .unC v fun a_1 => .new 117 #[.chan none] fun r_5 => .store (Addr.add { block := r_5, off := 0 } 0) (.chan a_1) (.store (Addr.add { block := r, off := 0 } 0) (.chan a) (.leaf (.again [.pointer (some { block := r_5, off := 0 }), .pointer (some { block := r, off := 0 })])))) (.new 117 #[.chan none] fun r_5 => .sem false (Instr.makeChan 117 (.int .i64 0)) fun v => .unC v fun a_1 => .store (Addr.add { block := r_5, off := 0 } 0) (.chan a_1) (.store (Addr.add { block := r, off := 0 } 0) (.chan a) (.leaf (.again [.pointer (some { block := r_5, off := 0 }), .pointer (some { block := r, off := 0 })]))))) (.new 117 #[.chan none] fun r_5 => .both (.sem false (Instr.makeChan 117 (.int .i64 0)) fun v => .unC v fun a => .both (.sem false (Instr.makeChan 150 (.int .i64 0)) fun v => .unC v fun a_1 => .store (Addr.add { block := r_5, off := 0 } 0) (.chan a) (.store (Addr.add { block := r, off := 0 } 0) (.chan a_1) (.leaf (.again [.pointer (some { block := r_5, off := 0 }), .pointer (some { block := r, off := 0 })])))) (.store (Addr.add { block := r_5, off := 0 } 0) (.chan a) (.sem false (Instr.makeChan 150 (.int .i64 0)) fun v => .unC v fun a => .store (Addr.add { block := r, off := 0 } 0) (.chan a) (.leaf (.again [.pointer (some { block := r_5, off := 0 }), .pointer (some { block := r, off := 0 })]))))) (.sem false (Instr.makeChan 150 (.int .i64 0)) fun v => .unC v fun a => .sem false (Instr.makeChan 117 (.int .i64 0)) fun v => .unC v fun a_1 => .store (Addr.add { block := r_5, off := 0 } 0) (.chan a_1) (.store (Addr.add { block := r, off := 0 } 0) (.chan a) (.leaf (.again [.pointer (some { block := r_5, off := 0 }), .pointer (some { block := r, off := 0 })])))))))))) (fun vs => .popA vs fun a vs => .popA vs fun a_1 vs => .unNil vs (.loadS { block := r_4, off := 0 } fun p n c => .need (0 ≤ (↑n : Int)) (.loop [.int .i64 0] (fun vs => .popI .i64 vs fun n_16 vs => .unNil vs (bif decide (n_16 < IntKind.wrap .i64 (1 * 2 ^ min (Int.toNat (↑n : Int)) 64)) then .new 3 #[.int .i64 0] fun r_5 => .store (Addr.add { block := r_5, off := 0 } 0) (.int .i64 n_16) (.spawn (.func (Fn.func 88) #[] #[.pointer (some { block := r_4, off := 0 }), .pointer (some { block := r_5, off := 0 }), .pointer (some { block := r, off := 0 }), .pointer (some { block := r_1, off := 0 }), .pointer (some { block := r_2, off := 0 }), .pointer (some { block := r_3, off := 0 }), .pointer (some a), .pointer (some a_1)]) #[] (.leaf (.again [.int .i64 (IntKind.wrap .i64 (n_16 + 1))]))) else .leaf (.brk [.int .i64 n_16]))) (fun vs => .popI .i64 vs fun n_16 vs => .unNil vs (.loop [.slice none 0 0, .bool false, .int .i64 (IntKind.wrap .i64 (1 * 2 ^ min (Int.toNat (↑n : Int)) 64))] (fun vs => .popS vs fun a_2 n c vs => .popB vs fun b vs => .popI .i64 vs fun n_17 vs => .unNil vs (bif decide (n_17 > 0) then .loadC a fun p => .loadC a_1 fun p_1 => .comm false #[{ chan := .chan p, send := none, zero := .slice none 0 0 }, { chan := .chan p_1, send := none, zero := .bool false }] CommShape.select fun v => .unTup v fun l => .unCons l fun v vs => .unI .i64 v fun n_18 => .unCons vs fun v vs => .unB v fun b_1 => .unCons vs fun v vs => .unS v fun a n_19 c_1 => .unCons vs fun v vs => .unB v fun b_2 => .unNil vs (bif n_18 == 0 then bif !b then .leaf (.again [.slice a n_19 c_1, .bool true, .int .i64 n_17]) else .call false 90 #[.slice a n_19 c_1, .slice a_2 n c] fun v => .unI .i64 v fun n_20 => bif decide (n_20 < 0) then .leaf (.again [.slice a n_19 c_1, .bool true, .int .i64 n_17]) else .leaf (.again [.slice a_2 n c, .bool b, .int .i64 n_17]) else bif n_18 == 1 then .leaf (.again [.slice a_2 n c, .bool b, .int .i64 (IntKind.wrap .i64 (n_17 - 1))]) else .leaf (.again [.slice a_2 n c, .bool b, .int .i64 n_17])) else .leaf (.brk [.slice a_2 n c, .bool b, .int .i64 n_17]))) (fun vs => .popS vs fun a n c vs => .popB vs fun b vs => .popI .i64 vs fun n_17 vs => .unNil vs (.leaf (.ret (.tuple #[.slice a n c, .bool b, .int .i64 0])))) (fun vs => .popS vs fun a n c vs => .popB vs fun b vs => .popI .i64 vs fun n_17 vs => .unNil vs (.leaf (.ret (.tuple #[.slice a n c, .bool b, .int .i64 0])))) fun x x_6 => .fail)) (fun vs => .popI .i64 vs fun n vs => .unNil vs (.leaf (.ret (.tuple #[.slice none 0 0, .bool false, .int .i64 0])))) fun x x_6 => .fail))) (fun vs => .popA vs fun a vs => .popA vs fun a vs => .unNil vs (.leaf (.ret (.tuple #[.slice none 0 0, .bool false, .int .i64 0])))) fun x x_6 => .fail)
theorem t2044 (x_0 : Int) (x_1 : Int) (x_2 : Int) (x_3 : Int) (x_4 : Int) (x_5 : Int) (x_6p : Option Addr) (x_6n x_6c : Nat) (land : Int) (item : Int) (day : Int) : ftree ({ P := Tryd.prog, priv := [], loops := [{ id := 0, slots := [(34, .int .i64)], ro := [], outs := [] }, { id := 2, slots := [(8, .slice), (9, .bool), (15, .int .i64)], ro := [], outs := [] }], joins := [{ id := 6, slots := [(13, .adr), (14, .adr)], ro := [], outs := [] }] }) Tryd.f51 [.agg #[.int .i64 x_0, .int .i64 x_1, .int .i64 x_2, .int .i64 x_3, .int .i64 x_4, .int .i64 x_5, .slice x_6p x_6n x_6c], .int .i64 land, .int .i64 item, .int .i64 day] = n2044 x_0 x_1 x_2 x_3 x_4 x_5 x_6p x_6n x_6c land item day := by kernel_rfl
theorem w2044 (x_0 : Int) (x_1 : Int) (x_2 : Int) (x_3 : Int) (x_4 : Int) (x_5 : Int) (x_6p : Option Addr) (x_6n x_6c : Nat) (land : Int) (item : Int) (day : Int) {X : XP} (hX : XOK X) {h : LH} {A : Value → LH → Prop} (hw : (n2044 x_0 x_1 x_2 x_3 x_4 x_5 x_6p x_6n x_6c land item day).wp X Tryd.prog (retQ A) h) : FWK X Tryd.prog .normal 51 #[.agg #[.int .i64 x_0, .int .i64 x_1, .int .i64 x_2, .int .i64 x_3, .int .i64 x_4, .int .i64 x_5, .slice x_6p x_6n x_6c], .int .i64 land, .int .i64 item, .int .i64 day] h A := fwk_neat (t2044 x_0 x_1 x_2 x_3 x_4 x_5 x_6p x_6n x_6c land item day) (by simp) (by kernel_rfl) (by kernel_rfl) hX hw
noncomputable def n2052 (n : Int) (first : Int) (last : Int) : T := bif decide (first ≤ n) then .leaf (.ret (.bool (decide (n ≤ last)))) else .leaf (.ret (.bool false))
theorem t2052 (n : Int) (first : Int) (last : Int) : ftree ({ P := Tryd.prog, priv := [], loops := [], joins := [] }) Tryd.f116 [.int .i64 n, .int .i64 first, .int .i64 last] = n2052 n first last := by kernel_rfl
theorem w2052 (n : Int) (first : Int) (last : Int) {X : XP} (hX : XOK X) {h : LH} {A : Value → LH → Prop} (hw : (n2052 n first last).wp X Tryd.prog (retQ A) h) : FWK X Tryd.prog .normal 116 #[.int .i64 n, .int .i64 first, .int .i64 last] h A := fwk_neat (t2052 n first last) (by simp) (by kernel_rfl) (by kernel_rfl) hX hw
noncomputable def n2053 (n : Int) : T := .call false 116 #[.int .i64 n, .int .i64 0, .int .i64 9999] fun v => .unB v fun b => .leaf (.ret (.bool b))
theorem t2053 (n : Int) : ftree ({ P := Tryd.prog, priv := [], loops := [], joins := [] }) Tryd.f113 [.int .i64 n] = n2053 n := by kernel_rfl
theorem w2053 (n : Int) {X : XP} (hX : XOK X) {h : LH} {A : Value → LH → Prop} (hw : (n2053 n).wp X Tryd.prog (retQ A) h) : FWK X Tryd.prog .normal 113 #[.int .i64 n] h A := fwk_neat (t2053 n) (by simp) (by kernel_rfl) (by kernel_rfl) hX hw
noncomputable def n2054 (x_0 : Int) (x_1 : Int) (x_2 : Int) (x_3 : Int) (x_4 : Int) (x_5 : Int) (x_6p : Option Addr) (x_6n x_6c : Nat) (e_0 : Int) (e_1 : Int) (e_2 : Int) (e_3p : Option Addr) (e_3n e_3c : Nat) (e_4 : Int) : T := .blk (.blk (.call false 116 #[.int .i64 e_0, .int .i64 0, .int .i64 6] fun v => .unB v fun b => .leaf (.again [.bool !b])) (fun vs => .popB vs fun b vs => .unNil vs (bif b then .leaf (.again [.bool b]) else .blk (.call false 113 #[.int .i64 e_1] fun v => .unB v fun b => .leaf (.again [.bool !b])) (fun vs => .popB vs fun b vs => .unNil vs (bif b then .leaf (.again [.bool b]) else .call false 113 #[.int .i64 e_4] fun v => .unB v fun b => .leaf (.again [.bool !b]))) (fun vs => .popB vs fun b vs => .unNil vs (.leaf (.retn [.bool b]))) fun x x_6 => .fail)) (fun vs => .popB vs fun b vs => .unNil vs (.leaf (.retn [.bool b]))) fun x x_6 => .fail) (fun vs => .popB vs fun b vs => .unNil vs (bif b then .leaf (.ret (.int .i64 1)) else .call false 116 #[.int .i64 e_2, .int .i64 0, .int .i64 (IntKind.wrap .i64 (x_1 - 1))] fun v => .unB v fun b => bif !b then .leaf (.ret (.int .i64 6)) else .loop [.int .i64 0, .int .i64 0] (fun vs => .popI .i64 vs fun n vs => .popI .i64 vs fun n_1 vs => .unNil vs (bif decide (n_1 < (↑e_3n : Int)) then .need (0 ≤ n_1 ∧ n_1 < (↑e_3n : Int)) (.someA e_3p fun a => .loadI .i64 (Addr.add a (Int.toNat n_1 * 1)) fun n_2 => .call false 116 #[.int .i64 n_2, .int .i64 0, .int .i64 (IntKind.wrap .i64 (x_0 - 1))] fun v => .unB v fun b => bif !b then .leaf (.retn [.int .i64 6, .int .i64 n_1]) else bif decide (n_1 > 0) then .need (0 ≤ IntKind.wrap .i64 (n_1 - 1) ∧ IntKind.wrap .i64 (n_1 - 1) < (↑e_3n : Int)) (.someA e_3p fun a => .loadI .i64 (Addr.add a (Int.toNat (IntKind.wrap .i64 (n_1 - 1)) * 1)) fun n_3 => bif decide (n_2 ≤ n_3) then .leaf (.retn [.int .i64 7, .int .i64 n_1]) else .leaf (.again [.int .i64 n, .int .i64 (IntKind.wrap .i64 (n_1 + 1))])) else .leaf (.again [.int .i64 n, .int .i64 (IntKind.wrap .i64 (n_1 + 1))])) else .leaf (.brk [.int .i64 n, .int .i64 n_1]))) (fun vs => .popI .i64 vs fun n vs => .popI .i64 vs fun n_1 vs => .unNil vs (.need (0 ≤ e_0 ∧ e_0 < (↑7 : Int)) (.loadB (Addr.add (Addr.add (Addr.add { block := 1, off := 0 } (Int.toNat e_0 * 4)) 1) 0) fun b => .loadB (Addr.add (Addr.add (Addr.add { block := 1, off := 0 } (Int.toNat e_0 * 4)) 1) 1) fun b_1 => .blk (.blk (.loadB (Addr.add { block := 3, off := 0 } 0) fun b_2 => .loadB (Addr.add { block := 3, off := 0 } 1) fun b_3 => .sem false (Sem.bind (eqGuard BinOp.eql 182 (Operand.tmp 64) (Operand.tmp 65) (.agg #[.bool b, .bool b_1]) (.agg #[.bool b_2, .bool b_3])) fun __r => binOp BinOp.eql 182 (.agg #[.bool b, .bool b_1]) (.agg #[.bool b_2, .bool b_3])) fun v => .unB v fun b => bif b then .leaf (.again [.bool (e_4 != 0)]) else .leaf (.again [.bool false])) (fun vs => .popB vs fun b_2 vs => .unNil vs (bif b_2 then .leaf (.again [.bool b_2]) else bif !b then .leaf (.again [.bool (e_2 != 0)]) else .leaf (.again [.bool false]))) (fun vs => .popB vs fun b vs => .unNil vs (.leaf (.retn [.bool b]))) fun x x_6 => .fail) (fun vs => .popB vs fun b vs => .unNil vs (bif b then .leaf (.ret (.int .i64 1)) else bif decide (e_4 > e_1) then .leaf (.ret (.int .i64 7)) else .leaf (.ret (.int .i64 0)))) (fun vs => .popB vs fun b vs => .unNil vs (.leaf (.ret (.int .i64 n)))) fun x x_6 => .fail))) (fun vs => .popI .i64 vs fun n vs => .popI .i64 vs fun n_1 vs => .unNil vs (.leaf (.ret (.int .i64 n)))) fun x x_6 => .fail)) (fun vs => .popB vs fun b vs => .unNil vs (.leaf (.ret (.int .i64 0)))) fun x x_6 => .fail
theorem t2054 (x_0 : Int) (x_1 : Int) (x_2 : Int) (x_3 : Int) (x_4 : Int) (x_5 : Int) (x_6p : Option Addr) (x_6n x_6c : Nat) (e_0 : Int) (e_1 : Int) (e_2 : Int) (e_3p : Option Addr) (e_3n e_3c : Nat) (e_4 : Int) : ftree ({ P := Tryd.prog, priv := [2, 3, 7], loops := [{ id := 1, slots := [(4, .int .i64), (32, .int .i64)], ro := [2, 3], outs := [] }], joins := [{ id := 2000008, slots := [(8, .bool)], ro := [2, 3], outs := [] }, { id := 2000063, slots := [(63, .bool)], ro := [2, 3, 7], outs := [] }] }) Tryd.f136 [.agg #[.int .i64 x_0, .int .i64 x_1, .int .i64 x_2, .int .i64 x_3, .int .i64 x_4, .int .i64 x_5, .slice x_6p x_6n x_6c], .agg #[.int .i64 e_0, .int .i64 e_1, .int .i64 e_2, .slice e_3p e_3n e_3c, .int .i64 e_4]] = n2054 x_0 x_1 x_2 x_3 x_4 x_5 x_6p x_6n x_6c e_0 e_1 e_2 e_3p e_3n e_3c e_4 := by kernel_rfl
theorem w2054 (x_0 : Int) (x_1 : Int) (x_2 : Int) (x_3 : Int) (x_4 : Int) (x_5 : Int) (x_6p : Option Addr) (x_6n x_6c : Nat) (e_0 : Int) (e_1 : Int) (e_2 : Int) (e_3p : Option Addr) (e_3n e_3c : Nat) (e_4 : Int) {X : XP} (hX : XOK X) {h : LH} {A : Value → LH → Prop} (hw : (n2054 x_0 x_1 x_2 x_3 x_4 x_5 x_6p x_6n x_6c e_0 e_1 e_2 e_3p e_3n e_3c e_4).wp X Tryd.prog (retQ A) h) : FWK X Tryd.prog .normal 136 #[.agg #[.int .i64 x_0, .int .i64 x_1, .int .i64 x_2, .int .i64 x_3, .int .i64 x_4, .int .i64 x_5, .slice x_6p x_6n x_6c], .agg #[.int .i64 e_0, .int .i64 e_1, .int .i64 e_2, .slice e_3p e_3n e_3c, .int .i64 e_4]] h A := fwk_neat (t2054 x_0 x_1 x_2 x_3 x_4 x_5 x_6p x_6n x_6c e_0 e_1 e_2 e_3p e_3n e_3c e_4) (by simp) (by kernel_rfl) (by kernel_rfl) hX hw
noncomputable def n2058 (x_0 : Int) (x_1 : Int) (x_2 : Int) (x_3 : Int) (x_4 : Int) (x_5 : Int) (x_6p : Option Addr) (x_6n x_6c : Nat) (land : Int) (item : Int) : T := .call false 112 #[.agg #[.int .i64 x_0, .int .i64 x_1, .int .i64 x_2, .int .i64 x_3, .int .i64 x_4, .int .i64 x_5, .slice x_6p x_6n x_6c], .int .i64 land] fun v => .unI .i64 v fun n => bif n != 0 then .leaf (.ret (.int .i64 n)) else .call false 116 #[.int .i64 item, .int .i64 0, .int .i64 (IntKind.wrap .i64 (x_0 - 1))] fun v => .unB v fun b => bif b then .leaf (.ret (.int .i64 n)) else .leaf (.ret (.int .i64 6))
theorem t2058 (x_0 : Int) (x_1 : Int) (x_2 : Int) (x_3 : Int) (x_4 : Int) (x_5 : Int) (x_6p : Option Addr) (x_6n x_6c : Nat) (land : Int) (item : Int) : ftree ({ P := Tryd.prog, priv := [3], loops := [], joins := [] }) Tryd.f83 [.agg #[.int .i64 x_0, .int .i64 x_1, .int .i64 x_2, .int .i64 x_3, .int .i64 x_4, .int .i64 x_5, .slice x_6p x_6n x_6c], .int .i64 land, .int .i64 item] = n2058 x_0 x_1 x_2 x_3 x_4 x_5 x_6p x_6n x_6c land item := by kernel_rfl
theorem w2058 (x_0 : Int) (x_1 : Int) (x_2 : Int) (x_3 : Int) (x_4 : Int) (x_5 : Int) (x_6p : Option Addr) (x_6n x_6c : Nat) (land : Int) (item : Int) {X : XP} (hX : XOK X) {h : LH} {A : Value → LH → Prop} (hw : (n2058 x_0 x_1 x_2 x_3 x_4 x_5 x_6p x_6n x_6c land item).wp X Tryd.prog (retQ A) h) : FWK X Tryd.prog .normal 83 #[.agg #[.int .i64 x_0, .int .i64 x_1, .int .i64 x_2, .int .i64 x_3, .int .i64 x_4, .int .i64 x_5, .slice x_6p x_6n x_6c], .int .i64 land, .int .i64 item] h A := fwk_neat (t2058 x_0 x_1 x_2 x_3 x_4 x_5 x_6p x_6n x_6c land item) (by simp) (by kernel_rfl) (by kernel_rfl) hX hw
noncomputable def n2059 (m : Option Nat) : T := .call false 118 #[.map m] fun v => .call false 117 #[v] fun v => .unS v fun a n c => .leaf (.ret (.slice a n c))
theorem t2059 (m : Option Nat) : ftree ({ P := Tryd.prog, priv := [], loops := [], joins := [] }) Tryd.f84 [.map m] = n2059 m := by kernel_rfl
theorem w2059 (m : Option Nat) {X : XP} (hX : XOK X) {h : LH} {A : Value → LH → Prop} (hw : (n2059 m).wp X Tryd.prog (retQ A) h) : FWK X Tryd.prog .normal 84 #[.map m] h A := fwk_neat (t2059 m) (by simp) (by kernel_rfl) (by kernel_rfl) hX hw
noncomputable def n2060 (m_0 : Int) (m_1 : Int) (m_2 : Int) (m_3 : Int) (m_4 : Int) (m_5 : Int) (m_6p : Option Addr) (m_6n m_6c : Nat) (m_7 : Int) (m_8 : Int) (day : Int) : T := .call false 114 #[.agg #[.int .i64 m_0, .int .i64 m_1, .int .i64 m_2, .int .i64 m_3, .int .i64 m_4, .int .i64 m_5, .slice m_6p m_6n m_6c, .int .i64 m_7, .int .i64 m_8]] fun v => .unS v fun a n c => .loop [.int .i64 10000, .int .i64 0, .int .i64 m_0, .int .i64 m_1, .int .i64 m_2, .int .i64 m_3, .int .i64 m_4, .int .i64 m_5, .slice m_6p m_6n m_6c, .int .i64 m_7, .int .i64 m_8, .int .i64 day] (fun vs => .popI .i64 vs fun n_1 vs => .popI .i64 vs fun n_2 vs => .popI .i64 vs fun n_3 vs => .popI .i64 vs fun n_4 vs => .popI .i64 vs fun n_5 vs => .popI .i64 vs fun n_6 vs => .popI .i64 vs fun n_7 vs => .popI .i64 vs fun n_8 vs => .popS vs fun a_1 n_9 c vs => .popI .i64 vs fun n_10 vs => .popI .i64 vs fun n_11 vs => .popI .i64 vs fun n_12 vs => .unNil vs (bif decide (n_2 < (↑n : Int)) then .need (0 ≤ n_2 ∧ n_2 < (↑n : Int)) (.someA a fun a => .loadV (Addr.add a (Int.toNat n_2 * 1)) fun v => .callv false (.func (Fn.method "touchmark/treaty.on") #[v] #[]) #[.int .i64 n_12] fun v => .unTup v fun l => .unCons l fun v vs => .unI .i64 v fun n => .unCons vs fun v vs => .unB v fun b => .unNil vs (bif !b then .leaf (.again [.int .i64 n_1, .int .i64 (IntKind.wrap .i64 (n_2 + 1)), .int .i64 n_3, .int .i64 n_4, .int .i64 n_5, .int .i64 n_6, .int .i64 n_7, .int .i64 n_8, .slice a_1 n_9 c, .int .i64 n_10, .int .i64 n_11, .int .i64 n_12]) else .call false 115 #[.agg #[.int .i64 n_3, .int .i64 n_4, .int .i64 n_5, .int .i64 n_6, .int .i64 n_7, .int .i64 n_8, .slice a_1 n_9 c, .int .i64 n_10, .int .i64 n_11], .int .i64 6] fun v => .each v [.int .i64 n] (fun xs vs => .unCons xs fun v vs_1 => .unAgg v fun l => .popI .i64 l fun n_13 vs_2 => .popI .i64 vs_2 fun n_14 vs_3 => .popI .i64 vs_3 fun n_15 vs_4 => .popS vs_4 fun a n_16 c vs_5 => .popI .i64 vs_5 fun n_17 vs_6 => .unNil vs_6 (.unNil vs_1 (.popI .i64 vs fun n_18 vs => .unNil vs (bif decide (n_14 ≤ n_12) then bif decide (n_17 ≤ n) then .leaf (.again [.int .i64 (if n_17 < n_18 then n_17 else n_18)]) else .leaf (.again [.int .i64 n_18]) else .leaf (.again [.int .i64 n_18]))))) (fun vs => .popI .i64 vs fun n vs => .unNil vs (.leaf (.again [.int .i64 (if n < n_1 then n else n_1), .int .i64 (IntKind.wrap .i64 (n_2 + 1)), .int .i64 n_3, .int .i64 n_4, .int .i64 n_5, .int .i64 n_6, .int .i64 n_7, .int .i64 n_8, .slice a_1 n_9 c, .int .i64 n_10, .int .i64 n_11, .int .i64 n_12]))) (fun vs => .popI .i64 vs fun n vs => .unNil vs (.leaf (.again [.int .i64 (if n < n_1 then n else n_1), .int .i64 (IntKind.wrap .i64 (n_2 + 1)), .int .i64 n_3, .int .i64 n_4, .int .i64 n_5, .int .i64 n_6, .int .i64 n_7, .int .i64 n_8, .slice a_1 n_9 c, .int .i64 n_10, .int .i64 n_11, .int .i64 n_12]))) (fun vs => .popI .i64 vs fun n vs => .unNil vs (.leaf (.retn [.int .i64 n_1, .int .i64 n_2, .int .i64 n_3, .int .i64 n_4, .int .i64 n_5, .int .i64 n_6, .int .i64 n_7, .int .i64 n_8, .slice a_1 n_9 c, .int .i64 n_10, .int .i64 n_11, .int .i64 n_12]))) fun x x_1 => .fail)) else .leaf (.brk [.int .i64 n_1, .int .i64 n_2, .int .i64 n_3, .int .i64 n_4, .int .i64 n_5, .int .i64 n_6, .int .i64 n_7, .int .i64 n_8, .slice a_1 n_9 c, .int .i64 n_10, .int .i64 n_11, .int .i64 n_12]))) (fun vs => .popI .i64 vs fun n vs => .popI .i64 vs fun n_1 vs => .popI .i64 vs fun n_2 vs => .popI .i64 vs fun n_3 vs => .popI .i64 vs fun n_4 vs => .popI .i64 vs fun n_5 vs => .popI .i64 vs fun n_6 vs => .popI .i64 vs fun n_7 vs => .popS vs fun a n_8 c vs => .popI .i64 vs fun n_9 vs => .popI .i64 vs fun n_10 vs => .popI .i64 vs fun n_11 vs => .unNil vs (bif n == 10000 then .leaf (.ret (.int .i64 (-1))) else .leaf (.ret (.int .i64 n)))) (fun vs => .popI .i64 vs fun n vs => .popI .i64 vs fun n vs => .popI .i64 vs fun n vs => .popI .i64 vs fun n vs => .popI .i64 vs fun n vs => .popI .i64 vs fun n vs => .popI .i64 vs fun n vs => .popI .i64 vs fun n vs => .popS vs fun a n c vs => .popI .i64 vs fun n vs => .popI .i64 vs fun n vs => .popI .i64 vs fun n vs => .unNil vs (.leaf (.ret (.int .i64 0)))) fun x x_1 => .fail
theorem t2060 (m_0 : Int) (m_1 : Int) (m_2 : Int) (m_3 : Int) (m_4 : Int) (m_5 : Int) (m_6p : Option Addr) (m_6n m_6c : Nat) (m_7 : Int) (m_8 : Int) (day : Int) : ftree ({ P := Tryd.prog, priv := [2, 3, 8, 10, 11], loops := [{ id := 2, slots := [(45056, .int .i64)], ro := [2, 3, 8], outs := [], ps := [.agg [.int .i64, .int .i64, .int .i64, .slice, .int .i64]] }, { id := 0, slots := [(5, .int .i64), (15, .int .i64), (12288, .int .i64), (12289, .int .i64), (12290, .int .i64), (12291, .int .i64), (12292, .int .i64), (12293, .int .i64), (12294, .slice), (12295, .int .i64), (12296, .int .i64), (16384, .int .i64)], ro := [], outs := [] }], joins := [] }) Tryd.f82 [.agg #[.int .i64 m_0, .int .i64 m_1, .int .i64 m_2, .int .i64 m_3, .int .i64 m_4, .int .i64 m_5, .slice m_6p m_6n m_6c, .int .i64 m_7, .int .i64 m_8], .int .i64 day] = n2060 m_0 m_1 m_2 m_3 m_4 m_5 m_6p m_6n m_6c m_7 m_8 day := by kernel_rfl
theorem w2060 (m_0 : Int) (m_1 : Int) (m_2 : Int) (m_3 : Int) (m_4 : Int) (m_5 : Int) (m_6p : Option Addr) (m_6n m_6c : Nat) (m_7 : Int) (m_8 : Int) (day : Int) {X : XP} (hX : XOK X) {h : LH} {A : Value → LH → Prop} (hw : (n2060 m_0 m_1 m_2 m_3 m_4 m_5 m_6p m_6n m_6c m_7 m_8 day).wp X Tryd.prog (retQ A) h) : FWK X Tryd.prog .normal 82 #[.agg #[.int .i64 m_0, .int .i64 m_1, .int .i64 m_2, .int .i64 m_3, .int .i64 m_4, .int .i64 m_5, .slice m_6p m_6n m_6c, .int .i64 m_7, .int .i64 m_8], .int .i64 day] h A := fwk_neat (t2060 m_0 m_1 m_2 m_3 m_4 m_5 m_6p m_6n m_6c m_7 m_8 day) (by simp) (by kernel_rfl) (by kernel_rfl) hX hw
noncomputable def n2063 (x_0 : Int) (x_1 : Int) (x_2 : Int) (x_3 : Int) (x_4 : Int) (x_5 : Int) (x_6p : Option Addr) (x_6n x_6c : Nat) (land : Int) (day : Int) : T := .call false 112 #[.agg #[.int .i64 x_0, .int .i64 x_1, .int .i64 x_2, .int .i64 x_3, .int .i64 x_4, .int .i64 x_5, .slice x_6p x_6n x_6c], .int .i64 land] fun v => .unI .i64 v fun n => bif n != 0 then .leaf (.ret (.int .i64 n)) else .call false 113 #[.int .i64 day] fun v => .unB v fun b => bif b then .leaf (.ret (.int .i64 n)) else .leaf (.ret (.int .i64 1))
theorem t2063 (x_0 : Int) (x_1 : Int) (x_2 : Int) (x_3 : Int) (x_4 : Int) (x_5 : Int) (x_6p : Option Addr) (x_6n x_6c : Nat) (land : Int) (day : Int) : ftree ({ P := Tryd.prog, priv := [3], loops := [], joins := [] }) Tryd.f81 [.agg #[.int .i64 x_0, .int .i64 x_1, .int .i64 x_2, .int .i64 x_3, .int .i64 x_4, .int .i64 x_5, .slice x_6p x_6n x_6c], .int .i64 land, .int .i64 day] = n2063 x_0 x_1 x_2 x_3 x_4 x_5 x_6p x_6n x_6c land day := by kernel_rfl
theorem w2063 (x_0 : Int) (x_1 : Int) (x_2 : Int) (x_3 : Int) (x_4 : Int) (x_5 : Int) (x_6p : Option Addr) (x_6n x_6c : Nat) (land : Int) (day : Int) {X : XP} (hX : XOK X) {h : LH} {A : Value → LH → Prop} (hw : (n2063 x_0 x_1 x_2 x_3 x_4 x_5 x_6p x_6n x_6c land day).wp X Tryd.prog (retQ A) h) : FWK X Tryd.prog .normal 81 #[.agg #[.int .i64 x_0, .int .i64 x_1, .int .i64 x_2, .int .i64 x_3, .int .i64 x_4, .int .i64 x_5, .slice x_6p x_6n x_6c], .int .i64 land, .int .i64 day] h A := fwk_neat (t2063 x_0 x_1 x_2 x_3 x_4 x_5 x_6p x_6n x_6c land day) (by simp) (by kernel_rfl) (by kernel_rfl) hX hw
noncomputable def n2064 (m_0 : Int) (m_1 : Int) (m_2 : Int) (m_3 : Int) (m_4 : Int) (m_5 : Int) (m_6p : Option Addr) (m_6n m_6c : Nat) (m_7 : Int) (m_8 : Int) (day : Int) : T := .call false 119 #[.agg #[.int .i64 m_0, .int .i64 m_1, .int .i64 m_2, .int .i64 m_3, .int .i64 m_4, .int .i64 m_5, .slice m_6p m_6n m_6c, .int .i64 m_7, .int .i64 m_8]] fun v => .unS v fun a n c => .loop [.bool false, .int .i64 0, .int .i64 0, .int .i64 0, .int .i64 0, .int .i64 0, .int .i64 0, .int .i64 0, .slice none 0 0, .int .i64 0, .int .i64 0, .int .i64 0, .int .i64 0, .bool false] (fun vs => .popB vs fun b vs => .popI .i64 vs fun n_1 vs => .popI .i64 vs fun n_2 vs => .popI .i64 vs fun n_3 vs => .popI .i64 vs fun n_4 vs => .popI .i64 vs fun n_5 vs => .popI .i64 vs fun n_6 vs => .popI .i64 vs fun n_7 vs => .popS vs fun a_1 n_8 c vs => .popI .i64 vs fun n_9 vs => .popI .i64 vs fun n_10 vs => .popI .i64 vs fun n_11 vs => .popI .i64 vs fun n_12 vs => .popB vs fun b_1 vs => .unNil vs (bif decide (n_1 < (↑n : Int)) then .need (0 ≤ n_1 ∧ n_1 < (↑n : Int)) (.someA a fun a => .loadI .i64 (Addr.add (Addr.add a (Int.toNat n_1 * 12)) 0) fun n => .loadI .i64 (Addr.add (Addr.add a (Int.toNat n_1 * 12)) 1) fun n_13 => .loadI .i64 (Addr.add (Addr.add a (Int.toNat n_1 * 12)) 2) fun n_14 => .loadI .i64 (Addr.add (Addr.add a (Int.toNat n_1 * 12)) 3) fun n_15 => .loadI .i64 (Addr.add (Addr.add a (Int.toNat n_1 * 12)) 4) fun n_16 => .loadI .i64 (Addr.add (Addr.add a (Int.toNat n_1 * 12)) 5) fun n_17 => .loadS (Addr.add (Addr.add a (Int.toNat n_1 * 12)) 6) fun p n_18 c_1 => .loadI .i64 (Addr.add (Addr.add a (Int.toNat n_1 * 12)) 7) fun n_19 => .loadI .i64 (Addr.add (Addr.add a (Int.toNat n_1 * 12)) 8) fun n_20 => .loadI .i64 (Addr.add (Addr.add a (Int.toNat n_1 * 12)) 9) fun n_21 => .loadI .i64 (Addr.add (Addr.add a (Int.toNat n_1 * 12)) 10) fun n_22 => .loadB (Addr.add (Addr.add a (Int.toNat n_1 * 12)) 11) fun b_2 => bif b_2 then .call false 116 #[.int .i64 day, .int .i64 n_22, .int .i64 (IntKind.wrap .i64 (n_22 + n_17))] fun v => .unB v fun b_3 => bif b_3 then .call false 120 #[.agg #[.int .i64 n, .int .i64 n_13, .int .i64 n_14, .int .i64 n_15, .int .i64 n_16, .int .i64 n_17, .slice p n_18 c_1, .int .i64 n_19, .int .i64 n_20, .int .i64 n_21, .int .i64 n_22, .bool b_2], .int .i64 (IntKind.wrap .i64 (n_22 - 1))] fun v => .unB v fun b_4 => bif !b_4 then bif !b then .leaf (.again [.bool true, .int .i64 (IntKind.wrap .i64 (n_1 + 1)), .int .i64 n, .int .i64 n_13, .int .i64 n_14, .int .i64 n_15, .int .i64 n_16, .int .i64 n_17, .slice p n_18 c_1, .int .i64 n_19, .int .i64 n_20, .int .i64 n_21, .int .i64 n_22, .bool b_2]) else bif decide (n_21 < n_11) then .leaf (.again [.bool true, .int .i64 (IntKind.wrap .i64 (n_1 + 1)), .int .i64 n, .int .i64 n_13, .int .i64 n_14, .int .i64 n_15, .int .i64 n_16, .int .i64 n_17, .slice p n_18 c_1, .int .i64 n_19, .int .i64 n_20, .int .i64 n_21, .int .i64 n_22, .bool b_2]) else .leaf (.again [.bool b, .int .i64 (IntKind.wrap .i64 (n_1 + 1)), .int .i64 n_2, .int .i64 n_3, .int .i64 n_4, .int .i64 n_5, .int .i64 n_6, .int .i64 n_7, .slice a_1 n_8 c, .int .i64 n_9, .int .i64 n_10, .int .i64 n_11, .int .i64 n_12, .bool b_1]) else .leaf (.again [.bool b, .int .i64 (IntKind.wrap .i64 (n_1 + 1)), .int .i64 n_2, .int .i64 n_3, .int .i64 n_4, .int .i64 n_5, .int .i64 n_6, .int .i64 n_7, .slice a_1 n_8 c, .int .i64 n_9, .int .i64 n_10, .int .i64 n_11, .int .i64 n_12, .bool b_1]) else .leaf (.again [.bool b, .int .i64 (IntKind.wrap .i64 (n_1 + 1)), .int .i64 n_2, .int .i64 n_3, .int .i64 n_4, .int .i64 n_5, .int .i64 n_6, .int .i64 n_7, .slice a_1 n_8 c, .int .i64 n_9, .int .i64 n_10, .int .i64 n_11, .int .i64 n_12, .bool b_1]) else .leaf (.again [.bool b, .int .i64 (IntKind.wrap .i64 (n_1 + 1)), .int .i64 n_2, .int .i64 n_3, .int .i64 n_4, .int .i64 n_5, .int .i64 n_6, .int .i64 n_7, .slice a_1 n_8 c, .int .i64 n_9, .int .i64 n_10, .int .i64 n_11, .int .i64 n_12, .bool b_1])) else .leaf (.brk [.bool b, .int .i64 n_1, .int .i64 n_2, .int .i64 n_3, .int .i64 n_4, .int .i64 n_5, .int .i64 n_6, .int .i64 n_7, .slice a_1 n_8 c, .int .i64 n_9, .int .i64 n_10, .int .i64 n_11, .int .i64 n_12, .bool b_1]))) (fun vs => .popB vs fun b vs => .popI .i64 vs fun n vs => .popI .i64 vs fun n vs => .popI .i64 vs fun n_1 vs => .popI .i64 vs fun n_2 vs => .popI .i64 vs fun n_3 vs => .popI .i64 vs fun n_4 vs => .popI .i64 vs fun n_5 vs => .popS vs fun a n_6 c vs => .popI .i64 vs fun n_7 vs => .popI .i64 vs fun n_8 vs => .popI .i64 vs fun n_9 vs => .popI .i64 vs fun n_10 vs => .popB vs fun b_1 vs => .unNil vs (.leaf (.ret (.tuple #[.agg #[.int .i64 n, .int .i64 n_1, .int .i64 n_2, .int .i64 n_3, .int .i64 n_4, .int .i64 n_5, .slice a n_6 c, .int .i64 n_7, .int .i64 n_8, .int .i64 n_9, .int .i64 n_10, .bool b_1], .bool b])))) (fun vs => .popB vs fun b vs => .popI .i64 vs fun n vs => .popI .i64 vs fun n vs => .popI .i64 vs fun n_1 vs => .popI .i64 vs fun n_2 vs => .popI .i64 vs fun n_3 vs => .popI .i64 vs fun n_4 vs => .popI .i64 vs fun n_5 vs => .popS vs fun a n_6 c vs => .popI .i64 vs fun n_7 vs => .popI .i64 vs fun n_8 vs => .popI .i64 vs fun n_9 vs => .popI .i64 vs fun n_10 vs => .popB vs fun b_1 vs => .unNil vs (.leaf (.ret (.tuple #[.agg #[.int .i64 n, .int .i64 n_1, .int .i64 n_2, .int .i64 n_3, .int .i64 n_4, .int .i64 n_5, .slice a n_6 c, .int .i64 n_7, .int .i64 n_8, .int .i64 n_9, .int .i64 n_10, .bool b_1], .bool b])))) fun x x_1 => .fail
theorem t2064 (m_0 : Int) (m_1 : Int) (m_2 : Int) (m_3 : Int) (m_4 : Int) (m_5 : Int) (m_6p : Option Addr) (m_6n m_6c : Nat) (m_7 : Int) (m_8 : Int) (day : Int) : ftree ({ P := Tryd.prog, priv := [2, 4, 7], loops := [{ id := 0, slots := [(5, .bool), (11, .int .i64), (20480, .int .i64), (20481, .int .i64), (20482, .int .i64), (20483, .int .i64), (20484, .int .i64), (20485, .int .i64), (20486, .slice), (20487, .int .i64), (20488, .int .i64), (20489, .int .i64), (20490, .int .i64), (20491, .bool)], ro := [2], outs := [] }], joins := [] }) Tryd.f85 [.agg #[.int .i64 m_0, .int .i64 m_1, .int .i64 m_2, .int .i64 m_3, .int .i64 m_4, .int .i64 m_5, .slice m_6p m_6n m_6c, .int .i64 m_7, .int .i64 m_8], .int .i64 day] = n2064 m_0 m_1 m_2 m_3 m_4 m_5 m_6p m_6n m_6c m_7 m_8 day := by kernel_rfl
theorem w2064 (m_0 : Int) (m_1 : Int) (m_2 : Int) (m_3 : Int) (m_4 : Int) (m_5 : Int) (m_6p : Option Addr) (m_6n m_6c : Nat) (m_7 : Int) (m_8 : Int) (day : Int) {X : XP} (hX : XOK X) {h : LH} {A : Value → LH → Prop} (hw : (n2064 m_0 m_1 m_2 m_3 m_4 m_5 m_6p m_6n m_6c m_7 m_8 day).wp X Tryd.prog (retQ A) h) : FWK X Tryd.prog .normal 85 #[.agg #[.int .i64 m_0, .int .i64 m_1, .int .i64 m_2, .int .i64 m_3, .int .i64 m_4, .int .i64 m_5, .slice m_6p m_6n m_6c, .int .i64 m_7, .int .i64 m_8], .int .i64 day] h A := fwk_neat (t2064 m_0 m_1 m_2 m_3 m_4 m_5 m_6p m_6n m_6c m_7 m_8 day) (by simp) (by kernel_rfl) (by kernel_rfl) hX hw
noncomputable def n2066 (x_0 : Int) (x_1 : Int) (x_2 : Int) (x_3 : Int) (x_4 : Int) (x_5 : Int) (x_6p : Option Addr) (x_6n x_6c : Nat) (land : Int) (item : Int) (day : Int) : T := .call false 83 #[.agg #[.int .i64 x_0, .int .i64 x_1, .int .i64 x_2, .int .i64 x_3, .int .i64 x_4, .int .i64 x_5, .slice x_6p x_6n x_6c], .int .i64 land, .int .i64 item] fun v => .unI .i64 v fun n => bif n != 0 then .leaf (.ret (.int .i64 n)) else .call false 113 #[.int .i64 day] fun v => .unB v fun b => bif b then .leaf (.ret (.int .i64 n)) else .leaf (.ret (.int .i64 1))
theorem t2066 (x_0 : Int) (x_1 : Int) (x_2 : Int) (x_3 : Int) (x_4 : Int) (x_5 : Int) (x_6p : Option Addr) (x_6n x_6c : Nat) (land : Int) (item : Int) (day : Int) : ftree ({ P := Tryd.prog, priv := [4], loops := [], joins := [] }) Tryd.f86 [.agg #[.int .i64 x_0, .int .i64 x_1, .int .i64 x_2, .int .i64 x_3, .int .i64 x_4, .int .i64 x_5, .slice x_6p x_6n x_6c], .int .i64 land, .int .i64 item, .int .i64 day] = n2066 x_0 x_1 x_2 x_3 x_4 x_5 x_6p x_6n x_6c land item day := by kernel_rfl
theorem w2066 (x_0 : Int) (x_1 : Int) (x_2 : Int) (x_3 : Int) (x_4 : Int) (x_5 : Int) (x_6p : Option Addr) (x_6n x_6c : Nat) (land : Int) (item : Int) (day : Int) {X : XP} (hX : XOK X) {h : LH} {A : Value → LH → Prop} (hw : (n2066 x_0 x_1 x_2 x_3 x_4 x_5 x_6p x_6n x_6c land item day).wp X Tryd.prog (retQ A) h) : FWK X Tryd.prog .normal 86 #[.agg #[.int .i64 x_0, .int .i64 x_1, .int .i64 x_2, .int .i64 x_3, .int .i64 x_4, .int .i64 x_5, .slice x_6p x_6n x_6c], .int .i64 land, .int .i64 item, .int .i64 day] h A := fwk_neat (t2066 x_0 x_1 x_2 x_3 x_4 x_5 x_6p x_6n x_6c land item day) (by simp) (by kernel_rfl) (by kernel_rfl) hX hw
noncomputable def n2067 (x_0 : Int) (x_1 : Int) (x_2 : Int) (x_3 : Int) (x_4 : Int) (x_5 : Int) (x_6p : Option Addr) (x_6n x_6c : Nat) : T := .loop [.slice none 0 0, .int .i64 0] (fun vs => .popS vs fun a n c vs => .popI .i64 vs fun n_1 vs => .unNil vs (bif decide (n_1 < (↑x_6n : Int)) then .need (0 ≤ n_1 ∧ n_1 < (↑x_6n : Int)) (.someA x_6p fun a_1 => .loadI .i64 (Addr.add (Addr.add a_1 (Int.toNat n_1 * 5)) 0) fun n_2 => .loadI .i64 (Addr.add (Addr.add a_1 (Int.toNat n_1 * 5)) 1) fun n_3 => .loadI .i64 (Addr.add (Addr.add a_1 (Int.toNat n_1 * 5)) 2) fun n_4 => .loadS (Addr.add (Addr.add a_1 (Int.toNat n_1 * 5)) 3) fun p n_5 c_1 => .loadI .i64 (Addr.add (Addr.add a_1 (Int.toNat n_1 * 5)) 4) fun n_6 => .need (0 ≤ n_2 ∧ n_2 < (↑7 : Int)) (.loadV (Addr.add (Addr.add { block := 1, off := 0 } (Int.toNat n_2 * 4)) 3) fun v => .callv false v #[] fun v => .unB v fun b => bif b then .sem false (Instr.buildSlice 28 1 #[(0, .int .i64 n_1)]) fun v => .unS v fun a_2 n_7 c_2 => .sem false (Builtin.append_ #[28, 28] 28 #[.slice a n c, .slice a_2 n_7 c_2]) fun v => .unS v fun a n c => .leaf (.again [.slice a n c, .int .i64 (IntKind.wrap .i64 (n_1 + 1))]) else .leaf (.again [.slice a n c, .int .i64 (IntKind.wrap .i64 (n_1 + 1))]))) else .leaf (.brk [.slice a n c, .int .i64 n_1]))) (fun vs => .popS vs fun a n c vs => .popI .i64 vs fun n_1 vs => .unNil vs (.leaf (.ret (.slice a n c)))) (fun vs => .popS vs fun a n c vs => .popI .i64 vs fun n vs => .unNil vs (.leaf (.ret (.slice none 0 0)))) fun x x_6 => .fail
theorem t2067 (x_0 : Int) (x_1 : Int) (x_2 : Int) (x_3 : Int) (x_4 : Int) (x_5 : Int) (x_6p : Option Addr) (x_6n x_6c : Nat) : ftree ({ P := Tryd.prog, priv := [1, 5], loops := [{ id := 0, slots := [(3, .slice), (9, .int .i64)], ro := [1], outs := [] }], joins := [] }) Tryd.f87 [.agg #[.int .i64 x_0, .int .i64 x_1, .int .i64 x_2, .int .i64 x_3, .int .i64 x_4, .int .i64 x_5, .slice x_6p x_6n x_6c]] = n2067 x_0 x_1 x_2 x_3 x_4 x_5 x_6p x_6n x_6c := by kernel_rfl
theorem w2067 (x_0 : Int) (x_1 : Int) (x_2 : Int) (x_3 : Int) (x_4 : Int) (x_5 : Int) (x_6p : Option Addr) (x_6n x_6c : Nat) {X : XP} (hX : XOK X) {h : LH} {A : Value → LH → Prop} (hw : (n2067 x_0 x_1 x_2 x_3 x_4 x_5 x_6p x_6n x_6c).wp X Tryd.prog (retQ A) h) : FWK X Tryd.prog .normal 87 #[.agg #[.int .i64 x_0, .int .i64 x_1, .int .i64 x_2, .int .i64 x_3, .int .i64 x_4, .int .i64 x_5, .slice x_6p x_6n x_6c]] h A := fwk_neat (t2067 x_0 x_1 x_2 x_3 x_4 x_5 x_6p x_6n x_6c) (by simp) (by kernel_rfl) (by kernel_rfl) hX hw
noncomputable def n2069 (x_0 : Int) (x_1 : Int) (x_2 : Int) (x_3 : Int) (x_4 : Int) (x_5 : Int) (x_6p : Option Addr) (x_6n x_6c : Nat) (land : Int) (item : Int) (day : Int) (eventsp : Option Addr) (eventsn eventsc : Nat) : T := .loop [.int .i64 0, .int .i64 x_0, .int .i64 x_1, .int .i64 x_2, .int .i64 x_3, .int .i64 x_4, .int .i64 x_5, .slice none 0 0] (fun vs => .popI .i64 vs fun n vs => .popI .i64 vs fun n_1 vs => .popI .i64 vs fun n_2 vs => .popI .i64 vs fun n_3 vs => .popI .i64 vs fun n_4 vs => .popI .i64 vs fun n_5 vs => .popI .i64 vs fun n_6 vs => .popS vs fun a n_7 c vs => .unNil vs (bif decide (n < (↑x_6n : Int)) then .need (0 ≤ n ∧ n < (↑x_6n : Int)) (.someA x_6p fun a_1 => .loadI .i64 (Addr.add (Addr.add a_1 (Int.toNat n * 5)) 0) fun n_8 => .loadI .i64 (Addr.add (Addr.add a_1 (Int.toNat n * 5)) 1) fun n_9 => .loadI .i64 (Addr.add (Addr.add a_1 (Int.toNat n * 5)) 2) fun n_10 => .loadS (Addr.add (Addr.add a_1 (Int.toNat n * 5)) 3) fun p n_11 c_1 => .loadI .i64 (Addr.add (Addr.add a_1 (Int.toNat n * 5)) 4) fun n_12 => .need (0 ≤ n_8 ∧ n_8 < (↑7 : Int)) (.loadV (Addr.add (Addr.add { block := 1, off := 0 } (Int.toNat n_8 * 4)) 3) fun v => .callv false v #[] fun v => .unB v fun b => bif !b then .sem false (Instr.buildSlice 48 1 #[(0, .agg #[.int .i64 n_8, .int .i64 n_9, .int .i64 n_10, .slice p n_11 c_1, .int .i64 n_12])]) fun v => .unS v fun a_2 n_13 c_2 => .sem false (Builtin.append_ #[48, 48] 48 #[.slice a n_7 c, .slice a_2 n_13 c_2]) fun v => .unS v fun a n_14 c => .leaf (.again [.int .i64 (IntKind.wrap .i64 (n + 1)), .int .i64 n_1, .int .i64 n_2, .int .i64 n_3, .int .i64 n_4, .int .i64 n_5, .int .i64 n_6, .slice a n_14 c]) else .call false 109 #[.slice eventsp eventsn eventsc, .int .i64 n] fun v => .unB v fun b => bif b then .sem false (Instr.buildSlice 48 1 #[(0, .agg #[.int .i64 n_8, .int .i64 n_9, .int .i64 n_10, .slice p n_11 c_1, .int .i64 n_12])]) fun v => .unS v fun a_2 n_13 c_2 => .sem false (Builtin.append_ #[48, 48] 48 #[.slice a n_7 c, .slice a_2 n_13 c_2]) fun v => .unS v fun a n_14 c => .leaf (.again [.int .i64 (IntKind.wrap .i64 (n + 1)), .int .i64 n_1, .int .i64 n_2, .int .i64 n_3, .int .i64 n_4, .int .i64 n_5, .int .i64 n_6, .slice a n_14 c]) else .leaf (.again [.int .i64 (IntKind.wrap .i64 (n + 1)), .int .i64 n_1, .int .i64 n_2, .int .i64 n_3, .int .i64 n_4, .int .i64 n_5, .int .i64 n_6, .slice a n_7 c]))) else .leaf (.brk [.int .i64 n, .int .i64 n_1, .int .i64 n_2, .int .i64 n_3, .int .i64 n_4, .int .i64 n_5, .int .i64 n_6, .slice a n_7 c]))) (fun vs => .popI .i64 vs fun n vs => .popI .i64 vs fun n vs => .popI .i64 vs fun n_1 vs => .popI .i64 vs fun n_2 vs => .popI .i64 vs fun n_3 vs => .popI .i64 vs fun n_4 vs => .popI .i64 vs fun n_5 vs => .popS vs fun a n_6 c vs => .unNil vs (.call false 82 #[.agg #[.int .i64 n, .int .i64 n_1, .int .i64 n_2, .int .i64 n_3, .int .i64 n_4, .int .i64 n_5, .slice a n_6 c, .int .i64 land, .int .i64 item], .int .i64 day] fun v => .unI .i64 v fun n => .leaf (.ret (.bool (decide (n ≥ 0)))))) (fun vs => .popI .i64 vs fun n vs => .popI .i64 vs fun n vs => .popI .i64 vs fun n vs => .popI .i64 vs fun n vs => .popI .i64 vs fun n vs => .popI .i64 vs fun n vs => .popI .i64 vs fun n vs => .popS vs fun a n c vs => .unNil vs (.leaf (.ret (.bool false)))) fun x x_6 => .fail
theorem t2069 (x_0 : Int) (x_1 : Int) (x_2 : Int) (x_3 : Int) (x_4 : Int) (x_5 : Int) (x_6p : Option Addr) (x_6n x_6c : Nat) (land : Int) (item : Int) (day : Int) (eventsp : Option Addr) (eventsn eventsc : Nat) : ftree ({ P := Tryd.prog, priv := [5, 11, 13], loops := [{ id := 0, slots := [(19, .int .i64), (49152, .int .i64), (49153, .int .i64), (49154, .int .i64), (49155, .int .i64), (49156, .int .i64), (49157, .int .i64), (49158, .slice)], ro := [5], outs := [] }], joins := [] }) Tryd.f89 [.agg #[.int .i64 x_0, .int .i64 x_1, .int .i64 x_2, .int .i64 x_3, .int .i64 x_4, .int .i64 x_5, .slice x_6p x_6n x_6c], .int .i64 land, .int .i64 item, .int .i64 day, .slice eventsp eventsn eventsc] = n2069 x_0 x_1 x_2 x_3 x_4 x_5 x_6p x_6n x_6c land item day eventsp eventsn eventsc := by kernel_rfl
theorem w2069 (x_0 : Int) (x_1 : Int) (x_2 : Int) (x_3 : Int) (x_4 : Int) (x_5 : Int) (x_6p : Option Addr) (x_6n x_6c : Nat) (land : Int) (item : Int) (day : Int) (eventsp : Option Addr) (eventsn eventsc : Nat) {X : XP} (hX : XOK X) {h : LH} {A : Value → LH → Prop} (hw : (n2069 x_0 x_1 x_2 x_3 x_4 x_5 x_6p x_6n x_6c land item day eventsp eventsn eventsc).wp X Tryd.prog (retQ A) h) : FWK X Tryd.prog .normal 89 #[.agg #[.int .i64 x_0, .int .i64 x_1, .int .i64 x_2, .int .i64 x_3, .int .i64 x_4, .int .i64 x_5, .slice x_6p x_6n x_6c], .int .i64 land, .int .i64 item, .int .i64 day, .slice eventsp eventsn eventsc] h A := fwk_neat (t2069 x_0 x_1 x_2 x_3 x_4 x_5 x_6p x_6n x_6c land item day eventsp eventsn eventsc) (by simp) (by kernel_rfl) (by kernel_rfl) hX hw
noncomputable def n2073 (z0 : Addr) (z1 : Addr) (z2 : Addr) (z3 : Addr) (z4 : Addr) (z5 : Addr) (z6 : Addr) (z7 : Addr) : T := .sem false (Instr.buildSlice 28 0 #[]) fun v => .unS v fun a n c => .loadS z0 fun p n_1 c_1 => .loop [.slice a n c, .int .i64 0] (fun vs => .popS vs fun a n c vs => .popI .i64 vs fun n_2 vs => .unNil vs (bif decide (n_2 < (↑n_1 : Int)) then .need (0 ≤ n_2 ∧ n_2 < (↑n_1 : Int)) (.someA p fun a_1 => .loadI .i64 (Addr.add a_1 (Int.toNat n_2 * 1)) fun n_3 => .loadI .i64 z1 fun n_4 => .need (0 ≤ n_2) (bif IntKind.wrap .i64 (↑(BitVec.toNat (BitVec.ofInt 64 (Int.fdiv n_4 (2 ^ min (Int.toNat n_2) 64)) &&& BitVec.ofInt 64 1)) : Int) == 1 then .sem false (Instr.buildSlice 28 1 #[(0, .int .i64 n_3)]) fun v => .unS v fun a_2 n_5 c_2 => .sem false (Builtin.append_ #[28, 28] 28 #[.slice a n c, .slice a_2 n_5 c_2]) fun v => .unS v fun a n c => .leaf (.again [.slice a n c, .int .i64 (IntKind.wrap .i64 (n_2 + 1))]) else .leaf (.again [.slice a n c, .int .i64 (IntKind.wrap .i64 (n_2 + 1))]))) else .leaf (.brk [.slice a n c, .int .i64 n_2]))) (fun vs => .popS vs fun a n c vs => .popI .i64 vs fun n_2 vs => .unNil vs (.loadI .i64 (Addr.add z2 0) fun n_3 => .loadI .i64 (Addr.add z2 1) fun n_4 => .loadI .i64 (Addr.add z2 2) fun n_5 => .loadI .i64 (Addr.add z2 3) fun n_6 => .loadI .i64 (Addr.add z2 4) fun n_7 => .loadI .i64 (Addr.add z2 5) fun n_8 => .loadS (Addr.add z2 6) fun p n_9 c_2 => .loadI .i64 z3 fun n_10 => .loadI .i64 z4 fun n_11 => .loadI .i64 z5 fun n_12 => .call false 89 #[.agg #[.int .i64 n_3, .int .i64 n_4, .int .i64 n_5, .int .i64 n_6, .int .i64 n_7, .int .i64 n_8, .slice p n_9 c_2], .int .i64 n_10, .int .i64 n_11, .int .i64 n_12, .slice a n c] fun v => .unB v fun b => bif b then .loadC z6 fun p => .comm false #[{ chan := .chan p, send := some (.slice a n c), zero := .tuple #[] }] CommShape.send fun v => .loadC z7 fun p => .comm true #[{ chan := .chan p, send := some (.bool true), zero := .tuple #[] }] CommShape.send fun v => .leaf (.ret (.tuple #[])) else .loadC z7 fun p => .comm true #[{ chan := .chan p, send := some (.bool true), zero := .tuple #[] }] CommShape.send fun v => .leaf (.ret (.tuple #[])))) (fun vs => .popS vs fun a n c vs => .popI .i64 vs fun n vs => .unNil vs (.leaf (.ret (.tuple #[])))) fun x x_1 => .fail
theorem t2073 (z0 : Addr) (z1 : Addr) (z2 : Addr) (z3 : Addr) (z4 : Addr) (z5 : Addr) (z6 : Addr) (z7 : Addr) : ftree ({ P := Tryd.prog, priv := [], loops := [{ id := 0, slots := [(8, .slice), (14, .int .i64)], ro := [], outs := [] }], joins := [], kd := .deferred }) Tryd.f88 [.pointer (some z0), .pointer (some z1), .pointer (some z2), .pointer (some z3), .pointer (some z4), .pointer (some z5), .pointer (some z6), .pointer (some z7)] = n2073 z0 z1 z2 z3 z4 z5 z6 z7 := by kernel_rfl
theorem w2073 (z0 : Addr) (z1 : Addr) (z2 : Addr) (z3 : Addr) (z4 : Addr) (z5 : Addr) (z6 : Addr) (z7 : Addr) {X : XP} (hX : XOK X) {h : LH} {A : Value → LH → Prop} (hw : (n2073 z0 z1 z2 z3 z4 z5 z6 z7).wp X Tryd.prog (retQ A) h) : FWK X Tryd.prog .deferred 88 #[.pointer (some z0), .pointer (some z1), .pointer (some z2), .pointer (some z3), .pointer (some z4), .pointer (some z5), .pointer (some z6), .pointer (some z7)] h A := fwk_neat (t2073 z0 z1 z2 z3 z4 z5 z6 z7) (by simp) (by kernel_rfl) (by kernel_rfl) hX hw
noncomputable def n2074 (ap : Option Addr) (an ac : Nat) (bp : Option Addr) (bn bc : Nat) : T := bif (↑an : Int) != (↑bn : Int) then .leaf (.ret (.int .i64 (IntKind.wrap .i64 ((↑an : Int) - (↑bn : Int))))) else .call false 103 #[.slice ap an ac, .slice bp bn bc] fun v => .unI .i64 v fun n => .leaf (.ret (.int .i64 n))
theorem t2074 (ap : Option Addr) (an ac : Nat) (bp : Option Addr) (bn bc : Nat) : ftree ({ P := Tryd.prog, priv := [], loops := [], joins := [] }) Tryd.f90 [.slice ap an ac, .slice bp bn bc] = n2074 ap an ac bp bn bc := by kernel_rfl
theorem w2074 (ap : Option Addr) (an ac : Nat) (bp : Option Addr) (bn bc : Nat) {X : XP} (hX : XOK X) {h : LH} {A : Value → LH → Prop} (hw : (n2074 ap an ac bp bn bc).wp X Tryd.prog (retQ A) h) : FWK X Tryd.prog .normal 90 #[.slice ap an ac, .slice bp bn bc] h A := fwk_neat (t2074 ap an ac bp bn bc) (by simp) (by kernel_rfl) (by kernel_rfl) hX hw
noncomputable def n2079 (x_0 : Int) (x_1 : Int) (x_2 : Int) (x_3 : Int) (x_4 : Int) (x_5 : Int) (x_6p : Option Addr) (x_6n x_6c : Nat) (land : Int) : T := .call false 126 #[.agg #[.int .i64 x_0, .int .i64 x_1, .int .i64 x_2, .int .i64 x_3, .int .i64 x_4, .int .i64 x_5, .slice x_6p x_6n x_6c]] fun v => .unI .i64 v fun n => bif n != 0 then .leaf (.ret (.int .i64 n)) else .call false 116 #[.int .i64 land, .int .i64 0, .int .i64 (IntKind.wrap .i64 (x_1 - 1))] fun v => .unB v fun b => bif !b then .leaf (.ret (.int .i64 6)) else .leaf (.ret (.int .i64 0))
theorem t2079 (x_0 : Int) (x_1 : Int) (x_2 : Int) (x_3 : Int) (x_4 : Int) (x_5 : Int) (x_6p : Option Addr) (x_6n x_6c : Nat) (land : Int) : ftree ({ P := Tryd.prog, priv := [2], loops := [], joins := [] }) Tryd.f112 [.agg #[.int .i64 x_0, .int .i64 x_1, .int .i64 x_2, .int .i64 x_3, .int .i64 x_4, .int .i64 x_5, .slice x_6p x_6n x_6c], .int .i64 land] = n2079 x_0 x_1 x_2 x_3 x_4 x_5 x_6p x_6n x_6c land := by kernel_rfl
theorem w2079 (x_0 : Int) (x_1 : Int) (x_2 : Int) (x_3 : Int) (x_4 : Int) (x_5 : Int) (x_6p : Option Addr) (x_6n x_6c : Nat) (land : Int) {X : XP} (hX : XOK X) {h : LH} {A : Value → LH → Prop} (hw : (n2079 x_0 x_1 x_2 x_3 x_4 x_5 x_6p x_6n x_6c land).wp X Tryd.prog (retQ A) h) : FWK X Tryd.prog .normal 112 #[.agg #[.int .i64 x_0, .int .i64 x_1, .int .i64 x_2, .int .i64 x_3, .int .i64 x_4, .int .i64 x_5, .slice x_6p x_6n x_6c], .int .i64 land] h A := fwk_neat (t2079 x_0 x_1 x_2 x_3 x_4 x_5 x_6p x_6n x_6c land) (by simp) (by kernel_rfl) (by kernel_rfl) hX hw
noncomputable def n2080 (seq : Value) : T := .call false 129 #[seq] fun v => .unS v fun a n c => .call false 130 #[.slice a n c] fun v => .unTup v fun l => .unNil l (.leaf (.ret (.slice a n c)))
theorem t2080 (seq : Value) : ftree ({ P := Tryd.prog, priv := [], loops := [], joins := [] }) Tryd.f117 [seq] = n2080 seq := by kernel_rfl
theorem w2080 (seq : Value) {X : XP} (hX : XOK X) {h : LH} {A : Value → LH → Prop} (hw : (n2080 seq).wp X Tryd.prog (retQ A) h) : FWK X Tryd.prog .normal 117 #[seq] h A := fwk_neat (t2080 seq) (by simp) (by kernel_rfl) (by kernel_rfl) hX hw
noncomputable def n2081 (m : Option Nat) : T := .new 142 #[.map m] fun r => .leaf (.ret (.func (Fn.func 131) #[] #[.pointer (some { block := r, off := 0 })]))
theorem t2081 (m : Option Nat) : ftree ({ P := Tryd.prog, priv := [], loops := [], joins := [] }) Tryd.f118 [.map m] = n2081 m := by kernel_rfl
theorem w2081 (m : Option Nat) {X : XP} (hX : XOK X) {h : LH} {A : Value → LH → Prop} (hw : (n2081 m).wp X Tryd.prog (retQ A) h) : FWK X Tryd.prog .normal 118 #[.map m] h A := fwk_neat (t2081 m) (by simp) (by kernel_rfl) (by kernel_rfl) hX hw
noncomputable def n2082 (m_0 : Int) (m_1 : Int) (m_2 : Int) (m_3 : Int) (m_4 : Int) (m_5 : Int) (m_6p : Option Addr) (m_6n m_6c : Nat) (m_7 : Int) (m_8 : Int) : T := .call false 119 #[.agg #[.int .i64 m_0, .int .i64 m_1, .int .i64 m_2, .int .i64 m_3, .int .i64 m_4, .int .i64 m_5, .slice m_6p m_6n m_6c, .int .i64 m_7, .int .i64 m_8]] fun v => .unS v fun a n c => .loop [.int .i64 0, .slice none 0 0] (fun vs => .popI .i64 vs fun n_1 vs => .popS vs fun a_1 n_2 c vs => .unNil vs (bif decide (n_1 < (↑n : Int)) then .need (0 ≤ n_1 ∧ n_1 < (↑n : Int)) (.someA a fun a => .loadI .i64 (Addr.add (Addr.add a (Int.toNat n_1 * 12)) 0) fun n => .loadI .i64 (Addr.add (Addr.add a (Int.toNat n_1 * 12)) 1) fun n_3 => .loadI .i64 (Addr.add (Addr.add a (Int.toNat n_1 * 12)) 2) fun n_4 => .loadI .i64 (Addr.add (Addr.add a (Int.toNat n_1 * 12)) 3) fun n_5 => .loadI .i64 (Addr.add (Addr.add a (Int.toNat n_1 * 12)) 4) fun n_6 => .loadI .i64 (Addr.add (Addr.add a (Int.toNat n_1 * 12)) 5) fun n_7 => .loadS (Addr.add (Addr.add a (Int.toNat n_1 * 12)) 6) fun p n_8 c_1 => .loadI .i64 (Addr.add (Addr.add a (Int.toNat n_1 * 12)) 7) fun n_9 => .loadI .i64 (Addr.add (Addr.add a (Int.toNat n_1 * 12)) 8) fun n_10 => .loadI .i64 (Addr.add (Addr.add a (Int.toNat n_1 * 12)) 9) fun n_11 => .loadI .i64 (Addr.add (Addr.add a (Int.toNat n_1 * 12)) 10) fun n_12 => .loadB (Addr.add (Addr.add a (Int.toNat n_1 * 12)) 11) fun b => .sem false (Instr.buildSlice 168 1 #[(0, .iface 145 (.agg #[.int .i64 n, .int .i64 n_3, .int .i64 n_4, .int .i64 n_5, .int .i64 n_6, .int .i64 n_7, .slice p n_8 c_1, .int .i64 n_9, .int .i64 n_10, .int .i64 n_11, .int .i64 n_12, .bool b]))]) fun v => .unS v fun a n c_2 => .sem false (Builtin.append_ #[168, 168] 168 #[.slice a_1 n_2 c, .slice a n c_2]) fun v => .unS v fun a n c => .leaf (.again [.int .i64 (IntKind.wrap .i64 (n_1 + 1)), .slice a n c])) else .leaf (.brk [.int .i64 n_1, .slice a_1 n_2 c]))) (fun vs => .popI .i64 vs fun n vs => .popS vs fun a n c vs => .unNil vs (.call false 115 #[.agg #[.int .i64 m_0, .int .i64 m_1, .int .i64 m_2, .int .i64 m_3, .int .i64 m_4, .int .i64 m_5, .slice m_6p m_6n m_6c, .int .i64 m_7, .int .i64 m_8], .int .i64 5] fun v => .each v [.slice a n c] (fun xs vs => .unCons xs fun v vs_1 => .unAgg v fun l => .popI .i64 l fun n vs_2 => .popI .i64 vs_2 fun n vs_3 => .popI .i64 vs_3 fun n_1 vs_4 => .popS vs_4 fun a n_2 c vs_5 => .popI .i64 vs_5 fun n_3 vs_6 => .unNil vs_6 (.unNil vs_1 (.popS vs fun a n_4 c vs => .unNil vs (.call false 85 #[.agg #[.int .i64 m_0, .int .i64 m_1, .int .i64 m_2, .int .i64 m_3, .int .i64 m_4, .int .i64 m_5, .slice m_6p m_6n m_6c, .int .i64 m_7, .int .i64 m_8], .int .i64 n] fun v => .unTup v fun l => .unCons l fun v vs => .unAgg v fun l => .popI .i64 l fun n_5 vs_7 => .popI .i64 vs_7 fun n_6 vs_8 => .popI .i64 vs_8 fun n_7 vs_9 => .popI .i64 vs_9 fun n_8 vs_10 => .popI .i64 vs_10 fun n_9 vs_11 => .popI .i64 vs_11 fun n_10 vs_12 => .popS vs_12 fun a_1 n_11 c_1 vs_13 => .popI .i64 vs_13 fun n_12 vs_14 => .popI .i64 vs_14 fun n_13 vs_15 => .popI .i64 vs_15 fun n_14 vs_16 => .popI .i64 vs_16 fun n_15 vs_17 => .popB vs_17 fun b vs_18 => .unNil vs_18 (.unCons vs fun v vs => .unB v fun b_1 => .unNil vs (bif b_1 then .call false 127 #[.agg #[.int .i64 m_0, .int .i64 m_1, .int .i64 m_2, .int .i64 m_3, .int .i64 m_4, .int .i64 m_5, .slice m_6p m_6n m_6c, .int .i64 m_7, .int .i64 m_8], .int .i64 n] fun v => .unI .i64 v fun n_16 => .need (AV.pp 6 1 = AV.pp 6 1) (.nd (.int .i64 n) (.need (AV.pp 6 1 = AV.pp 6 1) (.nd (.agg #[.int .i64 n_5, .int .i64 n_6, .int .i64 n_7, .int .i64 n_8, .int .i64 n_9, .int .i64 n_10, .slice a_1 n_11 c_1, .int .i64 n_12, .int .i64 n_13, .int .i64 n_14, .int .i64 n_15, .bool b]) (.nd (.slice a n_4 c) (.sem false (Instr.buildSlice 168 1 #[(0, .iface 192 (.agg #[.int .i64 n_5, .int .i64 n_6, .int .i64 n_7, .int .i64 n_8, .int .i64 n_9, .int .i64 n_10, .slice a_1 n_11 c_1, .int .i64 n_12, .int .i64 n_13, .int .i64 n_14, .int .i64 n_15, .bool b, .int .i64 n, .int .i64 n_16]))]) fun v => .unS v fun a_2 n_17 c_2 => .nd (.agg #[.int .i64 n_5, .int .i64 n_6, .int .i64 n_7, .int .i64 n_8, .int .i64 n_9, .int .i64 n_10, .slice a_1 n_11 c_1, .int .i64 n_12, .int .i64 n_13, .int .i64 n_14, .int .i64 n_15, .bool b, .int .i64 n, .int .i64 n_16]) (.need (AV.pp 6 1 = AV.pp 6 1) (.nd (.int .i64 n) (.need (AV.pp 6 1 = AV.pp 6 1) (.nd (.agg #[.int .i64 n_5, .int .i64 n_6, .int .i64 n_7, .int .i64 n_8, .int .i64 n_9, .int .i64 n_10, .slice a_1 n_11 c_1, .int .i64 n_12, .int .i64 n_13, .int .i64 n_14, .int .i64 n_15, .bool b]) (.nd (.slice a n_4 c) (.sem false (Builtin.append_ #[168, 168] 168 #[.slice a n_4 c, .slice a_2 n_17 c_2]) fun v => .unS v fun a n_18 c => .nd (.agg #[.int .i64 n_5, .int .i64 n_6, .int .i64 n_7, .int .i64 n_8, .int .i64 n_9, .int .i64 n_10, .slice a_1 n_11 c_1, .int .i64 n_12, .int .i64 n_13, .int .i64 n_14, .int .i64 n_15, .bool b, .int .i64 n, .int .i64 n_16]) (.need (AV.pp 6 1 = AV.pp 6 1) (.nd (.int .i64 n) (.need (AV.pp 6 1 = AV.pp 6 1) (.nd (.agg #[.int .i64 n_5, .int .i64 n_6, .int .i64 n_7, .int .i64 n_8, .int .i64 n_9, .int .i64 n_10, .slice a_1 n_11 c_1, .int .i64 n_12, .int .i64 n_13, .int .i64 n_14, .int .i64 n_15, .bool b]) (.leaf (.again [.slice a n_18 c]))))))))))))))))) else .leaf (.again [.slice a n_4 c]))))))) (fun vs => .popS vs fun a n c vs => .unNil vs (.leaf (.ret (.slice a n c)))) (fun vs => .popS vs fun a n c vs => .unNil vs (.leaf (.ret (.slice a n c)))) (fun vs => .popS vs fun a n c vs => .unNil vs (.leaf (.ret (.slice none 0 0)))) fun x x_1 => .fail)) (fun vs => .popI .i64 vs fun n vs => .popS vs fun a n c vs => .unNil vs (.leaf (.ret (.slice none 0 0)))) fun x x_1 => .fail
theorem t2082 (m_0 : Int) (m_1 : Int) (m_2 : Int) (m_3 : Int) (m_4 : Int) (m_5 : Int) (m_6p : Option Addr) (m_6n m_6c : Nat) (m_7 : Int) (m_8 : Int) : ftree ({ P := Tryd.prog, priv := [1, 3, 5, 6, 7], loops := [{ id := 0, slots := [(12, .int .i64), (16384, .slice)], ro := [1], outs := [] }, { id := 2, slots := [(16384, .slice)], ro := [1], outs := [], ps := [.agg [.int .i64, .int .i64, .int .i64, .slice, .int .i64]] }], joins := [] }) Tryd.f114 [.agg #[.int .i64 m_0, .int .i64 m_1, .int .i64 m_2, .int .i64 m_3, .int .i64 m_4, .int .i64 m_5, .slice m_6p m_6n m_6c, .int .i64 m_7, .int .i64 m_8]] = n2082 m_0 m_1 m_2 m_3 m_4 m_5 m_6p m_6n m_6c m_7 m_8 := by kernel_rfl
theorem w2082 (m_0 : Int) (m_1 : Int) (m_2 : Int) (m_3 : Int) (m_4 : Int) (m_5 : Int) (m_6p : Option Addr) (m_6n m_6c : Nat) (m_7 : Int) (m_8 : Int) {X : XP} (hX : XOK X) {h : LH} {A : Value → LH → Prop} (hw : (n2082 m_0 m_1 m_2 m_3 m_4 m_5 m_6p m_6n m_6c m_7 m_8).wp X Tryd.prog (retQ A) h) : FWK X Tryd.prog .normal 114 #[.agg #[.int .i64 m_0, .int .i64 m_1, .int .i64 m_2, .int .i64 m_3, .int .i64 m_4, .int .i64 m_5, .slice m_6p m_6n m_6c, .int .i64 m_7, .int .i64 m_8]] h A := fwk_neat (t2082 m_0 m_1 m_2 m_3 m_4 m_5 m_6p m_6n m_6c m_7 m_8) (by simp) (by kernel_rfl) (by kernel_rfl) hX hw
noncomputable def n2083 (m_0 : Int) (m_1 : Int) (m_2 : Int) (m_3 : Int) (m_4 : Int) (m_5 : Int) (m_6p : Option Addr) (m_6n m_6c : Nat) (m_7 : Int) (m_8 : Int) (k : Int) : T := .new 141 #[.int .i64 m_0, .int .i64 m_1, .int .i64 m_2, .int .i64 m_3, .int .i64 m_4, .int .i64 m_5, .slice m_6p m_6n m_6c, .int .i64 m_7, .int .i64 m_8] fun r => .new 133 #[.int .i64 k] fun r_1 => .leaf (.ret (.func (Fn.func 128) #[] #[.pointer (some { block := r, off := 0 }), .pointer (some { block := r_1, off := 0 })]))
theorem t2083 (m_0 : Int) (m_1 : Int) (m_2 : Int) (m_3 : Int) (m_4 : Int) (m_5 : Int) (m_6p : Option Addr) (m_6n m_6c : Nat) (m_7 : Int) (m_8 : Int) (k : Int) : ftree ({ P := Tryd.prog, priv := [], loops := [], joins := [] }) Tryd.f115 [.agg #[.int .i64 m_0, .int .i64 m_1, .int .i64 m_2, .int .i64 m_3, .int .i64 m_4, .int .i64 m_5, .slice m_6p m_6n m_6c, .int .i64 m_7, .int .i64 m_8], .int .i64 k] = n2083 m_0 m_1 m_2 m_3 m_4 m_5 m_6p m_6n m_6c m_7 m_8 k := by kernel_rfl
theorem w2083 (m_0 : Int) (m_1 : Int) (m_2 : Int) (m_3 : Int) (m_4 : Int) (m_5 : Int) (m_6p : Option Addr) (m_6n m_6c : Nat) (m_7 : Int) (m_8 : Int) (k : Int) {X : XP} (hX : XOK X) {h : LH} {A : Value → LH → Prop} (hw : (n2083 m_0 m_1 m_2 m_3 m_4 m_5 m_6p m_6n m_6c m_7 m_8 k).wp X Tryd.prog (retQ A) h) : FWK X Tryd.prog .normal 115 #[.agg #[.int .i64 m_0, .int .i64 m_1, .int .i64 m_2, .int .i64 m_3, .int .i64 m_4, .int .i64 m_5, .slice m_6p m_6n m_6c, .int .i64 m_7, .int .i64 m_8], .int .i64 k] h A := fwk_neat (t2083 m_0 m_1 m_2 m_3 m_4 m_5 m_6p m_6n m_6c m_7 m_8 k) (by simp) (by kernel_rfl) (by kernel_rfl) hX hw
noncomputable def n2084 (m_0 : Int) (m_1 : Int) (m_2 : Int) (m_3 : Int) (m_4 : Int) (m_5 : Int) (m_6p : Option Addr) (m_6n m_6c : Nat) (m_7 : Int) (m_8 : Int) : T := .call false 115 #[.agg #[.int .i64 m_0, .int .i64 m_1, .int .i64 m_2, .int .i64 m_3, .int .i64 m_4, .int .i64 m_5, .slice m_6p m_6n m_6c, .int .i64 m_7, .int .i64 m_8], .int .i64 0] fun v => .each v [.slice none 0 0] (fun xs vs => .unCons xs fun v vs_1 => .unAgg v fun l => .popI .i64 l fun n vs_2 => .popI .i64 vs_2 fun n vs_3 => .popI .i64 vs_3 fun n_1 vs_4 => .popS vs_4 fun a n_2 c vs_5 => .popI .i64 vs_5 fun n_3 vs_6 => .unNil vs_6 (.unNil vs_1 (.popS vs fun a n_4 c vs => .unNil vs (.call false 132 #[.agg #[.int .i64 m_0, .int .i64 m_1, .int .i64 m_2, .int .i64 m_3, .int .i64 m_4, .int .i64 m_5, .slice m_6p m_6n m_6c, .int .i64 m_7, .int .i64 m_8], .int .i64 0] fun v => .unI .i64 v fun n_5 => .nd (.int .i64 n) (.need (AV.pp 4 1 = AV.pp 4 1) (bif decide (n_5 ≤ n) then .leaf (.again [.slice a n_4 c]) else .call false 132 #[.agg #[.int .i64 m_0, .int .i64 m_1, .int .i64 m_2, .int .i64 m_3, .int .i64 m_4, .int .i64 m_5, .slice m_6p m_6n m_6c, .int .i64 m_7, .int .i64 m_8], .int .i64 n] fun v => .unI .i64 v fun n_6 => .nd (.int .i64 n) (.need (AV.pp 4 1 = AV.pp 4 1) (.nd (.agg #[.int .i64 m_0, .int .i64 m_1, .int .i64 m_2, .int .i64 m_3, .int .i64 m_4, .int .i64 m_5, .slice m_6p m_6n m_6c, .int .i64 m_7, .int .i64 m_8]) (.need (AV.pp 4 1 = AV.pp 4 1) (.call false 127 #[.agg #[.int .i64 m_0, .int .i64 m_1, .int .i64 m_2, .int .i64 m_3, .int .i64 m_4, .int .i64 m_5, .slice m_6p m_6n m_6c, .int .i64 m_7, .int .i64 m_8], .int .i64 n] fun v => .unI .i64 v fun n_7 => .need (AV.pp 4 1 = AV.pp 4 1) (.need (AV.pp 4 1 = AV.pp 4 1) (.need (AV.pp 4 1 = AV.pp 4 1) (.sem false (Instr.buildSlice 179 1 #[(0, .agg #[.int .i64 m_0, .int .i64 m_1, .int .i64 m_2, .int .i64 m_3, .int .i64 m_4, .int .i64 m_5, .slice m_6p m_6n m_6c, .int .i64 m_7, .int .i64 m_8, .int .i64 n, .int .i64 (if n_7 < n_6 then n_7 else n_6), .bool (decide (n_6 < n_7))])]) fun v => .unS v fun a_1 n c_1 => .sem false (Builtin.append_ #[179, 179] 179 #[.slice a n_4 c, .slice a_1 n c_1]) fun v => .unS v fun a n c => .leaf (.again [.slice a n c])))))))))))))) (fun vs => .popS vs fun a n c vs => .unNil vs (.leaf (.ret (.slice a n c)))) (fun vs => .popS vs fun a n c vs => .unNil vs (.leaf (.ret (.slice a n c)))) (fun vs => .popS vs fun a n c vs => .unNil vs (.leaf (.ret (.slice none 0 0)))) fun x x_1 => .fail
theorem t2084 (m_0 : Int) (m_1 : Int) (m_2 : Int) (m_3 : Int) (m_4 : Int) (m_5 : Int) (m_6p : Option Addr) (m_6n m_6c : Nat) (m_7 : Int) (m_8 : Int) : ftree ({ P := Tryd.prog, priv := [1, 3, 4], loops := [{ id := 0, slots := [(16384, .slice)], ro := [1], outs := [], ps := [.agg [.int .i64, .int .i64, .int .i64, .slice, .int .i64]] }], joins := [] }) Tryd.f119 [.agg #[.int .i64 m_0, .int .i64 m_1, .int .i64 m_2, .int .i64 m_3, .int .i64 m_4, .int .i64 m_5, .slice m_6p m_6n m_6c, .int .i64 m_7, .int .i64 m_8]] = n2084 m_0 m_1 m_2 m_3 m_4 m_5 m_6p m_6n m_6c m_7 m_8 := by kernel_rfl
theorem w2084 (m_0 : Int) (m_1 : Int) (m_2 : Int) (m_3 : Int) (m_4 : Int) (m_5 : Int) (m_6p : Option Addr) (m_6n m_6c : Nat) (m_7 : Int) (m_8 : Int) {X : XP} (hX : XOK X) {h : LH} {A : Value → LH → Prop} (hw : (n2084 m_0 m_1 m_2 m_3 m_4 m_5 m_6p m_6n m_6c m_7 m_8).wp X Tryd.prog (retQ A) h) : FWK X Tryd.prog .normal 119 #[.agg #[.int .i64 m_0, .int .i64 m_1, .int .i64 m_2, .int .i64 m_3, .int .i64 m_4, .int .i64 m_5, .slice m_6p m_6n m_6c, .int .i64 m_7, .int .i64 m_8]] h A := fwk_neat (t2084 m_0 m_1 m_2 m_3 m_4 m_5 m_6p m_6n m_6c m_7 m_8) (by simp) (by kernel_rfl) (by kernel_rfl) hX hw
noncomputable def n2085 (a_0 : Int) (a_1 : Int) (a_2 : Int) (a_3 : Int) (a_4 : Int) (a_5 : Int) (a_6p : Option Addr) (a_6n a_6c : Nat) (a_7 : Int) (a_8 : Int) (a_9 : Int) (a_10 : Int) (a_11 : Bool) (day : Int) : T := .new 145 #[.int .i64 a_0, .int .i64 a_1, .int .i64 a_2, .int .i64 a_3, .int .i64 a_4, .int .i64 a_5, .slice a_6p a_6n a_6c, .int .i64 a_7, .int .i64 a_8, .int .i64 a_9, .int .i64 a_10, .bool a_11] fun r => .new 3 #[.int .i64 day] fun r_1 => .loadI .i64 (Addr.add (Addr.add { block := r, off := 0 } 0) 0) fun n => .loadI .i64 (Addr.add (Addr.add { block := r, off := 0 } 0) 1) fun n_1 => .loadI .i64 (Addr.add (Addr.add { block := r, off := 0 } 0) 2) fun n_2 => .loadI .i64 (Addr.add (Addr.add { block := r, off := 0 } 0) 3) fun n_3 => .loadI .i64 (Addr.add (Addr.add { block := r, off := 0 } 0) 4) fun n_4 => .loadI .i64 (Addr.add (Addr.add { block := r, off := 0 } 0) 5) fun n_5 => .loadS (Addr.add (Addr.add { block := r, off := 0 } 0) 6) fun p n_6 c => .loadI .i64 (Addr.add (Addr.add { block := r, off := 0 } 0) 7) fun n_7 => .loadI .i64 (Addr.add (Addr.add { block := r, off := 0 } 0) 8) fun n_8 => .call false 115 #[.agg #[.int .i64 n, .int .i64 n_1, .int .i64 n_2, .int .i64 n_3, .int .i64 n_4, .int .i64 n_5, .slice p n_6 c, .int .i64 n_7, .int .i64 n_8], .int .i64 1] fun v => .each v [.bool false] (fun xs vs => .unCons xs fun v vs_1 => .unAgg v fun l => .popI .i64 l fun n vs_2 => .popI .i64 vs_2 fun n vs_3 => .popI .i64 vs_3 fun n_9 vs_4 => .popS vs_4 fun a n_10 c vs_5 => .popI .i64 vs_5 fun n_11 vs_6 => .unNil vs_6 (.unNil vs_1 (.popB vs fun b vs => .unNil vs (.loadI .i64 (Addr.add { block := r, off := 0 } 9) fun n_12 => .loadI .i64 { block := r_1, off := 0 } fun n_13 => .loadI .i64 (Addr.add { block := r, off := 0 } 9) fun n_14 => .loadI .i64 (Addr.add (Addr.add (Addr.add { block := r, off := 0 } 0) 0) 4) fun n_15 => .call false 116 #[.int .i64 n, .int .i64 n_12, .int .i64 (if IntKind.wrap .i64 (n_14 + n_15) < n_13 then IntKind.wrap .i64 (n_14 + n_15) else n_13)] fun v => .unB v fun b_1 => bif b_1 then .callv false (.func (Fn.func 133) #[] #[.pointer (some { block := r, off := 0 }), .pointer (some { block := r_1, off := 0 })]) #[.int .i64 n] fun v => .unB v fun b_2 => bif !b_2 then .leaf (.retn [.bool true]) else .leaf (.again [.bool b]) else .leaf (.again [.bool b]))))) (fun vs => .popB vs fun b vs => .unNil vs (.leaf (.ret (.bool false)))) (fun vs => .popB vs fun b vs => .unNil vs (.leaf (.ret (.bool false)))) (fun vs => .popB vs fun b vs => .unNil vs (.leaf (.ret (.bool b)))) fun x x_1 => .fail
theorem t2085 (a_0 : Int) (a_1 : Int) (a_2 : Int) (a_3 : Int) (a_4 : Int) (a_5 : Int) (a_6p : Option Addr) (a_6n a_6c : Nat) (a_7 : Int) (a_8 : Int) (a_9 : Int) (a_10 : Int) (a_11 : Bool) (day : Int) : ftree ({ P := Tryd.prog, priv := [4, 5, 6], loops := [{ id := 0, slots := [(20480, .bool)], ro := [5], outs := [], ps := [.agg [.int .i64, .int .i64, .int .i64, .slice, .int .i64]] }], joins := [] }) Tryd.f120 [.agg #[.int .i64 a_0, .int .i64 a_1, .int .i64 a_2, .int .i64 a_3, .int .i64 a_4, .int .i64 a_5, .slice a_6p a_6n a_6c, .int .i64 a_7, .int .i64 a_8, .int .i64 a_9, .int .i64 a_10, .bool a_11], .int .i64 day] = n2085 a_0 a_1 a_2 a_3 a_4 a_5 a_6p a_6n a_6c a_7 a_8 a_9 a_10 a_11 day := by kernel_rfl
theorem w2085 (a_0 : Int) (a_1 : Int) (a_2 : Int) (a_3 : Int) (a_4 : Int) (a_5 : Int) (a_6p : Option Addr) (a_6n a_6c : Nat) (a_7 : Int) (a_8 : Int) (a_9 : Int) (a_10 : Int) (a_11 : Bool) (day : Int) {X : XP} (hX : XOK X) {h : LH} {A : Value → LH → Prop} (hw : (n2085 a_0 a_1 a_2 a_3 a_4 a_5 a_6p a_6n a_6c a_7 a_8 a_9 a_10 a_11 day).wp X Tryd.prog (retQ A) h) : FWK X Tryd.prog .normal 120 #[.agg #[.int .i64 a_0, .int .i64 a_1, .int .i64 a_2, .int .i64 a_3, .int .i64 a_4, .int .i64 a_5, .slice a_6p a_6n a_6c, .int .i64 a_7, .int .i64 a_8, .int .i64 a_9, .int .i64 a_10, .bool a_11], .int .i64 day] h A := fwk_neat (t2085 a_0 a_1 a_2 a_3 a_4 a_5 a_6p a_6n a_6c a_7 a_8 a_9 a_10 a_11 day) (by simp) (by kernel_rfl) (by kernel_rfl) hX hw
noncomputable def n2091 (seq : Value) : T := .call false 137 #[.slice none 0 0, seq] fun v => .unS v fun a n c => .leaf (.ret (.slice a n c))
theorem t2091 (seq : Value) : ftree ({ P := Tryd.prog, priv := [], loops := [], joins := [] }) Tryd.f129 [seq] = n2091 seq := by kernel_rfl
theorem w2091 (seq : Value) {X : XP} (hX : XOK X) {h : LH} {A : Value → LH → Prop} (hw : (n2091 seq).wp X Tryd.prog (retQ A) h) : FWK X Tryd.prog .normal 129 #[seq] h A := fwk_neat (t2091 seq) (by simp) (by kernel_rfl) (by kernel_rfl) hX hw
noncomputable def n2092 (xp : Option Addr) (xn xc : Nat) : T := .call false 139 #[.int .u64 (IntKind.wrap .u64 (↑xn : Int))] fun v => .unI .i64 v fun n => .call false 138 #[.slice xp xn xc, .int .i64 0, .int .i64 (↑xn : Int), .int .i64 n] fun v => .unTup v fun l => .unNil l (.leaf (.ret (.tuple #[])))
theorem t2092 (xp : Option Addr) (xn xc : Nat) : ftree ({ P := Tryd.prog, priv := [], loops := [], joins := [] }) Tryd.f130 [.slice xp xn xc] = n2092 xp xn xc := by kernel_rfl
theorem w2092 (xp : Option Addr) (xn xc : Nat) {X : XP} (hX : XOK X) {h : LH} {A : Value → LH → Prop} (hw : (n2092 xp xn xc).wp X Tryd.prog (retQ A) h) : FWK X Tryd.prog .normal 130 #[.slice xp xn xc] h A := fwk_neat (t2092 xp xn xc) (by simp) (by kernel_rfl) (by kernel_rfl) hX hw
noncomputable def n2093 (yield : Value) (z0 : Addr) : T := .loadM z0 fun p => .sem false (Instr.range 142 (.map p)) fun v => .unP v fun a => .loop [] (fun vs => .unNil vs (.sem false (Instr.next (.pointer a) false 0) fun v => .unTup v fun l => .unCons l fun b l => .unB b fun b => bif b then .unCons l fun v vs => .unCons vs fun v vs => .unNil vs (.sem false (Instr.entry (.pointer a)) fun v => .unTup v fun l => .unCons l fun v vs => .unCons vs fun v_1 vs => .unNil vs (.callv false yield #[v] fun v => .unB v fun b => bif !b then .leaf (.retn []) else .leaf (.again []))) else .unNil l (.leaf (.brk [])))) (fun vs => .unNil vs (.leaf (.ret (.tuple #[])))) (fun vs => .unNil vs (.leaf (.ret (.tuple #[])))) fun x x_1 => .fail
theorem t2093 (yield : Value) (z0 : Addr) : ftree ({ P := Tryd.prog, priv := [], loops := [{ id := 0, slots := [], ro := [], outs := [] }], joins := [] }) Tryd.f131 [yield, .pointer (some z0)] = n2093 yield z0 := by kernel_rfl
theorem w2093 (yield : Value) (z0 : Addr) {X : XP} (hX : XOK X) {h : LH} {A : Value → LH → Prop} (hw : (n2093 yield z0).wp X Tryd.prog (retQ A) h) : FWK X Tryd.prog .normal 131 #[yield, .pointer (some z0)] h A := fwk_neat (t2093 yield z0) (by simp) (by kernel_rfl) (by kernel_rfl) hX hw
noncomputable def n2094 (m_0 : Int) (m_1 : Int) (m_2 : Int) (m_3 : Int) (m_4 : Int) (m_5 : Int) (m_6p : Option Addr) (m_6n m_6c : Nat) (m_7 : Int) (m_8 : Int) (from0 : Int) : T := .call false 115 #[.agg #[.int .i64 m_0, .int .i64 m_1, .int .i64 m_2, .int .i64 m_3, .int .i64 m_4, .int .i64 m_5, .slice m_6p m_6n m_6c, .int .i64 m_7, .int .i64 m_8], .int .i64 3] fun v => .each v [.int .i64 10000] (fun xs vs => .unCons xs fun v vs_1 => .unAgg v fun l => .popI .i64 l fun n vs_2 => .popI .i64 vs_2 fun n vs_3 => .popI .i64 vs_3 fun n_1 vs_4 => .popS vs_4 fun a n_2 c vs_5 => .popI .i64 vs_5 fun n_3 vs_6 => .unNil vs_6 (.unNil vs_1 (.popI .i64 vs fun n_4 vs => .unNil vs (bif decide (n ≥ from0) then .leaf (.again [.int .i64 (if n < n_4 then n else n_4)]) else .leaf (.again [.int .i64 n_4]))))) (fun vs => .popI .i64 vs fun n vs => .unNil vs (.leaf (.ret (.int .i64 n)))) (fun vs => .popI .i64 vs fun n vs => .unNil vs (.leaf (.ret (.int .i64 n)))) (fun vs => .popI .i64 vs fun n vs => .unNil vs (.leaf (.ret (.int .i64 0)))) fun x x_1 => .fail
theorem t2094 (m_0 : Int) (m_1 : Int) (m_2 : Int) (m_3 : Int) (m_4 : Int) (m_5 : Int) (m_6p : Option Addr) (m_6n m_6c : Nat) (m_7 : Int) (m_8 : Int) (from0 : Int) : ftree ({ P := Tryd.prog, priv := [2, 3, 5, 6], loops := [{ id := 0, slots := [(24576, .int .i64)], ro := [2, 3], outs := [], ps := [.agg [.int .i64, .int .i64, .int .i64, .slice, .int .i64]] }], joins := [] }) Tryd.f127 [.agg #[.int .i64 m_0, .int .i64 m_1, .int .i64 m_2, .int .i64 m_3, .int .i64 m_4, .int .i64 m_5, .slice m_6p m_6n m_6c, .int .i64 m_7, .int .i64 m_8], .int .i64 from0] = n2094 m_0 m_1 m_2 m_3 m_4 m_5 m_6p m_6n m_6c m_7 m_8 from0 := by kernel_rfl
theorem w2094 (m_0 : Int) (m_1 : Int) (m_2 : Int) (m_3 : Int) (m_4 : Int) (m_5 : Int) (m_6p : Option Addr) (m_6n m_6c : Nat) (m_7 : Int) (m_8 : Int) (from0 : Int) {X : XP} (hX : XOK X) {h : LH} {A : Value → LH → Prop} (hw : (n2094 m_0 m_1 m_2 m_3 m_4 m_5 m_6p m_6n m_6c m_7 m_8 from0).wp X Tryd.prog (retQ A) h) : FWK X Tryd.prog .normal 127 #[.agg #[.int .i64 m_0, .int .i64 m_1, .int .i64 m_2, .int .i64 m_3, .int .i64 m_4, .int .i64 m_5, .slice m_6p m_6n m_6c, .int .i64 m_7, .int .i64 m_8], .int .i64 from0] h A := fwk_neat (t2094 m_0 m_1 m_2 m_3 m_4 m_5 m_6p m_6n m_6c m_7 m_8 from0) (by simp) (by kernel_rfl) (by kernel_rfl) hX hw
noncomputable def n2095 (yield : Value) (z0 : Addr) (z1 : Addr) : T := .loadS (Addr.add (Addr.add z0 0) 6) fun p n c => .loop [.int .i64 0] (fun vs => .popI .i64 vs fun n_1 vs => .unNil vs (bif decide (n_1 < (↑n : Int)) then .need (0 ≤ n_1 ∧ n_1 < (↑n : Int)) (.someA p fun a => .loadI .i64 (Addr.add (Addr.add a (Int.toNat n_1 * 5)) 0) fun n => .loadI .i64 (Addr.add (Addr.add a (Int.toNat n_1 * 5)) 1) fun n_2 => .loadI .i64 (Addr.add (Addr.add a (Int.toNat n_1 * 5)) 2) fun n_3 => .loadS (Addr.add (Addr.add a (Int.toNat n_1 * 5)) 3) fun p n_4 c => .loadI .i64 (Addr.add (Addr.add a (Int.toNat n_1 * 5)) 4) fun n_5 => .blk (.loadI .i64 z1 fun n => .need (0 ≤ n ∧ n < (↑7 : Int)) (.loadB (Addr.add (Addr.add (Addr.add { block := 1, off := 0 } (Int.toNat n * 4)) 1) 0) fun b => bif !b then .leaf (.again [.bool true]) else .loadI .i64 (Addr.add z0 7) fun n => .leaf (.again [.bool (n_3 == n)]))) (fun vs => .popB vs fun b vs => .unNil vs (.loadI .i64 z1 fun n_6 => bif n == n_6 then bif b then .loadI .i64 (Addr.add z0 8) fun n_7 => .call false 109 #[.slice p n_4 c, .int .i64 n_7] fun v => .unB v fun b => bif b then .callv false yield #[.agg #[.int .i64 n, .int .i64 n_2, .int .i64 n_3, .slice p n_4 c, .int .i64 n_5]] fun v => .unB v fun b => bif !b then .leaf (.retn [.int .i64 n_1]) else .leaf (.again [.int .i64 (IntKind.wrap .i64 (n_1 + 1))]) else .leaf (.again [.int .i64 (IntKind.wrap .i64 (n_1 + 1))]) else .leaf (.again [.int .i64 (IntKind.wrap .i64 (n_1 + 1))]) else .leaf (.again [.int .i64 (IntKind.wrap .i64 (n_1 + 1))]))) (fun vs => .popB vs fun b vs => .unNil vs (.leaf (.retn [.int .i64 n_1]))) fun x x_1 => .fail) else .leaf (.brk [.int .i64 n_1]))) (fun vs => .popI .i64 vs fun n vs => .unNil vs (.leaf (.ret (.tuple #[])))) (fun vs => .popI .i64 vs fun n vs => .unNil vs (.leaf (.ret (.tuple #[])))) fun x x_1 => .fail
theorem t2095 (yield : Value) (z0 : Addr) (z1 : Addr) : ftree ({ P := Tryd.prog, priv := [5], loops := [{ id := 0, slots := [(11, .int .i64)], ro := [], outs := [] }], joins := [{ id := 4, slots := [(6, .bool)], ro := [5], outs := [] }] }) Tryd.f128 [yield, .pointer (some z0), .pointer (some z1)] = n2095 yield z0 z1 := by kernel_rfl
theorem w2095 (yield : Value) (z0 : Addr) (z1 : Addr) {X : XP} (hX : XOK X) {h : LH} {A : Value → LH → Prop} (hw : (n2095 yield z0 z1).wp X Tryd.prog (retQ A) h) : FWK X Tryd.prog .normal 128 #[yield, .pointer (some z0), .pointer (some z1)] h A := fwk_neat (t2095 yield z0 z1) (by simp) (by kernel_rfl) (by kernel_rfl) hX hw
noncomputable def n2096 (m_0 : Int) (m_1 : Int) (m_2 : Int) (m_3 : Int) (m_4 : Int) (m_5 : Int) (m_6p : Option Addr) (m_6n m_6c : Nat) (m_7 : Int) (m_8 : Int) (from0 : Int) : T := .call false 115 #[.agg #[.int .i64 m_0, .int .i64 m_1, .int .i64 m_2, .int .i64 m_3, .int .i64 m_4, .int .i64 m_5, .slice m_6p m_6n m_6c, .int .i64 m_7, .int .i64 m_8], .int .i64 4] fun v => .each v [.int .i64 10000] (fun xs vs => .unCons xs fun v vs_1 => .unAgg v fun l => .popI .i64 l fun n vs_2 => .popI .i64 vs_2 fun n vs_3 => .popI .i64 vs_3 fun n_1 vs_4 => .popS vs_4 fun a n_2 c vs_5 => .popI .i64 vs_5 fun n_3 vs_6 => .unNil vs_6 (.unNil vs_1 (.popI .i64 vs fun n_4 vs => .unNil vs (bif decide (n_3 ≤ IntKind.wrap .i64 (m_2 + m_3)) then bif decide (n ≥ from0) then .leaf (.again [.int .i64 (if n < n_4 then n else n_4)]) else .leaf (.again [.int .i64 n_4]) else .leaf (.again [.int .i64 n_4]))))) (fun vs => .popI .i64 vs fun n vs => .unNil vs (.leaf (.ret (.int .i64 n)))) (fun vs => .popI .i64 vs fun n vs => .unNil vs (.leaf (.ret (.int .i64 n)))) (fun vs => .popI .i64 vs fun n vs => .unNil vs (.leaf (.ret (.int .i64 0)))) fun x x_1 => .fail
theorem t2096 (m_0 : Int) (m_1 : Int) (m_2 : Int) (m_3 : Int) (m_4 : Int) (m_5 : Int) (m_6p : Option Addr) (m_6n m_6c : Nat) (m_7 : Int) (m_8 : Int) (from0 : Int) : ftree ({ P := Tryd.prog, priv := [2, 3, 5, 6], loops := [{ id := 0, slots := [(24576, .int .i64)], ro := [2, 3], outs := [], ps := [.agg [.int .i64, .int .i64, .int .i64, .slice, .int .i64]] }], joins := [] }) Tryd.f132 [.agg #[.int .i64 m_0, .int .i64 m_1, .int .i64 m_2, .int .i64 m_3, .int .i64 m_4, .int .i64 m_5, .slice m_6p m_6n m_6c, .int .i64 m_7, .int .i64 m_8], .int .i64 from0] = n2096 m_0 m_1 m_2 m_3 m_4 m_5 m_6p m_6n m_6c m_7 m_8 from0 := by kernel_rfl
theorem w2096 (m_0 : Int) (m_1 : Int) (m_2 : Int) (m_3 : Int) (m_4 : Int) (m_5 : Int) (m_6p : Option Addr) (m_6n m_6c : Nat) (m_7 : Int) (m_8 : Int) (from0 : Int) {X : XP} (hX : XOK X) {h : LH} {A : Value → LH → Prop} (hw : (n2096 m_0 m_1 m_2 m_3 m_4 m_5 m_6p m_6n m_6c m_7 m_8 from0).wp X Tryd.prog (retQ A) h) : FWK X Tryd.prog .normal 132 #[.agg #[.int .i64 m_0, .int .i64 m_1, .int .i64 m_2, .int .i64 m_3, .int .i64 m_4, .int .i64 m_5, .slice m_6p m_6n m_6c, .int .i64 m_7, .int .i64 m_8], .int .i64 from0] h A := fwk_neat (t2096 m_0 m_1 m_2 m_3 m_4 m_5 m_6p m_6n m_6c m_7 m_8 from0) (by simp) (by kernel_rfl) (by kernel_rfl) hX hw
noncomputable def n2097 (from0 : Int) (z0 : Addr) (z1 : Addr) : T := .loadI .i64 (Addr.add (Addr.add z0 0) 0) fun n => .loadI .i64 (Addr.add (Addr.add z0 0) 1) fun n_1 => .loadI .i64 (Addr.add (Addr.add z0 0) 2) fun n_2 => .loadI .i64 (Addr.add (Addr.add z0 0) 3) fun n_3 => .loadI .i64 (Addr.add (Addr.add z0 0) 4) fun n_4 => .loadI .i64 (Addr.add (Addr.add z0 0) 5) fun n_5 => .loadS (Addr.add (Addr.add z0 0) 6) fun p n_6 c => .loadI .i64 (Addr.add (Addr.add z0 0) 7) fun n_7 => .loadI .i64 (Addr.add (Addr.add z0 0) 8) fun n_8 => .call false 115 #[.agg #[.int .i64 n, .int .i64 n_1, .int .i64 n_2, .int .i64 n_3, .int .i64 n_4, .int .i64 n_5, .slice p n_6 c, .int .i64 n_7, .int .i64 n_8], .int .i64 2] fun v => .each v [.bool false] (fun xs vs => .unCons xs fun v vs_1 => .unAgg v fun l => .popI .i64 l fun n vs_2 => .popI .i64 vs_2 fun n vs_3 => .popI .i64 vs_3 fun n_9 vs_4 => .popS vs_4 fun a n_10 c vs_5 => .popI .i64 vs_5 fun n_11 vs_6 => .unNil vs_6 (.unNil vs_1 (.popB vs fun b vs => .unNil vs (.loadI .i64 z1 fun n_12 => .call false 116 #[.int .i64 n, .int .i64 from0, .int .i64 n_12] fun v => .unB v fun b_1 => bif b_1 then .leaf (.retn [.bool true]) else .leaf (.again [.bool b]))))) (fun vs => .popB vs fun b vs => .unNil vs (.leaf (.ret (.bool false)))) (fun vs => .popB vs fun b vs => .unNil vs (.leaf (.ret (.bool false)))) (fun vs => .popB vs fun b vs => .unNil vs (.leaf (.ret (.bool b)))) fun x x_1 => .fail
theorem t2097 (from0 : Int) (z0 : Addr) (z1 : Addr) : ftree ({ P := Tryd.prog, priv := [3, 4, 5], loops := [{ id := 0, slots := [(20480, .bool)], ro := [3], outs := [], ps := [.agg [.int .i64, .int .i64, .int .i64, .slice, .int .i64]] }], joins := [] }) Tryd.f133 [.int .i64 from0, .pointer (some z0), .pointer (some z1)] = n2097 from0 z0 z1 := by kernel_rfl
theorem w2097 (from0 : Int) (z0 : Addr) (z1 : Addr) {X : XP} (hX : XOK X) {h : LH} {A : Value → LH → Prop} (hw : (n2097 from0 z0 z1).wp X Tryd.prog (retQ A) h) : FWK X Tryd.prog .normal 133 #[.int .i64 from0, .pointer (some z0), .pointer (some z1)] h A := fwk_neat (t2097 from0 z0 z1) (by simp) (by kernel_rfl) (by kernel_rfl) hX hw
noncomputable def n2100 (sp : Option Addr) (sn sc : Nat) (seq : Value) : T := .each seq [.slice sp sn sc] (fun xs vs => .unCons xs fun v vs_1 => .unI .i64 v fun n => .unNil vs_1 (.popS vs fun a n_1 c vs => .unNil vs (.sem false (Instr.buildSlice 28 1 #[(0, .int .i64 n)]) fun v => .unS v fun a_1 n c_1 => .sem false (Builtin.append_ #[28, 28] 28 #[.slice a n_1 c, .slice a_1 n c_1]) fun v => .unS v fun a n c => .leaf (.again [.slice a n c])))) (fun vs => .popS vs fun a n c vs => .unNil vs (.leaf (.ret (.slice a n c)))) (fun vs => .popS vs fun a n c vs => .unNil vs (.leaf (.ret (.slice a n c)))) (fun vs => .popS vs fun a n c vs => .unNil vs (.leaf (.ret (.slice none 0 0)))) fun x x_1 => .fail
theorem t2100 (sp : Option Addr) (sn sc : Nat) (seq : Value) : ftree ({ P := Tryd.prog, priv := [2], loops := [{ id := 0, slots := [(12288, .slice)], ro := [], outs := [], ps := [.cell (.int .i64)] }], joins := [] }) Tryd.f137 [.slice sp sn sc, seq] = n2100 sp sn sc seq := by kernel_rfl
theorem w2100 (sp : Option Addr) (sn sc : Nat) (seq : Value) {X : XP} (hX : XOK X) {h : LH} {A : Value → LH → Prop} (hw : (n2100 sp sn sc seq).wp X Tryd.prog (retQ A) h) : FWK X Tryd.prog .normal 137 #[.slice sp sn sc, seq] h A := fwk_neat (t2100 sp sn sc seq) (by simp) (by kernel_rfl) (by kernel_rfl) hX hw
noncomputable def n2101 (datap : Option Addr) (datan datac : Nat) (a : Int) (b : Int) (limit : Int) : T := .loop [.int .i64 a, .int .i64 b, .int .i64 limit, .bool true, .bool true] (fun vs => .popI .i64 vs fun n vs => .popI .i64 vs fun n_1 vs => .popI .i64 vs fun n_2 vs => .popB vs fun b vs => .popB vs fun b_1 vs => .unNil vs (bif decide (IntKind.wrap .i64 (n_1 - n) ≤ 12) then .call false 140 #[.slice datap datan datac, .int .i64 n, .int .i64 n_1] fun v => .unTup v fun l => .unNil l (.leaf (.retn [.int .i64 n, .int .i64 n_1, .int .i64 n_2, .bool b, .bool b_1])) else bif n_2 == 0 then .call false 141 #[.slice datap datan datac, .int .i64 n, .int .i64 n_1] fun v => .unTup v fun l => .unNil l (.leaf (.retn [.int .i64 n, .int .i64 n_1, .int .i64 n_2, .bool b, .bool b_1])) else .blk (bif !b then .call false 142 #[.slice datap datan datac, .int .i64 n, .int .i64 n_1] fun v => .unTup v fun l => .unNil l (.leaf (.again [.int .i64 (IntKind.wrap .i64 (n_2 - 1))])) else .leaf (.again [.int .i64 n_2])) (fun vs => .popI .i64 vs fun n_3 vs => .unNil vs (.call false 143 #[.slice datap datan datac, .int .i64 n, .int .i64 n_1] fun v => .unTup v fun l => .unCons l fun v vs => .unI .i64 v fun n_4 => .unCons vs fun v vs => .unI .i64 v fun n_5 => .unNil vs (.blk (bif n_5 == 2 then .call false 144 #[.slice datap datan datac, .int .i64 n, .int .i64 n_1] fun v => .unTup v fun l => .unNil l (.leaf (.again [.int .i64 (IntKind.wrap .i64 (IntKind.wrap .i64 (n_1 - 1) - IntKind.wrap .i64 (n_4 - n))), .int .i64 1])) else .leaf (.again [.int .i64 n_4, .int .i64 n_5])) (fun vs => .popI .i64 vs fun n_6 vs => .popI .i64 vs fun n_7 vs => .unNil vs (.blk (bif b then bif b_1 then bif n_7 == 1 then .call false 145 #[.slice datap datan datac, .int .i64 n, .int .i64 n_1] fun v => .unB v fun b => bif b then .leaf (.retn []) else .leaf (.again []) else .leaf (.again []) else .leaf (.again []) else .leaf (.again [])) (fun vs => .unNil vs (.blk (bif decide (n > 0) then .need (0 ≤ IntKind.wrap .i64 (n - 1) ∧ IntKind.wrap .i64 (n - 1) < (↑datan : Int)) (.someA datap fun a => .loadI .i64 (Addr.add a (Int.toNat (IntKind.wrap .i64 (n - 1)) * 1)) fun n_8 => .need (0 ≤ n_6 ∧ n_6 < (↑datan : Int)) (.someA datap fun a_1 => .loadI .i64 (Addr.add a_1 (Int.toNat n_6 * 1)) fun n_9 => .call false 146 #[.int .i64 n_8, .int .i64 n_9] fun v => .unB v fun b => .need (0 ≤ n_6 ∧ n_6 < (↑datan : Int)) (.someA datap fun a_2 => .need (AV.val (.pointer (some (Addr.add a_2 (Int.toNat n_6 * 1)))) = AV.val (.pointer (some (Addr.add a_1 (Int.toNat n_6 * 1))))) (.nd (.int .i64 n_6) (.nd (.slice datap datan datac) (.need (0 ≤ IntKind.wrap .i64 (n - 1) ∧ IntKind.wrap .i64 (n - 1) < (↑datan : Int)) (.someA datap fun a_3 => .need (AV.val (.pointer (some (Addr.add a_3 (Int.toNat (IntKind.wrap .i64 (n - 1)) * 1)))) = AV.val (.pointer (some (Addr.add a (Int.toNat (IntKind.wrap .i64 (n - 1)) * 1))))) (.nd (.int .i64 (IntKind.wrap .i64 (n - 1))) (.nd (.int .i64 n) (.nd (.slice datap datan datac) (.nd (.bool (decide (n > 0))) (.nd (.int .i64 n) (bif !b then .call false 147 #[.slice datap datan datac, .int .i64 n, .int .i64 n_1, .int .i64 n_6] fun v => .unI .i64 v fun n => .leaf (.out 1 [.int .i64 n]) else .leaf (.again [.int .i64 n])))))))))))))) else .nd (.tuple #[]) (.nd (.tuple #[]) (.nd (.tuple #[]) (.nd (.tuple #[]) (.nd (.tuple #[]) (.nd (.bool (decide (n > 0))) (.nd (.int .i64 n) (.nd (.tuple #[]) (.nd (.tuple #[]) (.nd (.tuple #[]) (.nd (.tuple #[]) (.nd (.tuple #[]) (.nd (.bool (decide (n > 0))) (.nd (.int .i64 n) (.nd (.tuple #[]) (.nd (.tuple #[]) (.nd (.tuple #[]) (.nd (.tuple #[]) (.nd (.tuple #[]) (.nd (.bool (decide (n > 0))) (.nd (.int .i64 n) (.leaf (.again [.int .i64 n]))))))))))))))))))))))) (fun vs => .popI .i64 vs fun n_8 vs => .unNil vs (.call false 148 #[.slice datap datan datac, .int .i64 n_8, .int .i64 n_1, .int .i64 n_6] fun v => .unTup v fun l => .unCons l fun v vs => .unI .i64 v fun n_9 => .unCons vs fun v vs => .unB v fun b => .unNil vs (.need ((8 : Int) ≠ 0) (bif decide (IntKind.wrap .i64 (n_9 - n_8) < IntKind.wrap .i64 (n_1 - n_9)) then .call false 138 #[.slice datap datan datac, .int .i64 n_8, .int .i64 n_9, .int .i64 n_3] fun v => .unTup v fun l => .unNil l (.leaf (.again [.int .i64 (IntKind.wrap .i64 (n_9 + 1)), .int .i64 n_1, .int .i64 n_3, .bool (decide (IntKind.wrap .i64 (n_9 - n_8) ≥ IntKind.wrap .i64 (Int.tdiv (IntKind.wrap .i64 (n_1 - n)) 8))), .bool b])) else .call false 138 #[.slice datap datan datac, .int .i64 (IntKind.wrap .i64 (n_9 + 1)), .int .i64 n_1, .int .i64 n_3] fun v => .unTup v fun l => .unNil l (.leaf (.again [.int .i64 n_8, .int .i64 n_9, .int .i64 n_3, .bool (decide (IntKind.wrap .i64 (n_1 - n_9) ≥ IntKind.wrap .i64 (Int.tdiv (IntKind.wrap .i64 (n_1 - n)) 8))), .bool b])))))) (fun vs => .popI .i64 vs fun n vs => .unNil vs (.leaf (.retn [.int .i64 n, .int .i64 n_1, .int .i64 n_3, .bool b, .bool b_1]))) fun x x_1 => bif Nat.beq x 1 then .popI .i64 x_1 fun n vs => .unNil vs (.leaf (.again [.int .i64 n, .int .i64 n_1, .int .i64 n_3, .bool b, .bool b_1])) else .fail)) (fun vs => .unNil vs (.leaf (.retn [.int .i64 n, .int .i64 n_1, .int .i64 n_3, .bool b, .bool b_1]))) fun x x_1 => .fail)) (fun vs => .popI .i64 vs fun n_6 vs => .popI .i64 vs fun n_7 vs => .unNil vs (.leaf (.retn [.int .i64 n, .int .i64 n_1, .int .i64 n_3, .bool b, .bool b_1]))) fun x x_1 => .fail))) (fun vs => .popI .i64 vs fun n_3 vs => .unNil vs (.leaf (.retn [.int .i64 n, .int .i64 n_1, .int .i64 n_3, .bool b, .bool b_1]))) fun x x_1 => .fail)) (fun vs => .popI .i64 vs fun n vs => .popI .i64 vs fun n vs => .popI .i64 vs fun n vs => .popB vs fun b vs => .popB vs fun b vs => .unNil vs (.leaf (.ret (.tuple #[])))) (fun vs => .popI .i64 vs fun n vs => .popI .i64 vs fun n vs => .popI .i64 vs fun n vs => .popB vs fun b vs => .popB vs fun b vs => .unNil vs (.leaf (.ret (.tuple #[])))) fun x x_1 => .fail
theorem t2101 (datap : Option Addr) (datan datac : Nat) (a : Int) (b : Int) (limit : Int) : ftree ({ P := Tryd.prog, priv := [], loops := [{ id := 0, slots := [(1, .int .i64), (2, .int .i64), (3, .int .i64), (8, .bool), (9, .bool)], ro := [], outs := [] }], joins := [{ id := 20, slots := [(1, .int .i64)], ro := [], outs := [1] }, { id := 17, slots := [], ro := [], outs := [] }, { id := 15, slots := [(11, .int .i64), (12, .int .i64)], ro := [], outs := [] }, { id := 10, slots := [(3, .int .i64)], ro := [], outs := [] }] }) Tryd.f138 [.slice datap datan datac, .int .i64 a, .int .i64 b, .int .i64 limit] = n2101 datap datan datac a b limit := by kernel_rfl
theorem w2101 (datap : Option Addr) (datan datac : Nat) (a : Int) (b : Int) (limit : Int) {X : XP} (hX : XOK X) {h : LH} {A : Value → LH → Prop} (hw : (n2101 datap datan datac a b limit).wp X Tryd.prog (retQ A) h) : FWK X Tryd.prog .normal 138 #[.slice datap datan datac, .int .i64 a, .int .i64 b, .int .i64 limit] h A := fwk_neat (t2101 datap datan datac a b limit) (by simp) (by kernel_rfl) (by kernel_rfl) hX hw
noncomputable def n2102 (x : Int) : T := .call false 150 #[.int .u64 x] fun v => .unI .i64 v fun n => .leaf (.ret (.int .i64 n))
theorem t2102 (x : Int) : ftree ({ P := Tryd.prog, priv := [], loops := [], joins := [] }) Tryd.f139 [.int .u64 x] = n2102 x := by kernel_rfl
theorem w2102 (x : Int) {X : XP} (hX : XOK X) {h : LH} {A : Value → LH → Prop} (hw : (n2102 x).wp X Tryd.prog (retQ A) h) : FWK X Tryd.prog .normal 139 #[.int .u64 x] h A := fwk_neat (t2102 x) (by simp) (by kernel_rfl) (by kernel_rfl) hX hw
noncomputable def n2105 (datap : Option Addr) (datan datac : Nat) (a : Int) (b : Int) : T := .loop [.int .i64 (IntKind.wrap .i64 (a + 1))] (fun vs => .popI .i64 vs fun n vs => .unNil vs (bif decide (n < b) then .loop [.int .i64 n] (fun vs => .popI .i64 vs fun n vs => .unNil vs (.blk (bif decide (n > a) then .need (0 ≤ n ∧ n < (↑datan : Int)) (.someA datap fun a_1 => .loadI .i64 (Addr.add a_1 (Int.toNat n * 1)) fun n_1 => .need (0 ≤ IntKind.wrap .i64 (n - 1) ∧ IntKind.wrap .i64 (n - 1) < (↑datan : Int)) (.someA datap fun a_2 => .loadI .i64 (Addr.add a_2 (Int.toNat (IntKind.wrap .i64 (n - 1)) * 1)) fun n_2 => .call false 146 #[.int .i64 n_1, .int .i64 n_2] fun v => .unB v fun b => .need (0 ≤ IntKind.wrap .i64 (n - 1) ∧ IntKind.wrap .i64 (n - 1) < (↑datan : Int)) (.someA datap fun a_3 => .need (AV.val (.pointer (some (Addr.add a_3 (Int.toNat (IntKind.wrap .i64 (n - 1)) * 1)))) = AV.val (.pointer (some (Addr.add a_2 (Int.toNat (IntKind.wrap .i64 (n - 1)) * 1))))) (.nd (.int .i64 (IntKind.wrap .i64 (n - 1))) (.nd (.int .i64 n) (.nd (.slice datap datan datac) (.need (0 ≤ n ∧ n < (↑datan : Int)) (.someA datap fun a_4 => .need (AV.val (.pointer (some (Addr.add a_4 (Int.toNat n * 1)))) = AV.val (.pointer (some (Addr.add a_1 (Int.toNat n * 1))))) (.nd (.int .i64 n) (.nd (.slice datap datan datac) (.nd (.bool (decide (n > a))) (.nd (.int .i64 a) (.nd (.int .i64 n) (bif b then .leaf (.again []) else .leaf (.out 2 []))))))))))))))) else .nd (.tuple #[]) (.nd (.tuple #[]) (.nd (.tuple #[]) (.nd (.tuple #[]) (.nd (.tuple #[]) (.nd (.bool (decide (n > a))) (.nd (.int .i64 a) (.nd (.int .i64 n) (.nd (.tuple #[]) (.nd (.tuple #[]) (.nd (.tuple #[]) (.nd (.tuple #[]) (.nd (.tuple #[]) (.nd (.bool (decide (n > a))) (.nd (.int .i64 a) (.nd (.int .i64 n) (.leaf (.out 2 [])))))))))))))))))) (fun vs => .unNil vs (.need (0 ≤ IntKind.wrap .i64 (n - 1) ∧ IntKind.wrap .i64 (n - 1) < (↑datan : Int)) (.someA datap fun a => .loadI .i64 (Addr.add a (Int.toNat (IntKind.wrap .i64 (n - 1)) * 1)) fun n_1 => .need (0 ≤ n ∧ n < (↑datan : Int)) (.someA datap fun a => .loadI .i64 (Addr.add a (Int.toNat n * 1)) fun n_2 => .need (0 ≤ n ∧ n < (↑datan : Int)) (.someA datap fun a_1 => .store (Addr.add (Addr.add a_1 (Int.toNat n * 1)) 0) (.int .i64 n_1) (.need (0 ≤ n ∧ n < (↑datan : Int)) (.someA datap fun a_2 => .need (AV.val (.pointer (some (Addr.add a_2 (Int.toNat n * 1)))) = AV.val (.pointer (some (Addr.add a (Int.toNat n * 1))))) (.nd (.int .i64 n) (.nd (.slice datap datan datac) (.nd (.int .i64 (IntKind.wrap .i64 (n - 1))) (.nd (.int .i64 n) (.nd (.slice datap datan datac) (.need (0 ≤ IntKind.wrap .i64 (n - 1) ∧ IntKind.wrap .i64 (n - 1) < (↑datan : Int)) (.someA datap fun a => .store (Addr.add (Addr.add a (Int.toNat (IntKind.wrap .i64 (n - 1)) * 1)) 0) (.int .i64 n_2) (.leaf (.again [.int .i64 (IntKind.wrap .i64 (n - 1))])))))))))))))))) (fun vs => .unNil vs (.leaf (.retn [.int .i64 n]))) fun x x_1 => bif Nat.beq x 2 then .unNil x_1 (.leaf (.brk [.int .i64 n])) else .fail)) (fun vs => .popI .i64 vs fun n_1 vs => .unNil vs (.leaf (.again [.int .i64 (IntKind.wrap .i64 (n + 1))]))) (fun vs => .popI .i64 vs fun n_1 vs => .unNil vs (.leaf (.retn [.int .i64 n]))) fun x x_1 => .fail else .leaf (.brk [.int .i64 n]))) (fun vs => .popI .i64 vs fun n vs => .unNil vs (.leaf (.ret (.tuple #[])))) (fun vs => .popI .i64 vs fun n vs => .unNil vs (.leaf (.ret (.tuple #[])))) fun x x_1 => .fail
theorem t2105 (datap : Option Addr) (datan datac : Nat) (a : Int) (b : Int) : ftree ({ P := Tryd.prog, priv := [], loops := [{ id := 2, slots := [(7, .int .i64)], ro := [], outs := [] }, { id := 0, slots := [(6, .int .i64)], ro := [], outs := [] }], joins := [{ id := 6, slots := [], ro := [], outs := [2] }] }) Tryd.f140 [.slice datap datan datac, .int .i64 a, .int .i64 b] = n2105 datap datan datac a b := by kernel_rfl
theorem w2105 (datap : Option Addr) (datan datac : Nat) (a : Int) (b : Int) {X : XP} (hX : XOK X) {h : LH} {A : Value → LH → Prop} (hw : (n2105 datap datan datac a b).wp X Tryd.prog (retQ A) h) : FWK X Tryd.prog .normal 140 #[.slice datap datan datac, .int .i64 a, .int .i64 b] h A := fwk_neat (t2105 datap datan datac a b) (by simp) (by kernel_rfl) (by kernel_rfl) hX hw
noncomputable def n2111 (x : Int) (y : Int) : T := .call false 135 #[.int .i64 x] fun v => .unB v fun b => bif b then .call false 135 #[.int .i64 y] fun v => .unB v fun b => bif !b then .leaf (.ret (.bool true)) else .leaf (.ret (.bool (decide (x < y)))) else .leaf (.ret (.bool (decide (x < y))))
theorem t2111 (x : Int) (y : Int) : ftree ({ P := Tryd.prog, priv := [], loops := [], joins := [] }) Tryd.f146 [.int .i64 x, .int .i64 y] = n2111 x y := by kernel_rfl
theorem w2111 (x : Int) (y : Int) {X : XP} (hX : XOK X) {h : LH} {A : Value → LH → Prop} (hw : (n2111 x y).wp X Tryd.prog (retQ A) h) : FWK X Tryd.prog .normal 146 #[.int .i64 x, .int .i64 y] h A := fwk_neat (t2111 x y) (by simp) (by kernel_rfl) (by kernel_rfl) hX hw
noncomputable def n2115 (x : Int) : T := .blk (bif decide (x ≥ 4294967296) then .need ((0 : Int) ≤ 32) (.leaf (.again [.int .u64 (Int.fdiv x (2 ^ 32)), .int .i64 32])) else .leaf (.again [.int .u64 x, .int .i64 0])) (fun vs => .popI .u64 vs fun n vs => .popI .i64 vs fun n_1 vs => .unNil vs (.blk (bif decide (n ≥ 65536) then .need ((0 : Int) ≤ 16) (.leaf (.again [.int .u64 (Int.fdiv n (2 ^ 16)), .int .i64 (IntKind.wrap .i64 (n_1 + 16))])) else .leaf (.again [.int .u64 n, .int .i64 n_1])) (fun vs => .popI .u64 vs fun n vs => .popI .i64 vs fun n_2 vs => .unNil vs (bif decide (n ≥ 256) then .need ((0 : Int) ≤ 8) (.sem false (Instr.index 9 (.string { data := List.toArray (List.append (List.append [0, 1, 2, 2, 3, 3, 3, 3, 4, 4, 4, 4, 4, 4, 4, 4, 5, 5, 5, 5, 5, 5, 5, 5, 5, 5, 5, 5, 5, 5, 5, 5, 6, 6, 6, 6, 6, 6, 6, 6, 6, 6, 6, 6, 6, 6, 6, 6, 6, 6, 6, 6, 6, 6, 6, 6, 6, 6, 6, 6, 6, 6, 6, 6] [7, 7, 7, 7, 7, 7, 7, 7, 7, 7, 7, 7, 7, 7, 7, 7, 7, 7, 7, 7, 7, 7, 7, 7, 7, 7, 7, 7, 7, 7, 7, 7, 7, 7, 7, 7, 7, 7, 7, 7, 7, 7, 7, 7, 7, 7, 7, 7, 7, 7, 7, 7, 7, 7, 7, 7, 7, 7, 7, 7, 7, 7, 7, 7]) (List.append [8, 8, 8, 8, 8, 8, 8, 8, 8, 8, 8, 8, 8, 8, 8, 8, 8, 8, 8, 8, 8, 8, 8, 8, 8, 8, 8, 8, 8, 8, 8, 8, 8, 8, 8, 8, 8, 8, 8, 8, 8, 8, 8, 8, 8, 8, 8, 8, 8, 8, 8, 8, 8, 8, 8, 8, 8, 8, 8, 8, 8, 8, 8, 8] [8, 8, 8, 8, 8, 8, 8, 8, 8, 8, 8, 8, 8, 8, 8, 8, 8, 8, 8, 8, 8, 8, 8, 8, 8, 8, 8, 8, 8, 8, 8, 8, 8, 8, 8, 8, 8, 8, 8, 8, 8, 8, 8, 8, 8, 8, 8, 8, 8, 8, 8, 8, 8, 8, 8, 8, 8, 8, 8, 8, 8, 8, 8, 8])) }) (.int .u8 (IntKind.wrap .u8 (Int.fdiv n (2 ^ 8))))) fun v => .unI .u8 v fun n => .leaf (.ret (.int .i64 (IntKind.wrap .i64 (IntKind.wrap .i64 (n_2 + 8) + IntKind.wrap .i64 n))))) else .sem false (Instr.index 9 (.string { data := List.toArray (List.append (List.append [0, 1, 2, 2, 3, 3, 3, 3, 4, 4, 4, 4, 4, 4, 4, 4, 5, 5, 5, 5, 5, 5, 5, 5, 5, 5, 5, 5, 5, 5, 5, 5, 6, 6, 6, 6, 6, 6, 6, 6, 6, 6, 6, 6, 6, 6, 6, 6, 6, 6, 6, 6, 6, 6, 6, 6, 6, 6, 6, 6, 6, 6, 6, 6] [7, 7, 7, 7, 7, 7, 7, 7, 7, 7, 7, 7, 7, 7, 7, 7, 7, 7, 7, 7, 7, 7, 7, 7, 7, 7, 7, 7, 7, 7, 7, 7, 7, 7, 7, 7, 7, 7, 7, 7, 7, 7, 7, 7, 7, 7, 7, 7, 7, 7, 7, 7, 7, 7, 7, 7, 7, 7, 7, 7, 7, 7, 7, 7]) (List.append [8, 8, 8, 8, 8, 8, 8, 8, 8, 8, 8, 8, 8, 8, 8, 8, 8, 8, 8, 8, 8, 8, 8, 8, 8, 8, 8, 8, 8, 8, 8, 8, 8, 8, 8, 8, 8, 8, 8, 8, 8, 8, 8, 8, 8, 8, 8, 8, 8, 8, 8, 8, 8, 8, 8, 8, 8, 8, 8, 8, 8, 8, 8, 8] [8, 8, 8, 8, 8, 8, 8, 8, 8, 8, 8, 8, 8, 8, 8, 8, 8, 8, 8, 8, 8, 8, 8, 8, 8, 8, 8, 8, 8, 8, 8, 8, 8, 8, 8, 8, 8, 8, 8, 8, 8, 8, 8, 8, 8, 8, 8, 8, 8, 8, 8, 8, 8, 8, 8, 8, 8, 8, 8, 8, 8, 8, 8, 8])) }) (.int .u8 (IntKind.wrap .u8 n))) fun v => .unI .u8 v fun n => .leaf (.ret (.int .i64 (IntKind.wrap .i64 (n_2 + IntKind.wrap .i64 n)))))) (fun vs => .popI .u64 vs fun n vs => .popI .i64 vs fun n vs => .unNil vs (.leaf (.ret (.int .i64 n)))) fun x x_1 => .fail)) (fun vs => .popI .u64 vs fun n vs => .popI .i64 vs fun n vs => .unNil vs (.leaf (.ret (.int .i64 n)))) fun x x_1 => .fail
theorem t2115 (x : Int) : ftree ({ P := Tryd.prog, priv := [], loops := [], joins := [{ id := 7, slots := [(0, .int .u64), (2, .int .i64)], ro := [], outs := [] }, { id := 4, slots := [(0, .int .u64), (2, .int .i64)], ro := [], outs := [] }] }) Tryd.f150 [.int .u64 x] = n2115 x := by kernel_rfl
theorem w2115 (x : Int) {X : XP} (hX : XOK X) {h : LH} {A : Value → LH → Prop} (hw : (n2115 x).wp X Tryd.prog (retQ A) h) : FWK X Tryd.prog .normal 150 #[.int .u64 x] h A := fwk_neat (t2115 x) (by simp) (by kernel_rfl) (by kernel_rfl) hX hw
noncomputable def n2137 (a_0 : Int) (a_1 : Int) (a_2 : Int) (a_3 : Int) (a_4 : Int) (a_5 : Int) (a_6p : Option Addr) (a_6n a_6c : Nat) (a_7 : Int) (a_8 : Int) (a_9 : Int) (a_10 : Int) (a_11 : Bool) (day : Int) : T := .call false 116 #[.int .i64 day, .int .i64 a_9, .int .i64 (IntKind.wrap .i64 (a_10 - 1))] fun v => .unB v fun b => .nd (.int .i64 a_10) (.need (AV.pp 2 10 = AV.pp 2 10) (.need (AV.pp 2 9 = AV.pp 2 9) (.nd (.int .i64 a_9) (.need (AV.pp 2 9 = AV.pp 2 9) (bif b then .call false 120 #[.agg #[.int .i64 a_0, .int .i64 a_1, .int .i64 a_2, .int .i64 a_3, .int .i64 a_4, .int .i64 a_5, .slice a_6p a_6n a_6c, .int .i64 a_7, .int .i64 a_8, .int .i64 a_9, .int .i64 a_10, .bool a_11], .int .i64 day] fun v => .unB v fun b => .nd (.int .i64 a_10) (.need (AV.pp 2 10 = AV.pp 2 10) (.need (AV.pp 2 9 = AV.pp 2 9) (.nd (.int .i64 a_9) (.need (AV.pp 2 9 = AV.pp 2 9) (.nd (.bool !b) (.nd (.bool !b) (.nd (.int .i64 a_10) (.need (AV.pp 2 10 = AV.pp 2 10) (.need (AV.pp 2 9 = AV.pp 2 9) (.leaf (.ret (.tuple #[.int .i64 a_9, .bool !b])))))))))))) else .nd (.int .i64 a_10) (.need (AV.pp 2 10 = AV.pp 2 10) (.need (AV.pp 2 9 = AV.pp 2 9) (.nd (.int .i64 a_9) (.need (AV.pp 2 9 = AV.pp 2 9) (.both (.nd (.int .i64 a_10) (.need (AV.pp 2 10 = AV.pp 2 10) (.need (AV.pp 2 9 = AV.pp 2 9) (.nd (.int .i64 a_9) (.need (AV.pp 2 9 = AV.pp 2 9) (.nd (.bool false) (.nd (.int .i64 a_10) (.need (AV.pp 2 10 = AV.pp 2 10) (.need (AV.pp 2 9 = AV.pp 2 9) (.leaf (.ret (.tuple #[.int .i64 a_9, .bool false])))))))))))) (.nd (.int .i64 a_10) (.need (AV.pp 2 10 = AV.pp 2 10) (.need (AV.pp 2 9 = AV.pp 2 9) (.nd (.int .i64 a_10) (.need (AV.pp 2 10 = AV.pp 2 10) (.need (AV.pp 2 9 = AV.pp 2 9) (.leaf (.ret (.tuple #[.int .i64 a_9, .bool false])))))))))))))))))))
theorem t2137 (a_0 : Int) (a_1 : Int) (a_2 : Int) (a_3 : Int) (a_4 : Int) (a_5 : Int) (a_6p : Option Addr) (a_6n a_6c : Nat) (a_7 : Int) (a_8 : Int) (a_9 : Int) (a_10 : Int) (a_11 : Bool) (day : Int) : ftree ({ P := Tryd.prog, priv := [2], loops := [], joins := [] }) Tryd.f172 [.agg #[.int .i64 a_0, .int .i64 a_1, .int .i64 a_2, .int .i64 a_3, .int .i64 a_4, .int .i64 a_5, .slice a_6p a_6n a_6c, .int .i64 a_7, .int .i64 a_8, .int .i64 a_9, .int .i64 a_10, .bool a_11], .int .i64 day] = n2137 a_0 a_1 a_2 a_3 a_4 a_5 a_6p a_6n a_6c a_7 a_8 a_9 a_10 a_11 day := by kernel_rfl
theorem w2137 (a_0 : Int) (a_1 : Int) (a_2 : Int) (a_3 : Int) (a_4 : Int) (a_5 : Int) (a_6p : Option Addr) (a_6n a_6c : Nat) (a_7 : Int) (a_8 : Int) (a_9 : Int) (a_10 : Int) (a_11 : Bool) (day : Int) {X : XP} (hX : XOK X) {h : LH} {A : Value → LH → Prop} (hw : (n2137 a_0 a_1 a_2 a_3 a_4 a_5 a_6p a_6n a_6c a_7 a_8 a_9 a_10 a_11 day).wp X Tryd.prog (retQ A) h) : FWK X Tryd.prog .normal 172 #[.agg #[.int .i64 a_0, .int .i64 a_1, .int .i64 a_2, .int .i64 a_3, .int .i64 a_4, .int .i64 a_5, .slice a_6p a_6n a_6c, .int .i64 a_7, .int .i64 a_8, .int .i64 a_9, .int .i64 a_10, .bool a_11], .int .i64 day] h A := fwk_neat (t2137 a_0 a_1 a_2 a_3 a_4 a_5 a_6p a_6n a_6c a_7 a_8 a_9 a_10 a_11 day) (by simp) (by kernel_rfl) (by kernel_rfl) hX hw
noncomputable def n2138 (t_0 : Int) (t_1 : Int) (t_2 : Int) (t_3 : Int) (t_4 : Int) (t_5 : Int) (t_6p : Option Addr) (t_6n t_6c : Nat) (t_7 : Int) (t_8 : Int) (t_9 : Int) (t_10 : Int) (t_11 : Bool) (t_12 : Int) (t_13 : Int) (day : Int) : T := .call false 116 #[.int .i64 day, .int .i64 t_12, .int .i64 (IntKind.wrap .i64 (t_13 - 1))] fun v => .unB v fun b => .nd (.int .i64 t_13) (.need (AV.pp 2 13 = AV.pp 2 13) (.need (AV.pp 2 12 = AV.pp 2 12) (.nd (.int .i64 t_9) (.need (AV.pp 2 9 = AV.pp 2 9) (.need (AV.pp 2 0 = AV.pp 2 0) (.nd (.int .i64 t_13) (.need (AV.pp 2 13 = AV.pp 2 13) (.need (AV.pp 2 12 = AV.pp 2 12) (.leaf (.ret (.tuple #[.int .i64 t_9, .bool b])))))))))))
theorem t2138 (t_0 : Int) (t_1 : Int) (t_2 : Int) (t_3 : Int) (t_4 : Int) (t_5 : Int) (t_6p : Option Addr) (t_6n t_6c : Nat) (t_7 : Int) (t_8 : Int) (t_9 : Int) (t_10 : Int) (t_11 : Bool) (t_12 : Int) (t_13 : Int) (day : Int) : ftree ({ P := Tryd.prog, priv := [2], loops := [], joins := [] }) Tryd.f173 [.agg #[.int .i64 t_0, .int .i64 t_1, .int .i64 t_2, .int .i64 t_3, .int .i64 t_4, .int .i64 t_5, .slice t_6p t_6n t_6c, .int .i64 t_7, .int .i64 t_8, .int .i64 t_9, .int .i64 t_10, .bool t_11, .int .i64 t_12, .int .i64 t_13], .int .i64 day] = n2138 t_0 t_1 t_2 t_3 t_4 t_5 t_6p t_6n t_6c t_7 t_8 t_9 t_10 t_11 t_12 t_13 day := by kernel_rfl
theorem w2138 (t_0 : Int) (t_1 : Int) (t_2 : Int) (t_3 : Int) (t_4 : Int) (t_5 : Int) (t_6p : Option Addr) (t_6n t_6c : Nat) (t_7 : Int) (t_8 : Int) (t_9 : Int) (t_10 : Int) (t_11 : Bool) (t_12 : Int) (t_13 : Int) (day : Int) {X : XP} (hX : XOK X) {h : LH} {A : Value → LH → Prop} (hw : (n2138 t_0 t_1 t_2 t_3 t_4 t_5 t_6p t_6n t_6c t_7 t_8 t_9 t_10 t_11 t_12 t_13 day).wp X Tryd.prog (retQ A) h) : FWK X Tryd.prog .normal 173 #[.agg #[.int .i64 t_0, .int .i64 t_1, .int .i64 t_2, .int .i64 t_3, .int .i64 t_4, .int .i64 t_5, .slice t_6p t_6n t_6c, .int .i64 t_7, .int .i64 t_8, .int .i64 t_9, .int .i64 t_10, .bool t_11, .int .i64 t_12, .int .i64 t_13], .int .i64 day] h A := fwk_neat (t2138 t_0 t_1 t_2 t_3 t_4 t_5 t_6p t_6n t_6c t_7 t_8 t_9 t_10 t_11 t_12 t_13 day) (by simp) (by kernel_rfl) (by kernel_rfl) hX hw
noncomputable def n2140  : T := .leaf (.ret (.bool true))
theorem t2140  : ftree ({ P := Tryd.prog, priv := [], loops := [], joins := [] }) Tryd.f175 [] = n2140  := by kernel_rfl
theorem w2140  {X : XP} (hX : XOK X) {h : LH} {A : Value → LH → Prop} (hw : (n2140 ).wp X Tryd.prog (retQ A) h) : FWK X Tryd.prog .normal 175 #[] h A := fwk_neat (t2140 ) (by simp) (by kernel_rfl) (by kernel_rfl) hX hw
noncomputable def n2141  : T := .leaf (.ret (.bool false))
theorem t2141  : ftree ({ P := Tryd.prog, priv := [], loops := [], joins := [] }) Tryd.f176 [] = n2141  := by kernel_rfl
theorem w2141  {X : XP} (hX : XOK X) {h : LH} {A : Value → LH → Prop} (hw : (n2141 ).wp X Tryd.prog (retQ A) h) : FWK X Tryd.prog .normal 176 #[] h A := fwk_neat (t2141 ) (by simp) (by kernel_rfl) (by kernel_rfl) hX hw
end Go.Proofs.YtldamlcehbdkdaaDoor
end
section
namespace Go.Proofs.YtldamlcehbdkdaaDoor
open Go Go.TM Go.Proofs
set_option linter.unusedVariables false
set_option maxRecDepth 100000
noncomputable def n2020 (ap : Option Addr) (an ac : Nat) (bp : Option Addr) (bn bc : Nat) : T := bif (↑an : Int) != (↑bn : Int) then .leaf (.ret (.bool false)) else .loop [.bool false, .int .i64 0] (fun vs => .popB vs fun b vs => .popI .i64 vs fun n vs => .unNil vs (bif decide (n < (↑an : Int)) then .need (0 ≤ n ∧ n < (↑an : Int)) (.someA ap fun a => .loadB (Addr.add a (Int.toNat n * 1)) fun b_1 => .need (0 ≤ n ∧ n < (↑bn : Int)) (.someA bp fun a => .loadB (Addr.add a (Int.toNat n * 1)) fun b_2 => bif !b_1 == b_2 then .leaf (.retn [.bool false, .int .i64 n]) else .leaf (.again [.bool b, .int .i64 (IntKind.wrap .i64 (n + 1))]))) else .leaf (.brk [.bool b, .int .i64 n]))) (fun vs => .popB vs fun b vs => .popI .i64 vs fun n vs => .unNil vs (.leaf (.ret (.bool true)))) (fun vs => .popB vs fun b vs => .popI .i64 vs fun n vs => .unNil vs (.leaf (.ret (.bool b)))) fun x x_1 => .fail
theorem t2020 (ap : Option Addr) (an ac : Nat) (bp : Option Addr) (bn bc : Nat) : ftree ({ P := Tryd.prog, priv := [], loops := [{ id := 0, slots := [(4, .bool), (5, .int .i64)], ro := [], outs := [] }], joins := [] }) Tryd.f52 [.slice ap an ac, .slice bp bn bc] = n2020 ap an ac bp bn bc := by kernel_rfl
theorem w2020 (ap : Option Addr) (an ac : Nat) (bp : Option Addr) (bn bc : Nat) {X : XP} (hX : XOK X) {h : LH} {A : Value → LH → Prop} (hw : (n2020 ap an ac bp bn bc).wp X Tryd.prog (retQ A) h) : FWK X Tryd.prog .normal 52 #[.slice ap an ac, .slice bp bn bc] h A := fwk_neat (t2020 ap an ac bp bn bc) (by simp) (by kernel_rfl) (by kernel_rfl) hX hw
noncomputable def n2022 (x_0 : Int) (x_1 : Int) (x_2 : Int) (x_3 : Int) (x_4 : Int) (x_5 : Int) (x_6p : Option Addr) (x_6n x_6c : Nat) : T := .blk (.call false 19 #[.int .i64 x_0, .int .i64 0, .int .i64 5] fun v => .unB v fun b => bif !b then .leaf (.retn [.int .i64 1]) else .call false 19 #[.int .i64 x_1, .int .i64 1, .int .i64 3] fun v => .unB v fun b => bif !b then .leaf (.retn [.int .i64 1]) else .call false 79 #[.int .i64 x_2] fun v => .unB v fun b => bif !b then .leaf (.retn [.int .i64 1]) else .call false 79 #[.int .i64 x_3] fun v => .unB v fun b => bif !b then .leaf (.retn [.int .i64 1]) else .call false 79 #[.int .i64 x_4] fun v => .unB v fun b => bif !b then .leaf (.retn [.int .i64 1]) else .call false 79 #[.int .i64 x_5] fun v => .unB v fun b => bif !b then .leaf (.retn [.int .i64 1]) else .leaf (.again [.int .i64 0])) (fun vs => .popI .i64 vs fun n vs => .unNil vs (bif decide ((↑x_6n : Int) > 10) then .leaf (.ret (.int .i64 2)) else .loop [.int .i64 n, .int .i64 0] (fun vs => .popI .i64 vs fun n vs => .popI .i64 vs fun n_1 vs => .unNil vs (bif decide (n_1 < (↑x_6n : Int)) then .need (0 ≤ n_1 ∧ n_1 < (↑x_6n : Int)) (.someA x_6p fun a => .loadI .i64 (Addr.add (Addr.add a (Int.toNat n_1 * 5)) 0) fun n_2 => .loadI .i64 (Addr.add (Addr.add a (Int.toNat n_1 * 5)) 1) fun n_3 => .loadI .i64 (Addr.add (Addr.add a (Int.toNat n_1 * 5)) 2) fun n_4 => .loadS (Addr.add (Addr.add a (Int.toNat n_1 * 5)) 3) fun p n_5 c => .loadI .i64 (Addr.add (Addr.add a (Int.toNat n_1 * 5)) 4) fun n_6 => .call false 80 #[.agg #[.int .i64 x_0, .int .i64 x_1, .int .i64 x_2, .int .i64 x_3, .int .i64 x_4, .int .i64 x_5, .slice x_6p x_6n x_6c], .agg #[.int .i64 n_2, .int .i64 n_3, .int .i64 n_4, .slice p n_5 c, .int .i64 n_6]] fun v => .unI .i64 v fun n_7 => .need (0 ≤ n_1 ∧ n_1 < (↑x_6n : Int)) (.someA x_6p fun a_1 => .need (AV.val (.pointer (some (Addr.add a_1 (Int.toNat n_1 * 5)))) = AV.val (.pointer (some (Addr.add a (Int.toNat n_1 * 5))))) (.nd (.int .i64 n_1) (.nd (.slice x_6p x_6n x_6c) (.need (AV.pp 1 6 = AV.pp 1 6) (bif n_7 != 0 then .leaf (.retn [.int .i64 n_7, .int .i64 n_1]) else .leaf (.again [.int .i64 n, .int .i64 (IntKind.wrap .i64 (n_1 + 1))]))))))) else .leaf (.brk [.int .i64 n, .int .i64 n_1]))) (fun vs => .popI .i64 vs fun n vs => .popI .i64 vs fun n vs => .unNil vs (.leaf (.ret (.int .i64 0)))) (fun vs => .popI .i64 vs fun n vs => .popI .i64 vs fun n_1 vs => .unNil vs (.leaf (.ret (.int .i64 n)))) fun x x_6 => .fail)) (fun vs => .popI .i64 vs fun n vs => .unNil vs (.leaf (.ret (.int .i64 n)))) fun x x_6 => .fail
theorem t2022 (x_0 : Int) (x_1 : Int) (x_2 : Int) (x_3 : Int) (x_4 : Int) (x_5 : Int) (x_6p : Option Addr) (x_6n x_6c : Nat) : ftree ({ P := Tryd.prog, priv := [1], loops := [{ id := 0, slots := [(2, .int .i64), (3, .int .i64)], ro := [1], outs := [] }], joins := [{ id := 3, slots := [(2, .int .i64)], ro := [1], outs := [] }] }) Tryd.f45 [.agg #[.int .i64 x_0, .int .i64 x_1, .int .i64 x_2, .int .i64 x_3, .int .i64 x_4, .int .i64 x_5, .slice x_6p x_6n x_6c]] = n2022 x_0 x_1 x_2 x_3 x_4 x_5 x_6p x_6n x_6c := by kernel_rfl
theorem w2022 (x_0 : Int) (x_1 : Int) (x_2 : Int) (x_3 : Int) (x_4 : Int) (x_5 : Int) (x_6p : Option Addr) (x_6n x_6c : Nat) {X : XP} (hX : XOK X) {h : LH} {A : Value → LH → Prop} (hw : (n2022 x_0 x_1 x_2 x_3 x_4 x_5 x_6p x_6n x_6c).wp X Tryd.prog (retQ A) h) : FWK X Tryd.prog .normal 45 #[.agg #[.int .i64 x_0, .int .i64 x_1, .int .i64 x_2, .int .i64 x_3, .int .i64 x_4, .int .i64 x_5, .slice x_6p x_6n x_6c]] h A := fwk_neat (t2022 x_0 x_1 x_2 x_3 x_4 x_5 x_6p x_6n x_6c) (by simp) (by kernel_rfl) (by kernel_rfl) hX hw
noncomputable def n2025 (ap : Option Addr) (an ac : Nat) (bp : Option Addr) (bn bc : Nat) : T := bif (↑an : Int) != (↑bn : Int) then .leaf (.ret (.bool false)) else .loop [.bool false, .int .i64 0] (fun vs => .popB vs fun b vs => .popI .i64 vs fun n vs => .unNil vs (bif decide (n < (↑an : Int)) then .need (0 ≤ n ∧ n < (↑an : Int)) (.someA ap fun a => .loadI .i64 (Addr.add (Addr.add a (Int.toNat n * 2)) 0) fun n_1 => .loadI .i64 (Addr.add (Addr.add a (Int.toNat n * 2)) 1) fun n_2 => .need (0 ≤ n ∧ n < (↑bn : Int)) (.someA bp fun a_1 => .loadI .i64 (Addr.add (Addr.add a_1 (Int.toNat n * 2)) 0) fun n_3 => .loadI .i64 (Addr.add (Addr.add a_1 (Int.toNat n * 2)) 1) fun n_4 => .sem false (Sem.bind (eqGuard BinOp.neq 32 (Operand.tmp 20) (Operand.tmp 24) (.agg #[.int .i64 n_1, .int .i64 n_2]) (.agg #[.int .i64 n_3, .int .i64 n_4])) fun __r => binOp BinOp.neq 32 (.agg #[.int .i64 n_1, .int .i64 n_2]) (.agg #[.int .i64 n_3, .int .i64 n_4])) fun v => .unB v fun b_1 => .need (0 ≤ n ∧ n < (↑bn : Int)) (.someA bp fun a_2 => .need (AV.val (.pointer (some (Addr.add a_2 (Int.toNat n * 2)))) = AV.val (.pointer (some (Addr.add a_1 (Int.toNat n * 2))))) (.nd (.int .i64 n) (.nd (.slice bp bn bc) (.need (0 ≤ n ∧ n < (↑an : Int)) (.someA ap fun a_3 => .need (AV.val (.pointer (some (Addr.add a_3 (Int.toNat n * 2)))) = AV.val (.pointer (some (Addr.add a (Int.toNat n * 2))))) (.nd (.int .i64 n) (.nd (.slice ap an ac) (bif b_1 then .leaf (.retn [.bool false, .int .i64 n]) else .leaf (.again [.bool b, .int .i64 (IntKind.wrap .i64 (n + 1))]))))))))))) else .leaf (.brk [.bool b, .int .i64 n]))) (fun vs => .popB vs fun b vs => .popI .i64 vs fun n vs => .unNil vs (.leaf (.ret (.bool true)))) (fun vs => .popB vs fun b vs => .popI .i64 vs fun n vs => .unNil vs (.leaf (.ret (.bool b)))) fun x x_1 => .fail
theorem t2025 (ap : Option Addr) (an ac : Nat) (bp : Option Addr) (bn bc : Nat) : ftree ({ P := Tryd.prog, priv := [], loops := [{ id := 0, slots := [(4, .bool), (5, .int .i64)], ro := [], outs := [] }], joins := [] }) Tryd.f53 [.slice ap an ac, .slice bp bn bc] = n2025 ap an ac bp bn bc := by kernel_rfl
theorem w2025 (ap : Option Addr) (an ac : Nat) (bp : Option Addr) (bn bc : Nat) {X : XP} (hX : XOK X) {h : LH} {A : Value → LH → Prop} (hw : (n2025 ap an ac bp bn bc).wp X Tryd.prog (retQ A) h) : FWK X Tryd.prog .normal 53 #[.slice ap an ac, .slice bp bn bc] h A := fwk_neat (t2025 ap an ac bp bn bc) (by simp) (by kernel_rfl) (by kernel_rfl) hX hw
noncomputable def n2056 (n : Int) : T := .call false 19 #[.int .i64 n, .int .i64 0, .int .i64 9999] fun v => .unB v fun b => .leaf (.ret (.bool b))
theorem t2056 (n : Int) : ftree ({ P := Tryd.prog, priv := [], loops := [], joins := [] }) Tryd.f79 [.int .i64 n] = n2056 n := by kernel_rfl
theorem w2056 (n : Int) {X : XP} (hX : XOK X) {h : LH} {A : Value → LH → Prop} (hw : (n2056 n).wp X Tryd.prog (retQ A) h) : FWK X Tryd.prog .normal 79 #[.int .i64 n] h A := fwk_neat (t2056 n) (by simp) (by kernel_rfl) (by kernel_rfl) hX hw
noncomputable def n2057 (x_0 : Int) (x_1 : Int) (x_2 : Int) (x_3 : Int) (x_4 : Int) (x_5 : Int) (x_6p : Option Addr) (x_6n x_6c : Nat) (e_0 : Int) (e_1 : Int) (e_2 : Int) (e_3p : Option Addr) (e_3n e_3c : Nat) (e_4 : Int) : T := .blk (bif decide (e_0 < 0) then .leaf (.retn [.int .i64 1]) else bif decide (e_0 > 6) then .leaf (.retn [.int .i64 1]) else .call false 79 #[.int .i64 e_1] fun v => .unB v fun b => bif !b then .leaf (.retn [.int .i64 1]) else .call false 79 #[.int .i64 e_4] fun v => .unB v fun b => bif !b then .leaf (.retn [.int .i64 1]) else .leaf (.again [.int .i64 0])) (fun vs => .popI .i64 vs fun n vs => .unNil vs (.call false 19 #[.int .i64 e_2, .int .i64 0, .int .i64 (IntKind.wrap .i64 (x_1 - 1))] fun v => .unB v fun b => bif !b then .leaf (.ret (.int .i64 6)) else .loop [.int .i64 n, .int .i64 0] (fun vs => .popI .i64 vs fun n vs => .popI .i64 vs fun n_1 vs => .unNil vs (bif decide (n_1 < (↑e_3n : Int)) then .need (0 ≤ n_1 ∧ n_1 < (↑e_3n : Int)) (.someA e_3p fun a => .loadI .i64 (Addr.add a (Int.toNat n_1 * 1)) fun n_2 => .call false 19 #[.int .i64 n_2, .int .i64 0, .int .i64 (IntKind.wrap .i64 (x_0 - 1))] fun v => .unB v fun b => .nd (.int .i64 x_0) (.need (AV.pp 2 0 = AV.pp 2 0) (.need (0 ≤ n_1 ∧ n_1 < (↑e_3n : Int)) (.someA e_3p fun a_1 => .need (AV.val (.pointer (some (Addr.add a_1 (Int.toNat n_1 * 1)))) = AV.val (.pointer (some (Addr.add a (Int.toNat n_1 * 1))))) (.nd (.int .i64 n_1) (.nd (.slice e_3p e_3n e_3c) (.need (AV.pp 3 3 = AV.pp 3 3) (bif !b then .leaf (.retn [.int .i64 6, .int .i64 n_1]) else bif decide (n_1 > 0) then .need (0 ≤ n_1 ∧ n_1 < (↑e_3n : Int)) (.someA e_3p fun a => .loadI .i64 (Addr.add a (Int.toNat n_1 * 1)) fun n_3 => .need (0 ≤ IntKind.wrap .i64 (n_1 - 1) ∧ IntKind.wrap .i64 (n_1 - 1) < (↑e_3n : Int)) (.someA e_3p fun a => .loadI .i64 (Addr.add a (Int.toNat (IntKind.wrap .i64 (n_1 - 1)) * 1)) fun n_4 => bif decide (n_3 ≤ n_4) then .leaf (.retn [.int .i64 7, .int .i64 n_1]) else .leaf (.again [.int .i64 n, .int .i64 (IntKind.wrap .i64 (n_1 + 1))]))) else .nd (.tuple #[]) (.nd (.tuple #[]) (.nd (.tuple #[]) (.nd (.tuple #[]) (.nd (.tuple #[]) (.nd (.tuple #[]) (.nd (.tuple #[]) (.nd (.bool (decide (n_1 > 0))) (.nd (.int .i64 n_1) (.nd (.tuple #[]) (.nd (.tuple #[]) (.nd (.tuple #[]) (.nd (.tuple #[]) (.nd (.tuple #[]) (.nd (.tuple #[]) (.nd (.tuple #[]) (.nd (.bool (decide (n_1 > 0))) (.nd (.int .i64 n_1) (.leaf (.again [.int .i64 n, .int .i64 (IntKind.wrap .i64 (n_1 + 1))]))))))))))))))))))))))))))) else .leaf (.brk [.int .i64 n, .int .i64 n_1]))) (fun vs => .popI .i64 vs fun n vs => .popI .i64 vs fun n vs => .unNil vs (bif e_0 == 4 then bif e_2 != 0 then .leaf (.ret (.int .i64 1)) else bif e_0 != 4 then bif e_0 != 6 then bif e_4 != 0 then .leaf (.ret (.int .i64 1)) else bif decide (e_4 > e_1) then .leaf (.ret (.int .i64 7)) else .leaf (.ret (.int .i64 0)) else bif decide (e_4 > e_1) then .leaf (.ret (.int .i64 7)) else .leaf (.ret (.int .i64 0)) else bif decide (e_4 > e_1) then .leaf (.ret (.int .i64 7)) else .leaf (.ret (.int .i64 0)) else bif e_0 != 4 then bif e_0 != 6 then bif e_4 != 0 then .leaf (.ret (.int .i64 1)) else bif decide (e_4 > e_1) then .leaf (.ret (.int .i64 7)) else .leaf (.ret (.int .i64 0)) else bif decide (e_4 > e_1) then .leaf (.ret (.int .i64 7)) else .leaf (.ret (.int .i64 0)) else bif decide (e_4 > e_1) then .leaf (.ret (.int .i64 7)) else .leaf (.ret (.int .i64 0)))) (fun vs => .popI .i64 vs fun n vs => .popI .i64 vs fun n_1 vs => .unNil vs (.leaf (.ret (.int .i64 n)))) fun x x_6 => .fail)) (fun vs => .popI .i64 vs fun n vs => .unNil vs (.leaf (.ret (.int .i64 n)))) fun x x_6 => .fail
theorem t2057 (x_0 : Int) (x_1 : Int) (x_2 : Int) (x_3 : Int) (x_4 : Int) (x_5 : Int) (x_6p : Option Addr) (x_6n x_6c : Nat) (e_0 : Int) (e_1 : Int) (e_2 : Int) (e_3p : Option Addr) (e_3n e_3c : Nat) (e_4 : Int) : ftree ({ P := Tryd.prog, priv := [2, 3], loops := [{ id := 0, slots := [(4, .int .i64), (5, .int .i64)], ro := [2, 3], outs := [] }], joins := [{ id := 3, slots := [(4, .int .i64)], ro := [2, 3], outs := [] }] }) Tryd.f80 [.agg #[.int .i64 x_0, .int .i64 x_1, .int .i64 x_2, .int .i64 x_3, .int .i64 x_4, .int .i64 x_5, .slice x_6p x_6n x_6c], .agg #[.int .i64 e_0, .int .i64 e_1, .int .i64 e_2, .slice e_3p e_3n e_3c, .int .i64 e_4]] = n2057 x_0 x_1 x_2 x_3 x_4 x_5 x_6p x_6n x_6c e_0 e_1 e_2 e_3p e_3n e_3c e_4 := by kernel_rfl
theorem w2057 (x_0 : Int) (x_1 : Int) (x_2 : Int) (x_3 : Int) (x_4 : Int) (x_5 : Int) (x_6p : Option Addr) (x_6n x_6c : Nat) (e_0 : Int) (e_1 : Int) (e_2 : Int) (e_3p : Option Addr) (e_3n e_3c : Nat) (e_4 : Int) {X : XP} (hX : XOK X) {h : LH} {A : Value → LH → Prop} (hw : (n2057 x_0 x_1 x_2 x_3 x_4 x_5 x_6p x_6n x_6c e_0 e_1 e_2 e_3p e_3n e_3c e_4).wp X Tryd.prog (retQ A) h) : FWK X Tryd.prog .normal 80 #[.agg #[.int .i64 x_0, .int .i64 x_1, .int .i64 x_2, .int .i64 x_3, .int .i64 x_4, .int .i64 x_5, .slice x_6p x_6n x_6c], .agg #[.int .i64 e_0, .int .i64 e_1, .int .i64 e_2, .slice e_3p e_3n e_3c, .int .i64 e_4]] h A := fwk_neat (t2057 x_0 x_1 x_2 x_3 x_4 x_5 x_6p x_6n x_6c e_0 e_1 e_2 e_3p e_3n e_3c e_4) (by simp) (by kernel_rfl) (by kernel_rfl) hX hw
end Go.Proofs.YtldamlcehbdkdaaDoor
end

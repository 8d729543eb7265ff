/- For every file, land, day and papers the law UseKeeps returns true: Enough and Keep agree with the specification. The tied card; no further condition. -/
import Derived.Test.YtibibhojkfapnaaDoorM5
set_option linter.all false
section
namespace Go.Proofs.YtibibhojkfapnaaDoor
open Go Go.TM Go.Proofs
attribute [local irreducible] T.wp CV FWK
theorem c108 {h : LH} {f : FileC} {u : UseFile} (hu : FileR h.get f u) (hck : checkF u = 0) {I : List Int} {L : List Request} {lp : Option Addr} {ln lc : Nat} (hI : Sl IntE 1 h.get lp ln I) (hp : Pick u.requests I L) (hl4 : L.length ≤ 4) (hdays : ∀ r ∈ L, 0 ≤ r.day ∧ r.day ≤ 2000)
    {x : Paper} (hx : 0 ≤ x.days.first ∧ x.days.first ≤ x.days.last ∧ x.days.last ≤ 2000) (q : Option Addr) (m c : Nat) :
    Gr Tryd.prog 108 #[fileV f u, paperV x q m c, .slice lp ln lc] h fun r h' => ∃ p n c M, r = .slice p n c ∧ Sl IntE 1 h'.get p n M ∧ SetL M (fun s => s ∈ (daysOf x.days).map (meets u L)) := by
  refine w108 _ _ _ _ _ _ _ _ _ _ _ _ _ _ _ _ _ _ _ _ _ _ X0_ok ?_
  unfold n108
  have hlen : (daysOf x.days).length = (x.days.last - x.days.first + 1).toNat := by unfold daysOf; rw [List.length_map, List.length_range]
  refine t_loop (fun mm vs h' => h.le h' ∧ ∃ (i : Nat) (p : Option Addr) (n c : Nat) (M : List Int), vs = [.slice p n c, .int .i64 (x.days.first + i)] ∧ i ≤ (x.days.last - x.days.first + 1).toNat ∧ mm = (x.days.last - x.days.first + 1).toNat - i ∧ Growing IntEnc 3 1 h.get h'.get p n c M ∧ SetL M (metBy u L x.days i))
    ⟨LH.le_refl _, 0, none, 0, 0, [], by simp, Nat.zero_le _, rfl, Growing.nil, SetL.nil.congr fun m => by simp [metBy]⟩ ?_
  rintro Y mm vs h₁ hY ⟨hle, i, p, n, c', M, rfl, hi, rfl, g, hM⟩
  (repeat (first | (with_reducible first | apply gA | apply gB | apply gC | apply gD | apply gE | apply gF | apply gG | apply gH | apply gI | apply gJ | apply gK | apply gL | apply gM | apply gN | apply gO | apply gP | apply gQ | apply gR) | ((with_reducible apply gT); first | exact rfl | exact True.intro | omega | assumption) | ((with_reducible apply gS2); first | assumption | rfl) | ((with_reducible first | apply gL0 | apply gL1 | apply gL2 | apply gL3 | apply gL4); assumption)))
  refine t_if (fun e1 => ?_) (fun e1 => ?_)
  · have hI1 := hI.le IntE.grow hle.1
    have hu1 := hu.le hle.1
    have hr1 := hu1.requests
    have hn := hI.1
    have hIL := hp.1
    refine t_loop (fun mm vs h' => h₁ = h' ∧ ∃ (j acc : Nat), vs = [.int .i64 acc, .int .i64 j] ∧ j ≤ ln ∧ mm = ln - j ∧ acc < 2 ^ 32 ∧ meets u L (x.days.first + i) = meetsGo u (x.days.first + i) (L.drop j) j acc)
      ⟨rfl, 0, 0, rfl, Nat.zero_le _, rfl, by omega, rfl⟩ ?_
    rintro Y2 mm2 vs _ hY2 ⟨rfl, j, acc, rfl, hj, rfl, hacc, hc⟩
    (repeat (first | (with_reducible first | apply gA | apply gB | apply gC | apply gD | apply gE | apply gF | apply gG | apply gH | apply gI | apply gJ | apply gK | apply gL | apply gM | apply gN | apply gO | apply gP | apply gQ | apply gR) | ((with_reducible apply gT); first | exact rfl | exact True.intro | omega | assumption) | ((with_reducible apply gS2); first | assumption | rfl) | ((with_reducible first | apply gL0 | apply gL1 | apply gL2 | apply gL3 | apply gL4); assumption)))
    refine t_if (fun e2 => ?_) (fun e2 => ?_)
    · obtain ⟨i2, a, hi2, ha, e3⟩ := hI1.at (i := j) (by omega)
      unfold IntE at e3
      obtain ⟨k, r, rfl, hr, hLr⟩ := hp.at hi2
      have hkl : k < f.n6 := by rw [hr1.1]; exact (List.getElem?_eq_some_iff.1 hr).1
      obtain ⟨r', b, hr', hb, e4, e5, q', mq, cq, e6, e7⟩ := hr1.at (i := k) hkl
      rw [hr] at hr'; cases hr'
      rw [drop_of hLr, meetsGo] at hc
      have hrd := hdays r (List.mem_of_getElem? hLr)
      have hki : (0 : Int) ≤ k ∧ (k : Int) < f.n6 := ⟨by omega, by omega⟩
      (repeat (first | (with_reducible first | apply gA | apply gB | apply gC | apply gD | apply gE | apply gF | apply gG | apply gH | apply gI | apply gJ | apply gK | apply gL | apply gM | apply gN | apply gO | apply gP | apply gQ | apply gR) | ((with_reducible apply gT); first | exact rfl | exact True.intro | omega | assumption) | ((with_reducible apply gS2); first | assumption | rfl) | ((with_reducible first | apply gL0 | apply gL1 | apply gL2 | apply gL3 | apply gL4); assumption)))
      refine t_pu (c57 hu1 r.day hrd.2) ?_
      (repeat (first | (with_reducible first | apply gA | apply gB | apply gC | apply gD | apply gE | apply gF | apply gG | apply gH | apply gI | apply gJ | apply gK | apply gL | apply gM | apply gN | apply gO | apply gP | apply gQ | apply gR) | ((with_reducible apply gT); first | exact rfl | exact True.intro | omega | assumption) | ((with_reducible apply gS2); first | assumption | rfl) | ((with_reducible first | apply gL0 | apply gL1 | apply gL2 | apply gL3 | apply gL4); assumption)))
      refine t_pu (c89 _ _ _) ?_
      (repeat (first | (with_reducible first | apply gA | apply gB | apply gC | apply gD | apply gE | apply gF | apply gG | apply gH | apply gI | apply gJ | apply gK | apply gL | apply gM | apply gN | apply gO | apply gP | apply gQ | apply gR) | ((with_reducible apply gT); first | exact rfl | exact True.intro | omega | assumption) | ((with_reducible apply gS2); first | assumption | rfl) | ((with_reducible first | apply gL0 | apply gL1 | apply gL2 | apply gL3 | apply gL4); assumption)))
      refine t_cond (fun b => ?_) (fun b => ?_)
      · rw [if_pos b] at hc
        (repeat (first | (with_reducible first | apply gA | apply gB | apply gC | apply gD | apply gE | apply gF | apply gG | apply gH | apply gI | apply gJ | apply gK | apply gL | apply gM | apply gN | apply gO | apply gP | apply gQ | apply gR) | ((with_reducible apply gT); first | exact rfl | exact True.intro | omega | assumption) | ((with_reducible apply gS2); first | assumption | rfl) | ((with_reducible first | apply gL0 | apply gL1 | apply gL2 | apply gL3 | apply gL4); assumption)))
        rw [or_bits hacc (by omega)]
        refine t_again (hY2 (ln - (j + 1)) _ _ (by omega) ⟨rfl, j + 1, acc ||| 2 ^ j, ?_, by omega, rfl, Nat.or_lt_two_pow hacc (Nat.pow_lt_pow_right (by omega) (by omega)), hc⟩)
        rw [wrap_id (by omega) (by omega)]; rfl
      · rw [if_neg (by rw [b]; simp)] at hc
        refine t_again (hY2 (ln - (j + 1)) _ _ (by omega) ⟨rfl, j + 1, acc, ?_, by omega, rfl, hacc, hc⟩)
        rw [wrap_id (by omega) (by omega)]; rfl
    · (repeat (first | (with_reducible first | apply gA | apply gB | apply gC | apply gD | apply gE | apply gF | apply gG | apply gH | apply gI | apply gJ | apply gK | apply gL | apply gM | apply gN | apply gO | apply gP | apply gQ | apply gR) | ((with_reducible apply gT); first | exact rfl | exact True.intro | omega | assumption) | ((with_reducible apply gS2); first | assumption | rfl) | ((with_reducible first | apply gL0 | apply gL1 | apply gL2 | apply gL3 | apply gL4); assumption)))
      rw [List.drop_eq_nil_of_le (by omega), meetsGo] at hc
      have hlt : ∀ m, metBy u L x.days i m → m < 16 := fun m hm => Nat.lt_of_lt_of_le (metBy_lt hm) (pow16 hl4)
      have hMl := hM.len hlt
      have hng := g.count IntEnc.len (by omega)
      have hs := g.sl IntEnc.len (by omega) IntEnc.e (by omega)
      refine t_pu (c41 hs _) ?_
      (repeat (first | (with_reducible first | apply gA | apply gB | apply gC | apply gD | apply gE | apply gF | apply gG | apply gH | apply gI | apply gJ | apply gK | apply gL | apply gM | apply gN | apply gO | apply gP | apply gQ | apply gR) | ((with_reducible apply gT); first | exact rfl | exact True.intro | omega | assumption) | ((with_reducible apply gS2); first | assumption | rfl) | ((with_reducible first | apply gL0 | apply gL1 | apply gL2 | apply gL3 | apply gL4); assumption)))
      have hsucc := metBy_succ (u := u) (L := L) (x := x.days) (i := i) (by omega)
      have hwr : IntKind.wrap .i64 (x.days.first + i + 1) = x.days.first + ((i + 1 : Nat) : Int) := by rw [wrap_id (by omega) (by omega)]; omega
      refine t_cond (fun b => ?_) (fun b => ?_)
      · have hno : ((acc : Nat) : Int) ∉ M := by simpa using b
        refine t_pushI g hle (by omega) fun p' c2 h₂ hle2 g2 => ?_
        (repeat (first | (with_reducible first | apply gA | apply gB | apply gC | apply gD | apply gE | apply gF | apply gG | apply gH | apply gI | apply gJ | apply gK | apply gL | apply gM | apply gN | apply gO | apply gP | apply gQ | apply gR) | ((with_reducible apply gT); first | exact rfl | exact True.intro | omega | assumption) | ((with_reducible apply gS2); first | assumption | rfl) | ((with_reducible first | apply gL0 | apply gL1 | apply gL2 | apply gL3 | apply gL4); assumption)))
        rw [hwr]
        refine t_again (hY _ _ _ (by omega) ⟨hle2, i + 1, p', n + 1, c2, M ++ [(acc : Int)], rfl, by omega, rfl, g2, (hM.snoc hno).congr fun m => ?_⟩)
        rw [hsucc, hc]
      · have hin : ((acc : Nat) : Int) ∈ M := by simpa using b
        rw [hwr]
        refine t_again (hY _ _ _ (by omega) ⟨hle, i + 1, p, n, c', M, rfl, by omega, rfl, g, (hM.old hin).congr fun m => ?_⟩)
        rw [hsucc, hc]
  · (repeat (first | (with_reducible first | apply gA | apply gB | apply gC | apply gD | apply gE | apply gF | apply gG | apply gH | apply gI | apply gJ | apply gK | apply gL | apply gM | apply gN | apply gO | apply gP | apply gQ | apply gR) | ((with_reducible apply gT); first | exact rfl | exact True.intro | omega | assumption) | ((with_reducible apply gS2); first | assumption | rfl) | ((with_reducible first | apply gL0 | apply gL1 | apply gL2 | apply gL3 | apply gL4); assumption)))
    have hlt : ∀ m, metBy u L x.days i m → m < 16 := fun m hm => Nat.lt_of_lt_of_le (metBy_lt hm) (pow16 hl4)
    have hMl := hM.len hlt
    refine t_ret ⟨hle, p, n, c', M, rfl, g.sl IntEnc.len (by omega) IntEnc.e (by omega), hM.congr fun m => ?_⟩
    unfold metBy
    rw [List.take_of_length_le (by omega), List.mem_map]
    constructor
    · rintro ⟨d, h1, h2⟩; exact ⟨d, h1, h2.symm⟩
    · rintro ⟨d, h1, h2⟩; exact ⟨d, h1, h2.symm⟩
end Go.Proofs.YtibibhojkfapnaaDoor
end
section
namespace Go.Proofs.YtibibhojkfapnaaDoor
open Go Go.TM Go.Proofs
attribute [local irreducible] T.wp CV FWK
theorem setCell_updU {h : Cells} {r o : Nat} {cs : Array Value} {el : TypeId} {fz : Nat × Nat} {v : Value} : (h.upd r (true, .cells cs el fz)).setCell ⟨r, o, none⟩ v = h.upd r (true, .cells (cs.setIfInBounds o v) el fz) := by
  funext k
  unfold Cells.setCell Cells.upd
  by_cases e : k = r
  · subst e; simp
  · simp [e]
theorem frozen_upd {h : Cells} {r o : Nat} {cs : Array Value} {el : TypeId} : (h.upd r (true, .cells cs el (0, 0))).frozen? ⟨r, o, none⟩ = false := by
  unfold Cells.frozen?
  simp [Cells.upd]
theorem reachL_snoc {u : UseFile} {L : List Request} {p : Paper} : ∀ {ps : List Paper} {R : List Nat}, reachL u L (ps ++ [p]) R = stepL ((daysOf p.days).map (meets u L)) (reachL u L ps R) := by
  intro ps
  induction ps with
  | nil => intro R; rfl
  | cons q ps ih => intro R; rw [List.cons_append, reachL, ih, reachL]
theorem mem_stepL {ms R : List Nat} {s : Nat} : s ∈ stepL ms R ↔ ∃ a ∈ R, ∃ b ∈ ms, s = a ||| b := by
  unfold stepL
  simp only [List.mem_flatMap, List.mem_map]
  constructor
  · rintro ⟨a, h1, b, h2, h3⟩; exact ⟨a, h1, b, h2, h3.symm⟩
  · rintro ⟨a, h1, b, h2, h3⟩; exact ⟨a, h1, b, h2, h3.symm⟩
def Mix (R M : List Int) (ia : Nat) (s : Nat) : Prop := ∃ a b : Nat, (a : Int) ∈ R.take ia ∧ (b : Int) ∈ M ∧ s = a ||| b
def Mix2 (R M : List Int) (ia ib : Nat) (s : Nat) : Prop := Mix R M ia s ∨ ∃ a b : Nat, R[ia]? = some (a : Int) ∧ (b : Int) ∈ M.take ib ∧ s = a ||| b
theorem mix_next {R M : List Int} {ia : Nat} {a : Nat} (ha : R[ia]? = some (a : Int)) (s : Nat) : Mix2 R M ia M.length s ↔ Mix R M (ia + 1) s := by
  unfold Mix2 Mix
  rw [List.take_length, List.take_add_one, ha]
  simp only [Option.toList, List.mem_append, List.mem_singleton]
  constructor
  · rintro (⟨x, y, h1, h2, h3⟩ | ⟨x, y, h1, h2, h3⟩)
    · exact ⟨x, y, .inl h1, h2, h3⟩
    · cases h1; exact ⟨_, y, .inr rfl, h2, h3⟩
  · rintro ⟨x, y, h1 | h1, h2, h3⟩
    · exact .inl ⟨x, y, h1, h2, h3⟩
    · exact .inr ⟨x, y, by rw [h1], h2, h3⟩
theorem mix2_next {R M : List Int} {ia ib : Nat} {a b : Nat} (ha : R[ia]? = some (a : Int)) (hb : M[ib]? = some (b : Int)) (s : Nat) : Mix2 R M ia (ib + 1) s ↔ (Mix2 R M ia ib s ∨ s = a ||| b) := by
  unfold Mix2
  rw [List.take_add_one, hb]
  simp only [Option.toList, List.mem_append, List.mem_singleton]
  constructor
  · rintro (h | ⟨x, y, h1, h2 | h2, h3⟩)
    · exact .inl (.inl h)
    · exact .inl (.inr ⟨x, y, h1, h2, h3⟩)
    · rw [ha] at h1
      have e1 : a = x := by simp at h1; omega
      have e2 : y = b := by omega
      subst e1; subst e2
      exact .inr h3
  · rintro ((h | ⟨x, y, h1, h2, h3⟩) | h)
    · exact .inl h
    · exact .inr ⟨x, y, h1, .inl h2, h3⟩
    · exact .inr ⟨a, b, ha, .inr rfl, h⟩
theorem mix_zero {R M : List Int} (s : Nat) : Mix R M 0 s ↔ False := by unfold Mix; simp
theorem mix2_zero {R M : List Int} {ia : Nat} (s : Nat) : Mix2 R M ia 0 s ↔ Mix R M ia s := by unfold Mix2; simp
theorem mix_all {R M : List Int} {Rn : List Nat} {ms : List Nat} (hR : SetL R (fun s => s ∈ Rn)) (hM : SetL M (fun s => s ∈ ms)) (s : Nat) : Mix R M R.length s ↔ s ∈ stepL ms Rn := by
  unfold Mix
  rw [List.take_length, mem_stepL]
  constructor
  · rintro ⟨a, b, h1, h2, h3⟩
    obtain ⟨a', e1, h1⟩ := (hR.2 _).1 h1
    obtain ⟨b', e2, h2⟩ := (hM.2 _).1 h2
    have : a = a' := by omega
    have : b = b' := by omega
    subst a'; subst b'
    exact ⟨a, h1, b, h2, h3⟩
  · rintro ⟨a, h1, b, h2, h3⟩
    exact ⟨a, b, (hR.2 _).2 ⟨a, rfl, h1⟩, (hM.2 _).2 ⟨b, rfl, h2⟩, h3⟩
theorem SetL.at {R : List Int} {S : Nat → Prop} (s : SetL R S) {i : Nat} {x : Int} (hx : R[i]? = some x) : ∃ a : Nat, x = a ∧ S a := (s.2 x).1 (List.mem_of_getElem? hx)
theorem c104 {h : LH} {f : FileC} {u : UseFile} (hu : FileR h.get f u) (hck : checkF u = 0) {I : List Int} {L : List Request} {lp : Option Addr} {ln lc : Nat} (hI : Sl IntE 1 h.get lp ln I) (hp : Pick u.requests I L) (hl4 : L.length ≤ 4) (hdays : ∀ r ∈ L, 0 ≤ r.day ∧ r.day ≤ 2000) (land item : Int) :
    Gr Tryd.prog 104 #[fileV f u, .int .i64 land, .int .i64 item, .slice lp ln lc] h fun r _ => r = .bool (can u land item L) := by
  refine w104 _ _ _ _ _ _ _ _ _ _ _ _ _ _ _ _ _ _ X0_ok ?_
  unfold n104
  have hIL := hp.1
  have hn := hI.1
  refine t_build und50 inf3 (by decide) (by decide) (cells := #[.int .i64 0]) (by kernel_rfl) fun r hr => ?_
  (repeat (first | (with_reducible first | apply gA | apply gB | apply gC | apply gD | apply gE | apply gF | apply gG | apply gH | apply gI | apply gJ | apply gK | apply gL | apply gM | apply gN | apply gO | apply gP | apply gQ | apply gR) | ((with_reducible apply gT); first | exact rfl | exact True.intro | omega | assumption) | ((with_reducible apply gS2); first | assumption | rfl) | ((with_reducible first | apply gL0 | apply gL1 | apply gL2 | apply gL3 | apply gL4); assumption)))
  have lex : ∀ acc : Nat, h.le { h with get := h.get.upd r (true, .cells #[.int .i64 (acc : Int)] 3 (0, 0)) } := fun acc => LH.upd_le hr
  refine t_loop (fun mm vs h' => ∃ (j acc : Nat), h' = { h with get := h.get.upd r (true, .cells #[.int .i64 (acc : Int)] 3 (0, 0)) } ∧ vs = [.int .i64 j] ∧ j ≤ ln ∧ mm = ln - j ∧ acc < 2 ^ 32 ∧ meets u L u.from_ = meetsGo u u.from_ (L.drop j) j acc)
      ⟨0, 0, rfl, rfl, Nat.zero_le _, rfl, by omega, rfl⟩ ?_
  rintro Y mm vs _ hY ⟨j, acc, rfl, rfl, hj, rfl, hacc, hc⟩
  have hle := lex acc
  have hI1 := hI.le IntE.grow hle.1
  have hu1 := hu.le hle.1
  have hr1 := hu1.requests
  have hcell : (h.get.upd r (true, .cells #[.int .i64 (acc : Int)] 3 (0, 0))).cell? ⟨r, 0, none⟩ = some (.int .i64 (acc : Int)) := cell_upd rfl
  have hcell0 : (h.get.upd r (true, .cells #[.int .i64 (acc : Int)] 3 (0, 0))).cell? (Addr.add ⟨r, 0, none⟩ 0) = some (.int .i64 (acc : Int)) := hcell
  have hcell00 : (h.get.upd r (true, .cells #[.int .i64 (acc : Int)] 3 (0, 0))).cell? (Addr.add (Addr.add ⟨r, 0, none⟩ 0) 0) = some (.int .i64 (acc : Int)) := hcell
  (repeat (first | (with_reducible first | apply gA | apply gB | apply gC | apply gD | apply gE | apply gF | apply gG | apply gH | apply gI | apply gJ | apply gK | apply gL | apply gM | apply gN | apply gO | apply gP | apply gQ | apply gR) | ((with_reducible apply gT); first | exact rfl | exact True.intro | omega | assumption) | ((with_reducible apply gS2); first | assumption | rfl) | ((with_reducible first | apply gL0 | apply gL1 | apply gL2 | apply gL3 | apply gL4); assumption)))
  refine t_if (fun e2 => ?_) (fun e2 => ?_)
  · obtain ⟨i2, a, hi2, ha, e3⟩ := hI1.at (i := j) (by omega)
    unfold IntE at e3
    obtain ⟨k, q, rfl, hq, hLr⟩ := hp.at hi2
    have hkl : k < f.n6 := by rw [hr1.1]; exact (List.getElem?_eq_some_iff.1 hq).1
    obtain ⟨q', b, hq', hb, e4, e5, q2, mq, cq, e6, e7⟩ := hr1.at (i := k) hkl
    rw [hq] at hq'; cases hq'
    rw [drop_of hLr, meetsGo] at hc
    have hrd := hdays q (List.mem_of_getElem? hLr)
    have hki : (0 : Int) ≤ k ∧ (k : Int) < f.n6 := ⟨by omega, by omega⟩
    (repeat (first | (with_reducible first | apply gA | apply gB | apply gC | apply gD | apply gE | apply gF | apply gG | apply gH | apply gI | apply gJ | apply gK | apply gL | apply gM | apply gN | apply gO | apply gP | apply gQ | apply gR) | ((with_reducible apply gT); first | exact rfl | exact True.intro | omega | assumption) | ((with_reducible apply gS2); first | assumption | rfl) | ((with_reducible first | apply gL0 | apply gL1 | apply gL2 | apply gL3 | apply gL4); assumption)))
    refine t_pu (c57 hu1 q.day hrd.2) ?_
    (repeat (first | (with_reducible first | apply gA | apply gB | apply gC | apply gD | apply gE | apply gF | apply gG | apply gH | apply gI | apply gJ | apply gK | apply gL | apply gM | apply gN | apply gO | apply gP | apply gQ | apply gR) | ((with_reducible apply gT); first | exact rfl | exact True.intro | omega | assumption) | ((with_reducible apply gS2); first | assumption | rfl) | ((with_reducible first | apply gL0 | apply gL1 | apply gL2 | apply gL3 | apply gL4); assumption)))
    refine t_pu (c89 _ _ _) ?_
    (repeat (first | (with_reducible first | apply gA | apply gB | apply gC | apply gD | apply gE | apply gF | apply gG | apply gH | apply gI | apply gJ | apply gK | apply gL | apply gM | apply gN | apply gO | apply gP | apply gQ | apply gR) | ((with_reducible apply gT); first | exact rfl | exact True.intro | omega | assumption) | ((with_reducible apply gS2); first | assumption | rfl) | ((with_reducible first | apply gL0 | apply gL1 | apply gL2 | apply gL3 | apply gL4); assumption)))
    refine t_cond (fun b => ?_) (fun b => ?_)
    · rw [if_pos b] at hc
      (repeat (first | (with_reducible first | apply gA | apply gB | apply gC | apply gD | apply gE | apply gF | apply gG | apply gH | apply gI | apply gJ | apply gK | apply gL | apply gM | apply gN | apply gO | apply gP | apply gQ | apply gR) | ((with_reducible apply gT); first | exact rfl | exact True.intro | omega | assumption) | ((with_reducible apply gS2); first | assumption | rfl) | ((with_reducible first | apply gL0 | apply gL1 | apply gL2 | apply gL3 | apply gL4); assumption)))
      rw [or_bits hacc (by omega)]
      refine t_store (v₀ := .int .i64 (acc : Int)) rfl ⟨_, Cells.upd_self _ _ _⟩ hcell0 frozen_upd ?_
      refine t_again (hY (ln - (j + 1)) _ _ (by omega) ⟨j + 1, acc ||| 2 ^ j, ?_, ?_, by omega, rfl, Nat.or_lt_two_pow hacc (Nat.pow_lt_pow_right (by omega) (by omega)), hc⟩)
      · show LH.mk _ _ _ _ = _
        congr 1
        exact setCell_updU
      · rw [wrap_id (by omega) (by omega)]; rfl
    · rw [if_neg (by rw [b]; simp)] at hc
      refine t_again (hY (ln - (j + 1)) _ _ (by omega) ⟨j + 1, acc, rfl, ?_, by omega, rfl, hacc, hc⟩)
      rw [wrap_id (by omega) (by omega)]; rfl
  · (repeat (first | (with_reducible first | apply gA | apply gB | apply gC | apply gD | apply gE | apply gF | apply gG | apply gH | apply gI | apply gJ | apply gK | apply gL | apply gM | apply gN | apply gO | apply gP | apply gQ | apply gR) | ((with_reducible apply gT); first | exact rfl | exact True.intro | omega | assumption) | ((with_reducible apply gS2); first | assumption | rfl) | ((with_reducible first | apply gL0 | apply gL1 | apply gL2 | apply gL3 | apply gL4); assumption)))
    rw [List.drop_eq_nil_of_le (by omega), meetsGo] at hc
    have hpp := hu.papers
    have hn5 := hpp.1
    have hpk := check_papers hck
    refine t_loop (fun mm vs h' => h.le h' ∧ ∃ (i : Nat) (p : Option Addr) (n c : Nat) (R : List Int), vs = [.slice p n c, .int .i64 i] ∧ i ≤ f.n5 ∧ mm = f.n5 - i ∧ Sl IntE 1 h'.get p n R ∧ SetL R (fun s => s ∈ reachL u L ((u.papers.take i).filter (showsB land item)) [meets u L u.from_]))
      ⟨hle, 0, _, 1, 1, [(acc : Int)], rfl, Nat.zero_le _, rfl, ⟨rfl, by simp, fun i x hx => ⟨_, rfl, ?_⟩⟩, ⟨by simp, fun s => by simp [reachL, hc]⟩⟩ ?_
    · cases i with
      | zero => simp at hx; subst hx; exact hcell
      | succ i => simp at hx
    rintro Y mm vs h₁ hY ⟨hle1, i, p, n, c, R, rfl, hi, rfl, hR, hS⟩
    have hlt16 : ∀ s, s ∈ reachL u L ((u.papers.take i).filter (showsB land item)) [meets u L u.from_] → s < 16 := fun s hs =>
      Nat.lt_of_lt_of_le (reach_lt (fun s hs => by simp at hs; subst hs; exact meets_lt' u L _) s hs) (pow16 hl4)
    (repeat (first | (with_reducible first | apply gA | apply gB | apply gC | apply gD | apply gE | apply gF | apply gG | apply gH | apply gI | apply gJ | apply gK | apply gL | apply gM | apply gN | apply gO | apply gP | apply gQ | apply gR) | ((with_reducible apply gT); first | exact rfl | exact True.intro | omega | assumption) | ((with_reducible apply gS2); first | assumption | rfl) | ((with_reducible first | apply gL0 | apply gL1 | apply gL2 | apply gL3 | apply gL4); assumption)))
    refine t_if (fun e5 => ?_) (fun e5 => ?_)
    · obtain ⟨x, a, hx, ha, x1, x2, x3, q, m, cq, x4, x5⟩ := (hpp.le PaperE.grow hle1.1).at (i := i) (by omega)
      have hxk := hpk.2 x (List.mem_of_getElem? hx)
      have htk : (u.papers.take (i + 1)).filter (showsB land item) = (u.papers.take i).filter (showsB land item) ++ (if showsB land item x then [x] else []) := by
        rw [List.take_add_one, hx, List.filter_append]
        congr 1
        cases hs : showsB land item x <;> simp [hs]
      (repeat (first | (with_reducible first | apply gA | apply gB | apply gC | apply gD | apply gE | apply gF | apply gG | apply gH | apply gI | apply gJ | apply gK | apply gL | apply gM | apply gN | apply gO | apply gP | apply gQ | apply gR) | ((with_reducible apply gT); first | exact rfl | exact True.intro | omega | assumption) | ((with_reducible apply gS2); first | assumption | rfl) | ((with_reducible first | apply gL0 | apply gL1 | apply gL2 | apply gL3 | apply gL4); assumption)))
      refine t_pu (c90 (x := x) x5 land item) ?_
      (repeat (first | (with_reducible first | apply gA | apply gB | apply gC | apply gD | apply gE | apply gF | apply gG | apply gH | apply gI | apply gJ | apply gK | apply gL | apply gM | apply gN | apply gO | apply gP | apply gQ | apply gR) | ((with_reducible apply gT); first | exact rfl | exact True.intro | omega | assumption) | ((with_reducible apply gS2); first | assumption | rfl) | ((with_reducible first | apply gL0 | apply gL1 | apply gL2 | apply gL3 | apply gL4); assumption)))
      refine t_cond (fun b => ?_) (fun b => ?_)
      · have b' : showsB land item x = false := by simpa using b
        rw [b', if_neg (by simp), List.append_nil] at htk
        refine t_again (hY (f.n5 - (i + 1)) _ _ (by omega) ⟨hle1, i + 1, p, n, c, R, ?_, by omega, rfl, hR, by rw [htk]; exact hS⟩)
        rw [wrap_id (by omega) (by omega)]; rfl
      have b' : showsB land item x = true := by simpa using b
      rw [b', if_pos rfl] at htk
      (repeat (first | (with_reducible first | apply gA | apply gB | apply gC | apply gD | apply gE | apply gF | apply gG | apply gH | apply gI | apply gJ | apply gK | apply gL | apply gM | apply gN | apply gO | apply gP | apply gQ | apply gR) | ((with_reducible apply gT); first | exact rfl | exact True.intro | omega | assumption) | ((with_reducible apply gS2); first | assumption | rfl) | ((with_reducible first | apply gL0 | apply gL1 | apply gL2 | apply gL3 | apply gL4); assumption)))
      refine t_gr (c108 (x := x) (hu.le hle1.1) hck (hI.le IntE.grow hle1.1) hp hl4 hdays hxk q m cq) ?_
      rintro _ h₂ le2 ⟨pm, nm, cm, M, rfl, hM, hMS⟩
      have hR2 := hR.le IntE.grow le2.1
      have hnR := hR.1
      have hnM := hM.1
      have hRl := hS.len hlt16
      have hM16 : ∀ s, s ∈ (daysOf x.days).map (meets u L) → s < 16 := fun s hs => by
        obtain ⟨d, _, rfl⟩ := List.mem_map.1 hs
        exact Nat.lt_of_lt_of_le (meets_lt' u L d) (pow16 hl4)
      have hMl := hMS.len hM16
      have hmix : ∀ ia ib s, Mix2 R M ia ib s → s < 16 := by
        have or16 : ∀ a b : Nat, a < 16 → b < 16 → a ||| b < 16 := fun a b ha hb => Nat.or_lt_two_pow (n := 4) ha hb
        rintro ia ib s (⟨a, b, h1, h2, rfl⟩ | ⟨a, b, h1, h2, rfl⟩)
        · obtain ⟨a', e1, h1⟩ := (hS.2 _).1 (List.mem_of_mem_take h1)
          obtain ⟨b', e2, h2⟩ := (hMS.2 _).1 h2
          have := hlt16 _ h1
          have := hM16 _ h2
          exact or16 _ _ (by omega) (by omega)
        · obtain ⟨a', e1, h1⟩ := hS.at h1
          obtain ⟨b', e2, h2⟩ := (hMS.2 _).1 (List.mem_of_mem_take h2)
          have := hlt16 _ h1
          have := hM16 _ h2
          exact or16 _ _ (by omega) (by omega)
      (repeat (first | (with_reducible first | apply gA | apply gB | apply gC | apply gD | apply gE | apply gF | apply gG | apply gH | apply gI | apply gJ | apply gK | apply gL | apply gM | apply gN | apply gO | apply gP | apply gQ | apply gR) | ((with_reducible apply gT); first | exact rfl | exact True.intro | omega | assumption) | ((with_reducible apply gS2); first | assumption | rfl) | ((with_reducible first | apply gL0 | apply gL1 | apply gL2 | apply gL3 | apply gL4); assumption)))
      refine t_loop (fun mm vs h' => h₂.le h' ∧ ∃ (ia : Nat) (pn : Option Addr) (nn cn : Nat) (N : List Int), vs = [.slice pn nn cn, .int .i64 ia] ∧ ia ≤ n ∧ mm = n - ia ∧ Growing IntEnc 3 1 h₂.get h'.get pn nn cn N ∧ SetL N (Mix R M ia))
        ⟨LH.le_refl _, 0, none, 0, 0, [], rfl, Nat.zero_le _, rfl, Growing.nil, SetL.nil.congr fun s => (mix_zero s).symm⟩ ?_
      rintro Ya mma vs h₃ hYa ⟨hle3, ia, pn, nn, cn, N, rfl, hia, rfl, gN, hN⟩
      (repeat (first | (with_reducible first | apply gA | apply gB | apply gC | apply gD | apply gE | apply gF | apply gG | apply gH | apply gI | apply gJ | apply gK | apply gL | apply gM | apply gN | apply gO | apply gP | apply gQ | apply gR) | ((with_reducible apply gT); first | exact rfl | exact True.intro | omega | assumption) | ((with_reducible apply gS2); first | assumption | rfl) | ((with_reducible first | apply gL0 | apply gL1 | apply gL2 | apply gL3 | apply gL4); assumption)))
      refine t_if (fun e7 => ?_) (fun e7 => ?_)
      · obtain ⟨ra, aR, hra, haR, era⟩ := (hR2.le IntE.grow hle3.1).at (i := ia) (by omega)
        obtain ⟨va, rfl, hva⟩ := hS.at hra
        refine t_loop (fun mm vs h' => h₂.le h' ∧ ∃ (ib : Nat) (pn : Option Addr) (nn cn : Nat) (N : List Int), vs = [.slice pn nn cn, .int .i64 ib] ∧ ib ≤ nm ∧ mm = nm - ib ∧ Growing IntEnc 3 1 h₂.get h'.get pn nn cn N ∧ SetL N (Mix2 R M ia ib))
          ⟨hle3, 0, pn, nn, cn, N, rfl, Nat.zero_le _, rfl, gN, hN.congr fun s => (mix2_zero s).symm⟩ ?_
        clear gN hN era haR hra hle3
        rintro Yb mmb vs h₄ hYb ⟨hle4, ib, pn, nn, cn, N, rfl, hib, rfl, gN, hN⟩
        obtain ⟨ra', aR, hra, haR, era⟩ := (hR2.le IntE.grow hle4.1).at (i := ia) (by omega)
        obtain ⟨va', rfl, hva'⟩ := hS.at hra
        unfold IntE at era
        (repeat (first | (with_reducible first | apply gA | apply gB | apply gC | apply gD | apply gE | apply gF | apply gG | apply gH | apply gI | apply gJ | apply gK | apply gL | apply gM | apply gN | apply gO | apply gP | apply gQ | apply gR) | ((with_reducible apply gT); first | exact rfl | exact True.intro | omega | assumption) | ((with_reducible apply gS2); first | assumption | rfl) | ((with_reducible first | apply gL0 | apply gL1 | apply gL2 | apply gL3 | apply gL4); assumption)))
        refine t_if (fun e8 => ?_) (fun e8 => ?_)
        · obtain ⟨rb, aM, hrb, haM, erb⟩ := (hM.le IntE.grow hle4.1).at (i := ib) (by omega)
          obtain ⟨vb, rfl, hvb⟩ := hMS.at hrb
          unfold IntE at erb
          have hNl := hN.len (hmix _ _)
          have hng := gN.count IntEnc.len (by omega)
          have hsN := gN.sl IntEnc.len (by omega) IntEnc.e (by omega)
          (repeat (first | (with_reducible first | apply gA | apply gB | apply gC | apply gD | apply gE | apply gF | apply gG | apply gH | apply gI | apply gJ | apply gK | apply gL | apply gM | apply gN | apply gO | apply gP | apply gQ | apply gR) | ((with_reducible apply gT); first | exact rfl | exact True.intro | omega | assumption) | ((with_reducible apply gS2); first | assumption | rfl) | ((with_reducible first | apply gL0 | apply gL1 | apply gL2 | apply gL3 | apply gL4); assumption)))
          rw [or_small (hlt16 _ hva') (hM16 _ hvb)]
          refine t_pu (c41 hsN _) ?_
          (repeat (first | (with_reducible first | apply gA | apply gB | apply gC | apply gD | apply gE | apply gF | apply gG | apply gH | apply gI | apply gJ | apply gK | apply gL | apply gM | apply gN | apply gO | apply gP | apply gQ | apply gR) | ((with_reducible apply gT); first | exact rfl | exact True.intro | omega | assumption) | ((with_reducible apply gS2); first | assumption | rfl) | ((with_reducible first | apply gL0 | apply gL1 | apply gL2 | apply gL3 | apply gL4); assumption)))
          have hsucc := mix2_next (ib := ib) hra hrb
          refine t_cond (fun b => ?_) (fun b => ?_)
          · have hno : ((va' ||| vb : Nat) : Int) ∉ N := by simpa using b
            refine t_pushI gN hle4 (by omega) fun p' c2 h₅ hle5 g2 => ?_
            (repeat (first | (with_reducible first | apply gA | apply gB | apply gC | apply gD | apply gE | apply gF | apply gG | apply gH | apply gI | apply gJ | apply gK | apply gL | apply gM | apply gN | apply gO | apply gP | apply gQ | apply gR) | ((with_reducible apply gT); first | exact rfl | exact True.intro | omega | assumption) | ((with_reducible apply gS2); first | assumption | rfl) | ((with_reducible first | apply gL0 | apply gL1 | apply gL2 | apply gL3 | apply gL4); assumption)))
            refine t_again (hYb (nm - (ib + 1)) _ _ (by omega) ⟨hle5, ib + 1, p', nn + 1, c2, _, ?_, by omega, rfl, g2, (hN.snoc hno).congr fun s => (hsucc s).symm⟩)
            rw [wrap_id (by omega) (by omega)]; rfl
          · have hin : ((va' ||| vb : Nat) : Int) ∈ N := by simpa using b
            refine t_again (hYb (nm - (ib + 1)) _ _ (by omega) ⟨hle4, ib + 1, pn, nn, cn, N, ?_, by omega, rfl, gN, (hN.old hin).congr fun s => (hsucc s).symm⟩)
            rw [wrap_id (by omega) (by omega)]; rfl
        · (repeat (first | (with_reducible first | apply gA | apply gB | apply gC | apply gD | apply gE | apply gF | apply gG | apply gH | apply gI | apply gJ | apply gK | apply gL | apply gM | apply gN | apply gO | apply gP | apply gQ | apply gR) | ((with_reducible apply gT); first | exact rfl | exact True.intro | omega | assumption) | ((with_reducible apply gS2); first | assumption | rfl) | ((with_reducible first | apply gL0 | apply gL1 | apply gL2 | apply gL3 | apply gL4); assumption)))
          have hibe : ib = M.length := by omega
          subst hibe
          refine t_again (hYa (n - (ia + 1)) _ _ (by omega) ⟨hle4, ia + 1, pn, nn, cn, N, ?_, by omega, rfl, gN, hN.congr fun s => mix_next hra s⟩)
          rw [wrap_id (by omega) (by omega)]; rfl
      · (repeat (first | (with_reducible first | apply gA | apply gB | apply gC | apply gD | apply gE | apply gF | apply gG | apply gH | apply gI | apply gJ | apply gK | apply gL | apply gM | apply gN | apply gO | apply gP | apply gQ | apply gR) | ((with_reducible apply gT); first | exact rfl | exact True.intro | omega | assumption) | ((with_reducible apply gS2); first | assumption | rfl) | ((with_reducible first | apply gL0 | apply gL1 | apply gL2 | apply gL3 | apply gL4); assumption)))
        have hiae : ia = R.length := by omega
        subst hiae
        have hNl := hN.len fun m hm => hmix _ 0 _ ((mix2_zero m).2 hm)
        refine t_again (hY (f.n5 - (i + 1)) _ _ (by omega) ⟨LH.le_trans (LH.le_trans hle1 le2) hle3, i + 1, pn, nn, cn, N, ?_, by omega, rfl, gN.sl IntEnc.len (by omega) IntEnc.e (by omega), ?_⟩)
        · rw [wrap_id (by omega) (by omega)]; rfl
        · rw [htk, reachL_snoc]
          exact hN.congr fun s => mix_all hS hMS s
    · (repeat (first | (with_reducible first | apply gA | apply gB | apply gC | apply gD | apply gE | apply gF | apply gG | apply gH | apply gI | apply gJ | apply gK | apply gL | apply gM | apply gN | apply gO | apply gP | apply gQ | apply gR) | ((with_reducible apply gT); first | exact rfl | exact True.intro | omega | assumption) | ((with_reducible apply gS2); first | assumption | rfl) | ((with_reducible first | apply gL0 | apply gL1 | apply gL2 | apply gL3 | apply gL4); assumption)))
      have hRl := hS.len hlt16
      rw [List.take_of_length_le (by omega)] at hS
      have hval : IntKind.wrap .i64 (IntKind.wrap .i64 (1 * 2 ^ min (Int.toNat (ln : Int)) 64) - 1) = ((2 ^ L.length - 1 : Nat) : Int) := by
        have hln : ln = L.length := by omega
        rw [hln]
        have : L.length = 0 ∨ L.length = 1 ∨ L.length = 2 ∨ L.length = 3 ∨ L.length = 4 := by omega
        rcases this with e | e | e | e | e <;> rw [e] <;> rfl
      rw [hval]
      refine t_pu (c41 hR _) ?_
      (repeat (first | (with_reducible first | apply gA | apply gB | apply gC | apply gD | apply gE | apply gF | apply gG | apply gH | apply gI | apply gJ | apply gK | apply gL | apply gM | apply gN | apply gO | apply gP | apply gQ | apply gR) | ((with_reducible apply gT); first | exact rfl | exact True.intro | omega | assumption) | ((with_reducible apply gS2); first | assumption | rfl) | ((with_reducible first | apply gL0 | apply gL1 | apply gL2 | apply gL3 | apply gL4); assumption)))
      refine t_ret ⟨hle1, ?_⟩
      congr 1
      rw [can, Bool.eq_iff_iff, List.contains_iff_mem, List.contains_iff_mem, hS.2]
      constructor
      · rintro ⟨m, h1, h2⟩
        have : m = 2 ^ L.length - 1 := by omega
        subst this; exact h2
      · intro h2; exact ⟨_, rfl, h2⟩
end Go.Proofs.YtibibhojkfapnaaDoor
end
section
namespace Go.Proofs.YtibibhojkfapnaaDoor
open Go Go.TM Go.Proofs
attribute [local irreducible] T.wp CV FWK
theorem c92 {h : LH} {f : FileC} {u : UseFile} (hu : FileR h.get f u) (hck : checkF u = 0) (land item day : Int) :
    Gr Tryd.prog 92 #[fileV f u, .int .i64 land, .int .i64 item, .int .i64 day] h fun r _ => r = .int .i64 (left u land item day) := by
  refine w92 _ _ _ _ _ _ _ _ _ _ _ _ _ _ _ _ X0_ok ?_
  unfold n92
  refine t_gr (c103 hu hck land item day) ?_
  rintro _ h₁ le1 ⟨p, n, c, I, rfl, hI, hp⟩
  have hu1 := hu.le le1.1
  have hr1 := hu1.requests
  have hn := hI.1
  have hIL := hp.1
  have hdays : ∀ r ∈ against u land item day, 0 ≤ r.day ∧ r.day ≤ 2000 := fun r hr => (check_requests hck).2 r (against_sub r hr)
  have hl4 := against_len hck land item day
  (repeat (first | (with_reducible first | apply gA | apply gB | apply gC | apply gD | apply gE | apply gF | apply gG | apply gH | apply gI | apply gJ | apply gK | apply gL | apply gM | apply gN | apply gO | apply gP | apply gQ | apply gR) | ((with_reducible apply gT); first | exact rfl | exact True.intro | omega | assumption) | ((with_reducible apply gS2); first | assumption | rfl) | ((with_reducible first | apply gL0 | apply gL1 | apply gL2 | apply gL3 | apply gL4); assumption)))
  refine t_loop (fun mm vs h' => h₁ = h' ∧ ∃ (i : Nat) (b : Bool), vs = [.bool b, .int .i64 i] ∧ i ≤ n ∧ mm = n - i ∧ ((against u land item day).all fun r => decide (safe u land item r.day = 1)) = (b && ((against u land item day).drop i).all fun r => decide (safe u land item r.day = 1)))
    ⟨rfl, 0, true, rfl, Nat.zero_le _, rfl, by simp⟩ ?_
  rintro Y mm vs _ hY ⟨rfl, i, b, rfl, hi, rfl, hc⟩
  (repeat (first | (with_reducible first | apply gA | apply gB | apply gC | apply gD | apply gE | apply gF | apply gG | apply gH | apply gI | apply gJ | apply gK | apply gL | apply gM | apply gN | apply gO | apply gP | apply gQ | apply gR) | ((with_reducible apply gT); first | exact rfl | exact True.intro | omega | assumption) | ((with_reducible apply gS2); first | assumption | rfl) | ((with_reducible first | apply gL0 | apply gL1 | apply gL2 | apply gL3 | apply gL4); assumption)))
  refine t_if (fun e1 => ?_) (fun e1 => ?_)
  · have hwr : IntKind.wrap .i64 ((i : Int) + 1) = ((i + 1 : Nat) : Int) := by
      have := hI.2.1
      rw [wrap_id (by omega) (by omega)]; rfl
    obtain ⟨i2, a, hi2, ha, e3⟩ := hI.at (i := i) (by omega)
    unfold IntE at e3
    obtain ⟨k, q, rfl, hq, hLr⟩ := hp.at hi2
    have hkl : k < f.n6 := by rw [hr1.1]; exact (List.getElem?_eq_some_iff.1 hq).1
    obtain ⟨q', b2, hq', hb, e4, e5, q2, mq, cq, e6, e7⟩ := hr1.at (i := k) hkl
    rw [hq] at hq'; cases hq'
    rw [drop_of hLr, List.all_cons] at hc
    have hrd := hdays q (List.mem_of_getElem? hLr)
    have hki : (0 : Int) ≤ k ∧ (k : Int) < f.n6 := ⟨by omega, by omega⟩
    refine t_cond (fun eb => ?_) (fun eb => ?_)
    · subst eb
      (repeat (first | (with_reducible first | apply gA | apply gB | apply gC | apply gD | apply gE | apply gF | apply gG | apply gH | apply gI | apply gJ | apply gK | apply gL | apply gM | apply gN | apply gO | apply gP | apply gQ | apply gR) | ((with_reducible apply gT); first | exact rfl | exact True.intro | omega | assumption) | ((with_reducible apply gS2); first | assumption | rfl) | ((with_reducible first | apply gL0 | apply gL1 | apply gL2 | apply gL3 | apply gL4); assumption)))
      refine t_pu (c62 hu1 hck land item q.day hrd) ?_
      (repeat (first | (with_reducible first | apply gA | apply gB | apply gC | apply gD | apply gE | apply gF | apply gG | apply gH | apply gI | apply gJ | apply gK | apply gL | apply gM | apply gN | apply gO | apply gP | apply gQ | apply gR) | ((with_reducible apply gT); first | exact rfl | exact True.intro | omega | assumption) | ((with_reducible apply gS2); first | assumption | rfl) | ((with_reducible first | apply gL0 | apply gL1 | apply gL2 | apply gL3 | apply gL4); assumption)))
      rw [hwr]
      refine t_again (hY (n - (i + 1)) _ _ (by omega) ⟨rfl, i + 1, _, rfl, by omega, rfl, ?_⟩)
      rw [hc, Bool.true_and]
      congr 1
    · subst eb
      (repeat (first | (with_reducible first | apply gA | apply gB | apply gC | apply gD | apply gE | apply gF | apply gG | apply gH | apply gI | apply gJ | apply gK | apply gL | apply gM | apply gN | apply gO | apply gP | apply gQ | apply gR) | ((with_reducible apply gT); first | exact rfl | exact True.intro | omega | assumption) | ((with_reducible apply gS2); first | assumption | rfl) | ((with_reducible first | apply gL0 | apply gL1 | apply gL2 | apply gL3 | apply gL4); assumption)))
      rw [hwr]
      refine t_again (hY (n - (i + 1)) _ _ (by omega) ⟨rfl, i + 1, false, rfl, by omega, rfl, ?_⟩)
      rw [hc]; simp
  · (repeat (first | (with_reducible first | apply gA | apply gB | apply gC | apply gD | apply gE | apply gF | apply gG | apply gH | apply gI | apply gJ | apply gK | apply gL | apply gM | apply gN | apply gO | apply gP | apply gQ | apply gR) | ((with_reducible apply gT); first | exact rfl | exact True.intro | omega | assumption) | ((with_reducible apply gS2); first | assumption | rfl) | ((with_reducible first | apply gL0 | apply gL1 | apply gL2 | apply gL3 | apply gL4); assumption)))
    rw [List.drop_eq_nil_of_le (by omega), List.all_nil, Bool.and_true] at hc
    refine t_cond (fun eb => ?_) (fun eb => ?_)
    · subst eb
      (repeat (first | (with_reducible first | apply gA | apply gB | apply gC | apply gD | apply gE | apply gF | apply gG | apply gH | apply gI | apply gJ | apply gK | apply gL | apply gM | apply gN | apply gO | apply gP | apply gQ | apply gR) | ((with_reducible apply gT); first | exact rfl | exact True.intro | omega | assumption) | ((with_reducible apply gS2); first | assumption | rfl) | ((with_reducible first | apply gL0 | apply gL1 | apply gL2 | apply gL3 | apply gL4); assumption)))
      exact t_ret ⟨le1, by rw [left, if_pos hc]⟩
    · subst eb
      have hnot : ¬ ((against u land item day).all fun r => decide (safe u land item r.day = 1)) = true := by rw [hc]; simp
      refine t_gr (c104 hu1 hck hI hp hl4 hdays land item) ?_
      rintro _ h₂ le2 rfl
      (repeat (first | (with_reducible first | apply gA | apply gB | apply gC | apply gD | apply gE | apply gF | apply gG | apply gH | apply gI | apply gJ | apply gK | apply gL | apply gM | apply gN | apply gO | apply gP | apply gQ | apply gR) | ((with_reducible apply gT); first | exact rfl | exact True.intro | omega | assumption) | ((with_reducible apply gS2); first | assumption | rfl) | ((with_reducible first | apply gL0 | apply gL1 | apply gL2 | apply gL3 | apply gL4); assumption)))
      refine t_cond (fun e => ?_) (fun e => ?_)
      · exact t_ret ⟨LH.le_trans le1 le2, by rw [left, if_neg hnot, if_pos e]⟩
      · exact t_ret ⟨LH.le_trans le1 le2, by rw [left, if_neg hnot, e]; rfl⟩
theorem t_pushS {X : XP} {Q : Leaf → LH → Prop} {h h₀ : LH} {k : Value → T} {p : Option Addr} {n c : Nat} {l : List Int} {x : Int} (g : Growing IntEnc 34 1 h₀.get h.get p n c l) (hle : h₀.le h) (hn : n + 1 ≤ 2 ^ 30)
    (hk : ∀ p' c' h', h₀.le h' → Growing IntEnc 34 1 h₀.get h'.get p' (n + 1) c' (l ++ [x]) → (k (.slice p' (n + 1) c')).wp X Tryd.prog Q h') :
    (T.sem false (Instr.buildSlice 40 1 #[(0, .int .i64 x)]) fun v => T.unS v fun a m c2 => T.sem false (Builtin.append_ #[40, 40] 40 #[.slice p n c, .slice a m c2]) k).wp X Tryd.prog Q h := by
  refine t_build und40 inf34 (by decide) (by decide) (cells := #[.int .i64 x]) (by kernel_rfl) fun r hr => ?_
  have le2 : h.le _ := LH.upd_le (x := (true, .cells #[.int .i64 x] 34 (0, 0))) hr
  refine gG ?_
  refine t_grow (h₀ := h₀) (x := x) (ws := [.int .i64 x]) rfl rfl und40 und40 inf34 rfl (by omega) hn (g.le le2.1) (LH.le_trans hle le2) rfl rfl ?_ ?_ ?_
  · intro j w hj
    rw [add_plain, Nat.zero_add]
    exact cell_upd (by simpa using hj)
  · intro w hw; simp at hw; subst hw; rfl
  · intro p' c' h₂ hle2 _ g2
    exact hk p' c' h₂ hle2 g2
theorem c65 {h : LH} {f : FileC} {u : UseFile} (hu : FileR h.get f u) (hck : checkF u = 0) (land day : Int) :
    Gr Tryd.prog 65 #[fileV f u, .int .i64 land, .int .i64 day] h fun r h' => ∃ p n c, r = .slice p n c ∧ Sl IntE 1 h'.get p n (leftAll u land day) := by
  refine w65 _ _ _ _ _ _ _ _ _ _ _ _ _ _ _ X0_ok ?_
  unfold n65
  have hit := (num_ok (check_num hck)).1
  have hlen : (leftAll u land day).length = u.items.toNat := by unfold leftAll; rw [List.length_map, List.length_range]
  refine t_loop (fun mm vs h' => h.le h' ∧ ∃ (i : Nat) (p : Option Addr) (n c : Nat), vs = [.slice p n c, .int .i64 i] ∧ i ≤ u.items.toNat ∧ mm = u.items.toNat - i ∧ Growing IntEnc 34 1 h.get h'.get p n c ((leftAll u land day).take i))
    ⟨LH.le_refl _, 0, none, 0, 0, rfl, Nat.zero_le _, rfl, Growing.nil⟩ ?_
  rintro Y mm vs h₁ hY ⟨hle, i, p, n, c, rfl, hi, rfl, g⟩
  (repeat (first | (with_reducible first | apply gA | apply gB | apply gC | apply gD | apply gE | apply gF | apply gG | apply gH | apply gI | apply gJ | apply gK | apply gL | apply gM | apply gN | apply gO | apply gP | apply gQ | apply gR) | ((with_reducible apply gT); first | exact rfl | exact True.intro | omega | assumption) | ((with_reducible apply gS2); first | assumption | rfl) | ((with_reducible first | apply gL0 | apply gL1 | apply gL2 | apply gL3 | apply gL4); assumption)))
  refine t_if (fun e1 => ?_) (fun e1 => ?_)
  · refine t_gr (c92 (hu.le hle.1) hck land i day) ?_
    rintro _ h₂ le2 rfl
    (repeat (first | (with_reducible first | apply gA | apply gB | apply gC | apply gD | apply gE | apply gF | apply gG | apply gH | apply gI | apply gJ | apply gK | apply gL | apply gM | apply gN | apply gO | apply gP | apply gQ | apply gR) | ((with_reducible apply gT); first | exact rfl | exact True.intro | omega | assumption) | ((with_reducible apply gS2); first | assumption | rfl) | ((with_reducible first | apply gL0 | apply gL1 | apply gL2 | apply gL3 | apply gL4); assumption)))
    have g2 := g.le le2.1
    have hng := g2.count IntEnc.len (by omega)
    have htl : ((leftAll u land day).take i).length ≤ i := by rw [List.length_take]; omega
    refine t_pushS g2 (LH.le_trans hle le2) (by omega) fun p' c' h₃ hle3 g3 => ?_
    (repeat (first | (with_reducible first | apply gA | apply gB | apply gC | apply gD | apply gE | apply gF | apply gG | apply gH | apply gI | apply gJ | apply gK | apply gL | apply gM | apply gN | apply gO | apply gP | apply gQ | apply gR) | ((with_reducible apply gT); first | exact rfl | exact True.intro | omega | assumption) | ((with_reducible apply gS2); first | assumption | rfl) | ((with_reducible first | apply gL0 | apply gL1 | apply gL2 | apply gL3 | apply gL4); assumption)))
    refine t_again (hY (u.items.toNat - (i + 1)) _ _ (by omega) ⟨hle3, i + 1, p', n + 1, c', ?_, by omega, rfl, by rw [leftAll_take i (by omega)]; exact g3⟩)
    rw [wrap_id (by omega) (by omega)]; rfl
  · (repeat (first | (with_reducible first | apply gA | apply gB | apply gC | apply gD | apply gE | apply gF | apply gG | apply gH | apply gI | apply gJ | apply gK | apply gL | apply gM | apply gN | apply gO | apply gP | apply gQ | apply gR) | ((with_reducible apply gT); first | exact rfl | exact True.intro | omega | assumption) | ((with_reducible apply gS2); first | assumption | rfl) | ((with_reducible first | apply gL0 | apply gL1 | apply gL2 | apply gL3 | apply gL4); assumption)))
    rw [List.take_of_length_le (by omega)] at g
    exact t_ret ⟨hle, p, n, c, rfl, g.sl IntEnc.len (by omega) IntEnc.e (by omega)⟩
end Go.Proofs.YtibibhojkfapnaaDoor
end
section
namespace Go.Proofs.YtibibhojkfapnaaDoor
open Go Go.TM Go.Proofs
attribute [local irreducible] T.wp CV FWK
def Fin (h : LH) : Value → LH → Prop := fun r h' => r = .bool true ∧ h'.chans = [] ∧ h'.pend = [] ∧ h'.todo = h.todo
theorem fin_shown {h h' : LH} (hch : h.chans = []) (hpe : h.pend = []) (hp : Parts h.get) (hle : h.le h') : FW XT Tryd.prog 16 #[] h' (Fin h) := by
  refine FW.mono (c16 (by rw [hle.2.1, hch]) (by rw [hle.2.2.1, hpe]) (hp.le hle.1)) ?_
  rintro v h'' ⟨h1, _, h2, h3, h4⟩
  exact ⟨h1, h2, h3, by rw [h4, hle.2.2.2]⟩
theorem t_shown {h h' : LH} {k : Bool → T} {Q : Leaf → LH → Prop} (hch : h.chans = []) (hpe : h.pend = []) (hp : Parts h.get) (hle : h.le h') (hk : ∀ h'', h''.chans = [] ∧ h''.pend = [] ∧ h''.todo = h.todo → (k true).wp XT Tryd.prog Q h'') :
    (T.call false 16 #[] fun v => T.unB v k).wp XT Tryd.prog Q h' := by
  refine t_call (fin_shown hch hpe hp hle) ?_
  rintro _ h'' ⟨rfl, h2⟩
  exact gC (hk h'' h2)
end Go.Proofs.YtibibhojkfapnaaDoor
end
section
namespace Go.TM
open Go
theorem eachF_of {α : Type} {most : Int} {f : Nat → α → Int} {l : List α} (h1 : (l.length : Int) ≤ most) (h2 : ∀ (j : Nat) x, l[j]? = some x → f j x = 0) : eachF most f l = 0 := by
  unfold eachF
  rw [if_neg (by omega)]
  have key : ∀ (l : List α) (i : Nat), (∀ (j : Nat) x, l[j]? = some x → f (i + j) x = 0) → firstF f i l = 0 := by
    intro l
    induction l with
    | nil => intro i _; rfl
    | cons y l ih =>
      intro i h
      rw [firstF, if_neg (by have := h 0 y rfl; simp at this; simp [this])]
      refine ih (i + 1) fun j x hx => ?_
      have := h (j + 1) x (by simpa using hx)
      rw [show i + 1 + j = i + (j + 1) by omega]; exact this
  exact key l 0 fun j x hx => by rw [Nat.zero_add]; exact h2 j x hx
theorem check_withP {u : UseFile} (h : checkF u = 0) {ps : List Paper} (h1 : ps.length ≤ 8) (h2 : ∀ p ∈ ps, paperF u p = 0) : checkF { u with papers := ps } = 0 := by
  obtain ⟨a, b, _, d⟩ := check_parts h
  have hp : papersF { u with papers := ps } = 0 := by
    unfold papersF
    exact eachF_of (by show ((ps.length : Nat) : Int) ≤ 8; omega) fun j x hx => h2 x (List.mem_of_getElem? hx)
  have ha : numbersF { u with papers := ps } = 0 := a
  have hb : excusesF { u with papers := ps } = 0 := b
  have hd : requestsF { u with papers := ps } = 0 := d
  unfold checkF
  rw [ha, hb, hp, hd]
  rfl
theorem check_paper {u : UseFile} (h : checkF u = 0) : ∀ p ∈ u.papers, paperF u p = 0 := by
  obtain ⟨_, h2⟩ := eachF_zero (check_parts h).2.2.1
  intro p hp
  obtain ⟨j, hj⟩ := List.mem_iff_getElem?.1 hp
  exact h2 j p hj
end Go.TM
end
section
namespace Go.Proofs.YtibibhojkfapnaaDoor
open Go Go.TM Go.Proofs
attribute [local irreducible] T.wp CV FWK
theorem c46 {h : LH} {f : FileC} {u : UseFile} (hu : FileR h.get f u) {pp : Option Addr} {pn pc : Nat} {pl : List Int} (hpl : Sl IntE 1 h.get pp pn pl) (hin : ∀ v ∈ pl, 0 ≤ v ∧ v < (u.papers.length : Int)) (hpl8 : pl.length ≤ 8) :
    Gr Tryd.prog 46 #[fileV f u, .slice pp pn pc] h fun r h' => ∃ f', r = fileV f' (withP u pl) ∧ FileR h'.get f' (withP u pl) := by
  refine w46 _ _ _ _ _ _ _ _ _ _ _ _ _ _ _ _ X0_ok ?_
  unfold n46
  have hn := hpl.1
  have hn5 := hu.papers.1
  refine t_loop (fun mm vs h' => h.le h' ∧ ∃ (i : Nat) (p : Option Addr) (n c : Nat), vs = [.int .i64 i, .int .i64 u.items, .int .i64 u.lands, .int .i64 u.from_, .int .i64 u.idle, .slice f.p4 f.n4 f.c4, .slice p n c, .slice f.p6 f.n6 f.c6] ∧ i ≤ pn ∧ mm = pn - i ∧
      Growing (PaperEnc h.get) 69 4 h.get h'.get p n c ((pl.take i).filterMap fun n => u.papers[n.toNat]?)) ⟨LH.le_refl _, 0, none, 0, 0, rfl, Nat.zero_le _, rfl, Growing.nil⟩ ?_
  rintro Y mm vs h₁ hY ⟨hle, i, p, n, c, rfl, hi, rfl, g⟩
  (repeat (first | (with_reducible first | apply gA | apply gB | apply gC | apply gD | apply gE | apply gF | apply gG | apply gH | apply gI | apply gJ | apply gK | apply gL | apply gM | apply gN | apply gO | apply gP | apply gQ | apply gR) | ((with_reducible apply gT); first | exact rfl | exact True.intro | omega | assumption) | ((with_reducible apply gS2); first | assumption | rfl) | ((with_reducible first | apply gL0 | apply gL1 | apply gL2 | apply gL3 | apply gL4); assumption)))
  refine t_if (fun e1 => ?_) (fun e1 => ?_)
  · obtain ⟨v, a, hv, ha, e2⟩ := hpl.at (i := i) (by omega)
    unfold IntE at e2
    have hvr := hin v (List.mem_of_getElem? hv)
    have hvn : ((v.toNat : Nat) : Int) = v := by omega
    obtain ⟨x, b, hx, hb, e3, e4, e5, q, mq, cq, e6, e7⟩ := hu.papers.at (i := v.toNat) (by omega)
    have f2 := e2
    have e2 := Cells.cell?_le hle.1 e2
    have e3 := Cells.cell?_le hle.1 e3
    have e4 := Cells.cell?_le hle.1 e4
    have e5 := Cells.cell?_le hle.1 e5
    have e6 := Cells.cell?_le hle.1 e6
    have hnv : 0 ≤ v ∧ v < (f.n5 : Int) := by omega
    (repeat (first | (with_reducible first | apply gA | apply gB | apply gC | apply gD | apply gE | apply gF | apply gG | apply gH | apply gI | apply gJ | apply gK | apply gL | apply gM | apply gN | apply gO | apply gP | apply gQ | apply gR) | ((with_reducible apply gT); first | exact rfl | exact True.intro | omega | assumption) | ((with_reducible apply gS2); first | assumption | rfl) | ((with_reducible first | apply gL0 | apply gL1 | apply gL2 | apply gL3 | apply gL4); assumption)))
    refine t_build und23 inf69 (by decide) (by decide) (cells := #[.int .i64 x.days.first, .int .i64 x.days.last, .int .i64 x.land, .slice q mq cq]) (by kernel_rfl) fun r hr => ?_
    have le2 : h₁.le _ := LH.upd_le (x := (true, .cells #[.int .i64 x.days.first, .int .i64 x.days.last, .int .i64 x.land, .slice q mq cq] 69 (0, 0))) hr
    have hng := g.count PaperEnc.len (by omega)
    have hlen : ((pl.take i).filterMap fun n => u.papers[n.toNat]?).length ≤ 8 := Nat.le_trans (List.length_filterMap_le _ _) (by rw [List.length_take]; omega)
    have f3 := Cells.cell?_le le2.1 e2
    (repeat (first | (with_reducible first | apply gA | apply gB | apply gC | apply gD | apply gE | apply gF | apply gG | apply gH | apply gI | apply gJ | apply gK | apply gL | apply gM | apply gN | apply gO | apply gP | apply gQ | apply gR) | ((with_reducible apply gT); first | exact rfl | exact True.intro | omega | assumption) | ((with_reducible apply gS2); first | assumption | rfl) | ((with_reducible first | apply gL0 | apply gL1 | apply gL2 | apply gL3 | apply gL4); assumption)))
    refine t_grow (x := x) (ws := [.int .i64 x.days.first, .int .i64 x.days.last, .int .i64 x.land, .slice q mq cq]) rfl rfl und23 und23 inf69 rfl (by omega) (by omega) (g.le le2.1) (LH.le_trans hle le2) ⟨q, mq, cq, rfl, e7⟩ rfl ?_ ?_ ?_
    · intro j w hj
      rw [add_plain, Nat.zero_add]
      exact cell_upd (by simpa using hj)
    · intro w hw; simp at hw; rcases hw with rfl | rfl | rfl | rfl <;> rfl
    · intro p' c' h₂ hle2 _ g2
      have f4 := Cells.cell?_le hle2.1 f2
      (repeat (first | (with_reducible first | apply gA | apply gB | apply gC | apply gD | apply gE | apply gF | apply gG | apply gH | apply gI | apply gJ | apply gK | apply gL | apply gM | apply gN | apply gO | apply gP | apply gQ | apply gR) | ((with_reducible apply gT); first | exact rfl | exact True.intro | omega | assumption) | ((with_reducible apply gS2); first | assumption | rfl) | ((with_reducible first | apply gL0 | apply gL1 | apply gL2 | apply gL3 | apply gL4); assumption)))
      refine t_again (hY (pn - (i + 1)) _ _ (by omega) ⟨hle2, i + 1, p', n + 1, c', ?_, by omega, rfl, by rw [withP_take hv hx]; exact g2⟩)
      rw [wrap_id (by omega) (by omega)]; rfl
  · (repeat (first | (with_reducible first | apply gA | apply gB | apply gC | apply gD | apply gE | apply gF | apply gG | apply gH | apply gI | apply gJ | apply gK | apply gL | apply gM | apply gN | apply gO | apply gP | apply gQ | apply gR) | ((with_reducible apply gT); first | exact rfl | exact True.intro | omega | assumption) | ((with_reducible apply gS2); first | assumption | rfl) | ((with_reducible first | apply gL0 | apply gL1 | apply gL2 | apply gL3 | apply gL4); assumption)))
    have hpi : pl.take i = pl := List.take_of_length_le (by omega)
    rw [hpi] at g
    have hlen : (pl.filterMap fun n => u.papers[n.toNat]?).length ≤ 8 := Nat.le_trans (List.length_filterMap_le _ _) hpl8
    have hsl := g.sl PaperEnc.len (by omega) (PaperEnc.e (Rd.of_le hle.1)) (by omega)
    exact t_ret ⟨hle, { f with p5 := p, n5 := n, c5 := c }, rfl, hu.excuses.le SpanE.grow hle.1, hsl, hu.requests.le RequestE.grow hle.1⟩
theorem check_with {u : UseFile} (hck : checkF u = 0) {pl : List Int} (hpl8 : pl.length ≤ 8) : checkF (withP u pl) = 0 := by
  refine check_withP hck (Nat.le_trans (List.length_filterMap_le _ _) hpl8) fun p hp => ?_
  obtain ⟨v, _, hv⟩ := List.mem_filterMap.1 hp
  exact check_paper hck p (List.mem_of_getElem? hv)
theorem leftAll_length (u : UseFile) (k d : Int) : (leftAll u k d).length = u.items.toNat := by unfold leftAll; rw [List.length_map, List.length_range]
theorem c73 {h : LH} {f : FileC} {u : UseFile} (hu : FileR h.get f u) (hck : checkF u = 0) (land day : Int) {pp : Option Addr} {pn pc : Nat} {pl : List Int} (hpl : Sl IntE 1 h.get pp pn pl) (hin : ∀ v ∈ pl, 0 ≤ v ∧ v < (u.papers.length : Int)) (hpl8 : pl.length ≤ 8) :
    Gr Tryd.prog 73 #[fileV f u, .int .i64 land, .int .i64 day, .slice pp pn pc] h fun r _ => r = .bool (enoughB u land day pl (leftAll u land day)) := by
  refine w73 _ _ _ _ _ _ _ _ _ _ _ _ _ _ _ _ _ _ X0_ok ?_
  unfold n73
  have co := check_with hck hpl8
  refine t_gr (c65 hu hck land day) ?_
  rintro _ h₁ le1 ⟨p1, n1, c1, rfl, s1⟩
  (repeat (first | (with_reducible first | apply gA | apply gB | apply gC | apply gD | apply gE | apply gF | apply gG | apply gH | apply gI | apply gJ | apply gK | apply gL | apply gM | apply gN | apply gO | apply gP | apply gQ | apply gR) | ((with_reducible apply gT); first | exact rfl | exact True.intro | omega | assumption) | ((with_reducible apply gS2); first | assumption | rfl) | ((with_reducible first | apply gL0 | apply gL1 | apply gL2 | apply gL3 | apply gL4); assumption)))
  refine t_gr (c46 (hu.le le1.1) (hpl.le IntE.grow le1.1) hin hpl8) ?_
  rintro _ h₂ le2 ⟨f', rfl, ho⟩
  unfold fileV
  (repeat (first | (with_reducible first | apply gA | apply gB | apply gC | apply gD | apply gE | apply gF | apply gG | apply gH | apply gI | apply gJ | apply gK | apply gL | apply gM | apply gN | apply gO | apply gP | apply gQ | apply gR) | ((with_reducible apply gT); first | exact rfl | exact True.intro | omega | assumption) | ((with_reducible apply gS2); first | assumption | rfl) | ((with_reducible first | apply gL0 | apply gL1 | apply gL2 | apply gL3 | apply gL4); assumption)))
  refine t_gr (c65 ho co land day) ?_
  rintro _ h₃ le3 ⟨p3, n3, c3, rfl, s3⟩
  (repeat (first | (with_reducible first | apply gA | apply gB | apply gC | apply gD | apply gE | apply gF | apply gG | apply gH | apply gI | apply gJ | apply gK | apply gL | apply gM | apply gN | apply gO | apply gP | apply gQ | apply gR) | ((with_reducible apply gT); first | exact rfl | exact True.intro | omega | assumption) | ((with_reducible apply gS2); first | assumption | rfl) | ((with_reducible first | apply gL0 | apply gL1 | apply gL2 | apply gL3 | apply gL4); assumption)))
  have s1 := s1.le IntE.grow (LH.le_trans le2 le3).1
  have hl1 := leftAll_length u land day
  have hl3 : (leftAll (withP u pl) land day).length = u.items.toNat := leftAll_length (withP u pl) land day
  have hn1 := s1.1
  have hn3 := s3.1
  have hb1 := s1.2.1
  refine t_loop (fun mm vs h' => h₃ = h' ∧ ∃ j : Nat, vs = [.bool false, .int .i64 j] ∧ j ≤ n1 ∧ mm = n1 - j ∧ coversB (leftAll u land day) (leftAll (withP u pl) land day) = coversB ((leftAll u land day).drop j) ((leftAll (withP u pl) land day).drop j)) ⟨rfl, 0, rfl, Nat.zero_le _, rfl, rfl⟩ ?_
  rintro Y2 mm vs _ hY2 ⟨rfl, j, rfl, hj, rfl, hc⟩
  have le13 := LH.le_trans (LH.le_trans le1 le2) le3
  have hfin : ∀ b, coversB (leftAll u land day) (leftAll (withP u pl) land day) = b → Value.bool b = .bool (enoughB u land day pl (leftAll u land day)) := by
    intro b hb
    unfold enoughB
    rw [decide_eq_true co, hb]; rfl
  (repeat (first | (with_reducible first | apply gA | apply gB | apply gC | apply gD | apply gE | apply gF | apply gG | apply gH | apply gI | apply gJ | apply gK | apply gL | apply gM | apply gN | apply gO | apply gP | apply gQ | apply gR) | ((with_reducible apply gT); first | exact rfl | exact True.intro | omega | assumption) | ((with_reducible apply gS2); first | assumption | rfl) | ((with_reducible first | apply gL0 | apply gL1 | apply gL2 | apply gL3 | apply gL4); assumption)))
  refine t_if (fun e6 => ?_) (fun e6 => ?_)
  · obtain ⟨y, a1, hy, ha1, e7⟩ := s3.at (i := j) (by omega)
    obtain ⟨z, a2, hz, ha2, e8⟩ := s1.at (i := j) (by omega)
    unfold IntE at e7 e8
    rw [drop_of hy, drop_of hz, coversB] at hc
    have next : (!decide (z = 1) || decide (y = 1)) = true → Y2 [.bool false, .int .i64 (IntKind.wrap .i64 ((j : Int) + 1))] h₃ := by
      intro hh
      rw [hh, Bool.true_and] at hc
      refine hY2 (n1 - (j + 1)) _ _ (by omega) ⟨rfl, j + 1, ?_, by omega, rfl, hc⟩
      rw [wrap_id (by omega) (by omega)]; rfl
    (repeat (first | (with_reducible first | apply gA | apply gB | apply gC | apply gD | apply gE | apply gF | apply gG | apply gH | apply gI | apply gJ | apply gK | apply gL | apply gM | apply gN | apply gO | apply gP | apply gQ | apply gR) | ((with_reducible apply gT); first | exact rfl | exact True.intro | omega | assumption) | ((with_reducible apply gS2); first | assumption | rfl) | ((with_reducible first | apply gL0 | apply gL1 | apply gL2 | apply gL3 | apply gL4); assumption)))
    refine t_cond (fun b1 => ?_) (fun b1 => ?_)
    · have b1' : z = 1 := by simpa using b1
      (repeat (first | (with_reducible first | apply gA | apply gB | apply gC | apply gD | apply gE | apply gF | apply gG | apply gH | apply gI | apply gJ | apply gK | apply gL | apply gM | apply gN | apply gO | apply gP | apply gQ | apply gR) | ((with_reducible apply gT); first | exact rfl | exact True.intro | omega | assumption) | ((with_reducible apply gS2); first | assumption | rfl) | ((with_reducible first | apply gL0 | apply gL1 | apply gL2 | apply gL3 | apply gL4); assumption)))
      refine t_cond (fun b2 => ?_) (fun b2 => ?_)
      · have b2' : y ≠ 1 := by simpa using b2
        (repeat (first | (with_reducible first | apply gA | apply gB | apply gC | apply gD | apply gE | apply gF | apply gG | apply gH | apply gI | apply gJ | apply gK | apply gL | apply gM | apply gN | apply gO | apply gP | apply gQ | apply gR) | ((with_reducible apply gT); first | exact rfl | exact True.intro | omega | assumption) | ((with_reducible apply gS2); first | assumption | rfl) | ((with_reducible first | apply gL0 | apply gL1 | apply gL2 | apply gL3 | apply gL4); assumption)))
        refine t_ret ⟨le13, hfin false ?_⟩
        rw [hc]; simp [b1', b2']
      · have b2' : y = 1 := by simpa using b2
        exact t_again (next (by simp [b2']))
    · have b1' : z ≠ 1 := by simpa using b1
      exact t_again (next (by simp [b1']))
  · (repeat (first | (with_reducible first | apply gA | apply gB | apply gC | apply gD | apply gE | apply gF | apply gG | apply gH | apply gI | apply gJ | apply gK | apply gL | apply gM | apply gN | apply gO | apply gP | apply gQ | apply gR) | ((with_reducible apply gT); first | exact rfl | exact True.intro | omega | assumption) | ((with_reducible apply gS2); first | assumption | rfl) | ((with_reducible first | apply gL0 | apply gL1 | apply gL2 | apply gL3 | apply gL4); assumption)))
    refine t_ret ⟨le13, hfin true ?_⟩
    rw [hc, List.drop_eq_nil_of_le (show (leftAll u land day).length ≤ j by omega)]
    rfl
theorem openF_app {u : UseFile} {l : List Int} (c : Int) : (openF u l ≠ 0 → openF u (l ++ [c]) = openF u l) ∧ (openF u l = 0 → openF u (l ++ [c]) = c) := by
  by_cases e : checkF u = 0
  · have e' : ¬ checkF u ≠ 0 := by simp [e]
    have key : ∀ (l : List Int) (i : Nat), (firstF (fun _ x => x) i l ≠ 0 → firstF (fun _ x => x) i (l ++ [c]) = firstF (fun _ x => x) i l) ∧ (firstF (fun _ x => x) i l = 0 → firstF (fun _ x => x) i (l ++ [c]) = c) := by
      intro l
      induction l with
      | nil =>
        intro i
        refine ⟨fun h => absurd rfl h, fun _ => ?_⟩
        show firstF _ i [c] = c
        rw [firstF]
        by_cases h : c = 0
        · rw [if_neg (by simp [h]), h]; rfl
        · rw [if_pos h]
      | cons y l ih =>
        intro i
        rw [List.cons_append, firstF, firstF]
        by_cases h : y ≠ 0
        · rw [if_pos h, if_pos h]; exact ⟨fun _ => rfl, fun h2 => absurd h2 h⟩
        · rw [if_neg h, if_neg h]; exact ih (i + 1)
    rw [openF, if_neg e', openF, if_neg e']
    exact key l 0
  · rw [openF, if_pos e, openF, if_pos e]
    exact ⟨fun _ => rfl, fun h => absurd h e⟩
theorem c32 {h : LH} {f : FileC} {u : UseFile} (hu : FileR h.get f u) (land day : Int) {pp : Option Addr} {pn pc : Nat} {pl : List Int} (hpl : Sl IntE 1 h.get pp pn pl) :
    Gr Tryd.prog 32 #[fileV f u, .int .i64 land, .int .i64 day, .slice pp pn pc] h fun r _ => r = enoughR u land day pl := by
  refine w32 _ _ _ _ _ _ _ _ _ _ _ _ _ _ _ _ _ _ X0_ok ?_
  unfold n32
  have hq : enoughQ u land day pl = [landQ u land, dayQ day] ++ [risesF pl u.papers.length] := rfl
  have hap := openF_app (u := u) (l := [landQ u land, dayQ day]) (risesF pl u.papers.length)
  refine t_pu (c64 hu land day) ?_
  (repeat (first | (with_reducible first | apply gA | apply gB | apply gC | apply gD | apply gE | apply gF | apply gG | apply gH | apply gI | apply gJ | apply gK | apply gL | apply gM | apply gN | apply gO | apply gP | apply gQ | apply gR) | ((with_reducible apply gT); first | exact rfl | exact True.intro | omega | assumption) | ((with_reducible apply gS2); first | assumption | rfl) | ((with_reducible first | apply gL0 | apply gL1 | apply gL2 | apply gL3 | apply gL4); assumption)))
  refine t_cond (fun b => ?_) (fun b => ?_)
  · have b' : openF u [landQ u land, dayQ day] ≠ 0 := by simpa using b
    refine t_ret ⟨LH.le_refl _, ?_⟩
    rw [enoughR, hq, hap.1 b', if_pos b']
  have b' : openF u [landQ u land, dayQ day] = 0 := by simpa using b
  have hck := (open_num b').2
  have hn5 := hu.papers.1
  have hb5 := hu.papers.2.1
  have h72 := c72 (c := pc) (below := (f.n5 : Int)) hpl (by unfold IsI; omega)
  rw [show risesF pl (f.n5 : Int) = risesF pl (u.papers.length : Int) by rw [hn5]] at h72
  refine t_pu h72 ?_
  (repeat (first | (with_reducible first | apply gA | apply gB | apply gC | apply gD | apply gE | apply gF | apply gG | apply gH | apply gI | apply gJ | apply gK | apply gL | apply gM | apply gN | apply gO | apply gP | apply gQ | apply gR) | ((with_reducible apply gT); first | exact rfl | exact True.intro | omega | assumption) | ((with_reducible apply gS2); first | assumption | rfl) | ((with_reducible first | apply gL0 | apply gL1 | apply gL2 | apply gL3 | apply gL4); assumption)))
  refine t_cond (fun b2 => ?_) (fun b2 => ?_)
  · have b2' : risesF pl u.papers.length ≠ 0 := by simpa using b2
    refine t_ret ⟨LH.le_refl _, ?_⟩
    rw [enoughR, hq, hap.2 b', if_pos b2']
  have b2' : risesF pl u.papers.length = 0 := by simpa using b2
  have hpl8 := rises_len' b2' (by omega)
  have h8 := (check_papers hck).1
  refine t_gr (c73 hu hck land day hpl (rises_in b2') (by omega)) ?_
  rintro _ h₁ le1 rfl
  (repeat (first | (with_reducible first | apply gA | apply gB | apply gC | apply gD | apply gE | apply gF | apply gG | apply gH | apply gI | apply gJ | apply gK | apply gL | apply gM | apply gN | apply gO | apply gP | apply gQ | apply gR) | ((with_reducible apply gT); first | exact rfl | exact True.intro | omega | assumption) | ((with_reducible apply gS2); first | assumption | rfl) | ((with_reducible first | apply gL0 | apply gL1 | apply gL2 | apply gL3 | apply gL4); assumption)))
  refine t_ret ⟨le1, ?_⟩
  rw [enoughR, hq, hap.2 b', if_neg (by rw [b2']; simp)]
end Go.Proofs.YtibibhojkfapnaaDoor
end
section
namespace Go.TM
open Go Go.Conc
theorem Addr.add_add' (a : Addr) (x y : Nat) : (a.add x).add y = a.add (x + y) := by
  unfold Addr.add
  by_cases h1 : x = 0
  · subst h1; simp
  · by_cases h2 : y = 0
    · subst h2; simp [h1]
    · simp [h1, h2]; omega
def ToldE {α : Type} (E : Cells → Addr → α → Prop) (Enc : α → List Value → Prop) (k : Nat) (h : Cells) : Prop := ∀ a x, E h a x → ∃ ws, Enc x ws ∧ ws.length = k ∧ (∀ (j : Nat) w, ws[j]? = some w → h.cell? (a.add j) = some w) ∧ ∀ w ∈ ws, isOne w = true
theorem flat {α : Type} {E : Cells → Addr → α → Prop} {Enc : α → List Value → Prop} {k : Nat} {h : Cells} (he : ToldE E Enc k h) {b : Addr} {n : Nat} {l : List α} (s : Sl E k h (some b) n l) : ∀ i, i ≤ l.length → ∃ vs, Rows Enc vs (l.take i) ∧ vs.length = i * k ∧ (∀ (t : Nat) v, vs[t]? = some v → h.cell? (b.add t) = some v) ∧ ∀ v ∈ vs, isOne v = true := by
  intro i
  induction i with
  | zero => intro _; exact ⟨[], .nil, by simp, fun t v hv => by simp at hv, fun v hv => by simp at hv⟩
  | succ i ih =>
    intro hi
    obtain ⟨vs, h1, h2, h3, h4⟩ := ih (by omega)
    obtain ⟨x, a, hx, ha, hE⟩ := s.at (i := i) (by rw [s.1]; omega)
    cases ha
    obtain ⟨ws, w1, w2, w3, w4⟩ := he _ _ hE
    refine ⟨vs ++ ws, ?_, by rw [List.length_append, h2, w2, Nat.add_mul]; omega, fun t v hv => ?_, fun v hv => ?_⟩
    · rw [List.take_add_one, hx]; exact h1.snoc w1
    · by_cases ht : t < vs.length
      · rw [List.getElem?_append_left ht] at hv; exact h3 t v hv
      · rw [List.getElem?_append_right (by omega)] at hv
        have := w3 _ v hv
        rw [Addr.add_add'] at this
        rw [show t = i * k + (t - vs.length) by omega]; exact this
    · rcases List.mem_append.1 hv with hv | hv
      · exact h4 v hv
      · exact w4 v hv
theorem Rows.append {α : Type} {Enc : α → List Value → Prop} {vs : List Value} {l : List α} (r : Rows Enc vs l) {ws : List Value} {l' : List α} (r' : Rows Enc ws l') : Rows Enc (vs ++ ws) (l ++ l') := by
  induction r' with
  | nil => simpa using r
  | snoc r' he ih => rw [← List.append_assoc, ← List.append_assoc]; exact ih.snoc he
section
variable {P : Program} {X : XP} {Q : Leaf → LH → Prop}
theorem t_append0 {h : LH} {k : Value → T} {ts : Array TypeId} {ty sT xT el xe : TypeId} {s by_ : Nat} {z : Option Value} {p q : Option Addr} {n c mc : Nat} (h0 : ts[0]? = some sT) (h1 : ts[1]? = some xT) (hu : P.underlying sT = some (.slice el)) (hx : P.underlying xT = some (.slice xe))
    (hi : (P.info? el).map (fun i => (i.size, i.bytes, i.zero)) = some (s, by_, z)) (hnc : n ≤ c) (hk : (k (.slice p n c)).wp X P Q h) : (T.sem false (Builtin.append_ ts ty #[.slice p n c, .slice q 0 mc]) k).wp X P Q h := by
  obtain ⟨inf, g1, _, _, _⟩ := info_of hi
  refine t_sem (A := fun v h' => v = .slice p n c ∧ h' = h.get) ?_ (by rintro v h' ⟨rfl, rfl⟩; exact hk)
  unfold Builtin.append_
  rw [h0, h1]
  simp only [List.getElem?_toArray, List.getElem?_cons_zero, List.getElem?_cons_succ]
  simp only [lwp_bind, lwp_underlying hu, lwp_sizeOf g1, lwp_underlying hx, lwp_pure, Bool.false_eq_true, if_false, Bool.not_false, if_true, Builtin.lenOf, Nat.add_zero, if_pos hnc]
  cases q with
  | none =>
    simp only [Builtin.firstCells, lwp_pure]
    cases p with
    | none => exact ⟨rfl, rfl⟩
    | some a => exact ⟨rfl, rfl⟩
  | some b =>
    simp only [Builtin.firstCells, Nat.zero_mul]
    refine lwp_loads (l := []) rfl (fun t v hv => by simp at hv) ?_
    cases p with
    | none => exact ⟨rfl, rfl⟩
    | some a => exact ⟨rfl, rfl⟩
theorem OwnRow.le_cap {el : TypeId} {k : Nat} {h : Cells} {p : Option Addr} {n c : Nat} {vs : List Value} (o : OwnRow el k h p n c vs) : n ≤ c := by
  rcases o.2 with ⟨_, h1, h2⟩ | ⟨_, _, _, _, _, h, _⟩
  · omega
  · exact h
theorem t_copy {α : Type} {E : Cells → Addr → α → Prop} {Enc : α → List Value → Prop} {h h₀ : LH} {k : Value → T} {ts : Array TypeId} {ty sT xT el xe : TypeId} {s by_ : Nat} {z : Value} {p q : Option Addr} {n c m mc : Nat} {l l1 : List α} (h0 : ts[0]? = some sT) (h1 : ts[1]? = some xT) (hu : P.underlying sT = some (.slice el)) (hx : P.underlying xT = some (.slice xe))
    (hi : (P.info? el).map (fun i => (i.size, i.bytes, i.zero)) = some (s, by_, some z)) (hsz : z.cells.size = s) (hb : by_ ≤ 1024) (hn : n + m ≤ 2 ^ 30) (g : Growing Enc el s h₀.get h.get p n c l) (hle : h₀.le h) (src : Sl E s h.get q m l1) (he : ToldE E Enc s h.get)
    (hk : ∀ p' c' h', h₀.le h' → (∀ r y, (∀ a, p = some a → a.block ≠ r) → h.get r = some y → h'.get r = some y) → Growing Enc el s h₀.get h'.get p' (n + m) c' (l ++ l1) → (k (.slice p' (n + m) c')).wp X P Q h') : (T.sem false (Builtin.append_ ts ty #[.slice p n c, .slice q m mc]) k).wp X P Q h := by
  obtain ⟨vs, o, r⟩ := g.row
  by_cases hm : m = 0
  · subst hm
    have hl1 : l1 = [] := List.eq_nil_of_length_eq_zero src.1.symm
    subst hl1
    refine t_append0 h0 h1 hu hx hi o.le_cap ?_
    have := hk p c h hle (fun r y _ hy => hy) (by rw [List.append_nil]; exact g)
    exact this
  · obtain ⟨x, b, _, hb', _⟩ := src.at (i := 0) (by omega)
    subst hb'
    obtain ⟨ws, w1, w2, w3, w4⟩ := flat he src l1.length (Nat.le_refl _)
    rw [List.take_length] at w1
    have hm' := src.1
    refine t_append h0 h1 hu hx hi hsz hb hn o (by rw [w2, hm']) w3 w4 (by omega) fun p' c' h' a b c => ?_
    obtain ⟨l1', l2'⟩ := after_append hle.1 g.new b c
    exact hk p' c' _ ⟨l1', hle.2⟩ (fun r y hr hy => b r y hy hr) ⟨⟨vs ++ ws, a, r.append w1⟩, l2'⟩
end
end Go.TM
end
section
namespace Go.TM
open Go Go.Conc
section
variable {P : Program} {X : XP} {Q : Leaf → LH → Prop}
theorem t_sliceLow {h : LH} {K : Value → T} {t el : TypeId} {s b : Nat} {z : Option Value} {p : Option Addr} {n c i : Nat} (hu : P.underlying t = some (.slice el)) (hi : (P.info? el).map (fun i => (i.size, i.bytes, i.zero)) = some (s, b, z)) (hin : i ≤ n)
    (hk : (K (.slice (if c = i then p else p.map (·.add (i * s))) (n - i) (c - i))).wp X P Q h) : (T.sem false (Instr.sliceAt t (.slice p n c) (some (.int .i64 (i : Int))) none none) K).wp X P Q h := by
  obtain ⟨inf, g1, g2, _, _⟩ := info_of hi
  refine t_sem (A := fun v h' => v = .slice (if c = i then p else p.map (·.add (i * s))) (n - i) (c - i) ∧ h' = h.get) ?_ (by rintro v h' ⟨rfl, rfl⟩; exact hk)
  unfold Instr.sliceAt
  simp only [lwp_bind, lwp_underlying hu]
  unfold Instr.slice
  simp only [lwp_bind, lwp_underlying hu]
  unfold Instr.sliceBounds Instr.sliceBound
  simp only [lwp_bind, lwp_pure, asIntOf, asInt]
  rw [if_pos (show 0 ≤ (i : Int) ∧ (i : Int) ≤ (n : Int) by omega)]
  simp only [lwp_pure, lwp_sizeOf g1, Int.toNat_natCast, g2]
  exact ⟨trivial, trivial⟩
end
theorem Sl.drop {α : Type} {E : Cells → Addr → α → Prop} {k : Nat} {h : Cells} {p : Option Addr} {n : Nat} {l : List α} (s : Sl E k h p n l) {c i : Nat} (hc : n ≤ c) : Sl E k h (if c = i then p else p.map (·.add (i * k))) (n - i) (l.drop i) := by
  refine ⟨by rw [List.length_drop, s.1], by rw [List.length_drop]; have := s.2.1; omega, fun j x hx => ?_⟩
  rw [List.getElem?_drop] at hx
  have hlt := (List.getElem?_eq_some_iff.1 hx).1
  have hn := s.1
  obtain ⟨a, ha, hE⟩ := s.2.2 _ x hx
  rw [if_neg (by omega), ha]
  refine ⟨a.add (i * k), rfl, ?_⟩
  rw [Addr.add_add', ← Nat.add_mul]; exact hE
def vis (h₀ : Cells) (p : Option Addr) (h : Cells) : Cells := fun r => if (h₀ r).isNone && decide (p.map (·.block) ≠ some r) then h r else none
theorem vis_some {h₀ h : Cells} {p : Option Addr} {r : Nat} {y : Bool × Obj} : vis h₀ p h r = some y ↔ (h₀ r = none ∧ p.map (·.block) ≠ some r) ∧ h r = some y := by
  unfold vis
  by_cases e : ((h₀ r).isNone && decide (p.map (·.block) ≠ some r)) = true
  · rw [if_pos e]
    simp only [Bool.and_eq_true, decide_eq_true_eq, Option.isNone_iff_eq_none] at e
    simp [e.1, e.2]
  · rw [if_neg e]
    simp only [Bool.and_eq_true, decide_eq_true_eq, Option.isNone_iff_eq_none] at e
    constructor
    · intro h; cases h
    · intro h; exact absurd h.1 e
theorem vis_sub {h₀ h : Cells} {p : Option Addr} : (vis h₀ p h).le h := fun _ _ hy => (vis_some.1 hy).2
theorem vis_up {h₀ h1 h2 : Cells} {p p' : Option Addr} (hk : ∀ r y, (∀ a, p = some a → a.block ≠ r) → h1 r = some y → h2 r = some y) (hp : p' = p ∨ ∃ r, p' = some ⟨r, 0, none⟩ ∧ h1 r = none) : (vis h₀ p h1).le (vis h₀ p' h2) := by
  intro r y hy
  obtain ⟨⟨h3, h4⟩, h5⟩ := vis_some.1 hy
  refine vis_some.2 ⟨⟨h3, ?_⟩, hk r y (fun a ha e => h4 (by rw [ha]; simp [e])) h5⟩
  rcases hp with rfl | ⟨r', rfl, hr'⟩
  · exact h4
  · intro e; simp at e; rw [e, h5] at hr'; cases hr'
theorem vis_le {h₀ h1 h2 : Cells} {p : Option Addr} (hle : h1.le h2) : (vis h₀ p h1).le (vis h₀ p h2) := vis_up (fun r y _ hy => hle r y hy) (.inl rfl)
theorem vis_none {h₀ h : Cells} {p : Option Addr} : (vis h₀ p h).le (vis h₀ none h) := by
  intro r y hy
  obtain ⟨⟨h3, _⟩, h5⟩ := vis_some.1 hy
  exact vis_some.2 ⟨⟨h3, by simp⟩, h5⟩
theorem cell_of {g : Cells} {r i : Nat} {m : Bool} {cs : Array Value} {el : TypeId} {f : Nat × Nat} {v : Value} (hr : g r = some (m, .cells cs el f)) (hv : cs[i]? = some v) : g.cell? ⟨r, i, none⟩ = some v := by
  unfold Cells.cell?
  simp only [hr]
  exact hv
def SlE (h : Cells) (a : Addr) (l : List Int) : Prop := ∃ q m c, h.cell? (a.add 0) = some (.slice q m c) ∧ Sl IntE 1 h q m l
theorem SlE.grow : Grow SlE := by
  rintro h h' a x hr ⟨q, m, c, h1, h2⟩
  exact ⟨q, m, c, hr _ _ h1, h2.rd IntE.grow hr⟩
def LEnc (g : Cells) (x : List Int) (ws : List Value) : Prop := ∃ q m c, ws = [.slice q m c] ∧ Sl IntE 1 g q m x
theorem LEnc.len {g : Cells} : ∀ x ws, LEnc g x ws → ws.length = 1 := by rintro x _ ⟨q, m, c, rfl, _⟩; rfl
theorem LEnc.up {g g' : Cells} (hle : g.le g') {x : List Int} {ws : List Value} (h : LEnc g x ws) : LEnc g' x ws := by
  obtain ⟨q, m, c, h1, h2⟩ := h
  exact ⟨q, m, c, h1, h2.le IntE.grow hle⟩
theorem Rows.mono {α : Type} {Enc Enc' : α → List Value → Prop} (he : ∀ x ws, Enc x ws → Enc' x ws) {vs : List Value} {l : List α} (r : Rows Enc vs l) : Rows Enc' vs l := by
  induction r with
  | nil => exact .nil
  | snoc r h ih => exact ih.snoc (he _ _ h)
theorem Growing.mono {α : Type} {Enc Enc' : α → List Value → Prop} (he : ∀ x ws, Enc x ws → Enc' x ws) {el : TypeId} {k : Nat} {h₀ h : Cells} {p : Option Addr} {n c : Nat} {l : List α} (g : Growing Enc el k h₀ h p n c l) : Growing Enc' el k h₀ h p n c l := by
  obtain ⟨vs, h1, h2⟩ := g.row
  exact ⟨⟨vs, h1, h2.mono he⟩, g.new⟩
theorem Growing.base {α : Type} {Enc : α → List Value → Prop} {el : TypeId} {k : Nat} {h₀ h₁ h : Cells} {p : Option Addr} {n c : Nat} {l : List α} (g : Growing Enc el k h₀ h p n c l) (hb : ∀ r, h₀ r = none → h₁ r = none) : Growing Enc el k h₁ h p n c l := ⟨g.row, fun a ha => hb _ (g.new a ha)⟩
theorem IntE.told {h : Cells} : ToldE IntE IntEnc 1 h := by
  rintro a x h1
  refine ⟨_, rfl, rfl, fun j w hj => ?_, fun w hw => by simp at hw; subst hw; rfl⟩
  match j, hj with
  | 0, hj => cases hj; exact h1
  | j + 1, hj => simp at hj
theorem OwnRow.vis {el : TypeId} {k : Nat} {h₀ h h3 : Cells} {p q : Option Addr} {n c : Nat} {vs : List Value} (o : OwnRow el k h q n c vs) (hn : NewIn h3 q) (h03 : h₀.le h3) (hp : ∀ a, p = some a → ∃ y, h3 a.block = some y) : OwnRow el k (Go.TM.vis h₀ p h) q n c vs := by
  obtain ⟨h1, h2 | ⟨r, cs, e1, e2, e3, e4, e5⟩⟩ := o
  · exact ⟨h1, .inl h2⟩
  · subst e1
    have h3r := hn _ rfl
    refine ⟨h1, .inr ⟨r, cs, rfl, vis_some.2 ⟨⟨?_, ?_⟩, e2⟩, e3, e4, e5⟩⟩
    · cases hx : h₀ r with
      | none => rfl
      | some x => rw [h03 _ _ hx] at h3r; cases h3r
    · intro e
      cases hpp : p with
      | none => rw [hpp] at e; cases e
      | some a =>
        rw [hpp] at e
        simp at e
        obtain ⟨y, hy⟩ := hp a hpp
        rw [e] at hy
        rw [hy] at h3r; cases h3r
section
variable {P : Program} {X : XP} {Q : Leaf → LH → Prop}
theorem t_growP {α : Type} {Enc : α → List Value → Prop} {h h₀ : LH} {k : Value → T} {ts : Array TypeId} {ty sT xT el xe : TypeId} {s by_ : Nat} {z : Value} {p : Option Addr} {n c mc : Nat} {b : Addr} {l : List α} {x : α} {ws : List Value} (h0 : ts[0]? = some sT) (h1 : ts[1]? = some xT) (hu : P.underlying sT = some (.slice el)) (hx : P.underlying xT = some (.slice xe))
    (hi : (P.info? el).map (fun i => (i.size, i.bytes, i.zero)) = some (s, by_, some z)) (hsz : z.cells.size = s) (hb : by_ ≤ 1024) (hn : n + 1 ≤ 2 ^ 30) (g : Growing Enc el s h₀.get h.get p n c l) (hle : h₀.le h) (he : Enc x ws) (hl : ws.length = s) (hc : ∀ (j : Nat) v, ws[j]? = some v → h.get.cell? (b.add j) = some v) (one : ∀ v ∈ ws, isOne v = true)
    (hk : ∀ p' c' h', h₀.le h' → (∀ r y, (∀ a, p = some a → a.block ≠ r) → h.get r = some y → h'.get r = some y) → (p' = p ∨ ∃ r, p' = some ⟨r, 0, none⟩ ∧ h.get r = none) → Growing Enc el s h₀.get h'.get p' (n + 1) c' (l ++ [x]) → (k (.slice p' (n + 1) c')).wp X P Q h') : (T.sem false (Builtin.append_ ts ty #[.slice p n c, .slice (some b) 1 mc]) k).wp X P Q h := by
  obtain ⟨vs, o, r⟩ := g.row
  refine t_append h0 h1 hu hx hi hsz hb hn o (by rw [hl, Nat.one_mul]) hc one (by omega) fun p' c' h' a b c => ?_
  obtain ⟨l1, l2⟩ := after_append hle.1 g.new b c
  exact hk p' c' _ ⟨l1, hle.2⟩ (fun r y hr hy => b r y hy hr) c ⟨⟨vs ++ ws, a, .snoc r he⟩, l2⟩
end
end Go.TM
end
section
namespace Go.Proofs.YtibibhojkfapnaaDoor
open Go Go.TM Go.Proofs
attribute [local irreducible] T.wp CV FWK
def tailsS : List Int → List (List Int)
  | [] => []
  | x :: r => (([] : List Int) :: tailsS r).map (x :: ·) ++ tailsS r
def subl (l : List Int) : List (List Int) := [] :: tailsS l
theorem subl_len (l : List Int) : (subl l).length = 2 ^ l.length := by
  unfold subl
  induction l with
  | nil => rfl
  | cons x r ih =>
    simp only [tailsS, List.length_cons, List.length_append, List.length_map] at ih ⊢
    rw [Nat.pow_succ]; omega
theorem subl_small {l : List Int} (h : l.length ≤ 8) : (subl l).length ≤ 256 := by
  rw [subl_len]
  exact Nat.pow_le_pow_right (by omega) h (n := 2)
set_option maxRecDepth 100000 in
theorem c76 : ∀ (N : Nat) {h : LH} {lp : Option Addr} {ln lc : Nat} {l : List Int}, l.length ≤ N → l.length ≤ 8 → ln ≤ lc → Sl IntE 1 h.get lp ln l →
    Gr Tryd.prog 76 #[.slice lp ln lc] h fun r h' => ∃ p n c, r = .slice p n c ∧ Sl SlE 1 (vis h.get none h'.get) p n (subl l) := by
  intro N
  induction N with
  | zero =>
    intro h lp ln lc l hN h8 hcap hl
    have hl0 : l = [] := List.eq_nil_of_length_eq_zero (by omega)
    have hln := hl.1
    subst hl0
    refine w76 _ _ _ X0_ok ?_
    unfold n76
    refine t_build und106 inf50 (by decide) (by decide) (cells := #[.slice none 0 0]) (by kernel_rfl) fun r hr => ?_
    (repeat (first | (with_reducible first | apply gA | apply gB | apply gC | apply gD | apply gE | apply gF | apply gG | apply gH | apply gI | apply gJ | apply gK | apply gL | apply gM | apply gN | apply gO | apply gP | apply gQ | apply gR) | ((with_reducible apply gT); first | exact rfl | exact True.intro | omega | assumption) | ((with_reducible apply gS2); first | assumption | rfl) | ((with_reducible first | apply gL0 | apply gL1 | apply gL2 | apply gL3 | apply gL4); assumption)))
    refine t_loop (fun mm vs h' => ({ h with get := h.get.upd r (true, .cells #[.slice none 0 0] 50 (0, 0)) } : LH) = h' ∧ vs = [.slice (some ⟨r, 0, none⟩) 1 1, .int .i64 0] ∧ mm = 0) ⟨rfl, rfl, rfl⟩ ?_
    rintro Y mm vs _ hY ⟨rfl, rfl, rfl⟩
    (repeat (first | (with_reducible first | apply gA | apply gB | apply gC | apply gD | apply gE | apply gF | apply gG | apply gH | apply gI | apply gJ | apply gK | apply gL | apply gM | apply gN | apply gO | apply gP | apply gQ | apply gR) | ((with_reducible apply gT); first | exact rfl | exact True.intro | omega | assumption) | ((with_reducible apply gS2); first | assumption | rfl) | ((with_reducible first | apply gL0 | apply gL1 | apply gL2 | apply gL3 | apply gL4); assumption)))
    refine t_if (fun e => ?_) (fun _ => ?_)
    · simp at hln; omega
    (repeat (first | (with_reducible first | apply gA | apply gB | apply gC | apply gD | apply gE | apply gF | apply gG | apply gH | apply gI | apply gJ | apply gK | apply gL | apply gM | apply gN | apply gO | apply gP | apply gQ | apply gR) | ((with_reducible apply gT); first | exact rfl | exact True.intro | omega | assumption) | ((with_reducible apply gS2); first | assumption | rfl) | ((with_reducible first | apply gL0 | apply gL1 | apply gL2 | apply gL3 | apply gL4); assumption)))
    refine t_ret ⟨LH.upd_le hr, _, 1, 1, rfl, rfl, by simp [subl, tailsS], fun i x hx => ?_⟩
    cases i with
    | zero =>
      simp [subl, tailsS] at hx
      subst hx
      refine ⟨_, rfl, none, 0, 0, ?_, Sl.nil⟩
      exact cell_of (vis_some.2 ⟨⟨hr, by simp⟩, Cells.upd_self _ _ _⟩) rfl
    | succ i => simp [subl, tailsS] at hx
  | succ N ih =>
    intro h lp ln lc l hN h8 hcap hl
    have hln := hl.1
    have hbl := hl.2.1
    have hsz := subl_small h8
    refine w76 _ _ _ X0_ok ?_
    unfold n76
    refine t_build und106 inf50 (by decide) (by decide) (cells := #[.slice none 0 0]) (by kernel_rfl) fun r hr => ?_
    (repeat (first | (with_reducible first | apply gA | apply gB | apply gC | apply gD | apply gE | apply gF | apply gG | apply gH | apply gI | apply gJ | apply gK | apply gL | apply gM | apply gN | apply gO | apply gP | apply gQ | apply gR) | ((with_reducible apply gT); first | exact rfl | exact True.intro | omega | assumption) | ((with_reducible apply gS2); first | assumption | rfl) | ((with_reducible first | apply gL0 | apply gL1 | apply gL2 | apply gL3 | apply gL4); assumption)))
    -- the lists so far, and those yet to come
    refine t_loop (fun mm vs h' => h.le h' ∧ ∃ (i : Nat) (p : Option Addr) (n c : Nat) (out : List (List Int)), vs = [.slice p n c, .int .i64 i] ∧ i ≤ ln ∧ mm = ln - i ∧ subl l = out ++ tailsS (l.drop i) ∧ Growing (LEnc (vis h.get p h'.get)) 50 1 h.get h'.get p n c out)
      ⟨LH.upd_le hr, 0, _, 1, 1, [[]], rfl, Nat.zero_le _, rfl, rfl, ⟨[.slice none 0 0], ⟨rfl, .inr ⟨r, _, rfl, Cells.upd_self _ _ _, rfl, Nat.le_refl _, fun j v hv => by simpa using hv⟩⟩, Rows.snoc .nil ⟨none, 0, 0, rfl, Sl.nil⟩⟩, fun a ha => by cases ha; exact hr⟩ ?_
    rintro Y mm vs h₁ hY ⟨le1, i, p, n, c, out, rfl, hi, rfl, hsub, g⟩
    (repeat (first | (with_reducible first | apply gA | apply gB | apply gC | apply gD | apply gE | apply gF | apply gG | apply gH | apply gI | apply gJ | apply gK | apply gL | apply gM | apply gN | apply gO | apply gP | apply gQ | apply gR) | ((with_reducible apply gT); first | exact rfl | exact True.intro | omega | assumption) | ((with_reducible apply gS2); first | assumption | rfl) | ((with_reducible first | apply gL0 | apply gL1 | apply gL2 | apply gL3 | apply gL4); assumption)))
    refine t_if (fun e1 => ?_) (fun e1 => ?_)
    · obtain ⟨x, a, hx, ha, ex⟩ := hl.at (i := i) (by omega)
      unfold IntE at ex
      have hdrop := drop_of hx
      rw [hdrop, tailsS] at hsub
      rw [wrap_id (by omega) (by omega)]
      have hl1 := hl.le IntE.grow le1.1
      have cast1 : ((i : Int) + 1) = ((i + 1 : Nat) : Int) := by omega
      rw [cast1]
      refine t_sliceLow und50 inf3 (by omega) ?_
      (repeat (first | (with_reducible first | apply gA | apply gB | apply gC | apply gD | apply gE | apply gF | apply gG | apply gH | apply gI | apply gJ | apply gK | apply gL | apply gM | apply gN | apply gO | apply gP | apply gQ | apply gR) | ((with_reducible apply gT); first | exact rfl | exact True.intro | omega | assumption) | ((with_reducible apply gS2); first | assumption | rfl) | ((with_reducible first | apply gL0 | apply gL1 | apply gL2 | apply gL3 | apply gL4); assumption)))
      have hrest : (l.drop (i + 1)).length ≤ N := by rw [List.length_drop]; omega
      refine t_gr (ih hrest (by rw [List.length_drop]; omega) (by omega) (hl1.drop (c := lc) (i := i + 1) hcap)) ?_
      rintro _ h₂ le2 ⟨pr, nr, cr, rfl, hrs⟩
      (repeat (first | (with_reducible first | apply gA | apply gB | apply gC | apply gD | apply gE | apply gF | apply gG | apply gH | apply gI | apply gJ | apply gK | apply gL | apply gM | apply gN | apply gO | apply gP | apply gQ | apply gR) | ((with_reducible apply gT); first | exact rfl | exact True.intro | omega | assumption) | ((with_reducible apply gS2); first | assumption | rfl) | ((with_reducible first | apply gL0 | apply gL1 | apply gL2 | apply gL3 | apply gL4); assumption)))
      -- what must stand while the lists are appended
      let B : LH := { h with get := h.get.add (vis h₁.get none h₂.get) }
      have le02 := LH.le_trans le1 le2
      have hB2 : B.le h₂ := by
        refine ⟨fun b y hb => ?_, le02.2⟩
        rcases Cells.add_some hb with hb | ⟨_, hb⟩
        · exact le02.1 b y hb
        · exact vis_sub b y hb
      have hhB : ∀ r, B.get r = none → h.get r = none := by
        intro r hb
        cases hx : h.get r with
        | none => rfl
        | some y => rw [show B.get r = some y from Cells.add_left hx] at hb; cases hb
      have hvB : (vis h₁.get none h₂.get).le B.get := by
        intro r y hv
        have : h.get r = none := by
          cases hx : h.get r with
          | none => rfl
          | some z =>
            have := le1.1 r z hx
            rw [((vis_some.1 hv).1).1] at this; cases this
        exact (Cells.add_right this).trans hv
      have hpB : NewIn B.get p := by
        intro b hb
        have h1 := g.new b hb
        show h.get.add _ b.block = none
        rw [Cells.add_right h1]
        cases hv : vis h₁.get none h₂.get b.block with
        | none => rfl
        | some y =>
          exfalso
          obtain ⟨vs, ⟨_, hh⟩, _⟩ := g.row
          rcases hh with ⟨hh, _⟩ | ⟨r', cs, hh, h5, _⟩
          · rw [hh] at hb; cases hb
          · rw [hh] at hb; cases hb
            have := (vis_some.1 hv).1.1
            rw [h5] at this; cases this
      have g2 : Growing (LEnc (vis h.get p h₂.get)) 50 1 B.get h₂.get p n c out := ⟨(g.le le2.1 |>.mono fun x ws he => he.up (vis_le le2.1)).row, hpB⟩
      have hnr := hrs.1
      have hnrl : nr ≤ 256 := by rw [hnr]; exact subl_small (by rw [List.length_drop]; omega)
      have hbound : ∀ k, out.length + ((subl (l.drop (i + 1))).take k).length ≤ 256 := by
        intro k
        have h1 := congrArg List.length hsub
        rw [List.length_append, List.length_append, List.length_map] at h1
        have h2 : ((subl (l.drop (i + 1))).take k).length ≤ (subl (l.drop (i + 1))).length := by rw [List.length_take]; omega
        unfold subl at h2 ⊢
        unfold subl at h1 hsz
        omega
      refine t_loop (fun mm vs h' => B.le h' ∧ ∃ (k : Nat) (p : Option Addr) (n c : Nat), vs = [.slice p n c, .int .i64 k] ∧ k ≤ nr ∧ mm = nr - k ∧ Growing (LEnc (vis h.get p h'.get)) 50 1 B.get h'.get p n c (out ++ ((subl (l.drop (i + 1))).take k).map (x :: ·)))
        ⟨hB2, 0, p, n, c, rfl, Nat.zero_le _, rfl, by simpa using g2⟩ ?_
      clear g g2 hpB
      rintro Y2 mm2 vs h₃ hY2 ⟨leB3, k, p, n, c, rfl, hk, rfl, g3⟩
      have le03 : h.le h₃ := ⟨fun b y hb => leB3.1 b y (Cells.add_left hb), leB3.2⟩
      (repeat (first | (with_reducible first | apply gA | apply gB | apply gC | apply gD | apply gE | apply gF | apply gG | apply gH | apply gI | apply gJ | apply gK | apply gL | apply gM | apply gN | apply gO | apply gP | apply gQ | apply gR) | ((with_reducible apply gT); first | exact rfl | exact True.intro | omega | assumption) | ((with_reducible apply gS2); first | assumption | rfl) | ((with_reducible first | apply gL0 | apply gL1 | apply gL2 | apply gL3 | apply gL4); assumption)))
      refine t_if (fun e2 => ?_) (fun e2 => ?_)
      · obtain ⟨lk, b, hlk, hb, q, m, cq, e3, s3⟩ := hrs.at (i := k) (by omega)
        have up3 : (vis h₁.get none h₂.get).le h₃.get := Cells.le_trans hvB leB3.1
        have e3v : (vis h₁.get none h₂.get).cell? (b.add (k * 1)) = some (.slice q m cq) := e3
        have e3 : h₃.get.cell? (b.add (k * 1)) = some (.slice q m cq) := Cells.cell?_le up3 e3v
        have s3 := s3.le IntE.grow up3
        have ex3 := Cells.cell?_le le03.1 ex
        (repeat (first | (with_reducible first | apply gA | apply gB | apply gC | apply gD | apply gE | apply gF | apply gG | apply gH | apply gI | apply gJ | apply gK | apply gL | apply gM | apply gN | apply gO | apply gP | apply gQ | apply gR) | ((with_reducible apply gT); first | exact rfl | exact True.intro | omega | assumption) | ((with_reducible apply gS2); first | assumption | rfl) | ((with_reducible first | apply gL0 | apply gL1 | apply gL2 | apply gL3 | apply gL4); assumption)))
        refine t_build und50 inf3 (by decide) (by decide) (cells := #[.int .i64 x]) (by kernel_rfl) fun rb hrb => ?_
        have le34 : h₃.le { h₃ with get := h₃.get.upd rb (true, .cells #[.int .i64 x] 3 (0, 0)) } := LH.upd_le hrb
        have e4 := Cells.cell?_le le34.1 e3
        have ex4 := Cells.cell?_le le34.1 ex3
        have s4 := s3.le IntE.grow le34.1
        have gI : Growing IntEnc 3 1 h₃.get (h₃.get.upd rb (true, .cells #[.int .i64 x] 3 (0, 0))) (some ⟨rb, 0, none⟩) 1 1 [x] :=
          ⟨⟨[.int .i64 x], ⟨rfl, .inr ⟨rb, _, rfl, Cells.upd_self _ _ _, rfl, Nat.le_refl _, fun j v hv => by simpa using hv⟩⟩, Rows.snoc .nil rfl⟩, fun a ha => by cases ha; exact hrb⟩
        have hm8 : m ≤ 8 := by
          have h1 := s3.1
          have : lk.length ≤ (l.drop (i + 1)).length := by
            have key : ∀ (l : List Int), ∀ y ∈ subl l, y.length ≤ l.length := by
              intro l
              induction l with
              | nil => intro y hy; simp [subl, tailsS] at hy; subst hy; simp
              | cons z l ih =>
                intro y hy
                unfold subl at hy ih
                rw [tailsS] at hy
                simp only [List.mem_cons, List.mem_append, List.mem_map] at hy
                rcases hy with rfl | ⟨w, hw, rfl⟩ | hy
                · simp
                · have := ih w (by simpa using hw); simp; omega
                · have := ih y (by simp [hy]); simp; omega
            exact key _ _ (List.mem_of_getElem? hlk)
          rw [List.length_drop] at this
          omega
        (repeat (first | (with_reducible first | apply gA | apply gB | apply gC | apply gD | apply gE | apply gF | apply gG | apply gH | apply gI | apply gJ | apply gK | apply gL | apply gM | apply gN | apply gO | apply gP | apply gQ | apply gR) | ((with_reducible apply gT); first | exact rfl | exact True.intro | omega | assumption) | ((with_reducible apply gS2); first | assumption | rfl) | ((with_reducible first | apply gL0 | apply gL1 | apply gL2 | apply gL3 | apply gL4); assumption)))
        refine t_copy (h₀ := h₃) rfl rfl und50 und50 inf3 rfl (by omega) (by omega) gI le34 s4 IntE.told fun p5 c5 h₅ le35 _ g5 => ?_
        have e5 := Cells.cell?_le le35.1 e3
        have ex5 := Cells.cell?_le le35.1 ex3
        (repeat (first | (with_reducible first | apply gA | apply gB | apply gC | apply gD | apply gE | apply gF | apply gG | apply gH | apply gI | apply gJ | apply gK | apply gL | apply gM | apply gN | apply gO | apply gP | apply gQ | apply gR) | ((with_reducible apply gT); first | exact rfl | exact True.intro | omega | assumption) | ((with_reducible apply gS2); first | assumption | rfl) | ((with_reducible first | apply gL0 | apply gL1 | apply gL2 | apply gL3 | apply gL4); assumption)))
        refine t_build und106 inf50 (by decide) (by decide) (cells := #[.slice p5 (1 + m) c5]) (by kernel_rfl) fun rc hrc => ?_
        generalize hh6 : ({ h₅ with get := h₅.get.upd rc (true, .cells #[.slice p5 (1 + m) c5] 50 (0, 0)) } : LH) = h₆
        have le56 : h₅.le h₆ := by rw [← hh6]; exact LH.upd_le hrc
        have hc6 : h₆.get.cell? ⟨rc, 0, none⟩ = some (.slice p5 (1 + m) c5) := by rw [← hh6]; exact cell_upd rfl
        have le36 := LH.le_trans le35 le56
        have e6 := Cells.cell?_le le36.1 e3
        have ex6 := Cells.cell?_le le36.1 ex3
        have hpo : ∀ a, p = some a → ∃ y, h₃.get a.block = some y := by
          intro a ha
          obtain ⟨vs, ⟨_, hh⟩, _⟩ := g3.row
          rcases hh with ⟨hh, _⟩ | ⟨r', cs, hh, h5, _⟩
          · rw [hh] at ha; cases ha
          · rw [hh] at ha; cases ha; exact ⟨_, h5⟩
        have hx5 : Sl IntE 1 (vis h.get p h₆.get) p5 (1 + m) (x :: lk) := by
          obtain ⟨vs, o5, r5⟩ := g5.row
          have o6 := (o5.le le56.1).vis (h₀ := h.get) (p := p) g5.new le03.1 hpo
          have := r5.sl IntEnc.len (by omega) IntEnc.e o6 (by simp; have := s3.1; omega)
          exact this
        have hng := g3.count LEnc.len (by omega)
        have hbd := hbound k
        rw [List.length_append, List.length_map] at hng
        (repeat (first | (with_reducible first | apply gA | apply gB | apply gC | apply gD | apply gE | apply gF | apply gG | apply gH | apply gI | apply gJ | apply gK | apply gL | apply gM | apply gN | apply gO | apply gP | apply gQ | apply gR) | ((with_reducible apply gT); first | exact rfl | exact True.intro | omega | assumption) | ((with_reducible apply gS2); first | assumption | rfl) | ((with_reducible first | apply gL0 | apply gL1 | apply gL2 | apply gL3 | apply gL4); assumption)))
        refine t_growP (h₀ := B) (x := x :: lk) (ws := [.slice p5 (1 + m) c5]) (Enc := LEnc (vis h.get p h₆.get)) rfl rfl und106 und106 inf50 rfl (by omega) (by omega) ((g3.le le36.1).mono fun y ws he => he.up (vis_le le36.1)) (LH.le_trans leB3 le36) ⟨p5, 1 + m, c5, rfl, hx5⟩ rfl ?_ ?_ ?_
        · intro j w hj
          match j, hj with
          | 0, hj => cases hj; exact hc6
          | j + 1, hj => simp at hj
        · intro w hw; simp at hw; subst hw; rfl
        · intro p' c' h₇ le7 kp hpp g7
          have le07 : h.le h₇ := ⟨fun b y hb => le7.1 b y (Cells.add_left hb), le7.2⟩
          have e7 := Cells.cell?_le (Cells.le_trans hvB le7.1) e3v
          have ex7 := Cells.cell?_le le07.1 ex
          (repeat (first | (with_reducible first | apply gA | apply gB | apply gC | apply gD | apply gE | apply gF | apply gG | apply gH | apply gI | apply gJ | apply gK | apply gL | apply gM | apply gN | apply gO | apply gP | apply gQ | apply gR) | ((with_reducible apply gT); first | exact rfl | exact True.intro | omega | assumption) | ((with_reducible apply gS2); first | assumption | rfl) | ((with_reducible first | apply gL0 | apply gL1 | apply gL2 | apply gL3 | apply gL4); assumption)))
          refine t_again (hY2 (nr - (k + 1)) _ _ (by omega) ⟨le7, k + 1, p', n + 1, c', ?_, by omega, rfl, ?_⟩)
          · rw [wrap_id (by omega) (by omega)]; rfl
          · have ht : ((subl (l.drop (i + 1))).take (k + 1)).map (x :: ·) = ((subl (l.drop (i + 1))).take k).map (x :: ·) ++ [x :: lk] := by
              rw [List.take_add_one, hlk, List.map_append]; rfl
            rw [ht, ← List.append_assoc]
            exact g7.mono fun y ws he => he.up (vis_up kp hpp)
      · (repeat (first | (with_reducible first | apply gA | apply gB | apply gC | apply gD | apply gE | apply gF | apply gG | apply gH | apply gI | apply gJ | apply gK | apply gL | apply gM | apply gN | apply gO | apply gP | apply gQ | apply gR) | ((with_reducible apply gT); first | exact rfl | exact True.intro | omega | assumption) | ((with_reducible apply gS2); first | assumption | rfl) | ((with_reducible first | apply gL0 | apply gL1 | apply gL2 | apply gL3 | apply gL4); assumption)))
        refine t_again (hY (ln - (i + 1)) _ _ (by omega) ⟨le03, i + 1, p, n, c, _, ?_, by omega, rfl, ?_, g3.base hhB⟩)
        · rfl
        · rw [List.take_of_length_le (by omega), hsub, List.append_assoc]; rfl
    · (repeat (first | (with_reducible first | apply gA | apply gB | apply gC | apply gD | apply gE | apply gF | apply gG | apply gH | apply gI | apply gJ | apply gK | apply gL | apply gM | apply gN | apply gO | apply gP | apply gQ | apply gR) | ((with_reducible apply gT); first | exact rfl | exact True.intro | omega | assumption) | ((with_reducible apply gS2); first | assumption | rfl) | ((with_reducible first | apply gL0 | apply gL1 | apply gL2 | apply gL3 | apply gL4); assumption)))
      rw [List.drop_eq_nil_of_le (by omega), tailsS, List.append_nil] at hsub
      have hlo : out.length ≤ 256 := by rw [← hsub]; exact hsz
      refine t_ret ⟨le1, p, n, c, rfl, ?_⟩
      rw [hsub]
      obtain ⟨vs, o, rws⟩ := g.row
      have o' : OwnRow 50 1 (vis h.get none h₁.get) p n c vs := o.vis (h3 := h.get) g.new (Cells.le_refl _) (fun a ha => by cases ha)
      refine rws.sl LEnc.len (by omega) ?_ o' (by omega)
      rintro a y _ ⟨q, m, cc, rfl, hs⟩ hc
      exact ⟨q, m, cc, hc 0 _ rfl, hs.le IntE.grow vis_none⟩
end Go.Proofs.YtibibhojkfapnaaDoor
end
section
namespace Go.Proofs.YtibibhojkfapnaaDoor
open Go Go.TM Go.Proofs
def allL (n : Nat) : List Int := (List.range n).map fun j : Nat => (j : Int)
theorem filterMap_range {α : Type} (l : List α) : ∀ i, i ≤ l.length → (List.range i).filterMap (fun j => l[j]?) = l.take i := by
  intro i
  induction i with
  | zero => intro _; rfl
  | succ i ih =>
    intro hi
    rw [List.range_succ, List.filterMap_append, ih (by omega), List.take_add_one]
    congr 1
theorem withP_all (u : UseFile) : withP u (allL u.papers.length) = u := by
  have h : (allL u.papers.length).filterMap (fun n => u.papers[n.toNat]?) = u.papers := by
    unfold allL
    rw [List.filterMap_map]
    have := filterMap_range u.papers u.papers.length (Nat.le_refl _)
    rw [List.take_length] at this
    exact this
  unfold withP
  rw [h]
theorem coversB_self : ∀ l : List Int, coversB l l = true
  | [] => rfl
  | x :: l => by rw [coversB, coversB_self l]; by_cases h : x = 1 <;> simp [h]
theorem enough_all {u : UseFile} (hck : checkF u = 0) (k d : Int) : enoughB u k d (allL u.papers.length) (leftAll u k d) = true := by
  unfold enoughB
  rw [withP_all, coversB_self, decide_eq_true hck]; rfl
theorem mem_subl {l m : List Int} (h : m.Sublist l) : m ∈ subl l := by
  induction h with
  | slnil => simp [subl]
  | @cons l₁ l₂ a h ih =>
    unfold subl at ih ⊢
    rw [tailsS]
    rcases List.mem_cons.1 ih with rfl | ih
    · simp
    · exact List.mem_cons_of_mem _ (List.mem_append_right _ ih)
  | @cons_cons l₁ l₂ a h ih =>
    unfold subl at ih ⊢
    rw [tailsS]
    exact List.mem_cons_of_mem _ (List.mem_append_left _ (List.mem_map.2 ⟨l₁, ih, rfl⟩))
theorem subl_sub : ∀ {l m : List Int}, m ∈ subl l → m.Sublist l := by
  intro l
  induction l with
  | nil => intro m h; simp [subl, tailsS] at h; subst h; exact List.Sublist.slnil
  | cons x l ih =>
    intro m h
    unfold subl at h ih
    rw [tailsS] at h
    simp only [List.mem_cons, List.mem_append, List.mem_map] at h
    rcases h with rfl | ⟨w, hw, rfl⟩ | h
    · exact List.nil_sublist _
    · exact (ih (by simpa using hw)).cons_cons x
    · exact (ih (by simp [h])).cons x
theorem subset_sub (n j : Nat) : (subsetL n j).Sublist (allL n) := (List.filter_sublist (p := fun b => j.testBit b) (l := List.range n)).map _
theorem bits_of (p : Nat → Bool) : ∀ n, ∃ j, j < 2 ^ n ∧ ∀ b, b < n → j.testBit b = p b := by
  intro n
  induction n with
  | zero => exact ⟨0, by omega, fun b hb => by omega⟩
  | succ n ih =>
    obtain ⟨j, hj, hb⟩ := ih
    by_cases e : p n = true
    · refine ⟨2 ^ n + j, by rw [Nat.pow_succ]; omega, fun b hlt => ?_⟩
      by_cases eb : b = n
      · subst eb
        rw [Nat.testBit_two_pow_add_eq, Nat.testBit_lt_two_pow hj, e]; rfl
      · rw [Nat.testBit_two_pow_add_gt (by omega)]; exact hb b (by omega)
    · refine ⟨j, by rw [Nat.pow_succ]; omega, fun b hlt => ?_⟩
      by_cases eb : b = n
      · subst eb
        rw [Nat.testBit_lt_two_pow hj]; simpa using e
      · exact hb b (by omega)
theorem filter_sub {l m : List Int} (h : m.Sublist l) : l.Nodup → l.filter (fun x => decide (x ∈ m)) = m := by
  induction h with
  | slnil => intro _; rfl
  | @cons l₁ l₂ a h ih =>
    intro hn
    have hn' := List.nodup_cons.1 hn
    have : a ∉ l₁ := fun hm => hn'.1 (h.subset hm)
    rw [List.filter_cons, if_neg (by simp [this])]
    exact ih hn'.2
  | @cons_cons l₁ l₂ a h ih =>
    intro hn
    have hn' := List.nodup_cons.1 hn
    rw [List.filter_cons, if_pos (by simp)]
    congr 1
    rw [← ih hn'.2]
    refine List.filter_congr fun x hx => ?_
    have hne : x ≠ a := by rintro rfl; exact hn'.1 hx
    rw [ih hn'.2]
    simp [hne]
theorem allL_nodup (n : Nat) : (allL n).Nodup := by
  unfold allL
  exact List.Pairwise.map _ (fun a b h e => h (by omega)) (List.nodup_range (n := n))
theorem sub_subset {n : Nat} {m : List Int} (h : m.Sublist (allL n)) : ∃ j, j < 2 ^ n ∧ subsetL n j = m := by
  obtain ⟨j, hj, hb⟩ := bits_of (fun b => decide ((b : Int) ∈ m)) n
  refine ⟨j, hj, ?_⟩
  have h1 : (List.range n).filter (fun b => j.testBit b) = (List.range n).filter (fun b : Nat => decide ((b : Int) ∈ m)) :=
    List.filter_congr fun x hx => hb x (List.mem_range.1 hx)
  unfold subsetL
  rw [h1]
  have h2 := filter_sub h (allL_nodup n)
  unfold allL at h2
  rw [List.filter_map] at h2
  exact h2
theorem cmpL_self : ∀ l : List Int, cmpL l l = 0
  | [] => rfl
  | x :: l => by rw [cmpL, if_neg (by simp [cmpI]), cmpL_self l]
theorem cmpL_eq : ∀ {a b : List Int}, cmpL a b = 0 → a = b
  | [], [], _ => rfl
  | [], _ :: _, h => by simp [cmpL] at h
  | _ :: _, [], h => by simp [cmpL] at h
  | x :: a, y :: b, h => by
    rw [cmpL] at h
    split at h
    · rename_i h1; exact absurd h h1
    · rename_i h1
      have e : x = y := cmpI_zero.1 (by simpa using h1)
      rw [e, cmpL_eq h]
theorem fewer_eq {a b : List Int} (h1 : fewerF a b ≤ 0) (h2 : fewerF b a ≤ 0) : a = b := by
  rw [fewer_neg a b] at h2
  have h0 : fewerF a b = 0 := by omega
  unfold fewerF at h0
  split at h0
  · rename_i h; omega
  · exact cmpL_eq h0
theorem subl_sorted : ∀ {l : List Int}, l.Pairwise (· < ·) → (subl l).Pairwise fun a b => cmpL a b < 0 := by
  intro l
  induction l with
  | nil => intro _; simp [subl, tailsS]
  | cons x l ih =>
    intro h
    obtain ⟨hx, hl⟩ := List.pairwise_cons.1 h
    have ih := ih hl
    have hne : ∀ b ∈ tailsS l, ∃ y r, b = y :: r ∧ y ∈ l := by
      have key : ∀ (l : List Int), ∀ b ∈ tailsS l, ∃ y r, b = y :: r ∧ y ∈ l := by
        intro l
        induction l with
        | nil => intro b hb; simp [tailsS] at hb
        | cons z l ih =>
          intro b hb
          rw [tailsS] at hb
          simp only [List.mem_append, List.mem_map] at hb
          rcases hb with ⟨w, _, rfl⟩ | hb
          · exact ⟨z, w, rfl, by simp⟩
          · obtain ⟨y, r, h1, h2⟩ := ih b hb
            exact ⟨y, r, h1, by simp [h2]⟩
      exact key l
    unfold subl at ih ⊢
    rw [tailsS]
    refine List.pairwise_cons.2 ⟨fun b hb => ?_, List.pairwise_append.2 ⟨?_, (List.pairwise_cons.1 ih).2, fun a ha b hb => ?_⟩⟩
    · have : ∃ y r, b = y :: r := by
        rcases List.mem_append.1 hb with hb | hb
        · obtain ⟨w, _, rfl⟩ := List.mem_map.1 hb; exact ⟨x, w, rfl⟩
        · obtain ⟨y, r, h1, _⟩ := hne b hb; exact ⟨y, r, h1⟩
      obtain ⟨y, r, rfl⟩ := this
      simp [cmpL]
    · refine List.Pairwise.map _ (fun a b hab => ?_) ih
      rw [cmpL, if_neg (by simp [cmpI])]; exact hab
    · obtain ⟨w, _, rfl⟩ := List.mem_map.1 ha
      obtain ⟨y, r, rfl, hy⟩ := hne b hb
      have hlt := hx y hy
      have : cmpI x y = -1 := by unfold cmpI; rw [if_pos hlt]
      rw [cmpL, this, if_pos (by omega)]; omega
def scanS (ok : List Int → Bool) : List Int → List (List Int) → List Int
  | best, [] => best
  | best, l :: ls => scanS ok (if decide (l.length < best.length) && ok l then l else best) ls
theorem scan_spec (ok : List Int → Bool) : ∀ (ls : List (List Int)) (best : List Int), (∀ l ∈ ls, l.length = best.length → cmpL best l ≤ 0) → ls.Pairwise (fun a b => cmpL a b < 0) → ok best = true →
    ok (scanS ok best ls) = true ∧ (scanS ok best ls = best ∨ scanS ok best ls ∈ ls) ∧ fewerF (scanS ok best ls) best ≤ 0 ∧ ∀ l ∈ ls, ok l = true → fewerF (scanS ok best ls) l ≤ 0 := by
  intro ls
  induction ls with
  | nil => intro best _ _ hb; exact ⟨hb, .inl rfl, fewer_self _, fun l hl => by simp at hl⟩
  | cons l ls ih =>
    intro best h1 h2 hb
    obtain ⟨h3, h4⟩ := List.pairwise_cons.1 h2
    rw [scanS]
    by_cases e : (decide (l.length < best.length) && ok l) = true
    · rw [if_pos e]
      simp only [Bool.and_eq_true, decide_eq_true_eq] at e
      obtain ⟨a, b, c, d⟩ := ih l (fun l' hl' _ => Int.le_of_lt (h3 l' hl')) h4 e.2
      have hlb : fewerF l best ≤ 0 := by unfold fewerF; rw [if_pos (by omega)]; omega
      refine ⟨a, .inr ?_, fewer_trans c hlb, fun l' hl' ho => ?_⟩
      · rcases b with b | b
        · rw [b]; simp
        · simp [b]
      · rcases List.mem_cons.1 hl' with rfl | hl'
        · exact c
        · exact d l' hl' ho
    · rw [if_neg e]
      obtain ⟨a, b, c, d⟩ := ih best (fun l' hl' => h1 l' (by simp [hl'])) h4 hb
      refine ⟨a, ?_, c, fun l' hl' ho => ?_⟩
      · rcases b with b | b
        · exact .inl b
        · exact .inr (by simp [b])
      · rcases List.mem_cons.1 hl' with rfl | hl'
        · have hlen : best.length ≤ l'.length := by
            apply Nat.le_of_not_lt
            intro hlt
            exact e (by simp [hlt, ho])
          refine fewer_trans c ?_
          unfold fewerF
          by_cases he : best.length = l'.length
          · rw [if_neg (by omega)]; exact h1 l' (by simp) he.symm
          · rw [if_pos (by omega)]; omega
        · exact d l' hl' ho
def keepF (u : UseFile) (k d : Int) : List Int := scanS (fun l => enoughB u k d l (leftAll u k d)) (allL u.papers.length) (subl (allL u.papers.length))
theorem allL_sorted (n : Nat) : (allL n).Pairwise (· < ·) := by
  unfold allL
  exact List.Pairwise.map _ (fun a b h => by omega) (List.pairwise_lt_range (n := n))
theorem keep_spec {u : UseFile} (hck : checkF u = 0) (k d : Int) : enoughB u k d (keepF u k d) (leftAll u k d) = true ∧ (keepF u k d).Sublist (allL u.papers.length) ∧ ∀ l, l.Sublist (allL u.papers.length) → enoughB u k d l (leftAll u k d) = true → fewerF (keepF u k d) l ≤ 0 := by
  obtain ⟨a, b, _, e⟩ := scan_spec (fun l => enoughB u k d l (leftAll u k d)) (subl (allL u.papers.length)) (allL u.papers.length) (fun l hl hlen => by
    have := (subl_sub hl).eq_of_length hlen
    rw [this, cmpL_self]; omega) (subl_sorted (allL_sorted _)) (enough_all hck k d)
  refine ⟨a, ?_, fun l hl ho => e l (mem_subl hl) ho⟩
  rcases b with b | b
  · unfold keepF; rw [b]; exact List.Sublist.refl _
  · exact subl_sub b
theorem best_keep {h : Cells} {u : UseFile} (hck : checkF u = 0) {k d : Int} {p : Option Addr} {n : Nat} (b : BestR h u k d [] p n) : Sl IntE 1 h p n (keepF u k d) := by
  obtain ⟨s1, s2, s3⟩ := keep_spec hck k d
  obtain ⟨j, hj, hje⟩ := sub_subset s2
  rcases b with ⟨_, _, h3⟩ | ⟨i, a, rfl, h2, h3, h4, h5⟩
  · have := h3 j hj (by simp)
    unfold okF at this
    rw [hje, s1] at this; cases this
  · have e1 := h5 j hj (by simp) (by unfold okF; rw [hje]; exact s1)
    rw [hje] at e1
    have e2 := s3 _ (subset_sub _ i) h3
    rw [fewer_eq e1 e2] at h4
    exact h4
end Go.Proofs.YtibibhojkfapnaaDoor
end
section
namespace Go.Proofs.YtibibhojkfapnaaDoor
open Go Go.TM Go.Proofs
attribute [local irreducible] T.wp CV FWK
theorem allL_take {n i : Nat} (hi : i < n) : (allL n).take (i + 1) = (allL n).take i ++ [(i : Int)] := by
  rw [List.take_add_one]
  congr 1
  unfold allL
  rw [List.getElem?_map, List.getElem?_range hi]; rfl
theorem allL_len (n : Nat) : (allL n).length = n := by simp [allL]
theorem subl_in {n : Nat} {y : List Int} (h : y ∈ subl (allL n)) : (∀ v ∈ y, 0 ≤ v ∧ v < (n : Int)) ∧ y.length ≤ n := by
  have hs := subl_sub h
  refine ⟨fun v hv => ?_, by have := hs.length_le; rw [allL_len] at this; exact this⟩
  have := hs.subset hv
  unfold allL at this
  obtain ⟨j, hj, rfl⟩ := List.mem_map.1 this
  rw [List.mem_range] at hj
  omega
def KeepRefR (h' : Cells) (u : UseFile) (land day : Int) (r : Value) : Prop := ∃ p n c, r = .tuple #[.slice p n c, .int .i64 (openF u [landQ u land, dayQ day])] ∧ Sl IntE 1 h' p n (if openF u [landQ u land, dayQ day] = 0 then keepF u land day else [])
theorem c34 {h : LH} {f : FileC} {u : UseFile} (hu : FileR h.get f u) (land day : Int) : Gr Tryd.prog 34 #[fileV f u, .int .i64 land, .int .i64 day] h fun r h' => KeepRefR h'.get u land day r := by
  refine w34 _ _ _ _ _ _ _ _ _ _ _ _ _ _ _ X0_ok ?_
  unfold n34
  refine t_pu (c64 hu land day) ?_
  (repeat (first | (with_reducible first | apply gA | apply gB | apply gC | apply gD | apply gE | apply gF | apply gG | apply gH | apply gI | apply gJ | apply gK | apply gL | apply gM | apply gN | apply gO | apply gP | apply gQ | apply gR) | ((with_reducible apply gT); first | exact rfl | exact True.intro | omega | assumption) | ((with_reducible apply gS2); first | assumption | rfl) | ((with_reducible first | apply gL0 | apply gL1 | apply gL2 | apply gL3 | apply gL4); assumption)))
  refine t_cond (fun b => ?_) (fun b => ?_)
  · have b' : openF u [landQ u land, dayQ day] ≠ 0 := by simpa using b
    exact t_ret ⟨LH.le_refl _, none, 0, 0, rfl, by rw [if_neg b']; exact Sl.nil⟩
  have b' : openF u [landQ u land, dayQ day] = 0 := by simpa using b
  have hck := (open_num b').2
  have h8 := (check_papers hck).1
  have hn5 := hu.papers.1
  refine t_loop (fun mm vs h' => h.le h' ∧ ∃ (i : Nat) (p : Option Addr) (n c : Nat), vs = [.slice p n c, .int .i64 i] ∧ i ≤ f.n5 ∧ mm = f.n5 - i ∧ Growing IntEnc 3 1 h.get h'.get p n c ((allL f.n5).take i))
    ⟨LH.le_refl _, 0, none, 0, 0, rfl, Nat.zero_le _, rfl, Growing.nil⟩ ?_
  rintro Y mm vs h₁ hY ⟨hle, i, p, n, c, rfl, hi, rfl, g⟩
  (repeat (first | (with_reducible first | apply gA | apply gB | apply gC | apply gD | apply gE | apply gF | apply gG | apply gH | apply gI | apply gJ | apply gK | apply gL | apply gM | apply gN | apply gO | apply gP | apply gQ | apply gR) | ((with_reducible apply gT); first | exact rfl | exact True.intro | omega | assumption) | ((with_reducible apply gS2); first | assumption | rfl) | ((with_reducible first | apply gL0 | apply gL1 | apply gL2 | apply gL3 | apply gL4); assumption)))
  refine t_if (fun e1 => ?_) (fun e1 => ?_)
  · have hng := g.count IntEnc.len (by omega)
    have hlt : ((allL f.n5).take i).length ≤ i := by rw [List.length_take]; omega
    refine t_pushI g hle (by omega) fun p' c' h₂ hle2 g2 => ?_
    (repeat (first | (with_reducible first | apply gA | apply gB | apply gC | apply gD | apply gE | apply gF | apply gG | apply gH | apply gI | apply gJ | apply gK | apply gL | apply gM | apply gN | apply gO | apply gP | apply gQ | apply gR) | ((with_reducible apply gT); first | exact rfl | exact True.intro | omega | assumption) | ((with_reducible apply gS2); first | assumption | rfl) | ((with_reducible first | apply gL0 | apply gL1 | apply gL2 | apply gL3 | apply gL4); assumption)))
    refine t_again (hY (f.n5 - (i + 1)) _ _ (by omega) ⟨hle2, i + 1, p', n + 1, c', ?_, by omega, rfl, by rw [allL_take (by omega)]; exact g2⟩)
    rw [wrap_id (by omega) (by omega)]; rfl
  · (repeat (first | (with_reducible first | apply gA | apply gB | apply gC | apply gD | apply gE | apply gF | apply gG | apply gH | apply gI | apply gJ | apply gK | apply gL | apply gM | apply gN | apply gO | apply gP | apply gQ | apply gR) | ((with_reducible apply gT); first | exact rfl | exact True.intro | omega | assumption) | ((with_reducible apply gS2); first | assumption | rfl) | ((with_reducible first | apply gL0 | apply gL1 | apply gL2 | apply gL3 | apply gL4); assumption)))
    have hii : i = u.papers.length := by omega
    rw [List.take_of_length_le (by rw [allL_len]; omega), hn5] at g
    have hcap : n ≤ c := by obtain ⟨vs, o, _⟩ := g.row; exact o.le_cap
    have sa := g.sl IntEnc.len (by omega) IntEnc.e (by rw [allL_len]; omega)
    refine t_gr (c76 _ (Nat.le_refl _) (by rw [allL_len]; omega) hcap sa) ?_
    rintro _ h₂ le2 ⟨ps, ns, cs, rfl, hs⟩
    (repeat (first | (with_reducible first | apply gA | apply gB | apply gC | apply gD | apply gE | apply gF | apply gG | apply gH | apply gI | apply gJ | apply gK | apply gL | apply gM | apply gN | apply gO | apply gP | apply gQ | apply gR) | ((with_reducible apply gT); first | exact rfl | exact True.intro | omega | assumption) | ((with_reducible apply gS2); first | assumption | rfl) | ((with_reducible first | apply gL0 | apply gL1 | apply gL2 | apply gL3 | apply gL4); assumption)))
    have hs2 : Sl SlE 1 h₂.get ps ns (subl (allL u.papers.length)) := hs.rd SlE.grow (Rd.of_le vis_sub)
    have hns := hs2.1
    have hsz := subl_small (l := allL u.papers.length) (by rw [allL_len]; exact h8)
    refine t_loop (fun mm vs h' => h₂.le h' ∧ ∃ (j : Nat) (p : Option Addr) (n c : Nat) (best : List Int), vs = [.slice p n c, .int .i64 j] ∧ j ≤ ns ∧ mm = ns - j ∧ Sl IntE 1 h'.get p n best ∧ keepF u land day = scanS (fun l => enoughB u land day l (leftAll u land day)) best ((subl (allL u.papers.length)).drop j))
      ⟨LH.le_refl _, 0, p, n, c, allL u.papers.length, rfl, Nat.zero_le _, rfl, sa.le IntE.grow le2.1, rfl⟩ ?_
    rintro Y2 mm2 vs h₃ hY2 ⟨le3, j, p, n, c, best, rfl, hj, rfl, hb, hk⟩
    (repeat (first | (with_reducible first | apply gA | apply gB | apply gC | apply gD | apply gE | apply gF | apply gG | apply gH | apply gI | apply gJ | apply gK | apply gL | apply gM | apply gN | apply gO | apply gP | apply gQ | apply gR) | ((with_reducible apply gT); first | exact rfl | exact True.intro | omega | assumption) | ((with_reducible apply gS2); first | assumption | rfl) | ((with_reducible first | apply gL0 | apply gL1 | apply gL2 | apply gL3 | apply gL4); assumption)))
    refine t_if (fun e2 => ?_) (fun e2 => ?_)
    · obtain ⟨lk, a, hlk, ha, q, m, cq, e3, s3⟩ := (hs2.le SlE.grow le3.1).at (i := j) (by omega)
      have hin := subl_in (List.mem_of_getElem? hlk)
      rw [drop_of hlk, scanS] at hk
      have hbn := hb.1
      have hmn := s3.1
      have le03 := LH.le_trans (LH.le_trans hle le2) le3
      have next : ∀ h' p n c best', h₂.le h' → Sl IntE 1 h'.get p n best' → (if decide (lk.length < best.length) && enoughB u land day lk (leftAll u land day) then lk else best) = best' → Y2 [.slice p n c, .int .i64 (IntKind.wrap .i64 ((j : Int) + 1))] h' := by
        rintro h' p n c _ le' hb' rfl
        refine hY2 (ns - (j + 1)) _ _ (by omega) ⟨le', j + 1, p, n, c, _, ?_, by omega, rfl, hb', hk⟩
        rw [wrap_id (by omega) (by omega)]; rfl
      (repeat (first | (with_reducible first | apply gA | apply gB | apply gC | apply gD | apply gE | apply gF | apply gG | apply gH | apply gI | apply gJ | apply gK | apply gL | apply gM | apply gN | apply gO | apply gP | apply gQ | apply gR) | ((with_reducible apply gT); first | exact rfl | exact True.intro | omega | assumption) | ((with_reducible apply gS2); first | assumption | rfl) | ((with_reducible first | apply gL0 | apply gL1 | apply gL2 | apply gL3 | apply gL4); assumption)))
      refine t_if (fun e4 => ?_) (fun e4 => ?_)
      · (repeat (first | (with_reducible first | apply gA | apply gB | apply gC | apply gD | apply gE | apply gF | apply gG | apply gH | apply gI | apply gJ | apply gK | apply gL | apply gM | apply gN | apply gO | apply gP | apply gQ | apply gR) | ((with_reducible apply gT); first | exact rfl | exact True.intro | omega | assumption) | ((with_reducible apply gS2); first | assumption | rfl) | ((with_reducible first | apply gL0 | apply gL1 | apply gL2 | apply gL3 | apply gL4); assumption)))
        refine t_gr (c73 (hu.le le03.1) hck land day s3 hin.1 (by omega)) ?_
        rintro _ h₄ le4 rfl
        have e5 := Cells.cell?_le le4.1 e3
        have hlt : decide (lk.length < best.length) = true := by simp; omega
        (repeat (first | (with_reducible first | apply gA | apply gB | apply gC | apply gD | apply gE | apply gF | apply gG | apply gH | apply gI | apply gJ | apply gK | apply gL | apply gM | apply gN | apply gO | apply gP | apply gQ | apply gR) | ((with_reducible apply gT); first | exact rfl | exact True.intro | omega | assumption) | ((with_reducible apply gS2); first | assumption | rfl) | ((with_reducible first | apply gL0 | apply gL1 | apply gL2 | apply gL3 | apply gL4); assumption)))
        refine t_cond (fun b1 => ?_) (fun b1 => ?_)
        · (repeat (first | (with_reducible first | apply gA | apply gB | apply gC | apply gD | apply gE | apply gF | apply gG | apply gH | apply gI | apply gJ | apply gK | apply gL | apply gM | apply gN | apply gO | apply gP | apply gQ | apply gR) | ((with_reducible apply gT); first | exact rfl | exact True.intro | omega | assumption) | ((with_reducible apply gS2); first | assumption | rfl) | ((with_reducible first | apply gL0 | apply gL1 | apply gL2 | apply gL3 | apply gL4); assumption)))
          exact t_again (next _ q m cq _ (LH.le_trans le3 le4) (s3.le IntE.grow le4.1) (by rw [hlt, b1]; rfl))
        · exact t_again (next _ p n c _ (LH.le_trans le3 le4) (hb.le IntE.grow le4.1) (by rw [hlt, b1]; rfl))
      · have hlt : decide (lk.length < best.length) = false := by simp; omega
        (repeat (first | (with_reducible first | apply gA | apply gB | apply gC | apply gD | apply gE | apply gF | apply gG | apply gH | apply gI | apply gJ | apply gK | apply gL | apply gM | apply gN | apply gO | apply gP | apply gQ | apply gR) | ((with_reducible apply gT); first | exact rfl | exact True.intro | omega | assumption) | ((with_reducible apply gS2); first | assumption | rfl) | ((with_reducible first | apply gL0 | apply gL1 | apply gL2 | apply gL3 | apply gL4); assumption)))
        exact t_again (next _ p n c _ le3 hb (by rw [hlt]; rfl))
    · (repeat (first | (with_reducible first | apply gA | apply gB | apply gC | apply gD | apply gE | apply gF | apply gG | apply gH | apply gI | apply gJ | apply gK | apply gL | apply gM | apply gN | apply gO | apply gP | apply gQ | apply gR) | ((with_reducible apply gT); first | exact rfl | exact True.intro | omega | assumption) | ((with_reducible apply gS2); first | assumption | rfl) | ((with_reducible first | apply gL0 | apply gL1 | apply gL2 | apply gL3 | apply gL4); assumption)))
      rw [List.drop_eq_nil_of_le (by omega), scanS] at hk
      refine t_ret ⟨LH.le_trans (LH.le_trans hle le2) le3, p, n, c, by rw [b'], ?_⟩
      rw [if_pos b', hk]; exact hb
theorem KeepR.form {h' : Cells} {u : UseFile} {land day : Int} {r : Value} (hr : KeepR h' u land day r) : KeepRefR h' u land day r := by
  rcases hr with ⟨h1, rfl⟩ | ⟨h1, p, n, c, rfl, b, _⟩
  · exact ⟨none, 0, 0, rfl, by rw [if_neg h1]; exact Sl.nil⟩
  · exact ⟨p, n, c, by rw [h1], by rw [if_pos h1]; exact best_keep (open_num h1).2 b⟩
theorem t_shownR {h h' : LH} {k : Bool → T} {Q : Leaf → LH → Prop} (hch : h'.chans = []) (hpe : h'.pend = []) (hto : h'.todo = h.todo) (hp : Parts h'.get) (hk : ∀ h'', h''.chans = [] ∧ h''.pend = [] ∧ h''.todo = h.todo → (k true).wp XT Tryd.prog Q h'') :
    (T.call false 16 #[] fun v => T.unB v k).wp XT Tryd.prog Q h' := by
  refine t_shown hch hpe hp (LH.le_refl _) fun h'' hh => hk h'' ?_
  rw [← hto]; exact hh
theorem c5 {h : LH} (hch : h.chans = []) (hpe : h.pend = []) (hp : Parts h.get) {f : FileC} {u : UseFile} (hu : FileR h.get f u) (land day : Int) {pp : Option Addr} {pn pc : Nat} {pl : List Int} (hpl : Sl IntE 1 h.get pp pn pl) :
    FW XT Tryd.prog 5 #[fileV f u, .int .i64 land, .int .i64 day, .slice pp pn pc] h (Fin h) := by
  refine w5 _ _ _ _ _ _ _ _ _ _ _ _ _ _ _ _ _ _ XT_ok ?_
  unfold n5
  refine t_blk (fun vs h' => vs = [.bool false] ∧ h = h') ?_ ?_
  · refine t_call (FW.top (c15 hu)) ?_
    rintro _ _ ⟨rfl, b, rfl, hb⟩
    (repeat (first | (with_reducible first | apply gA | apply gB | apply gC | apply gD | apply gE | apply gF | apply gG | apply gH | apply gI | apply gJ | apply gK | apply gL | apply gM | apply gN | apply gO | apply gP | apply gQ | apply gR) | ((with_reducible apply gT); first | exact rfl | exact True.intro | omega | assumption) | ((with_reducible apply gS2); first | assumption | rfl) | ((with_reducible first | apply gL0 | apply gL1 | apply gL2 | apply gL3 | apply gL4); assumption)))
    refine t_cond (fun _ => ?_) (fun _ => ?_)
    · refine t_shown hch hpe hp (LH.le_refl _) fun h' hh => ?_
      (repeat (first | (with_reducible first | apply gA | apply gB | apply gC | apply gD | apply gE | apply gF | apply gG | apply gH | apply gI | apply gJ | apply gK | apply gL | apply gM | apply gN | apply gO | apply gP | apply gQ | apply gR) | ((with_reducible apply gT); first | exact rfl | exact True.intro | omega | assumption) | ((with_reducible apply gS2); first | assumption | rfl) | ((with_reducible first | apply gL0 | apply gL1 | apply gL2 | apply gL3 | apply gL4); assumption)))
      exact t_ret ⟨rfl, hh⟩
    · refine t_if (fun _ => ?_) (fun _ => t_again ⟨rfl, rfl⟩)
      refine t_shown hch hpe hp (LH.le_refl _) fun h' hh => ?_
      (repeat (first | (with_reducible first | apply gA | apply gB | apply gC | apply gD | apply gE | apply gF | apply gG | apply gH | apply gI | apply gJ | apply gK | apply gL | apply gM | apply gN | apply gO | apply gP | apply gQ | apply gR) | ((with_reducible apply gT); first | exact rfl | exact True.intro | omega | assumption) | ((with_reducible apply gS2); first | assumption | rfl) | ((with_reducible first | apply gL0 | apply gL1 | apply gL2 | apply gL3 | apply gL4); assumption)))
      exact t_ret ⟨rfl, hh⟩
  rintro vs _ ⟨rfl, rfl⟩
  (repeat (first | (with_reducible first | apply gA | apply gB | apply gC | apply gD | apply gE | apply gF | apply gG | apply gH | apply gI | apply gJ | apply gK | apply gL | apply gM | apply gN | apply gO | apply gP | apply gQ | apply gR) | ((with_reducible apply gT); first | exact rfl | exact True.intro | omega | assumption) | ((with_reducible apply gS2); first | assumption | rfl) | ((with_reducible first | apply gL0 | apply gL1 | apply gL2 | apply gL3 | apply gL4); assumption)))
  obtain ⟨x, g2, hs⟩ : ∃ a g, enoughR u land day pl = .tuple #[.bool a, .int .i64 g] := by
    unfold enoughR; split
    · exact ⟨_, _, rfl⟩
    · exact ⟨_, _, rfl⟩
  refine t_gr (c31 hp hu land day hpl) ?_
  rintro _ h1 le1 rfl
  rw [hs]
  (repeat (first | (with_reducible first | apply gA | apply gB | apply gC | apply gD | apply gE | apply gF | apply gG | apply gH | apply gI | apply gJ | apply gK | apply gL | apply gM | apply gN | apply gO | apply gP | apply gQ | apply gR) | ((with_reducible apply gT); first | exact rfl | exact True.intro | omega | assumption) | ((with_reducible apply gS2); first | assumption | rfl) | ((with_reducible first | apply gL0 | apply gL1 | apply gL2 | apply gL3 | apply gL4); assumption)))
  refine t_gr (c32 (hu.le le1.1) land day (hpl.le IntE.grow le1.1)) ?_
  rintro _ h2 le2 rfl
  rw [hs]
  (repeat (first | (with_reducible first | apply gA | apply gB | apply gC | apply gD | apply gE | apply gF | apply gG | apply gH | apply gI | apply gJ | apply gK | apply gL | apply gM | apply gN | apply gO | apply gP | apply gQ | apply gR) | ((with_reducible apply gT); first | exact rfl | exact True.intro | omega | assumption) | ((with_reducible apply gS2); first | assumption | rfl) | ((with_reducible first | apply gL0 | apply gL1 | apply gL2 | apply gL3 | apply gL4); assumption)))
  have le12 := LH.le_trans le1 le2
  have hp2 := hp.le le12.1
  have hu2 := hu.le le12.1
  refine t_blk (fun vs h' => vs = [.bool false] ∧ h2 = h') ?_ ?_
  · refine t_cond (fun e => absurd e (by cases x <;> simp)) (fun _ => ?_)
    refine t_cond (fun e => absurd e (by simp)) (fun _ => ?_)
    exact t_again ⟨rfl, rfl⟩
  rintro vs _ ⟨rfl, rfl⟩
  (repeat (first | (with_reducible first | apply gA | apply gB | apply gC | apply gD | apply gE | apply gF | apply gG | apply gH | apply gI | apply gJ | apply gK | apply gL | apply gM | apply gN | apply gO | apply gP | apply gQ | apply gR) | ((with_reducible apply gT); first | exact rfl | exact True.intro | omega | assumption) | ((with_reducible apply gS2); first | assumption | rfl) | ((with_reducible first | apply gL0 | apply gL1 | apply gL2 | apply gL3 | apply gL4); assumption)))
  refine t_call (c33 (by rw [le12.2.1, hch]) (by rw [le12.2.2.1, hpe]) hp2 hu2 land day) ?_
  rintro r3 h3 ⟨rd3, ch3, pe3, to3, kr3⟩
  obtain ⟨p3, n3, k3, rfl, s3⟩ := kr3.form
  (repeat (first | (with_reducible first | apply gA | apply gB | apply gC | apply gD | apply gE | apply gF | apply gG | apply gH | apply gI | apply gJ | apply gK | apply gL | apply gM | apply gN | apply gO | apply gP | apply gQ | apply gR) | ((with_reducible apply gT); first | exact rfl | exact True.intro | omega | assumption) | ((with_reducible apply gS2); first | assumption | rfl) | ((with_reducible first | apply gL0 | apply gL1 | apply gL2 | apply gL3 | apply gL4); assumption)))
  refine t_gr (c34 (hu2.rd rd3) land day) ?_
  rintro r4 h4 le4 ⟨p4, n4, k4, rfl, s4⟩
  (repeat (first | (with_reducible first | apply gA | apply gB | apply gC | apply gD | apply gE | apply gF | apply gG | apply gH | apply gI | apply gJ | apply gK | apply gL | apply gM | apply gN | apply gO | apply gP | apply gQ | apply gR) | ((with_reducible apply gT); first | exact rfl | exact True.intro | omega | assumption) | ((with_reducible apply gS2); first | assumption | rfl) | ((with_reducible first | apply gL0 | apply gL1 | apply gL2 | apply gL3 | apply gL4); assumption)))
  have e35 := c35 (c := k3) (d := k4) (s3.le IntE.grow le4.1) s4
  rw [decide_eq_true rfl] at e35
  refine t_pu e35 ?_
  (repeat (first | (with_reducible first | apply gA | apply gB | apply gC | apply gD | apply gE | apply gF | apply gG | apply gH | apply gI | apply gJ | apply gK | apply gL | apply gM | apply gN | apply gO | apply gP | apply gQ | apply gR) | ((with_reducible apply gT); first | exact rfl | exact True.intro | omega | assumption) | ((with_reducible apply gS2); first | assumption | rfl) | ((with_reducible first | apply gL0 | apply gL1 | apply gL2 | apply gL3 | apply gL4); assumption)))
  refine t_cond (fun _ => ?_) (fun e => absurd e (by simp))
  refine t_cond (fun _ => ?_) (fun e => absurd e (by simp))
  refine t_shownR (h := h) (by rw [le4.2.1, ch3]) (by rw [le4.2.2.1, pe3]) (by rw [le4.2.2.2, to3, le12.2.2.2]) ((Parts.rd rd3 hp2).le le4.1) fun h' hh => t_ret ⟨rfl, hh⟩
end Go.Proofs.YtibibhojkfapnaaDoor
end
section
namespace Go.Proofs.YtibibhojkfapnaaDoor
open Go Go.TM Go.Proofs Go.ChangeShapes Go.WideShapes Go.RowKit
set_option maxRecDepth 100000
theorem useKeeps_lifted (os : Os) (started : os.Started) (H : Type) (enc : TypeId × Value → H) :
    ReturnsInLeavingWide {} Tryd.checked os 5 .any (fun w args => (Rows.useKeepsSpec.pre enc Tryd.prog Tryd.f5 [] false w args ∧ laidMetH Tryd.prog Rows.useWindowsRow.laid w) ∧ sizedMet enc Tryd.prog Tryd.f5 (OpenSpec.ofChange Rows.useKeepsSpec) false w args)
      (Rows.useKeepsSpec.post enc Tryd.prog Tryd.f5 false true false false) := by
  refine row_leaving (C := Tryd.checked) (tb := 4) own started Tryd.func5 (by kernel_rfl) rfl lo ?_ (by kernel_rfl) Tryd.underlying4 ?_
    (ChangeSpec.witness_shaped (enc := enc) (C := Tryd.checked) (os := os) (X := fun w _ => laidMetH Tryd.prog Rows.useWindowsRow.laid w) false (World.doorLaid Tryd.prog 200 os) #[noFile, .int .i64 0, .int .i64 0, .slice none 0 0] 8 rfl (door_shaped os _) (by kernel_rfl) (by kernel_rfl) (by kernel_rfl) (door_met os _)) ?_
  · exact fun t ht => of_decide_eq_true (List.all_eq_true.1 (show (Tryd.f5.params.toList.all fun t => decide (Tryd.prog.readableRec t = true ∧ t < Tryd.prog.types.size)) = true by kernel_rfl) t ht)
  · intro ds hd
    match ds, (show ds.length = 4 from hd) with
    | [d0, d1, d2, d3], _ => rfl
  · intro W base args ds ps hval0 hA0 hz0 hL
    have hval : ∀ (j : Nat) t v, Tryd.f5.params[j]? = some t → args[j]? = some v → Value.okWide Tryd.prog W .any base t v := hval0
    have hz : ∀ (j : Nat) t d, Tryd.f5.params.toList[j]? = some t → ds[j]? = some d → Light Tryd.prog t d := hz0
    have hA : DataW.TrodAll enc Tryd.prog W 0 (fun _ => true) true Tryd.f5.params.toList args.toList ds ps := hA0
    rw [Tryd.params5] at hval hz hA
    obtain ⟨v0, v1, v2, v3, d0, d1, d2, d3, q00, q01, q02, q03, rfl, rfl, rfl, h0, h1, h2, h3⟩ := trodAll_four hA
    obtain ⟨f0, u0, rfl, hu0⟩ := file_arg UT (hval 0 26 v0 rfl rfl) (hz 0 26 d0 rfl rfl) h0
    obtain ⟨x1, rfl, _, _⟩ := open_int UT.int (hval 1 3 v1 rfl rfl) h1
    obtain ⟨x2, rfl, _, _⟩ := open_int UT.int (hval 2 3 v2 rfl rfl) h2
    obtain ⟨p3, n3, k3, l3, rfl, s3⟩ := ints_arg UT (hval 3 50 v3 rfl rfl) (hz 3 50 d3 rfl rfl) h3
    exact FW.mono (c5 (h := ⟨getW W, [], [], []⟩) rfl rfl (parts_of_laid hL) hu0 x1 x2 s3) fun r h' hq => ⟨hq.1, hq.2.2.1⟩
theorem useKeeps_row : Rows.UseKeepsSaid :=
  OpenClaim.holds_of_wide_leaving 5 Tryd.f5 rfl rfl rfl rfl rfl rfl rfl ⟨rfl, rfl, rfl, rfl, rfl⟩ rfl rfl rfl rfl rfl (by kernel_rfl) Tryd.func5 (by kernel_rfl)
    (of_decide_eq_true (by kernel_rfl)) (by unfold Func.isWrapper; first | (rw [if_pos (by decide +kernel)]; kernel_rfl) | (rw [if_neg (by decide +kernel)]; exact ⟨rfl, rfl⟩))
    (fun os started H enc _ => useKeeps_lifted os started H enc)
theorem useKeeps_holds : Rows.UseKeepsCardSaid :=
  card_goes [.funcs] true Rows.useKeepsCard.stood.harness false useKeeps_row (by kernel_rfl) useKeeps_row_tie rfl ⟨rfl, rfl⟩ (by kernel_rfl) rfl
    (fun f fn hf hfn => by
      obtain rfl : f = 5 := Option.some.inj ((show Tryd.prog.funcNamed Rows.useKeepsRow.func = some 5 by kernel_rfl).symm.trans hf) |>.symm
      obtain rfl : fn = Tryd.f5 := (Option.some.inj (Tryd.func5.symm.trans hfn)).symm
      exact ⟨by kernel_rfl, fun j t ht => by
        have hm := Array.mem_of_getElem? ht
        have := of_decide_eq_true (List.all_eq_true.1 (show (Tryd.f5.params.toList.all fun t => decide (Tryd.prog.wantsStandIn t = false)) = true by kernel_rfl) t (Array.mem_toList_iff.2 hm))
        exact this⟩)
    (by kernel_rfl)
end Go.Proofs.YtibibhojkfapnaaDoor
end
#print axioms Go.Proofs.YtibibhojkfapnaaDoor.useKeeps_holds

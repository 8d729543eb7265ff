/- The law TreatyTaking: what it needs of the road, of its contracts, and its row. -/
import Derived.Test.YtbmfimaomcnkfaaDoorM5
set_option linter.all false
section
namespace Go.Proofs.YtbmfimaomcnkfaaDoor
open Go Go.TM Go.Proofs Go.TM.Tr
attribute [local irreducible] T.wp CV FWK
def evCells (e : Ev) (q : Option Addr) (m c : Nat) : List Value := [.int .i64 e.kind, .int .i64 e.day, .int .i64 e.land, .slice q m c, .int .i64 e.since]
theorem ev_one (e : Ev) (q : Option Addr) (m c : Nat) : ∀ w ∈ evCells e q m c, isOne w = true := by
  intro w hw
  simp only [evCells, List.mem_cons, List.not_mem_nil, or_false] at hw
  rcases hw with rfl | rfl | rfl | rfl | rfl <;> rfl
theorem ev_src {h0 h : Cells} {e : Ev} {q : Option Addr} {m c r : Nat} (hm : m ≤ c) (he : Sl IntE 1 h0 q m e.items) (hc : ∀ (j : Nat) w, (evCells e q m c)[j]? = some w → h.cell? (Addr.add ⟨r, 0, none⟩ j) = some w) : Sl (EventB h0) 5 h (some ⟨r, 0, none⟩) 1 [e] := by
  refine ⟨rfl, by simp, fun i x hx => ⟨_, rfl, ?_⟩⟩
  match i, hx with
  | 0, hx =>
    cases hx
    refine ⟨q, m, c, fun j w hj => ?_, hm, he⟩
    rw [Nat.zero_mul, add_zero2]
    exact hc j w hj
  | i + 1, hx => simp at hx
theorem own_of {α : Type} {Enc : α → List Value → Prop} {el : TypeId} {k : Nat} {h₀ h : Cells} {r n c : Nat} {l : List α} (g : Growing Enc el k h₀ h (some ⟨r, 0, none⟩) n c l) : ∃ cs, h r = some (true, .cells cs el (0, 0)) := by
  obtain ⟨vs, ⟨_, h2⟩, _⟩ := g.row
  rcases h2 with ⟨h3, _⟩ | ⟨r', cs, h3, h4, _⟩
  · cases h3
  · cases h3; exact ⟨cs, h4⟩
theorem own_cells {h : Cells} {r : Nat} {el : TypeId} {e : Ev} {q : Option Addr} {m c : Nat} (ho : h r = some (true, .cells #[.int .i64 e.kind, .int .i64 e.day, .int .i64 e.land, .slice q m c, .int .i64 e.since] el (0, 0))) : ∀ (j : Nat) w, (evCells e q m c)[j]? = some w → h.cell? (Addr.add ⟨r, 0, none⟩ j) = some w := by
  intro j w hj
  rw [add_plain, Nat.zero_add]
  simp only [Cells.cell?, ho, Option.isSome_none, Bool.false_eq_true, if_false]
  simpa [evCells] using hj
set_option maxRecDepth 10000 in
theorem c2035 {h : LH} {f : TC} {x : TF} (hx : TreatyR h.get f x) (hbig : x.events.length * 56 ≤ 2 ^ 47) {e : Ev} {q : Option Addr} {m c : Nat} (hm : m ≤ c) (he : Sl IntE 1 h.get q m e.items) :
    Gr Tryd.prog 35 #[treatyV f x, .agg #[.int .i64 e.kind, .int .i64 e.day, .int .i64 e.land, .slice q m c, .int .i64 e.since]] h fun r h' => ∃ f' b, r = .tuple #[treatyV f' (add x e), .bool b] ∧ TreatyR h'.get f' (add x e) ∧ (b = true → checkT (add x e) = 0) := by
  refine w2035 _ _ _ _ _ _ _ _ _ _ _ _ _ _ _ _ X0_ok ?_
  unfold n2035
  have hn := hx.2.1
  have src : ∀ h' : LH, h.le h' → Sl (EventB h.get) 5 h'.get f.p f.n x.events := fun h' hle => EventB.of (Rd.of_le hle.1) hx.2
  have cap1 : ¬ 0 + f.n ≤ 0 → Builtin.nextslicecap (0 + f.n) 0 * 56 ≤ 2 ^ 48 := fun hh => by rw [cap_first f.n hh]; omega
  have cap2 : ∀ c', 0 + f.n ≤ c' → ¬ (0 + f.n) + 1 ≤ c' → Builtin.nextslicecap (0 + f.n + 1) c' * 56 ≤ 2 ^ 48 := fun c' hc hh => by
    have := Nat.mul_le_mul_right 56 (cap_next hc hh)
    omega
  refine t_blk (fun vs h' => ∃ p' n' c', vs = [.int .i64 x.items, .int .i64 x.lands, .int .i64 x.start, .int .i64 x.depend, .int .i64 x.refuse, .int .i64 x.turn, .slice p' n' c'] ∧ h.le h' ∧ Growing (EventEnc h.get) 50 5 h.get h'.get p' n' c' (x.events ++ [e])) ?_ ?_
  · refine t_both ?_ ?_
    · refine t_build0G (h₀ := h) (Enc := EventEnc h.get) undEvs infEv (LH.le_refl _) fun r h1 _ le1 g1 => ?_
      (repeat (first | (with_reducible first | apply gA | apply gB | apply gC | apply gD | apply gE | apply gF | apply gG | apply gH | apply gI | apply gJ | apply gK | apply gL | apply gM | apply gN | apply gO | apply gP | apply gQ | apply gR | apply gP2 | apply gP3) | ((with_reducible first | apply gT | apply gS2); first | exact rfl | assumption | omega | exact ⟨⟩) | ((with_reducible first | apply gL0 | apply gL1 | apply gL2 | apply gL3 | apply gL4); assumption)))
      refine t_both ?_ ?_
      · refine t_copyB (h₀ := h) (E := EventB h.get) (Enc := EventEnc h.get) rfl rfl undEvs undEvs infEv rfl (by omega) cap1 g1 le1 (src _ le1) eventTold fun p2 c2 h2 le2 _ g2 => ?_
        obtain ⟨_, o2, _⟩ := g2.row
        (repeat (first | (with_reducible first | apply gA | apply gB | apply gC | apply gD | apply gE | apply gF | apply gG | apply gH | apply gI | apply gJ | apply gK | apply gL | apply gM | apply gN | apply gO | apply gP | apply gQ | apply gR | apply gP2 | apply gP3) | ((with_reducible first | apply gT | apply gS2); first | exact rfl | assumption | omega | exact ⟨⟩) | ((with_reducible first | apply gL0 | apply gL1 | apply gL2 | apply gL3 | apply gL4); assumption)))
        refine t_buildR (evCells e q m c) undEvs infEv (by decide) (by decide) (by kernel_rfl) fun r3 h3 le3 _ hc3 => ?_
        (repeat (first | (with_reducible first | apply gA | apply gB | apply gC | apply gD | apply gE | apply gF | apply gG | apply gH | apply gI | apply gJ | apply gK | apply gL | apply gM | apply gN | apply gO | apply gP | apply gQ | apply gR | apply gP2 | apply gP3) | ((with_reducible first | apply gT | apply gS2); first | exact rfl | assumption | omega | exact ⟨⟩) | ((with_reducible first | apply gL0 | apply gL1 | apply gL2 | apply gL3 | apply gL4); assumption)))
        refine t_copyB (h₀ := h) (E := EventB h.get) (Enc := EventEnc h.get) rfl rfl undEvs undEvs infEv rfl (by omega) (cap2 _ o2.le_cap) (g2.le le3.1) (LH.le_trans le2 le3) (ev_src hm he hc3) eventTold fun p4 c4 h4 le4 _ g4 => ?_
        (repeat (first | (with_reducible first | apply gA | apply gB | apply gC | apply gD | apply gE | apply gF | apply gG | apply gH | apply gI | apply gJ | apply gK | apply gL | apply gM | apply gN | apply gO | apply gP | apply gQ | apply gR | apply gP2 | apply gP3) | ((with_reducible first | apply gT | apply gS2); first | exact rfl | assumption | omega | exact ⟨⟩) | ((with_reducible first | apply gL0 | apply gL1 | apply gL2 | apply gL3 | apply gL4); assumption)))
        exact t_again ⟨_, _, _, rfl, le4, g4⟩
      · refine t_build undEvs infEv (by decide) (by decide) (cells := #[.int .i64 e.kind, .int .i64 e.day, .int .i64 e.land, .slice q m c, .int .i64 e.since]) (by kernel_rfl) fun r3 hr3 => ?_
        have le3 := LH.upd_le (x := (true, .cells #[.int .i64 e.kind, .int .i64 e.day, .int .i64 e.land, .slice q m c, .int .i64 e.since] 50 (0, 0))) hr3
        (repeat (first | (with_reducible first | apply gA | apply gB | apply gC | apply gD | apply gE | apply gF | apply gG | apply gH | apply gI | apply gJ | apply gK | apply gL | apply gM | apply gN | apply gO | apply gP | apply gQ | apply gR | apply gP2 | apply gP3) | ((with_reducible first | apply gT | apply gS2); first | exact rfl | assumption | omega | exact ⟨⟩) | ((with_reducible first | apply gL0 | apply gL1 | apply gL2 | apply gL3 | apply gL4); assumption)))
        have le13 := LH.le_trans le1 le3
        obtain ⟨cs1, o1⟩ := own_of g1
        refine t_copyB (h₀ := h) (E := EventB h.get) (Enc := EventEnc h.get) rfl rfl undEvs undEvs infEv rfl (by omega) cap1 (g1.le le3.1) le13 (src _ le13) eventTold fun p2 c2 h2 le2 kp2 g2 => ?_
        obtain ⟨_, o2, _⟩ := g2.row
        have h23 := kp2 r3 _ (fun a ha => by cases ha; exact ne_of_get hr3 o1) (Cells.upd_self _ _ _)
        (repeat (first | (with_reducible first | apply gA | apply gB | apply gC | apply gD | apply gE | apply gF | apply gG | apply gH | apply gI | apply gJ | apply gK | apply gL | apply gM | apply gN | apply gO | apply gP | apply gQ | apply gR | apply gP2 | apply gP3) | ((with_reducible first | apply gT | apply gS2); first | exact rfl | assumption | omega | exact ⟨⟩) | ((with_reducible first | apply gL0 | apply gL1 | apply gL2 | apply gL3 | apply gL4); assumption)))
        refine t_copyB (h₀ := h) (E := EventB h.get) (Enc := EventEnc h.get) rfl rfl undEvs undEvs infEv rfl (by omega) (cap2 _ o2.le_cap) g2 le2 (ev_src hm he (own_cells h23)) eventTold fun p4 c4 h4 le4 _ g4 => ?_
        (repeat (first | (with_reducible first | apply gA | apply gB | apply gC | apply gD | apply gE | apply gF | apply gG | apply gH | apply gI | apply gJ | apply gK | apply gL | apply gM | apply gN | apply gO | apply gP | apply gQ | apply gR | apply gP2 | apply gP3) | ((with_reducible first | apply gT | apply gS2); first | exact rfl | assumption | omega | exact ⟨⟩) | ((with_reducible first | apply gL0 | apply gL1 | apply gL2 | apply gL3 | apply gL4); assumption)))
        exact t_again ⟨_, _, _, rfl, le4, g4⟩
    · refine t_build undEvs infEv (by decide) (by decide) (cells := #[.int .i64 e.kind, .int .i64 e.day, .int .i64 e.land, .slice q m c, .int .i64 e.since]) (by kernel_rfl) fun r3 hr3 => ?_
      have le3 := LH.upd_le (x := (true, .cells #[.int .i64 e.kind, .int .i64 e.day, .int .i64 e.land, .slice q m c, .int .i64 e.since] 50 (0, 0))) hr3
      (repeat (first | (with_reducible first | apply gA | apply gB | apply gC | apply gD | apply gE | apply gF | apply gG | apply gH | apply gI | apply gJ | apply gK | apply gL | apply gM | apply gN | apply gO | apply gP | apply gQ | apply gR | apply gP2 | apply gP3) | ((with_reducible first | apply gT | apply gS2); first | exact rfl | assumption | omega | exact ⟨⟩) | ((with_reducible first | apply gL0 | apply gL1 | apply gL2 | apply gL3 | apply gL4); assumption)))
      refine t_build0G (h₀ := h) (Enc := EventEnc h.get) undEvs infEv le3 fun r h1 hr1 le1 g1 => ?_
      (repeat (first | (with_reducible first | apply gA | apply gB | apply gC | apply gD | apply gE | apply gF | apply gG | apply gH | apply gI | apply gJ | apply gK | apply gL | apply gM | apply gN | apply gO | apply gP | apply gQ | apply gR | apply gP2 | apply gP3) | ((with_reducible first | apply gT | apply gS2); first | exact rfl | assumption | omega | exact ⟨⟩) | ((with_reducible first | apply gL0 | apply gL1 | apply gL2 | apply gL3 | apply gL4); assumption)))
      have h13 := le1.1 r3 _ (Cells.upd_self _ _ _)
      have le01 := LH.le_trans le3 le1
      refine t_copyB (h₀ := h) (E := EventB h.get) (Enc := EventEnc h.get) rfl rfl undEvs undEvs infEv rfl (by omega) cap1 g1 le01 (src _ le01) eventTold fun p2 c2 h2 le2 kp2 g2 => ?_
      obtain ⟨_, o2, _⟩ := g2.row
      have h23 := kp2 r3 _ (fun a ha => by cases ha; exact (ne_of_get hr1 (Cells.upd_self _ _ _)).symm) h13
      (repeat (first | (with_reducible first | apply gA | apply gB | apply gC | apply gD | apply gE | apply gF | apply gG | apply gH | apply gI | apply gJ | apply gK | apply gL | apply gM | apply gN | apply gO | apply gP | apply gQ | apply gR | apply gP2 | apply gP3) | ((with_reducible first | apply gT | apply gS2); first | exact rfl | assumption | omega | exact ⟨⟩) | ((with_reducible first | apply gL0 | apply gL1 | apply gL2 | apply gL3 | apply gL4); assumption)))
      refine t_copyB (h₀ := h) (E := EventB h.get) (Enc := EventEnc h.get) rfl rfl undEvs undEvs infEv rfl (by omega) (cap2 _ o2.le_cap) g2 le2 (ev_src hm he (own_cells h23)) eventTold fun p4 c4 h4 le4 _ g4 => ?_
      (repeat (first | (with_reducible first | apply gA | apply gB | apply gC | apply gD | apply gE | apply gF | apply gG | apply gH | apply gI | apply gJ | apply gK | apply gL | apply gM | apply gN | apply gO | apply gP | apply gQ | apply gR | apply gP2 | apply gP3) | ((with_reducible first | apply gT | apply gS2); first | exact rfl | assumption | omega | exact ⟨⟩) | ((with_reducible first | apply gL0 | apply gL1 | apply gL2 | apply gL3 | apply gL4); assumption)))
      exact t_again ⟨_, _, _, rfl, le4, g4⟩
  rintro vs h1 ⟨p', n', c', rfl, le1, g⟩
  have hn' := g.count EventEnc.len (by omega)
  rw [List.length_append, List.length_singleton] at hn'
  have hx' : TreatyR h1.get ⟨p', n', c'⟩ (add x e) := by
    obtain ⟨_, o, _⟩ := g.row
    exact ⟨o.le_cap, g.sl EventEnc.len (by omega) (EventEnc.e (Rd.of_le le1.1)) (by show (x.events ++ [e]).length < _; rw [List.length_append, List.length_singleton]; omega)⟩
  (repeat (first | (with_reducible first | apply gA | apply gB | apply gC | apply gD | apply gE | apply gF | apply gG | apply gH | apply gI | apply gJ | apply gK | apply gL | apply gM | apply gN | apply gO | apply gP | apply gQ | apply gR | apply gP2 | apply gP3) | ((with_reducible first | apply gT | apply gS2); first | exact rfl | assumption | omega | exact ⟨⟩) | ((with_reducible first | apply gL0 | apply gL1 | apply gL2 | apply gL3 | apply gL4); assumption)))
  refine t_if (fun e1 => ?_) (fun e1 => ?_)
  · refine t_pu (c2022 (f := ⟨p', n', c'⟩) (x := add x e) hx') ?_
    (repeat (first | (with_reducible first | apply gA | apply gB | apply gC | apply gD | apply gE | apply gF | apply gG | apply gH | apply gI | apply gJ | apply gK | apply gL | apply gM | apply gN | apply gO | apply gP | apply gQ | apply gR | apply gP2 | apply gP3) | ((with_reducible first | apply gT | apply gS2); first | exact rfl | assumption | omega | exact ⟨⟩) | ((with_reducible first | apply gL0 | apply gL1 | apply gL2 | apply gL3 | apply gL4); assumption)))
    exact t_ret ⟨le1, ⟨p', n', c'⟩, _, rfl, hx', fun hb => by simpa using hb⟩
  · (repeat (first | (with_reducible first | apply gA | apply gB | apply gC | apply gD | apply gE | apply gF | apply gG | apply gH | apply gI | apply gJ | apply gK | apply gL | apply gM | apply gN | apply gO | apply gP | apply gQ | apply gR | apply gP2 | apply gP3) | ((with_reducible first | apply gT | apply gS2); first | exact rfl | assumption | omega | exact ⟨⟩) | ((with_reducible first | apply gL0 | apply gL1 | apply gL2 | apply gL3 | apply gL4); assumption)))
    refine t_both ?_ ?_
    · (repeat (first | (with_reducible first | apply gA | apply gB | apply gC | apply gD | apply gE | apply gF | apply gG | apply gH | apply gI | apply gJ | apply gK | apply gL | apply gM | apply gN | apply gO | apply gP | apply gQ | apply gR | apply gP2 | apply gP3) | ((with_reducible first | apply gT | apply gS2); first | exact rfl | assumption | omega | exact ⟨⟩) | ((with_reducible first | apply gL0 | apply gL1 | apply gL2 | apply gL3 | apply gL4); assumption)))
      exact t_ret ⟨le1, ⟨p', n', c'⟩, _, rfl, hx', fun hb => by cases hb⟩
    · (repeat (first | (with_reducible first | apply gA | apply gB | apply gC | apply gD | apply gE | apply gF | apply gG | apply gH | apply gI | apply gJ | apply gK | apply gL | apply gM | apply gN | apply gO | apply gP | apply gQ | apply gR | apply gP2 | apply gP3) | ((with_reducible first | apply gT | apply gS2); first | exact rfl | assumption | omega | exact ⟨⟩) | ((with_reducible first | apply gL0 | apply gL1 | apply gL2 | apply gL3 | apply gL4); assumption)))
      exact t_ret ⟨le1, ⟨p', n', c'⟩, _, rfl, hx', fun hb => by cases hb⟩
theorem c2036 {h : LH} {f : TC} {x : TF} (hx : TreatyR h.get f x) (hmany : x.events.length ≤ 10) :
    Gr Tryd.prog 36 #[treatyV f x] h fun r h' => ∃ f', r = treatyV f' (unturned x) ∧ TreatyR h'.get f' (unturned x) := by
  refine w2036 _ _ _ _ _ _ _ _ _ X0_ok ?_
  unfold n2036
  have hs := hx.2
  have hn := hs.1
  refine t_loop (fun mm vs h' => h.le h' ∧ ∃ (j : Nat) (p : Option Addr) (n c : Nat), vs = [.int .i64 j, .int .i64 x.items, .int .i64 x.lands, .int .i64 x.start, .int .i64 x.depend, .int .i64 x.refuse, .int .i64 x.turn, .slice p n c] ∧ j ≤ f.n ∧ mm = f.n - j ∧ Growing (EventEnc h.get) 50 5 h.get h'.get p n c ((x.events.take j).filter fun e => e.kind != 5))
    ⟨LH.le_refl _, 0, none, 0, 0, rfl, Nat.zero_le _, rfl, Growing.nil⟩ ?_
  rintro Y mm vs h₁ hY ⟨le1, j, p, n, c, rfl, hj, rfl, g⟩
  have hnn : n ≤ 10 := by
    rw [g.count EventEnc.len (by omega)]
    have := List.length_filter_le (fun e : Ev => e.kind != 5) (x.events.take j)
    rw [List.length_take] at this; omega
  (repeat (first | (with_reducible first | apply gA | apply gB | apply gC | apply gD | apply gE | apply gF | apply gG | apply gH | apply gI | apply gJ | apply gK | apply gL | apply gM | apply gN | apply gO | apply gP | apply gQ | apply gR | apply gP2 | apply gP3) | ((with_reducible first | apply gT | apply gS2); first | exact rfl | assumption | omega | exact ⟨⟩) | ((with_reducible first | apply gL0 | apply gL1 | apply gL2 | apply gL3 | apply gL4); assumption)))
  refine t_if (fun e1 => ?_) (fun e1 => ?_)
  · obtain ⟨e, a, he, ha, g0, g1, g2, ⟨q, m, cc, g3, g6, g5⟩, g4⟩ := hs.at (i := j) (by omega)
    have hws : EventEnc h.get e (evCells e q m cc) := ⟨q, m, cc, rfl, g6, g5⟩
    have htake : x.events.take (j + 1) = x.events.take j ++ [e] := by rw [List.take_add_one, he]; rfl
    have g0 := Cells.cell?_le le1.1 g0
    have g1 := Cells.cell?_le le1.1 g1
    have g2 := Cells.cell?_le le1.1 g2
    have g3 := Cells.cell?_le le1.1 g3
    have g4 := Cells.cell?_le le1.1 g4
    have next : ∀ h' p' n' c', h.le h' → Growing (EventEnc h.get) 50 5 h.get h'.get p' n' c' ((x.events.take (j + 1)).filter fun e => e.kind != 5) → Y [.int .i64 (IntKind.wrap .i64 ((j : Int) + 1)), .int .i64 x.items, .int .i64 x.lands, .int .i64 x.start, .int .i64 x.depend, .int .i64 x.refuse, .int .i64 x.turn, .slice p' n' c'] h' := by
      intro h' p' n' c' hle' g'
      refine hY (f.n - (j + 1)) _ _ (by omega) ⟨hle', j + 1, p', n', c', ?_, by omega, rfl, g'⟩
      rw [wrap_id (by omega) (by omega)]; rfl
    (repeat (first | (with_reducible first | apply gA | apply gB | apply gC | apply gD | apply gE | apply gF | apply gG | apply gH | apply gI | apply gJ | apply gK | apply gL | apply gM | apply gN | apply gO | apply gP | apply gQ | apply gR | apply gP2 | apply gP3) | ((with_reducible first | apply gT | apply gS2); first | exact rfl | assumption | omega | exact ⟨⟩) | ((with_reducible first | apply gL0 | apply gL1 | apply gL2 | apply gL3 | apply gL4); assumption)))
    refine t_cond (fun e2 => ?_) (fun e2 => ?_)
    · (repeat (first | (with_reducible first | apply gA | apply gB | apply gC | apply gD | apply gE | apply gF | apply gG | apply gH | apply gI | apply gJ | apply gK | apply gL | apply gM | apply gN | apply gO | apply gP | apply gQ | apply gR | apply gP2 | apply gP3) | ((with_reducible first | apply gT | apply gS2); first | exact rfl | assumption | omega | exact ⟨⟩) | ((with_reducible first | apply gL0 | apply gL1 | apply gL2 | apply gL3 | apply gL4); assumption)))
      refine t_buildR (evCells e q m cc) undEvs infEv (by decide) (by decide) (by kernel_rfl) ?_
      intro r h7 le7 _ hr7
      (repeat (first | (with_reducible first | apply gA | apply gB | apply gC | apply gD | apply gE | apply gF | apply gG | apply gH | apply gI | apply gJ | apply gK | apply gL | apply gM | apply gN | apply gO | apply gP | apply gQ | apply gR | apply gP2 | apply gP3) | ((with_reducible first | apply gT | apply gS2); first | exact rfl | assumption | omega | exact ⟨⟩) | ((with_reducible first | apply gL0 | apply gL1 | apply gL2 | apply gL3 | apply gL4); assumption)))
      refine t_growR (h₀ := h) (Enc := EventEnc h.get) e (evCells e q m cc) rfl rfl undEvs infEv rfl (by omega) (by omega) (g.le le7.1) (LH.le_trans le1 le7) hws rfl hr7 (ev_one e q m cc) ?_
      intro p' c' h8 le8 kp8 g8
      (repeat (first | (with_reducible first | apply gA | apply gB | apply gC | apply gD | apply gE | apply gF | apply gG | apply gH | apply gI | apply gJ | apply gK | apply gL | apply gM | apply gN | apply gO | apply gP | apply gQ | apply gR | apply gP2 | apply gP3) | ((with_reducible first | apply gT | apply gS2); first | exact rfl | assumption | omega | exact ⟨⟩) | ((with_reducible first | apply gL0 | apply gL1 | apply gL2 | apply gL3 | apply gL4); assumption)))
      refine t_again (next h8 p' _ c' le8 ?_)
      rw [htake, List.filter_append, List.filter_cons, if_pos e2]; exact g8
    · refine t_again (next h₁ p n c le1 ?_)
      rw [htake, List.filter_append, List.filter_cons, if_neg (by rw [e2]; simp)]; simpa using g
  · (repeat (first | (with_reducible first | apply gA | apply gB | apply gC | apply gD | apply gE | apply gF | apply gG | apply gH | apply gI | apply gJ | apply gK | apply gL | apply gM | apply gN | apply gO | apply gP | apply gQ | apply gR | apply gP2 | apply gP3) | ((with_reducible first | apply gT | apply gS2); first | exact rfl | assumption | omega | exact ⟨⟩) | ((with_reducible first | apply gL0 | apply gL1 | apply gL2 | apply gL3 | apply gL4); assumption)))
    rw [List.take_of_length_le (by omega)] at g
    refine t_ret ⟨le1, ⟨p, n, c⟩, rfl, ?_, g.sl EventEnc.len (by omega) (EventEnc.e (Rd.of_le le1.1)) ?_⟩
    · obtain ⟨vs, o, _⟩ := g.row
      exact o.le_cap
    · show (x.events.filter fun e => e.kind != 5).length < _
      rw [← g.count EventEnc.len (by omega)]; omega
end Go.Proofs.YtbmfimaomcnkfaaDoor
end
section
namespace Go.Proofs.YtbmfimaomcnkfaaDoor
open Go Go.TM Go.Proofs
set_option linter.unusedVariables false
set_option maxRecDepth 100000
noncomputable def n2009 (x_0 : Int) (x_1 : Int) (x_2 : Int) (x_3 : Int) (x_4 : Int) (x_5 : Int) (x_6p : Option Addr) (x_6n x_6c : Nat) (e_0 : Int) (e_1 : Int) (e_2 : Int) (e_3p : Option Addr) (e_3n e_3c : Nat) (e_4 : Int) (land : Int) (day : Int) : T := .call false 35 #[.agg #[.int .i64 x_0, .int .i64 x_1, .int .i64 x_2, .int .i64 x_3, .int .i64 x_4, .int .i64 x_5, .slice x_6p x_6n x_6c], .agg #[.int .i64 e_0, .int .i64 e_1, .int .i64 e_2, .slice e_3p e_3n e_3c, .int .i64 e_4]] fun v => .unTup v fun l => .unCons l fun v vs => .unAgg v fun l => .popI .i64 l fun n vs_1 => .popI .i64 vs_1 fun n_1 vs_2 => .popI .i64 vs_2 fun n_2 vs_3 => .popI .i64 vs_3 fun n_3 vs_4 => .popI .i64 vs_4 fun n_4 vs_5 => .popI .i64 vs_5 fun n_5 vs_6 => .popS vs_6 fun a n_6 c vs_7 => .unNil vs_7 (.unCons vs fun v vs => .unB v fun b => .unNil vs (.blk (.call false 16 #[.agg #[.int .i64 x_0, .int .i64 x_1, .int .i64 x_2, .int .i64 x_3, .int .i64 x_4, .int .i64 x_5, .slice x_6p x_6n x_6c]] fun v => .unB v fun b_1 => bif b_1 then .call false 17 #[] fun v => .unB v fun b => .leaf (.retn [.bool b]) else bif !b then .call false 17 #[] fun v => .unB v fun b => .leaf (.retn [.bool b]) else bif e_0 != 3 then bif e_0 != 1 then bif e_0 != 4 then .call false 17 #[] fun v => .unB v fun b => .leaf (.retn [.bool b]) else .leaf (.again [.bool false]) else .leaf (.again [.bool false]) else .leaf (.again [.bool false])) (fun vs => .popB vs fun b vs => .unNil vs (.need (x_1 ≠ 0) (.call false 32 #[.int .u16 day] fun v => .unI .i64 v fun n_7 => .need (x_1 ≠ 0) (.nd (.int .i64 (Int.tmod (IntKind.wrap .i64 land) x_1)) (.nd (.int .i64 x_1) (.need (AV.pp 4 1 = AV.pp 4 1) (.nd (.int .i64 (IntKind.wrap .i64 land)) (.nd (.int .u8 land) (.blk (bif decide (n_7 < e_1) then .call false 34 #[.agg #[.int .i64 x_0, .int .i64 x_1, .int .i64 x_2, .int .i64 x_3, .int .i64 x_4, .int .i64 x_5, .slice x_6p x_6n x_6c], .agg #[.int .i64 n, .int .i64 n_1, .int .i64 n_2, .int .i64 n_3, .int .i64 n_4, .int .i64 n_5, .slice a n_6 c], .int .i64 (Int.tmod (IntKind.wrap .i64 land) x_1), .int .i64 n_7] fun v => .unB v fun b => bif b then .call false 17 #[] fun v => .unB v fun b => .leaf (.retn [.bool b]) else .leaf (.retn [.bool false]) else bif Int.tmod (IntKind.wrap .i64 land) x_1 != e_2 then bif e_0 != 4 then .call false 34 #[.agg #[.int .i64 x_0, .int .i64 x_1, .int .i64 x_2, .int .i64 x_3, .int .i64 x_4, .int .i64 x_5, .slice x_6p x_6n x_6c], .agg #[.int .i64 n, .int .i64 n_1, .int .i64 n_2, .int .i64 n_3, .int .i64 n_4, .int .i64 n_5, .slice a n_6 c], .int .i64 (Int.tmod (IntKind.wrap .i64 land) x_1), .int .i64 n_7] fun v => .unB v fun b => bif b then .call false 17 #[] fun v => .unB v fun b => .leaf (.retn [.bool b]) else .leaf (.retn [.bool false]) else .leaf (.again [.bool b]) else .leaf (.again [.bool b])) (fun vs => .popB vs fun b vs => .unNil vs (bif e_0 == 4 then .call false 36 #[.agg #[.int .i64 n, .int .i64 n_1, .int .i64 n_2, .int .i64 n_3, .int .i64 n_4, .int .i64 n_5, .slice a n_6 c]] fun v => .unAgg v fun l => .popI .i64 l fun n vs => .popI .i64 vs fun n_8 vs => .popI .i64 vs fun n_9 vs => .popI .i64 vs fun n_10 vs => .popI .i64 vs fun n_11 vs => .popI .i64 vs fun n_12 vs => .popS vs fun a n_13 c vs => .unNil vs (.nd (.int .i64 n_7) (.nd (.int .i64 (Int.tmod (IntKind.wrap .i64 land) x_1)) (.nd (.agg #[.int .i64 x_0, .int .i64 x_1, .int .i64 x_2, .int .i64 x_3, .int .i64 x_4, .int .i64 x_5, .slice x_6p x_6n x_6c]) (.call false 36 #[.agg #[.int .i64 x_0, .int .i64 x_1, .int .i64 x_2, .int .i64 x_3, .int .i64 x_4, .int .i64 x_5, .slice x_6p x_6n x_6c]] fun v => .unAgg v fun l => .popI .i64 l fun n_14 vs => .popI .i64 vs fun n_15 vs => .popI .i64 vs fun n_16 vs => .popI .i64 vs fun n_17 vs => .popI .i64 vs fun n_18 vs => .popI .i64 vs fun n_19 vs => .popS vs fun a_1 n_20 c_1 vs => .unNil vs (.nd (.int .i64 n_7) (.nd (.int .i64 (Int.tmod (IntKind.wrap .i64 land) x_1)) (.call false 40 #[.agg #[.int .i64 n, .int .i64 n_8, .int .i64 n_9, .int .i64 n_10, .int .i64 n_11, .int .i64 n_12, .slice a n_13 c], .agg #[.int .i64 n_14, .int .i64 n_15, .int .i64 n_16, .int .i64 n_17, .int .i64 n_18, .int .i64 n_19, .slice a_1 n_20 c_1], .int .i64 (Int.tmod (IntKind.wrap .i64 land) x_1), .int .i64 n_7] fun v => .unB v fun b => bif b then .call false 17 #[] fun v => .unB v fun b => .leaf (.ret (.bool b)) else .leaf (.ret (.bool false))))))))) else .call false 40 #[.agg #[.int .i64 n, .int .i64 n_1, .int .i64 n_2, .int .i64 n_3, .int .i64 n_4, .int .i64 n_5, .slice a n_6 c], .agg #[.int .i64 x_0, .int .i64 x_1, .int .i64 x_2, .int .i64 x_3, .int .i64 x_4, .int .i64 x_5, .slice x_6p x_6n x_6c], .int .i64 (Int.tmod (IntKind.wrap .i64 land) x_1), .int .i64 n_7] fun v => .unB v fun b_1 => bif !b_1 then .leaf (.ret (.bool false)) else .call false 18 #[.agg #[.int .i64 n, .int .i64 n_1, .int .i64 n_2, .int .i64 n_3, .int .i64 n_4, .int .i64 n_5, .slice a n_6 c], .int .i64 e_2, .int .i64 e_1] fun v => .unTup v fun l => .unCons l fun v vs => .unS v fun a n c => .unCons vs fun v vs => .unI .i64 v fun n_8 => .unNil vs (.blk (bif n_8 != 0 then .leaf (.retn [.bool false]) else bif (↑n : Int) != x_0 then .leaf (.retn [.bool false]) else .leaf (.again [.bool b])) (fun vs => .popB vs fun b vs => .unNil vs (.loop [.bool b, .int .i64 0] (fun vs => .popB vs fun b vs => .popI .i64 vs fun n_9 vs => .unNil vs (.blk (bif decide (n_9 < (↑e_3n : Int)) then bif e_0 == 3 then .leaf (.again []) else .leaf (.out 0 []) else .leaf (.out 0 [])) (fun vs => .unNil vs (.need (0 ≤ n_9 ∧ n_9 < (↑e_3n : Int)) (.someA e_3p fun a_1 => .loadI .i64 (Addr.add a_1 (Int.toNat n_9 * 1)) fun n_10 => .need (0 ≤ n_10 ∧ n_10 < (↑n : Int)) (.someA a fun a => .loadB (Addr.add a (Int.toNat n_10 * 1)) fun b_2 => bif b_2 then .leaf (.retn [.bool false, .int .i64 n_9]) else .leaf (.again [.bool b, .int .i64 (IntKind.wrap .i64 (n_9 + 1))]))))) (fun vs => .unNil vs (.leaf (.retn [.bool b, .int .i64 n_9]))) fun x x_6 => bif Nat.beq x 0 then .unNil x_6 (.leaf (.brk [.bool b, .int .i64 n_9])) else .fail)) (fun vs => .popB vs fun b vs => .popI .i64 vs fun n vs => .unNil vs (.call false 17 #[] fun v => .unB v fun b => .leaf (.ret (.bool b)))) (fun vs => .popB vs fun b vs => .popI .i64 vs fun n vs => .unNil vs (.leaf (.ret (.bool b)))) fun x x_6 => .fail)) (fun vs => .popB vs fun b vs => .unNil vs (.leaf (.ret (.bool b)))) fun x x_6 => .fail))) (fun vs => .popB vs fun b vs => .unNil vs (.leaf (.ret (.bool b)))) fun x x_6 => .fail))))))))) (fun vs => .popB vs fun b vs => .unNil vs (.leaf (.ret (.bool b)))) fun x x_6 => .fail))
theorem t2009 (x_0 : Int) (x_1 : Int) (x_2 : Int) (x_3 : Int) (x_4 : Int) (x_5 : Int) (x_6p : Option Addr) (x_6n x_6c : Nat) (e_0 : Int) (e_1 : Int) (e_2 : Int) (e_3p : Option Addr) (e_3n e_3c : Nat) (e_4 : Int) (land : Int) (day : Int) : ftree ({ P := Tryd.prog, priv := [4, 5, 9], loops := [{ id := 0, slots := [(8, .bool), (15, .int .i64)], ro := [4, 5, 9], outs := [] }], joins := [{ id := 17, slots := [], ro := [4, 5, 9], outs := [0] }, { id := 14, slots := [(8, .bool)], ro := [4, 5, 9], outs := [] }, { id := 7, slots := [(8, .bool)], ro := [4, 5, 9], outs := [] }, { id := 4, slots := [(8, .bool)], ro := [4, 5, 9], outs := [] }] }) Tryd.f9 [.agg #[.int .i64 x_0, .int .i64 x_1, .int .i64 x_2, .int .i64 x_3, .int .i64 x_4, .int .i64 x_5, .slice x_6p x_6n x_6c], .agg #[.int .i64 e_0, .int .i64 e_1, .int .i64 e_2, .slice e_3p e_3n e_3c, .int .i64 e_4], .int .u8 land, .int .u16 day] = n2009 x_0 x_1 x_2 x_3 x_4 x_5 x_6p x_6n x_6c e_0 e_1 e_2 e_3p e_3n e_3c e_4 land day := by kernel_rfl
theorem w2009 (x_0 : Int) (x_1 : Int) (x_2 : Int) (x_3 : Int) (x_4 : Int) (x_5 : Int) (x_6p : Option Addr) (x_6n x_6c : Nat) (e_0 : Int) (e_1 : Int) (e_2 : Int) (e_3p : Option Addr) (e_3n e_3c : Nat) (e_4 : Int) (land : Int) (day : Int) {X : XP} (hX : XOK X) {h : LH} {A : Value → LH → Prop} (hw : (n2009 x_0 x_1 x_2 x_3 x_4 x_5 x_6p x_6n x_6c e_0 e_1 e_2 e_3p e_3n e_3c e_4 land day).wp X Tryd.prog (retQ A) h) : FWK X Tryd.prog .normal 9 #[.agg #[.int .i64 x_0, .int .i64 x_1, .int .i64 x_2, .int .i64 x_3, .int .i64 x_4, .int .i64 x_5, .slice x_6p x_6n x_6c], .agg #[.int .i64 e_0, .int .i64 e_1, .int .i64 e_2, .slice e_3p e_3n e_3c, .int .i64 e_4], .int .u8 land, .int .u16 day] h A := fwk_neat (t2009 x_0 x_1 x_2 x_3 x_4 x_5 x_6p x_6n x_6c e_0 e_1 e_2 e_3p e_3n e_3c e_4 land day) (by simp) (by kernel_rfl) (by kernel_rfl) hX hw
end Go.Proofs.YtbmfimaomcnkfaaDoor
end
section
namespace Go.Proofs.YtbmfimaomcnkfaaDoor
open Go Go.TM Go.Proofs Go.TM.Tr
attribute [local irreducible] T.wp CV FWK
theorem check_less {x : TF} (h : checkT x = 0) {l : List Ev} (h1 : l.length ≤ x.events.length) (h2 : ∀ e ∈ l, e ∈ x.events) : checkT { x with events := l } = 0 :=
  check_events h (Nat.le_trans h1 (check_numbers h).2.2.2.2.2.2) fun e he => event_ok.1 (check_event h e (h2 e he))
theorem check_add {x : TF} {e : Ev} (h : checkT (add x e) = 0) : checkT x = 0 := by
  have := check_less h (l := x.events) (by show _ ≤ (x.events ++ [e]).length; simp) fun c hc => by show c ∈ x.events ++ [e]; simp [hc]
  exact this
theorem check_unturned {x : TF} (h : checkT x = 0) : checkT (unturned x) = 0 :=
  check_less h (List.length_filter_le _ _) fun e he => (List.mem_filter.1 he).1
theorem added_ok {x : TF} {e : Ev} (h : checkT (add x e) = 0) : EventOk (add x e) e := event_ok.1 (check_event h e (by show e ∈ x.events ++ [e]; simp))
theorem same_on {x y : TF} {k d : Int} (hi : y.items = x.items) (hd : d < 10000) (hf : ∀ i : Int, Facts x y k i d) : SameOn x y k d := ⟨hi, fun i _ => (hf i).dateOn hd⟩
end Go.Proofs.YtbmfimaomcnkfaaDoor
end
section
namespace Go.Proofs.YtbmfimaomcnkfaaDoor
open Go Go.TM Go.Proofs Go.TM.Tr
attribute [local irreducible] T.wp CV FWK
set_option maxRecDepth 10000 in
theorem c2009 {h : LH} (hch : h.chans = []) (hpe : h.pend = []) (hk : Kinds h.get) {f : TC} {x : TF} (hx : TreatyR h.get f x) (hbig : x.events.length * 56 ≤ 2 ^ 47) {e : Ev} {q : Option Addr} {m c : Nat} (hm : m ≤ c) (he : Sl IntE 1 h.get q m e.items) (land : Int) (hl : 0 ≤ land ∧ land ≤ 255) (day : Int) (hd : 0 ≤ day ∧ day ≤ 65535) :
    FW XT Tryd.prog 9 #[treatyV f x, eventV e q m c, .int .u8 land, .int .u16 day] h (Fin h) := by
  refine w2009 _ _ _ _ _ _ _ _ _ _ _ _ _ _ _ _ _ _ XT_ok ?_
  unfold n2009
  refine t_gr (c2035 hx hbig hm he) ?_
  rintro _ h1 le1 ⟨g, b, rfl, hy, hb⟩
  have ey : treatyV g (add x e) = .agg #[.int .i64 x.items, .int .i64 x.lands, .int .i64 x.start, .int .i64 x.depend, .int .i64 x.refuse, .int .i64 x.turn, .slice g.p g.n g.c] := rfl
  rw [ey]
  (repeat (first | (with_reducible first | apply gA | apply gB | apply gC | apply gD | apply gE | apply gF | apply gG | apply gH | apply gI | apply gJ | apply gK | apply gL | apply gM | apply gN | apply gO | apply gP | apply gQ | apply gR | apply gP2 | apply gP3) | ((with_reducible first | apply gT | apply gS2); first | exact rfl | assumption | omega | exact ⟨⟩) | ((with_reducible first | apply gL0 | apply gL1 | apply gL2 | apply gL3 | apply gL4); assumption)))
  have hk1 := hk.le le1.1
  have hx1 := hx.le le1.1
  refine t_blk (fun vs h' => vs = [.bool false] ∧ h1 = h' ∧ b = true ∧ (e.kind = 3 ∨ e.kind = 1 ∨ e.kind = 4)) ?_ ?_
  · refine t_pu (c2016 hx1) ?_
    (repeat (first | (with_reducible first | apply gA | apply gB | apply gC | apply gD | apply gE | apply gF | apply gG | apply gH | apply gI | apply gJ | apply gK | apply gL | apply gM | apply gN | apply gO | apply gP | apply gQ | apply gR | apply gP2 | apply gP3) | ((with_reducible first | apply gT | apply gS2); first | exact rfl | assumption | omega | exact ⟨⟩) | ((with_reducible first | apply gL0 | apply gL1 | apply gL2 | apply gL3 | apply gL4); assumption)))
    refine t_cond (fun _ => ?_) (fun _ => ?_)
    · refine t_shown hk (.of hch hpe le1) fun h' hh => ?_
      refine gI ?_
      (repeat (first | (with_reducible first | apply gA | apply gB | apply gC | apply gD | apply gE | apply gF | apply gG | apply gH | apply gI | apply gJ | apply gK | apply gL | apply gM | apply gN | apply gO | apply gP | apply gQ | apply gR | apply gP2 | apply gP3) | ((with_reducible first | apply gT | apply gS2); first | exact rfl | assumption | omega | exact ⟨⟩) | ((with_reducible first | apply gL0 | apply gL1 | apply gL2 | apply gL3 | apply gL4); assumption)))
      exact t_ret hh.fin
    refine t_cond (fun _ => ?_) (fun e1 => ?_)
    · refine t_shown hk (.of hch hpe le1) fun h' hh => ?_
      refine gI ?_
      (repeat (first | (with_reducible first | apply gA | apply gB | apply gC | apply gD | apply gE | apply gF | apply gG | apply gH | apply gI | apply gJ | apply gK | apply gL | apply gM | apply gN | apply gO | apply gP | apply gQ | apply gR | apply gP2 | apply gP3) | ((with_reducible first | apply gT | apply gS2); first | exact rfl | assumption | omega | exact ⟨⟩) | ((with_reducible first | apply gL0 | apply gL1 | apply gL2 | apply gL3 | apply gL4); assumption)))
      exact t_ret hh.fin
    refine t_cond (fun _ => ?_) (fun e2 => ?_)
    · refine t_cond (fun _ => ?_) (fun e3 => ?_)
      · refine t_cond (fun _ => ?_) (fun e4 => ?_)
        · refine t_shown hk (.of hch hpe le1) fun h' hh => ?_
          refine gI ?_
          (repeat (first | (with_reducible first | apply gA | apply gB | apply gC | apply gD | apply gE | apply gF | apply gG | apply gH | apply gI | apply gJ | apply gK | apply gL | apply gM | apply gN | apply gO | apply gP | apply gQ | apply gR | apply gP2 | apply gP3) | ((with_reducible first | apply gT | apply gS2); first | exact rfl | assumption | omega | exact ⟨⟩) | ((with_reducible first | apply gL0 | apply gL1 | apply gL2 | apply gL3 | apply gL4); assumption)))
          exact t_ret hh.fin
        · exact t_again ⟨rfl, rfl, by simpa using e1, .inr (.inr (by simpa using e4))⟩
      · exact t_again ⟨rfl, rfl, by simpa using e1, .inr (.inl (by simpa using e3))⟩
    exact t_again ⟨rfl, rfl, by simpa using e1, .inl (by simpa using e2)⟩
  rintro vs _ ⟨rfl, rfl, rfl, hK⟩
  have hcy := hb rfl
  have hcx := check_add hcy
  have hnum := check_numbers hcx
  have okx := check_ok hcx
  have oky := check_ok hcy
  have hvok := added_ok hcy
  have hday := hvok.day
  have hland := hvok.land
  have hland' : 0 ≤ e.land ∧ e.land < x.lands := hland
  obtain ⟨ek, hk0, hk1'⟩ := mod_in (m := x.lands) (n := land) (by omega) (by omega)
  have hd9 := day_mod day
  have hl0 : x.lands ≠ 0 := by omega
  rw [ek]
  generalize land % x.lands = k at hk0 hk1'
  (repeat (first | (with_reducible first | apply gA | apply gB | apply gC | apply gD | apply gE | apply gF | apply gG | apply gH | apply gI | apply gJ | apply gK | apply gL | apply gM | apply gN | apply gO | apply gP | apply gQ | apply gR | apply gP2 | apply gP3) | ((with_reducible first | apply gT | apply gS2); first | exact rfl | assumption | omega | exact ⟨⟩) | ((with_reducible first | apply gL0 | apply gL1 | apply gL2 | apply gL3 | apply gL4); assumption)))
  refine t_pu (c2032 hd) ?_
  generalize day % 10000 = d at hd9
  (repeat (first | (with_reducible first | apply gA | apply gB | apply gC | apply gD | apply gE | apply gF | apply gG | apply gH | apply gI | apply gJ | apply gK | apply gL | apply gM | apply gN | apply gO | apply gP | apply gQ | apply gR | apply gP2 | apply gP3) | ((with_reducible first | apply gT | apply gS2); first | exact rfl | assumption | omega | exact ⟨⟩) | ((with_reducible first | apply gL0 | apply gL1 | apply gL2 | apply gL3 | apply gL4); assumption)))
  have ax := asked_fit hcx ⟨hk0, hk1'⟩ hd9
  have ay := asked_fit hcy ⟨hk0, hk1'⟩ hd9
  refine t_blk (fun vs h' => vs = [.bool false] ∧ h1 = h') ?_ ?_
  · refine t_if (fun e1 => ?_) (fun e1 => ?_)
    · refine t_gr (c2034 (y := add x e) hk1 hx1 hy ax ay (same_on rfl (by omega) fun i => add_before e1)) ?_
      rintro _ h2 le2 rfl
      (repeat (first | (with_reducible first | apply gA | apply gB | apply gC | apply gD | apply gE | apply gF | apply gG | apply gH | apply gI | apply gJ | apply gK | apply gL | apply gM | apply gN | apply gO | apply gP | apply gQ | apply gR | apply gP2 | apply gP3) | ((with_reducible first | apply gT | apply gS2); first | exact rfl | assumption | omega | exact ⟨⟩) | ((with_reducible first | apply gL0 | apply gL1 | apply gL2 | apply gL3 | apply gL4); assumption)))
      refine t_cond (fun _ => ?_) (fun e => by cases e)
      refine t_shown hk (.of hch hpe (LH.le_trans le1 le2)) fun h' hh => ?_
      refine gI ?_
      (repeat (first | (with_reducible first | apply gA | apply gB | apply gC | apply gD | apply gE | apply gF | apply gG | apply gH | apply gI | apply gJ | apply gK | apply gL | apply gM | apply gN | apply gO | apply gP | apply gQ | apply gR | apply gP2 | apply gP3) | ((with_reducible first | apply gT | apply gS2); first | exact rfl | assumption | omega | exact ⟨⟩) | ((with_reducible first | apply gL0 | apply gL1 | apply gL2 | apply gL3 | apply gL4); assumption)))
      exact t_ret hh.fin
    refine t_cond (fun e2 => ?_) (fun e2 => ?_)
    · refine t_cond (fun e3 => ?_) (fun e3 => ?_)
      · refine t_gr (c2034 (y := add x e) hk1 hx1 hy ax ay (same_on rfl (by omega) fun i => add_elsewhere (by simp at e2; omega) (by simpa using e3))) ?_
        rintro _ h2 le2 rfl
        (repeat (first | (with_reducible first | apply gA | apply gB | apply gC | apply gD | apply gE | apply gF | apply gG | apply gH | apply gI | apply gJ | apply gK | apply gL | apply gM | apply gN | apply gO | apply gP | apply gQ | apply gR | apply gP2 | apply gP3) | ((with_reducible first | apply gT | apply gS2); first | exact rfl | assumption | omega | exact ⟨⟩) | ((with_reducible first | apply gL0 | apply gL1 | apply gL2 | apply gL3 | apply gL4); assumption)))
        refine t_cond (fun _ => ?_) (fun e => by cases e)
        refine t_shown hk (.of hch hpe (LH.le_trans le1 le2)) fun h' hh => ?_
        refine gI ?_
        (repeat (first | (with_reducible first | apply gA | apply gB | apply gC | apply gD | apply gE | apply gF | apply gG | apply gH | apply gI | apply gJ | apply gK | apply gL | apply gM | apply gN | apply gO | apply gP | apply gQ | apply gR | apply gP2 | apply gP3) | ((with_reducible first | apply gT | apply gS2); first | exact rfl | assumption | omega | exact ⟨⟩) | ((with_reducible first | apply gL0 | apply gL1 | apply gL2 | apply gL3 | apply gL4); assumption)))
        exact t_ret hh.fin
      · exact t_again ⟨rfl, rfl⟩
    · exact t_again ⟨rfl, rfl⟩
  rintro vs _ ⟨rfl, rfl⟩
  (repeat (first | (with_reducible first | apply gA | apply gB | apply gC | apply gD | apply gE | apply gF | apply gG | apply gH | apply gI | apply gJ | apply gK | apply gL | apply gM | apply gN | apply gO | apply gP | apply gQ | apply gR | apply gP2 | apply gP3) | ((with_reducible first | apply gT | apply gS2); first | exact rfl | assumption | omega | exact ⟨⟩) | ((with_reducible first | apply gL0 | apply gL1 | apply gL2 | apply gL3 | apply gL4); assumption)))
  refine t_cond (fun e1 => ?_) (fun e1 => ?_)
  · have h4 : e.kind = 4 := by simpa using e1
    refine t_gr (c2036 (x := add x e) hy (check_numbers hcy).2.2.2.2.2.2) ?_
    rintro _ h2 le2 ⟨g', rfl, hu⟩
    have eu : treatyV g' (unturned (add x e)) = .agg #[.int .i64 x.items, .int .i64 x.lands, .int .i64 x.start, .int .i64 x.depend, .int .i64 x.refuse, .int .i64 x.turn, .slice g'.p g'.n g'.c] := rfl
    rw [eu]
    (repeat (first | (with_reducible first | apply gA | apply gB | apply gC | apply gD | apply gE | apply gF | apply gG | apply gH | apply gI | apply gJ | apply gK | apply gL | apply gM | apply gN | apply gO | apply gP | apply gQ | apply gR | apply gP2 | apply gP3) | ((with_reducible first | apply gT | apply gS2); first | exact rfl | assumption | omega | exact ⟨⟩) | ((with_reducible first | apply gL0 | apply gL1 | apply gL2 | apply gL3 | apply gL4); assumption)))
    refine t_gr (c2036 (x := x) (hx1.le le2.1) hnum.2.2.2.2.2.2) ?_
    rintro _ h3 le3 ⟨g'', rfl, hu2⟩
    have eu2 : treatyV g'' (unturned x) = .agg #[.int .i64 x.items, .int .i64 x.lands, .int .i64 x.start, .int .i64 x.depend, .int .i64 x.refuse, .int .i64 x.turn, .slice g''.p g''.n g''.c] := rfl
    rw [eu2]
    (repeat (first | (with_reducible first | apply gA | apply gB | apply gC | apply gD | apply gE | apply gF | apply gG | apply gH | apply gI | apply gJ | apply gK | apply gL | apply gM | apply gN | apply gO | apply gP | apply gQ | apply gR | apply gP2 | apply gP3) | ((with_reducible first | apply gT | apply gS2); first | exact rfl | assumption | omega | exact ⟨⟩) | ((with_reducible first | apply gL0 | apply gL1 | apply gL2 | apply gL3 | apply gL4); assumption)))
    have le13 := LH.le_trans le2 le3
    refine t_gr (c2040 (x := unturned (add x e)) (y := unturned x) (hk1.le le13.1) (hu.le le3.1) hu2 (asked_fit (check_unturned hcy) ⟨hk0, hk1'⟩ hd9) (asked_fit (check_unturned hcx) ⟨hk0, hk1'⟩ hd9) rfl fun i _ h0 => (add_falls h4 k i).protects (ok_unturned okx) (ok_unturned oky) h0) ?_
    rintro _ h5 le5 rfl
    (repeat (first | (with_reducible first | apply gA | apply gB | apply gC | apply gD | apply gE | apply gF | apply gG | apply gH | apply gI | apply gJ | apply gK | apply gL | apply gM | apply gN | apply gO | apply gP | apply gQ | apply gR | apply gP2 | apply gP3) | ((with_reducible first | apply gT | apply gS2); first | exact rfl | assumption | omega | exact ⟨⟩) | ((with_reducible first | apply gL0 | apply gL1 | apply gL2 | apply gL3 | apply gL4); assumption)))
    refine t_cond (fun _ => ?_) (fun e => by cases e)
    exact t_shown hk (.of hch hpe (LH.le_trans le1 (LH.le_trans le13 le5))) fun h' hh => t_ret hh.fin
  have h31 : e.kind = 1 ∨ e.kind = 3 := by simp at e1; omega
  refine t_gr (c2040 (x := add x e) (y := x) hk1 hy hx1 ay ax rfl fun i _ h0 => (add_takes h31 k i).protects okx oky h0) ?_
  rintro _ h2 le2 rfl
  (repeat (first | (with_reducible first | apply gA | apply gB | apply gC | apply gD | apply gE | apply gF | apply gG | apply gH | apply gI | apply gJ | apply gK | apply gL | apply gM | apply gN | apply gO | apply gP | apply gQ | apply gR | apply gP2 | apply gP3) | ((with_reducible first | apply gT | apply gS2); first | exact rfl | assumption | omega | exact ⟨⟩) | ((with_reducible first | apply gL0 | apply gL1 | apply gL2 | apply gL3 | apply gL4); assumption)))
  refine t_cond (fun e => by cases e) (fun _ => ?_)
  have au := asked_fit hcy (k := e.land) (d := e.day) hland hday
  refine t_gr (c2018 (x := add x e) (hk1.le le2.1) (hy.le le2.1) e.land e.day) ?_
  intro r3 h3 le3 hr
  obtain ⟨p3, n3, k3, rfl, s3, _⟩ := hr.form
  rw [au]; rw [protA, if_pos au] at s3
  (repeat (first | (with_reducible first | apply gA | apply gB | apply gC | apply gD | apply gE | apply gF | apply gG | apply gH | apply gI | apply gJ | apply gK | apply gL | apply gM | apply gN | apply gO | apply gP | apply gQ | apply gR | apply gP2 | apply gP3) | ((with_reducible first | apply gT | apply gS2); first | exact rfl | assumption | omega | exact ⟨⟩) | ((with_reducible first | apply gL0 | apply gL1 | apply gL2 | apply gL3 | apply gL4); assumption)))
  have m3 := s3.1
  rw [prot_len] at m3
  have m3' : n3 = x.items.toNat := m3
  have le13 := LH.le_trans le2 le3
  have le03 := LH.le_trans le1 le13
  have hse := he.le IntE.grow le03.1
  have hmn := hse.1
  have hmb := hse.2.1
  have hin := (items_ok hvok.items).1
  refine t_blk (fun vs h' => vs = [.bool false] ∧ h3 = h') ?_ ?_
  · refine t_cond (fun e => absurd e (by simp)) (fun _ => ?_)
    refine t_cond (fun e => absurd e (by simp; omega)) (fun _ => ?_)
    exact t_again ⟨rfl, rfl⟩
  rintro vs _ ⟨rfl, rfl⟩
  (repeat (first | (with_reducible first | apply gA | apply gB | apply gC | apply gD | apply gE | apply gF | apply gG | apply gH | apply gI | apply gJ | apply gK | apply gL | apply gM | apply gN | apply gO | apply gP | apply gQ | apply gR | apply gP2 | apply gP3) | ((with_reducible first | apply gT | apply gS2); first | exact rfl | assumption | omega | exact ⟨⟩) | ((with_reducible first | apply gL0 | apply gL1 | apply gL2 | apply gL3 | apply gL4); assumption)))
  refine t_loop (fun mm vs h' => h3 = h' ∧ ∃ j : Nat, vs = [.bool false, .int .i64 j] ∧ j ≤ m ∧ mm = m - j) ⟨rfl, 0, rfl, Nat.zero_le _, rfl⟩ ?_
  rintro Y mm vs _ hY ⟨rfl, j, rfl, hj, rfl⟩
  (repeat (first | (with_reducible first | apply gA | apply gB | apply gC | apply gD | apply gE | apply gF | apply gG | apply gH | apply gI | apply gJ | apply gK | apply gL | apply gM | apply gN | apply gO | apply gP | apply gQ | apply gR | apply gP2 | apply gP3) | ((with_reducible first | apply gT | apply gS2); first | exact rfl | assumption | omega | exact ⟨⟩) | ((with_reducible first | apply gL0 | apply gL1 | apply gL2 | apply gL3 | apply gL4); assumption)))
  have stop : ∀ {h' : LH}, Idle h h' → Fin h (.bool true) h' := fun i => i.fin
  refine t_blk (fun vs h' => vs = [] ∧ h3 = h' ∧ j < m ∧ e.kind = 3) ?_ ?_
  · refine t_if (fun e2 => ?_) (fun e2 => ?_)
    · refine t_cond (fun e3 => ?_) (fun e3 => ?_)
      · exact t_again ⟨rfl, rfl, by omega, by simpa using e3⟩
      · refine gR ?_
        show T.wp _ _ (bif Nat.beq 0 0 then _ else _) _ _
        refine t_cond (fun _ => ?_) (fun e => by cases e)
        (repeat (first | (with_reducible first | apply gA | apply gB | apply gC | apply gD | apply gE | apply gF | apply gG | apply gH | apply gI | apply gJ | apply gK | apply gL | apply gM | apply gN | apply gO | apply gP | apply gQ | apply gR | apply gP2 | apply gP3) | ((with_reducible first | apply gT | apply gS2); first | exact rfl | assumption | omega | exact ⟨⟩) | ((with_reducible first | apply gL0 | apply gL1 | apply gL2 | apply gL3 | apply gL4); assumption)))
        exact t_shown hk (.of hch hpe le03) fun h' hh => t_ret hh.fin
    · refine gR ?_
      show T.wp _ _ (bif Nat.beq 0 0 then _ else _) _ _
      refine t_cond (fun _ => ?_) (fun e => by cases e)
      (repeat (first | (with_reducible first | apply gA | apply gB | apply gC | apply gD | apply gE | apply gF | apply gG | apply gH | apply gI | apply gJ | apply gK | apply gL | apply gM | apply gN | apply gO | apply gP | apply gQ | apply gR | apply gP2 | apply gP3) | ((with_reducible first | apply gT | apply gS2); first | exact rfl | assumption | omega | exact ⟨⟩) | ((with_reducible first | apply gL0 | apply gL1 | apply gL2 | apply gL3 | apply gL4); assumption)))
      exact t_shown hk (.of hch hpe le03) fun h' hh => t_ret hh.fin
  rintro vs _ ⟨rfl, rfl, hjm, h3k⟩
  (repeat (first | (with_reducible first | apply gA | apply gB | apply gC | apply gD | apply gE | apply gF | apply gG | apply gH | apply gI | apply gJ | apply gK | apply gL | apply gM | apply gN | apply gO | apply gP | apply gQ | apply gR | apply gP2 | apply gP3) | ((with_reducible first | apply gT | apply gS2); first | exact rfl | assumption | omega | exact ⟨⟩) | ((with_reducible first | apply gL0 | apply gL1 | apply gL2 | apply gL3 | apply gL4); assumption)))
  obtain ⟨i, a, hi, ha, e3⟩ := hse.at (i := j) (by omega)
  unfold IntE at e3
  have him := List.mem_of_getElem? hi
  have hib := hin i him
  have hib' : i < x.items := hib.2
  obtain ⟨a2, ha2, g2⟩ := bool_at s3 (prot_at (x := add x e) (k := e.land) (d := e.day) (j := i.toNat) (by show i.toNat < x.items.toNat; omega))
  have hci : ((i.toNat : Nat) : Int) = i := by omega
  have hgone : ¬ dateOn (add x e) e.land i e.day ≥ 0 := by
    refine given_up oky (has_add.2 (.inr ⟨?_, rfl⟩))
    unfold about
    rw [h3k]
    simpa using him
  rw [hci, decide_eq_false hgone] at g2
  (repeat (first | (with_reducible first | apply gA | apply gB | apply gC | apply gD | apply gE | apply gF | apply gG | apply gH | apply gI | apply gJ | apply gK | apply gL | apply gM | apply gN | apply gO | apply gP | apply gQ | apply gR | apply gP2 | apply gP3) | ((with_reducible first | apply gT | apply gS2); first | exact rfl | assumption | omega | exact ⟨⟩) | ((with_reducible first | apply gL0 | apply gL1 | apply gL2 | apply gL3 | apply gL4); assumption)))
  refine t_cond (fun e => by cases e) (fun _ => ?_)
  refine t_again (hY (m - (j + 1)) _ _ (by omega) ⟨rfl, j + 1, ?_, by omega, rfl⟩)
  rw [wrap_id (by omega) (by omega)]; rfl
end Go.Proofs.YtbmfimaomcnkfaaDoor
end
section
namespace Go.Proofs.YtbmfimaomcnkfaaDoor
open Go Go.TM Go.Proofs Go.ChangeShapes Go.WideShapes Go.RowKit
set_option maxRecDepth 100000
theorem treatyTaking_lifted (os : Os) (started : os.Started) (H : Type) (enc : TypeId × Value → H) :
    ReturnsInLeavingWide {} Tryd.checked os 9 .any (fun w args => (Rows.treatyTakingSpec.pre enc Tryd.prog Tryd.f9 [] false w args ∧ laidMetH Tryd.prog Rows.treatyStatesRow.laid w) ∧ sizedMet enc Tryd.prog Tryd.f9 (OpenSpec.ofChange Rows.treatyTakingSpec) false w args)
      (Rows.treatyTakingSpec.post enc Tryd.prog Tryd.f9 false true false false) := by
  refine row_leaving (C := Tryd.checked) (tb := 4) own started Tryd.func9 (by kernel_rfl) rfl lo ?_ (by kernel_rfl) Tryd.underlying4 ?_
    (ChangeSpec.witness_shaped (enc := enc) (C := Tryd.checked) (os := os) (X := fun w _ => laidMetH Tryd.prog Rows.treatyStatesRow.laid w) false (World.doorLaid Tryd.prog 200 os) #[noFile, .agg #[.int .i64 0, .int .i64 0, .int .i64 0, .slice none 0 0, .int .i64 0], .int .u8 0, .int .u16 0] 8 rfl (door_shaped os _) (by kernel_rfl) (by kernel_rfl) (by kernel_rfl) (door_met os _)) ?_
  · exact fun t ht => of_decide_eq_true (List.all_eq_true.1 (show (Tryd.f9.params.toList.all fun t => decide (Tryd.prog.readableRec t = true ∧ t < Tryd.prog.types.size)) = true by kernel_rfl) t ht)
  · intro ds hd
    match ds, (show ds.length = 4 from hd) with
    | [d0, d1, d2, d3], _ => rfl
  · intro W base args ds ps hval0 hA0 hz0 hL
    have hval : ∀ (j : Nat) t v, Tryd.f9.params[j]? = some t → args[j]? = some v → Value.okWide Tryd.prog W .any base t v := hval0
    have hz : ∀ (j : Nat) t d, Tryd.f9.params.toList[j]? = some t → ds[j]? = some d → Light Tryd.prog t d := hz0
    have hA : DataW.TrodAll enc Tryd.prog W 0 (fun _ => true) true Tryd.f9.params.toList args.toList ds ps := hA0
    rw [Tryd.params9] at hval hz hA
    obtain ⟨v0, v1, v2, v3, d0, d1, d2, d3, q00, q01, q02, q03, rfl, rfl, rfl, h0, h1, h2, h3⟩ := trodAll_four hA
    obtain ⟨f0, u0, rfl, hu0, hb0⟩ := treaty_argB (hval 0 24 v0 rfl rfl) (hz 0 24 d0 rfl rfl) h0
    obtain ⟨q1, m1, k1, e1, rfl, hm1, s1⟩ := event_arg TT (hval 1 50 v1 rfl rfl) (hz 1 50 d1 rfl rfl) h1
    obtain ⟨x2, rfl, _, _, w2⟩ := open_int und5 (hval 2 5 v2 rfl rfl) h2
    obtain ⟨x3, rfl, _, _, w3⟩ := open_int und57 (hval 3 43 v3 rfl rfl) h3
    exact FW.mono (c2009 (h := ⟨getW W, [], [], []⟩) rfl rfl (kinds_of_laid hL) hu0 hb0 hm1 s1 x2 (wf_u8 w2) x3 (wf_u16 w3)) fun r h' hq => ⟨hq.1, hq.2.2.1⟩
theorem treatyTaking_row : Rows.TreatyTakingSaid :=
  OpenClaim.holds_of_wide_leaving 9 Tryd.f9 rfl rfl rfl rfl rfl rfl rfl ⟨rfl, rfl, rfl, rfl, rfl⟩ rfl rfl rfl rfl rfl (by kernel_rfl) Tryd.func9 (by kernel_rfl)
    (of_decide_eq_true (by kernel_rfl)) (by unfold Func.isWrapper; first | (rw [if_pos (by decide +kernel)]; kernel_rfl) | (rw [if_neg (by decide +kernel)]; exact ⟨rfl, rfl⟩))
    (fun os started H enc _ => treatyTaking_lifted os started H enc)
theorem treatyTaking_holds : Rows.TreatyTakingCardSaid :=
  card_goes [.data, .funcsDeep] true Rows.treatyTakingCard.stood.harness false treatyTaking_row (by kernel_rfl) treatyTaking_row_tie rfl ⟨rfl, rfl⟩ (by kernel_rfl) rfl
    (fun f fn hf hfn => by
      obtain rfl : f = 9 := Option.some.inj ((show Tryd.prog.funcNamed Rows.treatyTakingRow.func = some 9 by kernel_rfl).symm.trans hf) |>.symm
      obtain rfl : fn = Tryd.f9 := (Option.some.inj (Tryd.func9.symm.trans hfn)).symm
      exact ⟨by kernel_rfl, fun j t ht => by
        have hm := Array.mem_of_getElem? ht
        have := of_decide_eq_true (List.all_eq_true.1 (show (Tryd.f9.params.toList.all fun t => decide (Tryd.prog.wantsStandIn t = false)) = true by kernel_rfl) t (Array.mem_toList_iff.2 hm))
        exact this⟩)
    (by kernel_rfl)
end Go.Proofs.YtbmfimaomcnkfaaDoor
end
#print axioms Go.Proofs.YtbmfimaomcnkfaaDoor.treatyTaking_holds

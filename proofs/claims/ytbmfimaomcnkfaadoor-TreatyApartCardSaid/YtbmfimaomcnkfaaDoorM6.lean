/- The law TreatyApart: what it needs of the road, of its contracts, and its row. -/
import Derived.Test.YtbmfimaomcnkfaaDoorM5
set_option linter.all false
section
namespace Go.TM
open Go Go.Conc
theorem t_sliceMid {P : Program} {X : XP} {Q : Leaf → LH → Prop} {h : LH} {K : Value → T} {t el : TypeId} {s b : Nat} {z : Option Value} {p : Option Addr} {n c i j : Nat} (hu : P.underlying t = some (.slice el)) (hi : (P.info? el).map (fun i => (i.size, i.bytes, i.zero)) = some (s, b, z)) (hij : i ≤ j) (hin : j ≤ c)
    (hk : (K (.slice (if c = i then p else p.map (·.add (i * s))) (j - i) (c - i))).wp X P Q h) : (T.sem false (Instr.sliceAt t (.slice p n c) (some (.int .i64 (i : Int))) (some (.int .i64 (j : Int))) none) K).wp X P Q h := by
  obtain ⟨inf, g1, g2, _, _⟩ := info_of hi
  refine t_sem (A := fun v h' => v = .slice (if c = i then p else p.map (·.add (i * s))) (j - i) (c - i) ∧ h' = h.get) ?_ (by rintro v h' ⟨rfl, rfl⟩; exact hk)
  unfold Instr.sliceAt
  simp only [lwp_bind, lwp_underlying hu]
  unfold Instr.slice
  simp only [lwp_bind, lwp_underlying hu]
  unfold Instr.sliceBounds Instr.sliceBound
  simp only [lwp_bind, lwp_pure, asIntOf, asInt]
  rw [if_pos (show 0 ≤ (j : Int) ∧ (j : Int) ≤ (c : Int) by omega)]
  simp only [lwp_pure, lwp_bind, Int.toNat_natCast]
  rw [if_pos (show 0 ≤ (i : Int) ∧ (i : Int) ≤ (j : Int) by omega)]
  simp only [lwp_pure, lwp_sizeOf g1, Int.toNat_natCast, g2]
  exact ⟨trivial, trivial⟩
theorem Sl.take {α : Type} {E : Cells → Addr → α → Prop} {k : Nat} {h : Cells} {p : Option Addr} {n : Nat} {l : List α} (s : Sl E k h p n l) {i : Nat} (hi : i ≤ n) : Sl E k h p i (l.take i) := by
  have hn := s.1
  have hb := s.2.1
  refine ⟨by rw [List.length_take]; omega, by rw [List.length_take]; omega, fun j x hx => ?_⟩
  rw [List.getElem?_take] at hx
  split at hx
  · exact s.2.2 j x hx
  · cases hx
end Go.TM
namespace Go.Proofs.YtbmfimaomcnkfaaDoor
open Go Go.TM Go.Proofs Go.TM.Tr
attribute [local irreducible] T.wp CV FWK
theorem items_one {v b : Int} (h : 0 ≤ v ∧ v < b) : itemsT [v] b = 0 := by
  simp [itemsT, firstT, Tr.stepT, inB]
  omega
set_option maxRecDepth 10000 in
theorem c2041 {h : LH} {f : TC} {x : TF} (hx : TreatyR h.get f x) (hmany : x.events.length ≤ 10) {w : Nat} {e : Ev} (hw : x.events[w]? = some e) (h5 : e.items.length ≤ 5) :
    Gr Tryd.prog 41 #[treatyV f x, .int .i64 (w : Int)] h fun r h' => ∃ f', r = .tuple #[treatyV f' (apart x w e), .bool (decide ((apart x w e).events.length ≤ 10))] ∧ TreatyR h'.get f' (apart x w e) := by
  refine w2041 _ _ _ _ _ _ _ _ _ _ X0_ok ?_
  unfold n2041
  have hs := hx.2
  have hn := hs.1
  have hfc := hx.1
  have hwl := (List.getElem?_eq_some_iff.1 hw).1
  obtain ⟨e', a, he', ha, g0, g1, g2, ⟨q, mq, cq, g3, hcq, g5⟩, g4⟩ := hs.at (i := w) (by omega)
  obtain rfl := Option.some.inj (hw.symm.trans he')
  have hmq := g5.1
  have hww : IntKind.i64.wrap ((w : Int) + 1) = ((w + 1 : Nat) : Int) := by rw [wrap_id (by omega) (by omega)]; rfl
  have srcT : ∀ h' : LH, h.le h' → Sl (EventB h.get) 5 h'.get f.p w (x.events.take w) := fun h' hle => (EventB.of (Rd.of_le hle.1) hs).take (by omega)
  have srcD : ∀ h' : LH, h.le h' → Sl (EventB h.get) 5 h'.get (if f.c = w + 1 then f.p else f.p.map (·.add ((w + 1) * 5))) (f.n - (w + 1)) (x.events.drop (w + 1)) := fun h' hle => (EventB.of (Rd.of_le hle.1) hs).drop hfc
  (repeat (first | (with_reducible first | apply gA | apply gB | apply gC | apply gD | apply gE | apply gF | apply gG | apply gH | apply gI | apply gJ | apply gK | apply gL | apply gM | apply gN | apply gO | apply gP | apply gQ | apply gR | apply gP2 | apply gP3) | ((with_reducible first | apply gT | apply gS2); first | exact rfl | assumption | omega | exact ⟨⟩) | ((with_reducible first | apply gL0 | apply gL1 | apply gL2 | apply gL3 | apply gL4); assumption)))
  rw [hww]
  refine t_blk (fun vs h' => ∃ p n c, vs = [.int .i64 x.items, .int .i64 x.lands, .int .i64 x.start, .int .i64 x.depend, .int .i64 x.refuse, .int .i64 x.turn, .slice p n c] ∧ h.le h' ∧ Growing (EventEnc h.get) 50 5 h.get h'.get p n c (x.events.take w ++ x.events.drop (w + 1))) ?_ ?_
  · refine t_both ?_ ?_
    · refine t_build0G (h₀ := h) (Enc := EventEnc h.get) undEvs infEv (LH.le_refl _) fun r h1 _ le1 g1 => ?_
      (repeat (first | (with_reducible first | apply gA | apply gB | apply gC | apply gD | apply gE | apply gF | apply gG | apply gH | apply gI | apply gJ | apply gK | apply gL | apply gM | apply gN | apply gO | apply gP | apply gQ | apply gR | apply gP2 | apply gP3) | ((with_reducible first | apply gT | apply gS2); first | exact rfl | assumption | omega | exact ⟨⟩) | ((with_reducible first | apply gL0 | apply gL1 | apply gL2 | apply gL3 | apply gL4); assumption)))
      refine t_both ?_ ?_
      · refine t_sliceHigh undEvs infEv (by omega) ?_
        (repeat (first | (with_reducible first | apply gA | apply gB | apply gC | apply gD | apply gE | apply gF | apply gG | apply gH | apply gI | apply gJ | apply gK | apply gL | apply gM | apply gN | apply gO | apply gP | apply gQ | apply gR | apply gP2 | apply gP3) | ((with_reducible first | apply gT | apply gS2); first | exact rfl | assumption | omega | exact ⟨⟩) | ((with_reducible first | apply gL0 | apply gL1 | apply gL2 | apply gL3 | apply gL4); assumption)))
        refine t_both ?_ ?_
        · refine t_copy (h₀ := h) (E := EventB h.get) (Enc := EventEnc h.get) rfl rfl undEvs undEvs infEv rfl (by omega) (by omega) g1 le1 (srcT _ le1) eventTold fun p2 c2 h2 le2 _ g2 => ?_
          (repeat (first | (with_reducible first | apply gA | apply gB | apply gC | apply gD | apply gE | apply gF | apply gG | apply gH | apply gI | apply gJ | apply gK | apply gL | apply gM | apply gN | apply gO | apply gP | apply gQ | apply gR | apply gP2 | apply gP3) | ((with_reducible first | apply gT | apply gS2); first | exact rfl | assumption | omega | exact ⟨⟩) | ((with_reducible first | apply gL0 | apply gL1 | apply gL2 | apply gL3 | apply gL4); assumption)))
          refine t_sliceLow undEvs infEv (by omega) ?_
          (repeat (first | (with_reducible first | apply gA | apply gB | apply gC | apply gD | apply gE | apply gF | apply gG | apply gH | apply gI | apply gJ | apply gK | apply gL | apply gM | apply gN | apply gO | apply gP | apply gQ | apply gR | apply gP2 | apply gP3) | ((with_reducible first | apply gT | apply gS2); first | exact rfl | assumption | omega | exact ⟨⟩) | ((with_reducible first | apply gL0 | apply gL1 | apply gL2 | apply gL3 | apply gL4); assumption)))
          refine t_copy (h₀ := h) (E := EventB h.get) (Enc := EventEnc h.get) rfl rfl undEvs undEvs infEv rfl (by omega) (by omega) g2 le2 (srcD _ le2) eventTold fun p3 c3 h3 le3 _ g3 => ?_
          (repeat (first | (with_reducible first | apply gA | apply gB | apply gC | apply gD | apply gE | apply gF | apply gG | apply gH | apply gI | apply gJ | apply gK | apply gL | apply gM | apply gN | apply gO | apply gP | apply gQ | apply gR | apply gP2 | apply gP3) | ((with_reducible first | apply gT | apply gS2); first | exact rfl | assumption | omega | exact ⟨⟩) | ((with_reducible first | apply gL0 | apply gL1 | apply gL2 | apply gL3 | apply gL4); assumption)))
          exact t_again ⟨_, _, _, rfl, le3, g3⟩
        · refine t_sliceLow undEvs infEv (by omega) ?_
          (repeat (first | (with_reducible first | apply gA | apply gB | apply gC | apply gD | apply gE | apply gF | apply gG | apply gH | apply gI | apply gJ | apply gK | apply gL | apply gM | apply gN | apply gO | apply gP | apply gQ | apply gR | apply gP2 | apply gP3) | ((with_reducible first | apply gT | apply gS2); first | exact rfl | assumption | omega | exact ⟨⟩) | ((with_reducible first | apply gL0 | apply gL1 | apply gL2 | apply gL3 | apply gL4); assumption)))
          refine t_copy (h₀ := h) (E := EventB h.get) (Enc := EventEnc h.get) rfl rfl undEvs undEvs infEv rfl (by omega) (by omega) g1 le1 (srcT _ le1) eventTold fun p2 c2 h2 le2 _ g2 => ?_
          (repeat (first | (with_reducible first | apply gA | apply gB | apply gC | apply gD | apply gE | apply gF | apply gG | apply gH | apply gI | apply gJ | apply gK | apply gL | apply gM | apply gN | apply gO | apply gP | apply gQ | apply gR | apply gP2 | apply gP3) | ((with_reducible first | apply gT | apply gS2); first | exact rfl | assumption | omega | exact ⟨⟩) | ((with_reducible first | apply gL0 | apply gL1 | apply gL2 | apply gL3 | apply gL4); assumption)))
          refine t_copy (h₀ := h) (E := EventB h.get) (Enc := EventEnc h.get) rfl rfl undEvs undEvs infEv rfl (by omega) (by omega) g2 le2 (srcD _ le2) eventTold fun p3 c3 h3 le3 _ g3 => ?_
          (repeat (first | (with_reducible first | apply gA | apply gB | apply gC | apply gD | apply gE | apply gF | apply gG | apply gH | apply gI | apply gJ | apply gK | apply gL | apply gM | apply gN | apply gO | apply gP | apply gQ | apply gR | apply gP2 | apply gP3) | ((with_reducible first | apply gT | apply gS2); first | exact rfl | assumption | omega | exact ⟨⟩) | ((with_reducible first | apply gL0 | apply gL1 | apply gL2 | apply gL3 | apply gL4); assumption)))
          exact t_again ⟨_, _, _, rfl, le3, g3⟩
      · refine t_sliceLow undEvs infEv (by omega) ?_
        (repeat (first | (with_reducible first | apply gA | apply gB | apply gC | apply gD | apply gE | apply gF | apply gG | apply gH | apply gI | apply gJ | apply gK | apply gL | apply gM | apply gN | apply gO | apply gP | apply gQ | apply gR | apply gP2 | apply gP3) | ((with_reducible first | apply gT | apply gS2); first | exact rfl | assumption | omega | exact ⟨⟩) | ((with_reducible first | apply gL0 | apply gL1 | apply gL2 | apply gL3 | apply gL4); assumption)))
        refine t_sliceHigh undEvs infEv (by omega) ?_
        (repeat (first | (with_reducible first | apply gA | apply gB | apply gC | apply gD | apply gE | apply gF | apply gG | apply gH | apply gI | apply gJ | apply gK | apply gL | apply gM | apply gN | apply gO | apply gP | apply gQ | apply gR | apply gP2 | apply gP3) | ((with_reducible first | apply gT | apply gS2); first | exact rfl | assumption | omega | exact ⟨⟩) | ((with_reducible first | apply gL0 | apply gL1 | apply gL2 | apply gL3 | apply gL4); assumption)))
        refine t_copy (h₀ := h) (E := EventB h.get) (Enc := EventEnc h.get) rfl rfl undEvs undEvs infEv rfl (by omega) (by omega) g1 le1 (srcT _ le1) eventTold fun p2 c2 h2 le2 _ g2 => ?_
        (repeat (first | (with_reducible first | apply gA | apply gB | apply gC | apply gD | apply gE | apply gF | apply gG | apply gH | apply gI | apply gJ | apply gK | apply gL | apply gM | apply gN | apply gO | apply gP | apply gQ | apply gR | apply gP2 | apply gP3) | ((with_reducible first | apply gT | apply gS2); first | exact rfl | assumption | omega | exact ⟨⟩) | ((with_reducible first | apply gL0 | apply gL1 | apply gL2 | apply gL3 | apply gL4); assumption)))
        refine t_copy (h₀ := h) (E := EventB h.get) (Enc := EventEnc h.get) rfl rfl undEvs undEvs infEv rfl (by omega) (by omega) g2 le2 (srcD _ le2) eventTold fun p3 c3 h3 le3 _ g3 => ?_
        (repeat (first | (with_reducible first | apply gA | apply gB | apply gC | apply gD | apply gE | apply gF | apply gG | apply gH | apply gI | apply gJ | apply gK | apply gL | apply gM | apply gN | apply gO | apply gP | apply gQ | apply gR | apply gP2 | apply gP3) | ((with_reducible first | apply gT | apply gS2); first | exact rfl | assumption | omega | exact ⟨⟩) | ((with_reducible first | apply gL0 | apply gL1 | apply gL2 | apply gL3 | apply gL4); assumption)))
        exact t_again ⟨_, _, _, rfl, le3, g3⟩
    · refine t_both ?_ ?_
      · refine t_sliceHigh undEvs infEv (by omega) ?_
        (repeat (first | (with_reducible first | apply gA | apply gB | apply gC | apply gD | apply gE | apply gF | apply gG | apply gH | apply gI | apply gJ | apply gK | apply gL | apply gM | apply gN | apply gO | apply gP | apply gQ | apply gR | apply gP2 | apply gP3) | ((with_reducible first | apply gT | apply gS2); first | exact rfl | assumption | omega | exact ⟨⟩) | ((with_reducible first | apply gL0 | apply gL1 | apply gL2 | apply gL3 | apply gL4); assumption)))
        refine t_both ?_ ?_
        · refine t_build0G (h₀ := h) (Enc := EventEnc h.get) undEvs infEv (LH.le_refl _) fun r h1 _ le1 g1 => ?_
          (repeat (first | (with_reducible first | apply gA | apply gB | apply gC | apply gD | apply gE | apply gF | apply gG | apply gH | apply gI | apply gJ | apply gK | apply gL | apply gM | apply gN | apply gO | apply gP | apply gQ | apply gR | apply gP2 | apply gP3) | ((with_reducible first | apply gT | apply gS2); first | exact rfl | assumption | omega | exact ⟨⟩) | ((with_reducible first | apply gL0 | apply gL1 | apply gL2 | apply gL3 | apply gL4); assumption)))
          refine t_both ?_ ?_
          · refine t_copy (h₀ := h) (E := EventB h.get) (Enc := EventEnc h.get) rfl rfl undEvs undEvs infEv rfl (by omega) (by omega) g1 le1 (srcT _ le1) eventTold fun p2 c2 h2 le2 _ g2 => ?_
            (repeat (first | (with_reducible first | apply gA | apply gB | apply gC | apply gD | apply gE | apply gF | apply gG | apply gH | apply gI | apply gJ | apply gK | apply gL | apply gM | apply gN | apply gO | apply gP | apply gQ | apply gR | apply gP2 | apply gP3) | ((with_reducible first | apply gT | apply gS2); first | exact rfl | assumption | omega | exact ⟨⟩) | ((with_reducible first | apply gL0 | apply gL1 | apply gL2 | apply gL3 | apply gL4); assumption)))
            refine t_sliceLow undEvs infEv (by omega) ?_
            (repeat (first | (with_reducible first | apply gA | apply gB | apply gC | apply gD | apply gE | apply gF | apply gG | apply gH | apply gI | apply gJ | apply gK | apply gL | apply gM | apply gN | apply gO | apply gP | apply gQ | apply gR | apply gP2 | apply gP3) | ((with_reducible first | apply gT | apply gS2); first | exact rfl | assumption | omega | exact ⟨⟩) | ((with_reducible first | apply gL0 | apply gL1 | apply gL2 | apply gL3 | apply gL4); assumption)))
            refine t_copy (h₀ := h) (E := EventB h.get) (Enc := EventEnc h.get) rfl rfl undEvs undEvs infEv rfl (by omega) (by omega) g2 le2 (srcD _ le2) eventTold fun p3 c3 h3 le3 _ g3 => ?_
            (repeat (first | (with_reducible first | apply gA | apply gB | apply gC | apply gD | apply gE | apply gF | apply gG | apply gH | apply gI | apply gJ | apply gK | apply gL | apply gM | apply gN | apply gO | apply gP | apply gQ | apply gR | apply gP2 | apply gP3) | ((with_reducible first | apply gT | apply gS2); first | exact rfl | assumption | omega | exact ⟨⟩) | ((with_reducible first | apply gL0 | apply gL1 | apply gL2 | apply gL3 | apply gL4); assumption)))
            exact t_again ⟨_, _, _, rfl, le3, g3⟩
          · refine t_sliceLow undEvs infEv (by omega) ?_
            (repeat (first | (with_reducible first | apply gA | apply gB | apply gC | apply gD | apply gE | apply gF | apply gG | apply gH | apply gI | apply gJ | apply gK | apply gL | apply gM | apply gN | apply gO | apply gP | apply gQ | apply gR | apply gP2 | apply gP3) | ((with_reducible first | apply gT | apply gS2); first | exact rfl | assumption | omega | exact ⟨⟩) | ((with_reducible first | apply gL0 | apply gL1 | apply gL2 | apply gL3 | apply gL4); assumption)))
            refine t_copy (h₀ := h) (E := EventB h.get) (Enc := EventEnc h.get) rfl rfl undEvs undEvs infEv rfl (by omega) (by omega) g1 le1 (srcT _ le1) eventTold fun p2 c2 h2 le2 _ g2 => ?_
            (repeat (first | (with_reducible first | apply gA | apply gB | apply gC | apply gD | apply gE | apply gF | apply gG | apply gH | apply gI | apply gJ | apply gK | apply gL | apply gM | apply gN | apply gO | apply gP | apply gQ | apply gR | apply gP2 | apply gP3) | ((with_reducible first | apply gT | apply gS2); first | exact rfl | assumption | omega | exact ⟨⟩) | ((with_reducible first | apply gL0 | apply gL1 | apply gL2 | apply gL3 | apply gL4); assumption)))
            refine t_copy (h₀ := h) (E := EventB h.get) (Enc := EventEnc h.get) rfl rfl undEvs undEvs infEv rfl (by omega) (by omega) g2 le2 (srcD _ le2) eventTold fun p3 c3 h3 le3 _ g3 => ?_
            (repeat (first | (with_reducible first | apply gA | apply gB | apply gC | apply gD | apply gE | apply gF | apply gG | apply gH | apply gI | apply gJ | apply gK | apply gL | apply gM | apply gN | apply gO | apply gP | apply gQ | apply gR | apply gP2 | apply gP3) | ((with_reducible first | apply gT | apply gS2); first | exact rfl | assumption | omega | exact ⟨⟩) | ((with_reducible first | apply gL0 | apply gL1 | apply gL2 | apply gL3 | apply gL4); assumption)))
            exact t_again ⟨_, _, _, rfl, le3, g3⟩
        · refine t_sliceLow undEvs infEv (by omega) ?_
          (repeat (first | (with_reducible first | apply gA | apply gB | apply gC | apply gD | apply gE | apply gF | apply gG | apply gH | apply gI | apply gJ | apply gK | apply gL | apply gM | apply gN | apply gO | apply gP | apply gQ | apply gR | apply gP2 | apply gP3) | ((with_reducible first | apply gT | apply gS2); first | exact rfl | assumption | omega | exact ⟨⟩) | ((with_reducible first | apply gL0 | apply gL1 | apply gL2 | apply gL3 | apply gL4); assumption)))
          refine t_build0G (h₀ := h) (Enc := EventEnc h.get) undEvs infEv (LH.le_refl _) fun r h1 _ le1 g1 => ?_
          (repeat (first | (with_reducible first | apply gA | apply gB | apply gC | apply gD | apply gE | apply gF | apply gG | apply gH | apply gI | apply gJ | apply gK | apply gL | apply gM | apply gN | apply gO | apply gP | apply gQ | apply gR | apply gP2 | apply gP3) | ((with_reducible first | apply gT | apply gS2); first | exact rfl | assumption | omega | exact ⟨⟩) | ((with_reducible first | apply gL0 | apply gL1 | apply gL2 | apply gL3 | apply gL4); assumption)))
          refine t_copy (h₀ := h) (E := EventB h.get) (Enc := EventEnc h.get) rfl rfl undEvs undEvs infEv rfl (by omega) (by omega) g1 le1 (srcT _ le1) eventTold fun p2 c2 h2 le2 _ g2 => ?_
          (repeat (first | (with_reducible first | apply gA | apply gB | apply gC | apply gD | apply gE | apply gF | apply gG | apply gH | apply gI | apply gJ | apply gK | apply gL | apply gM | apply gN | apply gO | apply gP | apply gQ | apply gR | apply gP2 | apply gP3) | ((with_reducible first | apply gT | apply gS2); first | exact rfl | assumption | omega | exact ⟨⟩) | ((with_reducible first | apply gL0 | apply gL1 | apply gL2 | apply gL3 | apply gL4); assumption)))
          refine t_copy (h₀ := h) (E := EventB h.get) (Enc := EventEnc h.get) rfl rfl undEvs undEvs infEv rfl (by omega) (by omega) g2 le2 (srcD _ le2) eventTold fun p3 c3 h3 le3 _ g3 => ?_
          (repeat (first | (with_reducible first | apply gA | apply gB | apply gC | apply gD | apply gE | apply gF | apply gG | apply gH | apply gI | apply gJ | apply gK | apply gL | apply gM | apply gN | apply gO | apply gP | apply gQ | apply gR | apply gP2 | apply gP3) | ((with_reducible first | apply gT | apply gS2); first | exact rfl | assumption | omega | exact ⟨⟩) | ((with_reducible first | apply gL0 | apply gL1 | apply gL2 | apply gL3 | apply gL4); assumption)))
          exact t_again ⟨_, _, _, rfl, le3, g3⟩
      · refine t_sliceLow undEvs infEv (by omega) ?_
        (repeat (first | (with_reducible first | apply gA | apply gB | apply gC | apply gD | apply gE | apply gF | apply gG | apply gH | apply gI | apply gJ | apply gK | apply gL | apply gM | apply gN | apply gO | apply gP | apply gQ | apply gR | apply gP2 | apply gP3) | ((with_reducible first | apply gT | apply gS2); first | exact rfl | assumption | omega | exact ⟨⟩) | ((with_reducible first | apply gL0 | apply gL1 | apply gL2 | apply gL3 | apply gL4); assumption)))
        refine t_both ?_ ?_
        · refine t_build0G (h₀ := h) (Enc := EventEnc h.get) undEvs infEv (LH.le_refl _) fun r h1 _ le1 g1 => ?_
          (repeat (first | (with_reducible first | apply gA | apply gB | apply gC | apply gD | apply gE | apply gF | apply gG | apply gH | apply gI | apply gJ | apply gK | apply gL | apply gM | apply gN | apply gO | apply gP | apply gQ | apply gR | apply gP2 | apply gP3) | ((with_reducible first | apply gT | apply gS2); first | exact rfl | assumption | omega | exact ⟨⟩) | ((with_reducible first | apply gL0 | apply gL1 | apply gL2 | apply gL3 | apply gL4); assumption)))
          refine t_sliceHigh undEvs infEv (by omega) ?_
          (repeat (first | (with_reducible first | apply gA | apply gB | apply gC | apply gD | apply gE | apply gF | apply gG | apply gH | apply gI | apply gJ | apply gK | apply gL | apply gM | apply gN | apply gO | apply gP | apply gQ | apply gR | apply gP2 | apply gP3) | ((with_reducible first | apply gT | apply gS2); first | exact rfl | assumption | omega | exact ⟨⟩) | ((with_reducible first | apply gL0 | apply gL1 | apply gL2 | apply gL3 | apply gL4); assumption)))
          refine t_copy (h₀ := h) (E := EventB h.get) (Enc := EventEnc h.get) rfl rfl undEvs undEvs infEv rfl (by omega) (by omega) g1 le1 (srcT _ le1) eventTold fun p2 c2 h2 le2 _ g2 => ?_
          (repeat (first | (with_reducible first | apply gA | apply gB | apply gC | apply gD | apply gE | apply gF | apply gG | apply gH | apply gI | apply gJ | apply gK | apply gL | apply gM | apply gN | apply gO | apply gP | apply gQ | apply gR | apply gP2 | apply gP3) | ((with_reducible first | apply gT | apply gS2); first | exact rfl | assumption | omega | exact ⟨⟩) | ((with_reducible first | apply gL0 | apply gL1 | apply gL2 | apply gL3 | apply gL4); assumption)))
          refine t_copy (h₀ := h) (E := EventB h.get) (Enc := EventEnc h.get) rfl rfl undEvs undEvs infEv rfl (by omega) (by omega) g2 le2 (srcD _ le2) eventTold fun p3 c3 h3 le3 _ g3 => ?_
          (repeat (first | (with_reducible first | apply gA | apply gB | apply gC | apply gD | apply gE | apply gF | apply gG | apply gH | apply gI | apply gJ | apply gK | apply gL | apply gM | apply gN | apply gO | apply gP | apply gQ | apply gR | apply gP2 | apply gP3) | ((with_reducible first | apply gT | apply gS2); first | exact rfl | assumption | omega | exact ⟨⟩) | ((with_reducible first | apply gL0 | apply gL1 | apply gL2 | apply gL3 | apply gL4); assumption)))
          exact t_again ⟨_, _, _, rfl, le3, g3⟩
        · refine t_sliceHigh undEvs infEv (by omega) ?_
          (repeat (first | (with_reducible first | apply gA | apply gB | apply gC | apply gD | apply gE | apply gF | apply gG | apply gH | apply gI | apply gJ | apply gK | apply gL | apply gM | apply gN | apply gO | apply gP | apply gQ | apply gR | apply gP2 | apply gP3) | ((with_reducible first | apply gT | apply gS2); first | exact rfl | assumption | omega | exact ⟨⟩) | ((with_reducible first | apply gL0 | apply gL1 | apply gL2 | apply gL3 | apply gL4); assumption)))
          refine t_build0G (h₀ := h) (Enc := EventEnc h.get) undEvs infEv (LH.le_refl _) fun r h1 _ le1 g1 => ?_
          (repeat (first | (with_reducible first | apply gA | apply gB | apply gC | apply gD | apply gE | apply gF | apply gG | apply gH | apply gI | apply gJ | apply gK | apply gL | apply gM | apply gN | apply gO | apply gP | apply gQ | apply gR | apply gP2 | apply gP3) | ((with_reducible first | apply gT | apply gS2); first | exact rfl | assumption | omega | exact ⟨⟩) | ((with_reducible first | apply gL0 | apply gL1 | apply gL2 | apply gL3 | apply gL4); assumption)))
          refine t_copy (h₀ := h) (E := EventB h.get) (Enc := EventEnc h.get) rfl rfl undEvs undEvs infEv rfl (by omega) (by omega) g1 le1 (srcT _ le1) eventTold fun p2 c2 h2 le2 _ g2 => ?_
          (repeat (first | (with_reducible first | apply gA | apply gB | apply gC | apply gD | apply gE | apply gF | apply gG | apply gH | apply gI | apply gJ | apply gK | apply gL | apply gM | apply gN | apply gO | apply gP | apply gQ | apply gR | apply gP2 | apply gP3) | ((with_reducible first | apply gT | apply gS2); first | exact rfl | assumption | omega | exact ⟨⟩) | ((with_reducible first | apply gL0 | apply gL1 | apply gL2 | apply gL3 | apply gL4); assumption)))
          refine t_copy (h₀ := h) (E := EventB h.get) (Enc := EventEnc h.get) rfl rfl undEvs undEvs infEv rfl (by omega) (by omega) g2 le2 (srcD _ le2) eventTold fun p3 c3 h3 le3 _ g3 => ?_
          (repeat (first | (with_reducible first | apply gA | apply gB | apply gC | apply gD | apply gE | apply gF | apply gG | apply gH | apply gI | apply gJ | apply gK | apply gL | apply gM | apply gN | apply gO | apply gP | apply gQ | apply gR | apply gP2 | apply gP3) | ((with_reducible first | apply gT | apply gS2); first | exact rfl | assumption | omega | exact ⟨⟩) | ((with_reducible first | apply gL0 | apply gL1 | apply gL2 | apply gL3 | apply gL4); assumption)))
          exact t_again ⟨_, _, _, rfl, le3, g3⟩
  rintro vs h1 ⟨p, n, c, rfl, le1, g⟩
  (repeat (first | (with_reducible first | apply gA | apply gB | apply gC | apply gD | apply gE | apply gF | apply gG | apply gH | apply gI | apply gJ | apply gK | apply gL | apply gM | apply gN | apply gO | apply gP | apply gQ | apply gR | apply gP2 | apply gP3) | ((with_reducible first | apply gT | apply gS2); first | exact rfl | assumption | omega | exact ⟨⟩) | ((with_reducible first | apply gL0 | apply gL1 | apply gL2 | apply gL3 | apply gL4); assumption)))
  refine t_loop (fun mm vs h' => h.le h' ∧ ∃ (t : Nat) (p : Option Addr) (n c : Nat), vs = [.int .i64 t, .int .i64 x.items, .int .i64 x.lands, .int .i64 x.start, .int .i64 x.depend, .int .i64 x.refuse, .int .i64 x.turn, .slice p n c] ∧ t ≤ mq ∧ mm = mq - t ∧ Growing (EventEnc h.get) 50 5 h.get h'.get p n c (x.events.take w ++ x.events.drop (w + 1) ++ (split e).take t))
    ⟨le1, 0, p, n, c, rfl, Nat.zero_le _, rfl, by simpa using g⟩ ?_
  clear g
  rintro Y mm vs h2 hY ⟨le2, t, p, n, c, rfl, ht, rfl, g⟩
  have hng := g.count EventEnc.len (by omega)
  have hsl : (split e).length = e.items.length := by unfold Tr.split; rw [List.length_map]
  have hnn : n ≤ 15 := by
    rw [hng]
    simp only [List.length_append, List.length_take, List.length_drop]
    omega
  (repeat (first | (with_reducible first | apply gA | apply gB | apply gC | apply gD | apply gE | apply gF | apply gG | apply gH | apply gI | apply gJ | apply gK | apply gL | apply gM | apply gN | apply gO | apply gP | apply gQ | apply gR | apply gP2 | apply gP3) | ((with_reducible first | apply gT | apply gS2); first | exact rfl | assumption | omega | exact ⟨⟩) | ((with_reducible first | apply gL0 | apply gL1 | apply gL2 | apply gL3 | apply gL4); assumption)))
  refine t_if (fun e1 => ?_) (fun e1 => ?_)
  · obtain ⟨v, av, hv, hav, ev⟩ := g5.at (i := t) (by omega)
    have hwt : IntKind.i64.wrap ((t : Int) + 1) = ((t + 1 : Nat) : Int) := by rw [wrap_id (by omega) (by omega)]; rfl
    rw [hwt]
    refine t_sliceMid und50 inf3 (by omega) (by omega) ?_
    (repeat (first | (with_reducible first | apply gA | apply gB | apply gC | apply gD | apply gE | apply gF | apply gG | apply gH | apply gI | apply gJ | apply gK | apply gL | apply gM | apply gN | apply gO | apply gP | apply gQ | apply gR | apply gP2 | apply gP3) | ((with_reducible first | apply gT | apply gS2); first | exact rfl | assumption | omega | exact ⟨⟩) | ((with_reducible first | apply gL0 | apply gL1 | apply gL2 | apply gL3 | apply gL4); assumption)))
    have hone : Sl IntE 1 h.get (if cq = t then q else q.map (·.add (t * 1))) (t + 1 - t) [v] := by
      have h1 := (g5.drop hcq (i := t)).take (i := 1) (by omega)
      have h2 : (e.items.drop t).take 1 = [v] := by rw [drop_of hv]; rfl
      rw [h2] at h1
      rw [show t + 1 - t = 1 by omega]
      exact h1
    have hst : (split e).take (t + 1) = (split e).take t ++ [{ e with items := [v] }] := by
      unfold Tr.split
      rw [List.take_add_one, List.getElem?_map, hv]; rfl
    refine t_push ({ e with items := [v] } : Ev) (evCells { e with items := [v] } (if cq = t then q else q.map (·.add (t * 1))) (t + 1 - t) (cq - t)) rfl rfl undEvs infEv rfl (by omega) (by decide) (by kernel_rfl) rfl (ev_one _ _ _ _) (by omega) g le2 ⟨_, _, _, rfl, by omega, hone⟩ ?_
    intro p' c' h3 le3 _ g3
    (repeat (first | (with_reducible first | apply gA | apply gB | apply gC | apply gD | apply gE | apply gF | apply gG | apply gH | apply gI | apply gJ | apply gK | apply gL | apply gM | apply gN | apply gO | apply gP | apply gQ | apply gR | apply gP2 | apply gP3) | ((with_reducible first | apply gT | apply gS2); first | exact rfl | assumption | omega | exact ⟨⟩) | ((with_reducible first | apply gL0 | apply gL1 | apply gL2 | apply gL3 | apply gL4); assumption)))
    refine t_again (hY (mq - (t + 1)) _ _ (by omega) ⟨le3, t + 1, p', n + 1, c', rfl, by omega, rfl, by rw [hst, ← List.append_assoc]; exact g3⟩)
  · (repeat (first | (with_reducible first | apply gA | apply gB | apply gC | apply gD | apply gE | apply gF | apply gG | apply gH | apply gI | apply gJ | apply gK | apply gL | apply gM | apply gN | apply gO | apply gP | apply gQ | apply gR | apply gP2 | apply gP3) | ((with_reducible first | apply gT | apply gS2); first | exact rfl | assumption | omega | exact ⟨⟩) | ((with_reducible first | apply gL0 | apply gL1 | apply gL2 | apply gL3 | apply gL4); assumption)))
    rw [List.take_of_length_le (l := split e) (i := t) (by omega)] at g
    have hng' := g.count EventEnc.len (by omega)
    have hlen : (apart x w e).events.length = n := hng'.symm
    have hout : TreatyR h2.get ⟨p, n, c⟩ (apart x w e) := by
      obtain ⟨_, o, _⟩ := g.row
      exact ⟨o.le_cap, g.sl EventEnc.len (by omega) (EventEnc.e (Rd.of_le le2.1)) (by rw [hlen]; omega)⟩
    refine t_ret ⟨le2, ⟨p, n, c⟩, ?_, hout⟩
    rw [hlen]
    have : decide ((n : Int) ≤ 10) = decide (n ≤ 10) := by rw [decide_eq_decide]; omega
    rw [this]; rfl
theorem check_apart {x : TF} (h : checkT x = 0) {w : Nat} {e : Ev} (hw : x.events[w]? = some e) (hl : (apart x w e).events.length ≤ 10) : checkT (apart x w e) = 0 := by
  have key : ∀ c ∈ (apart x w e).events, EventOk x c := by
    intro c hc
    rcases mem_apart.1 hc with (h1 | h1) | h1
    · exact event_ok.1 (check_event h c (List.mem_of_mem_take h1))
    · exact event_ok.1 (check_event h c (List.mem_of_mem_drop h1))
    · obtain ⟨v, hv, rfl⟩ := mem_split.1 h1
      have hok := event_ok.1 (check_event h e (List.mem_of_getElem? hw))
      have hvb := (items_ok hok.items).1 v hv
      exact ⟨hok.kind, hok.day, hok.since, hok.land, items_one hvb, hok.fall, hok.date⟩
  exact check_events h hl key
set_option maxRecDepth 10000 in
theorem c2013 {h : LH} (hch : h.chans = []) (hpe : h.pend = []) (hk : Kinds h.get) {f : TC} {x : TF} (hx : TreatyR h.get f x) (which : Int) (hw : 0 ≤ which ∧ which ≤ 255) (land : Int) (hl : 0 ≤ land ∧ land ≤ 255) (day : Int) (hd : 0 ≤ day ∧ day ≤ 65535) :
    FW XT Tryd.prog 13 #[treatyV f x, .int .u8 which, .int .u8 land, .int .u16 day] h (Fin h) := by
  refine w2013 _ _ _ _ _ _ _ _ _ _ _ _ XT_ok ?_
  unfold n2013
  have hn := hx.2.1
  refine t_blk (fun vs h' => vs = [.bool false] ∧ h = h' ∧ fitB x = true ∧ f.n ≠ 0) ?_ ?_
  · refine t_pu (c2031 hx) ?_
    (repeat (first | (with_reducible first | apply gA | apply gB | apply gC | apply gD | apply gE | apply gF | apply gG | apply gH | apply gI | apply gJ | apply gK | apply gL | apply gM | apply gN | apply gO | apply gP | apply gQ | apply gR | apply gP2 | apply gP3) | ((with_reducible first | apply gT | apply gS2); first | exact rfl | assumption | omega | exact ⟨⟩) | ((with_reducible first | apply gL0 | apply gL1 | apply gL2 | apply gL3 | apply gL4); assumption)))
    refine t_cond (fun _ => ?_) (fun e => ?_)
    · refine t_shown hk (.of hch hpe (LH.le_refl _)) fun h' hh => ?_
      refine gI ?_
      (repeat (first | (with_reducible first | apply gA | apply gB | apply gC | apply gD | apply gE | apply gF | apply gG | apply gH | apply gI | apply gJ | apply gK | apply gL | apply gM | apply gN | apply gO | apply gP | apply gQ | apply gR | apply gP2 | apply gP3) | ((with_reducible first | apply gT | apply gS2); first | exact rfl | assumption | omega | exact ⟨⟩) | ((with_reducible first | apply gL0 | apply gL1 | apply gL2 | apply gL3 | apply gL4); assumption)))
      exact t_ret hh.fin
    refine t_cond (fun _ => ?_) (fun e2 => ?_)
    · refine t_shown hk (.of hch hpe (LH.le_refl _)) fun h' hh => ?_
      refine gI ?_
      (repeat (first | (with_reducible first | apply gA | apply gB | apply gC | apply gD | apply gE | apply gF | apply gG | apply gH | apply gI | apply gJ | apply gK | apply gL | apply gM | apply gN | apply gO | apply gP | apply gQ | apply gR | apply gP2 | apply gP3) | ((with_reducible first | apply gT | apply gS2); first | exact rfl | assumption | omega | exact ⟨⟩) | ((with_reducible first | apply gL0 | apply gL1 | apply gL2 | apply gL3 | apply gL4); assumption)))
      exact t_ret hh.fin
    exact t_again ⟨rfl, rfl, by simpa using e, by simpa using e2⟩
  rintro vs _ ⟨rfl, rfl, hf, hn0⟩
  have hcx := fit_ok hf
  have hnum := check_numbers hcx
  obtain ⟨ek, hk0, hk1'⟩ := mod_in (m := x.lands) (n := land) (by omega) (by omega)
  obtain ⟨ew, hw0, hw1⟩ := mod_in (m := (f.n : Int)) (n := which) (by omega) (by omega)
  have hd9 := day_mod day
  have hl0 : x.lands ≠ 0 := by omega
  have hfn : (f.n : Int) ≠ 0 := by omega
  rw [ek, ew]
  generalize land % x.lands = k at hk0 hk1'
  obtain ⟨w, hwe⟩ : ∃ w : Nat, which % (f.n : Int) = w := ⟨(which % (f.n : Int)).toNat, by omega⟩
  rw [hwe] at hw1 ⊢
  obtain ⟨e, he⟩ : ∃ e, x.events[w]? = some e := ⟨x.events[w]'(by omega), List.getElem?_eq_getElem (by omega)⟩
  have h5 := items_len hcx (List.mem_of_getElem? he)
  (repeat (first | (with_reducible first | apply gA | apply gB | apply gC | apply gD | apply gE | apply gF | apply gG | apply gH | apply gI | apply gJ | apply gK | apply gL | apply gM | apply gN | apply gO | apply gP | apply gQ | apply gR | apply gP2 | apply gP3) | ((with_reducible first | apply gT | apply gS2); first | exact rfl | assumption | omega | exact ⟨⟩) | ((with_reducible first | apply gL0 | apply gL1 | apply gL2 | apply gL3 | apply gL4); assumption)))
  refine t_blk (fun vs h' => ∃ f', vs = [.bool (decide ((apart x w e).events.length ≤ 10)), .int .i64 x.items, .int .i64 x.lands, .int .i64 x.start, .int .i64 x.depend, .int .i64 x.refuse, .int .i64 x.turn, .slice (TC.p f') f'.n f'.c] ∧ h.le h' ∧ TreatyR h'.get f' (apart x w e)) ?_ ?_
  · have ap : ∀ {Q : Leaf → LH → Prop} {K : Value → T}, (∀ h2 f', h.le h2 → TreatyR h2.get f' (apart x w e) → (K (.tuple #[.agg #[.int .i64 x.items, .int .i64 x.lands, .int .i64 x.start, .int .i64 x.depend, .int .i64 x.refuse, .int .i64 x.turn, .slice f'.p f'.n f'.c], .bool (decide ((apart x w e).events.length ≤ 10))])).wp XT Tryd.prog Q h2) → (T.call false 41 #[treatyV f x, .int .i64 (w : Int)] K).wp XT Tryd.prog Q h := by
      intro Q K hK
      refine t_gr (c2041 hx hnum.2.2.2.2.2.2 he h5) ?_
      rintro _ h2 le2 ⟨f', rfl, h3⟩
      exact hK h2 f' le2 h3
    (repeat (first | (with_reducible first | apply gA | apply gB | apply gC | apply gD | apply gE | apply gF | apply gG | apply gH | apply gI | apply gJ | apply gK | apply gL | apply gM | apply gN | apply gO | apply gP | apply gQ | apply gR | apply gP2 | apply gP3) | ((with_reducible first | apply gT | apply gS2); first | exact rfl | assumption | omega | exact ⟨⟩) | ((with_reducible first | apply gL0 | apply gL1 | apply gL2 | apply gL3 | apply gL4); assumption)))
    refine t_both ?_ ?_
    · refine ap fun h2 f' le2 hy => ?_
      (repeat (first | (with_reducible first | apply gA | apply gB | apply gC | apply gD | apply gE | apply gF | apply gG | apply gH | apply gI | apply gJ | apply gK | apply gL | apply gM | apply gN | apply gO | apply gP | apply gQ | apply gR | apply gP2 | apply gP3) | ((with_reducible first | apply gT | apply gS2); first | exact rfl | assumption | omega | exact ⟨⟩) | ((with_reducible first | apply gL0 | apply gL1 | apply gL2 | apply gL3 | apply gL4); assumption)))
      exact t_again ⟨f', rfl, le2, hy⟩
    · (repeat (first | (with_reducible first | apply gA | apply gB | apply gC | apply gD | apply gE | apply gF | apply gG | apply gH | apply gI | apply gJ | apply gK | apply gL | apply gM | apply gN | apply gO | apply gP | apply gQ | apply gR | apply gP2 | apply gP3) | ((with_reducible first | apply gT | apply gS2); first | exact rfl | assumption | omega | exact ⟨⟩) | ((with_reducible first | apply gL0 | apply gL1 | apply gL2 | apply gL3 | apply gL4); assumption)))
      refine ap fun h2 f' le2 hy => ?_
      (repeat (first | (with_reducible first | apply gA | apply gB | apply gC | apply gD | apply gE | apply gF | apply gG | apply gH | apply gI | apply gJ | apply gK | apply gL | apply gM | apply gN | apply gO | apply gP | apply gQ | apply gR | apply gP2 | apply gP3) | ((with_reducible first | apply gT | apply gS2); first | exact rfl | assumption | omega | exact ⟨⟩) | ((with_reducible first | apply gL0 | apply gL1 | apply gL2 | apply gL3 | apply gL4); assumption)))
      exact t_again ⟨f', rfl, le2, hy⟩
  rintro vs h1 ⟨g, rfl, le1, hy⟩
  have hcap := fun hh => check_apart hcx he hh
  have hfac := fun i d => apart_facts he k i d
  have hy0 : (apart x w e).items = x.items ∧ (apart x w e).lands = x.lands := ⟨rfl, rfl⟩
  have ev : treatyV g (apart x w e) = .agg #[.int .i64 x.items, .int .i64 x.lands, .int .i64 x.start, .int .i64 x.depend, .int .i64 x.refuse, .int .i64 x.turn, .slice g.p g.n g.c] := rfl
  generalize apart x w e = y at hy hcap hfac hy0 ev ⊢
  (repeat (first | (with_reducible first | apply gA | apply gB | apply gC | apply gD | apply gE | apply gF | apply gG | apply gH | apply gI | apply gJ | apply gK | apply gL | apply gM | apply gN | apply gO | apply gP | apply gQ | apply gR | apply gP2 | apply gP3) | ((with_reducible first | apply gT | apply gS2); first | exact rfl | assumption | omega | exact ⟨⟩) | ((with_reducible first | apply gL0 | apply gL1 | apply gL2 | apply gL3 | apply gL4); assumption)))
  refine t_cond (fun _ => ?_) (fun e3 => ?_)
  · (repeat (first | (with_reducible first | apply gA | apply gB | apply gC | apply gD | apply gE | apply gF | apply gG | apply gH | apply gI | apply gJ | apply gK | apply gL | apply gM | apply gN | apply gO | apply gP | apply gQ | apply gR | apply gP2 | apply gP3) | ((with_reducible first | apply gT | apply gS2); first | exact rfl | assumption | omega | exact ⟨⟩) | ((with_reducible first | apply gL0 | apply gL1 | apply gL2 | apply gL3 | apply gL4); assumption)))
    refine t_both ?_ ?_
    · (repeat (first | (with_reducible first | apply gA | apply gB | apply gC | apply gD | apply gE | apply gF | apply gG | apply gH | apply gI | apply gJ | apply gK | apply gL | apply gM | apply gN | apply gO | apply gP | apply gQ | apply gR | apply gP2 | apply gP3) | ((with_reducible first | apply gT | apply gS2); first | exact rfl | assumption | omega | exact ⟨⟩) | ((with_reducible first | apply gL0 | apply gL1 | apply gL2 | apply gL3 | apply gL4); assumption)))
      refine t_both ?_ ?_
      · (repeat (first | (with_reducible first | apply gA | apply gB | apply gC | apply gD | apply gE | apply gF | apply gG | apply gH | apply gI | apply gJ | apply gK | apply gL | apply gM | apply gN | apply gO | apply gP | apply gQ | apply gR | apply gP2 | apply gP3) | ((with_reducible first | apply gT | apply gS2); first | exact rfl | assumption | omega | exact ⟨⟩) | ((with_reducible first | apply gL0 | apply gL1 | apply gL2 | apply gL3 | apply gL4); assumption)))
        exact t_shown hk (.of hch hpe le1) fun h' hh => (by (repeat (first | (with_reducible first | apply gA | apply gB | apply gC | apply gD | apply gE | apply gF | apply gG | apply gH | apply gI | apply gJ | apply gK | apply gL | apply gM | apply gN | apply gO | apply gP | apply gQ | apply gR | apply gP2 | apply gP3) | ((with_reducible first | apply gT | apply gS2); first | exact rfl | assumption | omega | exact ⟨⟩) | ((with_reducible first | apply gL0 | apply gL1 | apply gL2 | apply gL3 | apply gL4); assumption))); exact t_ret hh.fin)
      · (repeat (first | (with_reducible first | apply gA | apply gB | apply gC | apply gD | apply gE | apply gF | apply gG | apply gH | apply gI | apply gJ | apply gK | apply gL | apply gM | apply gN | apply gO | apply gP | apply gQ | apply gR | apply gP2 | apply gP3) | ((with_reducible first | apply gT | apply gS2); first | exact rfl | assumption | omega | exact ⟨⟩) | ((with_reducible first | apply gL0 | apply gL1 | apply gL2 | apply gL3 | apply gL4); assumption)))
        exact t_shown hk (.of hch hpe le1) fun h' hh => (by (repeat (first | (with_reducible first | apply gA | apply gB | apply gC | apply gD | apply gE | apply gF | apply gG | apply gH | apply gI | apply gJ | apply gK | apply gL | apply gM | apply gN | apply gO | apply gP | apply gQ | apply gR | apply gP2 | apply gP3) | ((with_reducible first | apply gT | apply gS2); first | exact rfl | assumption | omega | exact ⟨⟩) | ((with_reducible first | apply gL0 | apply gL1 | apply gL2 | apply gL3 | apply gL4); assumption))); exact t_ret hh.fin)
    · (repeat (first | (with_reducible first | apply gA | apply gB | apply gC | apply gD | apply gE | apply gF | apply gG | apply gH | apply gI | apply gJ | apply gK | apply gL | apply gM | apply gN | apply gO | apply gP | apply gQ | apply gR | apply gP2 | apply gP3) | ((with_reducible first | apply gT | apply gS2); first | exact rfl | assumption | omega | exact ⟨⟩) | ((with_reducible first | apply gL0 | apply gL1 | apply gL2 | apply gL3 | apply gL4); assumption)))
      exact t_shown hk (.of hch hpe le1) fun h' hh => (by (repeat (first | (with_reducible first | apply gA | apply gB | apply gC | apply gD | apply gE | apply gF | apply gG | apply gH | apply gI | apply gJ | apply gK | apply gL | apply gM | apply gN | apply gO | apply gP | apply gQ | apply gR | apply gP2 | apply gP3) | ((with_reducible first | apply gT | apply gS2); first | exact rfl | assumption | omega | exact ⟨⟩) | ((with_reducible first | apply gL0 | apply gL1 | apply gL2 | apply gL3 | apply gL4); assumption))); exact t_ret hh.fin)
  have hcy := hcap (by simpa using e3)
  (repeat (first | (with_reducible first | apply gA | apply gB | apply gC | apply gD | apply gE | apply gF | apply gG | apply gH | apply gI | apply gJ | apply gK | apply gL | apply gM | apply gN | apply gO | apply gP | apply gQ | apply gR | apply gP2 | apply gP3) | ((with_reducible first | apply gT | apply gS2); first | exact rfl | assumption | omega | exact ⟨⟩) | ((with_reducible first | apply gL0 | apply gL1 | apply gL2 | apply gL3 | apply gL4); assumption)))
  refine t_pu (c2032 hd) ?_
  generalize day % 10000 = d at hd9
  (repeat (first | (with_reducible first | apply gA | apply gB | apply gC | apply gD | apply gE | apply gF | apply gG | apply gH | apply gI | apply gJ | apply gK | apply gL | apply gM | apply gN | apply gO | apply gP | apply gQ | apply gR | apply gP2 | apply gP3) | ((with_reducible first | apply gT | apply gS2); first | exact rfl | assumption | omega | exact ⟨⟩) | ((with_reducible first | apply gL0 | apply gL1 | apply gL2 | apply gL3 | apply gL4); assumption)))
  rw [← ev]
  have ax := asked_fit hcx ⟨hk0, hk1'⟩ hd9
  have ay := asked_fit hcy (k := k) ⟨hk0, by rw [hy0.2]; exact hk1'⟩ hd9
  refine t_gr (c2034 (y := y) (hk.le le1.1) (hx.le le1.1) hy ax ay (same_on hy0.1 (by omega) fun i => hfac i d)) ?_
  rintro _ h2 le2 rfl
  (repeat (first | (with_reducible first | apply gA | apply gB | apply gC | apply gD | apply gE | apply gF | apply gG | apply gH | apply gI | apply gJ | apply gK | apply gL | apply gM | apply gN | apply gO | apply gP | apply gQ | apply gR | apply gP2 | apply gP3) | ((with_reducible first | apply gT | apply gS2); first | exact rfl | assumption | omega | exact ⟨⟩) | ((with_reducible first | apply gL0 | apply gL1 | apply gL2 | apply gL3 | apply gL4); assumption)))
  refine t_cond (fun _ => ?_) (fun e => by cases e)
  exact t_shown hk (.of hch hpe (LH.le_trans le1 le2)) fun h' hh => (by (repeat (first | (with_reducible first | apply gA | apply gB | apply gC | apply gD | apply gE | apply gF | apply gG | apply gH | apply gI | apply gJ | apply gK | apply gL | apply gM | apply gN | apply gO | apply gP | apply gQ | apply gR | apply gP2 | apply gP3) | ((with_reducible first | apply gT | apply gS2); first | exact rfl | assumption | omega | exact ⟨⟩) | ((with_reducible first | apply gL0 | apply gL1 | apply gL2 | apply gL3 | apply gL4); assumption))); exact t_ret hh.fin)
end Go.Proofs.YtbmfimaomcnkfaaDoor
end
section
namespace Go.Proofs.YtbmfimaomcnkfaaDoor
open Go Go.TM Go.Proofs Go.ChangeShapes Go.WideShapes Go.RowKit
set_option maxRecDepth 100000
theorem treatyApart_lifted (os : Os) (started : os.Started) (H : Type) (enc : TypeId × Value → H) :
    ReturnsInLeavingWide {} Tryd.checked os 13 .any (fun w args => (Rows.treatyApartSpec.pre enc Tryd.prog Tryd.f13 [] false w args ∧ laidMetH Tryd.prog Rows.treatyStatesRow.laid w) ∧ sizedMet enc Tryd.prog Tryd.f13 (OpenSpec.ofChange Rows.treatyApartSpec) false w args)
      (Rows.treatyApartSpec.post enc Tryd.prog Tryd.f13 false true false false) := by
  refine row_leaving (C := Tryd.checked) (tb := 4) own started Tryd.func13 (by kernel_rfl) rfl lo ?_ (by kernel_rfl) Tryd.underlying4 ?_
    (ChangeSpec.witness_shaped (enc := enc) (C := Tryd.checked) (os := os) (X := fun w _ => laidMetH Tryd.prog Rows.treatyStatesRow.laid w) false (World.doorLaid Tryd.prog 200 os) #[noFile, .int .u8 0, .int .u8 0, .int .u16 0] 8 rfl (door_shaped os _) (by kernel_rfl) (by kernel_rfl) (by kernel_rfl) (door_met os _)) ?_
  · exact fun t ht => of_decide_eq_true (List.all_eq_true.1 (show (Tryd.f13.params.toList.all fun t => decide (Tryd.prog.readableRec t = true ∧ t < Tryd.prog.types.size)) = true by kernel_rfl) t ht)
  · intro ds hd
    match ds, (show ds.length = 4 from hd) with
    | [d0, d1, d2, d3], _ => rfl
  · intro W base args ds ps hval0 hA0 hz0 hL
    have hval : ∀ (j : Nat) t v, Tryd.f13.params[j]? = some t → args[j]? = some v → Value.okWide Tryd.prog W .any base t v := hval0
    have hz : ∀ (j : Nat) t d, Tryd.f13.params.toList[j]? = some t → ds[j]? = some d → Light Tryd.prog t d := hz0
    have hA : DataW.TrodAll enc Tryd.prog W 0 (fun _ => true) true Tryd.f13.params.toList args.toList ds ps := hA0
    rw [Tryd.params13] at hval hz hA
    obtain ⟨v0, v1, v2, v3, d0, d1, d2, d3, q00, q01, q02, q03, rfl, rfl, rfl, h0, h1, h2, h3⟩ := trodAll_four hA
    obtain ⟨f0, u0, rfl, hu0⟩ := treaty_arg TT (hval 0 24 v0 rfl rfl) (hz 0 24 d0 rfl rfl) h0
    obtain ⟨x1, rfl, _, _, w1⟩ := open_int und5 (hval 1 5 v1 rfl rfl) h1
    obtain ⟨x2, rfl, _, _, w2⟩ := open_int und5 (hval 2 5 v2 rfl rfl) h2
    obtain ⟨x3, rfl, _, _, w3⟩ := open_int und57 (hval 3 43 v3 rfl rfl) h3
    exact FW.mono (c2013 (h := ⟨getW W, [], [], []⟩) rfl rfl (kinds_of_laid hL) hu0 x1 (wf_u8 w1) x2 (wf_u8 w2) x3 (wf_u16 w3)) fun r h' hq => ⟨hq.1, hq.2.2.1⟩
theorem treatyApart_row : Rows.TreatyApartSaid :=
  OpenClaim.holds_of_wide_leaving 13 Tryd.f13 rfl rfl rfl rfl rfl rfl rfl ⟨rfl, rfl, rfl, rfl, rfl⟩ rfl rfl rfl rfl rfl (by kernel_rfl) Tryd.func13 (by kernel_rfl)
    (of_decide_eq_true (by kernel_rfl)) (by unfold Func.isWrapper; first | (rw [if_pos (by decide +kernel)]; kernel_rfl) | (rw [if_neg (by decide +kernel)]; exact ⟨rfl, rfl⟩))
    (fun os started H enc _ => treatyApart_lifted os started H enc)
theorem treatyApart_holds : Rows.TreatyApartCardSaid :=
  card_goes [.data, .funcsDeep] true Rows.treatyApartCard.stood.harness false treatyApart_row (by kernel_rfl) treatyApart_row_tie rfl ⟨rfl, rfl⟩ (by kernel_rfl) rfl
    (fun f fn hf hfn => by
      obtain rfl : f = 13 := Option.some.inj ((show Tryd.prog.funcNamed Rows.treatyApartRow.func = some 13 by kernel_rfl).symm.trans hf) |>.symm
      obtain rfl : fn = Tryd.f13 := (Option.some.inj (Tryd.func13.symm.trans hfn)).symm
      exact ⟨by kernel_rfl, fun j t ht => by
        have hm := Array.mem_of_getElem? ht
        have := of_decide_eq_true (List.all_eq_true.1 (show (Tryd.f13.params.toList.all fun t => decide (Tryd.prog.wantsStandIn t = false)) = true by kernel_rfl) t (Array.mem_toList_iff.2 hm))
        exact this⟩)
    (by kernel_rfl)
end Go.Proofs.YtbmfimaomcnkfaaDoor
end
#print axioms Go.Proofs.YtbmfimaomcnkfaaDoor.treatyApart_holds

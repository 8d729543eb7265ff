/- The law TreatyEvents: what it needs of the road, of its contracts, and its row. -/
import Derived.Test.YtbmfimaomcnkfaaDoorM5
set_option linter.all false
section
namespace Go.Proofs.YtbmfimaomcnkfaaDoor
open Go Go.TM Go.Proofs Go.TM.Tr
attribute [local irreducible] T.wp CV FWK
def BestR (h : Cells) (x : TF) (k it d : Int) (rem : List (Nat × Bool)) (p : Option Addr) (n : Nat) (held : Bool) : Prop :=
  (held = false ∧ p = none ∧ n = 0 ∧ ∀ j, j < 2 ^ (giving x).length → (j, true) ∉ rem → okB x k it d j = false) ∨
  (held = true ∧ ∃ i a, p = some a ∧ i < 2 ^ (giving x).length ∧ okB x k it d i = true ∧ Sl IntE 1 h (some a) n (bitsL (giving x) i) ∧ ∀ j, j < 2 ^ (giving x).length → (j, true) ∉ rem → okB x k it d j = true → fewerF (bitsL (giving x) i) (bitsL (giving x) j) ≤ 0)
def weight : Nat × Bool → Nat | (_, true) => 2 | (_, false) => 1
def NeedsR (h' : Cells) (x : TF) (k it d : Int) (r : Value) : Prop :=
  (askedAllT x k it d ≠ 0 ∧ r = .tuple #[.slice none 0 0, .bool false, .int .i64 (askedAllT x k it d)]) ∨
  (askedAllT x k it d = 0 ∧ ¬ 0 ≤ dateOn x k it d ∧ r = .tuple #[.slice none 0 0, .bool false, .int .i64 0]) ∨
  (askedAllT x k it d = 0 ∧ 0 ≤ dateOn x k it d ∧ ∃ p n c, r = .tuple #[.slice p n c, .bool true, .int .i64 0] ∧ Sl IntE 1 h' p n (needT x k it d) ∧ n ≤ c)
theorem BestR.done {h : Cells} {x : TF} (v : Ok x) {k it d : Int} {p : Option Addr} {n : Nat} {b : Bool} (hb : BestR h x k it d [] p n b) : (¬ 0 ≤ dateOn x k it d ∧ b = false ∧ p = none ∧ n = 0) ∨ (0 ≤ dateOn x k it d ∧ b = true ∧ Sl IntE 1 h p n (needT x k it d)) := by
  have hn : (giving x).Nodup := (giving_sorted x.events 0).imp fun h => by omega
  rcases hb with ⟨h1, h2, h3, h4⟩ | ⟨h1, i, a, h2, h3, h4, h5, h6⟩
  · left
    refine ⟨fun hd => ?_, h1, h2, h3⟩
    obtain ⟨a1, a2, _⟩ := need_spec (k := k) (i := it) (d := d) hd
    obtain ⟨j, hj, hjb⟩ := sub_bits hn a2
    have := h4 j hj (by simp)
    unfold okB at this
    rw [hjb, a1] at this; cases this
  · have hd : 0 ≤ dateOn x k it d := by
      by_cases hd : 0 ≤ dateOn x k it d
      · exact hd
      · have := none_holds v hd (k := k) (i := it) (d := d) (bits_sub (l := giving x) (i := i))
        unfold okB at h4
        rw [this] at h4; cases h4
    refine .inr ⟨hd, h1, ?_⟩
    have := need_one hd (l := bitsL (giving x) i) bits_sub h4 fun m hm ho => by
      obtain ⟨j, hj, hjb⟩ := sub_bits hn hm
      have := h6 j hj (by simp) (by unfold okB; rw [hjb]; exact ho)
      rwa [hjb] at this
    rw [h2, ← this]; exact h5
theorem Sl.same {h : Cells} {p : Option Addr} {n : Nat} {a b : List Int} (ha : Sl IntE 1 h p n a) (hb : Sl IntE 1 h p n b) : a = b := by
  refine List.ext_getElem (by rw [← ha.1, ← hb.1]) fun i h1 h2 => ?_
  obtain ⟨x, c, e1, e2, e3⟩ := ha.at (i := i) (by rw [ha.1]; exact h1)
  obtain ⟨y, d, e4, e5, e6⟩ := hb.at (i := i) (by rw [hb.1]; exact h2)
  rw [e2] at e5; cases e5
  unfold IntE at e3 e6
  rw [e3] at e6; cases e6
  rw [List.getElem?_eq_getElem h1] at e1
  rw [List.getElem?_eq_getElem h2] at e4
  exact (Option.some.inj e1).trans (Option.some.inj e4).symm
theorem BestR.rd {h h' : Cells} (hr : Rd h h') {x : TF} {k it d : Int} {rem : List (Nat × Bool)} {p : Option Addr} {n : Nat} {b : Bool} (hb : BestR h x k it d rem p n b) : BestR h' x k it d rem p n b := by
  rcases hb with hb | ⟨h1, i, a, h2, h3, h4, h5, h6⟩
  · exact .inl hb
  · exact .inr ⟨h1, i, a, h2, h3, h4, h5.rd IntE.grow hr, h6⟩
theorem mem_but {l1 l2 : List (Nat × Bool)} {i j : Nat} (h : (j, true) ∉ l1 ++ (i, false) :: l2) : j = i ∨ (j, true) ∉ l1 ++ (i, true) :: l2 := by
  by_cases e : j = i
  · exact .inl e
  · right
    simp only [List.mem_append, List.mem_cons, Prod.mk.injEq, not_or] at h ⊢
    refine ⟨h.1, by simp [e], h.2.2⟩
theorem BestR.drop {h : Cells} {x : TF} {k it d : Int} {l1 l2 : List (Nat × Bool)} {i : Nat} {p : Option Addr} {n : Nat} {b : Bool} (hb : BestR h x k it d (l1 ++ (i, false) :: l2) p n b) : BestR h x k it d (l1 ++ l2) p n b := by
  have key : ∀ j, (j, true) ∉ l1 ++ l2 → (j, true) ∉ l1 ++ (i, false) :: l2 := by
    intro j hj
    simp only [List.mem_append, List.mem_cons, Prod.mk.injEq, not_or] at hj ⊢
    exact ⟨hj.1, by simp, hj.2⟩
  rcases hb with ⟨h1, h2, h3, h4⟩ | ⟨h1, i', a, h2, h3, h4, h5, h6⟩
  · exact .inl ⟨h1, h2, h3, fun j hj hn => h4 j hj (key j hn)⟩
  · exact .inr ⟨h1, i', a, h2, h3, h4, h5, fun j hj hn => h6 j hj (key j hn)⟩
theorem BestR.take {h h' : Cells} {x : TF} {k it d : Int} {l1 l2 : List (Nat × Bool)} {i : Nat} {p : Option Addr} {n n' : Nat} {a : Addr} {b : Bool} (hb : BestR h x k it d (l1 ++ (i, true) :: l2) p n b) (hi : okB x k it d i = true) (hlt : i < 2 ^ (giving x).length) (hs : Sl IntE 1 h' (some a) n' (bitsL (giving x) i))
    (hle : b = false ∨ ∀ j, Sl IntE 1 h p n (bitsL (giving x) j) → fewerF (bitsL (giving x) i) (bitsL (giving x) j) ≤ 0) : BestR h' x k it d (l1 ++ (i, false) :: l2) (some a) n' true := by
  refine .inr ⟨rfl, i, a, rfl, hlt, hi, hs, fun j hj hn ho => ?_⟩
  rcases mem_but hn with rfl | hn
  · exact fewer_self _
  · rcases hb with ⟨h1, h2, h3, h4⟩ | ⟨h1, i', a', h2, h3, h4, h5, h6⟩
    · have := h4 j hj hn
      rw [this] at ho; cases ho
    · have := hle.resolve_left (by rw [h1]; simp) i' (by rw [h2]; exact h5)
      exact fewer_trans this (h6 j hj hn ho)
theorem BestR.stay {h h' : Cells} (hr : Rd h h') {x : TF} {k it d : Int} {l1 l2 : List (Nat × Bool)} {i : Nat} {p : Option Addr} {n : Nat} (hb : BestR h x k it d (l1 ++ (i, true) :: l2) p n true)
    (hle : ∀ j, Sl IntE 1 h p n (bitsL (giving x) j) → fewerF (bitsL (giving x) j) (bitsL (giving x) i) ≤ 0) : BestR h' x k it d (l1 ++ (i, false) :: l2) p n true := by
  rcases hb with ⟨h1, h2, h3, h4⟩ | ⟨h1, i', a', h2, h3, h4, h5, h6⟩
  · cases h1
  · refine .inr ⟨rfl, i', a', h2, h3, h4, h5.rd IntE.grow hr, fun j hj hn ho => ?_⟩
    rcases mem_but hn with rfl | hn
    · exact hle i' (by rw [h2]; exact h5)
    · exact h6 j hj hn ho
def AllT (x : TF) (k it d : Int) (j : Nat) : List (Nat × Bool) := (List.range j).map fun i => (i, okB x k it d i)
set_option maxRecDepth 100000 in
theorem c2044 {h : LH} (hch : h.chans = []) (hpe : h.pend = []) (hk : Kinds h.get) {f : TC} {x : TF} (hx : TreatyR h.get f x) (k it d : Int) :
    FW XT Tryd.prog 44 #[treatyV f x, .int .i64 k, .int .i64 it, .int .i64 d] h fun r h' => Rd h.get h'.get ∧ h'.chans = [] ∧ h'.pend = [] ∧ h'.todo = h.todo ∧ NeedsR h'.get x k it d r := by
  refine w2044 _ _ _ _ _ _ _ _ _ _ _ _ XT_ok ?_
  unfold n2044
  refine t_new fun r hr => ?_
  have le0 : h.le _ := LH.upd_le (x := (true, .cells #[.int .i64 x.items, .int .i64 x.lands, .int .i64 x.start, .int .i64 x.depend, .int .i64 x.refuse, .int .i64 x.turn, .slice f.p f.n f.c] 24 (0, 0))) hr
  have hat : TAt (h.get.upd r (true, .cells #[.int .i64 x.items, .int .i64 x.lands, .int .i64 x.start, .int .i64 x.depend, .int .i64 x.refuse, .int .i64 x.turn, .slice f.p f.n f.c] 24 (0, 0))) ⟨r, 0, none⟩ f x :=
    ⟨cell_upd rfl, cell_upd rfl, cell_upd rfl, cell_upd rfl, cell_upd rfl, cell_upd rfl, cell_upd rfl⟩
  generalize hh0 : ({ h with get := h.get.upd r (true, .cells #[.int .i64 x.items, .int .i64 x.lands, .int .i64 x.start, .int .i64 x.depend, .int .i64 x.refuse, .int .i64 x.turn, .slice f.p f.n f.c] 24 (0, 0)) } : LH) = h0 at le0 ⊢
  have hat : TAt h0.get ⟨r, 0, none⟩ f x := by rw [← hh0]; exact hat
  refine t_new fun r1 hr1 => ?_
  have le1 : h0.le _ := LH.upd_le (x := (true, .cells #[.int .i64 k] 3 (0, 0))) hr1
  have z1 : Cells.cell? (h0.get.upd r1 (true, .cells #[.int .i64 k] 3 (0, 0))) ⟨r1, 0, none⟩ = some (.int .i64 k) := cell_upd rfl
  refine t_new fun r2 hr2 => ?_
  have le2 := LH.upd_le (h := { h0 with get := h0.get.upd r1 (true, .cells #[.int .i64 k] 3 (0, 0)) }) (x := (true, .cells #[.int .i64 it] 3 (0, 0))) hr2
  have z2 : Cells.cell? ((h0.get.upd r1 (true, .cells #[.int .i64 k] 3 (0, 0))).upd r2 (true, .cells #[.int .i64 it] 3 (0, 0))) ⟨r2, 0, none⟩ = some (.int .i64 it) := cell_upd rfl
  refine t_new fun r3 hr3 => ?_
  have le3 := LH.upd_le (h := { h0 with get := (h0.get.upd r1 (true, .cells #[.int .i64 k] 3 (0, 0))).upd r2 (true, .cells #[.int .i64 it] 3 (0, 0)) }) (x := (true, .cells #[.int .i64 d] 3 (0, 0))) hr3
  have z3 : Cells.cell? (((h0.get.upd r1 (true, .cells #[.int .i64 k] 3 (0, 0))).upd r2 (true, .cells #[.int .i64 it] 3 (0, 0))).upd r3 (true, .cells #[.int .i64 d] 3 (0, 0))) ⟨r3, 0, none⟩ = some (.int .i64 d) := cell_upd rfl
  have z1 := Cells.cell?_le (LH.le_trans le2 le3).1 z1
  have z2 := Cells.cell?_le le3.1 z2
  have hat := hat.le (LH.le_trans le1 (LH.le_trans le2 le3)).1
  obtain ⟨g0, g1, g2, g3, g4, g5, g6⟩ := id hat
  have le03 := LH.le_trans le0 (LH.le_trans le1 (LH.le_trans le2 le3))
  generalize hh3 : ({ h0 with get := ((h0.get.upd r1 (true, .cells #[.int .i64 k] 3 (0, 0))).upd r2 (true, .cells #[.int .i64 it] 3 (0, 0))).upd r3 (true, .cells #[.int .i64 d] 3 (0, 0)) } : LH) = h3 at le03 ⊢
  have e3 : h3.get = ((h0.get.upd r1 (true, .cells #[.int .i64 k] 3 (0, 0))).upd r2 (true, .cells #[.int .i64 it] 3 (0, 0))).upd r3 (true, .cells #[.int .i64 d] 3 (0, 0)) := by rw [← hh3]
  rw [← e3] at z1 z2 z3 hat g0 g1 g2 g3 g4 g5 g6
  clear hh3 e3
  (repeat (first | (with_reducible first | apply gA | apply gB | apply gC | apply gD | apply gE | apply gF | apply gG | apply gH | apply gI | apply gJ | apply gK | apply gL | apply gM | apply gN | apply gO | apply gP | apply gQ | apply gR | apply gP2 | apply gP3) | ((with_reducible first | apply gT | apply gS2); first | exact rfl | assumption | omega | exact ⟨⟩) | ((with_reducible first | apply gL0 | apply gL1 | apply gL2 | apply gL3 | apply gL4); assumption)))
  refine t_pu (c2066 (hk.le le03.1) (hx.le le03.1) k it d) ?_
  (repeat (first | (with_reducible first | apply gA | apply gB | apply gC | apply gD | apply gE | apply gF | apply gG | apply gH | apply gI | apply gJ | apply gK | apply gL | apply gM | apply gN | apply gO | apply gP | apply gQ | apply gR | apply gP2 | apply gP3) | ((with_reducible first | apply gT | apply gS2); first | exact rfl | assumption | omega | exact ⟨⟩) | ((with_reducible first | apply gL0 | apply gL1 | apply gL2 | apply gL3 | apply gL4); assumption)))
  refine t_cond (fun e => ?_) (fun e => ?_)
  · exact t_ret ⟨Rd.of_le le03.1, by rw [le03.2.1, hch], by rw [le03.2.2.1, hpe], le03.2.2.2, .inl ⟨by simpa using e, rfl⟩⟩
  have ea : askedAllT x k it d = 0 := by simpa using e
  have hck := (asked_ok (askedItem_ok (askedAll_ok ea).1).1).1
  have rt := Right.of hck
  have hkd := KindsOk.of hck
  have h10 := giving_ten rt
  (repeat (first | (with_reducible first | apply gA | apply gB | apply gC | apply gD | apply gE | apply gF | apply gG | apply gH | apply gI | apply gJ | apply gK | apply gL | apply gM | apply gN | apply gO | apply gP | apply gQ | apply gR | apply gP2 | apply gP3) | ((with_reducible first | apply gT | apply gS2); first | exact rfl | assumption | omega | exact ⟨⟩) | ((with_reducible first | apply gL0 | apply gL1 | apply gL2 | apply gL3 | apply gL4); assumption)))
  refine t_gr (c2067 (hk.le le03.1) (hx.le le03.1) hkd rt.many) ?_
  rintro _ h₄ le4 ⟨ap, an, ac, rfl, hal, _⟩
  have han := hal.1
  (repeat (first | (with_reducible first | apply gA | apply gB | apply gC | apply gD | apply gE | apply gF | apply gG | apply gH | apply gI | apply gJ | apply gK | apply gL | apply gM | apply gN | apply gO | apply gP | apply gQ | apply gR | apply gP2 | apply gP3) | ((with_reducible first | apply gT | apply gS2); first | exact rfl | assumption | omega | exact ⟨⟩) | ((with_reducible first | apply gL0 | apply gL1 | apply gL2 | apply gL3 | apply gL4); assumption)))
  refine t_newSt rfl fun r4 h₅ le5 _ _ z0 => ?_
  have le35 := LH.le_trans le4 le5
  refine t_blk (fun vs h' => ∃ b1 b2 q1 q2, vs = [.pointer (some ⟨b1, 0, none⟩), .pointer (some ⟨b2, 0, none⟩)] ∧ Opening 92 93 h₅ h' (some q1) (some q2) (some (b1, true)) (some (b2, true))) ?_ ?_
  · have O : Opening 92 93 h₅ h₅ none none none none := Opening.start
    repeat' first
      | refine t_both ?_ ?_
      | (refine op_new1 (by assumption) ?_; intro _ _ _)
      | (refine op_new2 (by assumption) ?_; intro _ _ _)
      | (refine op_chan1 undCI inf50 (by assumption) ?_; intro _ _ _)
      | (refine op_chan2 undCB inf4 (by assumption) ?_; intro _ _ _)
      | refine t_unC ?_
      | (refine op_store1 (by assumption) ?_; intro _ _)
      | (refine op_store2 (by assumption) ?_; intro _ _)
      | exact t_again ⟨_, _, _, _, rfl, by assumption⟩
  rintro _ h₆ ⟨b1, b2, q1, q2, rfl, O⟩
  have le6 := O.le
  have le36 := LH.le_trans le35 le6
  have le06 := LH.le_trans le03 le36
  have z0 := Cells.cell?_le le6.1 z0
  have z1 := Cells.cell?_le le36.1 z1
  have z2 := Cells.cell?_le le36.1 z2
  have z3 := Cells.cell?_le le36.1 z3
  have hat := hat.le le36.1
  have hal := hal.le IntE.grow (LH.le_trans le5 le6).1
  have zc1 : h₆.get.cell? ⟨b1, 0, none⟩ = some (.chan (some q1)) := by
    have := (O.hb1 b1 true rfl).2
    simp [Cells.cell?, this]
  have zc2 : h₆.get.cell? ⟨b2, 0, none⟩ = some (.chan (some q2)) := by
    have := (O.hb2 b2 true rfl).2
    simp [Cells.cell?, this]
  have hq := O.ne q1 q2 rfl rfl
  have hq1 := O.hc1 q1 rfl
  have hq2 := O.hc2 q2 rfl
  (repeat (first | (with_reducible first | apply gA | apply gB | apply gC | apply gD | apply gE | apply gF | apply gG | apply gH | apply gI | apply gJ | apply gK | apply gL | apply gM | apply gN | apply gO | apply gP | apply gQ | apply gR | apply gP2 | apply gP3) | ((with_reducible first | apply gT | apply gS2); first | exact rfl | assumption | omega | exact ⟨⟩) | ((with_reducible first | apply gL0 | apply gL1 | apply gL2 | apply gL3 | apply gL4); assumption)))
  rw [sets_wrap (by omega)]
  have h1024 : 2 ^ an ≤ 2 ^ 10 := Nat.pow_le_pow_right (by omega) (by omega)
  have hNe : (2 : Nat) ^ an = 2 ^ (giving x).length := by rw [han]
  have hNpos : 0 < 2 ^ an := Nat.pow_pos (by omega)
  generalize hN : (2 : Nat) ^ an = N at h1024 hNe hNpos ⊢
  (repeat (first | (with_reducible first | apply gA | apply gB | apply gC | apply gD | apply gE | apply gF | apply gG | apply gH | apply gI | apply gJ | apply gK | apply gL | apply gM | apply gN | apply gO | apply gP | apply gQ | apply gR | apply gP2 | apply gP3) | ((with_reducible first | apply gT | apply gS2); first | exact rfl | assumption | omega | exact ⟨⟩) | ((with_reducible first | apply gL0 | apply gL1 | apply gL2 | apply gL3 | apply gL4); assumption)))
  refine t_loop (fun mm vs h' => ∃ j : Nat, vs = [.int .i64 j] ∧ j ≤ N ∧ mm = N - j ∧ Rd h₆.get h'.get ∧ h'.todo = h.todo ∧ h'.pend = (AllT x k it d j).map (scr q1 q2 (Found x) Done) ∧ Hand2 q1 q2 h' ∧ (0 < j → h'.chans = [q2, q1]))
    ⟨0, rfl, Nat.zero_le _, rfl, Rd.refl _, le06.2.2.2, by rw [le06.2.2.1, hpe]; rfl, .inl ⟨by rw [le06.2.1, hch], hq, ⟨0, hq1⟩, 0, hq2⟩, fun hh => absurd hh (by omega)⟩ ?_
  rintro Y mm vs h₇ hY ⟨j, rfl, hj, rfl, rd7, td7, pd7, hand7, ch7⟩
  (repeat (first | (with_reducible first | apply gA | apply gB | apply gC | apply gD | apply gE | apply gF | apply gG | apply gH | apply gI | apply gJ | apply gK | apply gL | apply gM | apply gN | apply gO | apply gP | apply gQ | apply gR | apply gP2 | apply gP3) | ((with_reducible first | apply gT | apply gS2); first | exact rfl | assumption | omega | exact ⟨⟩) | ((with_reducible first | apply gL0 | apply gL1 | apply gL2 | apply gL3 | apply gL4); assumption)))
  refine t_if (fun e1 => ?_) (fun e1 => ?_)
  · refine t_newSt rfl fun r5 h₈ le8 _ _ z5 => ?_
    have rd8 := rd7.trans (Rd.of_le le8.1)
    refine t_spawn (spawnW_two q1 q2 (s := scr q1 q2 (Found x) Done (j, okB x k it d j)) (hand7.le le8) ?_ ?_ (fun hc hrd => ?_) (fun h₉ r9 c9 t9 p9 => ?_))
    · unfold scr; split <;> simp
    · intro y hy
      unfold scr at hy
      split at hy
      · simp at hy; rcases hy with rfl | rfl <;> simp
      · simp at hy; simp [hy]
    · have rdc := rd8.trans hrd
      exact c2073 ((hk.le le06.1).rd rdc) ((hx.le le06.1).rd rdc) rt hkd (hat.rd rdc) (by omega) (rdc _ _ z0) (hal.rd IntE.grow rdc) (hrd _ _ z5) (rdc _ _ z1) (rdc _ _ z2) (rdc _ _ z3) (rdc _ _ zc1) (rdc _ _ zc2)
    · refine t_again (hY (N - (j + 1)) _ _ (by omega) ⟨j + 1, ?_, by omega, rfl, rd8.trans r9, (t9.trans le8.2.2.2).trans td7, ?_, .inr c9, fun _ => c9⟩)
      · rw [wrap_id (by omega) (by omega)]; rfl
      · rw [p9, le8.2.2.1, pd7, AllT, AllT, List.range_succ, List.map_append, List.map_append]; rfl
  · (repeat (first | (with_reducible first | apply gA | apply gB | apply gC | apply gD | apply gE | apply gF | apply gG | apply gH | apply gI | apply gJ | apply gK | apply gL | apply gM | apply gN | apply gO | apply gP | apply gQ | apply gR | apply gP2 | apply gP3) | ((with_reducible first | apply gT | apply gS2); first | exact rfl | assumption | omega | exact ⟨⟩) | ((with_reducible first | apply gL0 | apply gL1 | apply gL2 | apply gL3 | apply gL4); assumption)))
    have hjN : j = N := by omega
    subst hjN
    refine t_loop (fun mm vs h' => ∃ (rem : List (Nat × Bool)) (b : Bool) (p : Option Addr) (n c : Nat), vs = [.slice p n c, .bool b, .int .i64 rem.length] ∧ rem.length ≤ j ∧ mm = (rem.map weight).sum ∧ (∀ i o, (i, o) ∈ rem → i < j) ∧ (∀ i, (i, true) ∈ rem → okB x k it d i = true) ∧ Rd h₆.get h'.get ∧ h'.todo = h.todo ∧ h'.pend = rem.map (scr q1 q2 (Found x) Done) ∧
        ((rem ≠ [] ∧ h'.chans = [q2, q1]) ∨ (rem = [] ∧ h'.chans = [])) ∧ BestR h'.get x k it d rem p n b ∧ n ≤ c ∧ (b = false → c = 0))
      ⟨AllT x k it d j, false, none, 0, 0, by simp [AllT], by simp [AllT], rfl, ?_, ?_, rd7, td7, pd7, .inl ⟨?_, ch7 hNpos⟩, .inl ⟨rfl, rfl, rfl, ?_⟩, Nat.le_refl _, fun _ => rfl⟩ ?_
    · intro i o hi
      simp [AllT] at hi; omega
    · intro i hi
      simp [AllT] at hi; exact (by obtain ⟨a0, a1, a2, a3⟩ := hi; rw [← a2]; exact a3)
    · intro hh
      have := congrArg List.length hh
      simp [AllT] at this; omega
    · intro i hi hn
      cases ho : okB x k it d i with
      | false => rfl
      | true => exact absurd (List.mem_map.2 ⟨i, List.mem_range.2 (by omega), by rw [ho]⟩) hn
    rintro Y2 mm vs h₈ hY2 ⟨rem, b, p, n, c, rfl, hlen, rfl, hrem, hok, rd8, td8, pd8, hst8, best, hcap, hc0⟩
    (repeat (first | (with_reducible first | apply gA | apply gB | apply gC | apply gD | apply gE | apply gF | apply gG | apply gH | apply gI | apply gJ | apply gK | apply gL | apply gM | apply gN | apply gO | apply gP | apply gQ | apply gR | apply gP2 | apply gP3) | ((with_reducible first | apply gT | apply gS2); first | exact rfl | assumption | omega | exact ⟨⟩) | ((with_reducible first | apply gL0 | apply gL1 | apply gL2 | apply gL3 | apply gL4); assumption)))
    refine t_if (fun e2 => ?_) (fun e2 => ?_)
    · have hne : rem ≠ [] := by rintro rfl; simp at e2
      have hc8 : h₈.chans = [q2, q1] := by
        rcases hst8 with ⟨_, a⟩ | ⟨a, _⟩
        · exact a
        · exact absurd a hne
      refine t_loadC (rd8 _ _ zc1) ?_
      refine t_loadC (rd8 _ _ zc2) ?_
      refine t_comm (commW_sel (φ := Found x) (ψ := Done) pd8 hc8 hq hne ?_ ?_)
      · rintro l1 i l2 v h₉ hrem' ht hpd hc9 ⟨hv, ⟨a, n', c', rfl, hs9, hcap9⟩, hle⟩ hle9
        have hcr : commResult #[Conc.rcase q1 (.slice none 0 0), Conc.rcase q2 (.bool false)] .select ((0 : Nat) : Int) (.slice (some a) n' c') true = .tuple #[.int .i64 0, .bool true, .slice (some a) n' c', .bool false] := by simp [commResult, Conc.rcase, goInt]
        rw [hcr]
        subst hrem'
        have rd9 := Rd.of_le hle9
        have hs9 := hs9.rd IntE.grow (Rd.of_le hle)
        have hi : i < 2 ^ (giving x).length := by have := hrem i true (by simp); omega
        have hoi : okB x k it d i = true := hok i (by simp)
        have next : ∀ p' n' c', BestR h₉.get x k it d (l1 ++ (i, false) :: l2) p' n' true → n' ≤ c' → Y2 [.slice p' n' c', .bool true, .int .i64 ((l1 ++ (i, true) :: l2).length : Nat)] h₉ := by
          intro p' n' c' hb hcap'
          refine hY2 (((l1 ++ (i, false) :: l2).map weight).sum) _ _ (by simp [weight]) ⟨l1 ++ (i, false) :: l2, true, p', n', c', by simp, by simpa using hlen, rfl, ?_, ?_, rd8.trans rd9, ht.trans td8, hpd, .inl ⟨by simp, hc9⟩, hb, hcap', fun h => by cases h⟩
          · intro i' o hi'
            simp only [List.mem_append, List.mem_cons, Prod.mk.injEq] at hi'
            rcases hi' with h1 | h1 | h1
            · exact hrem i' o (by simp [h1])
            · rw [h1.1]; exact hrem i true (by simp)
            · exact hrem i' o (by simp [h1])
          · intro i' hi'
            simp at hi'
            exact hok i' (by rcases hi' with h1 | h1 <;> simp [h1])
        (repeat (first | (with_reducible first | apply gA | apply gB | apply gC | apply gD | apply gE | apply gF | apply gG | apply gH | apply gI | apply gJ | apply gK | apply gL | apply gM | apply gN | apply gO | apply gP | apply gQ | apply gR | apply gP2 | apply gP3) | ((with_reducible first | apply gT | apply gS2); first | exact rfl | assumption | omega | exact ⟨⟩) | ((with_reducible first | apply gL0 | apply gL1 | apply gL2 | apply gL3 | apply gL4); assumption)))
        refine t_cond (fun _ => ?_) (fun e => by cases e)
        refine t_cond (fun e3 => ?_) (fun e3 => ?_)
        · exact t_again (next _ _ _ (best.take hoi hi hs9 (.inl (by simpa using e3))) hcap9)
        · have hbt : b = true := by simpa using e3
          subst hbt
          obtain ⟨k', a', hk', hs'⟩ : ∃ k' a', p = some a' ∧ Sl IntE 1 h₈.get (some a') n (bitsL (giving x) k') := by
            rcases best with ⟨b1, _⟩ | ⟨_, k', a', b1, _, _, b4, _⟩
            · cases b1
            · exact ⟨k', a', b1, b4⟩
          subst hk'
          refine t_pu (c2074 hs9 (hs'.rd IntE.grow rd9)) ?_
          have same : ∀ k2, Sl IntE 1 h₈.get (some a') n (bitsL (giving x) k2) → bitsL (giving x) k2 = bitsL (giving x) k' := fun k2 h3 => Sl.same h3 hs'
          (repeat (first | (with_reducible first | apply gA | apply gB | apply gC | apply gD | apply gE | apply gF | apply gG | apply gH | apply gI | apply gJ | apply gK | apply gL | apply gM | apply gN | apply gO | apply gP | apply gQ | apply gR | apply gP2 | apply gP3) | ((with_reducible first | apply gT | apply gS2); first | exact rfl | assumption | omega | exact ⟨⟩) | ((with_reducible first | apply gL0 | apply gL1 | apply gL2 | apply gL3 | apply gL4); assumption)))
          refine t_if (fun e4 => ?_) (fun e4 => ?_)
          · refine t_again (next _ _ _ (best.take hoi hi hs9 (.inr fun k2 h3 => ?_)) hcap9)
            rw [same k2 h3]; omega
          · refine t_again (next _ _ _ (best.stay rd9 fun k2 h3 => ?_) hcap)
            rw [same k2 h3, fewer_neg]; omega
      · intro l1 i l2 v h₉ hrem' ht hpd hst9 ⟨hv, hval⟩ hle9
        have hval : v = .bool true := hval
        subst hval
        have hcr : commResult #[Conc.rcase q1 (.slice none 0 0), Conc.rcase q2 (.bool false)] .select ((1 : Nat) : Int) (.bool true) true = .tuple #[.int .i64 1, .bool true, .slice none 0 0, .bool true] := by simp [commResult, Conc.rcase, goInt]
        rw [hcr]
        subst hrem'
        have rd9 := Rd.of_le hle9
        have hl : (l1 ++ (i, false) :: l2).length = (l1 ++ l2).length + 1 := by simp; omega
        (repeat (first | (with_reducible first | apply gA | apply gB | apply gC | apply gD | apply gE | apply gF | apply gG | apply gH | apply gI | apply gJ | apply gK | apply gL | apply gM | apply gN | apply gO | apply gP | apply gQ | apply gR | apply gP2 | apply gP3) | ((with_reducible first | apply gT | apply gS2); first | exact rfl | assumption | omega | exact ⟨⟩) | ((with_reducible first | apply gL0 | apply gL1 | apply gL2 | apply gL3 | apply gL4); assumption)))
        refine t_again (hY2 (((l1 ++ l2).map weight).sum) _ _ (by simp [weight]) ⟨l1 ++ l2, b, p, n, c, ?_, by omega, rfl, ?_, ?_, rd8.trans rd9, ht.trans td8, hpd, hst9, (best.drop).rd rd9, hcap, hc0⟩)
        · rw [hl, wrap_id (by omega) (by omega)]
          congr 3
          congr 1
          omega
        · intro i' o hi'
          simp only [List.mem_append] at hi'
          exact hrem i' o (by rcases hi' with h1 | h1 <;> simp [h1])
        · intro i' hi'
          simp only [List.mem_append] at hi'
          exact hok i' (by rcases hi' with h1 | h1 <;> simp [h1])
    · (repeat (first | (with_reducible first | apply gA | apply gB | apply gC | apply gD | apply gE | apply gF | apply gG | apply gH | apply gI | apply gJ | apply gK | apply gL | apply gM | apply gN | apply gO | apply gP | apply gQ | apply gR | apply gP2 | apply gP3) | ((with_reducible first | apply gT | apply gS2); first | exact rfl | assumption | omega | exact ⟨⟩) | ((with_reducible first | apply gL0 | apply gL1 | apply gL2 | apply gL3 | apply gL4); assumption)))
      have hrem0 : rem = [] := List.length_eq_zero_iff.1 (by omega)
      subst hrem0
      have hc8 : h₈.chans = [] := by
        rcases hst8 with ⟨a, _⟩ | ⟨_, a⟩
        · exact absurd rfl a
        · exact a
      refine t_ret ⟨(Rd.of_le le06.1).trans rd8, hc8, pd8, td8, .inr ?_⟩
      rcases best.done rt.ok with ⟨a1, rfl, rfl, rfl⟩ | ⟨a1, rfl, a2⟩
      · have := hc0 rfl; subst this
        exact .inl ⟨ea, a1, rfl⟩
      · exact .inr ⟨ea, a1, _, _, _, rfl, a2, hcap⟩
end Go.Proofs.YtbmfimaomcnkfaaDoor
end
section
namespace Go.Proofs.YtbmfimaomcnkfaaDoor
open Go Go.TM Go.Proofs Go.TM.Tr
attribute [local irreducible] T.wp CV FWK
theorem c2038 {h : LH} (e : Ev) {q : Option Addr} {m c : Nat} : Pu Tryd.prog 38 #[.agg #[.int .i64 e.kind, .int .i64 e.day, .int .i64 e.land, .slice q m c, .int .i64 e.since]] h (.bool (givesB e)) := by
  refine w2038 _ _ _ _ _ _ _ X0_ok ?_
  unfold n2038
  refine t_cond (fun e1 => ?_) (fun e1 => ?_)
  · exact t_ret ⟨by rw [givesB, e1]; rfl, rfl⟩
  refine t_cond (fun e2 => ?_) (fun e2 => ?_)
  · exact t_ret ⟨by rw [givesB, e2]; simp, rfl⟩
  · exact t_ret ⟨by rw [givesB, e1, e2]; rfl, rfl⟩
theorem c2071 {h : LH} {f : TC} {x : TF} (hx : TreatyR h.get f x) (hmany : x.events.length ≤ 10) :
    Gr Tryd.prog 71 #[treatyV f x] h fun r h' => ∃ p n c, r = .slice p n c ∧ Sl IntE 1 h'.get p n (giving x) ∧ n ≤ c := by
  refine w2071 _ _ _ _ _ _ _ _ _ X0_ok ?_
  unfold n2071
  have hs := hx.2
  have hn := hs.1
  refine t_loop (fun mm vs h' => h.le h' ∧ ∃ (j : Nat) (p : Option Addr) (n c : Nat), vs = [.slice p n c, .int .i64 j] ∧ j ≤ f.n ∧ mm = f.n - j ∧ Growing IntEnc 3 1 h.get h'.get p n c (givingGo (x.events.take j) 0))
    ⟨LH.le_refl _, 0, none, 0, 0, rfl, Nat.zero_le _, rfl, Growing.nil⟩ ?_
  rintro Y mm vs h₁ hY ⟨le1, j, p, n, c, rfl, hj, rfl, g⟩
  have hnn : n ≤ 10 := by
    rw [g.count IntEnc.len (by omega)]
    have := giving_len (x.events.take j) 0
    rw [List.length_take] at this; omega
  (repeat (first | (with_reducible first | apply gA | apply gB | apply gC | apply gD | apply gE | apply gF | apply gG | apply gH | apply gI | apply gJ | apply gK | apply gL | apply gM | apply gN | apply gO | apply gP | apply gQ | apply gR | apply gP2 | apply gP3) | ((with_reducible first | apply gT | apply gS2); first | exact rfl | assumption | omega | exact ⟨⟩) | ((with_reducible first | apply gL0 | apply gL1 | apply gL2 | apply gL3 | apply gL4); assumption)))
  refine t_if (fun e1 => ?_) (fun e1 => ?_)
  · obtain ⟨e, a, he, ha, g0, g1, g2, ⟨q, m, cc, g3, _, g5⟩, g4⟩ := (hs.le EventE.grow le1.1).at (i := j) (by omega)
    have htake : x.events.take (j + 1) = x.events.take j ++ [e] := by rw [List.take_add_one, he]; rfl
    have hlen : (x.events.take j).length = j := by rw [List.length_take]; omega
    (repeat (first | (with_reducible first | apply gA | apply gB | apply gC | apply gD | apply gE | apply gF | apply gG | apply gH | apply gI | apply gJ | apply gK | apply gL | apply gM | apply gN | apply gO | apply gP | apply gQ | apply gR | apply gP2 | apply gP3) | ((with_reducible first | apply gT | apply gS2); first | exact rfl | assumption | omega | exact ⟨⟩) | ((with_reducible first | apply gL0 | apply gL1 | apply gL2 | apply gL3 | apply gL4); assumption)))
    refine t_pu (c2038 e) ?_
    (repeat (first | (with_reducible first | apply gA | apply gB | apply gC | apply gD | apply gE | apply gF | apply gG | apply gH | apply gI | apply gJ | apply gK | apply gL | apply gM | apply gN | apply gO | apply gP | apply gQ | apply gR | apply gP2 | apply gP3) | ((with_reducible first | apply gT | apply gS2); first | exact rfl | assumption | omega | exact ⟨⟩) | ((with_reducible first | apply gL0 | apply gL1 | apply gL2 | apply gL3 | apply gL4); assumption)))
    refine t_cond (fun e2 => ?_) (fun e2 => ?_)
    · refine t_push (j : Int) [.int .i64 (j : Int)] rfl rfl und50 inf3 rfl (by omega) (by decide) (by kernel_rfl) rfl (by simp; rfl) (by omega) g le1 rfl ?_
      intro p' c' h3 le3 _ g3
      (repeat (first | (with_reducible first | apply gA | apply gB | apply gC | apply gD | apply gE | apply gF | apply gG | apply gH | apply gI | apply gJ | apply gK | apply gL | apply gM | apply gN | apply gO | apply gP | apply gQ | apply gR | apply gP2 | apply gP3) | ((with_reducible first | apply gT | apply gS2); first | exact rfl | assumption | omega | exact ⟨⟩) | ((with_reducible first | apply gL0 | apply gL1 | apply gL2 | apply gL3 | apply gL4); assumption)))
      refine t_again (hY (f.n - (j + 1)) _ _ (by omega) ⟨le3, j + 1, p', n + 1, c', ?_, by omega, rfl, ?_⟩)
      · rw [wrap_id (by omega) (by omega)]; rfl
      · rw [htake, giving_snoc, if_pos e2, hlen, Int.zero_add]; exact g3
    · refine t_again (hY (f.n - (j + 1)) _ _ (by omega) ⟨le1, j + 1, p, n, c, ?_, by omega, rfl, ?_⟩)
      · rw [wrap_id (by omega) (by omega)]; rfl
      · rw [htake, giving_snoc, if_neg (by rw [e2]; simp), List.append_nil]; exact g
  · (repeat (first | (with_reducible first | apply gA | apply gB | apply gC | apply gD | apply gE | apply gF | apply gG | apply gH | apply gI | apply gJ | apply gK | apply gL | apply gM | apply gN | apply gO | apply gP | apply gQ | apply gR | apply gP2 | apply gP3) | ((with_reducible first | apply gT | apply gS2); first | exact rfl | assumption | omega | exact ⟨⟩) | ((with_reducible first | apply gL0 | apply gL1 | apply gL2 | apply gL3 | apply gL4); assumption)))
    rw [List.take_of_length_le (by omega)] at g
    refine t_ret ⟨le1, p, n, c, rfl, g.sl IntEnc.len (by omega) IntEnc.e ?_, ?_⟩
    · show (givingGo x.events 0).length < _
      rw [← g.count IntEnc.len (by omega)]; omega
    · obtain ⟨vs, o, _⟩ := g.row
      exact o.le_cap
set_option maxRecDepth 10000 in
theorem c2072 {h : LH} {f : TC} {x : TF} (hx : TreatyR h.get f x) (hmany : x.events.length ≤ 10) {ep : Option Addr} {en ec : Nat} {L : List Int} (hL : Sl IntE 1 h.get ep en L) :
    Gr Tryd.prog 72 #[treatyV f x, .slice ep en ec] h fun r h' => ∃ f', r = treatyV f' (withE x L) ∧ TreatyR h'.get f' (withE x L) := by
  refine w2072 _ _ _ _ _ _ _ _ _ _ _ _ X0_ok ?_
  unfold n2072
  have hs := hx.2
  have hn := hs.1
  refine t_loop (fun mm vs h' => h.le h' ∧ ∃ (j : Nat) (p : Option Addr) (n c : Nat), vs = [.int .i64 j, .int .i64 x.items, .int .i64 x.lands, .int .i64 x.start, .int .i64 x.depend, .int .i64 x.refuse, .int .i64 x.turn, .slice p n c] ∧ j ≤ f.n ∧ mm = f.n - j ∧ Growing (EventEnc h.get) 50 5 h.get h'.get p n c (withGo L (x.events.take j) 0))
    ⟨LH.le_refl _, 0, none, 0, 0, rfl, Nat.zero_le _, rfl, Growing.nil⟩ ?_
  rintro Y mm vs h₁ hY ⟨le1, j, p, n, c, rfl, hj, rfl, g⟩
  have hnn : n ≤ 10 := by
    rw [g.count EventEnc.len (by omega)]
    have := with_len L (x.events.take j) 0
    rw [List.length_take] at this; omega
  (repeat (first | (with_reducible first | apply gA | apply gB | apply gC | apply gD | apply gE | apply gF | apply gG | apply gH | apply gI | apply gJ | apply gK | apply gL | apply gM | apply gN | apply gO | apply gP | apply gQ | apply gR | apply gP2 | apply gP3) | ((with_reducible first | apply gT | apply gS2); first | exact rfl | assumption | omega | exact ⟨⟩) | ((with_reducible first | apply gL0 | apply gL1 | apply gL2 | apply gL3 | apply gL4); assumption)))
  refine t_if (fun e1 => ?_) (fun e1 => ?_)
  · obtain ⟨e, a, he, ha, g0, g1, g2, ⟨q, m, cc, g3, g6, g5⟩, g4⟩ := hs.at (i := j) (by omega)
    have hws : EventEnc h.get e [.int .i64 e.kind, .int .i64 e.day, .int .i64 e.land, .slice q m cc, .int .i64 e.since] := ⟨q, m, cc, rfl, g6, g5⟩
    have htake : x.events.take (j + 1) = x.events.take j ++ [e] := by rw [List.take_add_one, he]; rfl
    have hlen : (x.events.take j).length = j := by rw [List.length_take]; omega
    have g0 := Cells.cell?_le le1.1 g0
    have g1 := Cells.cell?_le le1.1 g1
    have g2 := Cells.cell?_le le1.1 g2
    have g3 := Cells.cell?_le le1.1 g3
    have g4 := Cells.cell?_le le1.1 g4
    (repeat (first | (with_reducible first | apply gA | apply gB | apply gC | apply gD | apply gE | apply gF | apply gG | apply gH | apply gI | apply gJ | apply gK | apply gL | apply gM | apply gN | apply gO | apply gP | apply gQ | apply gR | apply gP2 | apply gP3) | ((with_reducible first | apply gT | apply gS2); first | exact rfl | assumption | omega | exact ⟨⟩) | ((with_reducible first | apply gL0 | apply gL1 | apply gL2 | apply gL3 | apply gL4); assumption)))
    refine t_pu (c2038 e) ?_
    have next : ∀ h' p' n' c', h.le h' → Growing (EventEnc h.get) 50 5 h.get h'.get p' n' c' (withGo L (x.events.take (j + 1)) 0) → Y [.int .i64 (IntKind.wrap .i64 ((j : Int) + 1)), .int .i64 x.items, .int .i64 x.lands, .int .i64 x.start, .int .i64 x.depend, .int .i64 x.refuse, .int .i64 x.turn, .slice p' n' c'] h' := by
      intro h' p' n' c' hle' g'
      refine hY (f.n - (j + 1)) _ _ (by omega) ⟨hle', j + 1, p', n', c', ?_, by omega, rfl, g'⟩
      rw [wrap_id (by omega) (by omega)]; rfl
    have one : ∀ w ∈ [Value.int .i64 e.kind, .int .i64 e.day, .int .i64 e.land, .slice q m cc, .int .i64 e.since], isOne w = true := by
      intro w hw
      simp only [List.mem_cons, List.not_mem_nil, or_false] at hw
      rcases hw with rfl | rfl | rfl | rfl | rfl <;> rfl
    (repeat (first | (with_reducible first | apply gA | apply gB | apply gC | apply gD | apply gE | apply gF | apply gG | apply gH | apply gI | apply gJ | apply gK | apply gL | apply gM | apply gN | apply gO | apply gP | apply gQ | apply gR | apply gP2 | apply gP3) | ((with_reducible first | apply gT | apply gS2); first | exact rfl | assumption | omega | exact ⟨⟩) | ((with_reducible first | apply gL0 | apply gL1 | apply gL2 | apply gL3 | apply gL4); assumption)))
    refine t_cond (fun e2 => ?_) (fun e2 => ?_)
    · (repeat (first | (with_reducible first | apply gA | apply gB | apply gC | apply gD | apply gE | apply gF | apply gG | apply gH | apply gI | apply gJ | apply gK | apply gL | apply gM | apply gN | apply gO | apply gP | apply gQ | apply gR | apply gP2 | apply gP3) | ((with_reducible first | apply gT | apply gS2); first | exact rfl | assumption | omega | exact ⟨⟩) | ((with_reducible first | apply gL0 | apply gL1 | apply gL2 | apply gL3 | apply gL4); assumption)))
      refine t_buildR [.int .i64 e.kind, .int .i64 e.day, .int .i64 e.land, .slice q m cc, .int .i64 e.since] undEvs infEv (by decide) (by decide) (by kernel_rfl) ?_
      intro r h7 le7 _ hr7
      (repeat (first | (with_reducible first | apply gA | apply gB | apply gC | apply gD | apply gE | apply gF | apply gG | apply gH | apply gI | apply gJ | apply gK | apply gL | apply gM | apply gN | apply gO | apply gP | apply gQ | apply gR | apply gP2 | apply gP3) | ((with_reducible first | apply gT | apply gS2); first | exact rfl | assumption | omega | exact ⟨⟩) | ((with_reducible first | apply gL0 | apply gL1 | apply gL2 | apply gL3 | apply gL4); assumption)))
      refine t_growR (h₀ := h) (Enc := EventEnc h.get) e [.int .i64 e.kind, .int .i64 e.day, .int .i64 e.land, .slice q m cc, .int .i64 e.since] rfl rfl undEvs infEv rfl (by omega) (by omega) (g.le le7.1) (LH.le_trans le1 le7) hws rfl hr7 one ?_
      intro p' c' h8 le8 kp8 g8
      (repeat (first | (with_reducible first | apply gA | apply gB | apply gC | apply gD | apply gE | apply gF | apply gG | apply gH | apply gI | apply gJ | apply gK | apply gL | apply gM | apply gN | apply gO | apply gP | apply gQ | apply gR | apply gP2 | apply gP3) | ((with_reducible first | apply gT | apply gS2); first | exact rfl | assumption | omega | exact ⟨⟩) | ((with_reducible first | apply gL0 | apply gL1 | apply gL2 | apply gL3 | apply gL4); assumption)))
      refine t_again (next h8 p' _ c' le8 ?_)
      rw [htake, with_snoc, hlen, Int.zero_add, if_pos (by rw [e2, Bool.true_or])]; exact g8
    · refine t_pu (c41 (hL.le IntE.grow le1.1) (j : Int)) ?_
      (repeat (first | (with_reducible first | apply gA | apply gB | apply gC | apply gD | apply gE | apply gF | apply gG | apply gH | apply gI | apply gJ | apply gK | apply gL | apply gM | apply gN | apply gO | apply gP | apply gQ | apply gR | apply gP2 | apply gP3) | ((with_reducible first | apply gT | apply gS2); first | exact rfl | assumption | omega | exact ⟨⟩) | ((with_reducible first | apply gL0 | apply gL1 | apply gL2 | apply gL3 | apply gL4); assumption)))
      refine t_cond (fun e3 => ?_) (fun e3 => ?_)
      · (repeat (first | (with_reducible first | apply gA | apply gB | apply gC | apply gD | apply gE | apply gF | apply gG | apply gH | apply gI | apply gJ | apply gK | apply gL | apply gM | apply gN | apply gO | apply gP | apply gQ | apply gR | apply gP2 | apply gP3) | ((with_reducible first | apply gT | apply gS2); first | exact rfl | assumption | omega | exact ⟨⟩) | ((with_reducible first | apply gL0 | apply gL1 | apply gL2 | apply gL3 | apply gL4); assumption)))
        refine t_buildR [.int .i64 e.kind, .int .i64 e.day, .int .i64 e.land, .slice q m cc, .int .i64 e.since] undEvs infEv (by decide) (by decide) (by kernel_rfl) ?_
        intro r h7 le7 _ hr7
        (repeat (first | (with_reducible first | apply gA | apply gB | apply gC | apply gD | apply gE | apply gF | apply gG | apply gH | apply gI | apply gJ | apply gK | apply gL | apply gM | apply gN | apply gO | apply gP | apply gQ | apply gR | apply gP2 | apply gP3) | ((with_reducible first | apply gT | apply gS2); first | exact rfl | assumption | omega | exact ⟨⟩) | ((with_reducible first | apply gL0 | apply gL1 | apply gL2 | apply gL3 | apply gL4); assumption)))
        refine t_growR (h₀ := h) (Enc := EventEnc h.get) e [.int .i64 e.kind, .int .i64 e.day, .int .i64 e.land, .slice q m cc, .int .i64 e.since] rfl rfl undEvs infEv rfl (by omega) (by omega) (g.le le7.1) (LH.le_trans le1 le7) hws rfl hr7 one ?_
        intro p' c' h8 le8 kp8 g8
        (repeat (first | (with_reducible first | apply gA | apply gB | apply gC | apply gD | apply gE | apply gF | apply gG | apply gH | apply gI | apply gJ | apply gK | apply gL | apply gM | apply gN | apply gO | apply gP | apply gQ | apply gR | apply gP2 | apply gP3) | ((with_reducible first | apply gT | apply gS2); first | exact rfl | assumption | omega | exact ⟨⟩) | ((with_reducible first | apply gL0 | apply gL1 | apply gL2 | apply gL3 | apply gL4); assumption)))
        refine t_again (next h8 p' _ c' le8 ?_)
        rw [htake, with_snoc, hlen, Int.zero_add, if_pos (by rw [e3, Bool.or_true])]; exact g8
      · refine t_again (next h₁ p n c le1 ?_)
        rw [htake, with_snoc, hlen, Int.zero_add, if_neg (by rw [e2, e3]; simp), List.append_nil]; exact g
  · (repeat (first | (with_reducible first | apply gA | apply gB | apply gC | apply gD | apply gE | apply gF | apply gG | apply gH | apply gI | apply gJ | apply gK | apply gL | apply gM | apply gN | apply gO | apply gP | apply gQ | apply gR | apply gP2 | apply gP3) | ((with_reducible first | apply gT | apply gS2); first | exact rfl | assumption | omega | exact ⟨⟩) | ((with_reducible first | apply gL0 | apply gL1 | apply gL2 | apply gL3 | apply gL4); assumption)))
    rw [List.take_of_length_le (by omega)] at g
    refine t_ret ⟨le1, ⟨p, n, c⟩, rfl, ?_, g.sl EventEnc.len (by omega) (EventEnc.e (Rd.of_le le1.1)) ?_⟩
    · obtain ⟨vs, o, _⟩ := g.row
      exact o.le_cap
    · show (withGo L x.events 0).length < _
      rw [← g.count EventEnc.len (by omega)]; omega
set_option maxRecDepth 10000 in
theorem c2043 {h : LH} {f : TC} {x : TF} (hx : TreatyR h.get f x) (k i d : Int) {ep : Option Addr} {en ec : Nat} {L : List Int} (hL : Sl IntE 1 h.get ep en L) :
    Gr Tryd.prog 43 #[treatyV f x, .int .i64 k, .int .i64 i, .int .i64 d, .slice ep en ec] h fun r _ => r = holdsT x k i d L := by
  refine w2043 _ _ _ _ _ _ _ _ _ _ _ _ _ _ _ X0_ok ?_
  unfold n2043
  refine t_pu (c2070 hx k i d) ?_
  (repeat (first | (with_reducible first | apply gA | apply gB | apply gC | apply gD | apply gE | apply gF | apply gG | apply gH | apply gI | apply gJ | apply gK | apply gL | apply gM | apply gN | apply gO | apply gP | apply gQ | apply gR | apply gP2 | apply gP3) | ((with_reducible first | apply gT | apply gS2); first | exact rfl | assumption | omega | exact ⟨⟩) | ((with_reducible first | apply gL0 | apply gL1 | apply gL2 | apply gL3 | apply gL4); assumption)))
  refine t_cond (fun e => ?_) (fun e => ?_)
  · exact t_ret ⟨LH.le_refl _, by rw [holdsT, if_pos (by simpa using e)]⟩
  have e0 : askedAllT x k i d = 0 := by simpa using e
  have hck := (asked_ok (askedItem_ok (askedAll_ok e0).1).1).1
  have rt := Right.of hck
  have hT : holdsT x k i d L = if firstT (chosenT x L) 0 L ≠ 0 then .tuple #[.bool false, .int .i64 (firstT (chosenT x L) 0 L)] else .tuple #[.bool (holdsB x k i d L), .int .i64 0] := by rw [holdsT, if_neg (by simp [e0])]
  refine t_gr (c2071 hx rt.many) ?_
  rintro _ h₁ le1 ⟨p, n, c, rfl, hg, _⟩
  have hen := hL.1
  have heb := hL.2.1
  (repeat (first | (with_reducible first | apply gA | apply gB | apply gC | apply gD | apply gE | apply gF | apply gG | apply gH | apply gI | apply gJ | apply gK | apply gL | apply gM | apply gN | apply gO | apply gP | apply gQ | apply gR | apply gP2 | apply gP3) | ((with_reducible first | apply gT | apply gS2); first | exact rfl | assumption | omega | exact ⟨⟩) | ((with_reducible first | apply gL0 | apply gL1 | apply gL2 | apply gL3 | apply gL4); assumption)))
  refine t_loop (fun mm vs h' => h₁ = h' ∧ ∃ j : Nat, vs = [.bool false, .int .i64 0, .int .i64 j] ∧ j ≤ en ∧ mm = en - j ∧ firstT (chosenT x L) 0 L = firstT (chosenT x L) j (L.drop j)) ⟨rfl, 0, rfl, Nat.zero_le _, rfl, rfl⟩ ?_
  rintro Y mm vs _ hY ⟨rfl, j, rfl, hj, rfl, hc⟩
  (repeat (first | (with_reducible first | apply gA | apply gB | apply gC | apply gD | apply gE | apply gF | apply gG | apply gH | apply gI | apply gJ | apply gK | apply gL | apply gM | apply gN | apply gO | apply gP | apply gQ | apply gR | apply gP2 | apply gP3) | ((with_reducible first | apply gT | apply gS2); first | exact rfl | assumption | omega | exact ⟨⟩) | ((with_reducible first | apply gL0 | apply gL1 | apply gL2 | apply gL3 | apply gL4); assumption)))
  refine t_if (fun e1 => ?_) (fun e1 => ?_)
  · obtain ⟨y, a, hy, ha, e2⟩ := (hL.le IntE.grow le1.1).at (i := j) (by omega)
    unfold IntE at e2
    rw [drop_of hy, firstT] at hc
    (repeat (first | (with_reducible first | apply gA | apply gB | apply gC | apply gD | apply gE | apply gF | apply gG | apply gH | apply gI | apply gJ | apply gK | apply gL | apply gM | apply gN | apply gO | apply gP | apply gQ | apply gR | apply gP2 | apply gP3) | ((with_reducible first | apply gT | apply gS2); first | exact rfl | assumption | omega | exact ⟨⟩) | ((with_reducible first | apply gL0 | apply gL1 | apply gL2 | apply gL3 | apply gL4); assumption)))
    refine t_pu (c41 hg y) ?_
    (repeat (first | (with_reducible first | apply gA | apply gB | apply gC | apply gD | apply gE | apply gF | apply gG | apply gH | apply gI | apply gJ | apply gK | apply gL | apply gM | apply gN | apply gO | apply gP | apply gQ | apply gR | apply gP2 | apply gP3) | ((with_reducible first | apply gT | apply gS2); first | exact rfl | assumption | omega | exact ⟨⟩) | ((with_reducible first | apply gL0 | apply gL1 | apply gL2 | apply gL3 | apply gL4); assumption)))
    have next : chosenT x L j y = 0 → Y [.bool false, .int .i64 0, .int .i64 (IntKind.wrap .i64 ((j : Int) + 1))] h₁ := by
      intro hz
      rw [if_neg (by rw [hz]; simp)] at hc
      refine hY (en - (j + 1)) _ _ (by omega) ⟨rfl, j + 1, ?_, by omega, rfl, hc⟩
      rw [wrap_id (by omega) (by omega)]; rfl
    have stop : ∀ z : Int, z ≠ 0 → chosenT x L j y = z → holdsT x k i d L = .tuple #[.bool false, .int .i64 z] := by
      intro z hz hr
      rw [hr, if_pos hz] at hc
      rw [hT, hc, if_pos hz]
    refine t_cond (fun d1 => ?_) (fun d1 => ?_)
    · (repeat (first | (with_reducible first | apply gA | apply gB | apply gC | apply gD | apply gE | apply gF | apply gG | apply gH | apply gI | apply gJ | apply gK | apply gL | apply gM | apply gN | apply gO | apply gP | apply gQ | apply gR | apply gP2 | apply gP3) | ((with_reducible first | apply gT | apply gS2); first | exact rfl | assumption | omega | exact ⟨⟩) | ((with_reducible first | apply gL0 | apply gL1 | apply gL2 | apply gL3 | apply gL4); assumption)))
      refine t_ret ⟨le1, ?_⟩
      rw [stop 6 (by decide) (by rw [chosenT, if_pos (by simpa using d1)])]
    have d1' : ¬ (giving x).contains y = false := by simp at d1; simp [d1]
    refine t_if (fun d2 => ?_) (fun d2 => ?_)
    · obtain ⟨z, a2, hz, ha2, e3⟩ := (hL.le IntE.grow le1.1).at (i := j - 1) (by omega)
      unfold IntE at e3
      rw [ha] at ha2; cases ha2
      have hwi : IntKind.wrap .i64 ((j : Int) - 1) = ((j - 1 : Nat) : Int) := by rw [wrap_id (by omega) (by omega)]; omega
      have hgd : L.getD (j - 1) 0 = z := by simp [List.getD, hz]
      rw [hwi]
      (repeat (first | (with_reducible first | apply gA | apply gB | apply gC | apply gD | apply gE | apply gF | apply gG | apply gH | apply gI | apply gJ | apply gK | apply gL | apply gM | apply gN | apply gO | apply gP | apply gQ | apply gR | apply gP2 | apply gP3) | ((with_reducible first | apply gT | apply gS2); first | exact rfl | assumption | omega | exact ⟨⟩) | ((with_reducible first | apply gL0 | apply gL1 | apply gL2 | apply gL3 | apply gL4); assumption)))
      refine t_if (fun d3 => ?_) (fun d3 => ?_)
      · (repeat (first | (with_reducible first | apply gA | apply gB | apply gC | apply gD | apply gE | apply gF | apply gG | apply gH | apply gI | apply gJ | apply gK | apply gL | apply gM | apply gN | apply gO | apply gP | apply gQ | apply gR | apply gP2 | apply gP3) | ((with_reducible first | apply gT | apply gS2); first | exact rfl | assumption | omega | exact ⟨⟩) | ((with_reducible first | apply gL0 | apply gL1 | apply gL2 | apply gL3 | apply gL4); assumption)))
        refine t_ret ⟨le1, ?_⟩
        rw [stop 7 (by decide) (by rw [chosenT, if_neg d1', if_pos ⟨by omega, by rw [hgd]; exact d3⟩])]
      · exact t_again (next (by rw [chosenT, if_neg d1', if_neg (by rw [hgd]; omega)]))
    · (repeat (first | (with_reducible first | apply gA | apply gB | apply gC | apply gD | apply gE | apply gF | apply gG | apply gH | apply gI | apply gJ | apply gK | apply gL | apply gM | apply gN | apply gO | apply gP | apply gQ | apply gR | apply gP2 | apply gP3) | ((with_reducible first | apply gT | apply gS2); first | exact rfl | assumption | omega | exact ⟨⟩) | ((with_reducible first | apply gL0 | apply gL1 | apply gL2 | apply gL3 | apply gL4); assumption)))
      exact t_again (next (by rw [chosenT, if_neg d1', if_neg (by omega)]))
  · (repeat (first | (with_reducible first | apply gA | apply gB | apply gC | apply gD | apply gE | apply gF | apply gG | apply gH | apply gI | apply gJ | apply gK | apply gL | apply gM | apply gN | apply gO | apply gP | apply gQ | apply gR | apply gP2 | apply gP3) | ((with_reducible first | apply gT | apply gS2); first | exact rfl | assumption | omega | exact ⟨⟩) | ((with_reducible first | apply gL0 | apply gL1 | apply gL2 | apply gL3 | apply gL4); assumption)))
    rw [List.drop_eq_nil_of_le (by omega), firstT] at hc
    refine t_gr (c2072 (hx.le le1.1) rt.many (hL.le IntE.grow le1.1)) ?_
    rintro _ h2 le2 ⟨f', rfl, hx2⟩
    unfold treatyV
    (repeat (first | (with_reducible first | apply gA | apply gB | apply gC | apply gD | apply gE | apply gF | apply gG | apply gH | apply gI | apply gJ | apply gK | apply gL | apply gM | apply gN | apply gO | apply gP | apply gQ | apply gR | apply gP2 | apply gP3) | ((with_reducible first | apply gT | apply gS2); first | exact rfl | assumption | omega | exact ⟨⟩) | ((with_reducible first | apply gL0 | apply gL1 | apply gL2 | apply gL3 | apply gL4); assumption)))
    refine t_gr (c2051 hx2 (rt.with L) k i d) ?_
    rintro _ h3 le3 rfl
    (repeat (first | (with_reducible first | apply gA | apply gB | apply gC | apply gD | apply gE | apply gF | apply gG | apply gH | apply gI | apply gJ | apply gK | apply gL | apply gM | apply gN | apply gO | apply gP | apply gQ | apply gR | apply gP2 | apply gP3) | ((with_reducible first | apply gT | apply gS2); first | exact rfl | assumption | omega | exact ⟨⟩) | ((with_reducible first | apply gL0 | apply gL1 | apply gL2 | apply gL3 | apply gL4); assumption)))
    refine t_ret ⟨LH.le_trans le1 (LH.le_trans le2 le3), ?_⟩
    rw [hT, if_neg (by rw [hc]; simp)]
    rfl
end Go.Proofs.YtbmfimaomcnkfaaDoor
end
section
namespace Go.Proofs.YtbmfimaomcnkfaaDoor
open Go Go.TM Go.Proofs Go.TM.Tr
attribute [local irreducible] T.wp CV FWK
theorem subl_small {l : List Int} (h : l.length ≤ 10) : (subl l).length ≤ 1024 := by
  rw [subl_len]
  exact Nat.pow_le_pow_right (by omega) h (n := 2)
set_option maxRecDepth 100000 in
theorem c76 : ∀ (N : Nat) {h : LH} {lp : Option Addr} {ln lc : Nat} {l : List Int}, l.length ≤ N → l.length ≤ 10 → ln ≤ lc → Sl IntE 1 h.get lp ln l →
    Gr Tryd.prog 75 #[.slice lp ln lc] h fun r h' => ∃ p n c, r = .slice p n c ∧ Sl SlE 1 (vis h.get none h'.get) p n (subl l) := by
  intro N
  induction N with
  | zero =>
    intro h lp ln lc l hN h10 hcap hl
    have hl0 : l = [] := List.eq_nil_of_length_eq_zero (by omega)
    have hln := hl.1
    subst hl0
    refine w76 _ _ _ X0_ok ?_
    unfold n76
    refine t_build und106 inf50 (by decide) (by decide) (cells := #[.slice none 0 0]) (by kernel_rfl) fun r hr => ?_
    (repeat (first | (with_reducible first | apply gA | apply gB | apply gC | apply gD | apply gE | apply gF | apply gG | apply gH | apply gI | apply gJ | apply gK | apply gL | apply gM | apply gN | apply gO | apply gP | apply gQ | apply gR | apply gP2 | apply gP3) | ((with_reducible first | apply gT | apply gS2); first | exact rfl | assumption | omega | exact ⟨⟩) | ((with_reducible first | apply gL0 | apply gL1 | apply gL2 | apply gL3 | apply gL4); assumption)))
    refine t_loop (fun mm vs h' => ({ h with get := h.get.upd r (true, .cells #[.slice none 0 0] 38 (0, 0)) } : LH) = h' ∧ vs = [.slice (some ⟨r, 0, none⟩) 1 1, .int .i64 0] ∧ mm = 0) ⟨rfl, rfl, rfl⟩ ?_
    rintro Y mm vs _ hY ⟨rfl, rfl, rfl⟩
    (repeat (first | (with_reducible first | apply gA | apply gB | apply gC | apply gD | apply gE | apply gF | apply gG | apply gH | apply gI | apply gJ | apply gK | apply gL | apply gM | apply gN | apply gO | apply gP | apply gQ | apply gR | apply gP2 | apply gP3) | ((with_reducible first | apply gT | apply gS2); first | exact rfl | assumption | omega | exact ⟨⟩) | ((with_reducible first | apply gL0 | apply gL1 | apply gL2 | apply gL3 | apply gL4); assumption)))
    refine t_if (fun e => ?_) (fun _ => ?_)
    · simp at hln; omega
    (repeat (first | (with_reducible first | apply gA | apply gB | apply gC | apply gD | apply gE | apply gF | apply gG | apply gH | apply gI | apply gJ | apply gK | apply gL | apply gM | apply gN | apply gO | apply gP | apply gQ | apply gR | apply gP2 | apply gP3) | ((with_reducible first | apply gT | apply gS2); first | exact rfl | assumption | omega | exact ⟨⟩) | ((with_reducible first | apply gL0 | apply gL1 | apply gL2 | apply gL3 | apply gL4); assumption)))
    refine t_ret ⟨LH.upd_le hr, _, 1, 1, rfl, rfl, by simp [subl, tailsS], fun i x hx => ?_⟩
    cases i with
    | zero =>
      simp [subl, tailsS] at hx
      subst hx
      refine ⟨_, rfl, none, 0, 0, ?_, Sl.nil⟩
      exact cell_of (vis_some.2 ⟨⟨hr, by simp⟩, Cells.upd_self _ _ _⟩) rfl
    | succ i => simp [subl, tailsS] at hx
  | succ N ih =>
    intro h lp ln lc l hN h10 hcap hl
    have hln := hl.1
    have hbl := hl.2.1
    have hsz := subl_small h10
    refine w76 _ _ _ X0_ok ?_
    unfold n76
    refine t_build und106 inf50 (by decide) (by decide) (cells := #[.slice none 0 0]) (by kernel_rfl) fun r hr => ?_
    (repeat (first | (with_reducible first | apply gA | apply gB | apply gC | apply gD | apply gE | apply gF | apply gG | apply gH | apply gI | apply gJ | apply gK | apply gL | apply gM | apply gN | apply gO | apply gP | apply gQ | apply gR | apply gP2 | apply gP3) | ((with_reducible first | apply gT | apply gS2); first | exact rfl | assumption | omega | exact ⟨⟩) | ((with_reducible first | apply gL0 | apply gL1 | apply gL2 | apply gL3 | apply gL4); assumption)))
    -- the lists so far, and those yet to come
    refine t_loop (fun mm vs h' => h.le h' ∧ ∃ (i : Nat) (p : Option Addr) (n c : Nat) (out : List (List Int)), vs = [.slice p n c, .int .i64 i] ∧ i ≤ ln ∧ mm = ln - i ∧ subl l = out ++ tailsS (l.drop i) ∧ Growing (LEnc (vis h.get p h'.get)) 38 1 h.get h'.get p n c out)
      ⟨LH.upd_le hr, 0, _, 1, 1, [[]], rfl, Nat.zero_le _, rfl, rfl, ⟨[.slice none 0 0], ⟨rfl, .inr ⟨r, _, rfl, Cells.upd_self _ _ _, rfl, Nat.le_refl _, fun j v hv => by simpa using hv⟩⟩, Rows.snoc .nil ⟨none, 0, 0, rfl, Sl.nil⟩⟩, fun a ha => by cases ha; exact hr⟩ ?_
    rintro Y mm vs h₁ hY ⟨le1, i, p, n, c, out, rfl, hi, rfl, hsub, g⟩
    (repeat (first | (with_reducible first | apply gA | apply gB | apply gC | apply gD | apply gE | apply gF | apply gG | apply gH | apply gI | apply gJ | apply gK | apply gL | apply gM | apply gN | apply gO | apply gP | apply gQ | apply gR | apply gP2 | apply gP3) | ((with_reducible first | apply gT | apply gS2); first | exact rfl | assumption | omega | exact ⟨⟩) | ((with_reducible first | apply gL0 | apply gL1 | apply gL2 | apply gL3 | apply gL4); assumption)))
    refine t_if (fun e1 => ?_) (fun e1 => ?_)
    · obtain ⟨x, a, hx, ha, ex⟩ := hl.at (i := i) (by omega)
      unfold IntE at ex
      have hdrop := drop_of hx
      rw [hdrop, tailsS] at hsub
      rw [wrap_id (by omega) (by omega)]
      have hl1 := hl.le IntE.grow le1.1
      have cast1 : ((i : Int) + 1) = ((i + 1 : Nat) : Int) := by omega
      rw [cast1]
      refine t_sliceLow und50 inf3 (by omega) ?_
      (repeat (first | (with_reducible first | apply gA | apply gB | apply gC | apply gD | apply gE | apply gF | apply gG | apply gH | apply gI | apply gJ | apply gK | apply gL | apply gM | apply gN | apply gO | apply gP | apply gQ | apply gR | apply gP2 | apply gP3) | ((with_reducible first | apply gT | apply gS2); first | exact rfl | assumption | omega | exact ⟨⟩) | ((with_reducible first | apply gL0 | apply gL1 | apply gL2 | apply gL3 | apply gL4); assumption)))
      have hrest : (l.drop (i + 1)).length ≤ N := by rw [List.length_drop]; omega
      refine t_gr (ih hrest (by rw [List.length_drop]; omega) (by omega) (hl1.drop (c := lc) (i := i + 1) hcap)) ?_
      rintro _ h₂ le2 ⟨pr, nr, cr, rfl, hrs⟩
      (repeat (first | (with_reducible first | apply gA | apply gB | apply gC | apply gD | apply gE | apply gF | apply gG | apply gH | apply gI | apply gJ | apply gK | apply gL | apply gM | apply gN | apply gO | apply gP | apply gQ | apply gR | apply gP2 | apply gP3) | ((with_reducible first | apply gT | apply gS2); first | exact rfl | assumption | omega | exact ⟨⟩) | ((with_reducible first | apply gL0 | apply gL1 | apply gL2 | apply gL3 | apply gL4); assumption)))
      -- what must stand while the lists are appended
      let B : LH := { h with get := h.get.add (vis h₁.get none h₂.get) }
      have le02 := LH.le_trans le1 le2
      have hB2 : B.le h₂ := by
        refine ⟨fun b y hb => ?_, le02.2⟩
        rcases Cells.add_some hb with hb | ⟨_, hb⟩
        · exact le02.1 b y hb
        · exact vis_sub b y hb
      have hhB : ∀ r, B.get r = none → h.get r = none := by
        intro r hb
        cases hx : h.get r with
        | none => rfl
        | some y => rw [show B.get r = some y from Cells.add_left hx] at hb; cases hb
      have hvB : (vis h₁.get none h₂.get).le B.get := by
        intro r y hv
        have : h.get r = none := by
          cases hx : h.get r with
          | none => rfl
          | some z =>
            have := le1.1 r z hx
            rw [((vis_some.1 hv).1).1] at this; cases this
        exact (Cells.add_right this).trans hv
      have hpB : NewIn B.get p := by
        intro b hb
        have h1 := g.new b hb
        show h.get.add _ b.block = none
        rw [Cells.add_right h1]
        cases hv : vis h₁.get none h₂.get b.block with
        | none => rfl
        | some y =>
          exfalso
          obtain ⟨vs, ⟨_, hh⟩, _⟩ := g.row
          rcases hh with ⟨hh, _⟩ | ⟨r', cs, hh, h5, _⟩
          · rw [hh] at hb; cases hb
          · rw [hh] at hb; cases hb
            have := (vis_some.1 hv).1.1
            rw [h5] at this; cases this
      have g2 : Growing (LEnc (vis h.get p h₂.get)) 38 1 B.get h₂.get p n c out := ⟨(g.le le2.1 |>.mono fun x ws he => he.up (vis_le le2.1)).row, hpB⟩
      have hnr := hrs.1
      have hnrl : nr ≤ 1024 := by rw [hnr]; exact subl_small (by rw [List.length_drop]; omega)
      have hbound : ∀ k, out.length + ((subl (l.drop (i + 1))).take k).length ≤ 1024 := by
        intro k
        have h1 := congrArg List.length hsub
        rw [List.length_append, List.length_append, List.length_map] at h1
        have h2 : ((subl (l.drop (i + 1))).take k).length ≤ (subl (l.drop (i + 1))).length := by rw [List.length_take]; omega
        unfold subl at h2 ⊢
        unfold subl at h1 hsz
        omega
      refine t_loop (fun mm vs h' => B.le h' ∧ ∃ (k : Nat) (p : Option Addr) (n c : Nat), vs = [.slice p n c, .int .i64 k] ∧ k ≤ nr ∧ mm = nr - k ∧ Growing (LEnc (vis h.get p h'.get)) 38 1 B.get h'.get p n c (out ++ ((subl (l.drop (i + 1))).take k).map (x :: ·)))
        ⟨hB2, 0, p, n, c, rfl, Nat.zero_le _, rfl, by simpa using g2⟩ ?_
      clear g g2 hpB
      rintro Y2 mm2 vs h₃ hY2 ⟨leB3, k, p, n, c, rfl, hk, rfl, g3⟩
      have le03 : h.le h₃ := ⟨fun b y hb => leB3.1 b y (Cells.add_left hb), leB3.2⟩
      (repeat (first | (with_reducible first | apply gA | apply gB | apply gC | apply gD | apply gE | apply gF | apply gG | apply gH | apply gI | apply gJ | apply gK | apply gL | apply gM | apply gN | apply gO | apply gP | apply gQ | apply gR | apply gP2 | apply gP3) | ((with_reducible first | apply gT | apply gS2); first | exact rfl | assumption | omega | exact ⟨⟩) | ((with_reducible first | apply gL0 | apply gL1 | apply gL2 | apply gL3 | apply gL4); assumption)))
      refine t_if (fun e2 => ?_) (fun e2 => ?_)
      · obtain ⟨lk, b, hlk, hb, q, m, cq, e3, s3⟩ := hrs.at (i := k) (by omega)
        have up3 : (vis h₁.get none h₂.get).le h₃.get := Cells.le_trans hvB leB3.1
        have e3v : (vis h₁.get none h₂.get).cell? (b.add (k * 1)) = some (.slice q m cq) := e3
        have e3 : h₃.get.cell? (b.add (k * 1)) = some (.slice q m cq) := Cells.cell?_le up3 e3v
        have s3 := s3.le IntE.grow up3
        have ex3 := Cells.cell?_le le03.1 ex
        (repeat (first | (with_reducible first | apply gA | apply gB | apply gC | apply gD | apply gE | apply gF | apply gG | apply gH | apply gI | apply gJ | apply gK | apply gL | apply gM | apply gN | apply gO | apply gP | apply gQ | apply gR | apply gP2 | apply gP3) | ((with_reducible first | apply gT | apply gS2); first | exact rfl | assumption | omega | exact ⟨⟩) | ((with_reducible first | apply gL0 | apply gL1 | apply gL2 | apply gL3 | apply gL4); assumption)))
        refine t_build und50 inf3 (by decide) (by decide) (cells := #[.int .i64 x]) (by kernel_rfl) fun rb hrb => ?_
        have le34 : h₃.le { h₃ with get := h₃.get.upd rb (true, .cells #[.int .i64 x] 3 (0, 0)) } := LH.upd_le hrb
        have e4 := Cells.cell?_le le34.1 e3
        have ex4 := Cells.cell?_le le34.1 ex3
        have s4 := s3.le IntE.grow le34.1
        have gI : Growing IntEnc 3 1 h₃.get (h₃.get.upd rb (true, .cells #[.int .i64 x] 3 (0, 0))) (some ⟨rb, 0, none⟩) 1 1 [x] :=
          ⟨⟨[.int .i64 x], ⟨rfl, .inr ⟨rb, _, rfl, Cells.upd_self _ _ _, rfl, Nat.le_refl _, fun j v hv => by simpa using hv⟩⟩, Rows.snoc .nil rfl⟩, fun a ha => by cases ha; exact hrb⟩
        have hm10 : m ≤ 10 := by
          have h1 := s3.1
          have : lk.length ≤ (l.drop (i + 1)).length := by
            have key : ∀ (l : List Int), ∀ y ∈ subl l, y.length ≤ l.length := by
              intro l
              induction l with
              | nil => intro y hy; simp [subl, tailsS] at hy; subst hy; simp
              | cons z l ih =>
                intro y hy
                unfold subl at hy ih
                rw [tailsS] at hy
                simp only [List.mem_cons, List.mem_append, List.mem_map] at hy
                rcases hy with rfl | ⟨w, hw, rfl⟩ | hy
                · simp
                · have := ih w (by simpa using hw); simp; omega
                · have := ih y (by simp [hy]); simp; omega
            exact key _ _ (List.mem_of_getElem? hlk)
          rw [List.length_drop] at this
          omega
        (repeat (first | (with_reducible first | apply gA | apply gB | apply gC | apply gD | apply gE | apply gF | apply gG | apply gH | apply gI | apply gJ | apply gK | apply gL | apply gM | apply gN | apply gO | apply gP | apply gQ | apply gR | apply gP2 | apply gP3) | ((with_reducible first | apply gT | apply gS2); first | exact rfl | assumption | omega | exact ⟨⟩) | ((with_reducible first | apply gL0 | apply gL1 | apply gL2 | apply gL3 | apply gL4); assumption)))
        refine t_copy (h₀ := h₃) rfl rfl und50 und50 inf3 rfl (by omega) (by omega) gI le34 s4 IntE.told fun p5 c5 h₅ le35 _ g5 => ?_
        have e5 := Cells.cell?_le le35.1 e3
        have ex5 := Cells.cell?_le le35.1 ex3
        (repeat (first | (with_reducible first | apply gA | apply gB | apply gC | apply gD | apply gE | apply gF | apply gG | apply gH | apply gI | apply gJ | apply gK | apply gL | apply gM | apply gN | apply gO | apply gP | apply gQ | apply gR | apply gP2 | apply gP3) | ((with_reducible first | apply gT | apply gS2); first | exact rfl | assumption | omega | exact ⟨⟩) | ((with_reducible first | apply gL0 | apply gL1 | apply gL2 | apply gL3 | apply gL4); assumption)))
        refine t_build und106 inf50 (by decide) (by decide) (cells := #[.slice p5 (1 + m) c5]) (by kernel_rfl) fun rc hrc => ?_
        generalize hh6 : ({ h₅ with get := h₅.get.upd rc (true, .cells #[.slice p5 (1 + m) c5] 38 (0, 0)) } : LH) = h₆
        have le56 : h₅.le h₆ := by rw [← hh6]; exact LH.upd_le hrc
        have hc6 : h₆.get.cell? ⟨rc, 0, none⟩ = some (.slice p5 (1 + m) c5) := by rw [← hh6]; exact cell_upd rfl
        have le36 := LH.le_trans le35 le56
        have e6 := Cells.cell?_le le36.1 e3
        have ex6 := Cells.cell?_le le36.1 ex3
        have hpo : ∀ a, p = some a → ∃ y, h₃.get a.block = some y := by
          intro a ha
          obtain ⟨vs, ⟨_, hh⟩, _⟩ := g3.row
          rcases hh with ⟨hh, _⟩ | ⟨r', cs, hh, h5, _⟩
          · rw [hh] at ha; cases ha
          · rw [hh] at ha; cases ha; exact ⟨_, h5⟩
        have hx5 : Sl IntE 1 (vis h.get p h₆.get) p5 (1 + m) (x :: lk) := by
          obtain ⟨vs, o5, r5⟩ := g5.row
          have o6 := (o5.le le56.1).vis (h₀ := h.get) (p := p) g5.new le03.1 hpo
          have := r5.sl IntEnc.len (by omega) IntEnc.e o6 (by simp; have := s3.1; omega)
          exact this
        have hng := g3.count LEnc.len (by omega)
        have hbd := hbound k
        rw [List.length_append, List.length_map] at hng
        (repeat (first | (with_reducible first | apply gA | apply gB | apply gC | apply gD | apply gE | apply gF | apply gG | apply gH | apply gI | apply gJ | apply gK | apply gL | apply gM | apply gN | apply gO | apply gP | apply gQ | apply gR | apply gP2 | apply gP3) | ((with_reducible first | apply gT | apply gS2); first | exact rfl | assumption | omega | exact ⟨⟩) | ((with_reducible first | apply gL0 | apply gL1 | apply gL2 | apply gL3 | apply gL4); assumption)))
        refine t_growP (h₀ := B) (x := x :: lk) (ws := [.slice p5 (1 + m) c5]) (Enc := LEnc (vis h.get p h₆.get)) rfl rfl und106 und106 inf50 rfl (by omega) (by omega) ((g3.le le36.1).mono fun y ws he => he.up (vis_le le36.1)) (LH.le_trans leB3 le36) ⟨p5, 1 + m, c5, rfl, hx5⟩ rfl ?_ ?_ ?_
        · intro j w hj
          match j, hj with
          | 0, hj => cases hj; exact hc6
          | j + 1, hj => simp at hj
        · intro w hw; simp at hw; subst hw; rfl
        · intro p' c' h₇ le7 kp hpp g7
          have le07 : h.le h₇ := ⟨fun b y hb => le7.1 b y (Cells.add_left hb), le7.2⟩
          have e7 := Cells.cell?_le (Cells.le_trans hvB le7.1) e3v
          have ex7 := Cells.cell?_le le07.1 ex
          (repeat (first | (with_reducible first | apply gA | apply gB | apply gC | apply gD | apply gE | apply gF | apply gG | apply gH | apply gI | apply gJ | apply gK | apply gL | apply gM | apply gN | apply gO | apply gP | apply gQ | apply gR | apply gP2 | apply gP3) | ((with_reducible first | apply gT | apply gS2); first | exact rfl | assumption | omega | exact ⟨⟩) | ((with_reducible first | apply gL0 | apply gL1 | apply gL2 | apply gL3 | apply gL4); assumption)))
          refine t_again (hY2 (nr - (k + 1)) _ _ (by omega) ⟨le7, k + 1, p', n + 1, c', ?_, by omega, rfl, ?_⟩)
          · rw [wrap_id (by omega) (by omega)]; rfl
          · have ht : ((subl (l.drop (i + 1))).take (k + 1)).map (x :: ·) = ((subl (l.drop (i + 1))).take k).map (x :: ·) ++ [x :: lk] := by
              rw [List.take_add_one, hlk, List.map_append]; rfl
            rw [ht, ← List.append_assoc]
            exact g7.mono fun y ws he => he.up (vis_up kp hpp)
      · (repeat (first | (with_reducible first | apply gA | apply gB | apply gC | apply gD | apply gE | apply gF | apply gG | apply gH | apply gI | apply gJ | apply gK | apply gL | apply gM | apply gN | apply gO | apply gP | apply gQ | apply gR | apply gP2 | apply gP3) | ((with_reducible first | apply gT | apply gS2); first | exact rfl | assumption | omega | exact ⟨⟩) | ((with_reducible first | apply gL0 | apply gL1 | apply gL2 | apply gL3 | apply gL4); assumption)))
        refine t_again (hY (ln - (i + 1)) _ _ (by omega) ⟨le03, i + 1, p, n, c, _, ?_, by omega, rfl, ?_, g3.base hhB⟩)
        · rfl
        · rw [List.take_of_length_le (by omega), hsub, List.append_assoc]; rfl
    · (repeat (first | (with_reducible first | apply gA | apply gB | apply gC | apply gD | apply gE | apply gF | apply gG | apply gH | apply gI | apply gJ | apply gK | apply gL | apply gM | apply gN | apply gO | apply gP | apply gQ | apply gR | apply gP2 | apply gP3) | ((with_reducible first | apply gT | apply gS2); first | exact rfl | assumption | omega | exact ⟨⟩) | ((with_reducible first | apply gL0 | apply gL1 | apply gL2 | apply gL3 | apply gL4); assumption)))
      rw [List.drop_eq_nil_of_le (by omega), tailsS, List.append_nil] at hsub
      have hlo : out.length ≤ 1024 := by rw [← hsub]; exact hsz
      refine t_ret ⟨le1, p, n, c, rfl, ?_⟩
      rw [hsub]
      obtain ⟨vs, o, rws⟩ := g.row
      have o' : OwnRow 38 1 (vis h.get none h₁.get) p n c vs := o.vis (h3 := h.get) g.new (Cells.le_refl _) (fun a ha => by cases ha)
      refine rws.sl LEnc.len (by omega) ?_ o' (by omega)
      rintro a y _ ⟨q, m, cc, rfl, hs⟩ hc
      exact ⟨q, m, cc, hc 0 _ rfl, hs.le IntE.grow vis_none⟩
def NeedsW (h' : Cells) (x : TF) (k it d : Int) (r : Value) : Prop :=
  (askedAllT x k it d ≠ 0 ∧ r = .tuple #[.slice none 0 0, .bool false, .int .i64 (askedAllT x k it d)]) ∨
  (askedAllT x k it d = 0 ∧ ¬ 0 ≤ dateOn x k it d ∧ r = .tuple #[.slice none 0 0, .bool false, .int .i64 0]) ∨
  (askedAllT x k it d = 0 ∧ 0 ≤ dateOn x k it d ∧ ∃ p n c, r = .tuple #[.slice p n c, .bool true, .int .i64 0] ∧ Sl IntE 1 h' p n (needT x k it d))
theorem subl_len_le {l y : List Int} (h : y ∈ subl l) : y.length ≤ l.length := (subl_sub h).length_le
set_option maxRecDepth 10000 in
theorem c2045 {h : LH} {f : TC} {x : TF} (hx : TreatyR h.get f x) (k i d : Int) :
    Gr Tryd.prog 45 #[treatyV f x, .int .i64 k, .int .i64 i, .int .i64 d] h fun r h' => NeedsW h'.get x k i d r := by
  refine w2045 _ _ _ _ _ _ _ _ _ _ _ _ X0_ok ?_
  unfold n2045
  refine t_pu (c2070 hx k i d) ?_
  (repeat (first | (with_reducible first | apply gA | apply gB | apply gC | apply gD | apply gE | apply gF | apply gG | apply gH | apply gI | apply gJ | apply gK | apply gL | apply gM | apply gN | apply gO | apply gP | apply gQ | apply gR | apply gP2 | apply gP3) | ((with_reducible first | apply gT | apply gS2); first | exact rfl | assumption | omega | exact ⟨⟩) | ((with_reducible first | apply gL0 | apply gL1 | apply gL2 | apply gL3 | apply gL4); assumption)))
  refine t_cond (fun e => ?_) (fun e => ?_)
  · exact t_ret ⟨LH.le_refl _, .inl ⟨by simpa using e, rfl⟩⟩
  have e0 : askedAllT x k i d = 0 := by simpa using e
  have hck := (asked_ok (askedItem_ok (askedAll_ok e0).1).1).1
  have rt := Right.of hck
  have h10 := giving_ten rt
  refine t_gr (c2071 hx rt.many) ?_
  rintro _ h₁ le1 ⟨p, n, c, rfl, hg, hnc⟩
  (repeat (first | (with_reducible first | apply gA | apply gB | apply gC | apply gD | apply gE | apply gF | apply gG | apply gH | apply gI | apply gJ | apply gK | apply gL | apply gM | apply gN | apply gO | apply gP | apply gQ | apply gR | apply gP2 | apply gP3) | ((with_reducible first | apply gT | apply gS2); first | exact rfl | assumption | omega | exact ⟨⟩) | ((with_reducible first | apply gL0 | apply gL1 | apply gL2 | apply gL3 | apply gL4); assumption)))
  refine t_gr (c2051 (hx.le le1.1) rt k i d) ?_
  rintro _ h₂ le2 rfl
  have le02 := LH.le_trans le1 le2
  have hg2 := hg.le IntE.grow le2.1
  (repeat (first | (with_reducible first | apply gA | apply gB | apply gC | apply gD | apply gE | apply gF | apply gG | apply gH | apply gI | apply gJ | apply gK | apply gL | apply gM | apply gN | apply gO | apply gP | apply gQ | apply gR | apply gP2 | apply gP3) | ((with_reducible first | apply gT | apply gS2); first | exact rfl | assumption | omega | exact ⟨⟩) | ((with_reducible first | apply gL0 | apply gL1 | apply gL2 | apply gL3 | apply gL4); assumption)))
  refine t_cond (fun d1 => ?_) (fun d1 => ?_)
  · exact t_ret ⟨le02, .inr (.inl ⟨e0, by simpa using d1, rfl⟩)⟩
  have hd : 0 ≤ dateOn x k i d := by simpa using d1
  refine t_gr (c76 _ (Nat.le_refl _) h10 hnc hg2) ?_
  rintro _ h₃ le3 ⟨pl, nl, cl, rfl, hsv⟩
  have le03 := LH.le_trans le02 le3
  have hsl : Sl SlE 1 h₃.get pl nl (subl (giving x)) := hsv.le SlE.grow vis_sub
  have hgn := hg.1
  have hsn := hsl.1
  have hsz := subl_small h10
  (repeat (first | (with_reducible first | apply gA | apply gB | apply gC | apply gD | apply gE | apply gF | apply gG | apply gH | apply gI | apply gJ | apply gK | apply gL | apply gM | apply gN | apply gO | apply gP | apply gQ | apply gR | apply gP2 | apply gP3) | ((with_reducible first | apply gT | apply gS2); first | exact rfl | assumption | omega | exact ⟨⟩) | ((with_reducible first | apply gL0 | apply gL1 | apply gL2 | apply gL3 | apply gL4); assumption)))
  refine t_loop (fun mm vs h' => h₃.le h' ∧ ∃ (j : Nat) (q : Option Addr) (m mc : Nat) (best : List Int), vs = [.slice q m mc, .int .i64 j] ∧ j ≤ nl ∧ mm = nl - j ∧ Sl IntE 1 h'.get q m best ∧ needT x k i d = scanS (holdsB x k i d) best ((subl (giving x)).drop j))
    ⟨LH.le_refl _, 0, p, n, c, giving x, rfl, Nat.zero_le _, rfl, hg2.le IntE.grow le3.1, rfl⟩ ?_
  rintro Y mm vs h₄ hY ⟨le4, j, q, m, mc, best, rfl, hj, rfl, hb, hc⟩
  have le04 := LH.le_trans le03 le4
  (repeat (first | (with_reducible first | apply gA | apply gB | apply gC | apply gD | apply gE | apply gF | apply gG | apply gH | apply gI | apply gJ | apply gK | apply gL | apply gM | apply gN | apply gO | apply gP | apply gQ | apply gR | apply gP2 | apply gP3) | ((with_reducible first | apply gT | apply gS2); first | exact rfl | assumption | omega | exact ⟨⟩) | ((with_reducible first | apply gL0 | apply gL1 | apply gL2 | apply gL3 | apply gL4); assumption)))
  refine t_if (fun e1 => ?_) (fun e1 => ?_)
  · obtain ⟨l, a, hl, ha, q2, m2, c2, e2, s2⟩ := (hsv.le SlE.grow (Cells.le_trans vis_sub le4.1)).at (i := j) (by omega)
    have hln := s2.1
    have hlm := subl_len_le (List.mem_of_getElem? hl)
    have hbm := hb.1
    rw [drop_of hl, scanS] at hc
    have next : ∀ h' q' m' mc' b', h₃.le h' → j + 1 ≤ nl → Sl IntE 1 h'.get q' m' b' → needT x k i d = scanS (holdsB x k i d) b' ((subl (giving x)).drop (j + 1)) → Y [.slice q' m' mc', .int .i64 (IntKind.wrap .i64 ((j : Int) + 1))] h' := by
      intro h' q' m' mc' b' hle' hlt hs' hc'
      refine hY (nl - (j + 1)) _ _ (by omega) ⟨hle', j + 1, q', m', mc', b', ?_, by omega, rfl, hs', hc'⟩
      rw [wrap_id (by omega) (by omega)]; rfl
    (repeat (first | (with_reducible first | apply gA | apply gB | apply gC | apply gD | apply gE | apply gF | apply gG | apply gH | apply gI | apply gJ | apply gK | apply gL | apply gM | apply gN | apply gO | apply gP | apply gQ | apply gR | apply gP2 | apply gP3) | ((with_reducible first | apply gT | apply gS2); first | exact rfl | assumption | omega | exact ⟨⟩) | ((with_reducible first | apply gL0 | apply gL1 | apply gL2 | apply gL3 | apply gL4); assumption)))
    refine t_if (fun e3 => ?_) (fun e3 => ?_)
    · (repeat (first | (with_reducible first | apply gA | apply gB | apply gC | apply gD | apply gE | apply gF | apply gG | apply gH | apply gI | apply gJ | apply gK | apply gL | apply gM | apply gN | apply gO | apply gP | apply gQ | apply gR | apply gP2 | apply gP3) | ((with_reducible first | apply gT | apply gS2); first | exact rfl | assumption | omega | exact ⟨⟩) | ((with_reducible first | apply gL0 | apply gL1 | apply gL2 | apply gL3 | apply gL4); assumption)))
      refine t_gr (c2072 (hx.le le04.1) rt.many s2) ?_
      rintro _ h₅ le5 ⟨f', rfl, hx5⟩
      have e25 := Cells.cell?_le le5.1 e2
      unfold treatyV
      (repeat (first | (with_reducible first | apply gA | apply gB | apply gC | apply gD | apply gE | apply gF | apply gG | apply gH | apply gI | apply gJ | apply gK | apply gL | apply gM | apply gN | apply gO | apply gP | apply gQ | apply gR | apply gP2 | apply gP3) | ((with_reducible first | apply gT | apply gS2); first | exact rfl | assumption | omega | exact ⟨⟩) | ((with_reducible first | apply gL0 | apply gL1 | apply gL2 | apply gL3 | apply gL4); assumption)))
      refine t_gr (c2051 hx5 (rt.with l) k i d) ?_
      rintro _ h₆ le6 rfl
      have e26 := Cells.cell?_le le6.1 e25
      have le46 := LH.le_trans le5 le6
      have hho : holdsB x k i d l = decide (0 ≤ dateOn (withE x l) k i d) := rfl
      (repeat (first | (with_reducible first | apply gA | apply gB | apply gC | apply gD | apply gE | apply gF | apply gG | apply gH | apply gI | apply gJ | apply gK | apply gL | apply gM | apply gN | apply gO | apply gP | apply gQ | apply gR | apply gP2 | apply gP3) | ((with_reducible first | apply gT | apply gS2); first | exact rfl | assumption | omega | exact ⟨⟩) | ((with_reducible first | apply gL0 | apply gL1 | apply gL2 | apply gL3 | apply gL4); assumption)))
      refine t_if (fun e4 => ?_) (fun e4 => ?_)
      · (repeat (first | (with_reducible first | apply gA | apply gB | apply gC | apply gD | apply gE | apply gF | apply gG | apply gH | apply gI | apply gJ | apply gK | apply gL | apply gM | apply gN | apply gO | apply gP | apply gQ | apply gR | apply gP2 | apply gP3) | ((with_reducible first | apply gT | apply gS2); first | exact rfl | assumption | omega | exact ⟨⟩) | ((with_reducible first | apply gL0 | apply gL1 | apply gL2 | apply gL3 | apply gL4); assumption)))
        rw [if_pos (by rw [decide_eq_true (by omega), hho, decide_eq_true (by omega)]; rfl)] at hc
        exact t_again (next h₆ q2 m2 c2 l (LH.le_trans le4 le46) (by omega) (s2.le IntE.grow le46.1) hc)
      · rw [if_neg (by rw [hho, decide_eq_false (p := 0 ≤ _) (by omega)]; simp)] at hc
        exact t_again (next h₆ q m mc best (LH.le_trans le4 le46) (by omega) (hb.le IntE.grow le46.1) hc)
    · (repeat (first | (with_reducible first | apply gA | apply gB | apply gC | apply gD | apply gE | apply gF | apply gG | apply gH | apply gI | apply gJ | apply gK | apply gL | apply gM | apply gN | apply gO | apply gP | apply gQ | apply gR | apply gP2 | apply gP3) | ((with_reducible first | apply gT | apply gS2); first | exact rfl | assumption | omega | exact ⟨⟩) | ((with_reducible first | apply gL0 | apply gL1 | apply gL2 | apply gL3 | apply gL4); assumption)))
      rw [if_neg (by rw [decide_eq_false (by omega)]; simp)] at hc
      exact t_again (next h₄ q m mc best le4 (by omega) hb hc)
  · (repeat (first | (with_reducible first | apply gA | apply gB | apply gC | apply gD | apply gE | apply gF | apply gG | apply gH | apply gI | apply gJ | apply gK | apply gL | apply gM | apply gN | apply gO | apply gP | apply gQ | apply gR | apply gP2 | apply gP3) | ((with_reducible first | apply gT | apply gS2); first | exact rfl | assumption | omega | exact ⟨⟩) | ((with_reducible first | apply gL0 | apply gL1 | apply gL2 | apply gL3 | apply gL4); assumption)))
    rw [List.drop_eq_nil_of_le (by omega), scanS] at hc
    exact t_ret ⟨le04, .inr (.inr ⟨e0, hd, q, m, mc, rfl, by rw [hc]; exact hb⟩)⟩
theorem c2020 {h : LH} {p q : Option Addr} {n c m d : Nat} {a b : List Bool} (ha : Sl BoolE 1 h.get p n a) (hb : Sl BoolE 1 h.get q m b) : Pu Tryd.prog 20 #[.slice p n c, .slice q m d] h (.bool (decide (a = b))) := by
  refine w2020 _ _ _ _ _ _ X0_ok ?_
  unfold n2020
  have hn := ha.1
  have hm := hb.1
  have hbn := ha.2.1
  have hbm := hb.2.1
  refine t_cond (fun e => ?_) (fun e => ?_)
  · have : a ≠ b := by rintro rfl; simp at e; omega
    exact t_ret ⟨by simp [this], rfl⟩
  have hnm : n = m := by simp at e; omega
  refine t_loop (fun mm vs h' => h = h' ∧ ∃ i : Nat, vs = [.bool false, .int .i64 i] ∧ i ≤ n ∧ mm = n - i ∧ a.take i = b.take i) ⟨rfl, 0, rfl, Nat.zero_le _, rfl, rfl⟩ ?_
  rintro Y mm vs _ hY ⟨rfl, i, rfl, hi, rfl, hc⟩
  (repeat (first | (with_reducible first | apply gA | apply gB | apply gC | apply gD | apply gE | apply gF | apply gG | apply gH | apply gI | apply gJ | apply gK | apply gL | apply gM | apply gN | apply gO | apply gP | apply gQ | apply gR | apply gP2 | apply gP3) | ((with_reducible first | apply gT | apply gS2); first | exact rfl | assumption | omega | exact ⟨⟩) | ((with_reducible first | apply gL0 | apply gL1 | apply gL2 | apply gL3 | apply gL4); assumption)))
  refine t_if (fun e => ?_) (fun e => ?_)
  · obtain ⟨x, a1, hx, ha1, e1⟩ := ha.at (i := i) (by omega)
    obtain ⟨y, a2, hy, ha2, e2⟩ := hb.at (i := i) (by omega)
    unfold BoolE at e1 e2
    rw [add_zero'] at e1 e2
    (repeat (first | (with_reducible first | apply gA | apply gB | apply gC | apply gD | apply gE | apply gF | apply gG | apply gH | apply gI | apply gJ | apply gK | apply gL | apply gM | apply gN | apply gO | apply gP | apply gQ | apply gR | apply gP2 | apply gP3) | ((with_reducible first | apply gT | apply gS2); first | exact rfl | assumption | omega | exact ⟨⟩) | ((with_reducible first | apply gL0 | apply gL1 | apply gL2 | apply gL3 | apply gL4); assumption)))
    refine t_cond (fun b1 => ?_) (fun b1 => ?_)
    · (repeat (first | (with_reducible first | apply gA | apply gB | apply gC | apply gD | apply gE | apply gF | apply gG | apply gH | apply gI | apply gJ | apply gK | apply gL | apply gM | apply gN | apply gO | apply gP | apply gQ | apply gR | apply gP2 | apply gP3) | ((with_reducible first | apply gT | apply gS2); first | exact rfl | assumption | omega | exact ⟨⟩) | ((with_reducible first | apply gL0 | apply gL1 | apply gL2 | apply gL3 | apply gL4); assumption)))
      have : a ≠ b := by rintro rfl; rw [hx] at hy; cases hy; simp at b1
      exact t_ret ⟨by simp [this], rfl⟩
    · have b2 : x = y := by cases x <;> cases y <;> simp_all
      refine t_again (hY (n - (i + 1)) _ _ (by omega) ⟨rfl, i + 1, ?_, by omega, rfl, ?_⟩)
      · rw [wrap_id (by omega) (by omega)]; rfl
      · rw [List.take_add_one, List.take_add_one, hc, hx, hy, b2]
  · (repeat (first | (with_reducible first | apply gA | apply gB | apply gC | apply gD | apply gE | apply gF | apply gG | apply gH | apply gI | apply gJ | apply gK | apply gL | apply gM | apply gN | apply gO | apply gP | apply gQ | apply gR | apply gP2 | apply gP3) | ((with_reducible first | apply gT | apply gS2); first | exact rfl | assumption | omega | exact ⟨⟩) | ((with_reducible first | apply gL0 | apply gL1 | apply gL2 | apply gL3 | apply gL4); assumption)))
    rw [List.take_of_length_le (by omega), List.take_of_length_le (by omega)] at hc
    exact t_ret ⟨by simp [hc], rfl⟩
theorem c2025 {h : LH} {p q : Option Addr} {n c m d : Nat} {a b : List Sp} (ha : Sl SpE 2 h.get p n a) (hb : Sl SpE 2 h.get q m b) : Pu Tryd.prog 25 #[.slice p n c, .slice q m d] h (.bool (decide (a = b))) := by
  refine w2025 _ _ _ _ _ _ X0_ok ?_
  unfold n2025
  have hn := ha.1
  have hm := hb.1
  have hbn := ha.2.1
  have hbm := hb.2.1
  refine t_cond (fun e => ?_) (fun e => ?_)
  · have : a ≠ b := by rintro rfl; simp at e; omega
    exact t_ret ⟨by simp [this], rfl⟩
  have hnm : n = m := by simp at e; omega
  refine t_loop (fun mm vs h' => h = h' ∧ ∃ i : Nat, vs = [.bool false, .int .i64 i] ∧ i ≤ n ∧ mm = n - i ∧ a.take i = b.take i) ⟨rfl, 0, rfl, Nat.zero_le _, rfl, rfl⟩ ?_
  rintro Y mm vs _ hY ⟨rfl, i, rfl, hi, rfl, hc⟩
  (repeat (first | (with_reducible first | apply gA | apply gB | apply gC | apply gD | apply gE | apply gF | apply gG | apply gH | apply gI | apply gJ | apply gK | apply gL | apply gM | apply gN | apply gO | apply gP | apply gQ | apply gR | apply gP2 | apply gP3) | ((with_reducible first | apply gT | apply gS2); first | exact rfl | assumption | omega | exact ⟨⟩) | ((with_reducible first | apply gL0 | apply gL1 | apply gL2 | apply gL3 | apply gL4); assumption)))
  refine t_if (fun e => ?_) (fun e => ?_)
  · obtain ⟨x, a1, hx, ha1, e1, e3⟩ := ha.at (i := i) (by omega)
    obtain ⟨y, a2, hy, ha2, e2, e4⟩ := hb.at (i := i) (by omega)
    (repeat (first | (with_reducible first | apply gA | apply gB | apply gC | apply gD | apply gE | apply gF | apply gG | apply gH | apply gI | apply gJ | apply gK | apply gL | apply gM | apply gN | apply gO | apply gP | apply gQ | apply gR | apply gP2 | apply gP3) | ((with_reducible first | apply gT | apply gS2); first | exact rfl | assumption | omega | exact ⟨⟩) | ((with_reducible first | apply gL0 | apply gL1 | apply gL2 | apply gL3 | apply gL4); assumption)))
    refine t_ne2 two30 g30 ?_
    (repeat (first | (with_reducible first | apply gA | apply gB | apply gC | apply gD | apply gE | apply gF | apply gG | apply gH | apply gI | apply gJ | apply gK | apply gL | apply gM | apply gN | apply gO | apply gP | apply gQ | apply gR | apply gP2 | apply gP3) | ((with_reducible first | apply gT | apply gS2); first | exact rfl | assumption | omega | exact ⟨⟩) | ((with_reducible first | apply gL0 | apply gL1 | apply gL2 | apply gL3 | apply gL4); assumption)))
    refine t_cond (fun b1 => ?_) (fun b1 => ?_)
    · (repeat (first | (with_reducible first | apply gA | apply gB | apply gC | apply gD | apply gE | apply gF | apply gG | apply gH | apply gI | apply gJ | apply gK | apply gL | apply gM | apply gN | apply gO | apply gP | apply gQ | apply gR | apply gP2 | apply gP3) | ((with_reducible first | apply gT | apply gS2); first | exact rfl | assumption | omega | exact ⟨⟩) | ((with_reducible first | apply gL0 | apply gL1 | apply gL2 | apply gL3 | apply gL4); assumption)))
      have : a ≠ b := by rintro rfl; rw [hx] at hy; cases hy; simp at b1
      exact t_ret ⟨by simp [this], rfl⟩
    · have b2 : x = y := by obtain ⟨x1, x2⟩ := x; obtain ⟨y1, y2⟩ := y; simp at b1; simp [b1]
      refine t_again (hY (n - (i + 1)) _ _ (by omega) ⟨rfl, i + 1, ?_, by omega, rfl, ?_⟩)
      · rw [wrap_id (by omega) (by omega)]; rfl
      · rw [List.take_add_one, List.take_add_one, hc, hx, hy, b2]
  · (repeat (first | (with_reducible first | apply gA | apply gB | apply gC | apply gD | apply gE | apply gF | apply gG | apply gH | apply gI | apply gJ | apply gK | apply gL | apply gM | apply gN | apply gO | apply gP | apply gQ | apply gR | apply gP2 | apply gP3) | ((with_reducible first | apply gT | apply gS2); first | exact rfl | assumption | omega | exact ⟨⟩) | ((with_reducible first | apply gL0 | apply gL1 | apply gL2 | apply gL3 | apply gL4); assumption)))
    rw [List.take_of_length_le (by omega), List.take_of_length_le (by omega)] at hc
    exact t_ret ⟨by simp [hc], rfl⟩
end Go.Proofs.YtbmfimaomcnkfaaDoor
end
section
namespace Go.Proofs.YtbmfimaomcnkfaaDoor
open Go Go.TM Go.Proofs
set_option linter.unusedVariables false
set_option maxRecDepth 100000
noncomputable def n2016 (x_0 : Int) (x_1 : Int) (x_2 : Int) (x_3 : Int) (x_4 : Int) (x_5 : Int) (x_6p : Option Addr) (x_6n x_6c : Nat) : T := bif decide ((↑x_6n : Int) > 20) then .leaf (.ret (.bool true)) else .loop [.bool false, .int .i64 0] (fun vs => .popB vs fun b vs => .popI .i64 vs fun n vs => .unNil vs (bif decide (n < (↑x_6n : Int)) then .need (0 ≤ n ∧ n < (↑x_6n : Int)) (.someA x_6p fun a => .loadS (Addr.add (Addr.add a (Int.toNat n * 5)) 3) fun p n_1 c => bif decide ((↑n_1 : Int) > 20) then .leaf (.retn [.bool true, .int .i64 n]) else .leaf (.again [.bool b, .int .i64 (IntKind.wrap .i64 (n + 1))])) else .leaf (.brk [.bool b, .int .i64 n]))) (fun vs => .popB vs fun b vs => .popI .i64 vs fun n vs => .unNil vs (.leaf (.ret (.bool false)))) (fun vs => .popB vs fun b vs => .popI .i64 vs fun n vs => .unNil vs (.leaf (.ret (.bool b)))) fun x x_6 => .fail
theorem t2016 (x_0 : Int) (x_1 : Int) (x_2 : Int) (x_3 : Int) (x_4 : Int) (x_5 : Int) (x_6p : Option Addr) (x_6n x_6c : Nat) : ftree ({ P := Tryd.prog, priv := [1], loops := [{ id := 0, slots := [(2, .bool), (3, .int .i64)], ro := [1], outs := [] }], joins := [] }) Tryd.f16 [.agg #[.int .i64 x_0, .int .i64 x_1, .int .i64 x_2, .int .i64 x_3, .int .i64 x_4, .int .i64 x_5, .slice x_6p x_6n x_6c]] = n2016 x_0 x_1 x_2 x_3 x_4 x_5 x_6p x_6n x_6c := by kernel_rfl
theorem w2016 (x_0 : Int) (x_1 : Int) (x_2 : Int) (x_3 : Int) (x_4 : Int) (x_5 : Int) (x_6p : Option Addr) (x_6n x_6c : Nat) {X : XP} (hX : XOK X) {h : LH} {A : Value → LH → Prop} (hw : (n2016 x_0 x_1 x_2 x_3 x_4 x_5 x_6p x_6n x_6c).wp X Tryd.prog (retQ A) h) : FWK X Tryd.prog .normal 16 #[.agg #[.int .i64 x_0, .int .i64 x_1, .int .i64 x_2, .int .i64 x_3, .int .i64 x_4, .int .i64 x_5, .slice x_6p x_6n x_6c]] h A := fwk_neat (t2016 x_0 x_1 x_2 x_3 x_4 x_5 x_6p x_6n x_6c) (by simp) (by kernel_rfl) (by kernel_rfl) hX hw
noncomputable def n2017  : T := .call false 48 #[] fun v => .unAgg v fun l => .popI .i64 l fun n vs => .popI .i64 vs fun n_1 vs => .popI .i64 vs fun n_2 vs => .popI .i64 vs fun n_3 vs => .popI .i64 vs fun n_4 vs => .popI .i64 vs fun n_5 vs => .popS vs fun a n_6 c vs => .unNil vs (.call false 18 #[.agg #[.int .i64 n, .int .i64 n_1, .int .i64 n_2, .int .i64 n_3, .int .i64 n_4, .int .i64 n_5, .slice a n_6 c], .int .i64 0, .int .i64 15] fun v => .unTup v fun l => .unCons l fun v vs => .unS v fun a_1 n_7 c_1 => .unCons vs fun v vs => .unI .i64 v fun n_8 => .unNil vs (.call false 18 #[.agg #[.int .i64 n, .int .i64 n_1, .int .i64 n_2, .int .i64 n_3, .int .i64 n_4, .int .i64 n_5, .slice a n_6 c], .int .i64 1, .int .i64 40] fun v => .unTup v fun l => .unCons l fun v vs => .unS v fun a_2 n_9 c_2 => .unCons vs fun v vs => .unI .i64 v fun n_10 => .unNil vs (.call false 26 #[.agg #[.int .i64 n, .int .i64 n_1, .int .i64 n_2, .int .i64 n_3, .int .i64 n_4, .int .i64 n_5, .slice a n_6 c], .int .i64 0, .int .i64 18] fun v => .unTup v fun l => .unCons l fun v vs => .unS v fun a_3 n_11 c_3 => .unCons vs fun v vs => .unI .i64 v fun n_12 => .unNil vs (.call false 26 #[.agg #[.int .i64 n, .int .i64 n_1, .int .i64 n_2, .int .i64 n_3, .int .i64 n_4, .int .i64 n_5, .slice a n_6 c], .int .i64 0, .int .i64 44] fun v => .unTup v fun l => .unCons l fun v vs => .unS v fun a_4 n_13 c_4 => .unCons vs fun v vs => .unI .i64 v fun n_14 => .unNil vs (.call false 23 #[.agg #[.int .i64 n, .int .i64 n_1, .int .i64 n_2, .int .i64 n_3, .int .i64 n_4, .int .i64 n_5, .slice a n_6 c], .int .i64 0, .int .i64 0] fun v => .unTup v fun l => .unCons l fun v vs => .unS v fun a_5 n_15 c_5 => .unCons vs fun v vs => .unI .i64 v fun n_16 => .unNil vs (.call false 23 #[.agg #[.int .i64 n, .int .i64 n_1, .int .i64 n_2, .int .i64 n_3, .int .i64 n_4, .int .i64 n_5, .slice a n_6 c], .int .i64 0, .int .i64 1] fun v => .unTup v fun l => .unCons l fun v vs => .unS v fun a_6 n_17 c_6 => .unCons vs fun v vs => .unI .i64 v fun n_18 => .unNil vs (.call false 29 #[.agg #[.int .i64 n, .int .i64 n_1, .int .i64 n_2, .int .i64 n_3, .int .i64 n_4, .int .i64 n_5, .slice a n_6 c], .int .i64 1, .int .i64 45] fun v => .unTup v fun l => .unCons l fun v vs => .unS v fun a_7 n_19 c_7 => .unCons vs fun v vs => .unI .i64 v fun n_20 => .unNil vs (.call false 29 #[.agg #[.int .i64 n, .int .i64 n_1, .int .i64 n_2, .int .i64 n_3, .int .i64 n_4, .int .i64 n_5, .slice a n_6 c], .int .i64 1, .int .i64 46] fun v => .unTup v fun l => .unCons l fun v vs => .unS v fun a_8 n_21 c_8 => .unCons vs fun v vs => .unI .i64 v fun n_22 => .unNil vs (.call false 44 #[.agg #[.int .i64 n, .int .i64 n_1, .int .i64 n_2, .int .i64 n_3, .int .i64 n_4, .int .i64 n_5, .slice a n_6 c], .int .i64 0, .int .i64 0, .int .i64 44] fun v => .unTup v fun l => .unCons l fun v vs => .unS v fun a n c => .unCons vs fun v vs => .unB v fun b => .unCons vs fun v vs => .unI .i64 v fun n_23 => .unNil vs (.blk (bif n_8 != 0 then .leaf (.retn [.bool false]) else bif n_10 != 0 then .leaf (.retn [.bool false]) else bif n_12 != 0 then .leaf (.retn [.bool false]) else bif n_14 != 0 then .leaf (.retn [.bool false]) else bif n_16 != 0 then .leaf (.retn [.bool false]) else bif n_18 != 0 then .leaf (.retn [.bool false]) else bif n_20 != 0 then .leaf (.retn [.bool false]) else bif n_22 != 0 then .leaf (.retn [.bool false]) else bif n_23 != 0 then .leaf (.retn [.bool false]) else .leaf (.again [.bool false])) (fun vs => .popB vs fun b_1 vs => .unNil vs (.blk (.sem false (Instr.buildSlice 27 3 #[(0, .bool true), (1, .bool false), (2, .bool true)]) fun v => .unS v fun a_9 n_24 c_9 => .call false 20 #[.slice a_1 n_7 c_1, .slice a_9 n_24 c_9] fun v => .unB v fun b_2 => bif !b_2 then .leaf (.retn [.bool false]) else .sem false (Instr.buildSlice 27 3 #[(0, .bool false), (1, .bool true), (2, .bool false)]) fun v => .unS v fun a_10 n_25 c_10 => .call false 20 #[.slice a_2 n_9 c_2, .slice a_10 n_25 c_10] fun v => .unB v fun b_3 => bif !b_3 then .leaf (.retn [.bool false]) else .sem false (Instr.buildSlice 38 3 #[(0, .int .i64 3), (1, .int .i64 (-1)), (2, .int .i64 12)]) fun v => .unS v fun a_11 n_26 c_11 => .call false 28 #[.slice a_3 n_11 c_3, .slice a_11 n_26 c_11] fun v => .unB v fun b_4 => bif !b_4 then .leaf (.retn [.bool false]) else .sem false (Instr.buildSlice 38 3 #[(0, .int .i64 3), (1, .int .i64 12), (2, .int .i64 (-1))]) fun v => .unS v fun a_12 n_27 c_12 => .call false 28 #[.slice a_4 n_13 c_4, .slice a_12 n_27 c_12] fun v => .unB v fun b_5 => bif !b_5 then .leaf (.retn [.bool false]) else bif !b then .leaf (.retn [.bool false]) else .sem false (Instr.buildSlice 38 2 #[(0, .int .i64 0), (1, .int .i64 5)]) fun v => .unS v fun a_13 n_28 c_13 => .call false 28 #[.slice a n c, .slice a_13 n_28 c_13] fun v => .unB v fun b => bif !b then .leaf (.retn [.bool false]) else .leaf (.again [.bool b_1])) (fun vs => .popB vs fun b vs => .unNil vs (.call false 49 #[.int .i64 12, .int .i64 39] fun v => .unAgg v fun l => .popI .i64 l fun n vs => .popI .i64 vs fun n_24 vs => .unNil vs (.call false 49 #[.int .i64 44, .int .i64 9999] fun v => .unAgg v fun l => .popI .i64 l fun n_25 vs => .popI .i64 vs fun n_26 vs => .unNil vs (.sem false (Instr.buildSlice 33 2 #[(0, .agg #[.int .i64 n, .int .i64 n_24]), (1, .agg #[.int .i64 n_25, .int .i64 n_26])]) fun v => .unS v fun a n c => .call false 25 #[.slice a_5 n_15 c_5, .slice a n c] fun v => .unB v fun b => bif b then .call false 49 #[.int .i64 12, .int .i64 14] fun v => .unAgg v fun l => .popI .i64 l fun n vs => .popI .i64 vs fun n_27 vs => .unNil vs (.call false 49 #[.int .i64 25, .int .i64 9999] fun v => .unAgg v fun l => .popI .i64 l fun n_28 vs => .popI .i64 vs fun n_29 vs => .unNil vs (.sem false (Instr.buildSlice 33 2 #[(0, .agg #[.int .i64 n, .int .i64 n_27]), (1, .agg #[.int .i64 n_28, .int .i64 n_29])]) fun v => .unS v fun a n c => .call false 25 #[.slice a_6 n_17 c_6, .slice a n c] fun v => .unB v fun b => bif b then .sem false (Instr.buildSlice 38 1 #[(0, .int .i64 0)]) fun v => .unS v fun a n c => .call false 28 #[.slice a_7 n_19 c_7, .slice a n c] fun v => .unB v fun b => bif b then .leaf (.ret (.bool ((↑n_21 : Int) == 0))) else .leaf (.ret (.bool false)) else .leaf (.ret (.bool false)))) else .leaf (.ret (.bool false)))))) (fun vs => .popB vs fun b vs => .unNil vs (.leaf (.ret (.bool b)))) fun x x_1 => .fail)) (fun vs => .popB vs fun b vs => .unNil vs (.leaf (.ret (.bool b)))) fun x x_1 => .fail))))))))))
theorem t2017  : ftree ({ P := Tryd.prog, priv := [1], loops := [], joins := [{ id := 15, slots := [(0, .bool)], ro := [1], outs := [] }, { id := 13, slots := [(0, .bool)], ro := [1], outs := [] }] }) Tryd.f17 [] = n2017  := by kernel_rfl
theorem w2017  {X : XP} (hX : XOK X) {h : LH} {A : Value → LH → Prop} (hw : (n2017 ).wp X Tryd.prog (retQ A) h) : FWK X Tryd.prog .normal 17 #[] h A := fwk_neat (t2017 ) (by simp) (by kernel_rfl) (by kernel_rfl) hX hw
noncomputable def n2048  : T := .sem false (Instr.buildSlice 38 3 #[(0, .int .i64 0), (1, .int .i64 1), (2, .int .i64 2)]) fun v => .unS v fun a n c => .sem false (Instr.buildSlice 38 1 #[(0, .int .i64 1)]) fun v => .unS v fun a_1 n_1 c_1 => .sem false (Instr.buildSlice 38 1 #[(0, .int .i64 1)]) fun v => .unS v fun a_2 n_2 c_2 => .sem false (Instr.buildSlice 38 1 #[(0, .int .i64 2)]) fun v => .unS v fun a_3 n_3 c_3 => .sem false (Instr.buildSlice 38 1 #[(0, .int .i64 0)]) fun v => .unS v fun a_4 n_4 c_4 => .sem false (Instr.buildSlice 38 1 #[(0, .int .i64 0)]) fun v => .unS v fun a_5 n_5 c_5 => .sem false (Instr.buildSlice 38 2 #[(0, .int .i64 0), (1, .int .i64 1)]) fun v => .unS v fun a_6 n_6 c_6 => .sem false (Instr.buildSlice 38 1 #[(0, .int .i64 1)]) fun v => .unS v fun a_7 n_7 c_7 => .sem false (Instr.buildSlice 38 1 #[(0, .int .i64 1)]) fun v => .unS v fun a_8 n_8 c_8 => .sem false (Instr.buildSlice 38 1 #[(0, .int .i64 0)]) fun v => .unS v fun a_9 n_9 c_9 => .sem false (Instr.buildSlice 22 10 #[(0, .agg #[.int .i64 0, .int .i64 12, .int .i64 0, .slice a n c, .int .i64 0]), (1, .agg #[.int .i64 1, .int .i64 15, .int .i64 0, .slice a_1 n_1 c_1, .int .i64 0]), (2, .agg #[.int .i64 2, .int .i64 25, .int .i64 0, .slice a_2 n_2 c_2, .int .i64 0]), (3, .agg #[.int .i64 3, .int .i64 22, .int .i64 0, .slice a_3 n_3 c_3, .int .i64 0]), (4, .agg #[.int .i64 4, .int .i64 40, .int .i64 0, .slice a_4 n_4 c_4, .int .i64 30]), (5, .agg #[.int .i64 5, .int .i64 44, .int .i64 0, .slice a_5 n_5 c_5, .int .i64 0]), (6, .agg #[.int .i64 0, .int .i64 20, .int .i64 1, .slice a_6 n_6 c_6, .int .i64 0]), (7, .agg #[.int .i64 1, .int .i64 27, .int .i64 1, .slice a_7 n_7 c_7, .int .i64 0]), (8, .agg #[.int .i64 4, .int .i64 50, .int .i64 0, .slice a_8 n_8 c_8, .int .i64 31]), (9, .agg #[.int .i64 6, .int .i64 18, .int .i64 0, .slice a_9 n_9 c_9, .int .i64 3])]) fun v => .unS v fun a n c => .leaf (.ret (.agg #[.int .i64 3, .int .i64 2, .int .i64 10, .int .i64 20, .int .i64 6, .int .i64 5, .slice a n c]))
theorem t2048  : ftree ({ P := Tryd.prog, priv := [0], loops := [], joins := [] }) Tryd.f48 [] = n2048  := by kernel_rfl
theorem w2048  {X : XP} (hX : XOK X) {h : LH} {A : Value → LH → Prop} (hw : (n2048 ).wp X Tryd.prog (retQ A) h) : FWK X Tryd.prog .normal 48 #[] h A := fwk_neat (t2048 ) (by simp) (by kernel_rfl) (by kernel_rfl) hX hw
noncomputable def n2049 (a : Int) (b : Int) : T := .leaf (.ret (.agg #[.int .i64 a, .int .i64 b]))
theorem t2049 (a : Int) (b : Int) : ftree ({ P := Tryd.prog, priv := [4], loops := [], joins := [] }) Tryd.f49 [.int .i64 a, .int .i64 b] = n2049 a b := by kernel_rfl
theorem w2049 (a : Int) (b : Int) {X : XP} (hX : XOK X) {h : LH} {A : Value → LH → Prop} (hw : (n2049 a b).wp X Tryd.prog (retQ A) h) : FWK X Tryd.prog .normal 49 #[.int .i64 a, .int .i64 b] h A := fwk_neat (t2049 a b) (by simp) (by kernel_rfl) (by kernel_rfl) hX hw
end Go.Proofs.YtbmfimaomcnkfaaDoor
end
section
namespace Go.Proofs.YtbmfimaomcnkfaaDoor
open Go Go.TM Go.Proofs Go.TM.Tr
attribute [local irreducible] T.wp CV FWK
def bigB (x : TF) : Bool := decide (20 < x.events.length) || x.events.any fun e => decide (20 < e.items.length)
theorem c2016 {h : LH} {f : TC} {x : TF} (hx : TreatyR h.get f x) : Pu Tryd.prog 16 #[treatyV f x] h (.bool (bigB x)) := by
  refine w2016 _ _ _ _ _ _ _ _ _ X0_ok ?_
  unfold n2016
  have hn := hx.2.1
  have hb := hx.2.2.1
  refine t_if (fun e => ?_) (fun e => ?_)
  · exact t_ret ⟨by rw [bigB, decide_eq_true (by omega)]; rfl, rfl⟩
  have h0 : bigB x = x.events.any fun e => decide (20 < e.items.length) := by rw [bigB, decide_eq_false (by omega)]; rfl
  refine t_loop (fun mm vs h' => h = h' ∧ ∃ j : Nat, vs = [.bool false, .int .i64 j] ∧ j ≤ f.n ∧ mm = f.n - j ∧ bigB x = (x.events.drop j).any fun e => decide (20 < e.items.length)) ⟨rfl, 0, rfl, Nat.zero_le _, rfl, h0⟩ ?_
  rintro Y mm vs _ hY ⟨rfl, j, rfl, hj, rfl, hc⟩
  (repeat (first | (with_reducible first | apply gA | apply gB | apply gC | apply gD | apply gE | apply gF | apply gG | apply gH | apply gI | apply gJ | apply gK | apply gL | apply gM | apply gN | apply gO | apply gP | apply gQ | apply gR | apply gP2 | apply gP3) | ((with_reducible first | apply gT | apply gS2); first | exact rfl | assumption | omega | exact ⟨⟩) | ((with_reducible first | apply gL0 | apply gL1 | apply gL2 | apply gL3 | apply gL4); assumption)))
  refine t_if (fun e1 => ?_) (fun e1 => ?_)
  · obtain ⟨y, a, hy, ha, g0, g1, g2, ⟨q, m, c, g3, _, g5⟩, g4⟩ := hx.2.at (i := j) (by omega)
    rw [drop_of hy, List.any_cons] at hc
    have hm := g5.1
    (repeat (first | (with_reducible first | apply gA | apply gB | apply gC | apply gD | apply gE | apply gF | apply gG | apply gH | apply gI | apply gJ | apply gK | apply gL | apply gM | apply gN | apply gO | apply gP | apply gQ | apply gR | apply gP2 | apply gP3) | ((with_reducible first | apply gT | apply gS2); first | exact rfl | assumption | omega | exact ⟨⟩) | ((with_reducible first | apply gL0 | apply gL1 | apply gL2 | apply gL3 | apply gL4); assumption)))
    refine t_if (fun e2 => ?_) (fun e2 => ?_)
    · (repeat (first | (with_reducible first | apply gA | apply gB | apply gC | apply gD | apply gE | apply gF | apply gG | apply gH | apply gI | apply gJ | apply gK | apply gL | apply gM | apply gN | apply gO | apply gP | apply gQ | apply gR | apply gP2 | apply gP3) | ((with_reducible first | apply gT | apply gS2); first | exact rfl | assumption | omega | exact ⟨⟩) | ((with_reducible first | apply gL0 | apply gL1 | apply gL2 | apply gL3 | apply gL4); assumption)))
      rw [decide_eq_true (by omega), Bool.true_or] at hc
      exact t_ret ⟨by rw [hc], rfl⟩
    · rw [decide_eq_false (by omega), Bool.false_or] at hc
      refine t_again (hY (f.n - (j + 1)) _ _ (by omega) ⟨rfl, j + 1, ?_, by omega, rfl, hc⟩)
      rw [wrap_id (by omega) (by omega)]; rfl
  · (repeat (first | (with_reducible first | apply gA | apply gB | apply gC | apply gD | apply gE | apply gF | apply gG | apply gH | apply gI | apply gJ | apply gK | apply gL | apply gM | apply gN | apply gO | apply gP | apply gQ | apply gR | apply gP2 | apply gP3) | ((with_reducible first | apply gT | apply gS2); first | exact rfl | assumption | omega | exact ⟨⟩) | ((with_reducible first | apply gL0 | apply gL1 | apply gL2 | apply gL3 | apply gL4); assumption)))
    rw [List.drop_eq_nil_of_le (by omega)] at hc
    exact t_ret ⟨by rw [hc]; rfl, rfl⟩
theorem c2049 {h : LH} (a b : Int) : Pu Tryd.prog 49 #[.int .i64 a, .int .i64 b] h (.agg #[.int .i64 a, .int .i64 b]) := by
  refine w2049 _ _ X0_ok ?_
  unfold n2049
  exact t_ret ⟨rfl, rfl⟩
section
variable {X : XP} {Q : Leaf → LH → Prop} {h : LH} {n : Nat} {parts : Array (Nat × Value)} {k : Value → T}
theorem t_ints (l : List Int) (hn : n * 1 ≤ 2 ^ 24) (hl : l.length = n) (hpos : n * 1 ≠ 0)
    (hf : Instr.fill (fun i => some (i * 1, 1)) ((Array.range (n * 1)).map ((Value.int .i64 0).cells[· % (Value.int .i64 0).cells.size]!)) parts.toList = some (l.map (Value.int .i64)).toArray)
    (hk : ∀ r h', h.le h' → Sl IntE 1 h'.get (some ⟨r, 0, none⟩) n l → (k (.slice (some ⟨r, 0, none⟩) n n)).wp X Tryd.prog Q h') : (T.sem false (Instr.buildSlice 38 n parts) k).wp X Tryd.prog Q h := by
  refine t_buildR (l.map (Value.int .i64)) und50 inf3 hn hpos hf fun r h' le _ hc => hk r h' le ?_
  refine ⟨hl.symm, by omega, fun i x hx => ⟨_, rfl, ?_⟩⟩
  unfold IntE
  rw [Nat.mul_one]
  exact hc i _ (by rw [List.getElem?_map, hx]; rfl)
theorem t_bools (l : List Bool) (hn : n * 1 ≤ 2 ^ 24) (hl : l.length = n) (hpos : n * 1 ≠ 0)
    (hf : Instr.fill (fun i => some (i * 1, 1)) ((Array.range (n * 1)).map ((Value.bool false).cells[· % (Value.bool false).cells.size]!)) parts.toList = some (l.map Value.bool).toArray)
    (hk : ∀ r h', h.le h' → Sl BoolE 1 h'.get (some ⟨r, 0, none⟩) n l → (k (.slice (some ⟨r, 0, none⟩) n n)).wp X Tryd.prog Q h') : (T.sem false (Instr.buildSlice 27 n parts) k).wp X Tryd.prog Q h := by
  refine t_buildR (l.map Value.bool) undBs inf4 hn hpos hf fun r h' le _ hc => hk r h' le ?_
  refine ⟨hl.symm, by omega, fun i x hx => ⟨_, rfl, ?_⟩⟩
  unfold BoolE
  rw [Nat.mul_one, add_zero']
  exact hc i _ (by rw [List.getElem?_map, hx]; rfl)
end
theorem sp_two {h : Cells} {r : Nat} {a b : Sp} (hc : ∀ (j : Nat) w, [Value.int .i64 a.first, .int .i64 a.last, .int .i64 b.first, .int .i64 b.last][j]? = some w → h.cell? (Addr.add ⟨r, 0, none⟩ j) = some w) : Sl SpE 2 h (some ⟨r, 0, none⟩) 2 [a, b] := by
  refine ⟨rfl, by simp, fun i x hx => ⟨_, rfl, ?_⟩⟩
  match i, hx with
  | 0, hx => cases hx; exact ⟨hc 0 _ rfl, hc 1 _ rfl⟩
  | 1, hx => cases hx; exact ⟨by rw [add_plain, add_plain]; exact hc 2 _ rfl, by rw [add_plain, add_plain]; exact hc 3 _ rfl⟩
  | i + 2, hx => simp at hx
def exT : TF := ⟨3, 2, 10, 20, 6, 5, [⟨0, 12, 0, [0, 1, 2], 0⟩, ⟨1, 15, 0, [1], 0⟩, ⟨2, 25, 0, [1], 0⟩, ⟨3, 22, 0, [2], 0⟩, ⟨4, 40, 0, [0], 30⟩, ⟨5, 44, 0, [0], 0⟩, ⟨0, 20, 1, [0, 1], 0⟩, ⟨1, 27, 1, [1], 0⟩, ⟨4, 50, 0, [1], 31⟩, ⟨6, 18, 0, [0], 3⟩]⟩
set_option maxRecDepth 10000 in
theorem c2048 {h : LH} : Gr Tryd.prog 48 #[] h fun r h' => ∃ f, r = treatyV f exT ∧ TreatyR h'.get f exT := by
  refine w2048 X0_ok ?_
  unfold n2048
  refine t_ints [0, 1, 2] (by decide) rfl (by decide) (by kernel_rfl) fun r0 h0 l0 s0 => ?_
  (repeat (first | (with_reducible first | apply gA | apply gB | apply gC | apply gD | apply gE | apply gF | apply gG | apply gH | apply gI | apply gJ | apply gK | apply gL | apply gM | apply gN | apply gO | apply gP | apply gQ | apply gR | apply gP2 | apply gP3) | ((with_reducible first | apply gT | apply gS2); first | exact rfl | assumption | omega | exact ⟨⟩) | ((with_reducible first | apply gL0 | apply gL1 | apply gL2 | apply gL3 | apply gL4); assumption)))
  refine t_ints [1] (by decide) rfl (by decide) (by kernel_rfl) fun r1 h1 l1 s1 => ?_
  (repeat (first | (with_reducible first | apply gA | apply gB | apply gC | apply gD | apply gE | apply gF | apply gG | apply gH | apply gI | apply gJ | apply gK | apply gL | apply gM | apply gN | apply gO | apply gP | apply gQ | apply gR | apply gP2 | apply gP3) | ((with_reducible first | apply gT | apply gS2); first | exact rfl | assumption | omega | exact ⟨⟩) | ((with_reducible first | apply gL0 | apply gL1 | apply gL2 | apply gL3 | apply gL4); assumption)))
  refine t_ints [1] (by decide) rfl (by decide) (by kernel_rfl) fun r2 h2 l2 s2 => ?_
  (repeat (first | (with_reducible first | apply gA | apply gB | apply gC | apply gD | apply gE | apply gF | apply gG | apply gH | apply gI | apply gJ | apply gK | apply gL | apply gM | apply gN | apply gO | apply gP | apply gQ | apply gR | apply gP2 | apply gP3) | ((with_reducible first | apply gT | apply gS2); first | exact rfl | assumption | omega | exact ⟨⟩) | ((with_reducible first | apply gL0 | apply gL1 | apply gL2 | apply gL3 | apply gL4); assumption)))
  refine t_ints [2] (by decide) rfl (by decide) (by kernel_rfl) fun r3 h3 l3 s3 => ?_
  (repeat (first | (with_reducible first | apply gA | apply gB | apply gC | apply gD | apply gE | apply gF | apply gG | apply gH | apply gI | apply gJ | apply gK | apply gL | apply gM | apply gN | apply gO | apply gP | apply gQ | apply gR | apply gP2 | apply gP3) | ((with_reducible first | apply gT | apply gS2); first | exact rfl | assumption | omega | exact ⟨⟩) | ((with_reducible first | apply gL0 | apply gL1 | apply gL2 | apply gL3 | apply gL4); assumption)))
  refine t_ints [0] (by decide) rfl (by decide) (by kernel_rfl) fun r4 h4 l4 s4 => ?_
  (repeat (first | (with_reducible first | apply gA | apply gB | apply gC | apply gD | apply gE | apply gF | apply gG | apply gH | apply gI | apply gJ | apply gK | apply gL | apply gM | apply gN | apply gO | apply gP | apply gQ | apply gR | apply gP2 | apply gP3) | ((with_reducible first | apply gT | apply gS2); first | exact rfl | assumption | omega | exact ⟨⟩) | ((with_reducible first | apply gL0 | apply gL1 | apply gL2 | apply gL3 | apply gL4); assumption)))
  refine t_ints [0] (by decide) rfl (by decide) (by kernel_rfl) fun r5 h5 l5 s5 => ?_
  (repeat (first | (with_reducible first | apply gA | apply gB | apply gC | apply gD | apply gE | apply gF | apply gG | apply gH | apply gI | apply gJ | apply gK | apply gL | apply gM | apply gN | apply gO | apply gP | apply gQ | apply gR | apply gP2 | apply gP3) | ((with_reducible first | apply gT | apply gS2); first | exact rfl | assumption | omega | exact ⟨⟩) | ((with_reducible first | apply gL0 | apply gL1 | apply gL2 | apply gL3 | apply gL4); assumption)))
  refine t_ints [0, 1] (by decide) rfl (by decide) (by kernel_rfl) fun r6 h6 l6 s6 => ?_
  (repeat (first | (with_reducible first | apply gA | apply gB | apply gC | apply gD | apply gE | apply gF | apply gG | apply gH | apply gI | apply gJ | apply gK | apply gL | apply gM | apply gN | apply gO | apply gP | apply gQ | apply gR | apply gP2 | apply gP3) | ((with_reducible first | apply gT | apply gS2); first | exact rfl | assumption | omega | exact ⟨⟩) | ((with_reducible first | apply gL0 | apply gL1 | apply gL2 | apply gL3 | apply gL4); assumption)))
  refine t_ints [1] (by decide) rfl (by decide) (by kernel_rfl) fun r7 h7 l7 s7 => ?_
  (repeat (first | (with_reducible first | apply gA | apply gB | apply gC | apply gD | apply gE | apply gF | apply gG | apply gH | apply gI | apply gJ | apply gK | apply gL | apply gM | apply gN | apply gO | apply gP | apply gQ | apply gR | apply gP2 | apply gP3) | ((with_reducible first | apply gT | apply gS2); first | exact rfl | assumption | omega | exact ⟨⟩) | ((with_reducible first | apply gL0 | apply gL1 | apply gL2 | apply gL3 | apply gL4); assumption)))
  refine t_ints [1] (by decide) rfl (by decide) (by kernel_rfl) fun r8 h8 l8 s8 => ?_
  (repeat (first | (with_reducible first | apply gA | apply gB | apply gC | apply gD | apply gE | apply gF | apply gG | apply gH | apply gI | apply gJ | apply gK | apply gL | apply gM | apply gN | apply gO | apply gP | apply gQ | apply gR | apply gP2 | apply gP3) | ((with_reducible first | apply gT | apply gS2); first | exact rfl | assumption | omega | exact ⟨⟩) | ((with_reducible first | apply gL0 | apply gL1 | apply gL2 | apply gL3 | apply gL4); assumption)))
  refine t_ints [0] (by decide) rfl (by decide) (by kernel_rfl) fun r9 h9 l9 s9 => ?_
  (repeat (first | (with_reducible first | apply gA | apply gB | apply gC | apply gD | apply gE | apply gF | apply gG | apply gH | apply gI | apply gJ | apply gK | apply gL | apply gM | apply gN | apply gO | apply gP | apply gQ | apply gR | apply gP2 | apply gP3) | ((with_reducible first | apply gT | apply gS2); first | exact rfl | assumption | omega | exact ⟨⟩) | ((with_reducible first | apply gL0 | apply gL1 | apply gL2 | apply gL3 | apply gL4); assumption)))
  have s0 := s0.le IntE.grow (LH.le_trans l1 (LH.le_trans l2 (LH.le_trans l3 (LH.le_trans l4 (LH.le_trans l5 (LH.le_trans l6 (LH.le_trans l7 (LH.le_trans l8 (l9))))))))).1
  have s1 := s1.le IntE.grow (LH.le_trans l2 (LH.le_trans l3 (LH.le_trans l4 (LH.le_trans l5 (LH.le_trans l6 (LH.le_trans l7 (LH.le_trans l8 (l9)))))))).1
  have s2 := s2.le IntE.grow (LH.le_trans l3 (LH.le_trans l4 (LH.le_trans l5 (LH.le_trans l6 (LH.le_trans l7 (LH.le_trans l8 (l9))))))).1
  have s3 := s3.le IntE.grow (LH.le_trans l4 (LH.le_trans l5 (LH.le_trans l6 (LH.le_trans l7 (LH.le_trans l8 (l9)))))).1
  have s4 := s4.le IntE.grow (LH.le_trans l5 (LH.le_trans l6 (LH.le_trans l7 (LH.le_trans l8 (l9))))).1
  have s5 := s5.le IntE.grow (LH.le_trans l6 (LH.le_trans l7 (LH.le_trans l8 (l9)))).1
  have s6 := s6.le IntE.grow (LH.le_trans l7 (LH.le_trans l8 (l9))).1
  have s7 := s7.le IntE.grow (LH.le_trans l8 (l9)).1
  have s8 := s8.le IntE.grow (l9).1
  have l09 : h.le h9 := LH.le_trans l0 (LH.le_trans l1 (LH.le_trans l2 (LH.le_trans l3 (LH.le_trans l4 (LH.le_trans l5 (LH.le_trans l6 (LH.le_trans l7 (LH.le_trans l8 (l9)))))))))
  refine t_build undEvs infEv (by decide) (by decide) (cells := #[.int .i64 0, .int .i64 12, .int .i64 0, .slice (some ⟨r0, 0, none⟩) 3 3, .int .i64 0, .int .i64 1, .int .i64 15, .int .i64 0, .slice (some ⟨r1, 0, none⟩) 1 1, .int .i64 0, .int .i64 2, .int .i64 25, .int .i64 0, .slice (some ⟨r2, 0, none⟩) 1 1, .int .i64 0, .int .i64 3, .int .i64 22, .int .i64 0, .slice (some ⟨r3, 0, none⟩) 1 1, .int .i64 0, .int .i64 4, .int .i64 40, .int .i64 0, .slice (some ⟨r4, 0, none⟩) 1 1, .int .i64 30, .int .i64 5, .int .i64 44, .int .i64 0, .slice (some ⟨r5, 0, none⟩) 1 1, .int .i64 0, .int .i64 0, .int .i64 20, .int .i64 1, .slice (some ⟨r6, 0, none⟩) 2 2, .int .i64 0, .int .i64 1, .int .i64 27, .int .i64 1, .slice (some ⟨r7, 0, none⟩) 1 1, .int .i64 0, .int .i64 4, .int .i64 50, .int .i64 0, .slice (some ⟨r8, 0, none⟩) 1 1, .int .i64 31, .int .i64 6, .int .i64 18, .int .i64 0, .slice (some ⟨r9, 0, none⟩) 1 1, .int .i64 3]) (by kernel_rfl) fun r hr => ?_
  have la := LH.upd_le (x := (true, .cells #[.int .i64 0, .int .i64 12, .int .i64 0, .slice (some ⟨r0, 0, none⟩) 3 3, .int .i64 0, .int .i64 1, .int .i64 15, .int .i64 0, .slice (some ⟨r1, 0, none⟩) 1 1, .int .i64 0, .int .i64 2, .int .i64 25, .int .i64 0, .slice (some ⟨r2, 0, none⟩) 1 1, .int .i64 0, .int .i64 3, .int .i64 22, .int .i64 0, .slice (some ⟨r3, 0, none⟩) 1 1, .int .i64 0, .int .i64 4, .int .i64 40, .int .i64 0, .slice (some ⟨r4, 0, none⟩) 1 1, .int .i64 30, .int .i64 5, .int .i64 44, .int .i64 0, .slice (some ⟨r5, 0, none⟩) 1 1, .int .i64 0, .int .i64 0, .int .i64 20, .int .i64 1, .slice (some ⟨r6, 0, none⟩) 2 2, .int .i64 0, .int .i64 1, .int .i64 27, .int .i64 1, .slice (some ⟨r7, 0, none⟩) 1 1, .int .i64 0, .int .i64 4, .int .i64 50, .int .i64 0, .slice (some ⟨r8, 0, none⟩) 1 1, .int .i64 31, .int .i64 6, .int .i64 18, .int .i64 0, .slice (some ⟨r9, 0, none⟩) 1 1, .int .i64 3] 50 (0, 0))) hr
  have rows : Go.TM.Rows (EventEnc h9.get) [.int .i64 0, .int .i64 12, .int .i64 0, .slice (some ⟨r0, 0, none⟩) 3 3, .int .i64 0, .int .i64 1, .int .i64 15, .int .i64 0, .slice (some ⟨r1, 0, none⟩) 1 1, .int .i64 0, .int .i64 2, .int .i64 25, .int .i64 0, .slice (some ⟨r2, 0, none⟩) 1 1, .int .i64 0, .int .i64 3, .int .i64 22, .int .i64 0, .slice (some ⟨r3, 0, none⟩) 1 1, .int .i64 0, .int .i64 4, .int .i64 40, .int .i64 0, .slice (some ⟨r4, 0, none⟩) 1 1, .int .i64 30, .int .i64 5, .int .i64 44, .int .i64 0, .slice (some ⟨r5, 0, none⟩) 1 1, .int .i64 0, .int .i64 0, .int .i64 20, .int .i64 1, .slice (some ⟨r6, 0, none⟩) 2 2, .int .i64 0, .int .i64 1, .int .i64 27, .int .i64 1, .slice (some ⟨r7, 0, none⟩) 1 1, .int .i64 0, .int .i64 4, .int .i64 50, .int .i64 0, .slice (some ⟨r8, 0, none⟩) 1 1, .int .i64 31, .int .i64 6, .int .i64 18, .int .i64 0, .slice (some ⟨r9, 0, none⟩) 1 1, .int .i64 3] exT.events := Go.TM.Rows.snoc (x := (⟨6, 18, 0, [0], 3⟩ : Ev)) (ws := [.int .i64 6, .int .i64 18, .int .i64 0, .slice (some ⟨r9, 0, none⟩) 1 1, .int .i64 3]) (Go.TM.Rows.snoc (x := (⟨4, 50, 0, [1], 31⟩ : Ev)) (ws := [.int .i64 4, .int .i64 50, .int .i64 0, .slice (some ⟨r8, 0, none⟩) 1 1, .int .i64 31]) (Go.TM.Rows.snoc (x := (⟨1, 27, 1, [1], 0⟩ : Ev)) (ws := [.int .i64 1, .int .i64 27, .int .i64 1, .slice (some ⟨r7, 0, none⟩) 1 1, .int .i64 0]) (Go.TM.Rows.snoc (x := (⟨0, 20, 1, [0, 1], 0⟩ : Ev)) (ws := [.int .i64 0, .int .i64 20, .int .i64 1, .slice (some ⟨r6, 0, none⟩) 2 2, .int .i64 0]) (Go.TM.Rows.snoc (x := (⟨5, 44, 0, [0], 0⟩ : Ev)) (ws := [.int .i64 5, .int .i64 44, .int .i64 0, .slice (some ⟨r5, 0, none⟩) 1 1, .int .i64 0]) (Go.TM.Rows.snoc (x := (⟨4, 40, 0, [0], 30⟩ : Ev)) (ws := [.int .i64 4, .int .i64 40, .int .i64 0, .slice (some ⟨r4, 0, none⟩) 1 1, .int .i64 30]) (Go.TM.Rows.snoc (x := (⟨3, 22, 0, [2], 0⟩ : Ev)) (ws := [.int .i64 3, .int .i64 22, .int .i64 0, .slice (some ⟨r3, 0, none⟩) 1 1, .int .i64 0]) (Go.TM.Rows.snoc (x := (⟨2, 25, 0, [1], 0⟩ : Ev)) (ws := [.int .i64 2, .int .i64 25, .int .i64 0, .slice (some ⟨r2, 0, none⟩) 1 1, .int .i64 0]) (Go.TM.Rows.snoc (x := (⟨1, 15, 0, [1], 0⟩ : Ev)) (ws := [.int .i64 1, .int .i64 15, .int .i64 0, .slice (some ⟨r1, 0, none⟩) 1 1, .int .i64 0]) (Go.TM.Rows.snoc (x := (⟨0, 12, 0, [0, 1, 2], 0⟩ : Ev)) (ws := [.int .i64 0, .int .i64 12, .int .i64 0, .slice (some ⟨r0, 0, none⟩) 3 3, .int .i64 0]) (.nil) ⟨_, _, _, rfl, Nat.le_refl _, s0⟩) ⟨_, _, _, rfl, Nat.le_refl _, s1⟩) ⟨_, _, _, rfl, Nat.le_refl _, s2⟩) ⟨_, _, _, rfl, Nat.le_refl _, s3⟩) ⟨_, _, _, rfl, Nat.le_refl _, s4⟩) ⟨_, _, _, rfl, Nat.le_refl _, s5⟩) ⟨_, _, _, rfl, Nat.le_refl _, s6⟩) ⟨_, _, _, rfl, Nat.le_refl _, s7⟩) ⟨_, _, _, rfl, Nat.le_refl _, s8⟩) ⟨_, _, _, rfl, Nat.le_refl _, s9⟩
  (repeat (first | (with_reducible first | apply gA | apply gB | apply gC | apply gD | apply gE | apply gF | apply gG | apply gH | apply gI | apply gJ | apply gK | apply gL | apply gM | apply gN | apply gO | apply gP | apply gQ | apply gR | apply gP2 | apply gP3) | ((with_reducible first | apply gT | apply gS2); first | exact rfl | assumption | omega | exact ⟨⟩) | ((with_reducible first | apply gL0 | apply gL1 | apply gL2 | apply gL3 | apply gL4); assumption)))
  refine t_ret ⟨LH.le_trans l09 la, ⟨some ⟨r, 0, none⟩, 10, 10⟩, rfl, Nat.le_refl _, ?_⟩
  refine rows.sl EventEnc.len (by omega) (EventEnc.e (Rd.of_le la.1)) (el := 50) ⟨rfl, .inr ⟨r, _, rfl, Cells.upd_self _ _ _, rfl, Nat.le_refl _, fun j v hv => by simpa using hv⟩⟩ (by decide)
end Go.Proofs.YtbmfimaomcnkfaaDoor
end
section
namespace Go.Proofs.YtbmfimaomcnkfaaDoor
open Go Go.TM Go.Proofs Go.TM.Tr
attribute [local irreducible] T.wp CV FWK
def datesA (x : TF) (k d : Int) : List Int := if askedDayT x k d = 0 then datesT x k d else []
def protA (x : TF) (k d : Int) : List Bool := if askedDayT x k d = 0 then protT x k d else []
def turnsA (x : TF) (k d : Int) : List Int := if askedDayT x k d = 0 then turnsT x k d else []
def SpansA (x : TF) (k i : Int) (m : List Sp) : Prop := (askedItemT x k i ≠ 0 ∧ m = []) ∨ (askedItemT x k i = 0 ∧ ∃ l, IsDays x l ∧ m = spansT x k i l)
def needA (x : TF) (k i d : Int) : List Int := if askedAllT x k i d = 0 ∧ 0 ≤ dateOn x k i d then needT x k i d else []
def heldA (x : TF) (k i d : Int) : Bool := decide (askedAllT x k i d = 0 ∧ 0 ≤ dateOn x k i d)
theorem SpansA.one {x : TF} {k i : Int} {m m' : List Sp} (h : SpansA x k i m) (h' : SpansA x k i m') : m = m' := by
  rcases h with ⟨h1, rfl⟩ | ⟨h1, l, h2, rfl⟩ <;> rcases h' with ⟨h3, rfl⟩ | ⟨h3, l', h4, rfl⟩
  · rfl
  · exact absurd h3 h1
  · exact absurd h1 h3
  · rw [h2.one h4]
theorem ProtR.form {h : Cells} {x : TF} {k d : Int} {r : Value} (hr : ProtR h x k d r) : ∃ p n c, r = .tuple #[.slice p n c, .int .i64 (askedDayT x k d)] ∧ Sl BoolE 1 h p n (protA x k d) ∧ n ≤ c := hr
theorem DatesR.form {h : Cells} {x : TF} {k d : Int} {r : Value} (hr : DatesR h x k d r) : ∃ p n c, r = .tuple #[.slice p n c, .int .i64 (askedDayT x k d)] ∧ Sl IntE 1 h p n (datesA x k d) ∧ n ≤ c := by
  rcases hr with ⟨h1, rfl⟩ | ⟨h1, p, n, c, rfl, s, hn⟩
  · exact ⟨none, 0, 0, rfl, by rw [datesA, if_neg h1]; exact Sl.nil, Nat.le_refl _⟩
  · exact ⟨p, n, c, by rw [h1], by rw [datesA, if_pos h1]; exact s, hn⟩
theorem TurnsR.form {h : Cells} {x : TF} {k d : Int} {r : Value} (hr : TurnsR h x k d r) : ∃ p n c, r = .tuple #[.slice p n c, .int .i64 (askedDayT x k d)] ∧ Sl IntE 1 h p n (turnsA x k d) ∧ n ≤ c := by
  rcases hr with ⟨h1, rfl⟩ | ⟨h1, p, n, c, rfl, s, hn⟩
  · exact ⟨none, 0, 0, rfl, by rw [turnsA, if_neg h1]; exact Sl.nil, Nat.le_refl _⟩
  · exact ⟨p, n, c, by rw [h1], by rw [turnsA, if_pos h1]; exact s, hn⟩
theorem SpansR.form {h : Cells} {x : TF} {k i : Int} {r : Value} (hr : SpansR h x k i r) : ∃ p n c m, r = .tuple #[.slice p n c, .int .i64 (askedItemT x k i)] ∧ SpansA x k i m ∧ Sl SpE 2 h p n m ∧ n ≤ c := by
  rcases hr with ⟨h1, rfl⟩ | ⟨h1, p, n, c, l, rfl, hd, s, hn⟩
  · exact ⟨none, 0, 0, [], rfl, .inl ⟨h1, rfl⟩, Sl.nil, Nat.le_refl _⟩
  · exact ⟨p, n, c, _, by rw [h1], .inr ⟨h1, l, hd, rfl⟩, s, hn⟩
theorem NeedsR.form {h : Cells} {x : TF} {k i d : Int} {r : Value} (hr : NeedsR h x k i d r) : ∃ p n c, r = .tuple #[.slice p n c, .bool (heldA x k i d), .int .i64 (askedAllT x k i d)] ∧ Sl IntE 1 h p n (needA x k i d) ∧ n ≤ c := by
  rcases hr with ⟨h1, rfl⟩ | ⟨h1, h2, rfl⟩ | ⟨h1, h2, p, n, c, rfl, s, hn⟩
  · exact ⟨none, 0, 0, by rw [heldA, decide_eq_false (fun h => h1 h.1)], by rw [needA, if_neg (fun h => h1 h.1)]; exact Sl.nil, Nat.le_refl _⟩
  · exact ⟨none, 0, 0, by rw [heldA, decide_eq_false (fun h => h2 h.2), h1], by rw [needA, if_neg (fun h => h2 h.2)]; exact Sl.nil, Nat.le_refl _⟩
  · exact ⟨p, n, c, by rw [heldA, decide_eq_true ⟨h1, h2⟩, h1], by rw [needA, if_pos ⟨h1, h2⟩]; exact s, hn⟩
theorem NeedsW.form {h : Cells} {x : TF} {k i d : Int} {r : Value} (hr : NeedsW h x k i d r) : ∃ p n c, r = .tuple #[.slice p n c, .bool (heldA x k i d), .int .i64 (askedAllT x k i d)] ∧ Sl IntE 1 h p n (needA x k i d) := by
  rcases hr with ⟨h1, rfl⟩ | ⟨h1, h2, rfl⟩ | ⟨h1, h2, p, n, c, rfl, s⟩
  · exact ⟨none, 0, 0, by rw [heldA, decide_eq_false (fun h => h1 h.1)], by rw [needA, if_neg (fun h => h1 h.1)]; exact Sl.nil⟩
  · exact ⟨none, 0, 0, by rw [heldA, decide_eq_false (fun h => h2 h.2), h1], by rw [needA, if_neg (fun h => h2 h.2)]; exact Sl.nil⟩
  · exact ⟨p, n, c, by rw [heldA, decide_eq_true ⟨h1, h2⟩, h1], by rw [needA, if_pos ⟨h1, h2⟩]; exact s⟩
/-! ### The chapter's examples -/
def exDays : List Int := [0, 12, 15, 18, 20, 22, 25, 27, 40, 44, 50, 10000]
theorem ex_days : IsDays exT exDays := by
  refine ⟨by decide +kernel, fun v => ?_⟩
  simp only [exDays, exT, List.mem_cons, List.not_mem_nil, or_false, exists_eq_or_imp, false_and, exists_false, exists_eq_left]
  omega
theorem ex1 : askedDayT exT 0 15 = 0 ∧ protA exT 0 15 = [true, false, true] := by decide +kernel
theorem ex2 : askedDayT exT 1 40 = 0 ∧ protA exT 1 40 = [false, true, false] := by decide +kernel
theorem ex3 : askedDayT exT 0 18 = 0 ∧ datesA exT 0 18 = [3, -1, 12] := by decide +kernel
theorem ex4 : askedDayT exT 0 44 = 0 ∧ datesA exT 0 44 = [3, 12, -1] := by decide +kernel
theorem ex5 : askedItemT exT 0 0 = 0 ∧ spansT exT 0 0 exDays = [⟨12, 39⟩, ⟨44, 9999⟩] := by decide +kernel
theorem ex6 : askedItemT exT 0 1 = 0 ∧ spansT exT 0 1 exDays = [⟨12, 14⟩, ⟨25, 9999⟩] := by decide +kernel
theorem ex7 : askedDayT exT 1 45 = 0 ∧ turnsA exT 1 45 = [0] := by decide +kernel
theorem ex8 : askedDayT exT 1 46 = 0 ∧ turnsA exT 1 46 = [] := by decide +kernel
theorem ex9 : askedAllT exT 0 0 44 = 0 ∧ heldA exT 0 0 44 = true ∧ needA exT 0 0 44 = [0, 5] := by decide +kernel
theorem ex_spans {i : Int} (h0 : askedItemT exT 0 i = 0) {m : List Sp} (h : SpansA exT 0 i m) : m = spansT exT 0 i exDays := h.one (.inr ⟨h0, _, ex_days, rfl⟩)
set_option maxRecDepth 100000 in
theorem c2017 {h : LH} (hch : h.chans = []) (hpe : h.pend = []) (hk : Kinds h.get) : FW XT Tryd.prog 17 #[] h fun r h' => r = .bool true ∧ Rd h.get h'.get ∧ h'.chans = [] ∧ h'.pend = [] ∧ h'.todo = h.todo := by
  refine w2017 XT_ok ?_
  unfold n2017
  refine t_gr c2048 ?_
  rintro _ h0 le0 ⟨f, rfl, hx⟩
  have e : treatyV f exT = .agg #[.int .i64 3, .int .i64 2, .int .i64 10, .int .i64 20, .int .i64 6, .int .i64 5, .slice f.p f.n f.c] := rfl
  rw [e]
  (repeat (first | (with_reducible first | apply gA | apply gB | apply gC | apply gD | apply gE | apply gF | apply gG | apply gH | apply gI | apply gJ | apply gK | apply gL | apply gM | apply gN | apply gO | apply gP | apply gQ | apply gR | apply gP2 | apply gP3) | ((with_reducible first | apply gT | apply gS2); first | exact rfl | assumption | omega | exact ⟨⟩) | ((with_reducible first | apply gL0 | apply gL1 | apply gL2 | apply gL3 | apply gL4); assumption)))
  have hk0 := hk.le le0.1
  refine t_gr (c2018 hk0 hx 0 15) ?_
  intro r1 h1 le1 hr
  obtain ⟨p1, n1, k1, rfl, s1, _⟩ := hr.form
  rw [ex1.1]; rw [ex1.2] at s1
  (repeat (first | (with_reducible first | apply gA | apply gB | apply gC | apply gD | apply gE | apply gF | apply gG | apply gH | apply gI | apply gJ | apply gK | apply gL | apply gM | apply gN | apply gO | apply gP | apply gQ | apply gR | apply gP2 | apply gP3) | ((with_reducible first | apply gT | apply gS2); first | exact rfl | assumption | omega | exact ⟨⟩) | ((with_reducible first | apply gL0 | apply gL1 | apply gL2 | apply gL3 | apply gL4); assumption)))
  have hk1 := hk0.le le1.1
  have hx1 := hx.le le1.1
  refine t_gr (c2018 hk1 hx1 1 40) ?_
  intro r2 h2 le2 hr
  obtain ⟨p2, n2, k2, rfl, s2, _⟩ := hr.form
  rw [ex2.1]; rw [ex2.2] at s2
  (repeat (first | (with_reducible first | apply gA | apply gB | apply gC | apply gD | apply gE | apply gF | apply gG | apply gH | apply gI | apply gJ | apply gK | apply gL | apply gM | apply gN | apply gO | apply gP | apply gQ | apply gR | apply gP2 | apply gP3) | ((with_reducible first | apply gT | apply gS2); first | exact rfl | assumption | omega | exact ⟨⟩) | ((with_reducible first | apply gL0 | apply gL1 | apply gL2 | apply gL3 | apply gL4); assumption)))
  have hk2 := hk1.le le2.1
  have hx2 := hx1.le le2.1
  refine t_gr (c2026 hk2 hx2 0 18) ?_
  intro r3 h3 le3 hr
  obtain ⟨p3, n3, k3, rfl, s3, _⟩ := hr.form
  rw [ex3.1]; rw [ex3.2] at s3
  (repeat (first | (with_reducible first | apply gA | apply gB | apply gC | apply gD | apply gE | apply gF | apply gG | apply gH | apply gI | apply gJ | apply gK | apply gL | apply gM | apply gN | apply gO | apply gP | apply gQ | apply gR | apply gP2 | apply gP3) | ((with_reducible first | apply gT | apply gS2); first | exact rfl | assumption | omega | exact ⟨⟩) | ((with_reducible first | apply gL0 | apply gL1 | apply gL2 | apply gL3 | apply gL4); assumption)))
  have hk3 := hk2.le le3.1
  have hx3 := hx2.le le3.1
  refine t_gr (c2026 hk3 hx3 0 44) ?_
  intro r4 h4 le4 hr
  obtain ⟨p4, n4, k4, rfl, s4, _⟩ := hr.form
  rw [ex4.1]; rw [ex4.2] at s4
  (repeat (first | (with_reducible first | apply gA | apply gB | apply gC | apply gD | apply gE | apply gF | apply gG | apply gH | apply gI | apply gJ | apply gK | apply gL | apply gM | apply gN | apply gO | apply gP | apply gQ | apply gR | apply gP2 | apply gP3) | ((with_reducible first | apply gT | apply gS2); first | exact rfl | assumption | omega | exact ⟨⟩) | ((with_reducible first | apply gL0 | apply gL1 | apply gL2 | apply gL3 | apply gL4); assumption)))
  have hk4 := hk3.le le4.1
  have hx4 := hx3.le le4.1
  refine t_gr (c2023 hk4 hx4 0 0) ?_
  intro r5 h5 le5 hr
  obtain ⟨p5, n5, k5, m5, rfl, sp5, s5, _⟩ := hr.form
  obtain rfl := ex_spans ex5.1 sp5
  rw [ex5.1]; rw [ex5.2] at s5
  (repeat (first | (with_reducible first | apply gA | apply gB | apply gC | apply gD | apply gE | apply gF | apply gG | apply gH | apply gI | apply gJ | apply gK | apply gL | apply gM | apply gN | apply gO | apply gP | apply gQ | apply gR | apply gP2 | apply gP3) | ((with_reducible first | apply gT | apply gS2); first | exact rfl | assumption | omega | exact ⟨⟩) | ((with_reducible first | apply gL0 | apply gL1 | apply gL2 | apply gL3 | apply gL4); assumption)))
  have hk5 := hk4.le le5.1
  have hx5 := hx4.le le5.1
  refine t_gr (c2023 hk5 hx5 0 1) ?_
  intro r6 h6 le6 hr
  obtain ⟨p6, n6, k6, m6, rfl, sp6, s6, _⟩ := hr.form
  obtain rfl := ex_spans ex6.1 sp6
  rw [ex6.1]; rw [ex6.2] at s6
  (repeat (first | (with_reducible first | apply gA | apply gB | apply gC | apply gD | apply gE | apply gF | apply gG | apply gH | apply gI | apply gJ | apply gK | apply gL | apply gM | apply gN | apply gO | apply gP | apply gQ | apply gR | apply gP2 | apply gP3) | ((with_reducible first | apply gT | apply gS2); first | exact rfl | assumption | omega | exact ⟨⟩) | ((with_reducible first | apply gL0 | apply gL1 | apply gL2 | apply gL3 | apply gL4); assumption)))
  have hk6 := hk5.le le6.1
  have hx6 := hx5.le le6.1
  refine t_gr (c2029 hk6 hx6 1 45) ?_
  intro r7 h7 le7 hr
  obtain ⟨p7, n7, k7, rfl, s7, _⟩ := hr.form
  rw [ex7.1]; rw [ex7.2] at s7
  (repeat (first | (with_reducible first | apply gA | apply gB | apply gC | apply gD | apply gE | apply gF | apply gG | apply gH | apply gI | apply gJ | apply gK | apply gL | apply gM | apply gN | apply gO | apply gP | apply gQ | apply gR | apply gP2 | apply gP3) | ((with_reducible first | apply gT | apply gS2); first | exact rfl | assumption | omega | exact ⟨⟩) | ((with_reducible first | apply gL0 | apply gL1 | apply gL2 | apply gL3 | apply gL4); assumption)))
  have hk7 := hk6.le le7.1
  have hx7 := hx6.le le7.1
  refine t_gr (c2029 hk7 hx7 1 46) ?_
  intro r8 h8 le8 hr
  obtain ⟨p8, n8, k8, rfl, s8, _⟩ := hr.form
  rw [ex8.1]; rw [ex8.2] at s8
  (repeat (first | (with_reducible first | apply gA | apply gB | apply gC | apply gD | apply gE | apply gF | apply gG | apply gH | apply gI | apply gJ | apply gK | apply gL | apply gM | apply gN | apply gO | apply gP | apply gQ | apply gR | apply gP2 | apply gP3) | ((with_reducible first | apply gT | apply gS2); first | exact rfl | assumption | omega | exact ⟨⟩) | ((with_reducible first | apply gL0 | apply gL1 | apply gL2 | apply gL3 | apply gL4); assumption)))
  have hk8 := hk7.le le8.1
  have hx8 := hx7.le le8.1
  have le78 := le8
  have le68 := LH.le_trans le7 le78
  have le58 := LH.le_trans le6 le68
  have le48 := LH.le_trans le5 le58
  have le38 := LH.le_trans le4 le48
  have le28 := LH.le_trans le3 le38
  have le18 := LH.le_trans le2 le28
  have le08 := LH.le_trans le0 (LH.le_trans le1 le18)
  refine t_call (c2044 (by rw [le08.2.1, hch]) (by rw [le08.2.2.1, hpe]) hk8 hx8 0 0 44) ?_
  rintro r9 h9 ⟨rd9, hc9, hp9, ht9, hr⟩
  obtain ⟨p9, n9, k9, rfl, s9, _⟩ := hr.form
  rw [ex9.1, ex9.2.1]; rw [ex9.2.2] at s9
  (repeat (first | (with_reducible first | apply gA | apply gB | apply gC | apply gD | apply gE | apply gF | apply gG | apply gH | apply gI | apply gJ | apply gK | apply gL | apply gM | apply gN | apply gO | apply gP | apply gQ | apply gR | apply gP2 | apply gP3) | ((with_reducible first | apply gT | apply gS2); first | exact rfl | assumption | omega | exact ⟨⟩) | ((with_reducible first | apply gL0 | apply gL1 | apply gL2 | apply gL3 | apply gL4); assumption)))
  have s1 := (s1.le BoolE.grow le18.1).rd BoolE.grow rd9
  have s2 := (s2.le BoolE.grow le28.1).rd BoolE.grow rd9
  have s3 := (s3.le IntE.grow le38.1).rd IntE.grow rd9
  have s4 := (s4.le IntE.grow le48.1).rd IntE.grow rd9
  have s5 := (s5.le SpE.grow le58.1).rd SpE.grow rd9
  have s6 := (s6.le SpE.grow le68.1).rd SpE.grow rd9
  have s7 := (s7.le IntE.grow le78.1).rd IntE.grow rd9
  have s8 := s8.rd IntE.grow rd9
  have hn8 : n8 = 0 := s8.1
  subst hn8
  have rd09 := (Rd.of_le le08.1).trans rd9
  refine t_blk (fun vs h' => vs = [.bool false] ∧ h9 = h') ?_ ?_
  · refine t_cond (fun e => absurd e (by decide)) (fun _ => ?_)
    refine t_cond (fun e => absurd e (by decide)) (fun _ => ?_)
    refine t_cond (fun e => absurd e (by decide)) (fun _ => ?_)
    refine t_cond (fun e => absurd e (by decide)) (fun _ => ?_)
    refine t_cond (fun e => absurd e (by decide)) (fun _ => ?_)
    refine t_cond (fun e => absurd e (by decide)) (fun _ => ?_)
    refine t_cond (fun e => absurd e (by decide)) (fun _ => ?_)
    refine t_cond (fun e => absurd e (by decide)) (fun _ => ?_)
    refine t_cond (fun e => absurd e (by decide)) (fun _ => ?_)
    exact t_again ⟨rfl, rfl⟩
  rintro vs _ ⟨rfl, rfl⟩
  (repeat (first | (with_reducible first | apply gA | apply gB | apply gC | apply gD | apply gE | apply gF | apply gG | apply gH | apply gI | apply gJ | apply gK | apply gL | apply gM | apply gN | apply gO | apply gP | apply gQ | apply gR | apply gP2 | apply gP3) | ((with_reducible first | apply gT | apply gS2); first | exact rfl | assumption | omega | exact ⟨⟩) | ((with_reducible first | apply gL0 | apply gL1 | apply gL2 | apply gL3 | apply gL4); assumption)))
  refine t_blk (fun vs h' => vs = [.bool false] ∧ h9.le h') ?_ ?_
  · refine t_bools [true, false, true] (by decide) rfl (by decide) (by kernel_rfl) fun q1 g1 lg1 u1 => ?_
    (repeat (first | (with_reducible first | apply gA | apply gB | apply gC | apply gD | apply gE | apply gF | apply gG | apply gH | apply gI | apply gJ | apply gK | apply gL | apply gM | apply gN | apply gO | apply gP | apply gQ | apply gR | apply gP2 | apply gP3) | ((with_reducible first | apply gT | apply gS2); first | exact rfl | assumption | omega | exact ⟨⟩) | ((with_reducible first | apply gL0 | apply gL1 | apply gL2 | apply gL3 | apply gL4); assumption)))
    have e1 := c2020 (h := g1) (c := k1) (d := 3) (s1.le BoolE.grow lg1.1) u1
    rw [decide_eq_true rfl] at e1
    refine t_pu e1 ?_
    (repeat (first | (with_reducible first | apply gA | apply gB | apply gC | apply gD | apply gE | apply gF | apply gG | apply gH | apply gI | apply gJ | apply gK | apply gL | apply gM | apply gN | apply gO | apply gP | apply gQ | apply gR | apply gP2 | apply gP3) | ((with_reducible first | apply gT | apply gS2); first | exact rfl | assumption | omega | exact ⟨⟩) | ((with_reducible first | apply gL0 | apply gL1 | apply gL2 | apply gL3 | apply gL4); assumption)))
    refine t_cond (fun e => absurd e (by decide)) (fun _ => ?_)
    refine t_bools [false, true, false] (by decide) rfl (by decide) (by kernel_rfl) fun q2 g2 lg2 u2 => ?_
    (repeat (first | (with_reducible first | apply gA | apply gB | apply gC | apply gD | apply gE | apply gF | apply gG | apply gH | apply gI | apply gJ | apply gK | apply gL | apply gM | apply gN | apply gO | apply gP | apply gQ | apply gR | apply gP2 | apply gP3) | ((with_reducible first | apply gT | apply gS2); first | exact rfl | assumption | omega | exact ⟨⟩) | ((with_reducible first | apply gL0 | apply gL1 | apply gL2 | apply gL3 | apply gL4); assumption)))
    have lg := LH.le_trans lg1 lg2
    have e1 := c2020 (h := g2) (c := k2) (d := 3) (s2.le BoolE.grow lg.1) u2
    rw [decide_eq_true rfl] at e1
    refine t_pu e1 ?_
    (repeat (first | (with_reducible first | apply gA | apply gB | apply gC | apply gD | apply gE | apply gF | apply gG | apply gH | apply gI | apply gJ | apply gK | apply gL | apply gM | apply gN | apply gO | apply gP | apply gQ | apply gR | apply gP2 | apply gP3) | ((with_reducible first | apply gT | apply gS2); first | exact rfl | assumption | omega | exact ⟨⟩) | ((with_reducible first | apply gL0 | apply gL1 | apply gL2 | apply gL3 | apply gL4); assumption)))
    refine t_cond (fun e => absurd e (by decide)) (fun _ => ?_)
    refine t_ints [3, -1, 12] (by decide) rfl (by decide) (by kernel_rfl) fun q3 g3 lg3 u3 => ?_
    (repeat (first | (with_reducible first | apply gA | apply gB | apply gC | apply gD | apply gE | apply gF | apply gG | apply gH | apply gI | apply gJ | apply gK | apply gL | apply gM | apply gN | apply gO | apply gP | apply gQ | apply gR | apply gP2 | apply gP3) | ((with_reducible first | apply gT | apply gS2); first | exact rfl | assumption | omega | exact ⟨⟩) | ((with_reducible first | apply gL0 | apply gL1 | apply gL2 | apply gL3 | apply gL4); assumption)))
    have lg := LH.le_trans lg lg3
    have e1 := c35 (h := g3) (c := k3) (d := 3) (s3.le IntE.grow lg.1) u3
    rw [decide_eq_true rfl] at e1
    refine t_pu e1 ?_
    (repeat (first | (with_reducible first | apply gA | apply gB | apply gC | apply gD | apply gE | apply gF | apply gG | apply gH | apply gI | apply gJ | apply gK | apply gL | apply gM | apply gN | apply gO | apply gP | apply gQ | apply gR | apply gP2 | apply gP3) | ((with_reducible first | apply gT | apply gS2); first | exact rfl | assumption | omega | exact ⟨⟩) | ((with_reducible first | apply gL0 | apply gL1 | apply gL2 | apply gL3 | apply gL4); assumption)))
    refine t_cond (fun e => absurd e (by decide)) (fun _ => ?_)
    refine t_ints [3, 12, -1] (by decide) rfl (by decide) (by kernel_rfl) fun q4 g4 lg4 u4 => ?_
    (repeat (first | (with_reducible first | apply gA | apply gB | apply gC | apply gD | apply gE | apply gF | apply gG | apply gH | apply gI | apply gJ | apply gK | apply gL | apply gM | apply gN | apply gO | apply gP | apply gQ | apply gR | apply gP2 | apply gP3) | ((with_reducible first | apply gT | apply gS2); first | exact rfl | assumption | omega | exact ⟨⟩) | ((with_reducible first | apply gL0 | apply gL1 | apply gL2 | apply gL3 | apply gL4); assumption)))
    have lg := LH.le_trans lg lg4
    have e1 := c35 (h := g4) (c := k4) (d := 3) (s4.le IntE.grow lg.1) u4
    rw [decide_eq_true rfl] at e1
    refine t_pu e1 ?_
    (repeat (first | (with_reducible first | apply gA | apply gB | apply gC | apply gD | apply gE | apply gF | apply gG | apply gH | apply gI | apply gJ | apply gK | apply gL | apply gM | apply gN | apply gO | apply gP | apply gQ | apply gR | apply gP2 | apply gP3) | ((with_reducible first | apply gT | apply gS2); first | exact rfl | assumption | omega | exact ⟨⟩) | ((with_reducible first | apply gL0 | apply gL1 | apply gL2 | apply gL3 | apply gL4); assumption)))
    refine t_cond (fun e => absurd e (by decide)) (fun _ => ?_)
    refine t_cond (fun e => absurd e (by decide)) (fun _ => ?_)
    refine t_ints [0, 5] (by decide) rfl (by decide) (by kernel_rfl) fun q5 g5 lg5 u5 => ?_
    (repeat (first | (with_reducible first | apply gA | apply gB | apply gC | apply gD | apply gE | apply gF | apply gG | apply gH | apply gI | apply gJ | apply gK | apply gL | apply gM | apply gN | apply gO | apply gP | apply gQ | apply gR | apply gP2 | apply gP3) | ((with_reducible first | apply gT | apply gS2); first | exact rfl | assumption | omega | exact ⟨⟩) | ((with_reducible first | apply gL0 | apply gL1 | apply gL2 | apply gL3 | apply gL4); assumption)))
    have lg := LH.le_trans lg lg5
    have e1 := c35 (h := g5) (c := k9) (d := 2) (s9.le IntE.grow lg.1) u5
    rw [decide_eq_true rfl] at e1
    refine t_pu e1 ?_
    (repeat (first | (with_reducible first | apply gA | apply gB | apply gC | apply gD | apply gE | apply gF | apply gG | apply gH | apply gI | apply gJ | apply gK | apply gL | apply gM | apply gN | apply gO | apply gP | apply gQ | apply gR | apply gP2 | apply gP3) | ((with_reducible first | apply gT | apply gS2); first | exact rfl | assumption | omega | exact ⟨⟩) | ((with_reducible first | apply gL0 | apply gL1 | apply gL2 | apply gL3 | apply gL4); assumption)))
    refine t_cond (fun e => absurd e (by decide)) (fun _ => ?_)
    exact t_again ⟨rfl, lg⟩
  rintro vs g ⟨rfl, lg⟩
  (repeat (first | (with_reducible first | apply gA | apply gB | apply gC | apply gD | apply gE | apply gF | apply gG | apply gH | apply gI | apply gJ | apply gK | apply gL | apply gM | apply gN | apply gO | apply gP | apply gQ | apply gR | apply gP2 | apply gP3) | ((with_reducible first | apply gT | apply gS2); first | exact rfl | assumption | omega | exact ⟨⟩) | ((with_reducible first | apply gL0 | apply gL1 | apply gL2 | apply gL3 | apply gL4); assumption)))
  refine t_pu (c2049 _ _) ?_
  (repeat (first | (with_reducible first | apply gA | apply gB | apply gC | apply gD | apply gE | apply gF | apply gG | apply gH | apply gI | apply gJ | apply gK | apply gL | apply gM | apply gN | apply gO | apply gP | apply gQ | apply gR | apply gP2 | apply gP3) | ((with_reducible first | apply gT | apply gS2); first | exact rfl | assumption | omega | exact ⟨⟩) | ((with_reducible first | apply gL0 | apply gL1 | apply gL2 | apply gL3 | apply gL4); assumption)))
  refine t_pu (c2049 _ _) ?_
  (repeat (first | (with_reducible first | apply gA | apply gB | apply gC | apply gD | apply gE | apply gF | apply gG | apply gH | apply gI | apply gJ | apply gK | apply gL | apply gM | apply gN | apply gO | apply gP | apply gQ | apply gR | apply gP2 | apply gP3) | ((with_reducible first | apply gT | apply gS2); first | exact rfl | assumption | omega | exact ⟨⟩) | ((with_reducible first | apply gL0 | apply gL1 | apply gL2 | apply gL3 | apply gL4); assumption)))
  refine t_buildR [.int .i64 12, .int .i64 39, .int .i64 44, .int .i64 9999] und22 inf30 (by decide) (by decide) (by kernel_rfl) ?_
  intro q6 g6 lg6 _ u6
  (repeat (first | (with_reducible first | apply gA | apply gB | apply gC | apply gD | apply gE | apply gF | apply gG | apply gH | apply gI | apply gJ | apply gK | apply gL | apply gM | apply gN | apply gO | apply gP | apply gQ | apply gR | apply gP2 | apply gP3) | ((with_reducible first | apply gT | apply gS2); first | exact rfl | assumption | omega | exact ⟨⟩) | ((with_reducible first | apply gL0 | apply gL1 | apply gL2 | apply gL3 | apply gL4); assumption)))
  have lg := LH.le_trans lg lg6
  have e1 := c2025 (h := g6) (c := k5) (d := 2) (s5.le SpE.grow lg.1) (sp_two (a := ⟨12, 39⟩) (b := ⟨44, 9999⟩) u6)
  rw [decide_eq_true rfl] at e1
  refine t_pu e1 ?_
  (repeat (first | (with_reducible first | apply gA | apply gB | apply gC | apply gD | apply gE | apply gF | apply gG | apply gH | apply gI | apply gJ | apply gK | apply gL | apply gM | apply gN | apply gO | apply gP | apply gQ | apply gR | apply gP2 | apply gP3) | ((with_reducible first | apply gT | apply gS2); first | exact rfl | assumption | omega | exact ⟨⟩) | ((with_reducible first | apply gL0 | apply gL1 | apply gL2 | apply gL3 | apply gL4); assumption)))
  refine t_cond (fun _ => ?_) (fun e => by cases e)
  refine t_pu (c2049 _ _) ?_
  (repeat (first | (with_reducible first | apply gA | apply gB | apply gC | apply gD | apply gE | apply gF | apply gG | apply gH | apply gI | apply gJ | apply gK | apply gL | apply gM | apply gN | apply gO | apply gP | apply gQ | apply gR | apply gP2 | apply gP3) | ((with_reducible first | apply gT | apply gS2); first | exact rfl | assumption | omega | exact ⟨⟩) | ((with_reducible first | apply gL0 | apply gL1 | apply gL2 | apply gL3 | apply gL4); assumption)))
  refine t_pu (c2049 _ _) ?_
  (repeat (first | (with_reducible first | apply gA | apply gB | apply gC | apply gD | apply gE | apply gF | apply gG | apply gH | apply gI | apply gJ | apply gK | apply gL | apply gM | apply gN | apply gO | apply gP | apply gQ | apply gR | apply gP2 | apply gP3) | ((with_reducible first | apply gT | apply gS2); first | exact rfl | assumption | omega | exact ⟨⟩) | ((with_reducible first | apply gL0 | apply gL1 | apply gL2 | apply gL3 | apply gL4); assumption)))
  refine t_buildR [.int .i64 12, .int .i64 14, .int .i64 25, .int .i64 9999] und22 inf30 (by decide) (by decide) (by kernel_rfl) ?_
  intro q7 g7 lg7 _ u7
  (repeat (first | (with_reducible first | apply gA | apply gB | apply gC | apply gD | apply gE | apply gF | apply gG | apply gH | apply gI | apply gJ | apply gK | apply gL | apply gM | apply gN | apply gO | apply gP | apply gQ | apply gR | apply gP2 | apply gP3) | ((with_reducible first | apply gT | apply gS2); first | exact rfl | assumption | omega | exact ⟨⟩) | ((with_reducible first | apply gL0 | apply gL1 | apply gL2 | apply gL3 | apply gL4); assumption)))
  have lg := LH.le_trans lg lg7
  have e1 := c2025 (h := g7) (c := k6) (d := 2) (s6.le SpE.grow lg.1) (sp_two (a := ⟨12, 14⟩) (b := ⟨25, 9999⟩) u7)
  rw [decide_eq_true rfl] at e1
  refine t_pu e1 ?_
  (repeat (first | (with_reducible first | apply gA | apply gB | apply gC | apply gD | apply gE | apply gF | apply gG | apply gH | apply gI | apply gJ | apply gK | apply gL | apply gM | apply gN | apply gO | apply gP | apply gQ | apply gR | apply gP2 | apply gP3) | ((with_reducible first | apply gT | apply gS2); first | exact rfl | assumption | omega | exact ⟨⟩) | ((with_reducible first | apply gL0 | apply gL1 | apply gL2 | apply gL3 | apply gL4); assumption)))
  refine t_cond (fun _ => ?_) (fun e => by cases e)
  refine t_ints [0] (by decide) rfl (by decide) (by kernel_rfl) fun q8 g8 lg8 u8 => ?_
  (repeat (first | (with_reducible first | apply gA | apply gB | apply gC | apply gD | apply gE | apply gF | apply gG | apply gH | apply gI | apply gJ | apply gK | apply gL | apply gM | apply gN | apply gO | apply gP | apply gQ | apply gR | apply gP2 | apply gP3) | ((with_reducible first | apply gT | apply gS2); first | exact rfl | assumption | omega | exact ⟨⟩) | ((with_reducible first | apply gL0 | apply gL1 | apply gL2 | apply gL3 | apply gL4); assumption)))
  have lg := LH.le_trans lg lg8
  have e1 := c35 (h := g8) (c := k7) (d := 1) (s7.le IntE.grow lg.1) u8
  rw [decide_eq_true rfl] at e1
  refine t_pu e1 ?_
  (repeat (first | (with_reducible first | apply gA | apply gB | apply gC | apply gD | apply gE | apply gF | apply gG | apply gH | apply gI | apply gJ | apply gK | apply gL | apply gM | apply gN | apply gO | apply gP | apply gQ | apply gR | apply gP2 | apply gP3) | ((with_reducible first | apply gT | apply gS2); first | exact rfl | assumption | omega | exact ⟨⟩) | ((with_reducible first | apply gL0 | apply gL1 | apply gL2 | apply gL3 | apply gL4); assumption)))
  refine t_cond (fun _ => ?_) (fun e => by cases e)
  exact t_ret ⟨rfl, rd09.trans (Rd.of_le lg.1), lg.2.1.trans hc9, lg.2.2.1.trans hp9, by rw [lg.2.2.2, ht9, le08.2.2.2]⟩
def Fin (h : LH) : Value → LH → Prop := fun r h' => r = .bool true ∧ h'.chans = [] ∧ h'.pend = [] ∧ h'.todo = h.todo
structure Idle (h h' : LH) : Prop where
  rd : Rd h.get h'.get
  chans : h'.chans = []
  pend : h'.pend = []
  todo : h'.todo = h.todo
theorem Idle.of {h h' : LH} (hch : h.chans = []) (hpe : h.pend = []) (hle : h.le h') : Idle h h' := ⟨Rd.of_le hle.1, by rw [hle.2.1, hch], by rw [hle.2.2.1, hpe], hle.2.2.2⟩
theorem Idle.le {h h' h'' : LH} (i : Idle h h') (hle : h'.le h'') : Idle h h'' := ⟨i.rd.trans (Rd.of_le hle.1), by rw [hle.2.1, i.chans], by rw [hle.2.2.1, i.pend], by rw [hle.2.2.2, i.todo]⟩
theorem t_shown {h h' : LH} {k : Bool → T} {Q : Leaf → LH → Prop} (hk : Kinds h.get) (i : Idle h h') (hq : ∀ h'', Idle h h'' → (k true).wp XT Tryd.prog Q h'') :
    (T.call false 17 #[] fun v => T.unB v k).wp XT Tryd.prog Q h' := by
  refine t_call (c2017 i.chans i.pend (hk.rd i.rd)) ?_
  rintro _ h'' ⟨rfl, rd, h2, h3, h4⟩
  exact gC (hq h'' ⟨i.rd.trans rd, h2, h3, h4.trans i.todo⟩)
theorem Idle.fin {h h' : LH} (i : Idle h h') : Fin h (.bool true) h' := ⟨rfl, i.chans, i.pend, i.todo⟩
end Go.Proofs.YtbmfimaomcnkfaaDoor
end
section
namespace Go.Proofs.YtbmfimaomcnkfaaDoor
open Go Go.TM Go.Proofs
set_option linter.unusedVariables false
set_option maxRecDepth 100000
noncomputable def n2014 (x_0 : Int) (x_1 : Int) (x_2 : Int) (x_3 : Int) (x_4 : Int) (x_5 : Int) (x_6p : Option Addr) (x_6n x_6c : Nat) (land : Int) (item : Int) (day : Int) (eventsp : Option Addr) (eventsn eventsc : Nat) : T := .blk (.call false 16 #[.agg #[.int .i64 x_0, .int .i64 x_1, .int .i64 x_2, .int .i64 x_3, .int .i64 x_4, .int .i64 x_5, .slice x_6p x_6n x_6c]] fun v => .unB v fun b => bif b then .call false 17 #[] fun v => .unB v fun b => .leaf (.retn [.bool b]) else bif decide ((↑eventsn : Int) > 20) then .call false 17 #[] fun v => .unB v fun b => .leaf (.retn [.bool b]) else .leaf (.again [.bool false])) (fun vs => .popB vs fun b vs => .unNil vs (.call false 42 #[.agg #[.int .i64 x_0, .int .i64 x_1, .int .i64 x_2, .int .i64 x_3, .int .i64 x_4, .int .i64 x_5, .slice x_6p x_6n x_6c], .int .i64 land, .int .i64 item, .int .i64 day, .slice eventsp eventsn eventsc] fun v => .unTup v fun l => .unCons l fun v vs => .unB v fun b_1 => .unCons vs fun v vs => .unI .i64 v fun n => .unNil vs (.call false 43 #[.agg #[.int .i64 x_0, .int .i64 x_1, .int .i64 x_2, .int .i64 x_3, .int .i64 x_4, .int .i64 x_5, .slice x_6p x_6n x_6c], .int .i64 land, .int .i64 item, .int .i64 day, .slice eventsp eventsn eventsc] fun v => .unTup v fun l => .unCons l fun v vs => .unB v fun b_2 => .unCons vs fun v vs => .unI .i64 v fun n_1 => .unNil vs (.blk (bif !b_1 == b_2 then .leaf (.retn [.bool false]) else bif n != n_1 then .leaf (.retn [.bool false]) else .leaf (.again [.bool b])) (fun vs => .popB vs fun b vs => .unNil vs (.call false 44 #[.agg #[.int .i64 x_0, .int .i64 x_1, .int .i64 x_2, .int .i64 x_3, .int .i64 x_4, .int .i64 x_5, .slice x_6p x_6n x_6c], .int .i64 land, .int .i64 item, .int .i64 day] fun v => .unTup v fun l => .unCons l fun v vs => .unS v fun a n c => .unCons vs fun v vs => .unB v fun b => .unCons vs fun v vs => .unI .i64 v fun n_2 => .unNil vs (.call false 45 #[.agg #[.int .i64 x_0, .int .i64 x_1, .int .i64 x_2, .int .i64 x_3, .int .i64 x_4, .int .i64 x_5, .slice x_6p x_6n x_6c], .int .i64 land, .int .i64 item, .int .i64 day] fun v => .unTup v fun l => .unCons l fun v vs => .unS v fun a_1 n_3 c_1 => .unCons vs fun v vs => .unB v fun b_3 => .unCons vs fun v vs => .unI .i64 v fun n_4 => .unNil vs (.call false 28 #[.slice a n c, .slice a_1 n_3 c_1] fun v => .unB v fun b_4 => bif b_4 then bif b == b_3 then bif n_2 == n_4 then .call false 17 #[] fun v => .unB v fun b => .leaf (.ret (.bool b)) else .leaf (.ret (.bool false)) else .leaf (.ret (.bool false)) else .leaf (.ret (.bool false)))))) (fun vs => .popB vs fun b vs => .unNil vs (.leaf (.ret (.bool b)))) fun x x_6 => .fail)))) (fun vs => .popB vs fun b vs => .unNil vs (.leaf (.ret (.bool b)))) fun x x_6 => .fail
theorem t2014 (x_0 : Int) (x_1 : Int) (x_2 : Int) (x_3 : Int) (x_4 : Int) (x_5 : Int) (x_6p : Option Addr) (x_6n x_6c : Nat) (land : Int) (item : Int) (day : Int) (eventsp : Option Addr) (eventsn eventsc : Nat) : ftree ({ P := Tryd.prog, priv := [5], loops := [], joins := [{ id := 7, slots := [(10, .bool)], ro := [5], outs := [] }, { id := 3, slots := [(10, .bool)], ro := [5], outs := [] }] }) Tryd.f14 [.agg #[.int .i64 x_0, .int .i64 x_1, .int .i64 x_2, .int .i64 x_3, .int .i64 x_4, .int .i64 x_5, .slice x_6p x_6n x_6c], .int .i64 land, .int .i64 item, .int .i64 day, .slice eventsp eventsn eventsc] = n2014 x_0 x_1 x_2 x_3 x_4 x_5 x_6p x_6n x_6c land item day eventsp eventsn eventsc := by kernel_rfl
theorem w2014 (x_0 : Int) (x_1 : Int) (x_2 : Int) (x_3 : Int) (x_4 : Int) (x_5 : Int) (x_6p : Option Addr) (x_6n x_6c : Nat) (land : Int) (item : Int) (day : Int) (eventsp : Option Addr) (eventsn eventsc : Nat) {X : XP} (hX : XOK X) {h : LH} {A : Value → LH → Prop} (hw : (n2014 x_0 x_1 x_2 x_3 x_4 x_5 x_6p x_6n x_6c land item day eventsp eventsn eventsc).wp X Tryd.prog (retQ A) h) : FWK X Tryd.prog .normal 14 #[.agg #[.int .i64 x_0, .int .i64 x_1, .int .i64 x_2, .int .i64 x_3, .int .i64 x_4, .int .i64 x_5, .slice x_6p x_6n x_6c], .int .i64 land, .int .i64 item, .int .i64 day, .slice eventsp eventsn eventsc] h A := fwk_neat (t2014 x_0 x_1 x_2 x_3 x_4 x_5 x_6p x_6n x_6c land item day eventsp eventsn eventsc) (by simp) (by kernel_rfl) (by kernel_rfl) hX hw
end Go.Proofs.YtbmfimaomcnkfaaDoor
end
section
namespace Go.Proofs.YtbmfimaomcnkfaaDoor
open Go Go.TM Go.Proofs Go.TM.Tr
attribute [local irreducible] T.wp CV FWK
theorem holds_form (x : TF) (k i d : Int) (L : List Int) : ∃ b g, holdsT x k i d L = .tuple #[.bool b, .int .i64 g] := by
  unfold holdsT
  split
  · exact ⟨_, _, rfl⟩
  · split <;> exact ⟨_, _, rfl⟩
theorem c2014 {h : LH} (hch : h.chans = []) (hpe : h.pend = []) (hk : Kinds h.get) {f : TC} {x : TF} (hx : TreatyR h.get f x) (k i d : Int) {ep : Option Addr} {en ec : Nat} {L : List Int} (hL : Sl IntE 1 h.get ep en L) : FW XT Tryd.prog 14 #[treatyV f x, .int .i64 k, .int .i64 i, .int .i64 d, .slice ep en ec] h (Fin h) := by
  refine w2014 _ _ _ _ _ _ _ _ _ _ _ _ _ _ _ XT_ok ?_
  unfold n2014
  refine t_blk (fun vs h' => vs = [.bool false] ∧ h = h') ?_ ?_
  · refine t_pu (c2016 hx) ?_
    (repeat (first | (with_reducible first | apply gA | apply gB | apply gC | apply gD | apply gE | apply gF | apply gG | apply gH | apply gI | apply gJ | apply gK | apply gL | apply gM | apply gN | apply gO | apply gP | apply gQ | apply gR | apply gP2 | apply gP3) | ((with_reducible first | apply gT | apply gS2); first | exact rfl | assumption | omega | exact ⟨⟩) | ((with_reducible first | apply gL0 | apply gL1 | apply gL2 | apply gL3 | apply gL4); assumption)))
    refine t_cond (fun _ => ?_) (fun _ => ?_)
    · refine t_shown hk (.of hch hpe (LH.le_refl _)) fun h' hh => ?_
      refine gI ?_
      (repeat (first | (with_reducible first | apply gA | apply gB | apply gC | apply gD | apply gE | apply gF | apply gG | apply gH | apply gI | apply gJ | apply gK | apply gL | apply gM | apply gN | apply gO | apply gP | apply gQ | apply gR | apply gP2 | apply gP3) | ((with_reducible first | apply gT | apply gS2); first | exact rfl | assumption | omega | exact ⟨⟩) | ((with_reducible first | apply gL0 | apply gL1 | apply gL2 | apply gL3 | apply gL4); assumption)))
      exact t_ret hh.fin
    refine t_if (fun _ => ?_) (fun _ => ?_)
    · refine t_shown hk (.of hch hpe (LH.le_refl _)) fun h' hh => ?_
      refine gI ?_
      (repeat (first | (with_reducible first | apply gA | apply gB | apply gC | apply gD | apply gE | apply gF | apply gG | apply gH | apply gI | apply gJ | apply gK | apply gL | apply gM | apply gN | apply gO | apply gP | apply gQ | apply gR | apply gP2 | apply gP3) | ((with_reducible first | apply gT | apply gS2); first | exact rfl | assumption | omega | exact ⟨⟩) | ((with_reducible first | apply gL0 | apply gL1 | apply gL2 | apply gL3 | apply gL4); assumption)))
      exact t_ret hh.fin
    exact t_again ⟨rfl, rfl⟩
  rintro vs _ ⟨rfl, rfl⟩
  (repeat (first | (with_reducible first | apply gA | apply gB | apply gC | apply gD | apply gE | apply gF | apply gG | apply gH | apply gI | apply gJ | apply gK | apply gL | apply gM | apply gN | apply gO | apply gP | apply gQ | apply gR | apply gP2 | apply gP3) | ((with_reducible first | apply gT | apply gS2); first | exact rfl | assumption | omega | exact ⟨⟩) | ((with_reducible first | apply gL0 | apply gL1 | apply gL2 | apply gL3 | apply gL4); assumption)))
  obtain ⟨b, g, hb⟩ := holds_form x k i d L
  refine t_gr (c2042 hk hx k i d hL) ?_
  rintro _ h1 le1 rfl
  rw [hb]
  (repeat (first | (with_reducible first | apply gA | apply gB | apply gC | apply gD | apply gE | apply gF | apply gG | apply gH | apply gI | apply gJ | apply gK | apply gL | apply gM | apply gN | apply gO | apply gP | apply gQ | apply gR | apply gP2 | apply gP3) | ((with_reducible first | apply gT | apply gS2); first | exact rfl | assumption | omega | exact ⟨⟩) | ((with_reducible first | apply gL0 | apply gL1 | apply gL2 | apply gL3 | apply gL4); assumption)))
  refine t_gr (c2043 (hx.le le1.1) k i d (hL.le IntE.grow le1.1)) ?_
  rintro _ h2 le2 rfl
  rw [hb]
  (repeat (first | (with_reducible first | apply gA | apply gB | apply gC | apply gD | apply gE | apply gF | apply gG | apply gH | apply gI | apply gJ | apply gK | apply gL | apply gM | apply gN | apply gO | apply gP | apply gQ | apply gR | apply gP2 | apply gP3) | ((with_reducible first | apply gT | apply gS2); first | exact rfl | assumption | omega | exact ⟨⟩) | ((with_reducible first | apply gL0 | apply gL1 | apply gL2 | apply gL3 | apply gL4); assumption)))
  have le02 := LH.le_trans le1 le2
  refine t_blk (fun vs h' => vs = [.bool false] ∧ h2 = h') ?_ ?_
  · refine t_cond (fun e => absurd e (by cases b <;> simp)) (fun _ => ?_)
    refine t_cond (fun e => absurd e (by simp)) (fun _ => ?_)
    exact t_again ⟨rfl, rfl⟩
  rintro vs _ ⟨rfl, rfl⟩
  (repeat (first | (with_reducible first | apply gA | apply gB | apply gC | apply gD | apply gE | apply gF | apply gG | apply gH | apply gI | apply gJ | apply gK | apply gL | apply gM | apply gN | apply gO | apply gP | apply gQ | apply gR | apply gP2 | apply gP3) | ((with_reducible first | apply gT | apply gS2); first | exact rfl | assumption | omega | exact ⟨⟩) | ((with_reducible first | apply gL0 | apply gL1 | apply gL2 | apply gL3 | apply gL4); assumption)))
  have i2 := Idle.of hch hpe le02
  refine t_call (c2044 i2.chans i2.pend (hk.rd i2.rd) (hx.rd i2.rd) k i d) ?_
  rintro r3 h3 ⟨rd3, hc3, hp3, ht3, hr⟩
  obtain ⟨p3, n3, k3, rfl, s3, _⟩ := hr.form
  (repeat (first | (with_reducible first | apply gA | apply gB | apply gC | apply gD | apply gE | apply gF | apply gG | apply gH | apply gI | apply gJ | apply gK | apply gL | apply gM | apply gN | apply gO | apply gP | apply gQ | apply gR | apply gP2 | apply gP3) | ((with_reducible first | apply gT | apply gS2); first | exact rfl | assumption | omega | exact ⟨⟩) | ((with_reducible first | apply gL0 | apply gL1 | apply gL2 | apply gL3 | apply gL4); assumption)))
  have i3 : Idle h h3 := ⟨i2.rd.trans rd3, hc3, hp3, ht3.trans i2.todo⟩
  refine t_gr (c2045 (hx.rd i3.rd) k i d) ?_
  intro r4 h4 le4 hr
  obtain ⟨p4, n4, k4, rfl, s4⟩ := hr.form
  (repeat (first | (with_reducible first | apply gA | apply gB | apply gC | apply gD | apply gE | apply gF | apply gG | apply gH | apply gI | apply gJ | apply gK | apply gL | apply gM | apply gN | apply gO | apply gP | apply gQ | apply gR | apply gP2 | apply gP3) | ((with_reducible first | apply gT | apply gS2); first | exact rfl | assumption | omega | exact ⟨⟩) | ((with_reducible first | apply gL0 | apply gL1 | apply gL2 | apply gL3 | apply gL4); assumption)))
  have s3 := s3.le IntE.grow le4.1
  have e1 := c35 (h := h4) (c := k3) (d := k4) s3 s4
  rw [decide_eq_true rfl] at e1
  refine t_pu e1 ?_
  (repeat (first | (with_reducible first | apply gA | apply gB | apply gC | apply gD | apply gE | apply gF | apply gG | apply gH | apply gI | apply gJ | apply gK | apply gL | apply gM | apply gN | apply gO | apply gP | apply gQ | apply gR | apply gP2 | apply gP3) | ((with_reducible first | apply gT | apply gS2); first | exact rfl | assumption | omega | exact ⟨⟩) | ((with_reducible first | apply gL0 | apply gL1 | apply gL2 | apply gL3 | apply gL4); assumption)))
  refine t_cond (fun _ => ?_) (fun e => absurd e (by simp))
  refine t_cond (fun _ => ?_) (fun e => absurd e (by simp))
  refine t_cond (fun _ => ?_) (fun e => absurd e (by simp))
  exact t_shown hk (i3.le le4) fun h' hh => t_ret hh.fin
end Go.Proofs.YtbmfimaomcnkfaaDoor
end
section
namespace Go.Proofs.YtbmfimaomcnkfaaDoor
open Go Go.TM Go.Proofs Go.ChangeShapes Go.WideShapes Go.RowKit
set_option maxRecDepth 100000
theorem treatyEvents_lifted (os : Os) (started : os.Started) (H : Type) (enc : TypeId × Value → H) :
    ReturnsInLeavingWide {} Tryd.checked os 14 .any (fun w args => (Rows.treatyEventsSpec.pre enc Tryd.prog Tryd.f14 [] false w args ∧ laidMetH Tryd.prog Rows.treatyStatesRow.laid w) ∧ sizedMet enc Tryd.prog Tryd.f14 (OpenSpec.ofChange Rows.treatyEventsSpec) false w args)
      (Rows.treatyEventsSpec.post enc Tryd.prog Tryd.f14 false true false false) := by
  refine row_leaving (C := Tryd.checked) (tb := 4) own started Tryd.func14 (by kernel_rfl) rfl lo ?_ (by kernel_rfl) Tryd.underlying4 ?_
    (ChangeSpec.witness_shaped (enc := enc) (C := Tryd.checked) (os := os) (X := fun w _ => laidMetH Tryd.prog Rows.treatyStatesRow.laid w) false (World.doorLaid Tryd.prog 200 os) #[noFile, .int .i64 0, .int .i64 0, .int .i64 0, .slice none 0 0] 8 rfl (door_shaped os _) (by kernel_rfl) (by kernel_rfl) (by kernel_rfl) (door_met os _)) ?_
  · exact fun t ht => of_decide_eq_true (List.all_eq_true.1 (show (Tryd.f14.params.toList.all fun t => decide (Tryd.prog.readableRec t = true ∧ t < Tryd.prog.types.size)) = true by kernel_rfl) t ht)
  · intro ds hd
    match ds, (show ds.length = 5 from hd) with
    | [d0, d1, d2, d3, d4], _ => rfl
  · intro W base args ds ps hval0 hA0 hz0 hL
    have hval : ∀ (j : Nat) t v, Tryd.f14.params[j]? = some t → args[j]? = some v → Value.okWide Tryd.prog W .any base t v := hval0
    have hz : ∀ (j : Nat) t d, Tryd.f14.params.toList[j]? = some t → ds[j]? = some d → Light Tryd.prog t d := hz0
    have hA : DataW.TrodAll enc Tryd.prog W 0 (fun _ => true) true Tryd.f14.params.toList args.toList ds ps := hA0
    rw [Tryd.params14] at hval hz hA
    obtain ⟨v0, v1, v2, v3, v4, d0, d1, d2, d3, d4, q00, q01, q02, q03, q04, rfl, rfl, rfl, h0, h1, h2, h3, h4⟩ := trodAll_five hA
    obtain ⟨f0, u0, rfl, hu0⟩ := treaty_arg TT (hval 0 24 v0 rfl rfl) (hz 0 24 d0 rfl rfl) h0
    obtain ⟨x1, rfl, _, _⟩ := open_int TT.int (hval 1 3 v1 rfl rfl) h1
    obtain ⟨x2, rfl, _, _⟩ := open_int TT.int (hval 2 3 v2 rfl rfl) h2
    obtain ⟨x3, rfl, _, _⟩ := open_int TT.int (hval 3 3 v3 rfl rfl) h3
    obtain ⟨p4, n4, k4, l4, rfl, _, s4⟩ := ints_arg (hval 4 38 v4 rfl rfl) (hz 4 38 d4 rfl rfl) h4
    exact FW.mono (c2014 (h := ⟨getW W, [], [], []⟩) rfl rfl (kinds_of_laid hL) hu0 x1 x2 x3 s4) fun r h' hq => ⟨hq.1, hq.2.2.1⟩
theorem treatyEvents_row : Rows.TreatyEventsSaid :=
  OpenClaim.holds_of_wide_leaving 14 Tryd.f14 rfl rfl rfl rfl rfl rfl rfl ⟨rfl, rfl, rfl, rfl, rfl⟩ rfl rfl rfl rfl rfl (by kernel_rfl) Tryd.func14 (by kernel_rfl)
    (of_decide_eq_true (by kernel_rfl)) (by unfold Func.isWrapper; first | (rw [if_pos (by decide +kernel)]; kernel_rfl) | (rw [if_neg (by decide +kernel)]; exact ⟨rfl, rfl⟩))
    (fun os started H enc _ => treatyEvents_lifted os started H enc)
theorem treatyEvents_holds : Rows.TreatyEventsCardSaid :=
  card_goes [.data, .funcsDeep] true Rows.treatyEventsCard.stood.harness false treatyEvents_row (by kernel_rfl) treatyEvents_row_tie rfl ⟨rfl, rfl⟩ (by kernel_rfl) rfl
    (fun f fn hf hfn => by
      obtain rfl : f = 14 := Option.some.inj ((show Tryd.prog.funcNamed Rows.treatyEventsRow.func = some 14 by kernel_rfl).symm.trans hf) |>.symm
      obtain rfl : fn = Tryd.f14 := (Option.some.inj (Tryd.func14.symm.trans hfn)).symm
      exact ⟨by kernel_rfl, fun j t ht => by
        have hm := Array.mem_of_getElem? ht
        have := of_decide_eq_true (List.all_eq_true.1 (show (Tryd.f14.params.toList.all fun t => decide (Tryd.prog.wantsStandIn t = false)) = true by kernel_rfl) t (Array.mem_toList_iff.2 hm))
        exact this⟩)
    (by kernel_rfl)
end Go.Proofs.YtbmfimaomcnkfaaDoor
end
#print axioms Go.Proofs.YtbmfimaomcnkfaaDoor.treatyEvents_holds

/- For every file, land, paper and day the law UseParts returns true: a paper that shows several items is as good as several papers that show one each. The tied card; no further condition. -/
import Derived.Test.YtopkdkedjkidhaaDoorM5
set_option linter.all false
section
namespace Go.Proofs.YtopkdkedjkidhaaDoor
open Go Go.TM Go.Proofs
attribute [local irreducible] T.wp CV FWK
theorem t_sliceMid {P : Program} {X : XP} {Q : Leaf → LH → Prop} {h : LH} {K : Value → T} {t el : TypeId} {s b : Nat} {z : Option Value} {p : Option Addr} {n c i j : Nat} (hu : P.underlying t = some (.slice el)) (hi : (P.info? el).map (fun i => (i.size, i.bytes, i.zero)) = some (s, b, z)) (hij : i ≤ j) (hin : j ≤ c)
    (hk : (K (.slice (if c = i then p else p.map (·.add (i * s))) (j - i) (c - i))).wp X P Q h) : (T.sem false (Instr.sliceAt t (.slice p n c) (some (.int .i64 (i : Int))) (some (.int .i64 (j : Int))) none) K).wp X P Q h := by
  obtain ⟨inf, g1, g2, _, _⟩ := info_of hi
  refine t_sem (A := fun v h' => v = .slice (if c = i then p else p.map (·.add (i * s))) (j - i) (c - i) ∧ h' = h.get) ?_ (by rintro v h' ⟨rfl, rfl⟩; exact hk)
  unfold Instr.sliceAt
  simp only [lwp_bind, lwp_underlying hu]
  unfold Instr.slice
  simp only [lwp_bind, lwp_underlying hu]
  unfold Instr.sliceBounds Instr.sliceBound
  simp only [lwp_bind, lwp_pure, asIntOf, asInt]
  rw [if_pos (show 0 ≤ (j : Int) ∧ (j : Int) ≤ (c : Int) by omega)]
  simp only [lwp_pure, lwp_bind, Int.toNat_natCast]
  rw [if_pos (show 0 ≤ (i : Int) ∧ (i : Int) ≤ (j : Int) by omega)]
  simp only [lwp_pure, lwp_sizeOf g1, Int.toNat_natCast, g2]
  exact ⟨trivial, trivial⟩
theorem c1008 {h : LH} (hch : h.chans = []) (hpe : h.pend = []) (hp : Parts h.get) {f : FileC} {u : UseFile} (hu : FileR h.get f u) (hroom : Room h.get f u) (land : Int) (hl : 0 ≤ land ∧ land ≤ 255) (which : Int) (hw : 0 ≤ which ∧ which ≤ 255) (day : Int) (hd : 0 ≤ day ∧ day ≤ 65535) :
    FW XT Tryd.prog 8 #[fileV f u, .int .u8 land, .int .u8 which, .int .u16 day] h (Fin h) := by
  refine w1008 _ _ _ _ _ _ _ _ _ _ _ _ _ _ _ _ XT_ok ?_
  unfold n1008
  refine t_blk (fun vs h' => vs = [.bool false] ∧ h = h' ∧ checkF u = 0 ∧ f.n5 ≠ 0) ?_ ?_
  · refine t_call (FW.top (c36 hu)) ?_
    rintro _ _ ⟨rfl, b, rfl, hb⟩
    (repeat (first | (with_reducible first | apply gA | apply gB | apply gC | apply gD | apply gE | apply gF | apply gG | apply gH | apply gI | apply gJ | apply gK | apply gL | apply gM | apply gN | apply gO | apply gP | apply gQ | apply gR) | ((with_reducible first | apply gT | apply gS2); first | exact rfl | assumption | omega | exact ⟨⟩) | ((with_reducible first | apply gL0 | apply gL1 | apply gL2 | apply gL3 | apply gL4); assumption)))
    refine t_cond (fun _ => ?_) (fun hbf => ?_)
    · refine t_shown hch hpe hp (LH.le_refl _) fun h' hh => ?_
      (repeat (first | (with_reducible first | apply gA | apply gB | apply gC | apply gD | apply gE | apply gF | apply gG | apply gH | apply gI | apply gJ | apply gK | apply gL | apply gM | apply gN | apply gO | apply gP | apply gQ | apply gR) | ((with_reducible first | apply gT | apply gS2); first | exact rfl | assumption | omega | exact ⟨⟩) | ((with_reducible first | apply gL0 | apply gL1 | apply gL2 | apply gL3 | apply gL4); assumption)))
      exact t_ret ⟨rfl, hh⟩
    have hck := hb (by simpa using hbf)
    refine t_cond (fun _ => ?_) (fun e => ?_)
    · refine t_shown hch hpe hp (LH.le_refl _) fun h' hh => ?_
      (repeat (first | (with_reducible first | apply gA | apply gB | apply gC | apply gD | apply gE | apply gF | apply gG | apply gH | apply gI | apply gJ | apply gK | apply gL | apply gM | apply gN | apply gO | apply gP | apply gQ | apply gR) | ((with_reducible first | apply gT | apply gS2); first | exact rfl | assumption | omega | exact ⟨⟩) | ((with_reducible first | apply gL0 | apply gL1 | apply gL2 | apply gL3 | apply gL4); assumption)))
      exact t_ret ⟨rfl, hh⟩
    · exact t_again ⟨rfl, rfl, hck, by simpa using e⟩
  rintro vs _ ⟨rfl, rfl, hck, hne⟩
  obtain ⟨⟨i1, i2⟩, ⟨l1, l2⟩, ⟨f1, f2⟩, ⟨d1, d2⟩⟩ := num_ok (check_num hck)
  have hl0 : u.lands ≠ 0 := by omega
  have h8 := (check_papers hck).1
  have hn5 := hu.papers.1
  have hn0 : (f.n5 : Int) ≠ 0 := by omega
  obtain ⟨hcap, hpc⟩ := hroom
  (repeat (first | (with_reducible first | apply gA | apply gB | apply gC | apply gD | apply gE | apply gF | apply gG | apply gH | apply gI | apply gJ | apply gK | apply gL | apply gM | apply gN | apply gO | apply gP | apply gQ | apply gR) | ((with_reducible first | apply gT | apply gS2); first | exact rfl | assumption | omega | exact ⟨⟩) | ((with_reducible first | apply gL0 | apply gL1 | apply gL2 | apply gL3 | apply gL4); assumption)))
  refine t_pu (c37 hd) ?_
  (repeat (first | (with_reducible first | apply gA | apply gB | apply gC | apply gD | apply gE | apply gF | apply gG | apply gH | apply gI | apply gJ | apply gK | apply gL | apply gM | apply gN | apply gO | apply gP | apply gQ | apply gR) | ((with_reducible first | apply gT | apply gS2); first | exact rfl | assumption | omega | exact ⟨⟩) | ((with_reducible first | apply gL0 | apply gL1 | apply gL2 | apply gL3 | apply gL4); assumption)))
  rw [wrap_u8 hl, wrap_u8 hw, tmod_nn hl.1, tmod_nn hw.1]
  have hk := mod_pos (n := land) (b := u.lands) (by omega)
  have hn := mod_pos (n := which) (b := (f.n5 : Int)) (by omega)
  have hday := mod_day (n := day)
  generalize land % u.lands = k at *
  generalize which % (f.n5 : Int) = w at *
  generalize day % 2001 = d at *
  obtain ⟨n, rfl⟩ : ∃ n : Nat, w = n := ⟨w.toNat, by omega⟩
  have hwr : IntKind.wrap .i64 ((n : Int) + 1) = ((n + 1 : Nat) : Int) := by rw [wrap_id (by omega) (by omega)]; rfl
  rw [hwr]
  obtain ⟨x, a, hx, ha, x1, x2, x3, q, m, cq, x4, x5, x6⟩ := hpc.at (i := n) (by omega)
  have src1 := slTake hu.papers (i := n) (by omega)
  have src2 := hu.papers.drop (c := f.c5) (i := n + 1) hcap
  have hic : n ≤ f.c5 := by omega
  have hin : n + 1 ≤ f.n5 := by omega
  have hb1 : 0 + n ≤ 2 ^ 30 := by omega
  have hb2 : 0 + n + (f.n5 - (n + 1)) ≤ 2 ^ 30 := by omega
  refine t_blk (fun vs h' => ∃ p n' c, vs = [.int .i64 u.items, .int .i64 u.lands, .int .i64 u.from_, .int .i64 u.idle, .slice f.p4 f.n4 f.c4, .slice p n' c, .slice f.p6 f.n6 f.c6] ∧ h.le h' ∧ Growing (PaperEnc h.get) 68 4 h.get h'.get p n' c (u.papers.take n ++ u.papers.drop (n + 1))) ?_ ?_
  · refine t_both ?_ ?_
    · refine t_build0G (h₀ := h) (Enc := PaperEnc h.get) und23 inf69 (LH.le_refl _) fun r0 g3 hr0 le3 hB => ?_; (repeat (first | (with_reducible first | apply gA | apply gB | apply gC | apply gD | apply gE | apply gF | apply gG | apply gH | apply gI | apply gJ | apply gK | apply gL | apply gM | apply gN | apply gO | apply gP | apply gQ | apply gR) | ((with_reducible first | apply gT | apply gS2); first | exact rfl | assumption | omega | exact ⟨⟩) | ((with_reducible first | apply gL0 | apply gL1 | apply gL2 | apply gL3 | apply gL4); assumption)))
      refine t_both ?_ ?_
      · refine t_sliceHigh und23 inf69 hic ?_; (repeat (first | (with_reducible first | apply gA | apply gB | apply gC | apply gD | apply gE | apply gF | apply gG | apply gH | apply gI | apply gJ | apply gK | apply gL | apply gM | apply gN | apply gO | apply gP | apply gQ | apply gR) | ((with_reducible first | apply gT | apply gS2); first | exact rfl | assumption | omega | exact ⟨⟩) | ((with_reducible first | apply gL0 | apply gL1 | apply gL2 | apply gL3 | apply gL4); assumption)))
        refine t_both ?_ ?_
        · refine t_copy (h₀ := h) rfl rfl und23 und23 inf69 rfl (by omega) hb1 hB le3 (PaperB.of (Rd.of_le le3.1) src1) paperTold fun p4 c4 g4 le4 _ hC => ?_; (repeat (first | (with_reducible first | apply gA | apply gB | apply gC | apply gD | apply gE | apply gF | apply gG | apply gH | apply gI | apply gJ | apply gK | apply gL | apply gM | apply gN | apply gO | apply gP | apply gQ | apply gR) | ((with_reducible first | apply gT | apply gS2); first | exact rfl | assumption | omega | exact ⟨⟩) | ((with_reducible first | apply gL0 | apply gL1 | apply gL2 | apply gL3 | apply gL4); assumption))); refine t_sliceLow und23 inf69 hin ?_; (repeat (first | (with_reducible first | apply gA | apply gB | apply gC | apply gD | apply gE | apply gF | apply gG | apply gH | apply gI | apply gJ | apply gK | apply gL | apply gM | apply gN | apply gO | apply gP | apply gQ | apply gR) | ((with_reducible first | apply gT | apply gS2); first | exact rfl | assumption | omega | exact ⟨⟩) | ((with_reducible first | apply gL0 | apply gL1 | apply gL2 | apply gL3 | apply gL4); assumption))); refine t_copy (h₀ := h) rfl rfl und23 und23 inf69 rfl (by omega) hb2 hC le4 (PaperB.of (Rd.of_le le4.1) src2) paperTold fun p5 c5 g5 le5 _ hD => ?_; (repeat (first | (with_reducible first | apply gA | apply gB | apply gC | apply gD | apply gE | apply gF | apply gG | apply gH | apply gI | apply gJ | apply gK | apply gL | apply gM | apply gN | apply gO | apply gP | apply gQ | apply gR) | ((with_reducible first | apply gT | apply gS2); first | exact rfl | assumption | omega | exact ⟨⟩) | ((with_reducible first | apply gL0 | apply gL1 | apply gL2 | apply gL3 | apply gL4); assumption))); exact t_again ⟨p5, _, c5, rfl, le5, hD⟩
        · refine t_sliceLow und23 inf69 hin ?_; (repeat (first | (with_reducible first | apply gA | apply gB | apply gC | apply gD | apply gE | apply gF | apply gG | apply gH | apply gI | apply gJ | apply gK | apply gL | apply gM | apply gN | apply gO | apply gP | apply gQ | apply gR) | ((with_reducible first | apply gT | apply gS2); first | exact rfl | assumption | omega | exact ⟨⟩) | ((with_reducible first | apply gL0 | apply gL1 | apply gL2 | apply gL3 | apply gL4); assumption))); refine t_copy (h₀ := h) rfl rfl und23 und23 inf69 rfl (by omega) hb1 hB le3 (PaperB.of (Rd.of_le le3.1) src1) paperTold fun p4 c4 g4 le4 _ hC => ?_; (repeat (first | (with_reducible first | apply gA | apply gB | apply gC | apply gD | apply gE | apply gF | apply gG | apply gH | apply gI | apply gJ | apply gK | apply gL | apply gM | apply gN | apply gO | apply gP | apply gQ | apply gR) | ((with_reducible first | apply gT | apply gS2); first | exact rfl | assumption | omega | exact ⟨⟩) | ((with_reducible first | apply gL0 | apply gL1 | apply gL2 | apply gL3 | apply gL4); assumption))); refine t_copy (h₀ := h) rfl rfl und23 und23 inf69 rfl (by omega) hb2 hC le4 (PaperB.of (Rd.of_le le4.1) src2) paperTold fun p5 c5 g5 le5 _ hD => ?_; (repeat (first | (with_reducible first | apply gA | apply gB | apply gC | apply gD | apply gE | apply gF | apply gG | apply gH | apply gI | apply gJ | apply gK | apply gL | apply gM | apply gN | apply gO | apply gP | apply gQ | apply gR) | ((with_reducible first | apply gT | apply gS2); first | exact rfl | assumption | omega | exact ⟨⟩) | ((with_reducible first | apply gL0 | apply gL1 | apply gL2 | apply gL3 | apply gL4); assumption))); exact t_again ⟨p5, _, c5, rfl, le5, hD⟩
      · refine t_sliceLow und23 inf69 hin ?_; (repeat (first | (with_reducible first | apply gA | apply gB | apply gC | apply gD | apply gE | apply gF | apply gG | apply gH | apply gI | apply gJ | apply gK | apply gL | apply gM | apply gN | apply gO | apply gP | apply gQ | apply gR) | ((with_reducible first | apply gT | apply gS2); first | exact rfl | assumption | omega | exact ⟨⟩) | ((with_reducible first | apply gL0 | apply gL1 | apply gL2 | apply gL3 | apply gL4); assumption))); refine t_sliceHigh und23 inf69 hic ?_; (repeat (first | (with_reducible first | apply gA | apply gB | apply gC | apply gD | apply gE | apply gF | apply gG | apply gH | apply gI | apply gJ | apply gK | apply gL | apply gM | apply gN | apply gO | apply gP | apply gQ | apply gR) | ((with_reducible first | apply gT | apply gS2); first | exact rfl | assumption | omega | exact ⟨⟩) | ((with_reducible first | apply gL0 | apply gL1 | apply gL2 | apply gL3 | apply gL4); assumption))); refine t_copy (h₀ := h) rfl rfl und23 und23 inf69 rfl (by omega) hb1 hB le3 (PaperB.of (Rd.of_le le3.1) src1) paperTold fun p4 c4 g4 le4 _ hC => ?_; (repeat (first | (with_reducible first | apply gA | apply gB | apply gC | apply gD | apply gE | apply gF | apply gG | apply gH | apply gI | apply gJ | apply gK | apply gL | apply gM | apply gN | apply gO | apply gP | apply gQ | apply gR) | ((with_reducible first | apply gT | apply gS2); first | exact rfl | assumption | omega | exact ⟨⟩) | ((with_reducible first | apply gL0 | apply gL1 | apply gL2 | apply gL3 | apply gL4); assumption))); refine t_copy (h₀ := h) rfl rfl und23 und23 inf69 rfl (by omega) hb2 hC le4 (PaperB.of (Rd.of_le le4.1) src2) paperTold fun p5 c5 g5 le5 _ hD => ?_; (repeat (first | (with_reducible first | apply gA | apply gB | apply gC | apply gD | apply gE | apply gF | apply gG | apply gH | apply gI | apply gJ | apply gK | apply gL | apply gM | apply gN | apply gO | apply gP | apply gQ | apply gR) | ((with_reducible first | apply gT | apply gS2); first | exact rfl | assumption | omega | exact ⟨⟩) | ((with_reducible first | apply gL0 | apply gL1 | apply gL2 | apply gL3 | apply gL4); assumption))); exact t_again ⟨p5, _, c5, rfl, le5, hD⟩
    · refine t_both ?_ ?_
      · refine t_sliceHigh und23 inf69 hic ?_; (repeat (first | (with_reducible first | apply gA | apply gB | apply gC | apply gD | apply gE | apply gF | apply gG | apply gH | apply gI | apply gJ | apply gK | apply gL | apply gM | apply gN | apply gO | apply gP | apply gQ | apply gR) | ((with_reducible first | apply gT | apply gS2); first | exact rfl | assumption | omega | exact ⟨⟩) | ((with_reducible first | apply gL0 | apply gL1 | apply gL2 | apply gL3 | apply gL4); assumption)))
        refine t_both ?_ ?_
        · refine t_build0G (h₀ := h) (Enc := PaperEnc h.get) und23 inf69 (LH.le_refl _) fun r0 g3 hr0 le3 hB => ?_; (repeat (first | (with_reducible first | apply gA | apply gB | apply gC | apply gD | apply gE | apply gF | apply gG | apply gH | apply gI | apply gJ | apply gK | apply gL | apply gM | apply gN | apply gO | apply gP | apply gQ | apply gR) | ((with_reducible first | apply gT | apply gS2); first | exact rfl | assumption | omega | exact ⟨⟩) | ((with_reducible first | apply gL0 | apply gL1 | apply gL2 | apply gL3 | apply gL4); assumption)))
          refine t_both ?_ ?_
          · refine t_copy (h₀ := h) rfl rfl und23 und23 inf69 rfl (by omega) hb1 hB le3 (PaperB.of (Rd.of_le le3.1) src1) paperTold fun p4 c4 g4 le4 _ hC => ?_; (repeat (first | (with_reducible first | apply gA | apply gB | apply gC | apply gD | apply gE | apply gF | apply gG | apply gH | apply gI | apply gJ | apply gK | apply gL | apply gM | apply gN | apply gO | apply gP | apply gQ | apply gR) | ((with_reducible first | apply gT | apply gS2); first | exact rfl | assumption | omega | exact ⟨⟩) | ((with_reducible first | apply gL0 | apply gL1 | apply gL2 | apply gL3 | apply gL4); assumption))); refine t_sliceLow und23 inf69 hin ?_; (repeat (first | (with_reducible first | apply gA | apply gB | apply gC | apply gD | apply gE | apply gF | apply gG | apply gH | apply gI | apply gJ | apply gK | apply gL | apply gM | apply gN | apply gO | apply gP | apply gQ | apply gR) | ((with_reducible first | apply gT | apply gS2); first | exact rfl | assumption | omega | exact ⟨⟩) | ((with_reducible first | apply gL0 | apply gL1 | apply gL2 | apply gL3 | apply gL4); assumption))); refine t_copy (h₀ := h) rfl rfl und23 und23 inf69 rfl (by omega) hb2 hC le4 (PaperB.of (Rd.of_le le4.1) src2) paperTold fun p5 c5 g5 le5 _ hD => ?_; (repeat (first | (with_reducible first | apply gA | apply gB | apply gC | apply gD | apply gE | apply gF | apply gG | apply gH | apply gI | apply gJ | apply gK | apply gL | apply gM | apply gN | apply gO | apply gP | apply gQ | apply gR) | ((with_reducible first | apply gT | apply gS2); first | exact rfl | assumption | omega | exact ⟨⟩) | ((with_reducible first | apply gL0 | apply gL1 | apply gL2 | apply gL3 | apply gL4); assumption))); exact t_again ⟨p5, _, c5, rfl, le5, hD⟩
          · refine t_sliceLow und23 inf69 hin ?_; (repeat (first | (with_reducible first | apply gA | apply gB | apply gC | apply gD | apply gE | apply gF | apply gG | apply gH | apply gI | apply gJ | apply gK | apply gL | apply gM | apply gN | apply gO | apply gP | apply gQ | apply gR) | ((with_reducible first | apply gT | apply gS2); first | exact rfl | assumption | omega | exact ⟨⟩) | ((with_reducible first | apply gL0 | apply gL1 | apply gL2 | apply gL3 | apply gL4); assumption))); refine t_copy (h₀ := h) rfl rfl und23 und23 inf69 rfl (by omega) hb1 hB le3 (PaperB.of (Rd.of_le le3.1) src1) paperTold fun p4 c4 g4 le4 _ hC => ?_; (repeat (first | (with_reducible first | apply gA | apply gB | apply gC | apply gD | apply gE | apply gF | apply gG | apply gH | apply gI | apply gJ | apply gK | apply gL | apply gM | apply gN | apply gO | apply gP | apply gQ | apply gR) | ((with_reducible first | apply gT | apply gS2); first | exact rfl | assumption | omega | exact ⟨⟩) | ((with_reducible first | apply gL0 | apply gL1 | apply gL2 | apply gL3 | apply gL4); assumption))); refine t_copy (h₀ := h) rfl rfl und23 und23 inf69 rfl (by omega) hb2 hC le4 (PaperB.of (Rd.of_le le4.1) src2) paperTold fun p5 c5 g5 le5 _ hD => ?_; (repeat (first | (with_reducible first | apply gA | apply gB | apply gC | apply gD | apply gE | apply gF | apply gG | apply gH | apply gI | apply gJ | apply gK | apply gL | apply gM | apply gN | apply gO | apply gP | apply gQ | apply gR) | ((with_reducible first | apply gT | apply gS2); first | exact rfl | assumption | omega | exact ⟨⟩) | ((with_reducible first | apply gL0 | apply gL1 | apply gL2 | apply gL3 | apply gL4); assumption))); exact t_again ⟨p5, _, c5, rfl, le5, hD⟩
        · refine t_sliceLow und23 inf69 hin ?_; (repeat (first | (with_reducible first | apply gA | apply gB | apply gC | apply gD | apply gE | apply gF | apply gG | apply gH | apply gI | apply gJ | apply gK | apply gL | apply gM | apply gN | apply gO | apply gP | apply gQ | apply gR) | ((with_reducible first | apply gT | apply gS2); first | exact rfl | assumption | omega | exact ⟨⟩) | ((with_reducible first | apply gL0 | apply gL1 | apply gL2 | apply gL3 | apply gL4); assumption))); refine t_build0G (h₀ := h) (Enc := PaperEnc h.get) und23 inf69 (LH.le_refl _) fun r0 g3 hr0 le3 hB => ?_; (repeat (first | (with_reducible first | apply gA | apply gB | apply gC | apply gD | apply gE | apply gF | apply gG | apply gH | apply gI | apply gJ | apply gK | apply gL | apply gM | apply gN | apply gO | apply gP | apply gQ | apply gR) | ((with_reducible first | apply gT | apply gS2); first | exact rfl | assumption | omega | exact ⟨⟩) | ((with_reducible first | apply gL0 | apply gL1 | apply gL2 | apply gL3 | apply gL4); assumption))); refine t_copy (h₀ := h) rfl rfl und23 und23 inf69 rfl (by omega) hb1 hB le3 (PaperB.of (Rd.of_le le3.1) src1) paperTold fun p4 c4 g4 le4 _ hC => ?_; (repeat (first | (with_reducible first | apply gA | apply gB | apply gC | apply gD | apply gE | apply gF | apply gG | apply gH | apply gI | apply gJ | apply gK | apply gL | apply gM | apply gN | apply gO | apply gP | apply gQ | apply gR) | ((with_reducible first | apply gT | apply gS2); first | exact rfl | assumption | omega | exact ⟨⟩) | ((with_reducible first | apply gL0 | apply gL1 | apply gL2 | apply gL3 | apply gL4); assumption))); refine t_copy (h₀ := h) rfl rfl und23 und23 inf69 rfl (by omega) hb2 hC le4 (PaperB.of (Rd.of_le le4.1) src2) paperTold fun p5 c5 g5 le5 _ hD => ?_; (repeat (first | (with_reducible first | apply gA | apply gB | apply gC | apply gD | apply gE | apply gF | apply gG | apply gH | apply gI | apply gJ | apply gK | apply gL | apply gM | apply gN | apply gO | apply gP | apply gQ | apply gR) | ((with_reducible first | apply gT | apply gS2); first | exact rfl | assumption | omega | exact ⟨⟩) | ((with_reducible first | apply gL0 | apply gL1 | apply gL2 | apply gL3 | apply gL4); assumption))); exact t_again ⟨p5, _, c5, rfl, le5, hD⟩
      · refine t_sliceLow und23 inf69 hin ?_; (repeat (first | (with_reducible first | apply gA | apply gB | apply gC | apply gD | apply gE | apply gF | apply gG | apply gH | apply gI | apply gJ | apply gK | apply gL | apply gM | apply gN | apply gO | apply gP | apply gQ | apply gR) | ((with_reducible first | apply gT | apply gS2); first | exact rfl | assumption | omega | exact ⟨⟩) | ((with_reducible first | apply gL0 | apply gL1 | apply gL2 | apply gL3 | apply gL4); assumption)))
        refine t_both ?_ ?_
        · refine t_build0G (h₀ := h) (Enc := PaperEnc h.get) und23 inf69 (LH.le_refl _) fun r0 g3 hr0 le3 hB => ?_; (repeat (first | (with_reducible first | apply gA | apply gB | apply gC | apply gD | apply gE | apply gF | apply gG | apply gH | apply gI | apply gJ | apply gK | apply gL | apply gM | apply gN | apply gO | apply gP | apply gQ | apply gR) | ((with_reducible first | apply gT | apply gS2); first | exact rfl | assumption | omega | exact ⟨⟩) | ((with_reducible first | apply gL0 | apply gL1 | apply gL2 | apply gL3 | apply gL4); assumption))); refine t_sliceHigh und23 inf69 hic ?_; (repeat (first | (with_reducible first | apply gA | apply gB | apply gC | apply gD | apply gE | apply gF | apply gG | apply gH | apply gI | apply gJ | apply gK | apply gL | apply gM | apply gN | apply gO | apply gP | apply gQ | apply gR) | ((with_reducible first | apply gT | apply gS2); first | exact rfl | assumption | omega | exact ⟨⟩) | ((with_reducible first | apply gL0 | apply gL1 | apply gL2 | apply gL3 | apply gL4); assumption))); refine t_copy (h₀ := h) rfl rfl und23 und23 inf69 rfl (by omega) hb1 hB le3 (PaperB.of (Rd.of_le le3.1) src1) paperTold fun p4 c4 g4 le4 _ hC => ?_; (repeat (first | (with_reducible first | apply gA | apply gB | apply gC | apply gD | apply gE | apply gF | apply gG | apply gH | apply gI | apply gJ | apply gK | apply gL | apply gM | apply gN | apply gO | apply gP | apply gQ | apply gR) | ((with_reducible first | apply gT | apply gS2); first | exact rfl | assumption | omega | exact ⟨⟩) | ((with_reducible first | apply gL0 | apply gL1 | apply gL2 | apply gL3 | apply gL4); assumption))); refine t_copy (h₀ := h) rfl rfl und23 und23 inf69 rfl (by omega) hb2 hC le4 (PaperB.of (Rd.of_le le4.1) src2) paperTold fun p5 c5 g5 le5 _ hD => ?_; (repeat (first | (with_reducible first | apply gA | apply gB | apply gC | apply gD | apply gE | apply gF | apply gG | apply gH | apply gI | apply gJ | apply gK | apply gL | apply gM | apply gN | apply gO | apply gP | apply gQ | apply gR) | ((with_reducible first | apply gT | apply gS2); first | exact rfl | assumption | omega | exact ⟨⟩) | ((with_reducible first | apply gL0 | apply gL1 | apply gL2 | apply gL3 | apply gL4); assumption))); exact t_again ⟨p5, _, c5, rfl, le5, hD⟩
        · refine t_sliceHigh und23 inf69 hic ?_; (repeat (first | (with_reducible first | apply gA | apply gB | apply gC | apply gD | apply gE | apply gF | apply gG | apply gH | apply gI | apply gJ | apply gK | apply gL | apply gM | apply gN | apply gO | apply gP | apply gQ | apply gR) | ((with_reducible first | apply gT | apply gS2); first | exact rfl | assumption | omega | exact ⟨⟩) | ((with_reducible first | apply gL0 | apply gL1 | apply gL2 | apply gL3 | apply gL4); assumption))); refine t_build0G (h₀ := h) (Enc := PaperEnc h.get) und23 inf69 (LH.le_refl _) fun r0 g3 hr0 le3 hB => ?_; (repeat (first | (with_reducible first | apply gA | apply gB | apply gC | apply gD | apply gE | apply gF | apply gG | apply gH | apply gI | apply gJ | apply gK | apply gL | apply gM | apply gN | apply gO | apply gP | apply gQ | apply gR) | ((with_reducible first | apply gT | apply gS2); first | exact rfl | assumption | omega | exact ⟨⟩) | ((with_reducible first | apply gL0 | apply gL1 | apply gL2 | apply gL3 | apply gL4); assumption))); refine t_copy (h₀ := h) rfl rfl und23 und23 inf69 rfl (by omega) hb1 hB le3 (PaperB.of (Rd.of_le le3.1) src1) paperTold fun p4 c4 g4 le4 _ hC => ?_; (repeat (first | (with_reducible first | apply gA | apply gB | apply gC | apply gD | apply gE | apply gF | apply gG | apply gH | apply gI | apply gJ | apply gK | apply gL | apply gM | apply gN | apply gO | apply gP | apply gQ | apply gR) | ((with_reducible first | apply gT | apply gS2); first | exact rfl | assumption | omega | exact ⟨⟩) | ((with_reducible first | apply gL0 | apply gL1 | apply gL2 | apply gL3 | apply gL4); assumption))); refine t_copy (h₀ := h) rfl rfl und23 und23 inf69 rfl (by omega) hb2 hC le4 (PaperB.of (Rd.of_le le4.1) src2) paperTold fun p5 c5 g5 le5 _ hD => ?_; (repeat (first | (with_reducible first | apply gA | apply gB | apply gC | apply gD | apply gE | apply gF | apply gG | apply gH | apply gI | apply gJ | apply gK | apply gL | apply gM | apply gN | apply gO | apply gP | apply gQ | apply gR) | ((with_reducible first | apply gT | apply gS2); first | exact rfl | assumption | omega | exact ⟨⟩) | ((with_reducible first | apply gL0 | apply gL1 | apply gL2 | apply gL3 | apply gL4); assumption))); exact t_again ⟨p5, _, c5, rfl, le5, hD⟩
  rintro vs h1 ⟨p1, n1, c1, rfl, le1, g1⟩
  (repeat (first | (with_reducible first | apply gA | apply gB | apply gC | apply gD | apply gE | apply gF | apply gG | apply gH | apply gI | apply gJ | apply gK | apply gL | apply gM | apply gN | apply gO | apply gP | apply gQ | apply gR) | ((with_reducible first | apply gT | apply gS2); first | exact rfl | assumption | omega | exact ⟨⟩) | ((with_reducible first | apply gL0 | apply gL1 | apply gL2 | apply gL3 | apply gL4); assumption)))
  have hit := (sorted_len (paper_parts (check_paper hck x (List.mem_of_getElem? hx))).2.2)
  have hm := x6.1
  have hng1 := g1.count PaperEnc.len (by omega)
  have hml : m ≤ 6 := by
    by_cases h0 : x.items.length = 0
    · omega
    · have := hit (x.items.length - 1) (by omega)
      omega
  refine t_loop (fun mm vs h' => h.le h' ∧ ∃ (i : Nat) (p : Option Addr) (n' c : Nat), vs = [.int .i64 i, .int .i64 u.items, .int .i64 u.lands, .int .i64 u.from_, .int .i64 u.idle, .slice f.p4 f.n4 f.c4, .slice p n' c, .slice f.p6 f.n6 f.c6] ∧ i ≤ m ∧ mm = m - i ∧
      Growing (PaperEnc h.get) 68 4 h.get h'.get p n' c (u.papers.take n ++ u.papers.drop (n + 1) ++ (x.items.take i).map fun v => { x with items := [v] }))
    ⟨le1, 0, p1, n1, c1, rfl, Nat.zero_le _, rfl, by simpa using g1⟩ ?_
  rintro Y mm vs h₁ hY ⟨hle, i, p, n', c, rfl, hi, rfl, g⟩
  have hnn : 0 ≤ (n : Int) ∧ (n : Int) < (f.n5 : Int) := by omega
  have y1 := Cells.cell?_le hle.1 x1
  have y2 := Cells.cell?_le hle.1 x2
  have y3 := Cells.cell?_le hle.1 x3
  have y4 := Cells.cell?_le hle.1 x4
  have hng := g.count PaperEnc.len (by omega)
  have hlen : (u.papers.take n ++ u.papers.drop (n + 1) ++ (x.items.take i).map fun v => ({ x with items := [v] } : Paper)).length ≤ 20 := by
    simp only [List.length_append, List.length_take, List.length_drop, List.length_map]; omega
  (repeat (first | (with_reducible first | apply gA | apply gB | apply gC | apply gD | apply gE | apply gF | apply gG | apply gH | apply gI | apply gJ | apply gK | apply gL | apply gM | apply gN | apply gO | apply gP | apply gQ | apply gR) | ((with_reducible first | apply gT | apply gS2); first | exact rfl | assumption | omega | exact ⟨⟩) | ((with_reducible first | apply gL0 | apply gL1 | apply gL2 | apply gL3 | apply gL4); assumption)))
  refine t_if (fun e1 => ?_) (fun e1 => ?_)
  · obtain ⟨v, hv⟩ : ∃ v, x.items[i]? = some v := ⟨_, List.getElem?_eq_getElem (by omega)⟩
    have hone : Sl IntE 1 h.get (if cq = i then q else q.map (·.add (i * 1))) (i + 1 - i) [v] := by
      have s := slTake (x6.drop (c := cq) (i := i) x5) (i := i + 1 - i) (by omega)
      have e : (x.items.drop i).take (i + 1 - i) = [v] := by
        rw [drop_of hv, show i + 1 - i = 1 by omega]; rfl
      rw [e] at s
      exact s
    have hwi : IntKind.wrap .i64 ((i : Int) + 1) = ((i + 1 : Nat) : Int) := by rw [wrap_id (by omega) (by omega)]; rfl
    (repeat (first | (with_reducible first | apply gA | apply gB | apply gC | apply gD | apply gE | apply gF | apply gG | apply gH | apply gI | apply gJ | apply gK | apply gL | apply gM | apply gN | apply gO | apply gP | apply gQ | apply gR) | ((with_reducible first | apply gT | apply gS2); first | exact rfl | assumption | omega | exact ⟨⟩) | ((with_reducible first | apply gL0 | apply gL1 | apply gL2 | apply gL3 | apply gL4); assumption)))
    rw [hwi]
    refine t_sliceMid und50 inf3 (by omega) (by omega) ?_
    generalize hq' : (if cq = i then q else q.map (·.add (i * 1))) = q' at hone ⊢
    (repeat (first | (with_reducible first | apply gA | apply gB | apply gC | apply gD | apply gE | apply gF | apply gG | apply gH | apply gI | apply gJ | apply gK | apply gL | apply gM | apply gN | apply gO | apply gP | apply gQ | apply gR) | ((with_reducible first | apply gT | apply gS2); first | exact rfl | assumption | omega | exact ⟨⟩) | ((with_reducible first | apply gL0 | apply gL1 | apply gL2 | apply gL3 | apply gL4); assumption)))
    refine t_buildG und23 inf69 (by decide) (by decide) (cells := #[.int .i64 x.days.first, .int .i64 x.days.last, .int .i64 x.land, .slice q' (i + 1 - i) (cq - i)]) (by kernel_rfl) fun rp h₂ le2 _ ep => ?_
    have z1 := Cells.cell?_le le2.1 y1
    have z2 := Cells.cell?_le le2.1 y2
    have z3 := Cells.cell?_le le2.1 y3
    have z4 := Cells.cell?_le le2.1 y4
    (repeat (first | (with_reducible first | apply gA | apply gB | apply gC | apply gD | apply gE | apply gF | apply gG | apply gH | apply gI | apply gJ | apply gK | apply gL | apply gM | apply gN | apply gO | apply gP | apply gQ | apply gR) | ((with_reducible first | apply gT | apply gS2); first | exact rfl | assumption | omega | exact ⟨⟩) | ((with_reducible first | apply gL0 | apply gL1 | apply gL2 | apply gL3 | apply gL4); assumption)))
    have enc : PaperEnc h.get { x with items := [v] } [.int .i64 x.days.first, .int .i64 x.days.last, .int .i64 x.land, .slice q' (i + 1 - i) (cq - i)] := ⟨q', _, _, rfl, hone⟩
    refine copy_end1 (h := h) und23 inf69 rfl (by omega) (by omega) (g.le le2.1) (LH.le_trans hle le2) enc rfl (by intro w hw; simp at hw; rcases hw with rfl | rfl | rfl | rfl <;> rfl) ep (fun j w hj => by simpa using hj) fun p' c' h₃ le3 g' => ?_
    have w1 := Cells.cell?_le le3.1 x1
    have w2 := Cells.cell?_le le3.1 x2
    have w3 := Cells.cell?_le le3.1 x3
    have w4 := Cells.cell?_le le3.1 x4
    (repeat (first | (with_reducible first | apply gA | apply gB | apply gC | apply gD | apply gE | apply gF | apply gG | apply gH | apply gI | apply gJ | apply gK | apply gL | apply gM | apply gN | apply gO | apply gP | apply gQ | apply gR) | ((with_reducible first | apply gT | apply gS2); first | exact rfl | assumption | omega | exact ⟨⟩) | ((with_reducible first | apply gL0 | apply gL1 | apply gL2 | apply gL3 | apply gL4); assumption)))
    refine t_again (hY (m - (i + 1)) _ _ (by omega) ⟨le3, i + 1, p', n' + 1, c', rfl, by omega, rfl, ?_⟩)
    rw [List.take_add_one, hv, List.map_append, ← List.append_assoc]
    exact g'
  have him : i = m := by omega
  subst him
  have hfull : (u.papers.take n ++ u.papers.drop (n + 1) ++ (x.items.take i).map fun v => ({ x with items := [v] } : Paper)) = partsOf u n x := by
    rw [List.take_of_length_le (l := x.items) (i := i) (by omega)]; rfl
  rw [hfull] at g hng
  (repeat (first | (with_reducible first | apply gA | apply gB | apply gC | apply gD | apply gE | apply gF | apply gG | apply gH | apply gI | apply gJ | apply gK | apply gL | apply gM | apply gN | apply gO | apply gP | apply gQ | apply gR) | ((with_reducible first | apply gT | apply gS2); first | exact rfl | assumption | omega | exact ⟨⟩) | ((with_reducible first | apply gL0 | apply gL1 | apply gL2 | apply gL3 | apply gL4); assumption)))
  refine t_if (fun _ => t_shown hch hpe hp hle fun h' hh => t_ret ⟨rfl, hh⟩) (fun e => ?_)
  have co := check_parted hck hx (by omega)
  have vu := Valid.of hck
  have vo := Valid.of co
  have huo := hu.le hle.1
  have ho : FileR h₁.get { f with p5 := p, n5 := n', c5 := c } { u with papers := partsOf u n x } := ⟨huo.excuses, g.sl PaperEnc.len (by omega) (PaperEnc.e (Rd.of_le hle.1)) (by show (partsOf u n x).length < _; omega), huo.requests⟩
  refine t_gr (c43 (hp.le hle.1) ho huo co hck hk hk hday ⟨rfl, rfl, fun i e he _ => (parted hck hx k i).1.safe vu vo he, fun i => (parted hck hx k i).1.left vu vo rfl d⟩) ?_
  rintro _ h2 le2 rfl
  (repeat (first | (with_reducible first | apply gA | apply gB | apply gC | apply gD | apply gE | apply gF | apply gG | apply gH | apply gI | apply gJ | apply gK | apply gL | apply gM | apply gN | apply gO | apply gP | apply gQ | apply gR) | ((with_reducible first | apply gT | apply gS2); first | exact rfl | assumption | omega | exact ⟨⟩) | ((with_reducible first | apply gL0 | apply gL1 | apply gL2 | apply gL3 | apply gL4); assumption)))
  refine t_cond (fun _ => ?_) (fun e => absurd e (by simp))
  have le02 := LH.le_trans hle le2
  refine t_gr (c43 (hp.le le02.1) (huo.le le2.1) (ho.le le2.1) hck co hk hk hday ⟨rfl, rfl, fun i e he _ => (parted hck hx k i).2.safe vo vu he, fun i => (parted hck hx k i).2.left vo vu rfl d⟩) ?_
  rintro _ h3 le3 rfl
  (repeat (first | (with_reducible first | apply gA | apply gB | apply gC | apply gD | apply gE | apply gF | apply gG | apply gH | apply gI | apply gJ | apply gK | apply gL | apply gM | apply gN | apply gO | apply gP | apply gQ | apply gR) | ((with_reducible first | apply gT | apply gS2); first | exact rfl | assumption | omega | exact ⟨⟩) | ((with_reducible first | apply gL0 | apply gL1 | apply gL2 | apply gL3 | apply gL4); assumption)))
  refine t_cond (fun _ => ?_) (fun e => absurd e (by simp))
  exact t_shown hch hpe hp (LH.le_trans le02 le3) fun h' hh => t_ret ⟨rfl, hh⟩
end Go.Proofs.YtopkdkedjkidhaaDoor
end
section
namespace Go.Proofs.YtopkdkedjkidhaaDoor
open Go Go.TM Go.Proofs Go.ChangeShapes Go.WideShapes Go.RowKit
set_option maxRecDepth 100000
theorem useParts_lifted (os : Os) (started : os.Started) (H : Type) (enc : TypeId × Value → H) :
    ReturnsInLeavingWide {} Tryd.checked os 8 .any (fun w args => (Rows.usePartsSpec.pre enc Tryd.prog Tryd.f8 [] false w args ∧ laidMetH Tryd.prog Rows.useWindowsRow.laid w) ∧ sizedMet enc Tryd.prog Tryd.f8 (OpenSpec.ofChange Rows.usePartsSpec) false w args)
      (Rows.usePartsSpec.post enc Tryd.prog Tryd.f8 false true false false) := by
  refine row_leaving (C := Tryd.checked) (tb := 4) own started Tryd.func8 (by kernel_rfl) rfl lo ?_ (by kernel_rfl) Tryd.underlying4 ?_
    (ChangeSpec.witness_shaped (enc := enc) (C := Tryd.checked) (os := os) (X := fun w _ => laidMetH Tryd.prog Rows.useWindowsRow.laid w) false (World.doorLaid Tryd.prog 200 os) #[noFile, .int .u8 0, .int .u8 0, .int .u16 0] 8 rfl (door_shaped os _) (by kernel_rfl) (by kernel_rfl) (by kernel_rfl) (door_met os _)) ?_
  · exact fun t ht => of_decide_eq_true (List.all_eq_true.1 (show (Tryd.f8.params.toList.all fun t => decide (Tryd.prog.readableRec t = true ∧ t < Tryd.prog.types.size)) = true by kernel_rfl) t ht)
  · intro ds hd
    match ds, (show ds.length = 4 from hd) with
    | [d0, d1, d2, d3], _ => rfl
  · intro W base args ds ps hval0 hA0 hz0 hL
    have hval : ∀ (j : Nat) t v, Tryd.f8.params[j]? = some t → args[j]? = some v → Value.okWide Tryd.prog W .any base t v := hval0
    have hz : ∀ (j : Nat) t d, Tryd.f8.params.toList[j]? = some t → ds[j]? = some d → Light Tryd.prog t d := hz0
    have hA : DataW.TrodAll enc Tryd.prog W 0 (fun _ => true) true Tryd.f8.params.toList args.toList ds ps := hA0
    rw [Tryd.params8] at hval hz hA
    obtain ⟨v0, v1, v2, v3, d0, d1, d2, d3, q00, q01, q02, q03, rfl, rfl, rfl, h0, h1, h2, h3⟩ := trodAll_four hA
    obtain ⟨f0, u0, rfl, hu0, hr0⟩ := file_argR UT (hval 0 26 v0 rfl rfl) (hz 0 26 d0 rfl rfl) h0
    obtain ⟨x1, rfl, _, _, w1⟩ := open_int und5 (hval 1 5 v1 rfl rfl) h1
    obtain ⟨x2, rfl, _, _, w2⟩ := open_int und5 (hval 2 5 v2 rfl rfl) h2
    obtain ⟨x3, rfl, _, _, w3⟩ := open_int und57 (hval 3 57 v3 rfl rfl) h3
    exact FW.mono (c1008 (h := ⟨getW W, [], [], []⟩) rfl rfl (parts_of_laid hL) hu0 hr0 x1 (wf_u8 w1) x2 (wf_u8 w2) x3 (wf_u16 w3)) fun r h' hq => ⟨hq.1, hq.2.2.1⟩
theorem useParts_row : Rows.UsePartsSaid :=
  OpenClaim.holds_of_wide_leaving 8 Tryd.f8 rfl rfl rfl rfl rfl rfl rfl ⟨rfl, rfl, rfl, rfl, rfl⟩ rfl rfl rfl rfl rfl (by kernel_rfl) Tryd.func8 (by kernel_rfl)
    (of_decide_eq_true (by kernel_rfl)) (by unfold Func.isWrapper; first | (rw [if_pos (by decide +kernel)]; kernel_rfl) | (rw [if_neg (by decide +kernel)]; exact ⟨rfl, rfl⟩))
    (fun os started H enc _ => useParts_lifted os started H enc)
theorem useParts_holds : Rows.UsePartsCardSaid :=
  card_goes [.funcs] true Rows.usePartsCard.stood.harness false useParts_row (by kernel_rfl) useParts_row_tie rfl ⟨rfl, rfl⟩ (by kernel_rfl) rfl
    (fun f fn hf hfn => by
      obtain rfl : f = 8 := Option.some.inj ((show Tryd.prog.funcNamed Rows.usePartsRow.func = some 8 by kernel_rfl).symm.trans hf) |>.symm
      obtain rfl : fn = Tryd.f8 := (Option.some.inj (Tryd.func8.symm.trans hfn)).symm
      exact ⟨by kernel_rfl, fun j t ht => by
        have hm := Array.mem_of_getElem? ht
        have := of_decide_eq_true (List.all_eq_true.1 (show (Tryd.f8.params.toList.all fun t => decide (Tryd.prog.wantsStandIn t = false)) = true by kernel_rfl) t (Array.mem_toList_iff.2 hm))
        exact this⟩)
    (by kernel_rfl)
end Go.Proofs.YtopkdkedjkidhaaDoor
end
#print axioms Go.Proofs.YtopkdkedjkidhaaDoor.useParts_holds

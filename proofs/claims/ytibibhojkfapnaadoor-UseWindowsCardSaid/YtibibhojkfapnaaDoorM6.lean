/- For every file, land, item and day the law UseWindows returns true: Window, Safe and Weak agree with the specification. The tied card; no further condition. -/
import Derived.Test.YtibibhojkfapnaaDoorM5
set_option linter.all false
section
namespace Go.Proofs.YtibibhojkfapnaaDoor
open Go Go.TM Go.Proofs
theorem lack_grow : Grow LackE := fun _ _ _ _ hl h => ⟨hl _ _ h.1, hl _ _ h.2.1, hl _ _ h.2.2.1, hl _ _ h.2.2.2⟩
theorem ev1 : window exU 20 = ⟨16, 20⟩ := by decide +kernel
theorem ev2 : window exU 25 = ⟨18, 25⟩ := by decide +kernel
theorem ev3 : safe exU 0 1 16 = 1 := by decide +kernel
theorem ev4 : safe exU 0 1 18 = 0 := by decide +kernel
theorem ev5 : safe exU 0 1 19 = 2 := by decide +kernel
theorem ev6 : weak exU 0 1 = 17 := by decide +kernel
theorem ev7 : weak exU 1 2 = 15 := by decide +kernel
theorem ev8 : leftAll exU 0 25 = [1, 2, 0] := by decide +kernel
theorem ev9 : lacks exU 0 20 = [⟨1, 0, ⟨16, 20⟩⟩, ⟨2, 0, ⟨16, 20⟩⟩] := by decide +kernel
theorem ev10 : enoughB exU 0 25 [0, 2] (leftAll exU 0 25) = false := by decide +kernel
theorem ev11 : ∀ i, i < 16 → okF exU 0 25 i = true → (∀ j, j < 16 → okF exU 0 25 j = true → fewerF (subsetL 4 i) (subsetL 4 j) ≤ 0) → subsetL 4 i = [1] := by decide +kernel
theorem ev12 : okF exU 0 25 2 = true := by decide +kernel
theorem exWindow20 : windowR exU 20 = .tuple #[.agg #[.int .i64 16, .int .i64 20], .int .i64 0] := by rw [windowR, if_neg (by decide +kernel), ev1]
theorem exWindow25 : windowR exU 25 = .tuple #[.agg #[.int .i64 18, .int .i64 25], .int .i64 0] := by rw [windowR, if_neg (by decide +kernel), ev2]
theorem exSafe16 : safeR exU 0 1 16 = .tuple #[.int .i64 1, .int .i64 0] := by rw [safeR, if_neg (by decide +kernel), ev3]
theorem exSafe18 : safeR exU 0 1 18 = .tuple #[.int .i64 0, .int .i64 0] := by rw [safeR, if_neg (by decide +kernel), ev4]
theorem exSafe19 : safeR exU 0 1 19 = .tuple #[.int .i64 2, .int .i64 0] := by rw [safeR, if_neg (by decide +kernel), ev5]
theorem exWeak1 : weakR exU 0 1 = .tuple #[.int .i64 17, .int .i64 0] := by rw [weakR, if_neg (by decide +kernel), ev6]
theorem exWeak2 : weakR exU 1 2 = .tuple #[.int .i64 15, .int .i64 0] := by rw [weakR, if_neg (by decide +kernel), ev7]
theorem exEnough : enoughR exU 0 25 [0, 2] = .tuple #[.bool false, .int .i64 0] := by rw [enoughR, if_neg (by decide +kernel), ev10]
theorem exOpen25 : openF exU [landQ exU 0, dayQ 25] = 0 := by decide +kernel
theorem exOpen20 : openF exU [landQ exU 0, dayQ 20] = 0 := by decide +kernel
attribute [local irreducible] T.wp CV FWK
set_option maxRecDepth 100000 in
theorem c16 {h : LH} (hch : h.chans = []) (hpe : h.pend = []) (hp : Parts h.get) : FW XT Tryd.prog 16 #[] h fun r h' => r = .bool true ∧ Rd h.get h'.get ∧ h'.chans = [] ∧ h'.pend = [] ∧ h'.todo = h.todo := by
  refine w16 XT_ok ?_
  unfold n16
  refine t_gr c52 ?_
  rintro _ h1 le1 ⟨f, rfl, hu⟩
  have hp := hp.le le1.1
  (repeat (first | (with_reducible first | apply gA | apply gB | apply gC | apply gD | apply gE | apply gF | apply gG | apply gH | apply gI | apply gJ | apply gK | apply gL | apply gM | apply gN | apply gO | apply gP | apply gQ | apply gR) | ((with_reducible apply gT); first | exact rfl | exact True.intro | omega | assumption) | ((with_reducible apply gS2); first | assumption | rfl) | ((with_reducible first | apply gL0 | apply gL1 | apply gL2 | apply gL3 | apply gL4); assumption)))
  refine t_gr (c17 hp hu 20) ?_
  rintro _ h2 le2 rfl
  rw [exWindow20]
  (repeat (first | (with_reducible first | apply gA | apply gB | apply gC | apply gD | apply gE | apply gF | apply gG | apply gH | apply gI | apply gJ | apply gK | apply gL | apply gM | apply gN | apply gO | apply gP | apply gQ | apply gR) | ((with_reducible apply gT); first | exact rfl | exact True.intro | omega | assumption) | ((with_reducible apply gS2); first | assumption | rfl) | ((with_reducible first | apply gL0 | apply gL1 | apply gL2 | apply gL3 | apply gL4); assumption)))
  have hp := hp.le le2.1
  have hu := hu.le le2.1
  refine t_gr (c17 hp hu 25) ?_
  rintro _ h3 le3 rfl
  rw [exWindow25]
  (repeat (first | (with_reducible first | apply gA | apply gB | apply gC | apply gD | apply gE | apply gF | apply gG | apply gH | apply gI | apply gJ | apply gK | apply gL | apply gM | apply gN | apply gO | apply gP | apply gQ | apply gR) | ((with_reducible apply gT); first | exact rfl | exact True.intro | omega | assumption) | ((with_reducible apply gS2); first | assumption | rfl) | ((with_reducible first | apply gL0 | apply gL1 | apply gL2 | apply gL3 | apply gL4); assumption)))
  have hp := hp.le le3.1
  have hu := hu.le le3.1
  refine t_gr (c19 hp hu 0 1 16) ?_
  rintro _ h4 le4 rfl
  rw [exSafe16]
  (repeat (first | (with_reducible first | apply gA | apply gB | apply gC | apply gD | apply gE | apply gF | apply gG | apply gH | apply gI | apply gJ | apply gK | apply gL | apply gM | apply gN | apply gO | apply gP | apply gQ | apply gR) | ((with_reducible apply gT); first | exact rfl | exact True.intro | omega | assumption) | ((with_reducible apply gS2); first | assumption | rfl) | ((with_reducible first | apply gL0 | apply gL1 | apply gL2 | apply gL3 | apply gL4); assumption)))
  have hp := hp.le le4.1
  have hu := hu.le le4.1
  refine t_gr (c19 hp hu 0 1 18) ?_
  rintro _ h5 le5 rfl
  rw [exSafe18]
  (repeat (first | (with_reducible first | apply gA | apply gB | apply gC | apply gD | apply gE | apply gF | apply gG | apply gH | apply gI | apply gJ | apply gK | apply gL | apply gM | apply gN | apply gO | apply gP | apply gQ | apply gR) | ((with_reducible apply gT); first | exact rfl | exact True.intro | omega | assumption) | ((with_reducible apply gS2); first | assumption | rfl) | ((with_reducible first | apply gL0 | apply gL1 | apply gL2 | apply gL3 | apply gL4); assumption)))
  have hp := hp.le le5.1
  have hu := hu.le le5.1
  refine t_gr (c19 hp hu 0 1 19) ?_
  rintro _ h6 le6 rfl
  rw [exSafe19]
  (repeat (first | (with_reducible first | apply gA | apply gB | apply gC | apply gD | apply gE | apply gF | apply gG | apply gH | apply gI | apply gJ | apply gK | apply gL | apply gM | apply gN | apply gO | apply gP | apply gQ | apply gR) | ((with_reducible apply gT); first | exact rfl | exact True.intro | omega | assumption) | ((with_reducible apply gS2); first | assumption | rfl) | ((with_reducible first | apply gL0 | apply gL1 | apply gL2 | apply gL3 | apply gL4); assumption)))
  have hp := hp.le le6.1
  have hu := hu.le le6.1
  refine t_gr (c21 hp hu 0 1) ?_
  rintro _ h7 le7 rfl
  rw [exWeak1]
  (repeat (first | (with_reducible first | apply gA | apply gB | apply gC | apply gD | apply gE | apply gF | apply gG | apply gH | apply gI | apply gJ | apply gK | apply gL | apply gM | apply gN | apply gO | apply gP | apply gQ | apply gR) | ((with_reducible apply gT); first | exact rfl | exact True.intro | omega | assumption) | ((with_reducible apply gS2); first | assumption | rfl) | ((with_reducible first | apply gL0 | apply gL1 | apply gL2 | apply gL3 | apply gL4); assumption)))
  have hp := hp.le le7.1
  have hu := hu.le le7.1
  refine t_gr (c21 hp hu 1 2) ?_
  rintro _ h8 le8 rfl
  rw [exWeak2]
  (repeat (first | (with_reducible first | apply gA | apply gB | apply gC | apply gD | apply gE | apply gF | apply gG | apply gH | apply gI | apply gJ | apply gK | apply gL | apply gM | apply gN | apply gO | apply gP | apply gQ | apply gR) | ((with_reducible apply gT); first | exact rfl | exact True.intro | omega | assumption) | ((with_reducible apply gS2); first | assumption | rfl) | ((with_reducible first | apply gL0 | apply gL1 | apply gL2 | apply gL3 | apply gL4); assumption)))
  have hp := hp.le le8.1
  have hu := hu.le le8.1
  refine t_gr (c23 hp hu 0 25) ?_
  rintro _ h9 le9 (⟨hne, _⟩ | ⟨_, lp, ln, lc, rfl, hl⟩)
  · exact absurd exOpen25 hne
  rw [ev8] at hl
  (repeat (first | (with_reducible first | apply gA | apply gB | apply gC | apply gD | apply gE | apply gF | apply gG | apply gH | apply gI | apply gJ | apply gK | apply gL | apply gM | apply gN | apply gO | apply gP | apply gQ | apply gR) | ((with_reducible apply gT); first | exact rfl | exact True.intro | omega | assumption) | ((with_reducible apply gS2); first | assumption | rfl) | ((with_reducible first | apply gL0 | apply gL1 | apply gL2 | apply gL3 | apply gL4); assumption)))
  have hp := hp.le le9.1
  have hu := hu.le le9.1
  refine t_gr (c28 hp hu 0 20) ?_
  rintro _ h10 le10 (⟨hne, _⟩ | ⟨_, kp, kn, kc, rfl, hk⟩)
  · exact absurd exOpen20 hne
  rw [ev9] at hk
  (repeat (first | (with_reducible first | apply gA | apply gB | apply gC | apply gD | apply gE | apply gF | apply gG | apply gH | apply gI | apply gJ | apply gK | apply gL | apply gM | apply gN | apply gO | apply gP | apply gQ | apply gR) | ((with_reducible apply gT); first | exact rfl | exact True.intro | omega | assumption) | ((with_reducible apply gS2); first | assumption | rfl) | ((with_reducible first | apply gL0 | apply gL1 | apply gL2 | apply gL3 | apply gL4); assumption)))
  have hp := hp.le le10.1
  have hu := hu.le le10.1
  have hl := hl.le IntE.grow le10.1
  have le := LH.le_trans (LH.le_trans (LH.le_trans (LH.le_trans (LH.le_trans (LH.le_trans (LH.le_trans (LH.le_trans (LH.le_trans le1 le2) le3) le4) le5) le6) le7) le8) le9) le10
  refine t_call (c33 (by rw [le.2.1, hch]) (by rw [le.2.2.1, hpe]) hp hu 0 25) ?_
  rintro _ h11 ⟨rd11, ch11, pe11, td11, ⟨hne, _⟩ | ⟨_, pp, pn, pc, rfl, hb⟩⟩
  · exact absurd exOpen25 hne
  have hpk : Sl IntE 1 h11.get pp pn [1] := by
    rcases hb with ⟨_, _, hno⟩ | ⟨i, a, rfl, hi, hok, hs, hmin⟩
    · have := hno 2 (by decide) (by simp)
      rw [ev12] at this; cases this
    · have e := ev11 i hi hok fun j hj hj2 => hmin j hj (by simp) hj2
      rw [← e]; exact hs
  (repeat (first | (with_reducible first | apply gA | apply gB | apply gC | apply gD | apply gE | apply gF | apply gG | apply gH | apply gI | apply gJ | apply gK | apply gL | apply gM | apply gN | apply gO | apply gP | apply gQ | apply gR) | ((with_reducible apply gT); first | exact rfl | exact True.intro | omega | assumption) | ((with_reducible apply gS2); first | assumption | rfl) | ((with_reducible first | apply gL0 | apply gL1 | apply gL2 | apply gL3 | apply gL4); assumption)))
  have hp := hp.rd rd11
  have hu := hu.rd rd11
  have hl := hl.rd IntE.grow rd11
  have hk := hk.rd lack_grow rd11
  refine t_buildG und50 inf3 (by decide) (by decide) (cells := #[.int .i64 0, .int .i64 2]) (by kernel_rfl) fun r12 h12 le12 _ e12 => ?_
  (repeat (first | (with_reducible first | apply gA | apply gB | apply gC | apply gD | apply gE | apply gF | apply gG | apply gH | apply gI | apply gJ | apply gK | apply gL | apply gM | apply gN | apply gO | apply gP | apply gQ | apply gR) | ((with_reducible apply gT); first | exact rfl | exact True.intro | omega | assumption) | ((with_reducible apply gS2); first | assumption | rfl) | ((with_reducible first | apply gL0 | apply gL1 | apply gL2 | apply gL3 | apply gL4); assumption)))
  have hp := hp.le le12.1
  have hu := hu.le le12.1
  refine t_gr (c31 hp hu 0 25 (pl := [0, 2]) (sl_ints (l := [0, 2]) rfl e12 (by show (2 : Nat) < _; omega))) ?_
  rintro _ h13 le13 rfl
  rw [exEnough]
  (repeat (first | (with_reducible first | apply gA | apply gB | apply gC | apply gD | apply gE | apply gF | apply gG | apply gH | apply gI | apply gJ | apply gK | apply gL | apply gM | apply gN | apply gO | apply gP | apply gQ | apply gR) | ((with_reducible apply gT); first | exact rfl | exact True.intro | omega | assumption) | ((with_reducible apply gS2); first | assumption | rfl) | ((with_reducible first | apply gL0 | apply gL1 | apply gL2 | apply gL3 | apply gL4); assumption)))
  have le1113 := LH.le_trans le12 le13
  have hl := hl.le IntE.grow le1113.1
  have hk := hk.le lack_grow le1113.1
  have hpk := hpk.le IntE.grow le1113.1
  refine t_blk (fun vs h' => vs = [.bool false] ∧ h13 = h') ?_ ?_
  · iterate 11 refine t_cond (fun e => absurd e (by decide)) (fun _ => ?_)
    exact t_again ⟨rfl, rfl⟩
  rintro vs _ ⟨rfl, rfl⟩
  (repeat (first | (with_reducible first | apply gA | apply gB | apply gC | apply gD | apply gE | apply gF | apply gG | apply gH | apply gI | apply gJ | apply gK | apply gL | apply gM | apply gN | apply gO | apply gP | apply gQ | apply gR) | ((with_reducible apply gT); first | exact rfl | exact True.intro | omega | assumption) | ((with_reducible apply gS2); first | assumption | rfl) | ((with_reducible first | apply gL0 | apply gL1 | apply gL2 | apply gL3 | apply gL4); assumption)))
  refine t_blk (fun vs h' => vs = [.bool false] ∧ h13.le h') ?_ ?_
  · refine t_pu (c42 _ _) ?_
    (repeat (first | (with_reducible first | apply gA | apply gB | apply gC | apply gD | apply gE | apply gF | apply gG | apply gH | apply gI | apply gJ | apply gK | apply gL | apply gM | apply gN | apply gO | apply gP | apply gQ | apply gR) | ((with_reducible apply gT); first | exact rfl | exact True.intro | omega | assumption) | ((with_reducible apply gS2); first | assumption | rfl) | ((with_reducible first | apply gL0 | apply gL1 | apply gL2 | apply gL3 | apply gL4); assumption)))
    refine t_ne2 two30 g30 ?_
    (repeat (first | (with_reducible first | apply gA | apply gB | apply gC | apply gD | apply gE | apply gF | apply gG | apply gH | apply gI | apply gJ | apply gK | apply gL | apply gM | apply gN | apply gO | apply gP | apply gQ | apply gR) | ((with_reducible apply gT); first | exact rfl | exact True.intro | omega | assumption) | ((with_reducible apply gS2); first | assumption | rfl) | ((with_reducible first | apply gL0 | apply gL1 | apply gL2 | apply gL3 | apply gL4); assumption)))
    refine t_cond (fun e => absurd e (by decide)) (fun _ => ?_)
    refine t_pu (c42 _ _) ?_
    (repeat (first | (with_reducible first | apply gA | apply gB | apply gC | apply gD | apply gE | apply gF | apply gG | apply gH | apply gI | apply gJ | apply gK | apply gL | apply gM | apply gN | apply gO | apply gP | apply gQ | apply gR) | ((with_reducible apply gT); first | exact rfl | exact True.intro | omega | assumption) | ((with_reducible apply gS2); first | assumption | rfl) | ((with_reducible first | apply gL0 | apply gL1 | apply gL2 | apply gL3 | apply gL4); assumption)))
    refine t_ne2 two30 g30 ?_
    (repeat (first | (with_reducible first | apply gA | apply gB | apply gC | apply gD | apply gE | apply gF | apply gG | apply gH | apply gI | apply gJ | apply gK | apply gL | apply gM | apply gN | apply gO | apply gP | apply gQ | apply gR) | ((with_reducible apply gT); first | exact rfl | exact True.intro | omega | assumption) | ((with_reducible apply gS2); first | assumption | rfl) | ((with_reducible first | apply gL0 | apply gL1 | apply gL2 | apply gL3 | apply gL4); assumption)))
    refine t_cond (fun e => absurd e (by decide)) (fun _ => ?_)
    (repeat (first | (with_reducible first | apply gA | apply gB | apply gC | apply gD | apply gE | apply gF | apply gG | apply gH | apply gI | apply gJ | apply gK | apply gL | apply gM | apply gN | apply gO | apply gP | apply gQ | apply gR) | ((with_reducible apply gT); first | exact rfl | exact True.intro | omega | assumption) | ((with_reducible apply gS2); first | assumption | rfl) | ((with_reducible first | apply gL0 | apply gL1 | apply gL2 | apply gL3 | apply gL4); assumption)))
    refine t_cond (fun e => absurd e (by decide)) (fun _ => ?_)
    (repeat (first | (with_reducible first | apply gA | apply gB | apply gC | apply gD | apply gE | apply gF | apply gG | apply gH | apply gI | apply gJ | apply gK | apply gL | apply gM | apply gN | apply gO | apply gP | apply gQ | apply gR) | ((with_reducible apply gT); first | exact rfl | exact True.intro | omega | assumption) | ((with_reducible apply gS2); first | assumption | rfl) | ((with_reducible first | apply gL0 | apply gL1 | apply gL2 | apply gL3 | apply gL4); assumption)))
    refine t_cond (fun e => absurd e (by decide)) (fun _ => ?_)
    (repeat (first | (with_reducible first | apply gA | apply gB | apply gC | apply gD | apply gE | apply gF | apply gG | apply gH | apply gI | apply gJ | apply gK | apply gL | apply gM | apply gN | apply gO | apply gP | apply gQ | apply gR) | ((with_reducible apply gT); first | exact rfl | exact True.intro | omega | assumption) | ((with_reducible apply gS2); first | assumption | rfl) | ((with_reducible first | apply gL0 | apply gL1 | apply gL2 | apply gL3 | apply gL4); assumption)))
    refine t_cond (fun e => absurd e (by decide)) (fun _ => ?_)
    (repeat (first | (with_reducible first | apply gA | apply gB | apply gC | apply gD | apply gE | apply gF | apply gG | apply gH | apply gI | apply gJ | apply gK | apply gL | apply gM | apply gN | apply gO | apply gP | apply gQ | apply gR) | ((with_reducible apply gT); first | exact rfl | exact True.intro | omega | assumption) | ((with_reducible apply gS2); first | assumption | rfl) | ((with_reducible first | apply gL0 | apply gL1 | apply gL2 | apply gL3 | apply gL4); assumption)))
    refine t_cond (fun e => absurd e (by decide)) (fun _ => ?_)
    (repeat (first | (with_reducible first | apply gA | apply gB | apply gC | apply gD | apply gE | apply gF | apply gG | apply gH | apply gI | apply gJ | apply gK | apply gL | apply gM | apply gN | apply gO | apply gP | apply gQ | apply gR) | ((with_reducible apply gT); first | exact rfl | exact True.intro | omega | assumption) | ((with_reducible apply gS2); first | assumption | rfl) | ((with_reducible first | apply gL0 | apply gL1 | apply gL2 | apply gL3 | apply gL4); assumption)))
    refine t_cond (fun e => absurd e (by decide)) (fun _ => ?_)
    (repeat (first | (with_reducible first | apply gA | apply gB | apply gC | apply gD | apply gE | apply gF | apply gG | apply gH | apply gI | apply gJ | apply gK | apply gL | apply gM | apply gN | apply gO | apply gP | apply gQ | apply gR) | ((with_reducible apply gT); first | exact rfl | exact True.intro | omega | assumption) | ((with_reducible apply gS2); first | assumption | rfl) | ((with_reducible first | apply gL0 | apply gL1 | apply gL2 | apply gL3 | apply gL4); assumption)))
    refine t_cond (fun e => absurd e (by decide)) (fun _ => ?_)
    (repeat (first | (with_reducible first | apply gA | apply gB | apply gC | apply gD | apply gE | apply gF | apply gG | apply gH | apply gI | apply gJ | apply gK | apply gL | apply gM | apply gN | apply gO | apply gP | apply gQ | apply gR) | ((with_reducible apply gT); first | exact rfl | exact True.intro | omega | assumption) | ((with_reducible apply gS2); first | assumption | rfl) | ((with_reducible first | apply gL0 | apply gL1 | apply gL2 | apply gL3 | apply gL4); assumption)))
    refine t_buildG und50 inf3 (by decide) (by decide) (cells := #[.int .i64 1]) (by kernel_rfl) fun r14 h14 le14 _ e14 => ?_
    (repeat (first | (with_reducible first | apply gA | apply gB | apply gC | apply gD | apply gE | apply gF | apply gG | apply gH | apply gI | apply gJ | apply gK | apply gL | apply gM | apply gN | apply gO | apply gP | apply gQ | apply gR) | ((with_reducible apply gT); first | exact rfl | exact True.intro | omega | assumption) | ((with_reducible apply gS2); first | assumption | rfl) | ((with_reducible first | apply gL0 | apply gL1 | apply gL2 | apply gL3 | apply gL4); assumption)))
    refine t_pu (c35 (hpk.le IntE.grow le14.1) (sl_ints (l := [1]) rfl e14 (by show (1 : Nat) < _; omega))) ?_
    (repeat (first | (with_reducible first | apply gA | apply gB | apply gC | apply gD | apply gE | apply gF | apply gG | apply gH | apply gI | apply gJ | apply gK | apply gL | apply gM | apply gN | apply gO | apply gP | apply gQ | apply gR) | ((with_reducible apply gT); first | exact rfl | exact True.intro | omega | assumption) | ((with_reducible apply gS2); first | assumption | rfl) | ((with_reducible first | apply gL0 | apply gL1 | apply gL2 | apply gL3 | apply gL4); assumption)))
    refine t_cond (fun e => absurd e (by decide)) (fun _ => ?_)
    exact t_again ⟨rfl, le14⟩
  rintro vs h15 ⟨rfl, le15⟩
  have hl := hl.le IntE.grow le15.1
  have hk := hk.le lack_grow le15.1
  (repeat (first | (with_reducible first | apply gA | apply gB | apply gC | apply gD | apply gE | apply gF | apply gG | apply gH | apply gI | apply gJ | apply gK | apply gL | apply gM | apply gN | apply gO | apply gP | apply gQ | apply gR) | ((with_reducible apply gT); first | exact rfl | exact True.intro | omega | assumption) | ((with_reducible apply gS2); first | assumption | rfl) | ((with_reducible first | apply gL0 | apply gL1 | apply gL2 | apply gL3 | apply gL4); assumption)))
  refine t_buildG und40 inf34 (by decide) (by decide) (cells := #[.int .i64 1, .int .i64 2, .int .i64 0]) (by kernel_rfl) fun r16 h16 le16 _ e16 => ?_
  (repeat (first | (with_reducible first | apply gA | apply gB | apply gC | apply gD | apply gE | apply gF | apply gG | apply gH | apply gI | apply gJ | apply gK | apply gL | apply gM | apply gN | apply gO | apply gP | apply gQ | apply gR) | ((with_reducible apply gT); first | exact rfl | exact True.intro | omega | assumption) | ((with_reducible apply gS2); first | assumption | rfl) | ((with_reducible first | apply gL0 | apply gL1 | apply gL2 | apply gL3 | apply gL4); assumption)))
  refine t_pu (c25 (hl.le IntE.grow le16.1) (sl_ints (l := [1, 2, 0]) rfl e16 (by show (3 : Nat) < _; omega))) ?_
  (repeat (first | (with_reducible first | apply gA | apply gB | apply gC | apply gD | apply gE | apply gF | apply gG | apply gH | apply gI | apply gJ | apply gK | apply gL | apply gM | apply gN | apply gO | apply gP | apply gQ | apply gR) | ((with_reducible apply gT); first | exact rfl | exact True.intro | omega | assumption) | ((with_reducible apply gS2); first | assumption | rfl) | ((with_reducible first | apply gL0 | apply gL1 | apply gL2 | apply gL3 | apply gL4); assumption)))
  refine t_cond (fun _ => ?_) (fun e => absurd e (by decide))
  (repeat (first | (with_reducible first | apply gA | apply gB | apply gC | apply gD | apply gE | apply gF | apply gG | apply gH | apply gI | apply gJ | apply gK | apply gL | apply gM | apply gN | apply gO | apply gP | apply gQ | apply gR) | ((with_reducible apply gT); first | exact rfl | exact True.intro | omega | assumption) | ((with_reducible apply gS2); first | assumption | rfl) | ((with_reducible first | apply gL0 | apply gL1 | apply gL2 | apply gL3 | apply gL4); assumption)))
  refine t_pu (c42 _ _) ?_
  (repeat (first | (with_reducible first | apply gA | apply gB | apply gC | apply gD | apply gE | apply gF | apply gG | apply gH | apply gI | apply gJ | apply gK | apply gL | apply gM | apply gN | apply gO | apply gP | apply gQ | apply gR) | ((with_reducible apply gT); first | exact rfl | exact True.intro | omega | assumption) | ((with_reducible apply gS2); first | assumption | rfl) | ((with_reducible first | apply gL0 | apply gL1 | apply gL2 | apply gL3 | apply gL4); assumption)))
  refine t_pu (c42 _ _) ?_
  (repeat (first | (with_reducible first | apply gA | apply gB | apply gC | apply gD | apply gE | apply gF | apply gG | apply gH | apply gI | apply gJ | apply gK | apply gL | apply gM | apply gN | apply gO | apply gP | apply gQ | apply gR) | ((with_reducible apply gT); first | exact rfl | exact True.intro | omega | assumption) | ((with_reducible apply gS2); first | assumption | rfl) | ((with_reducible first | apply gL0 | apply gL1 | apply gL2 | apply gL3 | apply gL4); assumption)))
  refine t_buildG und45 inf79 (by decide) (by decide) (cells := #[.int .i64 1, .int .i64 0, .int .i64 16, .int .i64 20, .int .i64 2, .int .i64 0, .int .i64 16, .int .i64 20]) (by kernel_rfl) fun r17 h17 le17 _ e17 => ?_
  (repeat (first | (with_reducible first | apply gA | apply gB | apply gC | apply gD | apply gE | apply gF | apply gG | apply gH | apply gI | apply gJ | apply gK | apply gL | apply gM | apply gN | apply gO | apply gP | apply gQ | apply gR) | ((with_reducible apply gT); first | exact rfl | exact True.intro | omega | assumption) | ((with_reducible apply gS2); first | assumption | rfl) | ((with_reducible first | apply gL0 | apply gL1 | apply gL2 | apply gL3 | apply gL4); assumption)))
  have le1617 := LH.le_trans le16 le17
  refine t_pu (c30 (hk.le lack_grow le1617.1) (b := [⟨1, 0, ⟨16, 20⟩⟩, ⟨2, 0, ⟨16, 20⟩⟩]) ?_) ?_
  · refine ⟨rfl, by show (2 : Nat) < _; omega, ?_⟩
    have cr : ∀ {i j : Nat} {v : Value}, (#[.int .i64 1, .int .i64 0, .int .i64 16, .int .i64 20, .int .i64 2, .int .i64 0, .int .i64 16, .int .i64 20] : Array Value)[i + j]? = some v → h17.get.cell? (Addr.add (Addr.add ⟨r17, 0, none⟩ i) j) = some v := by
      intro i j v hv
      rw [add_plain, add_plain, Nat.zero_add]; exact cell_row e17 hv
    intro i x hx
    match i, hx with
    | 0, hx => cases hx; exact ⟨_, rfl, cr rfl, cr rfl, cr rfl, cr rfl⟩
    | 1, hx => cases hx; exact ⟨_, rfl, cr rfl, cr rfl, cr rfl, cr rfl⟩
    | i + 2, hx => simp at hx
  (repeat (first | (with_reducible first | apply gA | apply gB | apply gC | apply gD | apply gE | apply gF | apply gG | apply gH | apply gI | apply gJ | apply gK | apply gL | apply gM | apply gN | apply gO | apply gP | apply gQ | apply gR) | ((with_reducible apply gT); first | exact rfl | exact True.intro | omega | assumption) | ((with_reducible apply gS2); first | assumption | rfl) | ((with_reducible first | apply gL0 | apply gL1 | apply gL2 | apply gL3 | apply gL4); assumption)))
  have leZ := LH.le_trans (LH.le_trans le1113 le15) le1617
  refine t_ret ⟨by simp, (Rd.of_le le.1).trans (rd11.trans (Rd.of_le leZ.1)), by rw [leZ.2.1, ch11], by rw [leZ.2.2.1, pe11], by rw [leZ.2.2.2, td11, le.2.2.2]⟩
end Go.Proofs.YtibibhojkfapnaaDoor
end
section
namespace Go.Proofs.YtibibhojkfapnaaDoor
open Go Go.TM Go.Proofs
attribute [local irreducible] T.wp CV FWK
theorem c3 {h : LH} (hch : h.chans = []) (hpe : h.pend = []) (hp : Parts h.get) {f : FileC} {u : UseFile} (hu : FileR h.get f u) (land item day : Int) : FW XT Tryd.prog 3 #[fileV f u, .int .i64 land, .int .i64 item, .int .i64 day] h fun r h' => r = .bool true ∧ h'.chans = [] ∧ h'.pend = [] ∧ h'.todo = h.todo := by
  refine w3 _ _ _ _ _ _ _ _ _ _ _ _ _ _ _ _ XT_ok ?_
  unfold n3
  refine t_call (FW.top (c15 hu)) ?_
  rintro _ _ ⟨rfl, b, rfl, hb⟩
  (repeat (first | (with_reducible first | apply gA | apply gB | apply gC | apply gD | apply gE | apply gF | apply gG | apply gH | apply gI | apply gJ | apply gK | apply gL | apply gM | apply gN | apply gO | apply gP | apply gQ | apply gR) | ((with_reducible apply gT); first | exact rfl | exact True.intro | omega | assumption) | ((with_reducible apply gS2); first | assumption | rfl) | ((with_reducible first | apply gL0 | apply gL1 | apply gL2 | apply gL3 | apply gL4); assumption)))
  have fin : ∀ h' : LH, h.le h' → FW XT Tryd.prog 16 #[] h' fun r h'' => r = .bool true ∧ h''.chans = [] ∧ h''.pend = [] ∧ h''.todo = h.todo := by
    intro h' hle
    refine FW.mono (c16 (by rw [hle.2.1, hch]) (by rw [hle.2.2.1, hpe]) (hp.le hle.1)) ?_
    rintro v h'' ⟨h1, _, h2, h3, h4⟩
    exact ⟨h1, h2, h3, by rw [h4, hle.2.2.2]⟩
  refine t_cond (fun _ => ?_) (fun hbf => ?_)
  · refine t_call (fin h (LH.le_refl _)) ?_
    rintro _ h' ⟨rfl, h2, h3, h4⟩
    (repeat (first | (with_reducible first | apply gA | apply gB | apply gC | apply gD | apply gE | apply gF | apply gG | apply gH | apply gI | apply gJ | apply gK | apply gL | apply gM | apply gN | apply gO | apply gP | apply gQ | apply gR) | ((with_reducible apply gT); first | exact rfl | exact True.intro | omega | assumption) | ((with_reducible apply gS2); first | assumption | rfl) | ((with_reducible first | apply gL0 | apply gL1 | apply gL2 | apply gL3 | apply gL4); assumption)))
    exact t_ret ⟨rfl, h2, h3, h4⟩
  refine t_gr (c17 hp hu day) ?_
  rintro _ h1 le1 rfl
  obtain ⟨a, b', g, hw⟩ : ∃ a b g, windowR u day = .tuple #[.agg #[.int .i64 a, .int .i64 b], .int .i64 g] := by
    unfold windowR; split
    · exact ⟨_, _, _, rfl⟩
    · exact ⟨_, _, _, rfl⟩
  rw [hw]
  (repeat (first | (with_reducible first | apply gA | apply gB | apply gC | apply gD | apply gE | apply gF | apply gG | apply gH | apply gI | apply gJ | apply gK | apply gL | apply gM | apply gN | apply gO | apply gP | apply gQ | apply gR) | ((with_reducible apply gT); first | exact rfl | exact True.intro | omega | assumption) | ((with_reducible apply gS2); first | assumption | rfl) | ((with_reducible first | apply gL0 | apply gL1 | apply gL2 | apply gL3 | apply gL4); assumption)))
  have hp := hp.le le1.1
  have hu := hu.le le1.1
  refine t_pu (c18 hu day) ?_
  rw [hw]
  (repeat (first | (with_reducible first | apply gA | apply gB | apply gC | apply gD | apply gE | apply gF | apply gG | apply gH | apply gI | apply gJ | apply gK | apply gL | apply gM | apply gN | apply gO | apply gP | apply gQ | apply gR) | ((with_reducible apply gT); first | exact rfl | exact True.intro | omega | assumption) | ((with_reducible apply gS2); first | assumption | rfl) | ((with_reducible first | apply gL0 | apply gL1 | apply gL2 | apply gL3 | apply gL4); assumption)))
  refine t_blk (fun vs h' => vs = [.bool false] ∧ h1 = h') ?_ ?_
  · refine t_ne2 two30 g30 ?_
    (repeat (first | (with_reducible first | apply gA | apply gB | apply gC | apply gD | apply gE | apply gF | apply gG | apply gH | apply gI | apply gJ | apply gK | apply gL | apply gM | apply gN | apply gO | apply gP | apply gQ | apply gR) | ((with_reducible apply gT); first | exact rfl | exact True.intro | omega | assumption) | ((with_reducible apply gS2); first | assumption | rfl) | ((with_reducible first | apply gL0 | apply gL1 | apply gL2 | apply gL3 | apply gL4); assumption)))
    refine t_cond (fun e => absurd e (by simp)) (fun _ => ?_)
    refine t_cond (fun e => absurd e (by simp)) (fun _ => ?_)
    exact t_again ⟨rfl, rfl⟩
  rintro vs _ ⟨rfl, rfl⟩
  (repeat (first | (with_reducible first | apply gA | apply gB | apply gC | apply gD | apply gE | apply gF | apply gG | apply gH | apply gI | apply gJ | apply gK | apply gL | apply gM | apply gN | apply gO | apply gP | apply gQ | apply gR) | ((with_reducible apply gT); first | exact rfl | exact True.intro | omega | assumption) | ((with_reducible apply gS2); first | assumption | rfl) | ((with_reducible first | apply gL0 | apply gL1 | apply gL2 | apply gL3 | apply gL4); assumption)))
  refine t_gr (c19 hp hu land item day) ?_
  rintro _ h2 le2 rfl
  obtain ⟨x, g2, hs⟩ : ∃ a g, safeR u land item day = .tuple #[.int .i64 a, .int .i64 g] := by
    unfold safeR; split
    · exact ⟨_, _, rfl⟩
    · exact ⟨_, _, rfl⟩
  rw [hs]
  (repeat (first | (with_reducible first | apply gA | apply gB | apply gC | apply gD | apply gE | apply gF | apply gG | apply gH | apply gI | apply gJ | apply gK | apply gL | apply gM | apply gN | apply gO | apply gP | apply gQ | apply gR) | ((with_reducible apply gT); first | exact rfl | exact True.intro | omega | assumption) | ((with_reducible apply gS2); first | assumption | rfl) | ((with_reducible first | apply gL0 | apply gL1 | apply gL2 | apply gL3 | apply gL4); assumption)))
  have hp := hp.le le2.1
  have hu := hu.le le2.1
  refine t_pu (c20 hu land item day) ?_
  rw [hs]
  (repeat (first | (with_reducible first | apply gA | apply gB | apply gC | apply gD | apply gE | apply gF | apply gG | apply gH | apply gI | apply gJ | apply gK | apply gL | apply gM | apply gN | apply gO | apply gP | apply gQ | apply gR) | ((with_reducible apply gT); first | exact rfl | exact True.intro | omega | assumption) | ((with_reducible apply gS2); first | assumption | rfl) | ((with_reducible first | apply gL0 | apply gL1 | apply gL2 | apply gL3 | apply gL4); assumption)))
  refine t_blk (fun vs h' => vs = [.bool false] ∧ h2 = h') ?_ ?_
  · refine t_cond (fun e => absurd e (by simp)) (fun _ => ?_)
    refine t_cond (fun e => absurd e (by simp)) (fun _ => ?_)
    exact t_again ⟨rfl, rfl⟩
  rintro vs _ ⟨rfl, rfl⟩
  (repeat (first | (with_reducible first | apply gA | apply gB | apply gC | apply gD | apply gE | apply gF | apply gG | apply gH | apply gI | apply gJ | apply gK | apply gL | apply gM | apply gN | apply gO | apply gP | apply gQ | apply gR) | ((with_reducible apply gT); first | exact rfl | exact True.intro | omega | assumption) | ((with_reducible apply gS2); first | assumption | rfl) | ((with_reducible first | apply gL0 | apply gL1 | apply gL2 | apply gL3 | apply gL4); assumption)))
  refine t_gr (c21 hp hu land item) ?_
  rintro _ h3 le3 rfl
  obtain ⟨y, g3, hk⟩ : ∃ a g, weakR u land item = .tuple #[.int .i64 a, .int .i64 g] := by
    unfold weakR; split
    · exact ⟨_, _, rfl⟩
    · exact ⟨_, _, rfl⟩
  rw [hk]
  (repeat (first | (with_reducible first | apply gA | apply gB | apply gC | apply gD | apply gE | apply gF | apply gG | apply gH | apply gI | apply gJ | apply gK | apply gL | apply gM | apply gN | apply gO | apply gP | apply gQ | apply gR) | ((with_reducible apply gT); first | exact rfl | exact True.intro | omega | assumption) | ((with_reducible apply gS2); first | assumption | rfl) | ((with_reducible first | apply gL0 | apply gL1 | apply gL2 | apply gL3 | apply gL4); assumption)))
  have hp := hp.le le3.1
  have hu := hu.le le3.1
  refine t_pu (c22 hu land item) ?_
  rw [hk]
  (repeat (first | (with_reducible first | apply gA | apply gB | apply gC | apply gD | apply gE | apply gF | apply gG | apply gH | apply gI | apply gJ | apply gK | apply gL | apply gM | apply gN | apply gO | apply gP | apply gQ | apply gR) | ((with_reducible apply gT); first | exact rfl | exact True.intro | omega | assumption) | ((with_reducible apply gS2); first | assumption | rfl) | ((with_reducible first | apply gL0 | apply gL1 | apply gL2 | apply gL3 | apply gL4); assumption)))
  refine t_cond (fun _ => ?_) (fun e => absurd e (by simp))
  refine t_cond (fun _ => ?_) (fun e => absurd e (by simp))
  refine t_call (fin h3 (LH.le_trans (LH.le_trans le1 le2) le3)) ?_
  rintro _ h' ⟨rfl, h2, h3, h4⟩
  (repeat (first | (with_reducible first | apply gA | apply gB | apply gC | apply gD | apply gE | apply gF | apply gG | apply gH | apply gI | apply gJ | apply gK | apply gL | apply gM | apply gN | apply gO | apply gP | apply gQ | apply gR) | ((with_reducible apply gT); first | exact rfl | exact True.intro | omega | assumption) | ((with_reducible apply gS2); first | assumption | rfl) | ((with_reducible first | apply gL0 | apply gL1 | apply gL2 | apply gL3 | apply gL4); assumption)))
  exact t_ret ⟨rfl, h2, h3, h4⟩
end Go.Proofs.YtibibhojkfapnaaDoor
end
section
namespace Go.Proofs.YtibibhojkfapnaaDoor
open Go Go.TM Go.Proofs Go.ChangeShapes Go.WideShapes Go.RowKit
set_option maxRecDepth 100000
theorem useWindows_lifted (os : Os) (started : os.Started) (H : Type) (enc : TypeId × Value → H) :
    ReturnsInLeavingWide {} Tryd.checked os 3 .any (fun w args => (Rows.useWindowsSpec.pre enc Tryd.prog Tryd.f3 [] false w args ∧ laidMetH Tryd.prog Rows.useWindowsRow.laid w) ∧ sizedMet enc Tryd.prog Tryd.f3 (OpenSpec.ofChange Rows.useWindowsSpec) false w args)
      (Rows.useWindowsSpec.post enc Tryd.prog Tryd.f3 false true false false) := by
  refine row_leaving (C := Tryd.checked) (tb := 4) own started Tryd.func3 (by kernel_rfl) rfl lo ?_ (by kernel_rfl) Tryd.underlying4 ?_
    (ChangeSpec.witness_shaped (enc := enc) (C := Tryd.checked) (os := os) (X := fun w _ => laidMetH Tryd.prog Rows.useWindowsRow.laid w) false (World.doorLaid Tryd.prog 200 os) #[noFile, .int .i64 0, .int .i64 0, .int .i64 0] 8 rfl (door_shaped os _) (by kernel_rfl) (by kernel_rfl) (by kernel_rfl) (door_met os _)) ?_
  · exact fun t ht => of_decide_eq_true (List.all_eq_true.1 (show (Tryd.f3.params.toList.all fun t => decide (Tryd.prog.readableRec t = true ∧ t < Tryd.prog.types.size)) = true by kernel_rfl) t ht)
  · intro ds hd
    match ds, (show ds.length = 4 from hd) with
    | [d1, d2, d3, d4], _ => rfl
  · intro W base args ds ps hval0 hA0 hz0 hL
    have hval : ∀ (j : Nat) t v, Tryd.f3.params[j]? = some t → args[j]? = some v → Value.okWide Tryd.prog W .any base t v := hval0
    have hz : ∀ (j : Nat) t d, Tryd.f3.params.toList[j]? = some t → ds[j]? = some d → Light Tryd.prog t d := hz0
    have hA : DataW.TrodAll enc Tryd.prog W 0 (fun _ => true) true Tryd.f3.params.toList args.toList ds ps := hA0
    rw [Tryd.params3] at hval hz hA
    obtain ⟨v0, v1, v2, v3, d0, d1, d2, d3, p0, p1, p2, p3, rfl, rfl, rfl, h0, h1, h2, h3⟩ := trodAll_four hA
    obtain ⟨f, u, rfl, hu⟩ := file_arg UT (hval 0 26 v0 rfl rfl) (hz 0 26 d0 rfl rfl) h0
    obtain ⟨a, rfl, _, _⟩ := open_int UT.int (hval 1 3 v1 rfl rfl) h1
    obtain ⟨b, rfl, _, _⟩ := open_int UT.int (hval 2 3 v2 rfl rfl) h2
    obtain ⟨c, rfl, _, _⟩ := open_int UT.int (hval 3 3 v3 rfl rfl) h3
    exact FW.mono (c3 (h := ⟨getW W, [], [], []⟩) rfl rfl (parts_of_laid hL) hu a b c) fun r h' hq => ⟨hq.1, hq.2.2.1⟩
theorem useWindows_row : Rows.UseWindowsSaid :=
  OpenClaim.holds_of_wide_leaving 3 Tryd.f3 rfl rfl rfl rfl rfl rfl rfl ⟨rfl, rfl, rfl, rfl, rfl⟩ rfl rfl rfl rfl rfl (by kernel_rfl) Tryd.func3 (by kernel_rfl)
    (of_decide_eq_true (by kernel_rfl)) (by unfold Func.isWrapper; first | (rw [if_pos (by decide +kernel)]; kernel_rfl) | (rw [if_neg (by decide +kernel)]; exact ⟨rfl, rfl⟩))
    (fun os started H enc _ => useWindows_lifted os started H enc)
theorem useWindows_holds : Rows.UseWindowsCardSaid :=
  card_goes [.funcs] true Rows.useWindowsCard.stood.harness false useWindows_row (by kernel_rfl) useWindows_row_tie rfl ⟨rfl, rfl⟩ (by kernel_rfl) rfl
    (fun f fn hf hfn => by
      obtain rfl : f = 3 := Option.some.inj ((show Tryd.prog.funcNamed Rows.useWindowsRow.func = some 3 by kernel_rfl).symm.trans hf) |>.symm
      obtain rfl : fn = Tryd.f3 := (Option.some.inj (Tryd.func3.symm.trans hfn)).symm
      exact ⟨by kernel_rfl, fun j t ht => by
        have hm := Array.mem_of_getElem? ht
        have := of_decide_eq_true (List.all_eq_true.1 (show (Tryd.f3.params.toList.all fun t => decide (Tryd.prog.wantsStandIn t = false)) = true by kernel_rfl) t (Array.mem_toList_iff.2 hm))
        exact this⟩)
    (by kernel_rfl)
end Go.Proofs.YtibibhojkfapnaaDoor
end
#print axioms Go.Proofs.YtibibhojkfapnaaDoor.useWindows_holds

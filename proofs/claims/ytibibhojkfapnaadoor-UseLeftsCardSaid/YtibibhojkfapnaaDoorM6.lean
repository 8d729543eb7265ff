/- For every file, land and day the law UseLefts returns true: CheckFile, Left and Lacks agree with the specification. The tied card; no further condition. -/
import Derived.Test.YtibibhojkfapnaaDoorM5
set_option linter.all false
section
namespace Go.Proofs.YtibibhojkfapnaaDoor
open Go Go.TM Go.Proofs
attribute [local irreducible] T.wp CV FWK
theorem two79 : twoAndTwo Tryd.prog 79 = true := by kernel_rfl
theorem g79 : Tryd.prog.eqGuardType Tryd.prog.depth 79 = false := by kernel_rfl
theorem c30 {h : LH} {p q : Option Addr} {n c m d : Nat} {a b : List Lack} (ha : Sl LackE 4 h.get p n a) (hb : Sl LackE 4 h.get q m b) : Pu Tryd.prog 30 #[.slice p n c, .slice q m d] h (.bool (decide (a = b))) := by
  refine w30 _ _ _ _ _ _ X0_ok ?_
  unfold n30
  have hn := ha.1
  have hm := hb.1
  have hbn := ha.2.1
  have hbm := hb.2.1
  refine t_cond (fun e => ?_) (fun e => ?_)
  · have : a ≠ b := by rintro rfl; simp at e; omega
    exact t_ret ⟨by simp [this], rfl⟩
  have hnm : n = m := by simp at e; omega
  refine t_loop (fun mm vs h' => h = h' ∧ ∃ i : Nat, vs = [.bool false, .int .i64 i] ∧ i ≤ n ∧ mm = n - i ∧ a.take i = b.take i) ⟨rfl, 0, rfl, Nat.zero_le _, rfl, rfl⟩ ?_
  rintro Y mm vs _ hY ⟨rfl, i, rfl, hi, rfl, hc⟩
  (repeat (first | (with_reducible first | apply gA | apply gB | apply gC | apply gD | apply gE | apply gF | apply gG | apply gH | apply gI | apply gJ | apply gK | apply gL | apply gM | apply gN | apply gO | apply gP | apply gQ | apply gR) | ((with_reducible apply gT); first | exact rfl | exact True.intro | omega | assumption) | ((with_reducible apply gS2); first | assumption | rfl) | ((with_reducible first | apply gL0 | apply gL1 | apply gL2 | apply gL3 | apply gL4); assumption)))
  refine t_if (fun e => ?_) (fun e => ?_)
  · obtain ⟨x, a1, hx, ha1, e1, e2, e3, e4⟩ := ha.at (i := i) (by omega)
    obtain ⟨y, a2, hy, ha2, f1, f2, f3, f4⟩ := hb.at (i := i) (by omega)
    (repeat (first | (with_reducible first | apply gA | apply gB | apply gC | apply gD | apply gE | apply gF | apply gG | apply gH | apply gI | apply gJ | apply gK | apply gL | apply gM | apply gN | apply gO | apply gP | apply gQ | apply gR) | ((with_reducible apply gT); first | exact rfl | exact True.intro | omega | assumption) | ((with_reducible apply gS2); first | assumption | rfl) | ((with_reducible first | apply gL0 | apply gL1 | apply gL2 | apply gL3 | apply gL4); assumption)))
    refine t_ne4 two79 g79 ?_
    (repeat (first | (with_reducible first | apply gA | apply gB | apply gC | apply gD | apply gE | apply gF | apply gG | apply gH | apply gI | apply gJ | apply gK | apply gL | apply gM | apply gN | apply gO | apply gP | apply gQ | apply gR) | ((with_reducible apply gT); first | exact rfl | exact True.intro | omega | assumption) | ((with_reducible apply gS2); first | assumption | rfl) | ((with_reducible first | apply gL0 | apply gL1 | apply gL2 | apply gL3 | apply gL4); assumption)))
    refine t_cond (fun b1 => ?_) (fun b1 => ?_)
    · (repeat (first | (with_reducible first | apply gA | apply gB | apply gC | apply gD | apply gE | apply gF | apply gG | apply gH | apply gI | apply gJ | apply gK | apply gL | apply gM | apply gN | apply gO | apply gP | apply gQ | apply gR) | ((with_reducible apply gT); first | exact rfl | exact True.intro | omega | assumption) | ((with_reducible apply gS2); first | assumption | rfl) | ((with_reducible first | apply gL0 | apply gL1 | apply gL2 | apply gL3 | apply gL4); assumption)))
      have : a ≠ b := by rintro rfl; rw [hx] at hy; cases hy; simp at b1
      exact t_ret ⟨by simp [this], rfl⟩
    · have b2 : x = y := by
        obtain ⟨x1, x2, x3, x4⟩ := x
        obtain ⟨y1, y2, y3, y4⟩ := y
        simp at b1
        obtain ⟨rfl, rfl, rfl, rfl⟩ := b1
        rfl
      refine t_again (hY (n - (i + 1)) _ _ (by omega) ⟨rfl, i + 1, ?_, by omega, rfl, ?_⟩)
      · rw [wrap_id (by omega) (by omega)]; rfl
      · rw [List.take_add_one, List.take_add_one, hc, hx, hy, b2]
  · (repeat (first | (with_reducible first | apply gA | apply gB | apply gC | apply gD | apply gE | apply gF | apply gG | apply gH | apply gI | apply gJ | apply gK | apply gL | apply gM | apply gN | apply gO | apply gP | apply gQ | apply gR) | ((with_reducible apply gT); first | exact rfl | exact True.intro | omega | assumption) | ((with_reducible apply gS2); first | assumption | rfl) | ((with_reducible first | apply gL0 | apply gL1 | apply gL2 | apply gL3 | apply gL4); assumption)))
    rw [List.take_of_length_le (by omega), List.take_of_length_le (by omega)] at hc
    exact t_ret ⟨by simp [hc], rfl⟩
theorem c15 {h : LH} {f : FileC} {u : UseFile} (hu : FileR h.get f u) : FW X0 Tryd.prog 15 #[fileV f u] h fun r h' => h = h' ∧ ∃ b : Bool, r = .bool b ∧ (b = false → u.excuses.length ≤ 20 ∧ u.papers.length ≤ 20 ∧ u.requests.length ≤ 20) := by
  refine w15 _ _ _ _ _ _ _ _ _ _ _ _ _ X0_ok ?_
  unfold n15
  have x0 := hu.excuses.1
  have p0 := hu.papers.1
  have r0 := hu.requests.1
  have pb := hu.papers.2.1
  have rb := hu.requests.2.1
  refine t_blk (fun vs h' => vs = [.bool false] ∧ h = h' ∧ u.excuses.length ≤ 20 ∧ u.papers.length ≤ 20 ∧ u.requests.length ≤ 20) ?_ ?_
  · refine t_if (fun e1 => ?_) (fun e1 => ?_)
    · (repeat (first | (with_reducible first | apply gA | apply gB | apply gC | apply gD | apply gE | apply gF | apply gG | apply gH | apply gI | apply gJ | apply gK | apply gL | apply gM | apply gN | apply gO | apply gP | apply gQ | apply gR) | ((with_reducible apply gT); first | exact rfl | exact True.intro | omega | assumption) | ((with_reducible apply gS2); first | assumption | rfl) | ((with_reducible first | apply gL0 | apply gL1 | apply gL2 | apply gL3 | apply gL4); assumption)))
      exact t_ret ⟨rfl, true, rfl, fun e => by cases e⟩
    refine t_if (fun e2 => ?_) (fun e2 => ?_)
    · (repeat (first | (with_reducible first | apply gA | apply gB | apply gC | apply gD | apply gE | apply gF | apply gG | apply gH | apply gI | apply gJ | apply gK | apply gL | apply gM | apply gN | apply gO | apply gP | apply gQ | apply gR) | ((with_reducible apply gT); first | exact rfl | exact True.intro | omega | assumption) | ((with_reducible apply gS2); first | assumption | rfl) | ((with_reducible first | apply gL0 | apply gL1 | apply gL2 | apply gL3 | apply gL4); assumption)))
      exact t_ret ⟨rfl, true, rfl, fun e => by cases e⟩
    refine t_if (fun e3 => ?_) (fun e3 => ?_)
    · (repeat (first | (with_reducible first | apply gA | apply gB | apply gC | apply gD | apply gE | apply gF | apply gG | apply gH | apply gI | apply gJ | apply gK | apply gL | apply gM | apply gN | apply gO | apply gP | apply gQ | apply gR) | ((with_reducible apply gT); first | exact rfl | exact True.intro | omega | assumption) | ((with_reducible apply gS2); first | assumption | rfl) | ((with_reducible first | apply gL0 | apply gL1 | apply gL2 | apply gL3 | apply gL4); assumption)))
      exact t_ret ⟨rfl, true, rfl, fun e => by cases e⟩
    exact t_again ⟨rfl, rfl, by omega, by omega, by omega⟩
  rintro vs _ ⟨rfl, rfl, h1, h2, h3⟩
  (repeat (first | (with_reducible first | apply gA | apply gB | apply gC | apply gD | apply gE | apply gF | apply gG | apply gH | apply gI | apply gJ | apply gK | apply gL | apply gM | apply gN | apply gO | apply gP | apply gQ | apply gR) | ((with_reducible apply gT); first | exact rfl | exact True.intro | omega | assumption) | ((with_reducible apply gS2); first | assumption | rfl) | ((with_reducible first | apply gL0 | apply gL1 | apply gL2 | apply gL3 | apply gL4); assumption)))
  refine t_loop (fun mm vs h' => h = h' ∧ ∃ i : Nat, vs = [.bool false, .int .i64 i] ∧ i ≤ f.n5 ∧ mm = f.n5 - i) ⟨rfl, 0, rfl, Nat.zero_le _, rfl⟩ ?_
  rintro Y mm vs _ hY ⟨rfl, i, rfl, hi, rfl⟩
  (repeat (first | (with_reducible first | apply gA | apply gB | apply gC | apply gD | apply gE | apply gF | apply gG | apply gH | apply gI | apply gJ | apply gK | apply gL | apply gM | apply gN | apply gO | apply gP | apply gQ | apply gR) | ((with_reducible apply gT); first | exact rfl | exact True.intro | omega | assumption) | ((with_reducible apply gS2); first | assumption | rfl) | ((with_reducible first | apply gL0 | apply gL1 | apply gL2 | apply gL3 | apply gL4); assumption)))
  refine t_if (fun e => ?_) (fun e => ?_)
  · obtain ⟨x, a1, hx, ha1, e1, e2, e3, q, m, c, e4, e5⟩ := hu.papers.at (i := i) (by omega)
    (repeat (first | (with_reducible first | apply gA | apply gB | apply gC | apply gD | apply gE | apply gF | apply gG | apply gH | apply gI | apply gJ | apply gK | apply gL | apply gM | apply gN | apply gO | apply gP | apply gQ | apply gR) | ((with_reducible apply gT); first | exact rfl | exact True.intro | omega | assumption) | ((with_reducible apply gS2); first | assumption | rfl) | ((with_reducible first | apply gL0 | apply gL1 | apply gL2 | apply gL3 | apply gL4); assumption)))
    refine t_if (fun e6 => ?_) (fun e6 => ?_)
    · (repeat (first | (with_reducible first | apply gA | apply gB | apply gC | apply gD | apply gE | apply gF | apply gG | apply gH | apply gI | apply gJ | apply gK | apply gL | apply gM | apply gN | apply gO | apply gP | apply gQ | apply gR) | ((with_reducible apply gT); first | exact rfl | exact True.intro | omega | assumption) | ((with_reducible apply gS2); first | assumption | rfl) | ((with_reducible first | apply gL0 | apply gL1 | apply gL2 | apply gL3 | apply gL4); assumption)))
      exact t_ret ⟨rfl, true, rfl, fun e => by cases e⟩
    · refine t_again (hY (f.n5 - (i + 1)) _ _ (by omega) ⟨rfl, i + 1, ?_, by omega, rfl⟩)
      rw [wrap_id (by omega) (by omega)]; rfl
  · (repeat (first | (with_reducible first | apply gA | apply gB | apply gC | apply gD | apply gE | apply gF | apply gG | apply gH | apply gI | apply gJ | apply gK | apply gL | apply gM | apply gN | apply gO | apply gP | apply gQ | apply gR) | ((with_reducible apply gT); first | exact rfl | exact True.intro | omega | assumption) | ((with_reducible apply gS2); first | assumption | rfl) | ((with_reducible first | apply gL0 | apply gL1 | apply gL2 | apply gL3 | apply gL4); assumption)))
    refine t_loop (fun mm vs h' => h = h' ∧ ∃ i : Nat, vs = [.bool false, .int .i64 i] ∧ i ≤ f.n6 ∧ mm = f.n6 - i) ⟨rfl, 0, rfl, Nat.zero_le _, rfl⟩ ?_
    rintro Y2 mm vs _ hY2 ⟨rfl, i, rfl, hi, rfl⟩
    (repeat (first | (with_reducible first | apply gA | apply gB | apply gC | apply gD | apply gE | apply gF | apply gG | apply gH | apply gI | apply gJ | apply gK | apply gL | apply gM | apply gN | apply gO | apply gP | apply gQ | apply gR) | ((with_reducible apply gT); first | exact rfl | exact True.intro | omega | assumption) | ((with_reducible apply gS2); first | assumption | rfl) | ((with_reducible first | apply gL0 | apply gL1 | apply gL2 | apply gL3 | apply gL4); assumption)))
    refine t_if (fun e => ?_) (fun e => ?_)
    · obtain ⟨x, a1, hx, ha1, e1, e2, q, m, c, e4, e5⟩ := hu.requests.at (i := i) (by omega)
      (repeat (first | (with_reducible first | apply gA | apply gB | apply gC | apply gD | apply gE | apply gF | apply gG | apply gH | apply gI | apply gJ | apply gK | apply gL | apply gM | apply gN | apply gO | apply gP | apply gQ | apply gR) | ((with_reducible apply gT); first | exact rfl | exact True.intro | omega | assumption) | ((with_reducible apply gS2); first | assumption | rfl) | ((with_reducible first | apply gL0 | apply gL1 | apply gL2 | apply gL3 | apply gL4); assumption)))
      refine t_if (fun e6 => ?_) (fun e6 => ?_)
      · (repeat (first | (with_reducible first | apply gA | apply gB | apply gC | apply gD | apply gE | apply gF | apply gG | apply gH | apply gI | apply gJ | apply gK | apply gL | apply gM | apply gN | apply gO | apply gP | apply gQ | apply gR) | ((with_reducible apply gT); first | exact rfl | exact True.intro | omega | assumption) | ((with_reducible apply gS2); first | assumption | rfl) | ((with_reducible first | apply gL0 | apply gL1 | apply gL2 | apply gL3 | apply gL4); assumption)))
        exact t_ret ⟨rfl, true, rfl, fun e => by cases e⟩
      · refine t_again (hY2 (f.n6 - (i + 1)) _ _ (by omega) ⟨rfl, i + 1, ?_, by omega, rfl⟩)
        rw [wrap_id (by omega) (by omega)]; rfl
    · (repeat (first | (with_reducible first | apply gA | apply gB | apply gC | apply gD | apply gE | apply gF | apply gG | apply gH | apply gI | apply gJ | apply gK | apply gL | apply gM | apply gN | apply gO | apply gP | apply gQ | apply gR) | ((with_reducible apply gT); first | exact rfl | exact True.intro | omega | assumption) | ((with_reducible apply gS2); first | assumption | rfl) | ((with_reducible first | apply gL0 | apply gL1 | apply gL2 | apply gL3 | apply gL4); assumption)))
      exact t_ret ⟨rfl, false, rfl, fun _ => ⟨h1, h2, h3⟩⟩
end Go.Proofs.YtibibhojkfapnaaDoor
end
section
namespace Go.Proofs.YtibibhojkfapnaaDoor
open Go Go.TM Go.Proofs
theorem lack_grow : Grow LackE := fun _ _ _ _ hl h => ⟨hl _ _ h.1, hl _ _ h.2.1, hl _ _ h.2.2.1, hl _ _ h.2.2.2⟩
theorem ev1 : window exU 20 = ⟨16, 20⟩ := by decide +kernel
theorem ev2 : window exU 25 = ⟨18, 25⟩ := by decide +kernel
theorem ev3 : safe exU 0 1 16 = 1 := by decide +kernel
theorem ev4 : safe exU 0 1 18 = 0 := by decide +kernel
theorem ev5 : safe exU 0 1 19 = 2 := by decide +kernel
theorem ev6 : weak exU 0 1 = 17 := by decide +kernel
theorem ev7 : weak exU 1 2 = 15 := by decide +kernel
theorem ev8 : leftAll exU 0 25 = [1, 2, 0] := by decide +kernel
theorem ev9 : lacks exU 0 20 = [⟨1, 0, ⟨16, 20⟩⟩, ⟨2, 0, ⟨16, 20⟩⟩] := by decide +kernel
theorem ev10 : enoughB exU 0 25 [0, 2] (leftAll exU 0 25) = false := by decide +kernel
theorem ev11 : ∀ i, i < 16 → okF exU 0 25 i = true → (∀ j, j < 16 → okF exU 0 25 j = true → fewerF (subsetL 4 i) (subsetL 4 j) ≤ 0) → subsetL 4 i = [1] := by decide +kernel
theorem ev12 : okF exU 0 25 2 = true := by decide +kernel
theorem exWindow20 : windowR exU 20 = .tuple #[.agg #[.int .i64 16, .int .i64 20], .int .i64 0] := by rw [windowR, if_neg (by decide +kernel), ev1]
theorem exWindow25 : windowR exU 25 = .tuple #[.agg #[.int .i64 18, .int .i64 25], .int .i64 0] := by rw [windowR, if_neg (by decide +kernel), ev2]
theorem exSafe16 : safeR exU 0 1 16 = .tuple #[.int .i64 1, .int .i64 0] := by rw [safeR, if_neg (by decide +kernel), ev3]
theorem exSafe18 : safeR exU 0 1 18 = .tuple #[.int .i64 0, .int .i64 0] := by rw [safeR, if_neg (by decide +kernel), ev4]
theorem exSafe19 : safeR exU 0 1 19 = .tuple #[.int .i64 2, .int .i64 0] := by rw [safeR, if_neg (by decide +kernel), ev5]
theorem exWeak1 : weakR exU 0 1 = .tuple #[.int .i64 17, .int .i64 0] := by rw [weakR, if_neg (by decide +kernel), ev6]
theorem exWeak2 : weakR exU 1 2 = .tuple #[.int .i64 15, .int .i64 0] := by rw [weakR, if_neg (by decide +kernel), ev7]
theorem exEnough : enoughR exU 0 25 [0, 2] = .tuple #[.bool false, .int .i64 0] := by rw [enoughR, if_neg (by decide +kernel), ev10]
theorem exOpen25 : openF exU [landQ exU 0, dayQ 25] = 0 := by decide +kernel
theorem exOpen20 : openF exU [landQ exU 0, dayQ 20] = 0 := by decide +kernel
attribute [local irreducible] T.wp CV FWK
set_option maxRecDepth 100000 in
theorem c16 {h : LH} (hch : h.chans = []) (hpe : h.pend = []) (hp : Parts h.get) : FW XT Tryd.prog 16 #[] h fun r h' => r = .bool true ∧ Rd h.get h'.get ∧ h'.chans = [] ∧ h'.pend = [] ∧ h'.todo = h.todo := by
  refine w16 XT_ok ?_
  unfold n16
  refine t_gr c52 ?_
  rintro _ h1 le1 ⟨f, rfl, hu⟩
  have hp := hp.le le1.1
  (repeat (first | (with_reducible first | apply gA | apply gB | apply gC | apply gD | apply gE | apply gF | apply gG | apply gH | apply gI | apply gJ | apply gK | apply gL | apply gM | apply gN | apply gO | apply gP | apply gQ | apply gR) | ((with_reducible apply gT); first | exact rfl | exact True.intro | omega | assumption) | ((with_reducible apply gS2); first | assumption | rfl) | ((with_reducible first | apply gL0 | apply gL1 | apply gL2 | apply gL3 | apply gL4); assumption)))
  refine t_gr (c17 hp hu 20) ?_
  rintro _ h2 le2 rfl
  rw [exWindow20]
  (repeat (first | (with_reducible first | apply gA | apply gB | apply gC | apply gD | apply gE | apply gF | apply gG | apply gH | apply gI | apply gJ | apply gK | apply gL | apply gM | apply gN | apply gO | apply gP | apply gQ | apply gR) | ((with_reducible apply gT); first | exact rfl | exact True.intro | omega | assumption) | ((with_reducible apply gS2); first | assumption | rfl) | ((with_reducible first | apply gL0 | apply gL1 | apply gL2 | apply gL3 | apply gL4); assumption)))
  have hp := hp.le le2.1
  have hu := hu.le le2.1
  refine t_gr (c17 hp hu 25) ?_
  rintro _ h3 le3 rfl
  rw [exWindow25]
  (repeat (first | (with_reducible first | apply gA | apply gB | apply gC | apply gD | apply gE | apply gF | apply gG | apply gH | apply gI | apply gJ | apply gK | apply gL | apply gM | apply gN | apply gO | apply gP | apply gQ | apply gR) | ((with_reducible apply gT); first | exact rfl | exact True.intro | omega | assumption) | ((with_reducible apply gS2); first | assumption | rfl) | ((with_reducible first | apply gL0 | apply gL1 | apply gL2 | apply gL3 | apply gL4); assumption)))
  have hp := hp.le le3.1
  have hu := hu.le le3.1
  refine t_gr (c19 hp hu 0 1 16) ?_
  rintro _ h4 le4 rfl
  rw [exSafe16]
  (repeat (first | (with_reducible first | apply gA | apply gB | apply gC | apply gD | apply gE | apply gF | apply gG | apply gH | apply gI | apply gJ | apply gK | apply gL | apply gM | apply gN | apply gO | apply gP | apply gQ | apply gR) | ((with_reducible apply gT); first | exact rfl | exact True.intro | omega | assumption) | ((with_reducible apply gS2); first | assumption | rfl) | ((with_reducible first | apply gL0 | apply gL1 | apply gL2 | apply gL3 | apply gL4); assumption)))
  have hp := hp.le le4.1
  have hu := hu.le le4.1
  refine t_gr (c19 hp hu 0 1 18) ?_
  rintro _ h5 le5 rfl
  rw [exSafe18]
  (repeat (first | (with_reducible first | apply gA | apply gB | apply gC | apply gD | apply gE | apply gF | apply gG | apply gH | apply gI | apply gJ | apply gK | apply gL | apply gM | apply gN | apply gO | apply gP | apply gQ | apply gR) | ((with_reducible apply gT); first | exact rfl | exact True.intro | omega | assumption) | ((with_reducible apply gS2); first | assumption | rfl) | ((with_reducible first | apply gL0 | apply gL1 | apply gL2 | apply gL3 | apply gL4); assumption)))
  have hp := hp.le le5.1
  have hu := hu.le le5.1
  refine t_gr (c19 hp hu 0 1 19) ?_
  rintro _ h6 le6 rfl
  rw [exSafe19]
  (repeat (first | (with_reducible first | apply gA | apply gB | apply gC | apply gD | apply gE | apply gF | apply gG | apply gH | apply gI | apply gJ | apply gK | apply gL | apply gM | apply gN | apply gO | apply gP | apply gQ | apply gR) | ((with_reducible apply gT); first | exact rfl | exact True.intro | omega | assumption) | ((with_reducible apply gS2); first | assumption | rfl) | ((with_reducible first | apply gL0 | apply gL1 | apply gL2 | apply gL3 | apply gL4); assumption)))
  have hp := hp.le le6.1
  have hu := hu.le le6.1
  refine t_gr (c21 hp hu 0 1) ?_
  rintro _ h7 le7 rfl
  rw [exWeak1]
  (repeat (first | (with_reducible first | apply gA | apply gB | apply gC | apply gD | apply gE | apply gF | apply gG | apply gH | apply gI | apply gJ | apply gK | apply gL | apply gM | apply gN | apply gO | apply gP | apply gQ | apply gR) | ((with_reducible apply gT); first | exact rfl | exact True.intro | omega | assumption) | ((with_reducible apply gS2); first | assumption | rfl) | ((with_reducible first | apply gL0 | apply gL1 | apply gL2 | apply gL3 | apply gL4); assumption)))
  have hp := hp.le le7.1
  have hu := hu.le le7.1
  refine t_gr (c21 hp hu 1 2) ?_
  rintro _ h8 le8 rfl
  rw [exWeak2]
  (repeat (first | (with_reducible first | apply gA | apply gB | apply gC | apply gD | apply gE | apply gF | apply gG | apply gH | apply gI | apply gJ | apply gK | apply gL | apply gM | apply gN | apply gO | apply gP | apply gQ | apply gR) | ((with_reducible apply gT); first | exact rfl | exact True.intro | omega | assumption) | ((with_reducible apply gS2); first | assumption | rfl) | ((with_reducible first | apply gL0 | apply gL1 | apply gL2 | apply gL3 | apply gL4); assumption)))
  have hp := hp.le le8.1
  have hu := hu.le le8.1
  refine t_gr (c23 hp hu 0 25) ?_
  rintro _ h9 le9 (⟨hne, _⟩ | ⟨_, lp, ln, lc, rfl, hl⟩)
  · exact absurd exOpen25 hne
  rw [ev8] at hl
  (repeat (first | (with_reducible first | apply gA | apply gB | apply gC | apply gD | apply gE | apply gF | apply gG | apply gH | apply gI | apply gJ | apply gK | apply gL | apply gM | apply gN | apply gO | apply gP | apply gQ | apply gR) | ((with_reducible apply gT); first | exact rfl | exact True.intro | omega | assumption) | ((with_reducible apply gS2); first | assumption | rfl) | ((with_reducible first | apply gL0 | apply gL1 | apply gL2 | apply gL3 | apply gL4); assumption)))
  have hp := hp.le le9.1
  have hu := hu.le le9.1
  refine t_gr (c28 hp hu 0 20) ?_
  rintro _ h10 le10 (⟨hne, _⟩ | ⟨_, kp, kn, kc, rfl, hk⟩)
  · exact absurd exOpen20 hne
  rw [ev9] at hk
  (repeat (first | (with_reducible first | apply gA | apply gB | apply gC | apply gD | apply gE | apply gF | apply gG | apply gH | apply gI | apply gJ | apply gK | apply gL | apply gM | apply gN | apply gO | apply gP | apply gQ | apply gR) | ((with_reducible apply gT); first | exact rfl | exact True.intro | omega | assumption) | ((with_reducible apply gS2); first | assumption | rfl) | ((with_reducible first | apply gL0 | apply gL1 | apply gL2 | apply gL3 | apply gL4); assumption)))
  have hp := hp.le le10.1
  have hu := hu.le le10.1
  have hl := hl.le IntE.grow le10.1
  have le := LH.le_trans (LH.le_trans (LH.le_trans (LH.le_trans (LH.le_trans (LH.le_trans (LH.le_trans (LH.le_trans (LH.le_trans le1 le2) le3) le4) le5) le6) le7) le8) le9) le10
  refine t_call (c33 (by rw [le.2.1, hch]) (by rw [le.2.2.1, hpe]) hp hu 0 25) ?_
  rintro _ h11 ⟨rd11, ch11, pe11, td11, ⟨hne, _⟩ | ⟨_, pp, pn, pc, rfl, hb⟩⟩
  · exact absurd exOpen25 hne
  have hpk : Sl IntE 1 h11.get pp pn [1] := by
    rcases hb with ⟨_, _, hno⟩ | ⟨i, a, rfl, hi, hok, hs, hmin⟩
    · have := hno 2 (by decide) (by simp)
      rw [ev12] at this; cases this
    · have e := ev11 i hi hok fun j hj hj2 => hmin j hj (by simp) hj2
      rw [← e]; exact hs
  (repeat (first | (with_reducible first | apply gA | apply gB | apply gC | apply gD | apply gE | apply gF | apply gG | apply gH | apply gI | apply gJ | apply gK | apply gL | apply gM | apply gN | apply gO | apply gP | apply gQ | apply gR) | ((with_reducible apply gT); first | exact rfl | exact True.intro | omega | assumption) | ((with_reducible apply gS2); first | assumption | rfl) | ((with_reducible first | apply gL0 | apply gL1 | apply gL2 | apply gL3 | apply gL4); assumption)))
  have hp := hp.rd rd11
  have hu := hu.rd rd11
  have hl := hl.rd IntE.grow rd11
  have hk := hk.rd lack_grow rd11
  refine t_buildG und50 inf3 (by decide) (by decide) (cells := #[.int .i64 0, .int .i64 2]) (by kernel_rfl) fun r12 h12 le12 _ e12 => ?_
  (repeat (first | (with_reducible first | apply gA | apply gB | apply gC | apply gD | apply gE | apply gF | apply gG | apply gH | apply gI | apply gJ | apply gK | apply gL | apply gM | apply gN | apply gO | apply gP | apply gQ | apply gR) | ((with_reducible apply gT); first | exact rfl | exact True.intro | omega | assumption) | ((with_reducible apply gS2); first | assumption | rfl) | ((with_reducible first | apply gL0 | apply gL1 | apply gL2 | apply gL3 | apply gL4); assumption)))
  have hp := hp.le le12.1
  have hu := hu.le le12.1
  refine t_gr (c31 hp hu 0 25 (pl := [0, 2]) (sl_ints (l := [0, 2]) rfl e12 (by show (2 : Nat) < _; omega))) ?_
  rintro _ h13 le13 rfl
  rw [exEnough]
  (repeat (first | (with_reducible first | apply gA | apply gB | apply gC | apply gD | apply gE | apply gF | apply gG | apply gH | apply gI | apply gJ | apply gK | apply gL | apply gM | apply gN | apply gO | apply gP | apply gQ | apply gR) | ((with_reducible apply gT); first | exact rfl | exact True.intro | omega | assumption) | ((with_reducible apply gS2); first | assumption | rfl) | ((with_reducible first | apply gL0 | apply gL1 | apply gL2 | apply gL3 | apply gL4); assumption)))
  have le1113 := LH.le_trans le12 le13
  have hl := hl.le IntE.grow le1113.1
  have hk := hk.le lack_grow le1113.1
  have hpk := hpk.le IntE.grow le1113.1
  refine t_blk (fun vs h' => vs = [.bool false] ∧ h13 = h') ?_ ?_
  · iterate 11 refine t_cond (fun e => absurd e (by decide)) (fun _ => ?_)
    exact t_again ⟨rfl, rfl⟩
  rintro vs _ ⟨rfl, rfl⟩
  (repeat (first | (with_reducible first | apply gA | apply gB | apply gC | apply gD | apply gE | apply gF | apply gG | apply gH | apply gI | apply gJ | apply gK | apply gL | apply gM | apply gN | apply gO | apply gP | apply gQ | apply gR) | ((with_reducible apply gT); first | exact rfl | exact True.intro | omega | assumption) | ((with_reducible apply gS2); first | assumption | rfl) | ((with_reducible first | apply gL0 | apply gL1 | apply gL2 | apply gL3 | apply gL4); assumption)))
  refine t_blk (fun vs h' => vs = [.bool false] ∧ h13.le h') ?_ ?_
  · refine t_pu (c42 _ _) ?_
    (repeat (first | (with_reducible first | apply gA | apply gB | apply gC | apply gD | apply gE | apply gF | apply gG | apply gH | apply gI | apply gJ | apply gK | apply gL | apply gM | apply gN | apply gO | apply gP | apply gQ | apply gR) | ((with_reducible apply gT); first | exact rfl | exact True.intro | omega | assumption) | ((with_reducible apply gS2); first | assumption | rfl) | ((with_reducible first | apply gL0 | apply gL1 | apply gL2 | apply gL3 | apply gL4); assumption)))
    refine t_ne2 two30 g30 ?_
    (repeat (first | (with_reducible first | apply gA | apply gB | apply gC | apply gD | apply gE | apply gF | apply gG | apply gH | apply gI | apply gJ | apply gK | apply gL | apply gM | apply gN | apply gO | apply gP | apply gQ | apply gR) | ((with_reducible apply gT); first | exact rfl | exact True.intro | omega | assumption) | ((with_reducible apply gS2); first | assumption | rfl) | ((with_reducible first | apply gL0 | apply gL1 | apply gL2 | apply gL3 | apply gL4); assumption)))
    refine t_cond (fun e => absurd e (by decide)) (fun _ => ?_)
    refine t_pu (c42 _ _) ?_
    (repeat (first | (with_reducible first | apply gA | apply gB | apply gC | apply gD | apply gE | apply gF | apply gG | apply gH | apply gI | apply gJ | apply gK | apply gL | apply gM | apply gN | apply gO | apply gP | apply gQ | apply gR) | ((with_reducible apply gT); first | exact rfl | exact True.intro | omega | assumption) | ((with_reducible apply gS2); first | assumption | rfl) | ((with_reducible first | apply gL0 | apply gL1 | apply gL2 | apply gL3 | apply gL4); assumption)))
    refine t_ne2 two30 g30 ?_
    (repeat (first | (with_reducible first | apply gA | apply gB | apply gC | apply gD | apply gE | apply gF | apply gG | apply gH | apply gI | apply gJ | apply gK | apply gL | apply gM | apply gN | apply gO | apply gP | apply gQ | apply gR) | ((with_reducible apply gT); first | exact rfl | exact True.intro | omega | assumption) | ((with_reducible apply gS2); first | assumption | rfl) | ((with_reducible first | apply gL0 | apply gL1 | apply gL2 | apply gL3 | apply gL4); assumption)))
    refine t_cond (fun e => absurd e (by decide)) (fun _ => ?_)
    (repeat (first | (with_reducible first | apply gA | apply gB | apply gC | apply gD | apply gE | apply gF | apply gG | apply gH | apply gI | apply gJ | apply gK | apply gL | apply gM | apply gN | apply gO | apply gP | apply gQ | apply gR) | ((with_reducible apply gT); first | exact rfl | exact True.intro | omega | assumption) | ((with_reducible apply gS2); first | assumption | rfl) | ((with_reducible first | apply gL0 | apply gL1 | apply gL2 | apply gL3 | apply gL4); assumption)))
    refine t_cond (fun e => absurd e (by decide)) (fun _ => ?_)
    (repeat (first | (with_reducible first | apply gA | apply gB | apply gC | apply gD | apply gE | apply gF | apply gG | apply gH | apply gI | apply gJ | apply gK | apply gL | apply gM | apply gN | apply gO | apply gP | apply gQ | apply gR) | ((with_reducible apply gT); first | exact rfl | exact True.intro | omega | assumption) | ((with_reducible apply gS2); first | assumption | rfl) | ((with_reducible first | apply gL0 | apply gL1 | apply gL2 | apply gL3 | apply gL4); assumption)))
    refine t_cond (fun e => absurd e (by decide)) (fun _ => ?_)
    (repeat (first | (with_reducible first | apply gA | apply gB | apply gC | apply gD | apply gE | apply gF | apply gG | apply gH | apply gI | apply gJ | apply gK | apply gL | apply gM | apply gN | apply gO | apply gP | apply gQ | apply gR) | ((with_reducible apply gT); first | exact rfl | exact True.intro | omega | assumption) | ((with_reducible apply gS2); first | assumption | rfl) | ((with_reducible first | apply gL0 | apply gL1 | apply gL2 | apply gL3 | apply gL4); assumption)))
    refine t_cond (fun e => absurd e (by decide)) (fun _ => ?_)
    (repeat (first | (with_reducible first | apply gA | apply gB | apply gC | apply gD | apply gE | apply gF | apply gG | apply gH | apply gI | apply gJ | apply gK | apply gL | apply gM | apply gN | apply gO | apply gP | apply gQ | apply gR) | ((with_reducible apply gT); first | exact rfl | exact True.intro | omega | assumption) | ((with_reducible apply gS2); first | assumption | rfl) | ((with_reducible first | apply gL0 | apply gL1 | apply gL2 | apply gL3 | apply gL4); assumption)))
    refine t_cond (fun e => absurd e (by decide)) (fun _ => ?_)
    (repeat (first | (with_reducible first | apply gA | apply gB | apply gC | apply gD | apply gE | apply gF | apply gG | apply gH | apply gI | apply gJ | apply gK | apply gL | apply gM | apply gN | apply gO | apply gP | apply gQ | apply gR) | ((with_reducible apply gT); first | exact rfl | exact True.intro | omega | assumption) | ((with_reducible apply gS2); first | assumption | rfl) | ((with_reducible first | apply gL0 | apply gL1 | apply gL2 | apply gL3 | apply gL4); assumption)))
    refine t_cond (fun e => absurd e (by decide)) (fun _ => ?_)
    (repeat (first | (with_reducible first | apply gA | apply gB | apply gC | apply gD | apply gE | apply gF | apply gG | apply gH | apply gI | apply gJ | apply gK | apply gL | apply gM | apply gN | apply gO | apply gP | apply gQ | apply gR) | ((with_reducible apply gT); first | exact rfl | exact True.intro | omega | assumption) | ((with_reducible apply gS2); first | assumption | rfl) | ((with_reducible first | apply gL0 | apply gL1 | apply gL2 | apply gL3 | apply gL4); assumption)))
    refine t_cond (fun e => absurd e (by decide)) (fun _ => ?_)
    (repeat (first | (with_reducible first | apply gA | apply gB | apply gC | apply gD | apply gE | apply gF | apply gG | apply gH | apply gI | apply gJ | apply gK | apply gL | apply gM | apply gN | apply gO | apply gP | apply gQ | apply gR) | ((with_reducible apply gT); first | exact rfl | exact True.intro | omega | assumption) | ((with_reducible apply gS2); first | assumption | rfl) | ((with_reducible first | apply gL0 | apply gL1 | apply gL2 | apply gL3 | apply gL4); assumption)))
    refine t_buildG und50 inf3 (by decide) (by decide) (cells := #[.int .i64 1]) (by kernel_rfl) fun r14 h14 le14 _ e14 => ?_
    (repeat (first | (with_reducible first | apply gA | apply gB | apply gC | apply gD | apply gE | apply gF | apply gG | apply gH | apply gI | apply gJ | apply gK | apply gL | apply gM | apply gN | apply gO | apply gP | apply gQ | apply gR) | ((with_reducible apply gT); first | exact rfl | exact True.intro | omega | assumption) | ((with_reducible apply gS2); first | assumption | rfl) | ((with_reducible first | apply gL0 | apply gL1 | apply gL2 | apply gL3 | apply gL4); assumption)))
    refine t_pu (c35 (hpk.le IntE.grow le14.1) (sl_ints (l := [1]) rfl e14 (by show (1 : Nat) < _; omega))) ?_
    (repeat (first | (with_reducible first | apply gA | apply gB | apply gC | apply gD | apply gE | apply gF | apply gG | apply gH | apply gI | apply gJ | apply gK | apply gL | apply gM | apply gN | apply gO | apply gP | apply gQ | apply gR) | ((with_reducible apply gT); first | exact rfl | exact True.intro | omega | assumption) | ((with_reducible apply gS2); first | assumption | rfl) | ((with_reducible first | apply gL0 | apply gL1 | apply gL2 | apply gL3 | apply gL4); assumption)))
    refine t_cond (fun e => absurd e (by decide)) (fun _ => ?_)
    exact t_again ⟨rfl, le14⟩
  rintro vs h15 ⟨rfl, le15⟩
  have hl := hl.le IntE.grow le15.1
  have hk := hk.le lack_grow le15.1
  (repeat (first | (with_reducible first | apply gA | apply gB | apply gC | apply gD | apply gE | apply gF | apply gG | apply gH | apply gI | apply gJ | apply gK | apply gL | apply gM | apply gN | apply gO | apply gP | apply gQ | apply gR) | ((with_reducible apply gT); first | exact rfl | exact True.intro | omega | assumption) | ((with_reducible apply gS2); first | assumption | rfl) | ((with_reducible first | apply gL0 | apply gL1 | apply gL2 | apply gL3 | apply gL4); assumption)))
  refine t_buildG und40 inf34 (by decide) (by decide) (cells := #[.int .i64 1, .int .i64 2, .int .i64 0]) (by kernel_rfl) fun r16 h16 le16 _ e16 => ?_
  (repeat (first | (with_reducible first | apply gA | apply gB | apply gC | apply gD | apply gE | apply gF | apply gG | apply gH | apply gI | apply gJ | apply gK | apply gL | apply gM | apply gN | apply gO | apply gP | apply gQ | apply gR) | ((with_reducible apply gT); first | exact rfl | exact True.intro | omega | assumption) | ((with_reducible apply gS2); first | assumption | rfl) | ((with_reducible first | apply gL0 | apply gL1 | apply gL2 | apply gL3 | apply gL4); assumption)))
  refine t_pu (c25 (hl.le IntE.grow le16.1) (sl_ints (l := [1, 2, 0]) rfl e16 (by show (3 : Nat) < _; omega))) ?_
  (repeat (first | (with_reducible first | apply gA | apply gB | apply gC | apply gD | apply gE | apply gF | apply gG | apply gH | apply gI | apply gJ | apply gK | apply gL | apply gM | apply gN | apply gO | apply gP | apply gQ | apply gR) | ((with_reducible apply gT); first | exact rfl | exact True.intro | omega | assumption) | ((with_reducible apply gS2); first | assumption | rfl) | ((with_reducible first | apply gL0 | apply gL1 | apply gL2 | apply gL3 | apply gL4); assumption)))
  refine t_cond (fun _ => ?_) (fun e => absurd e (by decide))
  (repeat (first | (with_reducible first | apply gA | apply gB | apply gC | apply gD | apply gE | apply gF | apply gG | apply gH | apply gI | apply gJ | apply gK | apply gL | apply gM | apply gN | apply gO | apply gP | apply gQ | apply gR) | ((with_reducible apply gT); first | exact rfl | exact True.intro | omega | assumption) | ((with_reducible apply gS2); first | assumption | rfl) | ((with_reducible first | apply gL0 | apply gL1 | apply gL2 | apply gL3 | apply gL4); assumption)))
  refine t_pu (c42 _ _) ?_
  (repeat (first | (with_reducible first | apply gA | apply gB | apply gC | apply gD | apply gE | apply gF | apply gG | apply gH | apply gI | apply gJ | apply gK | apply gL | apply gM | apply gN | apply gO | apply gP | apply gQ | apply gR) | ((with_reducible apply gT); first | exact rfl | exact True.intro | omega | assumption) | ((with_reducible apply gS2); first | assumption | rfl) | ((with_reducible first | apply gL0 | apply gL1 | apply gL2 | apply gL3 | apply gL4); assumption)))
  refine t_pu (c42 _ _) ?_
  (repeat (first | (with_reducible first | apply gA | apply gB | apply gC | apply gD | apply gE | apply gF | apply gG | apply gH | apply gI | apply gJ | apply gK | apply gL | apply gM | apply gN | apply gO | apply gP | apply gQ | apply gR) | ((with_reducible apply gT); first | exact rfl | exact True.intro | omega | assumption) | ((with_reducible apply gS2); first | assumption | rfl) | ((with_reducible first | apply gL0 | apply gL1 | apply gL2 | apply gL3 | apply gL4); assumption)))
  refine t_buildG und45 inf79 (by decide) (by decide) (cells := #[.int .i64 1, .int .i64 0, .int .i64 16, .int .i64 20, .int .i64 2, .int .i64 0, .int .i64 16, .int .i64 20]) (by kernel_rfl) fun r17 h17 le17 _ e17 => ?_
  (repeat (first | (with_reducible first | apply gA | apply gB | apply gC | apply gD | apply gE | apply gF | apply gG | apply gH | apply gI | apply gJ | apply gK | apply gL | apply gM | apply gN | apply gO | apply gP | apply gQ | apply gR) | ((with_reducible apply gT); first | exact rfl | exact True.intro | omega | assumption) | ((with_reducible apply gS2); first | assumption | rfl) | ((with_reducible first | apply gL0 | apply gL1 | apply gL2 | apply gL3 | apply gL4); assumption)))
  have le1617 := LH.le_trans le16 le17
  refine t_pu (c30 (hk.le lack_grow le1617.1) (b := [⟨1, 0, ⟨16, 20⟩⟩, ⟨2, 0, ⟨16, 20⟩⟩]) ?_) ?_
  · refine ⟨rfl, by show (2 : Nat) < _; omega, ?_⟩
    have cr : ∀ {i j : Nat} {v : Value}, (#[.int .i64 1, .int .i64 0, .int .i64 16, .int .i64 20, .int .i64 2, .int .i64 0, .int .i64 16, .int .i64 20] : Array Value)[i + j]? = some v → h17.get.cell? (Addr.add (Addr.add ⟨r17, 0, none⟩ i) j) = some v := by
      intro i j v hv
      rw [add_plain, add_plain, Nat.zero_add]; exact cell_row e17 hv
    intro i x hx
    match i, hx with
    | 0, hx => cases hx; exact ⟨_, rfl, cr rfl, cr rfl, cr rfl, cr rfl⟩
    | 1, hx => cases hx; exact ⟨_, rfl, cr rfl, cr rfl, cr rfl, cr rfl⟩
    | i + 2, hx => simp at hx
  (repeat (first | (with_reducible first | apply gA | apply gB | apply gC | apply gD | apply gE | apply gF | apply gG | apply gH | apply gI | apply gJ | apply gK | apply gL | apply gM | apply gN | apply gO | apply gP | apply gQ | apply gR) | ((with_reducible apply gT); first | exact rfl | exact True.intro | omega | assumption) | ((with_reducible apply gS2); first | assumption | rfl) | ((with_reducible first | apply gL0 | apply gL1 | apply gL2 | apply gL3 | apply gL4); assumption)))
  have leZ := LH.le_trans (LH.le_trans le1113 le15) le1617
  refine t_ret ⟨by simp, (Rd.of_le le.1).trans (rd11.trans (Rd.of_le leZ.1)), by rw [leZ.2.1, ch11], by rw [leZ.2.2.1, pe11], by rw [leZ.2.2.2, td11, le.2.2.2]⟩
end Go.Proofs.YtibibhojkfapnaaDoor
end
section
namespace Go.Proofs.YtibibhojkfapnaaDoor
open Go Go.TM Go.Proofs
attribute [local irreducible] T.wp CV FWK
theorem t_pushI {X : XP} {Q : Leaf → LH → Prop} {h h₀ : LH} {k : Value → T} {p : Option Addr} {n c : Nat} {l : List Int} {x : Int} (g : Growing IntEnc 3 1 h₀.get h.get p n c l) (hle : h₀.le h) (hn : n + 1 ≤ 2 ^ 30)
    (hk : ∀ p' c' h', h₀.le h' → Growing IntEnc 3 1 h₀.get h'.get p' (n + 1) c' (l ++ [x]) → (k (.slice p' (n + 1) c')).wp X Tryd.prog Q h') :
    (T.sem false (Instr.buildSlice 50 1 #[(0, .int .i64 x)]) fun v => T.unS v fun a m c2 => T.sem false (Builtin.append_ #[50, 50] 50 #[.slice p n c, .slice a m c2]) k).wp X Tryd.prog Q h := by
  refine t_build und50 inf3 (by decide) (by decide) (cells := #[.int .i64 x]) (by kernel_rfl) fun r hr => ?_
  have le2 : h.le _ := LH.upd_le (x := (true, .cells #[.int .i64 x] 3 (0, 0))) hr
  refine gG ?_
  refine t_grow (h₀ := h₀) (x := x) (ws := [.int .i64 x]) rfl rfl und50 und50 inf3 rfl (by omega) hn (g.le le2.1) (LH.le_trans hle le2) rfl rfl ?_ ?_ ?_
  · intro j w hj
    rw [add_plain, Nat.zero_add]
    exact cell_upd (by simpa using hj)
  · intro w hw; simp at hw; subst hw; rfl
  · intro p' c' h₂ hle2 _ g2
    exact hk p' c' h₂ hle2 g2
def placesOf (rs : List Request) (g : Request → Bool) (i : Nat) : List Int := ((List.range i).filter fun j => (rs[j]?).any g).map fun j : Nat => (j : Int)
theorem placesOf_succ {rs : List Request} {g : Request → Bool} {i : Nat} {r : Request} (hr : rs[i]? = some r) : placesOf rs g (i + 1) = placesOf rs g i ++ (if g r then [(i : Int)] else []) := by
  unfold placesOf
  rw [List.range_succ, List.filter_append, List.map_append]
  congr 1
  rw [List.filter_cons, hr]
  cases hg : g r <;> simp [hg]
theorem placesOf_len {rs : List Request} {g : Request → Bool} {i : Nat} : (placesOf rs g i).length ≤ i := by
  unfold placesOf
  rw [List.length_map]
  exact Nat.le_trans (List.length_filter_le _ _) (by simp)
def Pick (rs : List Request) (I : List Int) (L : List Request) : Prop := I.length = L.length ∧ ∀ (k : Nat) (i : Int), I[k]? = some i → 0 ≤ i ∧ ∃ r, rs[i.toNat]? = some r ∧ L[k]? = some r
theorem Pick.snoc {rs : List Request} {I : List Int} {L : List Request} (p : Pick rs I L) {i : Nat} {r : Request} (hr : rs[i]? = some r) : Pick rs (I ++ [(i : Int)]) (L ++ [r]) := by
  refine ⟨by simp [p.1], fun k j hj => ?_⟩
  by_cases hk : k < I.length
  · rw [List.getElem?_append_left hk] at hj
    obtain ⟨h1, s, h2, h3⟩ := p.2 k j hj
    exact ⟨h1, s, h2, by rw [List.getElem?_append_left (by rw [← p.1]; exact hk)]; exact h3⟩
  · rw [List.getElem?_append_right (by omega)] at hj
    have h0 : k - I.length = 0 := by
      have := (List.getElem?_eq_some_iff.1 hj).1
      simp at this; omega
    rw [h0] at hj
    simp at hj
    subst hj
    refine ⟨by omega, r, by simpa using hr, ?_⟩
    rw [List.getElem?_append_right (by rw [← p.1]; omega), ← p.1, h0]
    rfl
theorem pick_places (rs : List Request) (g : Request → Bool) : ∀ i, i ≤ rs.length → Pick rs (placesOf rs g i) ((rs.take i).filter g) := by
  intro i
  induction i with
  | zero => intro _; exact ⟨by simp [placesOf], fun k i hi => by simp [placesOf] at hi⟩
  | succ i ih =>
    intro hi
    have hr : rs[i]? = some rs[i] := List.getElem?_eq_getElem (by omega)
    rw [placesOf_succ hr, List.take_add_one, hr, List.filter_append]
    have := ih (by omega)
    by_cases hg : g rs[i] = true
    · rw [if_pos hg]
      simp only [Option.toList, List.filter_cons, hg, if_true, List.filter_nil]
      exact this.snoc hr
    · rw [if_neg hg]
      simp only [Option.toList, List.filter_cons, hg, Bool.false_eq_true, if_false, List.filter_nil, List.append_nil]
      exact this
theorem c103 {h : LH} {f : FileC} {u : UseFile} (hu : FileR h.get f u) (hck : checkF u = 0) (land item day : Int) :
    Gr Tryd.prog 103 #[fileV f u, .int .i64 land, .int .i64 item, .int .i64 day] h fun r h' => ∃ p n c I, r = .slice p n c ∧ Sl IntE 1 h'.get p n I ∧ Pick u.requests I (against u land item day) := by
  refine w103 _ _ _ _ _ _ _ _ _ _ _ _ _ _ _ _ X0_ok ?_
  unfold n103
  have hr := hu.requests
  have hn := hr.1
  have hb4 := (check_requests hck).1
  refine t_loop (fun mm vs h' => h.le h' ∧ ∃ (i : Nat) (p : Option Addr) (n c : Nat), vs = [.slice p n c, .int .i64 i] ∧ i ≤ f.n6 ∧ mm = f.n6 - i ∧ Growing IntEnc 3 1 h.get h'.get p n c (placesOf u.requests (agB land item day) i))
    ⟨LH.le_refl _, 0, none, 0, 0, rfl, Nat.zero_le _, rfl, Growing.nil⟩ ?_
  rintro Y mm vs h₁ hY ⟨hle, i, p, n, c, rfl, hi, rfl, g⟩
  (repeat (first | (with_reducible first | apply gA | apply gB | apply gC | apply gD | apply gE | apply gF | apply gG | apply gH | apply gI | apply gJ | apply gK | apply gL | apply gM | apply gN | apply gO | apply gP | apply gQ | apply gR) | ((with_reducible apply gT); first | exact rfl | exact True.intro | omega | assumption) | ((with_reducible apply gS2); first | assumption | rfl) | ((with_reducible first | apply gL0 | apply gL1 | apply gL2 | apply gL3 | apply gL4); assumption)))
  refine t_if (fun e1 => ?_) (fun e1 => ?_)
  · obtain ⟨x, a, hx, ha, e2, e3, q, mq, cq, e4, e5⟩ := (hr.le RequestE.grow hle.1).at (i := i) (by omega)
    have hst := placesOf_succ (g := agB land item day) hx
    (repeat (first | (with_reducible first | apply gA | apply gB | apply gC | apply gD | apply gE | apply gF | apply gG | apply gH | apply gI | apply gJ | apply gK | apply gL | apply gM | apply gN | apply gO | apply gP | apply gQ | apply gR) | ((with_reducible apply gT); first | exact rfl | exact True.intro | omega | assumption) | ((with_reducible apply gS2); first | assumption | rfl) | ((with_reducible first | apply gL0 | apply gL1 | apply gL2 | apply gL3 | apply gL4); assumption)))
    have next : agB land item day x = false → Y [.slice p n c, .int .i64 (IntKind.wrap .i64 ((i : Int) + 1))] h₁ := by
      intro hf
      rw [hf, if_neg (by simp), List.append_nil] at hst
      refine hY (f.n6 - (i + 1)) _ _ (by omega) ⟨hle, i + 1, p, n, c, ?_, by omega, rfl, by rw [hst]; exact g⟩
      rw [wrap_id (by omega) (by omega)]; rfl
    refine t_cond (fun b1 => ?_) (fun b1 => ?_)
    · refine t_if (fun b2 => ?_) (fun b2 => ?_)
      · refine t_pu (c41 e5 item) ?_
        (repeat (first | (with_reducible first | apply gA | apply gB | apply gC | apply gD | apply gE | apply gF | apply gG | apply gH | apply gI | apply gJ | apply gK | apply gL | apply gM | apply gN | apply gO | apply gP | apply gQ | apply gR) | ((with_reducible apply gT); first | exact rfl | exact True.intro | omega | assumption) | ((with_reducible apply gS2); first | assumption | rfl) | ((with_reducible first | apply gL0 | apply gL1 | apply gL2 | apply gL3 | apply gL4); assumption)))
        refine t_cond (fun b3 => ?_) (fun b3 => ?_)
        · have ht : agB land item day x = true := by
            rw [agB, b1, b3]; simp [b2]
          rw [ht, if_pos rfl] at hst
          have hng := g.count IntEnc.len (by omega)
          have hpl := placesOf_len (rs := u.requests) (g := agB land item day) (i := i)
          refine t_pushI g hle (by omega) fun p' c' h₂ hle2 g2 => ?_
          (repeat (first | (with_reducible first | apply gA | apply gB | apply gC | apply gD | apply gE | apply gF | apply gG | apply gH | apply gI | apply gJ | apply gK | apply gL | apply gM | apply gN | apply gO | apply gP | apply gQ | apply gR) | ((with_reducible apply gT); first | exact rfl | exact True.intro | omega | assumption) | ((with_reducible apply gS2); first | assumption | rfl) | ((with_reducible first | apply gL0 | apply gL1 | apply gL2 | apply gL3 | apply gL4); assumption)))
          refine t_again (hY (f.n6 - (i + 1)) _ _ (by omega) ⟨hle2, i + 1, p', n + 1, c', ?_, by omega, rfl, by rw [hst]; exact g2⟩)
          rw [wrap_id (by omega) (by omega)]; rfl
        · refine t_again (next ?_)
          rw [agB, b1, b3]; simp
      · refine t_again (next ?_)
        rw [agB, b1]; simp [b2]
    · refine t_again (next ?_)
      rw [agB, b1]; rfl
  · (repeat (first | (with_reducible first | apply gA | apply gB | apply gC | apply gD | apply gE | apply gF | apply gG | apply gH | apply gI | apply gJ | apply gK | apply gL | apply gM | apply gN | apply gO | apply gP | apply gQ | apply gR) | ((with_reducible apply gT); first | exact rfl | exact True.intro | omega | assumption) | ((with_reducible apply gS2); first | assumption | rfl) | ((with_reducible first | apply gL0 | apply gL1 | apply gL2 | apply gL3 | apply gL4); assumption)))
    have hii : i = u.requests.length := by omega
    subst hii
    refine t_ret ⟨hle, p, n, c, _, rfl, g.sl IntEnc.len (by omega) IntEnc.e (by have := placesOf_len (rs := u.requests) (g := agB land item day) (i := u.requests.length); omega), ?_⟩
    have := pick_places u.requests (agB land item day) u.requests.length (Nat.le_refl _)
    rw [List.take_length] at this
    exact this
theorem daysOf_succ {x : Span} (i : Nat) (hi : x.first + i ≤ x.last) : (daysOf x).take (i + 1) = (daysOf x).take i ++ [x.first + (i : Int)] := by
  have hlen : i < (daysOf x).length := by unfold daysOf; rw [List.length_map, List.length_range]; omega
  rw [List.take_succ_eq_append_getElem hlen]
  congr 2
  simp [daysOf]
def SetL (M : List Int) (S : Nat → Prop) : Prop := M.Nodup ∧ ∀ s : Int, s ∈ M ↔ ∃ m : Nat, s = m ∧ S m
theorem SetL.nil : SetL [] (fun _ => False) := ⟨List.nodup_nil, fun s => by simp⟩
theorem SetL.congr {M : List Int} {S S' : Nat → Prop} (s : SetL M S) (h : ∀ m, S m ↔ S' m) : SetL M S' := ⟨s.1, fun x => by rw [s.2]; constructor <;> (rintro ⟨m, h1, h2⟩; exact ⟨m, h1, by first | exact (h m).1 h2 | exact (h m).2 h2⟩)⟩
theorem SetL.snoc {M : List Int} {S : Nat → Prop} (s : SetL M S) {m : Nat} (hm : (m : Int) ∉ M) : SetL (M ++ [(m : Int)]) (fun x => S x ∨ x = m) := by
  refine ⟨?_, fun x => ?_⟩
  · rw [List.nodup_append]
    refine ⟨s.1, by simp, fun a ha b hb => ?_⟩
    simp at hb
    subst hb
    rintro rfl; exact hm ha
  · rw [List.mem_append, s.2, List.mem_singleton]
    constructor
    · rintro (⟨k, h1, h2⟩ | rfl)
      · exact ⟨k, h1, .inl h2⟩
      · exact ⟨m, rfl, .inr rfl⟩
    · rintro ⟨k, h1, h2 | rfl⟩
      · exact .inl ⟨k, h1, h2⟩
      · exact .inr h1
theorem SetL.old {M : List Int} {S : Nat → Prop} (s : SetL M S) {m : Nat} (hm : (m : Int) ∈ M) : SetL M (fun x => S x ∨ x = m) := by
  refine s.congr fun x => ⟨.inl, ?_⟩
  rintro (h | rfl)
  · exact h
  · obtain ⟨k, h1, h2⟩ := (s.2 _).1 hm
    have : x = k := by omega
    rw [this]; exact h2
theorem nodup_bound : ∀ (N : Nat) (l : List Int), l.Nodup → (∀ x ∈ l, 0 ≤ x ∧ x < (N : Int)) → l.length ≤ N := by
  intro N
  induction N with
  | zero =>
    intro l _ h
    cases l with
    | nil => simp
    | cons x l => have := h x (by simp); omega
  | succ N ih =>
    intro l hn h
    by_cases hm : (N : Int) ∈ l
    · have h1 := List.length_erase_of_mem hm
      have h2 := ih (l.erase (N : Int)) (hn.erase _) (fun x hx => by
        have hx' := (hn.mem_erase_iff).1 hx
        have := h x hx'.2
        have := hx'.1
        omega)
      omega
    · have := ih l hn (fun x hx => by
        have := h x hx
        have : x ≠ (N : Int) := by rintro rfl; exact hm hx
        omega)
      omega
theorem SetL.len {M : List Int} {S : Nat → Prop} (s : SetL M S) {N : Nat} (h : ∀ m, S m → m < N) : M.length ≤ N :=
  nodup_bound N M s.1 fun x hx => by obtain ⟨m, h1, h2⟩ := (s.2 x).1 hx; have := h m h2; omega
theorem Pick.at {rs : List Request} {I : List Int} {L : List Request} (p : Pick rs I L) {k : Nat} {i : Int} (hi : I[k]? = some i) : ∃ (j : Nat) (r : Request), i = j ∧ rs[j]? = some r ∧ L[k]? = some r := by
  obtain ⟨h1, r, h2, h3⟩ := p.2 k i hi
  exact ⟨i.toNat, r, by omega, h2, h3⟩
def metBy (u : UseFile) (L : List Request) (x : Span) (i : Nat) (m : Nat) : Prop := ∃ d ∈ (daysOf x).take i, m = meets u L d
theorem metBy_succ {u : UseFile} {L : List Request} {x : Span} {i : Nat} (hi : x.first + i ≤ x.last) (m : Nat) : metBy u L x (i + 1) m ↔ (metBy u L x i m ∨ m = meets u L (x.first + i)) := by
  unfold metBy
  rw [daysOf_succ i hi]
  simp only [List.mem_append, List.mem_singleton]
  constructor
  · rintro ⟨d, h1 | rfl, h2⟩
    · exact .inl ⟨d, h1, h2⟩
    · exact .inr h2
  · rintro (⟨d, h1, h2⟩ | h2)
    · exact ⟨d, .inl h1, h2⟩
    · exact ⟨_, .inr rfl, h2⟩
theorem metBy_lt {u : UseFile} {L : List Request} {x : Span} {i m : Nat} (h : metBy u L x i m) : m < 2 ^ L.length := by
  obtain ⟨d, _, rfl⟩ := h
  exact meets_lt' u L d
theorem pow16 {L : List Request} (h : L.length ≤ 4) : 2 ^ L.length ≤ 16 := Nat.pow_le_pow_right (by omega) h (n := 2)
end Go.Proofs.YtibibhojkfapnaaDoor
end
section
namespace Go.Proofs.YtibibhojkfapnaaDoor
open Go Go.TM Go.Proofs
attribute [local irreducible] T.wp CV FWK
theorem c108 {h : LH} {f : FileC} {u : UseFile} (hu : FileR h.get f u) (hck : checkF u = 0) {I : List Int} {L : List Request} {lp : Option Addr} {ln lc : Nat} (hI : Sl IntE 1 h.get lp ln I) (hp : Pick u.requests I L) (hl4 : L.length ≤ 4) (hdays : ∀ r ∈ L, 0 ≤ r.day ∧ r.day ≤ 2000)
    {x : Paper} (hx : 0 ≤ x.days.first ∧ x.days.first ≤ x.days.last ∧ x.days.last ≤ 2000) (q : Option Addr) (m c : Nat) :
    Gr Tryd.prog 108 #[fileV f u, paperV x q m c, .slice lp ln lc] h fun r h' => ∃ p n c M, r = .slice p n c ∧ Sl IntE 1 h'.get p n M ∧ SetL M (fun s => s ∈ (daysOf x.days).map (meets u L)) := by
  refine w108 _ _ _ _ _ _ _ _ _ _ _ _ _ _ _ _ _ _ _ _ _ _ X0_ok ?_
  unfold n108
  have hlen : (daysOf x.days).length = (x.days.last - x.days.first + 1).toNat := by unfold daysOf; rw [List.length_map, List.length_range]
  refine t_loop (fun mm vs h' => h.le h' ∧ ∃ (i : Nat) (p : Option Addr) (n c : Nat) (M : List Int), vs = [.slice p n c, .int .i64 (x.days.first + i)] ∧ i ≤ (x.days.last - x.days.first + 1).toNat ∧ mm = (x.days.last - x.days.first + 1).toNat - i ∧ Growing IntEnc 3 1 h.get h'.get p n c M ∧ SetL M (metBy u L x.days i))
    ⟨LH.le_refl _, 0, none, 0, 0, [], by simp, Nat.zero_le _, rfl, Growing.nil, SetL.nil.congr fun m => by simp [metBy]⟩ ?_
  rintro Y mm vs h₁ hY ⟨hle, i, p, n, c', M, rfl, hi, rfl, g, hM⟩
  (repeat (first | (with_reducible first | apply gA | apply gB | apply gC | apply gD | apply gE | apply gF | apply gG | apply gH | apply gI | apply gJ | apply gK | apply gL | apply gM | apply gN | apply gO | apply gP | apply gQ | apply gR) | ((with_reducible apply gT); first | exact rfl | exact True.intro | omega | assumption) | ((with_reducible apply gS2); first | assumption | rfl) | ((with_reducible first | apply gL0 | apply gL1 | apply gL2 | apply gL3 | apply gL4); assumption)))
  refine t_if (fun e1 => ?_) (fun e1 => ?_)
  · have hI1 := hI.le IntE.grow hle.1
    have hu1 := hu.le hle.1
    have hr1 := hu1.requests
    have hn := hI.1
    have hIL := hp.1
    refine t_loop (fun mm vs h' => h₁ = h' ∧ ∃ (j acc : Nat), vs = [.int .i64 acc, .int .i64 j] ∧ j ≤ ln ∧ mm = ln - j ∧ acc < 2 ^ 32 ∧ meets u L (x.days.first + i) = meetsGo u (x.days.first + i) (L.drop j) j acc)
      ⟨rfl, 0, 0, rfl, Nat.zero_le _, rfl, by omega, rfl⟩ ?_
    rintro Y2 mm2 vs _ hY2 ⟨rfl, j, acc, rfl, hj, rfl, hacc, hc⟩
    (repeat (first | (with_reducible first | apply gA | apply gB | apply gC | apply gD | apply gE | apply gF | apply gG | apply gH | apply gI | apply gJ | apply gK | apply gL | apply gM | apply gN | apply gO | apply gP | apply gQ | apply gR) | ((with_reducible apply gT); first | exact rfl | exact True.intro | omega | assumption) | ((with_reducible apply gS2); first | assumption | rfl) | ((with_reducible first | apply gL0 | apply gL1 | apply gL2 | apply gL3 | apply gL4); assumption)))
    refine t_if (fun e2 => ?_) (fun e2 => ?_)
    · obtain ⟨i2, a, hi2, ha, e3⟩ := hI1.at (i := j) (by omega)
      unfold IntE at e3
      obtain ⟨k, r, rfl, hr, hLr⟩ := hp.at hi2
      have hkl : k < f.n6 := by rw [hr1.1]; exact (List.getElem?_eq_some_iff.1 hr).1
      obtain ⟨r', b, hr', hb, e4, e5, q', mq, cq, e6, e7⟩ := hr1.at (i := k) hkl
      rw [hr] at hr'; cases hr'
      rw [drop_of hLr, meetsGo] at hc
      have hrd := hdays r (List.mem_of_getElem? hLr)
      have hki : (0 : Int) ≤ k ∧ (k : Int) < f.n6 := ⟨by omega, by omega⟩
      (repeat (first | (with_reducible first | apply gA | apply gB | apply gC | apply gD | apply gE | apply gF | apply gG | apply gH | apply gI | apply gJ | apply gK | apply gL | apply gM | apply gN | apply gO | apply gP | apply gQ | apply gR) | ((with_reducible apply gT); first | exact rfl | exact True.intro | omega | assumption) | ((with_reducible apply gS2); first | assumption | rfl) | ((with_reducible first | apply gL0 | apply gL1 | apply gL2 | apply gL3 | apply gL4); assumption)))
      refine t_pu (c57 hu1 r.day hrd.2) ?_
      (repeat (first | (with_reducible first | apply gA | apply gB | apply gC | apply gD | apply gE | apply gF | apply gG | apply gH | apply gI | apply gJ | apply gK | apply gL | apply gM | apply gN | apply gO | apply gP | apply gQ | apply gR) | ((with_reducible apply gT); first | exact rfl | exact True.intro | omega | assumption) | ((with_reducible apply gS2); first | assumption | rfl) | ((with_reducible first | apply gL0 | apply gL1 | apply gL2 | apply gL3 | apply gL4); assumption)))
      refine t_pu (c89 _ _ _) ?_
      (repeat (first | (with_reducible first | apply gA | apply gB | apply gC | apply gD | apply gE | apply gF | apply gG | apply gH | apply gI | apply gJ | apply gK | apply gL | apply gM | apply gN | apply gO | apply gP | apply gQ | apply gR) | ((with_reducible apply gT); first | exact rfl | exact True.intro | omega | assumption) | ((with_reducible apply gS2); first | assumption | rfl) | ((with_reducible first | apply gL0 | apply gL1 | apply gL2 | apply gL3 | apply gL4); assumption)))
      refine t_cond (fun b => ?_) (fun b => ?_)
      · rw [if_pos b] at hc
        (repeat (first | (with_reducible first | apply gA | apply gB | apply gC | apply gD | apply gE | apply gF | apply gG | apply gH | apply gI | apply gJ | apply gK | apply gL | apply gM | apply gN | apply gO | apply gP | apply gQ | apply gR) | ((with_reducible apply gT); first | exact rfl | exact True.intro | omega | assumption) | ((with_reducible apply gS2); first | assumption | rfl) | ((with_reducible first | apply gL0 | apply gL1 | apply gL2 | apply gL3 | apply gL4); assumption)))
        rw [or_bits hacc (by omega)]
        refine t_again (hY2 (ln - (j + 1)) _ _ (by omega) ⟨rfl, j + 1, acc ||| 2 ^ j, ?_, by omega, rfl, Nat.or_lt_two_pow hacc (Nat.pow_lt_pow_right (by omega) (by omega)), hc⟩)
        rw [wrap_id (by omega) (by omega)]; rfl
      · rw [if_neg (by rw [b]; simp)] at hc
        refine t_again (hY2 (ln - (j + 1)) _ _ (by omega) ⟨rfl, j + 1, acc, ?_, by omega, rfl, hacc, hc⟩)
        rw [wrap_id (by omega) (by omega)]; rfl
    · (repeat (first | (with_reducible first | apply gA | apply gB | apply gC | apply gD | apply gE | apply gF | apply gG | apply gH | apply gI | apply gJ | apply gK | apply gL | apply gM | apply gN | apply gO | apply gP | apply gQ | apply gR) | ((with_reducible apply gT); first | exact rfl | exact True.intro | omega | assumption) | ((with_reducible apply gS2); first | assumption | rfl) | ((with_reducible first | apply gL0 | apply gL1 | apply gL2 | apply gL3 | apply gL4); assumption)))
      rw [List.drop_eq_nil_of_le (by omega), meetsGo] at hc
      have hlt : ∀ m, metBy u L x.days i m → m < 16 := fun m hm => Nat.lt_of_lt_of_le (metBy_lt hm) (pow16 hl4)
      have hMl := hM.len hlt
      have hng := g.count IntEnc.len (by omega)
      have hs := g.sl IntEnc.len (by omega) IntEnc.e (by omega)
      refine t_pu (c41 hs _) ?_
      (repeat (first | (with_reducible first | apply gA | apply gB | apply gC | apply gD | apply gE | apply gF | apply gG | apply gH | apply gI | apply gJ | apply gK | apply gL | apply gM | apply gN | apply gO | apply gP | apply gQ | apply gR) | ((with_reducible apply gT); first | exact rfl | exact True.intro | omega | assumption) | ((with_reducible apply gS2); first | assumption | rfl) | ((with_reducible first | apply gL0 | apply gL1 | apply gL2 | apply gL3 | apply gL4); assumption)))
      have hsucc := metBy_succ (u := u) (L := L) (x := x.days) (i := i) (by omega)
      have hwr : IntKind.wrap .i64 (x.days.first + i + 1) = x.days.first + ((i + 1 : Nat) : Int) := by rw [wrap_id (by omega) (by omega)]; omega
      refine t_cond (fun b => ?_) (fun b => ?_)
      · have hno : ((acc : Nat) : Int) ∉ M := by simpa using b
        refine t_pushI g hle (by omega) fun p' c2 h₂ hle2 g2 => ?_
        (repeat (first | (with_reducible first | apply gA | apply gB | apply gC | apply gD | apply gE | apply gF | apply gG | apply gH | apply gI | apply gJ | apply gK | apply gL | apply gM | apply gN | apply gO | apply gP | apply gQ | apply gR) | ((with_reducible apply gT); first | exact rfl | exact True.intro | omega | assumption) | ((with_reducible apply gS2); first | assumption | rfl) | ((with_reducible first | apply gL0 | apply gL1 | apply gL2 | apply gL3 | apply gL4); assumption)))
        rw [hwr]
        refine t_again (hY _ _ _ (by omega) ⟨hle2, i + 1, p', n + 1, c2, M ++ [(acc : Int)], rfl, by omega, rfl, g2, (hM.snoc hno).congr fun m => ?_⟩)
        rw [hsucc, hc]
      · have hin : ((acc : Nat) : Int) ∈ M := by simpa using b
        rw [hwr]
        refine t_again (hY _ _ _ (by omega) ⟨hle, i + 1, p, n, c', M, rfl, by omega, rfl, g, (hM.old hin).congr fun m => ?_⟩)
        rw [hsucc, hc]
  · (repeat (first | (with_reducible first | apply gA | apply gB | apply gC | apply gD | apply gE | apply gF | apply gG | apply gH | apply gI | apply gJ | apply gK | apply gL | apply gM | apply gN | apply gO | apply gP | apply gQ | apply gR) | ((with_reducible apply gT); first | exact rfl | exact True.intro | omega | assumption) | ((with_reducible apply gS2); first | assumption | rfl) | ((with_reducible first | apply gL0 | apply gL1 | apply gL2 | apply gL3 | apply gL4); assumption)))
    have hlt : ∀ m, metBy u L x.days i m → m < 16 := fun m hm => Nat.lt_of_lt_of_le (metBy_lt hm) (pow16 hl4)
    have hMl := hM.len hlt
    refine t_ret ⟨hle, p, n, c', M, rfl, g.sl IntEnc.len (by omega) IntEnc.e (by omega), hM.congr fun m => ?_⟩
    unfold metBy
    rw [List.take_of_length_le (by omega), List.mem_map]
    constructor
    · rintro ⟨d, h1, h2⟩; exact ⟨d, h1, h2.symm⟩
    · rintro ⟨d, h1, h2⟩; exact ⟨d, h1, h2.symm⟩
end Go.Proofs.YtibibhojkfapnaaDoor
end
section
namespace Go.Proofs.YtibibhojkfapnaaDoor
open Go Go.TM Go.Proofs
attribute [local irreducible] T.wp CV FWK
theorem setCell_updU {h : Cells} {r o : Nat} {cs : Array Value} {el : TypeId} {fz : Nat × Nat} {v : Value} : (h.upd r (true, .cells cs el fz)).setCell ⟨r, o, none⟩ v = h.upd r (true, .cells (cs.setIfInBounds o v) el fz) := by
  funext k
  unfold Cells.setCell Cells.upd
  by_cases e : k = r
  · subst e; simp
  · simp [e]
theorem frozen_upd {h : Cells} {r o : Nat} {cs : Array Value} {el : TypeId} : (h.upd r (true, .cells cs el (0, 0))).frozen? ⟨r, o, none⟩ = false := by
  unfold Cells.frozen?
  simp [Cells.upd]
theorem reachL_snoc {u : UseFile} {L : List Request} {p : Paper} : ∀ {ps : List Paper} {R : List Nat}, reachL u L (ps ++ [p]) R = stepL ((daysOf p.days).map (meets u L)) (reachL u L ps R) := by
  intro ps
  induction ps with
  | nil => intro R; rfl
  | cons q ps ih => intro R; rw [List.cons_append, reachL, ih, reachL]
theorem mem_stepL {ms R : List Nat} {s : Nat} : s ∈ stepL ms R ↔ ∃ a ∈ R, ∃ b ∈ ms, s = a ||| b := by
  unfold stepL
  simp only [List.mem_flatMap, List.mem_map]
  constructor
  · rintro ⟨a, h1, b, h2, h3⟩; exact ⟨a, h1, b, h2, h3.symm⟩
  · rintro ⟨a, h1, b, h2, h3⟩; exact ⟨a, h1, b, h2, h3.symm⟩
def Mix (R M : List Int) (ia : Nat) (s : Nat) : Prop := ∃ a b : Nat, (a : Int) ∈ R.take ia ∧ (b : Int) ∈ M ∧ s = a ||| b
def Mix2 (R M : List Int) (ia ib : Nat) (s : Nat) : Prop := Mix R M ia s ∨ ∃ a b : Nat, R[ia]? = some (a : Int) ∧ (b : Int) ∈ M.take ib ∧ s = a ||| b
theorem mix_next {R M : List Int} {ia : Nat} {a : Nat} (ha : R[ia]? = some (a : Int)) (s : Nat) : Mix2 R M ia M.length s ↔ Mix R M (ia + 1) s := by
  unfold Mix2 Mix
  rw [List.take_length, List.take_add_one, ha]
  simp only [Option.toList, List.mem_append, List.mem_singleton]
  constructor
  · rintro (⟨x, y, h1, h2, h3⟩ | ⟨x, y, h1, h2, h3⟩)
    · exact ⟨x, y, .inl h1, h2, h3⟩
    · cases h1; exact ⟨_, y, .inr rfl, h2, h3⟩
  · rintro ⟨x, y, h1 | h1, h2, h3⟩
    · exact .inl ⟨x, y, h1, h2, h3⟩
    · exact .inr ⟨x, y, by rw [h1], h2, h3⟩
theorem mix2_next {R M : List Int} {ia ib : Nat} {a b : Nat} (ha : R[ia]? = some (a : Int)) (hb : M[ib]? = some (b : Int)) (s : Nat) : Mix2 R M ia (ib + 1) s ↔ (Mix2 R M ia ib s ∨ s = a ||| b) := by
  unfold Mix2
  rw [List.take_add_one, hb]
  simp only [Option.toList, List.mem_append, List.mem_singleton]
  constructor
  · rintro (h | ⟨x, y, h1, h2 | h2, h3⟩)
    · exact .inl (.inl h)
    · exact .inl (.inr ⟨x, y, h1, h2, h3⟩)
    · rw [ha] at h1
      have e1 : a = x := by simp at h1; omega
      have e2 : y = b := by omega
      subst e1; subst e2
      exact .inr h3
  · rintro ((h | ⟨x, y, h1, h2, h3⟩) | h)
    · exact .inl h
    · exact .inr ⟨x, y, h1, .inl h2, h3⟩
    · exact .inr ⟨a, b, ha, .inr rfl, h⟩
theorem mix_zero {R M : List Int} (s : Nat) : Mix R M 0 s ↔ False := by unfold Mix; simp
theorem mix2_zero {R M : List Int} {ia : Nat} (s : Nat) : Mix2 R M ia 0 s ↔ Mix R M ia s := by unfold Mix2; simp
theorem mix_all {R M : List Int} {Rn : List Nat} {ms : List Nat} (hR : SetL R (fun s => s ∈ Rn)) (hM : SetL M (fun s => s ∈ ms)) (s : Nat) : Mix R M R.length s ↔ s ∈ stepL ms Rn := by
  unfold Mix
  rw [List.take_length, mem_stepL]
  constructor
  · rintro ⟨a, b, h1, h2, h3⟩
    obtain ⟨a', e1, h1⟩ := (hR.2 _).1 h1
    obtain ⟨b', e2, h2⟩ := (hM.2 _).1 h2
    have : a = a' := by omega
    have : b = b' := by omega
    subst a'; subst b'
    exact ⟨a, h1, b, h2, h3⟩
  · rintro ⟨a, h1, b, h2, h3⟩
    exact ⟨a, b, (hR.2 _).2 ⟨a, rfl, h1⟩, (hM.2 _).2 ⟨b, rfl, h2⟩, h3⟩
theorem SetL.at {R : List Int} {S : Nat → Prop} (s : SetL R S) {i : Nat} {x : Int} (hx : R[i]? = some x) : ∃ a : Nat, x = a ∧ S a := (s.2 x).1 (List.mem_of_getElem? hx)
theorem c104 {h : LH} {f : FileC} {u : UseFile} (hu : FileR h.get f u) (hck : checkF u = 0) {I : List Int} {L : List Request} {lp : Option Addr} {ln lc : Nat} (hI : Sl IntE 1 h.get lp ln I) (hp : Pick u.requests I L) (hl4 : L.length ≤ 4) (hdays : ∀ r ∈ L, 0 ≤ r.day ∧ r.day ≤ 2000) (land item : Int) :
    Gr Tryd.prog 104 #[fileV f u, .int .i64 land, .int .i64 item, .slice lp ln lc] h fun r _ => r = .bool (can u land item L) := by
  refine w104 _ _ _ _ _ _ _ _ _ _ _ _ _ _ _ _ _ _ X0_ok ?_
  unfold n104
  have hIL := hp.1
  have hn := hI.1
  refine t_build und50 inf3 (by decide) (by decide) (cells := #[.int .i64 0]) (by kernel_rfl) fun r hr => ?_
  (repeat (first | (with_reducible first | apply gA | apply gB | apply gC | apply gD | apply gE | apply gF | apply gG | apply gH | apply gI | apply gJ | apply gK | apply gL | apply gM | apply gN | apply gO | apply gP | apply gQ | apply gR) | ((with_reducible apply gT); first | exact rfl | exact True.intro | omega | assumption) | ((with_reducible apply gS2); first | assumption | rfl) | ((with_reducible first | apply gL0 | apply gL1 | apply gL2 | apply gL3 | apply gL4); assumption)))
  have lex : ∀ acc : Nat, h.le { h with get := h.get.upd r (true, .cells #[.int .i64 (acc : Int)] 3 (0, 0)) } := fun acc => LH.upd_le hr
  refine t_loop (fun mm vs h' => ∃ (j acc : Nat), h' = { h with get := h.get.upd r (true, .cells #[.int .i64 (acc : Int)] 3 (0, 0)) } ∧ vs = [.int .i64 j] ∧ j ≤ ln ∧ mm = ln - j ∧ acc < 2 ^ 32 ∧ meets u L u.from_ = meetsGo u u.from_ (L.drop j) j acc)
      ⟨0, 0, rfl, rfl, Nat.zero_le _, rfl, by omega, rfl⟩ ?_
  rintro Y mm vs _ hY ⟨j, acc, rfl, rfl, hj, rfl, hacc, hc⟩
  have hle := lex acc
  have hI1 := hI.le IntE.grow hle.1
  have hu1 := hu.le hle.1
  have hr1 := hu1.requests
  have hcell : (h.get.upd r (true, .cells #[.int .i64 (acc : Int)] 3 (0, 0))).cell? ⟨r, 0, none⟩ = some (.int .i64 (acc : Int)) := cell_upd rfl
  have hcell0 : (h.get.upd r (true, .cells #[.int .i64 (acc : Int)] 3 (0, 0))).cell? (Addr.add ⟨r, 0, none⟩ 0) = some (.int .i64 (acc : Int)) := hcell
  have hcell00 : (h.get.upd r (true, .cells #[.int .i64 (acc : Int)] 3 (0, 0))).cell? (Addr.add (Addr.add ⟨r, 0, none⟩ 0) 0) = some (.int .i64 (acc : Int)) := hcell
  (repeat (first | (with_reducible first | apply gA | apply gB | apply gC | apply gD | apply gE | apply gF | apply gG | apply gH | apply gI | apply gJ | apply gK | apply gL | apply gM | apply gN | apply gO | apply gP | apply gQ | apply gR) | ((with_reducible apply gT); first | exact rfl | exact True.intro | omega | assumption) | ((with_reducible apply gS2); first | assumption | rfl) | ((with_reducible first | apply gL0 | apply gL1 | apply gL2 | apply gL3 | apply gL4); assumption)))
  refine t_if (fun e2 => ?_) (fun e2 => ?_)
  · obtain ⟨i2, a, hi2, ha, e3⟩ := hI1.at (i := j) (by omega)
    unfold IntE at e3
    obtain ⟨k, q, rfl, hq, hLr⟩ := hp.at hi2
    have hkl : k < f.n6 := by rw [hr1.1]; exact (List.getElem?_eq_some_iff.1 hq).1
    obtain ⟨q', b, hq', hb, e4, e5, q2, mq, cq, e6, e7⟩ := hr1.at (i := k) hkl
    rw [hq] at hq'; cases hq'
    rw [drop_of hLr, meetsGo] at hc
    have hrd := hdays q (List.mem_of_getElem? hLr)
    have hki : (0 : Int) ≤ k ∧ (k : Int) < f.n6 := ⟨by omega, by omega⟩
    (repeat (first | (with_reducible first | apply gA | apply gB | apply gC | apply gD | apply gE | apply gF | apply gG | apply gH | apply gI | apply gJ | apply gK | apply gL | apply gM | apply gN | apply gO | apply gP | apply gQ | apply gR) | ((with_reducible apply gT); first | exact rfl | exact True.intro | omega | assumption) | ((with_reducible apply gS2); first | assumption | rfl) | ((with_reducible first | apply gL0 | apply gL1 | apply gL2 | apply gL3 | apply gL4); assumption)))
    refine t_pu (c57 hu1 q.day hrd.2) ?_
    (repeat (first | (with_reducible first | apply gA | apply gB | apply gC | apply gD | apply gE | apply gF | apply gG | apply gH | apply gI | apply gJ | apply gK | apply gL | apply gM | apply gN | apply gO | apply gP | apply gQ | apply gR) | ((with_reducible apply gT); first | exact rfl | exact True.intro | omega | assumption) | ((with_reducible apply gS2); first | assumption | rfl) | ((with_reducible first | apply gL0 | apply gL1 | apply gL2 | apply gL3 | apply gL4); assumption)))
    refine t_pu (c89 _ _ _) ?_
    (repeat (first | (with_reducible first | apply gA | apply gB | apply gC | apply gD | apply gE | apply gF | apply gG | apply gH | apply gI | apply gJ | apply gK | apply gL | apply gM | apply gN | apply gO | apply gP | apply gQ | apply gR) | ((with_reducible apply gT); first | exact rfl | exact True.intro | omega | assumption) | ((with_reducible apply gS2); first | assumption | rfl) | ((with_reducible first | apply gL0 | apply gL1 | apply gL2 | apply gL3 | apply gL4); assumption)))
    refine t_cond (fun b => ?_) (fun b => ?_)
    · rw [if_pos b] at hc
      (repeat (first | (with_reducible first | apply gA | apply gB | apply gC | apply gD | apply gE | apply gF | apply gG | apply gH | apply gI | apply gJ | apply gK | apply gL | apply gM | apply gN | apply gO | apply gP | apply gQ | apply gR) | ((with_reducible apply gT); first | exact rfl | exact True.intro | omega | assumption) | ((with_reducible apply gS2); first | assumption | rfl) | ((with_reducible first | apply gL0 | apply gL1 | apply gL2 | apply gL3 | apply gL4); assumption)))
      rw [or_bits hacc (by omega)]
      refine t_store (v₀ := .int .i64 (acc : Int)) rfl ⟨_, Cells.upd_self _ _ _⟩ hcell0 frozen_upd ?_
      refine t_again (hY (ln - (j + 1)) _ _ (by omega) ⟨j + 1, acc ||| 2 ^ j, ?_, ?_, by omega, rfl, Nat.or_lt_two_pow hacc (Nat.pow_lt_pow_right (by omega) (by omega)), hc⟩)
      · show LH.mk _ _ _ _ = _
        congr 1
        exact setCell_updU
      · rw [wrap_id (by omega) (by omega)]; rfl
    · rw [if_neg (by rw [b]; simp)] at hc
      refine t_again (hY (ln - (j + 1)) _ _ (by omega) ⟨j + 1, acc, rfl, ?_, by omega, rfl, hacc, hc⟩)
      rw [wrap_id (by omega) (by omega)]; rfl
  · (repeat (first | (with_reducible first | apply gA | apply gB | apply gC | apply gD | apply gE | apply gF | apply gG | apply gH | apply gI | apply gJ | apply gK | apply gL | apply gM | apply gN | apply gO | apply gP | apply gQ | apply gR) | ((with_reducible apply gT); first | exact rfl | exact True.intro | omega | assumption) | ((with_reducible apply gS2); first | assumption | rfl) | ((with_reducible first | apply gL0 | apply gL1 | apply gL2 | apply gL3 | apply gL4); assumption)))
    rw [List.drop_eq_nil_of_le (by omega), meetsGo] at hc
    have hpp := hu.papers
    have hn5 := hpp.1
    have hpk := check_papers hck
    refine t_loop (fun mm vs h' => h.le h' ∧ ∃ (i : Nat) (p : Option Addr) (n c : Nat) (R : List Int), vs = [.slice p n c, .int .i64 i] ∧ i ≤ f.n5 ∧ mm = f.n5 - i ∧ Sl IntE 1 h'.get p n R ∧ SetL R (fun s => s ∈ reachL u L ((u.papers.take i).filter (showsB land item)) [meets u L u.from_]))
      ⟨hle, 0, _, 1, 1, [(acc : Int)], rfl, Nat.zero_le _, rfl, ⟨rfl, by simp, fun i x hx => ⟨_, rfl, ?_⟩⟩, ⟨by simp, fun s => by simp [reachL, hc]⟩⟩ ?_
    · cases i with
      | zero => simp at hx; subst hx; exact hcell
      | succ i => simp at hx
    rintro Y mm vs h₁ hY ⟨hle1, i, p, n, c, R, rfl, hi, rfl, hR, hS⟩
    have hlt16 : ∀ s, s ∈ reachL u L ((u.papers.take i).filter (showsB land item)) [meets u L u.from_] → s < 16 := fun s hs =>
      Nat.lt_of_lt_of_le (reach_lt (fun s hs => by simp at hs; subst hs; exact meets_lt' u L _) s hs) (pow16 hl4)
    (repeat (first | (with_reducible first | apply gA | apply gB | apply gC | apply gD | apply gE | apply gF | apply gG | apply gH | apply gI | apply gJ | apply gK | apply gL | apply gM | apply gN | apply gO | apply gP | apply gQ | apply gR) | ((with_reducible apply gT); first | exact rfl | exact True.intro | omega | assumption) | ((with_reducible apply gS2); first | assumption | rfl) | ((with_reducible first | apply gL0 | apply gL1 | apply gL2 | apply gL3 | apply gL4); assumption)))
    refine t_if (fun e5 => ?_) (fun e5 => ?_)
    · obtain ⟨x, a, hx, ha, x1, x2, x3, q, m, cq, x4, x5⟩ := (hpp.le PaperE.grow hle1.1).at (i := i) (by omega)
      have hxk := hpk.2 x (List.mem_of_getElem? hx)
      have htk : (u.papers.take (i + 1)).filter (showsB land item) = (u.papers.take i).filter (showsB land item) ++ (if showsB land item x then [x] else []) := by
        rw [List.take_add_one, hx, List.filter_append]
        congr 1
        cases hs : showsB land item x <;> simp [hs]
      (repeat (first | (with_reducible first | apply gA | apply gB | apply gC | apply gD | apply gE | apply gF | apply gG | apply gH | apply gI | apply gJ | apply gK | apply gL | apply gM | apply gN | apply gO | apply gP | apply gQ | apply gR) | ((with_reducible apply gT); first | exact rfl | exact True.intro | omega | assumption) | ((with_reducible apply gS2); first | assumption | rfl) | ((with_reducible first | apply gL0 | apply gL1 | apply gL2 | apply gL3 | apply gL4); assumption)))
      refine t_pu (c90 (x := x) x5 land item) ?_
      (repeat (first | (with_reducible first | apply gA | apply gB | apply gC | apply gD | apply gE | apply gF | apply gG | apply gH | apply gI | apply gJ | apply gK | apply gL | apply gM | apply gN | apply gO | apply gP | apply gQ | apply gR) | ((with_reducible apply gT); first | exact rfl | exact True.intro | omega | assumption) | ((with_reducible apply gS2); first | assumption | rfl) | ((with_reducible first | apply gL0 | apply gL1 | apply gL2 | apply gL3 | apply gL4); assumption)))
      refine t_cond (fun b => ?_) (fun b => ?_)
      · have b' : showsB land item x = false := by simpa using b
        rw [b', if_neg (by simp), List.append_nil] at htk
        refine t_again (hY (f.n5 - (i + 1)) _ _ (by omega) ⟨hle1, i + 1, p, n, c, R, ?_, by omega, rfl, hR, by rw [htk]; exact hS⟩)
        rw [wrap_id (by omega) (by omega)]; rfl
      have b' : showsB land item x = true := by simpa using b
      rw [b', if_pos rfl] at htk
      (repeat (first | (with_reducible first | apply gA | apply gB | apply gC | apply gD | apply gE | apply gF | apply gG | apply gH | apply gI | apply gJ | apply gK | apply gL | apply gM | apply gN | apply gO | apply gP | apply gQ | apply gR) | ((with_reducible apply gT); first | exact rfl | exact True.intro | omega | assumption) | ((with_reducible apply gS2); first | assumption | rfl) | ((with_reducible first | apply gL0 | apply gL1 | apply gL2 | apply gL3 | apply gL4); assumption)))
      refine t_gr (c108 (x := x) (hu.le hle1.1) hck (hI.le IntE.grow hle1.1) hp hl4 hdays hxk q m cq) ?_
      rintro _ h₂ le2 ⟨pm, nm, cm, M, rfl, hM, hMS⟩
      have hR2 := hR.le IntE.grow le2.1
      have hnR := hR.1
      have hnM := hM.1
      have hRl := hS.len hlt16
      have hM16 : ∀ s, s ∈ (daysOf x.days).map (meets u L) → s < 16 := fun s hs => by
        obtain ⟨d, _, rfl⟩ := List.mem_map.1 hs
        exact Nat.lt_of_lt_of_le (meets_lt' u L d) (pow16 hl4)
      have hMl := hMS.len hM16
      have hmix : ∀ ia ib s, Mix2 R M ia ib s → s < 16 := by
        have or16 : ∀ a b : Nat, a < 16 → b < 16 → a ||| b < 16 := fun a b ha hb => Nat.or_lt_two_pow (n := 4) ha hb
        rintro ia ib s (⟨a, b, h1, h2, rfl⟩ | ⟨a, b, h1, h2, rfl⟩)
        · obtain ⟨a', e1, h1⟩ := (hS.2 _).1 (List.mem_of_mem_take h1)
          obtain ⟨b', e2, h2⟩ := (hMS.2 _).1 h2
          have := hlt16 _ h1
          have := hM16 _ h2
          exact or16 _ _ (by omega) (by omega)
        · obtain ⟨a', e1, h1⟩ := hS.at h1
          obtain ⟨b', e2, h2⟩ := (hMS.2 _).1 (List.mem_of_mem_take h2)
          have := hlt16 _ h1
          have := hM16 _ h2
          exact or16 _ _ (by omega) (by omega)
      (repeat (first | (with_reducible first | apply gA | apply gB | apply gC | apply gD | apply gE | apply gF | apply gG | apply gH | apply gI | apply gJ | apply gK | apply gL | apply gM | apply gN | apply gO | apply gP | apply gQ | apply gR) | ((with_reducible apply gT); first | exact rfl | exact True.intro | omega | assumption) | ((with_reducible apply gS2); first | assumption | rfl) | ((with_reducible first | apply gL0 | apply gL1 | apply gL2 | apply gL3 | apply gL4); assumption)))
      refine t_loop (fun mm vs h' => h₂.le h' ∧ ∃ (ia : Nat) (pn : Option Addr) (nn cn : Nat) (N : List Int), vs = [.slice pn nn cn, .int .i64 ia] ∧ ia ≤ n ∧ mm = n - ia ∧ Growing IntEnc 3 1 h₂.get h'.get pn nn cn N ∧ SetL N (Mix R M ia))
        ⟨LH.le_refl _, 0, none, 0, 0, [], rfl, Nat.zero_le _, rfl, Growing.nil, SetL.nil.congr fun s => (mix_zero s).symm⟩ ?_
      rintro Ya mma vs h₃ hYa ⟨hle3, ia, pn, nn, cn, N, rfl, hia, rfl, gN, hN⟩
      (repeat (first | (with_reducible first | apply gA | apply gB | apply gC | apply gD | apply gE | apply gF | apply gG | apply gH | apply gI | apply gJ | apply gK | apply gL | apply gM | apply gN | apply gO | apply gP | apply gQ | apply gR) | ((with_reducible apply gT); first | exact rfl | exact True.intro | omega | assumption) | ((with_reducible apply gS2); first | assumption | rfl) | ((with_reducible first | apply gL0 | apply gL1 | apply gL2 | apply gL3 | apply gL4); assumption)))
      refine t_if (fun e7 => ?_) (fun e7 => ?_)
      · obtain ⟨ra, aR, hra, haR, era⟩ := (hR2.le IntE.grow hle3.1).at (i := ia) (by omega)
        obtain ⟨va, rfl, hva⟩ := hS.at hra
        refine t_loop (fun mm vs h' => h₂.le h' ∧ ∃ (ib : Nat) (pn : Option Addr) (nn cn : Nat) (N : List Int), vs = [.slice pn nn cn, .int .i64 ib] ∧ ib ≤ nm ∧ mm = nm - ib ∧ Growing IntEnc 3 1 h₂.get h'.get pn nn cn N ∧ SetL N (Mix2 R M ia ib))
          ⟨hle3, 0, pn, nn, cn, N, rfl, Nat.zero_le _, rfl, gN, hN.congr fun s => (mix2_zero s).symm⟩ ?_
        clear gN hN era haR hra hle3
        rintro Yb mmb vs h₄ hYb ⟨hle4, ib, pn, nn, cn, N, rfl, hib, rfl, gN, hN⟩
        obtain ⟨ra', aR, hra, haR, era⟩ := (hR2.le IntE.grow hle4.1).at (i := ia) (by omega)
        obtain ⟨va', rfl, hva'⟩ := hS.at hra
        unfold IntE at era
        (repeat (first | (with_reducible first | apply gA | apply gB | apply gC | apply gD | apply gE | apply gF | apply gG | apply gH | apply gI | apply gJ | apply gK | apply gL | apply gM | apply gN | apply gO | apply gP | apply gQ | apply gR) | ((with_reducible apply gT); first | exact rfl | exact True.intro | omega | assumption) | ((with_reducible apply gS2); first | assumption | rfl) | ((with_reducible first | apply gL0 | apply gL1 | apply gL2 | apply gL3 | apply gL4); assumption)))
        refine t_if (fun e8 => ?_) (fun e8 => ?_)
        · obtain ⟨rb, aM, hrb, haM, erb⟩ := (hM.le IntE.grow hle4.1).at (i := ib) (by omega)
          obtain ⟨vb, rfl, hvb⟩ := hMS.at hrb
          unfold IntE at erb
          have hNl := hN.len (hmix _ _)
          have hng := gN.count IntEnc.len (by omega)
          have hsN := gN.sl IntEnc.len (by omega) IntEnc.e (by omega)
          (repeat (first | (with_reducible first | apply gA | apply gB | apply gC | apply gD | apply gE | apply gF | apply gG | apply gH | apply gI | apply gJ | apply gK | apply gL | apply gM | apply gN | apply gO | apply gP | apply gQ | apply gR) | ((with_reducible apply gT); first | exact rfl | exact True.intro | omega | assumption) | ((with_reducible apply gS2); first | assumption | rfl) | ((with_reducible first | apply gL0 | apply gL1 | apply gL2 | apply gL3 | apply gL4); assumption)))
          rw [or_small (hlt16 _ hva') (hM16 _ hvb)]
          refine t_pu (c41 hsN _) ?_
          (repeat (first | (with_reducible first | apply gA | apply gB | apply gC | apply gD | apply gE | apply gF | apply gG | apply gH | apply gI | apply gJ | apply gK | apply gL | apply gM | apply gN | apply gO | apply gP | apply gQ | apply gR) | ((with_reducible apply gT); first | exact rfl | exact True.intro | omega | assumption) | ((with_reducible apply gS2); first | assumption | rfl) | ((with_reducible first | apply gL0 | apply gL1 | apply gL2 | apply gL3 | apply gL4); assumption)))
          have hsucc := mix2_next (ib := ib) hra hrb
          refine t_cond (fun b => ?_) (fun b => ?_)
          · have hno : ((va' ||| vb : Nat) : Int) ∉ N := by simpa using b
            refine t_pushI gN hle4 (by omega) fun p' c2 h₅ hle5 g2 => ?_
            (repeat (first | (with_reducible first | apply gA | apply gB | apply gC | apply gD | apply gE | apply gF | apply gG | apply gH | apply gI | apply gJ | apply gK | apply gL | apply gM | apply gN | apply gO | apply gP | apply gQ | apply gR) | ((with_reducible apply gT); first | exact rfl | exact True.intro | omega | assumption) | ((with_reducible apply gS2); first | assumption | rfl) | ((with_reducible first | apply gL0 | apply gL1 | apply gL2 | apply gL3 | apply gL4); assumption)))
            refine t_again (hYb (nm - (ib + 1)) _ _ (by omega) ⟨hle5, ib + 1, p', nn + 1, c2, _, ?_, by omega, rfl, g2, (hN.snoc hno).congr fun s => (hsucc s).symm⟩)
            rw [wrap_id (by omega) (by omega)]; rfl
          · have hin : ((va' ||| vb : Nat) : Int) ∈ N := by simpa using b
            refine t_again (hYb (nm - (ib + 1)) _ _ (by omega) ⟨hle4, ib + 1, pn, nn, cn, N, ?_, by omega, rfl, gN, (hN.old hin).congr fun s => (hsucc s).symm⟩)
            rw [wrap_id (by omega) (by omega)]; rfl
        · (repeat (first | (with_reducible first | apply gA | apply gB | apply gC | apply gD | apply gE | apply gF | apply gG | apply gH | apply gI | apply gJ | apply gK | apply gL | apply gM | apply gN | apply gO | apply gP | apply gQ | apply gR) | ((with_reducible apply gT); first | exact rfl | exact True.intro | omega | assumption) | ((with_reducible apply gS2); first | assumption | rfl) | ((with_reducible first | apply gL0 | apply gL1 | apply gL2 | apply gL3 | apply gL4); assumption)))
          have hibe : ib = M.length := by omega
          subst hibe
          refine t_again (hYa (n - (ia + 1)) _ _ (by omega) ⟨hle4, ia + 1, pn, nn, cn, N, ?_, by omega, rfl, gN, hN.congr fun s => mix_next hra s⟩)
          rw [wrap_id (by omega) (by omega)]; rfl
      · (repeat (first | (with_reducible first | apply gA | apply gB | apply gC | apply gD | apply gE | apply gF | apply gG | apply gH | apply gI | apply gJ | apply gK | apply gL | apply gM | apply gN | apply gO | apply gP | apply gQ | apply gR) | ((with_reducible apply gT); first | exact rfl | exact True.intro | omega | assumption) | ((with_reducible apply gS2); first | assumption | rfl) | ((with_reducible first | apply gL0 | apply gL1 | apply gL2 | apply gL3 | apply gL4); assumption)))
        have hiae : ia = R.length := by omega
        subst hiae
        have hNl := hN.len fun m hm => hmix _ 0 _ ((mix2_zero m).2 hm)
        refine t_again (hY (f.n5 - (i + 1)) _ _ (by omega) ⟨LH.le_trans (LH.le_trans hle1 le2) hle3, i + 1, pn, nn, cn, N, ?_, by omega, rfl, gN.sl IntEnc.len (by omega) IntEnc.e (by omega), ?_⟩)
        · rw [wrap_id (by omega) (by omega)]; rfl
        · rw [htk, reachL_snoc]
          exact hN.congr fun s => mix_all hS hMS s
    · (repeat (first | (with_reducible first | apply gA | apply gB | apply gC | apply gD | apply gE | apply gF | apply gG | apply gH | apply gI | apply gJ | apply gK | apply gL | apply gM | apply gN | apply gO | apply gP | apply gQ | apply gR) | ((with_reducible apply gT); first | exact rfl | exact True.intro | omega | assumption) | ((with_reducible apply gS2); first | assumption | rfl) | ((with_reducible first | apply gL0 | apply gL1 | apply gL2 | apply gL3 | apply gL4); assumption)))
      have hRl := hS.len hlt16
      rw [List.take_of_length_le (by omega)] at hS
      have hval : IntKind.wrap .i64 (IntKind.wrap .i64 (1 * 2 ^ min (Int.toNat (ln : Int)) 64) - 1) = ((2 ^ L.length - 1 : Nat) : Int) := by
        have hln : ln = L.length := by omega
        rw [hln]
        have : L.length = 0 ∨ L.length = 1 ∨ L.length = 2 ∨ L.length = 3 ∨ L.length = 4 := by omega
        rcases this with e | e | e | e | e <;> rw [e] <;> rfl
      rw [hval]
      refine t_pu (c41 hR _) ?_
      (repeat (first | (with_reducible first | apply gA | apply gB | apply gC | apply gD | apply gE | apply gF | apply gG | apply gH | apply gI | apply gJ | apply gK | apply gL | apply gM | apply gN | apply gO | apply gP | apply gQ | apply gR) | ((with_reducible apply gT); first | exact rfl | exact True.intro | omega | assumption) | ((with_reducible apply gS2); first | assumption | rfl) | ((with_reducible first | apply gL0 | apply gL1 | apply gL2 | apply gL3 | apply gL4); assumption)))
      refine t_ret ⟨hle1, ?_⟩
      congr 1
      rw [can, Bool.eq_iff_iff, List.contains_iff_mem, List.contains_iff_mem, hS.2]
      constructor
      · rintro ⟨m, h1, h2⟩
        have : m = 2 ^ L.length - 1 := by omega
        subst this; exact h2
      · intro h2; exact ⟨_, rfl, h2⟩
end Go.Proofs.YtibibhojkfapnaaDoor
end
section
namespace Go.Proofs.YtibibhojkfapnaaDoor
open Go Go.TM Go.Proofs
attribute [local irreducible] T.wp CV FWK
theorem c92 {h : LH} {f : FileC} {u : UseFile} (hu : FileR h.get f u) (hck : checkF u = 0) (land item day : Int) :
    Gr Tryd.prog 92 #[fileV f u, .int .i64 land, .int .i64 item, .int .i64 day] h fun r _ => r = .int .i64 (left u land item day) := by
  refine w92 _ _ _ _ _ _ _ _ _ _ _ _ _ _ _ _ X0_ok ?_
  unfold n92
  refine t_gr (c103 hu hck land item day) ?_
  rintro _ h₁ le1 ⟨p, n, c, I, rfl, hI, hp⟩
  have hu1 := hu.le le1.1
  have hr1 := hu1.requests
  have hn := hI.1
  have hIL := hp.1
  have hdays : ∀ r ∈ against u land item day, 0 ≤ r.day ∧ r.day ≤ 2000 := fun r hr => (check_requests hck).2 r (against_sub r hr)
  have hl4 := against_len hck land item day
  (repeat (first | (with_reducible first | apply gA | apply gB | apply gC | apply gD | apply gE | apply gF | apply gG | apply gH | apply gI | apply gJ | apply gK | apply gL | apply gM | apply gN | apply gO | apply gP | apply gQ | apply gR) | ((with_reducible apply gT); first | exact rfl | exact True.intro | omega | assumption) | ((with_reducible apply gS2); first | assumption | rfl) | ((with_reducible first | apply gL0 | apply gL1 | apply gL2 | apply gL3 | apply gL4); assumption)))
  refine t_loop (fun mm vs h' => h₁ = h' ∧ ∃ (i : Nat) (b : Bool), vs = [.bool b, .int .i64 i] ∧ i ≤ n ∧ mm = n - i ∧ ((against u land item day).all fun r => decide (safe u land item r.day = 1)) = (b && ((against u land item day).drop i).all fun r => decide (safe u land item r.day = 1)))
    ⟨rfl, 0, true, rfl, Nat.zero_le _, rfl, by simp⟩ ?_
  rintro Y mm vs _ hY ⟨rfl, i, b, rfl, hi, rfl, hc⟩
  (repeat (first | (with_reducible first | apply gA | apply gB | apply gC | apply gD | apply gE | apply gF | apply gG | apply gH | apply gI | apply gJ | apply gK | apply gL | apply gM | apply gN | apply gO | apply gP | apply gQ | apply gR) | ((with_reducible apply gT); first | exact rfl | exact True.intro | omega | assumption) | ((with_reducible apply gS2); first | assumption | rfl) | ((with_reducible first | apply gL0 | apply gL1 | apply gL2 | apply gL3 | apply gL4); assumption)))
  refine t_if (fun e1 => ?_) (fun e1 => ?_)
  · have hwr : IntKind.wrap .i64 ((i : Int) + 1) = ((i + 1 : Nat) : Int) := by
      have := hI.2.1
      rw [wrap_id (by omega) (by omega)]; rfl
    obtain ⟨i2, a, hi2, ha, e3⟩ := hI.at (i := i) (by omega)
    unfold IntE at e3
    obtain ⟨k, q, rfl, hq, hLr⟩ := hp.at hi2
    have hkl : k < f.n6 := by rw [hr1.1]; exact (List.getElem?_eq_some_iff.1 hq).1
    obtain ⟨q', b2, hq', hb, e4, e5, q2, mq, cq, e6, e7⟩ := hr1.at (i := k) hkl
    rw [hq] at hq'; cases hq'
    rw [drop_of hLr, List.all_cons] at hc
    have hrd := hdays q (List.mem_of_getElem? hLr)
    have hki : (0 : Int) ≤ k ∧ (k : Int) < f.n6 := ⟨by omega, by omega⟩
    refine t_cond (fun eb => ?_) (fun eb => ?_)
    · subst eb
      (repeat (first | (with_reducible first | apply gA | apply gB | apply gC | apply gD | apply gE | apply gF | apply gG | apply gH | apply gI | apply gJ | apply gK | apply gL | apply gM | apply gN | apply gO | apply gP | apply gQ | apply gR) | ((with_reducible apply gT); first | exact rfl | exact True.intro | omega | assumption) | ((with_reducible apply gS2); first | assumption | rfl) | ((with_reducible first | apply gL0 | apply gL1 | apply gL2 | apply gL3 | apply gL4); assumption)))
      refine t_pu (c62 hu1 hck land item q.day hrd) ?_
      (repeat (first | (with_reducible first | apply gA | apply gB | apply gC | apply gD | apply gE | apply gF | apply gG | apply gH | apply gI | apply gJ | apply gK | apply gL | apply gM | apply gN | apply gO | apply gP | apply gQ | apply gR) | ((with_reducible apply gT); first | exact rfl | exact True.intro | omega | assumption) | ((with_reducible apply gS2); first | assumption | rfl) | ((with_reducible first | apply gL0 | apply gL1 | apply gL2 | apply gL3 | apply gL4); assumption)))
      rw [hwr]
      refine t_again (hY (n - (i + 1)) _ _ (by omega) ⟨rfl, i + 1, _, rfl, by omega, rfl, ?_⟩)
      rw [hc, Bool.true_and]
      congr 1
    · subst eb
      (repeat (first | (with_reducible first | apply gA | apply gB | apply gC | apply gD | apply gE | apply gF | apply gG | apply gH | apply gI | apply gJ | apply gK | apply gL | apply gM | apply gN | apply gO | apply gP | apply gQ | apply gR) | ((with_reducible apply gT); first | exact rfl | exact True.intro | omega | assumption) | ((with_reducible apply gS2); first | assumption | rfl) | ((with_reducible first | apply gL0 | apply gL1 | apply gL2 | apply gL3 | apply gL4); assumption)))
      rw [hwr]
      refine t_again (hY (n - (i + 1)) _ _ (by omega) ⟨rfl, i + 1, false, rfl, by omega, rfl, ?_⟩)
      rw [hc]; simp
  · (repeat (first | (with_reducible first | apply gA | apply gB | apply gC | apply gD | apply gE | apply gF | apply gG | apply gH | apply gI | apply gJ | apply gK | apply gL | apply gM | apply gN | apply gO | apply gP | apply gQ | apply gR) | ((with_reducible apply gT); first | exact rfl | exact True.intro | omega | assumption) | ((with_reducible apply gS2); first | assumption | rfl) | ((with_reducible first | apply gL0 | apply gL1 | apply gL2 | apply gL3 | apply gL4); assumption)))
    rw [List.drop_eq_nil_of_le (by omega), List.all_nil, Bool.and_true] at hc
    refine t_cond (fun eb => ?_) (fun eb => ?_)
    · subst eb
      (repeat (first | (with_reducible first | apply gA | apply gB | apply gC | apply gD | apply gE | apply gF | apply gG | apply gH | apply gI | apply gJ | apply gK | apply gL | apply gM | apply gN | apply gO | apply gP | apply gQ | apply gR) | ((with_reducible apply gT); first | exact rfl | exact True.intro | omega | assumption) | ((with_reducible apply gS2); first | assumption | rfl) | ((with_reducible first | apply gL0 | apply gL1 | apply gL2 | apply gL3 | apply gL4); assumption)))
      exact t_ret ⟨le1, by rw [left, if_pos hc]⟩
    · subst eb
      have hnot : ¬ ((against u land item day).all fun r => decide (safe u land item r.day = 1)) = true := by rw [hc]; simp
      refine t_gr (c104 hu1 hck hI hp hl4 hdays land item) ?_
      rintro _ h₂ le2 rfl
      (repeat (first | (with_reducible first | apply gA | apply gB | apply gC | apply gD | apply gE | apply gF | apply gG | apply gH | apply gI | apply gJ | apply gK | apply gL | apply gM | apply gN | apply gO | apply gP | apply gQ | apply gR) | ((with_reducible apply gT); first | exact rfl | exact True.intro | omega | assumption) | ((with_reducible apply gS2); first | assumption | rfl) | ((with_reducible first | apply gL0 | apply gL1 | apply gL2 | apply gL3 | apply gL4); assumption)))
      refine t_cond (fun e => ?_) (fun e => ?_)
      · exact t_ret ⟨LH.le_trans le1 le2, by rw [left, if_neg hnot, if_pos e]⟩
      · exact t_ret ⟨LH.le_trans le1 le2, by rw [left, if_neg hnot, e]; rfl⟩
theorem t_pushS {X : XP} {Q : Leaf → LH → Prop} {h h₀ : LH} {k : Value → T} {p : Option Addr} {n c : Nat} {l : List Int} {x : Int} (g : Growing IntEnc 34 1 h₀.get h.get p n c l) (hle : h₀.le h) (hn : n + 1 ≤ 2 ^ 30)
    (hk : ∀ p' c' h', h₀.le h' → Growing IntEnc 34 1 h₀.get h'.get p' (n + 1) c' (l ++ [x]) → (k (.slice p' (n + 1) c')).wp X Tryd.prog Q h') :
    (T.sem false (Instr.buildSlice 40 1 #[(0, .int .i64 x)]) fun v => T.unS v fun a m c2 => T.sem false (Builtin.append_ #[40, 40] 40 #[.slice p n c, .slice a m c2]) k).wp X Tryd.prog Q h := by
  refine t_build und40 inf34 (by decide) (by decide) (cells := #[.int .i64 x]) (by kernel_rfl) fun r hr => ?_
  have le2 : h.le _ := LH.upd_le (x := (true, .cells #[.int .i64 x] 34 (0, 0))) hr
  refine gG ?_
  refine t_grow (h₀ := h₀) (x := x) (ws := [.int .i64 x]) rfl rfl und40 und40 inf34 rfl (by omega) hn (g.le le2.1) (LH.le_trans hle le2) rfl rfl ?_ ?_ ?_
  · intro j w hj
    rw [add_plain, Nat.zero_add]
    exact cell_upd (by simpa using hj)
  · intro w hw; simp at hw; subst hw; rfl
  · intro p' c' h₂ hle2 _ g2
    exact hk p' c' h₂ hle2 g2
theorem c65 {h : LH} {f : FileC} {u : UseFile} (hu : FileR h.get f u) (hck : checkF u = 0) (land day : Int) :
    Gr Tryd.prog 65 #[fileV f u, .int .i64 land, .int .i64 day] h fun r h' => ∃ p n c, r = .slice p n c ∧ Sl IntE 1 h'.get p n (leftAll u land day) := by
  refine w65 _ _ _ _ _ _ _ _ _ _ _ _ _ _ _ X0_ok ?_
  unfold n65
  have hit := (num_ok (check_num hck)).1
  have hlen : (leftAll u land day).length = u.items.toNat := by unfold leftAll; rw [List.length_map, List.length_range]
  refine t_loop (fun mm vs h' => h.le h' ∧ ∃ (i : Nat) (p : Option Addr) (n c : Nat), vs = [.slice p n c, .int .i64 i] ∧ i ≤ u.items.toNat ∧ mm = u.items.toNat - i ∧ Growing IntEnc 34 1 h.get h'.get p n c ((leftAll u land day).take i))
    ⟨LH.le_refl _, 0, none, 0, 0, rfl, Nat.zero_le _, rfl, Growing.nil⟩ ?_
  rintro Y mm vs h₁ hY ⟨hle, i, p, n, c, rfl, hi, rfl, g⟩
  (repeat (first | (with_reducible first | apply gA | apply gB | apply gC | apply gD | apply gE | apply gF | apply gG | apply gH | apply gI | apply gJ | apply gK | apply gL | apply gM | apply gN | apply gO | apply gP | apply gQ | apply gR) | ((with_reducible apply gT); first | exact rfl | exact True.intro | omega | assumption) | ((with_reducible apply gS2); first | assumption | rfl) | ((with_reducible first | apply gL0 | apply gL1 | apply gL2 | apply gL3 | apply gL4); assumption)))
  refine t_if (fun e1 => ?_) (fun e1 => ?_)
  · refine t_gr (c92 (hu.le hle.1) hck land i day) ?_
    rintro _ h₂ le2 rfl
    (repeat (first | (with_reducible first | apply gA | apply gB | apply gC | apply gD | apply gE | apply gF | apply gG | apply gH | apply gI | apply gJ | apply gK | apply gL | apply gM | apply gN | apply gO | apply gP | apply gQ | apply gR) | ((with_reducible apply gT); first | exact rfl | exact True.intro | omega | assumption) | ((with_reducible apply gS2); first | assumption | rfl) | ((with_reducible first | apply gL0 | apply gL1 | apply gL2 | apply gL3 | apply gL4); assumption)))
    have g2 := g.le le2.1
    have hng := g2.count IntEnc.len (by omega)
    have htl : ((leftAll u land day).take i).length ≤ i := by rw [List.length_take]; omega
    refine t_pushS g2 (LH.le_trans hle le2) (by omega) fun p' c' h₃ hle3 g3 => ?_
    (repeat (first | (with_reducible first | apply gA | apply gB | apply gC | apply gD | apply gE | apply gF | apply gG | apply gH | apply gI | apply gJ | apply gK | apply gL | apply gM | apply gN | apply gO | apply gP | apply gQ | apply gR) | ((with_reducible apply gT); first | exact rfl | exact True.intro | omega | assumption) | ((with_reducible apply gS2); first | assumption | rfl) | ((with_reducible first | apply gL0 | apply gL1 | apply gL2 | apply gL3 | apply gL4); assumption)))
    refine t_again (hY (u.items.toNat - (i + 1)) _ _ (by omega) ⟨hle3, i + 1, p', n + 1, c', ?_, by omega, rfl, by rw [leftAll_take i (by omega)]; exact g3⟩)
    rw [wrap_id (by omega) (by omega)]; rfl
  · (repeat (first | (with_reducible first | apply gA | apply gB | apply gC | apply gD | apply gE | apply gF | apply gG | apply gH | apply gI | apply gJ | apply gK | apply gL | apply gM | apply gN | apply gO | apply gP | apply gQ | apply gR) | ((with_reducible apply gT); first | exact rfl | exact True.intro | omega | assumption) | ((with_reducible apply gS2); first | assumption | rfl) | ((with_reducible first | apply gL0 | apply gL1 | apply gL2 | apply gL3 | apply gL4); assumption)))
    rw [List.take_of_length_le (by omega)] at g
    exact t_ret ⟨hle, p, n, c, rfl, g.sl IntEnc.len (by omega) IntEnc.e (by omega)⟩
theorem c24 {h : LH} {f : FileC} {u : UseFile} (hu : FileR h.get f u) (land day : Int) : Gr Tryd.prog 24 #[fileV f u, .int .i64 land, .int .i64 day] h fun r h' => LeftR h'.get u land day r := by
  refine w24 _ _ _ _ _ _ _ _ _ _ _ _ _ _ _ X0_ok ?_
  unfold n24
  refine t_pu (c64 hu land day) ?_
  (repeat (first | (with_reducible first | apply gA | apply gB | apply gC | apply gD | apply gE | apply gF | apply gG | apply gH | apply gI | apply gJ | apply gK | apply gL | apply gM | apply gN | apply gO | apply gP | apply gQ | apply gR) | ((with_reducible apply gT); first | exact rfl | exact True.intro | omega | assumption) | ((with_reducible apply gS2); first | assumption | rfl) | ((with_reducible first | apply gL0 | apply gL1 | apply gL2 | apply gL3 | apply gL4); assumption)))
  refine t_cond (fun b => ?_) (fun b => ?_)
  · have b' : openF u [landQ u land, dayQ day] ≠ 0 := by simpa using b
    exact t_ret ⟨LH.le_refl _, .inl ⟨b', rfl⟩⟩
  · have b' : openF u [landQ u land, dayQ day] = 0 := by simpa using b
    refine t_gr (c65 hu (open_num b').2 land day) ?_
    rintro _ h₁ le1 ⟨p, n, c, rfl, hs⟩
    (repeat (first | (with_reducible first | apply gA | apply gB | apply gC | apply gD | apply gE | apply gF | apply gG | apply gH | apply gI | apply gJ | apply gK | apply gL | apply gM | apply gN | apply gO | apply gP | apply gQ | apply gR) | ((with_reducible apply gT); first | exact rfl | exact True.intro | omega | assumption) | ((with_reducible apply gS2); first | assumption | rfl) | ((with_reducible first | apply gL0 | apply gL1 | apply gL2 | apply gL3 | apply gL4); assumption)))
    exact t_ret ⟨le1, .inr ⟨b', p, n, c, rfl, hs⟩⟩
theorem c29 {h : LH} {f : FileC} {u : UseFile} (hu : FileR h.get f u) (land day : Int) : Gr Tryd.prog 29 #[fileV f u, .int .i64 land, .int .i64 day] h fun r h' => LacksR h'.get u land day r := by
  refine w29 _ _ _ _ _ _ _ _ _ _ _ _ _ _ _ X0_ok ?_
  unfold n29
  refine t_pu (c64 hu land day) ?_
  (repeat (first | (with_reducible first | apply gA | apply gB | apply gC | apply gD | apply gE | apply gF | apply gG | apply gH | apply gI | apply gJ | apply gK | apply gL | apply gM | apply gN | apply gO | apply gP | apply gQ | apply gR) | ((with_reducible apply gT); first | exact rfl | exact True.intro | omega | assumption) | ((with_reducible apply gS2); first | assumption | rfl) | ((with_reducible first | apply gL0 | apply gL1 | apply gL2 | apply gL3 | apply gL4); assumption)))
  refine t_cond (fun b => ?_) (fun b => ?_)
  · have b' : openF u [landQ u land, dayQ day] ≠ 0 := by simpa using b
    exact t_ret ⟨LH.le_refl _, .inl ⟨b', rfl⟩⟩
  have h0 : openF u [landQ u land, dayQ day] = 0 := by simpa using b
  have hck := (open_num h0).2
  have hnum := check_num hck
  have hreq := check_requests hck
  have hitn := (num_ok hnum).1
  have hitems : ∀ r ∈ u.requests, r.items.length ≤ 6 := fun r hr => by have := rises_len' (check_items hck r hr) (by omega); omega
  have hlen6 := lacksGo_len (land := land) (day := day) hitems u.requests 0 fun r hr => hr
  have hn6 := hu.requests.1
  refine t_loop (fun mm vs h' => h.le h' ∧ ∃ (i : Nat) (p : Option Addr) (n c : Nat) (rs : List Lack), vs = [.slice p n c, .int .i64 i] ∧ i ≤ f.n6 ∧ mm = f.n6 - i ∧ Growing LackEnc 79 4 h.get h'.get p n c rs ∧ lacks u land day = rs ++ lacksGo u land day (u.requests.drop i) i)
    ⟨LH.le_refl _, 0, none, 0, 0, [], rfl, Nat.zero_le _, rfl, Growing.nil, rfl⟩ ?_
  rintro Y mm vs h₆ hY ⟨hle6, i, p, n, c, rs, rfl, hi, rfl, g, hc⟩
  (repeat (first | (with_reducible first | apply gA | apply gB | apply gC | apply gD | apply gE | apply gF | apply gG | apply gH | apply gI | apply gJ | apply gK | apply gL | apply gM | apply gN | apply gO | apply gP | apply gQ | apply gR) | ((with_reducible apply gT); first | exact rfl | exact True.intro | omega | assumption) | ((with_reducible apply gS2); first | assumption | rfl) | ((with_reducible first | apply gL0 | apply gL1 | apply gL2 | apply gL3 | apply gL4); assumption)))
  refine t_if (fun e1 => ?_) (fun e1 => ?_)
  · obtain ⟨x, a, hx, ha, e2, e3, q, mq, cq, e4, e5⟩ := hu.requests.at (i := i) (by omega)
    have e2 := Cells.cell?_le hle6.1 e2
    have e3 := Cells.cell?_le hle6.1 e3
    have e4 := Cells.cell?_le hle6.1 e4
    have hxm := List.mem_of_getElem? hx
    have hxd := hreq.2 x hxm
    have hx6 := hitems x hxm
    rw [drop_of hx, lacksGo] at hc
    (repeat (first | (with_reducible first | apply gA | apply gB | apply gC | apply gD | apply gE | apply gF | apply gG | apply gH | apply gI | apply gJ | apply gK | apply gL | apply gM | apply gN | apply gO | apply gP | apply gQ | apply gR) | ((with_reducible apply gT); first | exact rfl | exact True.intro | omega | assumption) | ((with_reducible apply gS2); first | assumption | rfl) | ((with_reducible first | apply gL0 | apply gL1 | apply gL2 | apply gL3 | apply gL4); assumption)))
    have next : ∀ h' p n c rs', h.le h' → Growing LackEnc 79 4 h.get h'.get p n c rs' → rs' = rs ++ lacksOf u land day i x → Y [.slice p n c, .int .i64 (IntKind.wrap .i64 ((i : Int) + 1))] h' := by
      rintro h' p n c rs' le' g' rfl
      refine hY (f.n6 - (i + 1)) _ _ (by omega) ⟨le', i + 1, p, n, c, _, ?_, by omega, rfl, g', by rw [hc, List.append_assoc]⟩
      rw [wrap_id (by omega) (by omega)]; rfl
    refine t_blk (fun vs h' => vs = [] ∧ h₆ = h' ∧ x.land = land ∧ x.day ≤ day) ?_ ?_
    · refine t_cond (fun b1 => ?_) (fun b1 => ?_)
      · refine gR ?_
        refine t_cond (fun _ => ?_) (fun e => by cases e)
        (repeat (first | (with_reducible first | apply gA | apply gB | apply gC | apply gD | apply gE | apply gF | apply gG | apply gH | apply gI | apply gJ | apply gK | apply gL | apply gM | apply gN | apply gO | apply gP | apply gQ | apply gR) | ((with_reducible apply gT); first | exact rfl | exact True.intro | omega | assumption) | ((with_reducible apply gS2); first | assumption | rfl) | ((with_reducible first | apply gL0 | apply gL1 | apply gL2 | apply gL3 | apply gL4); assumption)))
        refine t_again (next h₆ p n c rs hle6 g ?_)
        have : x.land ≠ land := by simpa using b1
        rw [lacksOf, if_pos (.inl this)]; simp
      · refine t_if (fun b2 => ?_) (fun b2 => ?_)
        · refine gR ?_
          refine t_cond (fun _ => ?_) (fun e => by cases e)
          (repeat (first | (with_reducible first | apply gA | apply gB | apply gC | apply gD | apply gE | apply gF | apply gG | apply gH | apply gI | apply gJ | apply gK | apply gL | apply gM | apply gN | apply gO | apply gP | apply gQ | apply gR) | ((with_reducible apply gT); first | exact rfl | exact True.intro | omega | assumption) | ((with_reducible apply gS2); first | assumption | rfl) | ((with_reducible first | apply gL0 | apply gL1 | apply gL2 | apply gL3 | apply gL4); assumption)))
          refine t_again (next h₆ p n c rs hle6 g ?_)
          rw [lacksOf, if_pos (.inr b2)]; simp
        · exact t_again ⟨rfl, rfl, by simpa using b1, by omega⟩
    · rintro vs _ ⟨rfl, rfl, hland, hday⟩
      (repeat (first | (with_reducible first | apply gA | apply gB | apply gC | apply gD | apply gE | apply gF | apply gG | apply gH | apply gI | apply gJ | apply gK | apply gL | apply gM | apply gN | apply gO | apply gP | apply gQ | apply gR) | ((with_reducible apply gT); first | exact rfl | exact True.intro | omega | assumption) | ((with_reducible apply gS2); first | assumption | rfl) | ((with_reducible first | apply gL0 | apply gL1 | apply gL2 | apply gL3 | apply gL4); assumption)))
      have hof : lacksOf u land day i x = (x.items.filter fun n => decide (safe u land n x.day ≠ 1)).map fun n => ⟨n, (i : Int), ⟨(window u x.day).first, x.day⟩⟩ := by
        rw [lacksOf, if_neg (by omega)]
      have hmq := e5.1
      refine t_loop (fun mm vs h' => ∃ (j : Nat) (p : Option Addr) (n c : Nat) (ss : List Lack), vs = [.slice p n c, .int .i64 j] ∧ j ≤ mq ∧ mm = mq - j ∧ ss.length ≤ j ∧ h.le h' ∧ Growing LackEnc 79 4 h.get h'.get p n c (rs ++ ss) ∧ lacksOf u land day i x = ss ++ ((x.items.drop j).filter fun n => decide (safe u land n x.day ≠ 1)).map fun n => ⟨n, (i : Int), ⟨(window u x.day).first, x.day⟩⟩)
        ⟨0, p, n, c, [], rfl, Nat.zero_le _, rfl, Nat.le_refl _, hle6, by simpa using g, hof⟩ ?_
      rintro Y2 mm vs h₇ hY2 ⟨j, p, n, c, ss, rfl, hj, rfl, hsl, hle7, g7, hc7⟩
      (repeat (first | (with_reducible first | apply gA | apply gB | apply gC | apply gD | apply gE | apply gF | apply gG | apply gH | apply gI | apply gJ | apply gK | apply gL | apply gM | apply gN | apply gO | apply gP | apply gQ | apply gR) | ((with_reducible apply gT); first | exact rfl | exact True.intro | omega | assumption) | ((with_reducible apply gS2); first | assumption | rfl) | ((with_reducible first | apply gL0 | apply gL1 | apply gL2 | apply gL3 | apply gL4); assumption)))
      refine t_if (fun e6 => ?_) (fun e6 => ?_)
      · obtain ⟨y, b, hy, hb, e7⟩ := e5.at (i := j) (by omega)
        unfold IntE at e7
        have e7h := e7
        have e7 := Cells.cell?_le hle7.1 e7
        rw [drop_of hy, List.filter_cons] at hc7
        (repeat (first | (with_reducible first | apply gA | apply gB | apply gC | apply gD | apply gE | apply gF | apply gG | apply gH | apply gI | apply gJ | apply gK | apply gL | apply gM | apply gN | apply gO | apply gP | apply gQ | apply gR) | ((with_reducible apply gT); first | exact rfl | exact True.intro | omega | assumption) | ((with_reducible apply gS2); first | assumption | rfl) | ((with_reducible first | apply gL0 | apply gL1 | apply gL2 | apply gL3 | apply gL4); assumption)))
        refine t_pu (c62 (hu.le hle7.1) hck land y x.day hxd) ?_
        (repeat (first | (with_reducible first | apply gA | apply gB | apply gC | apply gD | apply gE | apply gF | apply gG | apply gH | apply gI | apply gJ | apply gK | apply gL | apply gM | apply gN | apply gO | apply gP | apply gQ | apply gR) | ((with_reducible apply gT); first | exact rfl | exact True.intro | omega | assumption) | ((with_reducible apply gS2); first | assumption | rfl) | ((with_reducible first | apply gL0 | apply gL1 | apply gL2 | apply gL3 | apply gL4); assumption)))
        refine t_cond (fun b1 => ?_) (fun b1 => ?_)
        · have b1' : decide (safe u land y x.day ≠ 1) = true := by simpa using b1
          rw [if_pos b1', List.map_cons] at hc7
          (repeat (first | (with_reducible first | apply gA | apply gB | apply gC | apply gD | apply gE | apply gF | apply gG | apply gH | apply gI | apply gJ | apply gK | apply gL | apply gM | apply gN | apply gO | apply gP | apply gQ | apply gR) | ((with_reducible apply gT); first | exact rfl | exact True.intro | omega | assumption) | ((with_reducible apply gS2); first | assumption | rfl) | ((with_reducible first | apply gL0 | apply gL1 | apply gL2 | apply gL3 | apply gL4); assumption)))
          refine t_pu (c57 (hu.le hle7.1) x.day hxd.2) ?_
          (repeat (first | (with_reducible first | apply gA | apply gB | apply gC | apply gD | apply gE | apply gF | apply gG | apply gH | apply gI | apply gJ | apply gK | apply gL | apply gM | apply gN | apply gO | apply gP | apply gQ | apply gR) | ((with_reducible apply gT); first | exact rfl | exact True.intro | omega | assumption) | ((with_reducible apply gS2); first | assumption | rfl) | ((with_reducible first | apply gL0 | apply gL1 | apply gL2 | apply gL3 | apply gL4); assumption)))
          refine t_build und45 inf79 (by decide) (by decide) (cells := #[.int .i64 y, .int .i64 i, .int .i64 (window u x.day).first, .int .i64 x.day]) (by kernel_rfl) fun r hr => ?_
          have le10 : h₇.le _ := LH.upd_le (x := (true, .cells #[.int .i64 y, .int .i64 i, .int .i64 (window u x.day).first, .int .i64 x.day] 79 (0, 0))) hr
          have e7' := Cells.cell?_le le10.1 e7
          have hng := g7.count LackEnc.len (by omega)
          have hrs6 : rs.length ≤ u.requests.length * 6 := by
            have := hlen6
            unfold lacks at hc
            rw [hc, List.length_append] at this; omega
          have hssl : ss.length ≤ 6 := by have := e5.1; omega
          rw [List.length_append] at hng
          (repeat (first | (with_reducible first | apply gA | apply gB | apply gC | apply gD | apply gE | apply gF | apply gG | apply gH | apply gI | apply gJ | apply gK | apply gL | apply gM | apply gN | apply gO | apply gP | apply gQ | apply gR) | ((with_reducible apply gT); first | exact rfl | exact True.intro | omega | assumption) | ((with_reducible apply gS2); first | assumption | rfl) | ((with_reducible first | apply gL0 | apply gL1 | apply gL2 | apply gL3 | apply gL4); assumption)))
          refine t_grow (h₀ := h) (x := (⟨y, (i : Int), ⟨(window u x.day).first, x.day⟩⟩ : Lack)) (ws := [.int .i64 y, .int .i64 i, .int .i64 (window u x.day).first, .int .i64 x.day]) rfl rfl und45 und45 inf79 rfl (by omega) (by omega) (g7.le le10.1) (LH.le_trans hle7 le10) rfl rfl ?_ ?_ ?_
          · intro j w hj
            rw [add_plain, Nat.zero_add]
            exact cell_upd (by simpa using hj)
          · intro w hw; simp at hw; rcases hw with rfl | rfl | rfl | rfl <;> rfl
          · intro p' c' h₁₀ hle10 _ g10
            have e8 := Cells.cell?_le hle10.1 e7h
            (repeat (first | (with_reducible first | apply gA | apply gB | apply gC | apply gD | apply gE | apply gF | apply gG | apply gH | apply gI | apply gJ | apply gK | apply gL | apply gM | apply gN | apply gO | apply gP | apply gQ | apply gR) | ((with_reducible apply gT); first | exact rfl | exact True.intro | omega | assumption) | ((with_reducible apply gS2); first | assumption | rfl) | ((with_reducible first | apply gL0 | apply gL1 | apply gL2 | apply gL3 | apply gL4); assumption)))
            refine t_again (hY2 (mq - (j + 1)) _ _ (by omega) ⟨j + 1, p', n + 1, c', ss ++ [⟨y, (i : Int), ⟨(window u x.day).first, x.day⟩⟩], ?_, by omega, rfl, by simp; omega, hle10, by rw [← List.append_assoc]; exact g10, by rw [hc7]; simp⟩)
            rw [wrap_id (by omega) (by omega)]; rfl
        · have b1' : decide (safe u land y x.day ≠ 1) = false := by simpa using b1
          rw [if_neg (by rw [b1']; simp)] at hc7
          refine t_again (hY2 (mq - (j + 1)) _ _ (by omega) ⟨j + 1, p, n, c, ss, ?_, by omega, rfl, by omega, hle7, g7, hc7⟩)
          rw [wrap_id (by omega) (by omega)]; rfl
      · (repeat (first | (with_reducible first | apply gA | apply gB | apply gC | apply gD | apply gE | apply gF | apply gG | apply gH | apply gI | apply gJ | apply gK | apply gL | apply gM | apply gN | apply gO | apply gP | apply gQ | apply gR) | ((with_reducible apply gT); first | exact rfl | exact True.intro | omega | assumption) | ((with_reducible apply gS2); first | assumption | rfl) | ((with_reducible first | apply gL0 | apply gL1 | apply gL2 | apply gL3 | apply gL4); assumption)))
        rw [List.drop_eq_nil_of_le (by omega)] at hc7
        refine t_again (next h₇ p n c _ hle7 g7 ?_)
        rw [hc7]; simp
  · (repeat (first | (with_reducible first | apply gA | apply gB | apply gC | apply gD | apply gE | apply gF | apply gG | apply gH | apply gI | apply gJ | apply gK | apply gL | apply gM | apply gN | apply gO | apply gP | apply gQ | apply gR) | ((with_reducible apply gT); first | exact rfl | exact True.intro | omega | assumption) | ((with_reducible apply gS2); first | assumption | rfl) | ((with_reducible first | apply gL0 | apply gL1 | apply gL2 | apply gL3 | apply gL4); assumption)))
    rw [List.drop_eq_nil_of_le (by omega), lacksGo, List.append_nil] at hc
    refine t_ret ⟨hle6, .inr ⟨h0, p, n, c, rfl, ?_⟩⟩
    rw [hc]
    refine g.sl LackEnc.len (by omega) LackEnc.e ?_
    have : rs.length ≤ u.requests.length * 6 := by
      have := hlen6
      unfold lacks at hc
      rw [hc] at this; exact this
    omega
end Go.Proofs.YtibibhojkfapnaaDoor
end
section
namespace Go.Proofs.YtibibhojkfapnaaDoor
open Go Go.TM Go.Proofs
attribute [local irreducible] T.wp CV FWK
theorem LeftR.form {h' : Cells} {u : UseFile} {land day : Int} {r : Value} (hr : LeftR h' u land day r) : ∃ p n c, r = .tuple #[.slice p n c, .int .i64 (openF u [landQ u land, dayQ day])] ∧ Sl IntE 1 h' p n (if openF u [landQ u land, dayQ day] = 0 then leftAll u land day else []) := by
  rcases hr with ⟨h1, rfl⟩ | ⟨h1, p, n, c, rfl, s⟩
  · exact ⟨none, 0, 0, rfl, by rw [if_neg h1]; exact Sl.nil⟩
  · exact ⟨p, n, c, by rw [h1], by rw [if_pos h1]; exact s⟩
theorem LacksR.form {h' : Cells} {u : UseFile} {land day : Int} {r : Value} (hr : LacksR h' u land day r) : ∃ p n c, r = .tuple #[.slice p n c, .int .i64 (openF u [landQ u land, dayQ day])] ∧ Sl LackE 4 h' p n (if openF u [landQ u land, dayQ day] = 0 then lacks u land day else []) := by
  rcases hr with ⟨h1, rfl⟩ | ⟨h1, p, n, c, rfl, s⟩
  · exact ⟨none, 0, 0, rfl, by rw [if_neg h1]; exact Sl.nil⟩
  · exact ⟨p, n, c, by rw [h1], by rw [if_pos h1]; exact s⟩
theorem LackE.grow : Grow LackE := fun _ _ _ _ hl h => ⟨hl _ _ h.1, hl _ _ h.2.1, hl _ _ h.2.2.1, hl _ _ h.2.2.2⟩
def Fin (h : LH) : Value → LH → Prop := fun r h' => r = .bool true ∧ h'.chans = [] ∧ h'.pend = [] ∧ h'.todo = h.todo
theorem fin_shown {h h' : LH} (hch : h.chans = []) (hpe : h.pend = []) (hp : Parts h.get) (hle : h.le h') : FW XT Tryd.prog 16 #[] h' (Fin h) := by
  refine FW.mono (c16 (by rw [hle.2.1, hch]) (by rw [hle.2.2.1, hpe]) (hp.le hle.1)) ?_
  rintro v h'' ⟨h1, _, h2, h3, h4⟩
  exact ⟨h1, h2, h3, by rw [h4, hle.2.2.2]⟩
theorem t_shown {h h' : LH} {k : Bool → T} {Q : Leaf → LH → Prop} (hch : h.chans = []) (hpe : h.pend = []) (hp : Parts h.get) (hle : h.le h') (hk : ∀ h'', h''.chans = [] ∧ h''.pend = [] ∧ h''.todo = h.todo → (k true).wp XT Tryd.prog Q h'') :
    (T.call false 16 #[] fun v => T.unB v k).wp XT Tryd.prog Q h' := by
  refine t_call (fin_shown hch hpe hp hle) ?_
  rintro _ h'' ⟨rfl, h2⟩
  exact gC (hk h'' h2)
theorem c4 {h : LH} (hch : h.chans = []) (hpe : h.pend = []) (hp : Parts h.get) {f : FileC} {u : UseFile} (hu : FileR h.get f u) (land day : Int) : FW XT Tryd.prog 4 #[fileV f u, .int .i64 land, .int .i64 day] h (Fin h) := by
  refine w4 _ _ _ _ _ _ _ _ _ _ _ _ _ _ _ XT_ok ?_
  unfold n4
  refine t_call (FW.top (c15 hu)) ?_
  rintro _ _ ⟨rfl, b, rfl, hb⟩
  (repeat (first | (with_reducible first | apply gA | apply gB | apply gC | apply gD | apply gE | apply gF | apply gG | apply gH | apply gI | apply gJ | apply gK | apply gL | apply gM | apply gN | apply gO | apply gP | apply gQ | apply gR) | ((with_reducible apply gT); first | exact rfl | exact True.intro | omega | assumption) | ((with_reducible apply gS2); first | assumption | rfl) | ((with_reducible first | apply gL0 | apply gL1 | apply gL2 | apply gL3 | apply gL4); assumption)))
  refine t_cond (fun _ => ?_) (fun hbf => ?_)
  · exact t_shown hch hpe hp (LH.le_refl _) fun h' hh => t_ret ⟨rfl, hh⟩
  refine t_gr (c23 hp hu land day) ?_
  intro r1 h1 le1 hr1
  obtain ⟨p1, n1, k1, rfl, s1⟩ := hr1.form
  (repeat (first | (with_reducible first | apply gA | apply gB | apply gC | apply gD | apply gE | apply gF | apply gG | apply gH | apply gI | apply gJ | apply gK | apply gL | apply gM | apply gN | apply gO | apply gP | apply gQ | apply gR) | ((with_reducible apply gT); first | exact rfl | exact True.intro | omega | assumption) | ((with_reducible apply gS2); first | assumption | rfl) | ((with_reducible first | apply gL0 | apply gL1 | apply gL2 | apply gL3 | apply gL4); assumption)))
  have hp1 := hp.le le1.1
  have hu1 := hu.le le1.1
  refine t_gr (c24 hu1 land day) ?_
  intro r2 h2 le2 hr2
  obtain ⟨p2, n2, k2, rfl, s2⟩ := hr2.form
  (repeat (first | (with_reducible first | apply gA | apply gB | apply gC | apply gD | apply gE | apply gF | apply gG | apply gH | apply gI | apply gJ | apply gK | apply gL | apply gM | apply gN | apply gO | apply gP | apply gQ | apply gR) | ((with_reducible apply gT); first | exact rfl | exact True.intro | omega | assumption) | ((with_reducible apply gS2); first | assumption | rfl) | ((with_reducible first | apply gL0 | apply gL1 | apply gL2 | apply gL3 | apply gL4); assumption)))
  have s1 := s1.le IntE.grow le2.1
  have hp2 := hp1.le le2.1
  have hu2 := hu1.le le2.1
  refine t_blk (fun vs h' => vs = [.bool false] ∧ h2.le h') ?_ ?_
  · have e25 := c25 (c := k1) (d := k2) s1 s2
    rw [decide_eq_true rfl] at e25
    refine t_pu e25 ?_
    (repeat (first | (with_reducible first | apply gA | apply gB | apply gC | apply gD | apply gE | apply gF | apply gG | apply gH | apply gI | apply gJ | apply gK | apply gL | apply gM | apply gN | apply gO | apply gP | apply gQ | apply gR) | ((with_reducible apply gT); first | exact rfl | exact True.intro | omega | assumption) | ((with_reducible apply gS2); first | assumption | rfl) | ((with_reducible first | apply gL0 | apply gL1 | apply gL2 | apply gL3 | apply gL4); assumption)))
    refine t_cond (fun e => absurd e (by simp)) (fun _ => ?_)
    refine t_cond (fun e => absurd e (by simp)) (fun _ => ?_)
    (repeat (first | (with_reducible first | apply gA | apply gB | apply gC | apply gD | apply gE | apply gF | apply gG | apply gH | apply gI | apply gJ | apply gK | apply gL | apply gM | apply gN | apply gO | apply gP | apply gQ | apply gR) | ((with_reducible apply gT); first | exact rfl | exact True.intro | omega | assumption) | ((with_reducible apply gS2); first | assumption | rfl) | ((with_reducible first | apply gL0 | apply gL1 | apply gL2 | apply gL3 | apply gL4); assumption)))
    refine t_gr (c26 hp2 hu2) ?_
    rintro _ h3 le3 rfl
    (repeat (first | (with_reducible first | apply gA | apply gB | apply gC | apply gD | apply gE | apply gF | apply gG | apply gH | apply gI | apply gJ | apply gK | apply gL | apply gM | apply gN | apply gO | apply gP | apply gQ | apply gR) | ((with_reducible apply gT); first | exact rfl | exact True.intro | omega | assumption) | ((with_reducible apply gS2); first | assumption | rfl) | ((with_reducible first | apply gL0 | apply gL1 | apply gL2 | apply gL3 | apply gL4); assumption)))
    refine t_pu (c27 (hu2.le le3.1)) ?_
    (repeat (first | (with_reducible first | apply gA | apply gB | apply gC | apply gD | apply gE | apply gF | apply gG | apply gH | apply gI | apply gJ | apply gK | apply gL | apply gM | apply gN | apply gO | apply gP | apply gQ | apply gR) | ((with_reducible apply gT); first | exact rfl | exact True.intro | omega | assumption) | ((with_reducible apply gS2); first | assumption | rfl) | ((with_reducible first | apply gL0 | apply gL1 | apply gL2 | apply gL3 | apply gL4); assumption)))
    refine t_cond (fun e => absurd e (by simp)) (fun _ => ?_)
    exact t_again ⟨rfl, le3⟩
  rintro vs h3 ⟨rfl, le3⟩
  (repeat (first | (with_reducible first | apply gA | apply gB | apply gC | apply gD | apply gE | apply gF | apply gG | apply gH | apply gI | apply gJ | apply gK | apply gL | apply gM | apply gN | apply gO | apply gP | apply gQ | apply gR) | ((with_reducible apply gT); first | exact rfl | exact True.intro | omega | assumption) | ((with_reducible apply gS2); first | assumption | rfl) | ((with_reducible first | apply gL0 | apply gL1 | apply gL2 | apply gL3 | apply gL4); assumption)))
  have hp3 := hp2.le le3.1
  have hu3 := hu2.le le3.1
  refine t_gr (c28 hp3 hu3 land day) ?_
  intro r4 h4 le4 hr4
  obtain ⟨p4, n4', k4, rfl, s4⟩ := hr4.form
  (repeat (first | (with_reducible first | apply gA | apply gB | apply gC | apply gD | apply gE | apply gF | apply gG | apply gH | apply gI | apply gJ | apply gK | apply gL | apply gM | apply gN | apply gO | apply gP | apply gQ | apply gR) | ((with_reducible apply gT); first | exact rfl | exact True.intro | omega | assumption) | ((with_reducible apply gS2); first | assumption | rfl) | ((with_reducible first | apply gL0 | apply gL1 | apply gL2 | apply gL3 | apply gL4); assumption)))
  refine t_gr (c29 (hu3.le le4.1) land day) ?_
  intro r5 h5 le5 hr5
  obtain ⟨p5, n5, k5, rfl, s5⟩ := hr5.form
  (repeat (first | (with_reducible first | apply gA | apply gB | apply gC | apply gD | apply gE | apply gF | apply gG | apply gH | apply gI | apply gJ | apply gK | apply gL | apply gM | apply gN | apply gO | apply gP | apply gQ | apply gR) | ((with_reducible apply gT); first | exact rfl | exact True.intro | omega | assumption) | ((with_reducible apply gS2); first | assumption | rfl) | ((with_reducible first | apply gL0 | apply gL1 | apply gL2 | apply gL3 | apply gL4); assumption)))
  have s4 := s4.le LackE.grow le5.1
  have e30 := c30 (c := k4) (d := k5) s4 s5
  rw [decide_eq_true rfl] at e30
  refine t_pu e30 ?_
  (repeat (first | (with_reducible first | apply gA | apply gB | apply gC | apply gD | apply gE | apply gF | apply gG | apply gH | apply gI | apply gJ | apply gK | apply gL | apply gM | apply gN | apply gO | apply gP | apply gQ | apply gR) | ((with_reducible apply gT); first | exact rfl | exact True.intro | omega | assumption) | ((with_reducible apply gS2); first | assumption | rfl) | ((with_reducible first | apply gL0 | apply gL1 | apply gL2 | apply gL3 | apply gL4); assumption)))
  refine t_cond (fun _ => ?_) (fun e => absurd e (by simp))
  refine t_cond (fun _ => ?_) (fun e => absurd e (by simp))
  exact t_shown hch hpe hp (LH.le_trans (LH.le_trans (LH.le_trans (LH.le_trans le1 le2) le3) le4) le5) fun h' hh => t_ret ⟨rfl, hh⟩
end Go.Proofs.YtibibhojkfapnaaDoor
end
section
namespace Go.Proofs.YtibibhojkfapnaaDoor
open Go Go.TM Go.Proofs Go.ChangeShapes Go.WideShapes Go.RowKit
set_option maxRecDepth 100000
theorem useLefts_lifted (os : Os) (started : os.Started) (H : Type) (enc : TypeId × Value → H) :
    ReturnsInLeavingWide {} Tryd.checked os 4 .any (fun w args => (Rows.useLeftsSpec.pre enc Tryd.prog Tryd.f4 [] false w args ∧ laidMetH Tryd.prog Rows.useWindowsRow.laid w) ∧ sizedMet enc Tryd.prog Tryd.f4 (OpenSpec.ofChange Rows.useLeftsSpec) false w args)
      (Rows.useLeftsSpec.post enc Tryd.prog Tryd.f4 false true false false) := by
  refine row_leaving (C := Tryd.checked) (tb := 4) own started Tryd.func4 (by kernel_rfl) rfl lo ?_ (by kernel_rfl) Tryd.underlying4 ?_
    (ChangeSpec.witness_shaped (enc := enc) (C := Tryd.checked) (os := os) (X := fun w _ => laidMetH Tryd.prog Rows.useWindowsRow.laid w) false (World.doorLaid Tryd.prog 200 os) #[noFile, .int .i64 0, .int .i64 0] 8 rfl (door_shaped os _) (by kernel_rfl) (by kernel_rfl) (by kernel_rfl) (door_met os _)) ?_
  · exact fun t ht => of_decide_eq_true (List.all_eq_true.1 (show (Tryd.f4.params.toList.all fun t => decide (Tryd.prog.readableRec t = true ∧ t < Tryd.prog.types.size)) = true by kernel_rfl) t ht)
  · intro ds hd
    match ds, (show ds.length = 3 from hd) with
    | [d0, d1, d2], _ => rfl
  · intro W base args ds ps hval0 hA0 hz0 hL
    have hval : ∀ (j : Nat) t v, Tryd.f4.params[j]? = some t → args[j]? = some v → Value.okWide Tryd.prog W .any base t v := hval0
    have hz : ∀ (j : Nat) t d, Tryd.f4.params.toList[j]? = some t → ds[j]? = some d → Light Tryd.prog t d := hz0
    have hA : DataW.TrodAll enc Tryd.prog W 0 (fun _ => true) true Tryd.f4.params.toList args.toList ds ps := hA0
    rw [Tryd.params4] at hval hz hA
    obtain ⟨v0, v1, v2, d0, d1, d2, q00, q01, q02, rfl, rfl, rfl, h0, h1, h2⟩ := trodAll_three hA
    obtain ⟨f0, u0, rfl, hu0⟩ := file_arg UT (hval 0 26 v0 rfl rfl) (hz 0 26 d0 rfl rfl) h0
    obtain ⟨x1, rfl, _, _⟩ := open_int UT.int (hval 1 3 v1 rfl rfl) h1
    obtain ⟨x2, rfl, _, _⟩ := open_int UT.int (hval 2 3 v2 rfl rfl) h2
    exact FW.mono (c4 (h := ⟨getW W, [], [], []⟩) rfl rfl (parts_of_laid hL) hu0 x1 x2) fun r h' hq => ⟨hq.1, hq.2.2.1⟩
theorem useLefts_row : Rows.UseLeftsSaid :=
  OpenClaim.holds_of_wide_leaving 4 Tryd.f4 rfl rfl rfl rfl rfl rfl rfl ⟨rfl, rfl, rfl, rfl, rfl⟩ rfl rfl rfl rfl rfl (by kernel_rfl) Tryd.func4 (by kernel_rfl)
    (of_decide_eq_true (by kernel_rfl)) (by unfold Func.isWrapper; first | (rw [if_pos (by decide +kernel)]; kernel_rfl) | (rw [if_neg (by decide +kernel)]; exact ⟨rfl, rfl⟩))
    (fun os started H enc _ => useLefts_lifted os started H enc)
theorem useLefts_holds : Rows.UseLeftsCardSaid :=
  card_goes [.funcs] true Rows.useLeftsCard.stood.harness false useLefts_row (by kernel_rfl) useLefts_row_tie rfl ⟨rfl, rfl⟩ (by kernel_rfl) rfl
    (fun f fn hf hfn => by
      obtain rfl : f = 4 := Option.some.inj ((show Tryd.prog.funcNamed Rows.useLeftsRow.func = some 4 by kernel_rfl).symm.trans hf) |>.symm
      obtain rfl : fn = Tryd.f4 := (Option.some.inj (Tryd.func4.symm.trans hfn)).symm
      exact ⟨by kernel_rfl, fun j t ht => by
        have hm := Array.mem_of_getElem? ht
        have := of_decide_eq_true (List.all_eq_true.1 (show (Tryd.f4.params.toList.all fun t => decide (Tryd.prog.wantsStandIn t = false)) = true by kernel_rfl) t (Array.mem_toList_iff.2 hm))
        exact this⟩)
    (by kernel_rfl)
end Go.Proofs.YtibibhojkfapnaaDoor
end
#print axioms Go.Proofs.YtibibhojkfapnaaDoor.useLefts_holds

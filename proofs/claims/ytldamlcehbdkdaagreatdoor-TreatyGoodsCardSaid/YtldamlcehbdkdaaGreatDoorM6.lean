/- What is protected in a land is a list of goods: a limit makes it the list that a cut leaves, which does not grow; one more giving event makes it cover no less in every other edition. The tied card; no further condition. -/
import Derived.Test.YtldamlcehbdkdaaGreatDoorM5
set_option linter.all false
section
namespace Go.Proofs.YtldamlcehbdkdaaGreatDoor.Tre
open Go Go.TM Go.Proofs Go.TM.Tr
attribute [local irreducible] T.wp CV FWK
def datesA (x : TF) (k d : Int) : List Int := if askedDayT x k d = 0 then datesT x k d else []
def protA (x : TF) (k d : Int) : List Bool := if askedDayT x k d = 0 then protT x k d else []
def turnsA (x : TF) (k d : Int) : List Int := if askedDayT x k d = 0 then turnsT x k d else []
def SpansA (x : TF) (k i : Int) (m : List Sp) : Prop := (askedItemT x k i ≠ 0 ∧ m = []) ∨ (askedItemT x k i = 0 ∧ ∃ l, IsDays x l ∧ m = spansT x k i l)
def needA (x : TF) (k i d : Int) : List Int := if askedAllT x k i d = 0 ∧ 0 ≤ dateOn x k i d then needT x k i d else []
def heldA (x : TF) (k i d : Int) : Bool := decide (askedAllT x k i d = 0 ∧ 0 ≤ dateOn x k i d)
theorem SpansA.one {x : TF} {k i : Int} {m m' : List Sp} (h : SpansA x k i m) (h' : SpansA x k i m') : m = m' := by
 rcases h with ⟨h1, rfl⟩ | ⟨h1, l, h2, rfl⟩ <;> rcases h' with ⟨h3, rfl⟩ | ⟨h3, l', h4, rfl⟩
 ·rfl
 ·exact absurd h3 h1
 ·exact absurd h1 h3
 ·rw [h2.one h4]
theorem ProtR.form {h : Cells} {x : TF} {k d : Int} {r : Value} (hr : ProtR h x k d r) : ∃ p n c, r = .tuple #[.slice p n c, .int .i64 (askedDayT x k d)] ∧ Sl BoolE 1 h p n (protA x k d) ∧ n ≤ c := hr
theorem DatesR.form {h : Cells} {x : TF} {k d : Int} {r : Value} (hr : DatesR h x k d r) : ∃ p n c, r = .tuple #[.slice p n c, .int .i64 (askedDayT x k d)] ∧ Sl IntE 1 h p n (datesA x k d) ∧ n ≤ c := by
 rcases hr with ⟨h1, rfl⟩ | ⟨h1, p, n, c, rfl, s, hn⟩
 ·exact ⟨none, 0, 0, rfl, by rw [datesA, if_neg h1]; exact Sl.nil, Nat.le_refl _⟩
 ·exact ⟨p, n, c, by rw [h1], by rw [datesA, if_pos h1]; exact s, hn⟩
theorem TurnsR.form {h : Cells} {x : TF} {k d : Int} {r : Value} (hr : TurnsR h x k d r) : ∃ p n c, r = .tuple #[.slice p n c, .int .i64 (askedDayT x k d)] ∧ Sl IntE 1 h p n (turnsA x k d) ∧ n ≤ c := by
 rcases hr with ⟨h1, rfl⟩ | ⟨h1, p, n, c, rfl, s, hn⟩
 ·exact ⟨none, 0, 0, rfl, by rw [turnsA, if_neg h1]; exact Sl.nil, Nat.le_refl _⟩
 ·exact ⟨p, n, c, by rw [h1], by rw [turnsA, if_pos h1]; exact s, hn⟩
theorem SpansR.form {h : Cells} {x : TF} {k i : Int} {r : Value} (hr : SpansR h x k i r) : ∃ p n c m, r = .tuple #[.slice p n c, .int .i64 (askedItemT x k i)] ∧ SpansA x k i m ∧ Sl SpE 2 h p n m ∧ n ≤ c := by
 rcases hr with ⟨h1, rfl⟩ | ⟨h1, p, n, c, l, rfl, hd, s, hn⟩
 ·exact ⟨none, 0, 0, [], rfl, .inl ⟨h1, rfl⟩, Sl.nil, Nat.le_refl _⟩
 ·exact ⟨p, n, c, _, by rw [h1], .inr ⟨h1, l, hd, rfl⟩, s, hn⟩
theorem NeedsR.form {h : Cells} {x : TF} {k i d : Int} {r : Value} (hr : NeedsR h x k i d r) : ∃ p n c, r = .tuple #[.slice p n c, .bool (heldA x k i d), .int .i64 (askedAllT x k i d)] ∧ Sl IntE 1 h p n (needA x k i d) ∧ n ≤ c := by
 rcases hr with ⟨h1, rfl⟩ | ⟨h1, h2, rfl⟩ | ⟨h1, h2, p, n, c, rfl, s, hn⟩
 ·exact ⟨none, 0, 0, by rw [heldA, decide_eq_false (fun h => h1 h.1)], by rw [needA, if_neg (fun h => h1 h.1)]; exact Sl.nil, Nat.le_refl _⟩
 ·exact ⟨none, 0, 0, by rw [heldA, decide_eq_false (fun h => h2 h.2), h1], by rw [needA, if_neg (fun h => h2 h.2)]; exact Sl.nil, Nat.le_refl _⟩
 ·exact ⟨p, n, c, by rw [heldA, decide_eq_true ⟨h1, h2⟩, h1], by rw [needA, if_pos ⟨h1, h2⟩]; exact s, hn⟩
/-! ### The chapter's examples -/
def exDays : List Int := [0, 12, 15, 18, 20, 22, 25, 27, 40, 44, 50, 10000]
theorem ex_days : IsDays exT exDays := by
 refine ⟨by decide +kernel, fun v => ?_⟩
 simp only [exDays, exT, List.mem_cons, List.not_mem_nil, or_false, exists_eq_or_imp, false_and, exists_false, exists_eq_left]
 omega
theorem ex1 : askedDayT exT 0 15 = 0 ∧ protA exT 0 15 = [true, false, true] := by decide +kernel
theorem ex2 : askedDayT exT 1 40 = 0 ∧ protA exT 1 40 = [false, true, false] := by decide +kernel
theorem ex3 : askedDayT exT 0 18 = 0 ∧ datesA exT 0 18 = [3, -1, 12] := by decide +kernel
theorem ex4 : askedDayT exT 0 44 = 0 ∧ datesA exT 0 44 = [3, 12, -1] := by decide +kernel
theorem ex5 : askedItemT exT 0 0 = 0 ∧ spansT exT 0 0 exDays = [⟨12, 39⟩, ⟨44, 9999⟩] := by decide +kernel
theorem ex6 : askedItemT exT 0 1 = 0 ∧ spansT exT 0 1 exDays = [⟨12, 14⟩, ⟨25, 9999⟩] := by decide +kernel
theorem ex7 : askedDayT exT 1 45 = 0 ∧ turnsA exT 1 45 = [0] := by decide +kernel
theorem ex8 : askedDayT exT 1 46 = 0 ∧ turnsA exT 1 46 = [] := by decide +kernel
theorem ex9 : askedAllT exT 0 0 44 = 0 ∧ heldA exT 0 0 44 = true ∧ needA exT 0 0 44 = [0, 5] := by decide +kernel
theorem ex_spans {i : Int} (h0 : askedItemT exT 0 i = 0) {m : List Sp} (h : SpansA exT 0 i m) : m = spansT exT 0 i exDays := h.one (.inr ⟨h0, _, ex_days, rfl⟩)
set_option maxRecDepth 100000 in
theorem c2017 {h : LH} (hch : h.chans = []) (hpe : h.pend = []) (hk : Kinds h.get) : FW XT Tryz.prog 33 #[] h fun r h' => r = .bool true ∧ Rd h.get h'.get ∧ h'.chans = [] ∧ h'.pend = [] ∧ h'.todo = h.todo := by
 refine w2017 XT_ok ?_
 unfold n2017
 refine t_gr c2048 ?_
 rintro _ h0 le0 ⟨f, rfl, hx⟩
 have e : treatyV f exT = .agg #[.int .i64 3, .int .i64 2, .int .i64 10, .int .i64 20, .int .i64 6, .int .i64 5, .slice f.p f.n f.c] := rfl
 rw [e]
 refine gZ ?_
 have hk0 := hk.le le0.1
 refine t_gr (c2018 hk0 hx 0 15) ?_
 intro r1 h1 le1 hr
 obtain ⟨p1, n1, k1, rfl, s1, _⟩ := hr.form
 rw [ex1.1]; rw [ex1.2] at s1
 refine gZ ?_
 have hk1 := hk0.le le1.1
 have hx1 := hx.le le1.1
 refine t_gr (c2018 hk1 hx1 1 40) ?_
 intro r2 h2 le2 hr
 obtain ⟨p2, n2, k2, rfl, s2, _⟩ := hr.form
 rw [ex2.1]; rw [ex2.2] at s2
 refine gZ ?_
 have hk2 := hk1.le le2.1
 have hx2 := hx1.le le2.1
 refine t_gr (c2026 hk2 hx2 0 18) ?_
 intro r3 h3 le3 hr
 obtain ⟨p3, n3, k3, rfl, s3, _⟩ := hr.form
 rw [ex3.1]; rw [ex3.2] at s3
 refine gZ ?_
 have hk3 := hk2.le le3.1
 have hx3 := hx2.le le3.1
 refine t_gr (c2026 hk3 hx3 0 44) ?_
 intro r4 h4 le4 hr
 obtain ⟨p4, n4, k4, rfl, s4, _⟩ := hr.form
 rw [ex4.1]; rw [ex4.2] at s4
 refine gZ ?_
 have hk4 := hk3.le le4.1
 have hx4 := hx3.le le4.1
 refine t_gr (c2023 hk4 hx4 0 0) ?_
 intro r5 h5 le5 hr
 obtain ⟨p5, n5, k5, m5, rfl, sp5, s5, _⟩ := hr.form
 obtain rfl := ex_spans ex5.1 sp5
 rw [ex5.1]; rw [ex5.2] at s5
 refine gZ ?_
 have hk5 := hk4.le le5.1
 have hx5 := hx4.le le5.1
 refine t_gr (c2023 hk5 hx5 0 1) ?_
 intro r6 h6 le6 hr
 obtain ⟨p6, n6, k6, m6, rfl, sp6, s6, _⟩ := hr.form
 obtain rfl := ex_spans ex6.1 sp6
 rw [ex6.1]; rw [ex6.2] at s6
 refine gZ ?_
 have hk6 := hk5.le le6.1
 have hx6 := hx5.le le6.1
 refine t_gr (c2029 hk6 hx6 1 45) ?_
 intro r7 h7 le7 hr
 obtain ⟨p7, n7, k7, rfl, s7, _⟩ := hr.form
 rw [ex7.1]; rw [ex7.2] at s7
 refine gZ ?_
 have hk7 := hk6.le le7.1
 have hx7 := hx6.le le7.1
 refine t_gr (c2029 hk7 hx7 1 46) ?_
 intro r8 h8 le8 hr
 obtain ⟨p8, n8, k8, rfl, s8, _⟩ := hr.form
 rw [ex8.1]; rw [ex8.2] at s8
 refine gZ ?_
 have hk8 := hk7.le le8.1
 have hx8 := hx7.le le8.1
 have le78 := le8
 have le68 := LH.le_trans le7 le78
 have le58 := LH.le_trans le6 le68
 have le48 := LH.le_trans le5 le58
 have le38 := LH.le_trans le4 le48
 have le28 := LH.le_trans le3 le38
 have le18 := LH.le_trans le2 le28
 have le08 := LH.le_trans le0 (LH.le_trans le1 le18)
 refine t_call (c2044 (by rw [le08.2.1, hch]) (by rw [le08.2.2.1, hpe]) hk8 hx8 0 0 44) ?_
 rintro r9 h9 ⟨rd9, hc9, hp9, ht9, hr⟩
 obtain ⟨p9, n9, k9, rfl, s9, _⟩ := hr.form
 rw [ex9.1, ex9.2.1]; rw [ex9.2.2] at s9
 refine gZ ?_
 have s1 := (s1.le BoolE.grow le18.1).rd BoolE.grow rd9
 have s2 := (s2.le BoolE.grow le28.1).rd BoolE.grow rd9
 have s3 := (s3.le IntE.grow le38.1).rd IntE.grow rd9
 have s4 := (s4.le IntE.grow le48.1).rd IntE.grow rd9
 have s5 := (s5.le SpE.grow le58.1).rd SpE.grow rd9
 have s6 := (s6.le SpE.grow le68.1).rd SpE.grow rd9
 have s7 := (s7.le IntE.grow le78.1).rd IntE.grow rd9
 have s8 := s8.rd IntE.grow rd9
 have hn8 : n8 = 0 := s8.1
 subst hn8
 have rd09 := (Rd.of_le le08.1).trans rd9
 refine t_blk (fun vs h' => vs = [.bool false] ∧ h9 = h') ?_ ?_
 ·refine t_cond (fun e => absurd e (by decide)) (fun _ => ?_)
  refine t_cond (fun e => absurd e (by decide)) (fun _ => ?_)
  refine t_cond (fun e => absurd e (by decide)) (fun _ => ?_)
  refine t_cond (fun e => absurd e (by decide)) (fun _ => ?_)
  refine t_cond (fun e => absurd e (by decide)) (fun _ => ?_)
  refine t_cond (fun e => absurd e (by decide)) (fun _ => ?_)
  refine t_cond (fun e => absurd e (by decide)) (fun _ => ?_)
  refine t_cond (fun e => absurd e (by decide)) (fun _ => ?_)
  refine t_cond (fun e => absurd e (by decide)) (fun _ => ?_)
  exact t_again ⟨rfl, rfl⟩
 rintro vs _ ⟨rfl, rfl⟩
 refine gZ ?_
 refine t_blk (fun vs h' => vs = [.bool false] ∧ h9.le h') ?_ ?_
 ·refine t_bools [true, false, true] (by decide) rfl (by decide) (by kernel_rfl) fun q1 g1 lg1 u1 => ?_
  refine gZ ?_
  have e1 := c2020 (h := g1) (c := k1) (d := 3) (s1.le BoolE.grow lg1.1) u1
  rw [decide_eq_true rfl] at e1
  refine t_pu e1 ?_
  refine gZ ?_
  refine t_cond (fun e => absurd e (by decide)) (fun _ => ?_)
  refine t_bools [false, true, false] (by decide) rfl (by decide) (by kernel_rfl) fun q2 g2 lg2 u2 => ?_
  refine gZ ?_
  have lg := LH.le_trans lg1 lg2
  have e1 := c2020 (h := g2) (c := k2) (d := 3) (s2.le BoolE.grow lg.1) u2
  rw [decide_eq_true rfl] at e1
  refine t_pu e1 ?_
  refine gZ ?_
  refine t_cond (fun e => absurd e (by decide)) (fun _ => ?_)
  refine t_ints [3, -1, 12] (by decide) rfl (by decide) (by kernel_rfl) fun q3 g3 lg3 u3 => ?_
  refine gZ ?_
  have lg := LH.le_trans lg lg3
  have e1 := c35 (h := g3) (c := k3) (d := 3) (s3.le IntE.grow lg.1) u3
  rw [decide_eq_true rfl] at e1
  refine t_pu e1 ?_
  refine gZ ?_
  refine t_cond (fun e => absurd e (by decide)) (fun _ => ?_)
  refine t_ints [3, 12, -1] (by decide) rfl (by decide) (by kernel_rfl) fun q4 g4 lg4 u4 => ?_
  refine gZ ?_
  have lg := LH.le_trans lg lg4
  have e1 := c35 (h := g4) (c := k4) (d := 3) (s4.le IntE.grow lg.1) u4
  rw [decide_eq_true rfl] at e1
  refine t_pu e1 ?_
  refine gZ ?_
  refine t_cond (fun e => absurd e (by decide)) (fun _ => ?_)
  refine t_cond (fun e => absurd e (by decide)) (fun _ => ?_)
  refine t_ints [0, 5] (by decide) rfl (by decide) (by kernel_rfl) fun q5 g5 lg5 u5 => ?_
  refine gZ ?_
  have lg := LH.le_trans lg lg5
  have e1 := c35 (h := g5) (c := k9) (d := 2) (s9.le IntE.grow lg.1) u5
  rw [decide_eq_true rfl] at e1
  refine t_pu e1 ?_
  refine gZ ?_
  refine t_cond (fun e => absurd e (by decide)) (fun _ => ?_)
  exact t_again ⟨rfl, lg⟩
 rintro vs g ⟨rfl, lg⟩
 refine gZ ?_
 refine t_pu (c2049 _ _) ?_
 refine gZ ?_
 refine t_pu (c2049 _ _) ?_
 refine gZ ?_
 refine t_buildR [.int .i64 12, .int .i64 39, .int .i64 44, .int .i64 9999] und22 inf30 (by decide) (by decide) (by kernel_rfl) ?_
 intro q6 g6 lg6 _ u6
 refine gZ ?_
 have lg := LH.le_trans lg lg6
 have e1 := c2025 (h := g6) (c := k5) (d := 2) (s5.le SpE.grow lg.1) (sp_two (a := ⟨12, 39⟩) (b := ⟨44, 9999⟩) u6)
 rw [decide_eq_true rfl] at e1
 refine t_pu e1 ?_
 refine gZ ?_
 refine t_cond (fun _ => ?_) (fun e => by cases e)
 refine t_pu (c2049 _ _) ?_
 refine gZ ?_
 refine t_pu (c2049 _ _) ?_
 refine gZ ?_
 refine t_buildR [.int .i64 12, .int .i64 14, .int .i64 25, .int .i64 9999] und22 inf30 (by decide) (by decide) (by kernel_rfl) ?_
 intro q7 g7 lg7 _ u7
 refine gZ ?_
 have lg := LH.le_trans lg lg7
 have e1 := c2025 (h := g7) (c := k6) (d := 2) (s6.le SpE.grow lg.1) (sp_two (a := ⟨12, 14⟩) (b := ⟨25, 9999⟩) u7)
 rw [decide_eq_true rfl] at e1
 refine t_pu e1 ?_
 refine gZ ?_
 refine t_cond (fun _ => ?_) (fun e => by cases e)
 refine t_ints [0] (by decide) rfl (by decide) (by kernel_rfl) fun q8 g8 lg8 u8 => ?_
 refine gZ ?_
 have lg := LH.le_trans lg lg8
 have e1 := c35 (h := g8) (c := k7) (d := 1) (s7.le IntE.grow lg.1) u8
 rw [decide_eq_true rfl] at e1
 refine t_pu e1 ?_
 refine gZ ?_
 refine t_cond (fun _ => ?_) (fun e => by cases e)
 exact t_ret ⟨rfl, rd09.trans (Rd.of_le lg.1), lg.2.1.trans hc9, lg.2.2.1.trans hp9, by rw [lg.2.2.2, ht9, le08.2.2.2]⟩
def Fin (h : LH) : Value → LH → Prop := fun r h' => r = .bool true ∧ h'.chans = [] ∧ h'.pend = [] ∧ h'.todo = h.todo
structure Idle (h h' : LH) : Prop where
 rd : Rd h.get h'.get
 chans : h'.chans = []
 pend : h'.pend = []
 todo : h'.todo = h.todo
theorem Idle.of {h h' : LH} (hch : h.chans = []) (hpe : h.pend = []) (hle : h.le h') : Idle h h' := ⟨Rd.of_le hle.1, by rw [hle.2.1, hch], by rw [hle.2.2.1, hpe], hle.2.2.2⟩
theorem t_shown {h h' : LH} {k : Bool → T} {Q : Leaf → LH → Prop} (hk : Kinds h.get) (i : Idle h h') (hq : ∀ h'', Idle h h'' → (k true).wp XT Tryz.prog Q h'') :
  (T.call false 33 #[] fun v => T.unB v k).wp XT Tryz.prog Q h' := by
 refine t_call (c2017 i.chans i.pend (hk.rd i.rd)) ?_
 rintro _ h'' ⟨rfl, rd, h2, h3, h4⟩
 exact gC (hq h'' ⟨i.rd.trans rd, h2, h3, h4.trans i.todo⟩)
theorem Idle.fin {h h' : LH} (i : Idle h h') : Fin h (.bool true) h' := ⟨rfl, i.chans, i.pend, i.todo⟩
end Go.Proofs.YtldamlcehbdkdaaGreatDoor.Tre
end
section
namespace Go.Proofs.YtldamlcehbdkdaaGreatDoor.Tre
open Go Go.TM Go.Proofs Go.TM.Tr
attribute [local irreducible] T.wp CV FWK
theorem dates_at {x : TF} {k d : Int} {j : Nat} (h : j < x.items.toNat) : (datesT x k d)[j]? = some (dateOn x k j d) := by
 unfold datesT
 rw [List.getElem?_map, List.getElem?_range h]; rfl
theorem prot_at {x : TF} {k d : Int} {j : Nat} (h : j < x.items.toNat) : (protT x k d)[j]? = some (decide (dateOn x k j d ≥ 0)) := by
 unfold protT
 rw [List.getElem?_map, dates_at h]; rfl
theorem prot_len (x : TF) (k d : Int) : (protT x k d).length = x.items.toNat := by unfold protT; rw [List.length_map, dates_len]
theorem bool_at {h : Cells} {p : Option Addr} {n : Nat} {l : List Bool} (s : Sl BoolE 1 h p n l) {j : Nat} {b : Bool} (hb : l[j]? = some b) : ∃ a, p = some a ∧ h.cell? (a.add (j * 1)) = some (.bool b) := by
 obtain ⟨a, ha, e⟩ := s.2.2 j b hb
 unfold BoolE at e
 rw [add_zero'] at e
 exact ⟨a, ha, e⟩
end Go.Proofs.YtldamlcehbdkdaaGreatDoor.Tre
end
section
namespace Go.Proofs.YtldamlcehbdkdaaGreatDoor.Tre
open Go Go.TM Go.Proofs Go.TM.Tr
attribute [local irreducible] T.wp CV FWK
theorem mod_in {n m : Int} (hn : 0 ≤ n ∧ n ≤ 65535) (hm : 0 < m) : Int.tmod (IntKind.i64.wrap n) m = n % m ∧ 0 ≤ n % m ∧ n % m < m := by
 rw [wrap_id (by omega) (by omega), Int.tmod_eq_emod_of_nonneg hn.1]
 exact ⟨rfl, Int.emod_nonneg _ (by omega), Int.emod_lt_of_pos _ hm⟩
theorem day_mod (n : Int) : 0 ≤ n % 10000 ∧ n % 10000 ≤ 9999 := by omega
theorem asked_fit {x : TF} (h : checkT x = 0) {k d : Int} (hk : 0 ≤ k ∧ k < x.lands) (hd : 0 ≤ d ∧ d ≤ 9999) : askedDayT x k d = 0 := by
 have h1 : askedT x k = 0 := by rw [askedT, if_neg (by simp [h]), if_neg (by simp [inB]; omega)]
 rw [askedDayT, if_neg (by simp [h1]), if_pos (by simp [dayB, inB]; omega)]
end Go.Proofs.YtldamlcehbdkdaaGreatDoor.Tre
end
section
namespace Go.TM
open Go Go.Conc Go.Sem
variable {P : Program} {h : Cells} {E : Halt → Cells → Prop}
theorem lwp_appendB {Q : Value → Cells → Prop} {ts : Array TypeId} {ty sT xT el xe : TypeId} {inf : TypeInfo} {z : Value} {p : Option Addr} {n c m mc : Nat} {b : Addr} {vs ws : List Value} (h0 : ts[0]? = some sT) (h1 : ts[1]? = some xT) (hu : P.underlying sT = some (.slice el)) (hx : P.underlying xT = some (.slice xe))
  (hi : P.info? el = some inf) (hz : inf.zero = some z) (hsz : z.cells.size = inf.size) (hnm : n + m ≤ 2 ^ 62) (hcap : ¬ n + m ≤ c → Builtin.nextslicecap (n + m) c * inf.bytes ≤ 2 ^ 48) (own : OwnRow el inf.size h p n c vs) (hl : ws.length = m * inf.size) (hc : ∀ (j : Nat) v, ws[j]? = some v → h.cell? (b.add j) = some v) (one : ∀ v ∈ ws, isOne v = true) (hm : 0 < m)
  (hq : ∀ p' c' h', OwnRow el inf.size h' p' (n + m) c' (vs ++ ws) → KeptBut p h h' → (p' = p ∨ ∃ r, p' = some ⟨r, 0, none⟩ ∧ h r = none) → Q (.slice p' (n + m) c') h') : Sem.lwp P (Builtin.append_ ts ty #[.slice p n c, .slice (some b) m mc]) Q E h := by
 unfold Builtin.append_
 rw [h0, h1]
 simp only [List.getElem?_toArray, List.getElem?_cons_zero, List.getElem?_cons_succ]
 simp only [lwp_bind, lwp_underlying hu, lwp_sizeOf hi, lwp_underlying hx, lwp_pure, Bool.false_eq_true, if_false, Bool.not_false, if_true, Builtin.lenOf]
 obtain ⟨hvl, hown⟩ := own
 by_cases hroom : n + m ≤ c
 ·simp only [if_pos hroom, lwp_bind, Builtin.firstCells]
  refine lwp_loads (l := ws) hl hc ?_
  rcases hown with ⟨rfl, rfl, rfl⟩ | ⟨r, cs, rfl, hr, hcs, hnc, hv⟩
  ·omega
  ·simp only []
   have hle : n * inf.size + ws.length ≤ cs.size := by rw [hl, hcs, ← Nat.add_mul]; exact Nat.mul_le_mul_right _ hroom
   have ha : Addr.add ⟨r, 0, none⟩ (n * inf.size) = ⟨r, n * inf.size, none⟩ := by unfold Addr.add; split <;> simp_all
   rw [ha]
   rw [lwp_bind]
   refine lwp_storeCells ws 0 h r (n * inf.size) cs el hr (by omega) one ?_
   rw [lwp_pure]
   refine hq _ _ _ ⟨by simp [hvl, hl, Nat.add_mul], .inr ⟨r, _, rfl, Cells.upd_self _ _ _, ?_, hroom, ?_⟩⟩ ?_ (.inl rfl)
   ·rw [size_setMany]; exact hcs
   ·intro j v hj
    rw [setMany_get (by omega)]
    by_cases hlt : j < vs.length
    ·rw [if_neg (by omega)]
     rw [List.getElem?_append_left hlt] at hj
     exact hv j v hj
    ·rw [List.getElem?_append_right (by omega)] at hj
     have hj' : j - vs.length < ws.length := (List.getElem?_eq_some_iff.1 hj).1
     rw [if_pos (by omega), ← hj]; congr 1; omega
   ·intro r' x hx' hne
    have : r' ≠ r := fun e => hne _ rfl e.symm
    rw [Cells.upd_ne _ _ this]; exact hx'
 ·have hnot : ¬ ((((n + m : Nat) : Int) > IntKind.i64.max) ∧ ((false : Bool) = true ∨ inf.bytes = 0)) := by
   rintro ⟨h1, _⟩
   have e : IntKind.i64.max = 9223372036854775807 := rfl
   rw [e] at h1; omega
  have hbytes : ¬ (Builtin.nextslicecap (n + m) c * inf.bytes > 2 ^ 48) := by have := hcap hroom; omega
  have hnot' : ¬ ((((n + m : Nat) : Int) > IntKind.i64.max) ∧ (False ∨ inf.bytes = 0)) := fun h => hnot ⟨h.1, h.2.imp_left False.elim⟩
  simp only [if_neg hroom, lwp_bind, lwp_typeInfo hi, if_neg hnot', if_neg hbytes, lwp_pure]
  have hch : ∀ {K : Nat → Cells → Prop}, (∀ a, n + m ≤ a → K a h) → Sem.lwp P (choose (Question.appendCap (n + m) c el)) K E h := by
   intro K hK
   show (if _ then _ else _)
   split
   ·rename_i hf; simp [Question.forced] at hf
   ·intro t; exact hK _ (Nat.le_add_right _ _)
  refine hch fun a ha => ?_
  have hroom' : ∀ {K : Unit → Cells → Prop}, K () h → Sem.lwp P (askRoom (a * inf.bytes)) K E h := by
   intro K hK
   unfold askRoom
   split
   ·exact ⟨rfl, hK⟩
   ·exact hK
  refine hroom' ?_
  have hold : ∀ {K : Array Value → Cells → Prop}, (∀ old : Array Value, old.toList = vs → K old h) → Sem.lwp P (Builtin.firstCells inf.size n (Value.slice p n c)) K E h := by
   intro K hK
   rcases hown with ⟨rfl, rfl, rfl⟩ | ⟨r, cs, rfl, hr, hcs, hnc, hv⟩
   ·have : vs = [] := List.eq_nil_of_length_eq_zero (by rw [hvl]; simp)
    simp only [Builtin.firstCells, lwp_pure]
    exact hK #[] (by rw [this])
   ·simp only [Builtin.firstCells]
    refine lwp_loads (l := vs) hvl (fun j v hj => ?_) (hK _ rfl)
    have e : Addr.add ⟨r, 0, none⟩ j = ⟨r, j, none⟩ := by unfold Addr.add; split <;> simp_all
    rw [e]
    simp only [Cells.cell?, hr, Option.isSome_none, Bool.false_eq_true, if_false]
    exact hv j v hj
  refine hold fun old hold => ?_
  simp only [Builtin.firstCells]
  refine lwp_loads (l := ws) hl hc ?_
  simp only [lwp_zeroValue hi hz]
  refine lwp_newRow fun r hr => ?_
  have hzs : (Builtin.zeroCells z.cells (a - (n + m))).size = (a - (n + m)) * inf.size := by simp [Builtin.zeroCells, hsz]
  refine hq _ _ _ ⟨by simp [hvl, hl, Nat.add_mul], .inr ⟨r, _, rfl, Cells.upd_self _ _ _, ?_, ha, ?_⟩⟩ ?_ (.inr ⟨r, rfl, hr⟩)
  ·have e1 : old.size = n * inf.size := by rw [← Array.length_toList, hold, hvl]
   have e2 : (ws.toArray).size = m * inf.size := by simp [hl]
   simp only [Array.size_append, e1, e2, hzs]
   rw [← Nat.add_mul, ← Nat.add_mul]; congr 1; omega
  ·intro j v hj
   have hlen : j < (vs ++ ws).length := (List.getElem?_eq_some_iff.1 hj).1
   rw [← Array.getElem?_toList, Array.toList_append, Array.toList_append, hold, List.getElem?_append_left (by simpa using hlen)]
   exact hj
  ·intro r' x hx' _
   have : r' ≠ r := by rintro rfl; rw [hr] at hx'; cases hx'
   rw [Cells.upd_ne _ _ this]; exact hx'
theorem lwp_appendSB {Q : Value → Cells → Prop} {ts : Array TypeId} {ty sT xT el xe : TypeId} {s by_ : Nat} {z : Value} {p : Option Addr} {n c m mc : Nat} {b : Addr} {vs ws : List Value} (h0 : ts[0]? = some sT) (h1 : ts[1]? = some xT) (hu : P.underlying sT = some (.slice el)) (hx : P.underlying xT = some (.slice xe))
  (hi : (P.info? el).map (fun i => (i.size, i.bytes, i.zero)) = some (s, by_, some z)) (hsz : z.cells.size = s) (hnm : n + m ≤ 2 ^ 62) (hcap : ¬ n + m ≤ c → Builtin.nextslicecap (n + m) c * by_ ≤ 2 ^ 48) (own : OwnRow el s h p n c vs) (hl : ws.length = m * s) (hc : ∀ (j : Nat) v, ws[j]? = some v → h.cell? (b.add j) = some v) (one : ∀ v ∈ ws, isOne v = true) (hm : 0 < m)
  (hq : ∀ p' c' h', OwnRow el s h' p' (n + m) c' (vs ++ ws) → KeptBut p h h' → (p' = p ∨ ∃ r, p' = some ⟨r, 0, none⟩ ∧ h r = none) → Q (.slice p' (n + m) c') h') : Sem.lwp P (Builtin.append_ ts ty #[.slice p n c, .slice (some b) m mc]) Q E h := by
 obtain ⟨i, g1, g2, g3, g4⟩ := info_of hi
 subst g2; subst g3
 exact lwp_appendB h0 h1 hu hx g1 g4 hsz hnm hcap own hl hc one hm hq
theorem t_appendB {X : XP} {Q : Leaf → LH → Prop} {h : LH} {k : Value → T} {ts : Array TypeId} {ty sT xT el xe : TypeId} {s by_ : Nat} {z : Value} {p : Option Addr} {n c m mc : Nat} {b : Addr} {vs ws : List Value} (h0 : ts[0]? = some sT) (h1 : ts[1]? = some xT) (hu : P.underlying sT = some (.slice el)) (hx : P.underlying xT = some (.slice xe))
  (hi : (P.info? el).map (fun i => (i.size, i.bytes, i.zero)) = some (s, by_, some z)) (hsz : z.cells.size = s) (hnm : n + m ≤ 2 ^ 62) (hcap : ¬ n + m ≤ c → Builtin.nextslicecap (n + m) c * by_ ≤ 2 ^ 48) (own : OwnRow el s h.get p n c vs) (hl : ws.length = m * s) (hc : ∀ (j : Nat) v, ws[j]? = some v → h.get.cell? (b.add j) = some v) (one : ∀ v ∈ ws, isOne v = true) (hm : 0 < m)
  (hk : ∀ p' c' h', OwnRow el s h' p' (n + m) c' (vs ++ ws) → KeptBut p h.get h' → (p' = p ∨ ∃ r, p' = some ⟨r, 0, none⟩ ∧ h.get r = none) → (k (.slice p' (n + m) c')).wp X P Q { h with get := h' }) : (T.sem false (Builtin.append_ ts ty #[.slice p n c, .slice (some b) m mc]) k).wp X P Q h :=
 t_sem (A := fun v h' => ∃ p' c', v = .slice p' (n + m) c' ∧ OwnRow el s h' p' (n + m) c' (vs ++ ws) ∧ KeptBut p h.get h' ∧ (p' = p ∨ ∃ r, p' = some ⟨r, 0, none⟩ ∧ h.get r = none)) (lwp_appendSB h0 h1 hu hx hi hsz hnm hcap own hl hc one hm fun p' c' h' a b c => ⟨p', c', rfl, a, b, c⟩)
  (by rintro v h' ⟨p', c', rfl, a, b, c⟩; exact hk p' c' h' a b c)
section
variable {P : Program} {X : XP} {Q : Leaf → LH → Prop}
theorem t_copyB {α : Type} {E : Cells → Addr → α → Prop} {Enc : α → List Value → Prop} {h h₀ : LH} {k : Value → T} {ts : Array TypeId} {ty sT xT el xe : TypeId} {s by_ : Nat} {z : Value} {p q : Option Addr} {n c m mc : Nat} {l l1 : List α} (h0 : ts[0]? = some sT) (h1 : ts[1]? = some xT) (hu : P.underlying sT = some (.slice el)) (hx : P.underlying xT = some (.slice xe))
  (hi : (P.info? el).map (fun i => (i.size, i.bytes, i.zero)) = some (s, by_, some z)) (hsz : z.cells.size = s) (hn : n + m ≤ 2 ^ 62) (hcap : ¬ n + m ≤ c → Builtin.nextslicecap (n + m) c * by_ ≤ 2 ^ 48) (g : Growing Enc el s h₀.get h.get p n c l) (hle : h₀.le h) (src : Sl E s h.get q m l1) (he : ToldE E Enc s h.get)
  (hk : ∀ p' c' h', h₀.le h' → (∀ r y, (∀ a, p = some a → a.block ≠ r) → h.get r = some y → h'.get r = some y) → Growing Enc el s h₀.get h'.get p' (n + m) c' (l ++ l1) → (k (.slice p' (n + m) c')).wp X P Q h') : (T.sem false (Builtin.append_ ts ty #[.slice p n c, .slice q m mc]) k).wp X P Q h := by
 obtain ⟨vs, o, r⟩ := g.row
 by_cases hm : m = 0
 ·subst hm
  have hl1 : l1 = [] := List.eq_nil_of_length_eq_zero src.1.symm
  subst hl1
  refine t_append0 h0 h1 hu hx hi o.le_cap ?_
  have := hk p c h hle (fun r y _ hy => hy) (by rw [List.append_nil]; exact g)
  exact this
 ·obtain ⟨x, b, _, hb', _⟩ := src.at (i := 0) (by omega)
  subst hb'
  obtain ⟨ws, w1, w2, w3, w4⟩ := flat he src l1.length (Nat.le_refl _)
  rw [List.take_length] at w1
  have hm' := src.1
  refine t_appendB h0 h1 hu hx hi hsz hn hcap o (by rw [w2, hm']) w3 w4 (by omega) fun p' c' h' a b c => ?_
  obtain ⟨l1', l2'⟩ := after_append hle.1 g.new b c
  exact hk p' c' _ ⟨l1', hle.2⟩ (fun r y hr hy => b r y hy hr) ⟨⟨vs ++ ws, a, r.append w1⟩, l2'⟩
end
theorem cap_first (m : Nat) : ¬ 0 + m ≤ 0 → Builtin.nextslicecap (0 + m) 0 = m := by
 intro h
 unfold Builtin.nextslicecap
 rw [if_pos (by omega)]; omega
theorem cap_next {m c : Nat} (hc : m ≤ c) : ¬ m + 1 ≤ c → Builtin.nextslicecap (m + 1) c ≤ m + m / 4 + 600 := by
 intro h
 obtain rfl : c = m := by omega
 unfold Builtin.nextslicecap
 split
 ·omega
 ·split
  ·omega
  ·unfold Builtin.growBy
   split
   ·omega
   ·unfold Builtin.growBy
    rw [if_pos (by omega)]; omega
end Go.TM
end
section
namespace Go.Proofs.YtldamlcehbdkdaaGreatDoor.Tre
open Go Go.TM Go.Proofs Go.TM.Tr
attribute [local irreducible] T.wp CV FWK
def evCells (e : Ev) (q : Option Addr) (m c : Nat) : List Value := [.int .i64 e.kind, .int .i64 e.day, .int .i64 e.land, .slice q m c, .int .i64 e.since]
theorem ev_src {h0 h : Cells} {e : Ev} {q : Option Addr} {m c r : Nat} (hm : m ≤ c) (he : Sl IntE 1 h0 q m e.items) (hc : ∀ (j : Nat) w, (evCells e q m c)[j]? = some w → h.cell? (Addr.add ⟨r, 0, none⟩ j) = some w) : Sl (EventB h0) 5 h (some ⟨r, 0, none⟩) 1 [e] := by
 refine ⟨rfl, by simp, fun i x hx => ⟨_, rfl, ?_⟩⟩
 match i, hx with
 | 0, hx =>
  cases hx
  refine ⟨q, m, c, fun j w hj => ?_, hm, he⟩
  rw [Nat.zero_mul, add_zero2]
  exact hc j w hj
 | i + 1, hx => simp at hx
theorem own_of {α : Type} {Enc : α → List Value → Prop} {el : TypeId} {k : Nat} {h₀ h : Cells} {r n c : Nat} {l : List α} (g : Growing Enc el k h₀ h (some ⟨r, 0, none⟩) n c l) : ∃ cs, h r = some (true, .cells cs el (0, 0)) := by
 obtain ⟨vs, ⟨_, h2⟩, _⟩ := g.row
 rcases h2 with ⟨h3, _⟩ | ⟨r', cs, h3, h4, _⟩
 ·cases h3
 ·cases h3; exact ⟨cs, h4⟩
theorem own_cells {h : Cells} {r : Nat} {el : TypeId} {e : Ev} {q : Option Addr} {m c : Nat} (ho : h r = some (true, .cells #[.int .i64 e.kind, .int .i64 e.day, .int .i64 e.land, .slice q m c, .int .i64 e.since] el (0, 0))) : ∀ (j : Nat) w, (evCells e q m c)[j]? = some w → h.cell? (Addr.add ⟨r, 0, none⟩ j) = some w := by
 intro j w hj
 rw [add_plain, Nat.zero_add]
 simp only [Cells.cell?, ho, Option.isSome_none, Bool.false_eq_true, if_false]
 simpa [evCells] using hj
set_option maxRecDepth 10000 in
theorem c2035 {h : LH} {f : TC} {x : TF} (hx : TreatyR h.get f x) (hbig : x.events.length * 56 ≤ 2 ^ 47) {e : Ev} {q : Option Addr} {m c : Nat} (hm : m ≤ c) (he : Sl IntE 1 h.get q m e.items) :
  Gr Tryz.prog 37 #[treatyV f x, .agg #[.int .i64 e.kind, .int .i64 e.day, .int .i64 e.land, .slice q m c, .int .i64 e.since]] h fun r h' => ∃ f' b, r = .tuple #[treatyV f' (add x e), .bool b] ∧ TreatyR h'.get f' (add x e) ∧ (b = true → checkT (add x e) = 0) := by
 refine w2035 _ _ _ _ _ _ _ _ _ _ _ _ _ _ _ _ X0_ok ?_
 unfold n2035
 have hn := hx.2.1
 have src : ∀ h' : LH, h.le h' → Sl (EventB h.get) 5 h'.get f.p f.n x.events := fun h' hle => EventB.of (Rd.of_le hle.1) hx.2
 have cap1 : ¬ 0 + f.n ≤ 0 → Builtin.nextslicecap (0 + f.n) 0 * 56 ≤ 2 ^ 48 := fun hh => by rw [cap_first f.n hh]; omega
 have cap2 : ∀ c', 0 + f.n ≤ c' → ¬ (0 + f.n) + 1 ≤ c' → Builtin.nextslicecap (0 + f.n + 1) c' * 56 ≤ 2 ^ 48 := fun c' hc hh => by
  have := Nat.mul_le_mul_right 56 (cap_next hc hh)
  omega
 refine t_blk (fun vs h' => ∃ p' n' c', vs = [.int .i64 x.items, .int .i64 x.lands, .int .i64 x.start, .int .i64 x.depend, .int .i64 x.refuse, .int .i64 x.turn, .slice p' n' c'] ∧ h.le h' ∧ Growing (EventEnc h.get) 91 5 h.get h'.get p' n' c' (x.events ++ [e])) ?_ ?_
 ·refine t_both ?_ ?_
  ·refine t_build0G (h₀ := h) (Enc := EventEnc h.get) undEvs infEv (LH.le_refl _) fun r h1 _ le1 g1 => ?_
   refine gZ ?_
   refine t_both ?_ ?_
   ·refine t_copyB (h₀ := h) (E := EventB h.get) (Enc := EventEnc h.get) rfl rfl undEvs undEvs infEv rfl (by omega) cap1 g1 le1 (src _ le1) eventTold fun p2 c2 h2 le2 _ g2 => ?_
    obtain ⟨_, o2, _⟩ := g2.row
    refine gZ ?_
    refine t_buildR (evCells e q m c) undEvs infEv (by decide) (by decide) (by kernel_rfl) fun r3 h3 le3 _ hc3 => ?_
    refine gZ ?_
    refine t_copyB (h₀ := h) (E := EventB h.get) (Enc := EventEnc h.get) rfl rfl undEvs undEvs infEv rfl (by omega) (cap2 _ o2.le_cap) (g2.le le3.1) (LH.le_trans le2 le3) (ev_src hm he hc3) eventTold fun p4 c4 h4 le4 _ g4 => ?_
    refine gZ ?_
    exact t_again ⟨_, _, _, rfl, le4, g4⟩
   ·refine t_build undEvs infEv (by decide) (by decide) (cells := #[.int .i64 e.kind, .int .i64 e.day, .int .i64 e.land, .slice q m c, .int .i64 e.since]) (by kernel_rfl) fun r3 hr3 => ?_
    have le3 := LH.upd_le (x := (true, .cells #[.int .i64 e.kind, .int .i64 e.day, .int .i64 e.land, .slice q m c, .int .i64 e.since] 91 (0, 0))) hr3
    refine gZ ?_
    have le13 := LH.le_trans le1 le3
    obtain ⟨cs1, o1⟩ := own_of g1
    refine t_copyB (h₀ := h) (E := EventB h.get) (Enc := EventEnc h.get) rfl rfl undEvs undEvs infEv rfl (by omega) cap1 (g1.le le3.1) le13 (src _ le13) eventTold fun p2 c2 h2 le2 kp2 g2 => ?_
    obtain ⟨_, o2, _⟩ := g2.row
    have h23 := kp2 r3 _ (fun a ha => by cases ha; exact ne_of_get hr3 o1) (Cells.upd_self _ _ _)
    refine gZ ?_
    refine t_copyB (h₀ := h) (E := EventB h.get) (Enc := EventEnc h.get) rfl rfl undEvs undEvs infEv rfl (by omega) (cap2 _ o2.le_cap) g2 le2 (ev_src hm he (own_cells h23)) eventTold fun p4 c4 h4 le4 _ g4 => ?_
    refine gZ ?_
    exact t_again ⟨_, _, _, rfl, le4, g4⟩
  ·refine t_build undEvs infEv (by decide) (by decide) (cells := #[.int .i64 e.kind, .int .i64 e.day, .int .i64 e.land, .slice q m c, .int .i64 e.since]) (by kernel_rfl) fun r3 hr3 => ?_
   have le3 := LH.upd_le (x := (true, .cells #[.int .i64 e.kind, .int .i64 e.day, .int .i64 e.land, .slice q m c, .int .i64 e.since] 91 (0, 0))) hr3
   refine gZ ?_
   refine t_build0G (h₀ := h) (Enc := EventEnc h.get) undEvs infEv le3 fun r h1 hr1 le1 g1 => ?_
   refine gZ ?_
   have h13 := le1.1 r3 _ (Cells.upd_self _ _ _)
   have le01 := LH.le_trans le3 le1
   refine t_copyB (h₀ := h) (E := EventB h.get) (Enc := EventEnc h.get) rfl rfl undEvs undEvs infEv rfl (by omega) cap1 g1 le01 (src _ le01) eventTold fun p2 c2 h2 le2 kp2 g2 => ?_
   obtain ⟨_, o2, _⟩ := g2.row
   have h23 := kp2 r3 _ (fun a ha => by cases ha; exact (ne_of_get hr1 (Cells.upd_self _ _ _)).symm) h13
   refine gZ ?_
   refine t_copyB (h₀ := h) (E := EventB h.get) (Enc := EventEnc h.get) rfl rfl undEvs undEvs infEv rfl (by omega) (cap2 _ o2.le_cap) g2 le2 (ev_src hm he (own_cells h23)) eventTold fun p4 c4 h4 le4 _ g4 => ?_
   refine gZ ?_
   exact t_again ⟨_, _, _, rfl, le4, g4⟩
 rintro vs h1 ⟨p', n', c', rfl, le1, g⟩
 have hn' := g.count EventEnc.len (by omega)
 rw [List.length_append, List.length_singleton] at hn'
 have hx' : TreatyR h1.get ⟨p', n', c'⟩ (add x e) := by
  obtain ⟨_, o, _⟩ := g.row
  exact ⟨o.le_cap, g.sl EventEnc.len (by omega) (EventEnc.e (Rd.of_le le1.1)) (by show (x.events ++ [e]).length < _; rw [List.length_append, List.length_singleton]; omega)⟩
 refine gZ ?_
 refine t_if (fun e1 => ?_) (fun e1 => ?_)
 ·refine t_pu (c2022 (f := ⟨p', n', c'⟩) (x := add x e) hx') ?_
  refine gZ ?_
  exact t_ret ⟨le1, ⟨p', n', c'⟩, _, rfl, hx', fun hb => by simpa using hb⟩
 ·refine gZ ?_
  refine t_both ?_ ?_
  ·refine gZ ?_
   exact t_ret ⟨le1, ⟨p', n', c'⟩, _, rfl, hx', fun hb => by cases hb⟩
  ·refine gZ ?_
   exact t_ret ⟨le1, ⟨p', n', c'⟩, _, rfl, hx', fun hb => by cases hb⟩
end Go.Proofs.YtldamlcehbdkdaaGreatDoor.Tre
end
section
namespace Go.Proofs.YtldamlcehbdkdaaGreatDoor.Tre
open Go Go.TM Go.Proofs Go.TM.Tr
attribute [local irreducible] T.wp CV FWK
theorem added_ok {x : TF} {e : Ev} (h : checkT (add x e) = 0) : EventOk (add x e) e := event_ok.1 (check_event h e (by show e ∈ x.events ++ [e]; simp))
end Go.Proofs.YtldamlcehbdkdaaGreatDoor.Tre
end
section
namespace Go.Proofs.YtldamlcehbdkdaaGreatDoor.Tre
open Go Go.TM Go.Proofs Go.TM.Tr
attribute [local irreducible] T.wp CV FWK
theorem items_len {x : TF} (h : checkT x = 0) {e : Ev} (he : e ∈ x.events) : e.items.length ≤ 5 := by
 have h1 := (event_ok.1 (check_event h e he)).items
 obtain ⟨h2, h3⟩ := items_ok h1
 have h4 := (check_numbers h).1
 have := nodup_len (l := e.items) (m := [0, 1, 2, 3, 4]) (h3.imp fun h => by omega) fun v hv => by
  have := h2 v hv
  have h5 : v = 0 ∨ v = 1 ∨ v = 2 ∨ v = 3 ∨ v = 4 := by omega
  simp; omega
 simpa using this
end Go.Proofs.YtldamlcehbdkdaaGreatDoor.Tre
end
section
namespace Go.Proofs.YtldamlcehbdkdaaGreatDoor
open Go Go.TM Go.Proofs
set_option linter.unusedVariables false
set_option maxRecDepth 100000
variable {X : XP} {h : LH} {A : Value → LH → Prop}
noncomputable def n3105 (x_0 x_1 x_2 x_3 x_4 x_5 : Int) (x_6p : Option Addr) (x_6n x_6c : Nat) (e_0 e_1 e_2 : Int) (e_3p : Option Addr) (e_3n e_3c : Nat) (e_4 g_0 g_1 g_2 : Int) (g_3p : Option Addr) (g_3n g_3c : Nat) (g_4 land day : Int) (t_0p : Option Addr) (t_0n t_0c : Nat) (t_1p : Option Addr) (t_1n t_1c : Nat) (t_2p : Option Addr) (t_2n t_2c : Nat) (from0 to : Int) : T := .blk (.call false 32 #[.agg #[.int .i64 x_0, .int .i64 x_1, .int .i64 x_2, .int .i64 x_3, .int .i64 x_4, .int .i64 x_5, .slice x_6p x_6n x_6c]] fun v => .unB v fun b => bif !b then .call false 33 #[] fun v => .unB v fun b => .leaf (.retn [.bool b]) else .call false 12 #[.agg #[.slice t_0p t_0n t_0c, .slice t_1p t_1n t_1c, .slice t_2p t_2n t_2c]] fun v => .unB v fun b => bif !b then .call false 33 #[] fun v => .unB v fun b => .leaf (.retn [.bool b]) else .leaf (.again [.bool false])) (fun vs => .popB vs fun b vs => .unNil vs (.need ((↑t_0n : Int) ≠ 0) (.need ((↑t_0n : Int) ≠ 0) (.need ((↑t_0n : Int) ≠ 0) (.nd (.int .i64 (Int.tmod (IntKind.wrap .i64 to) (↑t_0n : Int))) (.nd (.int .i64 (↑t_0n : Int)) (.nd (.slice t_0p t_0n t_0c) (.need (AV.pp 13 0 = AV.pp 13 0) (.nd (.int .i64 (IntKind.wrap .i64 to)) (.nd (.int .u8 to) (.blk (.call false 37 #[.agg #[.int .i64 x_0, .int .i64 x_1, .int .i64 x_2, .int .i64 x_3, .int .i64 x_4, .int .i64 x_5, .slice x_6p x_6n x_6c], .agg #[.int .i64 3, .int .i64 e_1, .int .i64 e_2, .slice e_3p e_3n e_3c, .int .i64 0]] fun v => .unTup v fun l => .unCons l fun v vs => .unAgg v fun l => .popI .i64 l fun n vs_1 => .popI .i64 vs_1 fun n_1 vs_2 => .popI .i64 vs_2 fun n_2 vs_3 => .popI .i64 vs_3 fun n_3 vs_4 => .popI .i64 vs_4 fun n_4 vs_5 => .popI .i64 vs_5 fun n_5 vs_6 => .popS vs_6 fun a n_6 c vs_7 => .unNil vs_7 (.unCons vs fun v vs => .unB v fun b_1 => .unNil vs (bif b_1 then .call false 45 #[.agg #[.int .i64 x_0, .int .i64 x_1, .int .i64 x_2, .int .i64 x_3, .int .i64 x_4, .int .i64 x_5, .slice x_6p x_6n x_6c], .int .i64 e_2, .int .i64 e_1, .agg #[.slice t_0p t_0n t_0c, .slice t_1p t_1n t_1c, .slice t_2p t_2n t_2c], .int .i64 (Int.tmod (IntKind.wrap .i64 from0) (↑t_0n : Int))] fun v => .unTup v fun l => .unCons l fun v vs => .unS v fun a_1 n_7 c_1 => .unCons vs fun v vs => .unB v fun b_2 => .unNil vs (.call false 45 #[.agg #[.int .i64 n, .int .i64 n_1, .int .i64 n_2, .int .i64 n_3, .int .i64 n_4, .int .i64 n_5, .slice a n_6 c], .int .i64 e_2, .int .i64 e_1, .agg #[.slice t_0p t_0n t_0c, .slice t_1p t_1n t_1c, .slice t_2p t_2n t_2c], .int .i64 (Int.tmod (IntKind.wrap .i64 from0) (↑t_0n : Int))] fun v => .unTup v fun l => .unCons l fun v vs => .unS v fun a n c => .unCons vs fun v vs => .unB v fun b_3 => .unNil vs (.loop [.slice none 0 0, .int .i64 0] (fun vs => .popS vs fun a n c vs => .popI .i64 vs fun n_8 vs => .unNil vs (bif decide (n_8 < (↑e_3n : Int)) then .need (0 ≤ n_8 ∧ n_8 < (↑e_3n : Int)) (.someA e_3p fun a_2 => .loadI .i64 (a_2.add (n_8.toNat * 1)) fun n_9 => .need (0 ≤ Int.tmod (IntKind.wrap .i64 from0) (↑t_0n : Int) ∧ Int.tmod (IntKind.wrap .i64 from0) (↑t_0n : Int) < (↑t_0n : Int)) (.someA t_0p fun a_3 => .loadS ((a_3.add ((Int.tmod (IntKind.wrap .i64 from0) (↑t_0n : Int)).toNat * 1)).add 0) fun p n_10 c_2 => bif decide (n_9 < (↑n_10 : Int)) then .need (0 ≤ n_8 ∧ n_8 < (↑e_3n : Int)) (.someA e_3p fun a_4 => .loadI .i64 (a_4.add (n_8.toNat * 1)) fun n_11 => .sem false (Instr.buildSlice 30 1 #[(0, .int .i64 n_11)]) fun v => .unS v fun a_5 n_12 c_3 => .sem false (Builtin.append_ #[30, 30] 30 #[.slice a n c, .slice a_5 n_12 c_3]) fun v => .unS v fun a n c => .leaf (.again [.slice a n c, .int .i64 (IntKind.wrap .i64 (n_8 + 1))])) else .leaf (.again [.slice a n c, .int .i64 (IntKind.wrap .i64 (n_8 + 1))]))) else .leaf (.brk [.slice a n c, .int .i64 n_8]))) (fun vs => .popS vs fun a_2 n_8 c_2 vs => .popI .i64 vs fun n_9 vs => .unNil vs (.sem false (Instr.buildSlice 58 1 #[(0, .agg #[.slice a_2 n_8 c_2, .bool false])]) fun v => .unS v fun a_3 n_10 c_3 => .call false 21 #[.agg #[.slice t_0p t_0n t_0c, .slice t_1p t_1n t_1c, .slice t_2p t_2n t_2c], .int .i64 (Int.tmod (IntKind.wrap .i64 from0) (↑t_0n : Int)), .slice a_1 n_7 c_1, .slice a_3 n_10 c_3] fun v => .unTup v fun l => .unCons l fun v vs => .unS v fun a_4 n_11 c_4 => .unCons vs fun v vs => .unI .i64 v fun n_12 => .unNil vs (.call false 19 #[.agg #[.slice t_0p t_0n t_0c, .slice t_1p t_1n t_1c, .slice t_2p t_2n t_2c], .int .i64 (Int.tmod (IntKind.wrap .i64 from0) (↑t_0n : Int)), .slice a_1 n_7 c_1, .slice a n c] fun v => .unTup v fun l => .unCons l fun v vs => .unI .i64 v fun n_13 => .unCons vs fun v vs => .unI .i64 v fun n_14 => .unNil vs (bif !b_2 then .leaf (.retn [.bool false]) else bif !b_3 then .leaf (.retn [.bool false]) else bif n_12 != 0 then .leaf (.retn [.bool false]) else bif n_14 != 0 then .leaf (.retn [.bool false]) else bif n_13 != -1 then .leaf (.retn [.bool false]) else .call false 22 #[.slice a_4 n_11 c_4, .slice a n c] fun v => .unB v fun b_4 => bif !b_4 then .leaf (.retn [.bool false]) else .leaf (.again [.bool b]))))) (fun vs => .popS vs fun a n c vs => .popI .i64 vs fun n vs => .unNil vs (.leaf (.retn [.bool b]))) fun x x_6 => .fail)) else .leaf (.again [.bool b])))) (fun vs => .popB vs fun b vs => .unNil vs (.call false 37 #[.agg #[.int .i64 x_0, .int .i64 x_1, .int .i64 x_2, .int .i64 x_3, .int .i64 x_4, .int .i64 x_5, .slice x_6p x_6n x_6c], .agg #[.int .i64 g_0, .int .i64 g_1, .int .i64 g_2, .slice g_3p g_3n g_3c, .int .i64 g_4]] fun v => .unTup v fun l => .unCons l fun v vs => .unAgg v fun l => .popI .i64 l fun n vs_1 => .popI .i64 vs_1 fun n_1 vs_2 => .popI .i64 vs_2 fun n_2 vs_3 => .popI .i64 vs_3 fun n_3 vs_4 => .popI .i64 vs_4 fun n_4 vs_5 => .popI .i64 vs_5 fun n_5 vs_6 => .popS vs_6 fun a n_6 c vs_7 => .unNil vs_7 (.unCons vs fun v vs => .unB v fun b_1 => .unNil vs (.blk (bif !b_1 then .call false 33 #[] fun v => .unB v fun b => .leaf (.retn [.bool b]) else bif g_0 != 0 then bif g_0 != 2 then bif g_0 != 5 then .call false 33 #[] fun v => .unB v fun b => .leaf (.retn [.bool b]) else .leaf (.again [.bool b]) else .leaf (.again [.bool b]) else .leaf (.again [.bool b])) (fun vs => .popB vs fun b vs => .unNil vs (.need (x_1 ≠ 0) (.call false 40 #[.int .u16 day] fun v => .unI .i64 v fun n_7 => .nd (.int .i64 (Int.tmod (IntKind.wrap .i64 from0) (↑t_0n : Int))) (.nd (.agg #[.slice t_0p t_0n t_0c, .slice t_1p t_1n t_1c, .slice t_2p t_2n t_2c]) (.need (x_1 ≠ 0) (.nd (.int .i64 (Int.tmod (IntKind.wrap .i64 land) x_1)) (.nd (.int .i64 x_1) (.need (AV.pp 8 1 = AV.pp 8 1) (.nd (.int .i64 (IntKind.wrap .i64 land)) (.nd (.int .u8 land) (.nd (.agg #[.int .i64 x_0, .int .i64 x_1, .int .i64 x_2, .int .i64 x_3, .int .i64 x_4, .int .i64 x_5, .slice x_6p x_6n x_6c]) (.call false 45 #[.agg #[.int .i64 x_0, .int .i64 x_1, .int .i64 x_2, .int .i64 x_3, .int .i64 x_4, .int .i64 x_5, .slice x_6p x_6n x_6c], .int .i64 (Int.tmod (IntKind.wrap .i64 land) x_1), .int .i64 n_7, .agg #[.slice t_0p t_0n t_0c, .slice t_1p t_1n t_1c, .slice t_2p t_2n t_2c], .int .i64 (Int.tmod (IntKind.wrap .i64 from0) (↑t_0n : Int))] fun v => .unTup v fun l => .unCons l fun v vs => .unS v fun a_1 n_8 c_1 => .unCons vs fun v vs => .unB v fun b => .unNil vs (.nd (.int .i64 x_1) (.need (AV.pp 8 1 = AV.pp 8 1) (.nd (.int .i64 (IntKind.wrap .i64 land)) (.nd (.int .u8 land) (.nd (.bool b) (.need (x_1 ≠ 0) (.call false 40 #[.int .u16 day] fun v => .unI .i64 v fun n_9 => .nd (.int .i64 (Int.tmod (IntKind.wrap .i64 from0) (↑t_0n : Int))) (.nd (.agg #[.slice t_0p t_0n t_0c, .slice t_1p t_1n t_1c, .slice t_2p t_2n t_2c]) (.need (x_1 ≠ 0) (.nd (.int .i64 (Int.tmod (IntKind.wrap .i64 land) x_1)) (.nd (.int .i64 x_1) (.need (AV.pp 8 1 = AV.pp 8 1) (.nd (.int .i64 (IntKind.wrap .i64 land)) (.nd (.int .u8 land) (.nd (.agg #[.int .i64 n, .int .i64 n_1, .int .i64 n_2, .int .i64 n_3, .int .i64 n_4, .int .i64 n_5, .slice a n_6 c]) (.call false 45 #[.agg #[.int .i64 n, .int .i64 n_1, .int .i64 n_2, .int .i64 n_3, .int .i64 n_4, .int .i64 n_5, .slice a n_6 c], .int .i64 (Int.tmod (IntKind.wrap .i64 land) x_1), .int .i64 n_9, .agg #[.slice t_0p t_0n t_0c, .slice t_1p t_1n t_1c, .slice t_2p t_2n t_2c], .int .i64 (Int.tmod (IntKind.wrap .i64 from0) (↑t_0n : Int))] fun v => .unTup v fun l => .unCons l fun v vs => .unS v fun a n c => .unCons vs fun v vs => .unB v fun b_2 => .unNil vs (.nd (.int .i64 x_1) (.need (AV.pp 8 1 = AV.pp 8 1) (.nd (.int .i64 (IntKind.wrap .i64 land)) (.nd (.int .u8 land) (.nd (.bool b_2) (.call false 46 #[.agg #[.slice t_0p t_0n t_0c, .slice t_1p t_1n t_1c, .slice t_2p t_2n t_2c], .int .i64 (Int.tmod (IntKind.wrap .i64 from0) (↑t_0n : Int)), .int .i64 (Int.tmod (IntKind.wrap .i64 to) (↑t_0n : Int)), .slice a_1 n_8 c_1] fun v => .unTup v fun l => .unCons l fun v vs => .unS v fun a_2 n_10 c_2 => .unCons vs fun v vs => .unS v fun a_3 n_11 c_3 => .unCons vs fun v vs => .unI .i64 v fun n_12 => .unNil vs (.call false 46 #[.agg #[.slice t_0p t_0n t_0c, .slice t_1p t_1n t_1c, .slice t_2p t_2n t_2c], .int .i64 (Int.tmod (IntKind.wrap .i64 from0) (↑t_0n : Int)), .int .i64 (Int.tmod (IntKind.wrap .i64 to) (↑t_0n : Int)), .slice a n c] fun v => .unTup v fun l => .unCons l fun v vs => .unS v fun a n c => .unCons vs fun v vs => .unS v fun a_4 n_13 c_4 => .unCons vs fun v vs => .unI .i64 v fun n_14 => .unNil vs (bif b then bif b_2 then bif n_12 == 0 then bif n_14 == 0 then .call false 26 #[.slice a_2 n_10 c_2, .slice a n c] fun v => .unB v fun b => bif b then .call false 26 #[.slice a_3 n_11 c_3, .slice a_4 n_13 c_4] fun v => .unB v fun b => bif b then .call false 33 #[] fun v => .unB v fun b => .leaf (.ret (.bool b)) else .leaf (.ret (.bool false)) else .leaf (.ret (.bool false)) else .leaf (.ret (.bool false)) else .leaf (.ret (.bool false)) else .leaf (.ret (.bool false)) else .leaf (.ret (.bool false)))))))))))))))))))))))))))))))))))))) (fun vs => .popB vs fun b vs => .unNil vs (.leaf (.ret (.bool b)))) fun x x_6 => .fail)))) (fun vs => .popB vs fun b vs => .unNil vs (.leaf (.ret (.bool b)))) fun x x_6 => .fail))))))))))) (fun vs => .popB vs fun b vs => .unNil vs (.leaf (.ret (.bool b)))) fun x x_6 => .fail
theorem w3105 (x_0 x_1 x_2 x_3 x_4 x_5 : Int) (x_6p : Option Addr) (x_6n x_6c : Nat) (e_0 e_1 e_2 : Int) (e_3p : Option Addr) (e_3n e_3c : Nat) (e_4 g_0 g_1 g_2 : Int) (g_3p : Option Addr) (g_3n g_3c : Nat) (g_4 land day : Int) (t_0p : Option Addr) (t_0n t_0c : Nat) (t_1p : Option Addr) (t_1n t_1c : Nat) (t_2p : Option Addr) (t_2n t_2c : Nat) (from0 to : Int) (hX : XOK X) (hw : (n3105 x_0 x_1 x_2 x_3 x_4 x_5 x_6p x_6n x_6c e_0 e_1 e_2 e_3p e_3n e_3c e_4 g_0 g_1 g_2 g_3p g_3n g_3c g_4 land day t_0p
  t_0n t_0c t_1p t_1n t_1c t_2p t_2n t_2c from0 to).wp X Tryz.prog (retQ A) h) : FWK X Tryz.prog .normal 8 #[.agg #[.int .i64 x_0, .int .i64 x_1, .int .i64 x_2, .int .i64 x_3, .int .i64 x_4, .int .i64 x_5, .slice x_6p x_6n x_6c], .agg #[.int .i64 e_0, .int .i64 e_1, .int .i64 e_2, .slice e_3p e_3n e_3c, .int .i64 e_4], .agg #[.int .i64 g_0, .int .i64 g_1, .int .i64 g_2, .slice g_3p g_3n g_3c, .int .i64 g_4], .int .u8 land, .int .u16 day, .agg #[.slice t_0p t_0n t_0c, .slice t_1p t_1n t_1c, .slice t_2p t_2n t_2c], .int .u8 from0, .int .u8 to] h A := fwk_neat (show ftree ({ P := Tryz.prog, priv := [8, 9, 10, 13, 19, 31], loops := [{ id := 0, slots := [(25, .slice), (26, .int .i64)], ro := [8, 9, 10, 13, 19], outs := [] }], joins := [{ id := 22, slots := [(16, .bool)], ro := [8, 9, 10, 13, 19, 31], outs := [] }, { id := 19, slots := [(16, .bool)], ro := [8, 9, 10, 13], outs := [] }, { id := 3, slots := [(16, .bool)], ro := [8, 9, 10, 13], outs := [] }] }) Tryz.f8 [.agg #[.int .i64 x_0, .int .i64 x_1, .int .i64 x_2, .int .i64 x_3, .int .i64 x_4, .int .i64 x_5, .slice x_6p x_6n x_6c], .agg #[.int .i64 e_0, .int .i64 e_1, .int .i64 e_2, .slice e_3p e_3n e_3c, .int .i64 e_4], .agg #[.int .i64 g_0, .int .i64 g_1, .int .i64 g_2, .slice g_3p g_3n g_3c, .int .i64 g_4], .int .u8 land, .int .u16 day, .agg #[.slice t_0p t_0n t_0c, .slice t_1p t_1n t_1c, .slice t_2p t_2n t_2c], .int .u8 from0, .int .u8 to] = n3105 x_0 x_1 x_2 x_3 x_4 x_5 x_6p x_6n x_6c e_0 e_1 e_2 e_3p e_3n e_3c e_4 g_0 g_1 g_2 g_3p g_3n g_3c g_4 land day t_0p
  t_0n t_0c t_1p t_1n t_1c t_2p t_2n t_2c from0 to by kernel_rfl) (by simp) (by kernel_rfl) (by kernel_rfl) hX hw
end Go.Proofs.YtldamlcehbdkdaaGreatDoor
end
section
namespace Go.TM
open Go Go.Conc
def pickL (f : Nat → Bool) (m : Nat) : List Int := ((List.range m).filter f).map fun j : Nat => (j : Int)
theorem pick_succ (f : Nat → Bool) (m : Nat) : pickL f (m + 1) = pickL f m ++ (if f m then [(m : Int)] else []) := by
 unfold pickL
 rw [List.range_succ, List.filter_append, List.map_append]
 congr 1
 simp only [List.filter_cons, List.filter_nil]
 split <;> rfl
theorem pick_len (f : Nat → Bool) (m : Nat) : (pickL f m).length ≤ m := by
 unfold pickL
 rw [List.length_map]
 exact Nat.le_trans (List.length_filter_le _ _) (by simp)
theorem pick_mem {f : Nat → Bool} {m : Nat} {v : Int} : v ∈ pickL f m ↔ ∃ j : Nat, j < m ∧ f j = true ∧ v = (j : Int) := by
 unfold pickL
 simp only [List.mem_map, List.mem_filter, List.mem_range]
 constructor
 ·rintro ⟨j, ⟨h1, h2⟩, rfl⟩; exact ⟨j, h1, h2, rfl⟩
 ·rintro ⟨j, h1, h2, rfl⟩; exact ⟨j, ⟨h1, h2⟩, rfl⟩
theorem pick_ok {t : GTab} {e : Int} (he : 0 ≤ e ∧ e < (t.eds.length : Int)) {f : Nat → Bool} {m : Nat} (hm : m ≤ (t.items e).length) : ListOk t e (pickL f m) := by
 refine ⟨fun v hv => ?_, ?_⟩
 ·obtain ⟨j, h1, _, rfl⟩ := pick_mem.1 hv
  exact ⟨he.1, he.2, by omega, by omega⟩
 ·unfold pickL
  rw [List.pairwise_map]
  exact (List.Pairwise.sublist List.filter_sublist List.pairwise_lt_range).imp fun h => by omega
theorem pick_sub {f g : Nat → Bool} {m : Nat} (h : ∀ j, j < m → f j = true → g j = true) : ∀ v ∈ pickL f m, v ∈ pickL g m := by
 intro v hv
 obtain ⟨j, h1, h2, rfl⟩ := pick_mem.1 hv
 exact pick_mem.2 ⟨j, h1, h j h1 h2, rfl⟩
namespace Tr
theorem add_other {x : TF} {e : Ev} {k i d : Int} (h : e.items.contains i = false) : Facts x (add x e) k i d := by
 have no : ¬ e.items.contains i = true := fun h' => by rw [h'] at h; cases h
 exact ⟨rfl, rfl, fun K t _ _ _ => by rw [has_add]; exact or_iff_left fun hh => no (about_item hh.1), fun t _ => by rw [fell_add]; exact or_iff_left fun hh => no hh.2.1, fun t s _ => by rw [older_add]; exact or_iff_left fun hh => no (about_item hh.1)⟩
end Tr
end Go.TM
namespace Go.Proofs.YtldamlcehbdkdaaGreatDoor.Tre
open Go Go.TM Go.Proofs Go.TM.Tr
attribute [local irreducible] T.wp CV FWK
def heldB (x : TF) (k d : Int) : Nat → Bool := fun j => decide (dateOn x k j d ≥ 0)
set_option maxRecDepth 10000 in
theorem c3127 {h : LH} (hk : Kinds h.get) {f : TC} {x : TF} (hx : TreatyR h.get f x) (hi0 : 0 ≤ x.items ∧ x.items ≤ 5) {k d : Int} (au : askedDayT x k d = 0) {g : TabC} {t : GTab} (hr : TabR h.get g t) {e : Int} (he : 0 ≤ e ∧ e < (t.eds.length : Int)) :
  Gr Tryz.prog 45 #[treatyV f x, .int .i64 k, .int .i64 d, tabV g, .int .i64 e] h fun r h' => ∃ p n c, r = .tuple #[.slice p n c, .bool true] ∧ Sl IntE 1 h'.get p n (pickL (heldB x k d) (min x.items.toNat (t.items e).length)) := by
 refine w3127 _ _ _ _ _ _ _ _ _ _ _ _ _ _ _ _ _ _ _ _ _ X0_ok ?_
 unfold n3127
 refine t_gr (c2018 hk hx k d) ?_
 intro r1 g1 le1 hr1
 obtain ⟨p1, n1, k1, rfl, s1, _⟩ := hr1.form
 rw [au]; rw [protA, if_pos au] at s1
 have hl1 : n1 = x.items.toNat := s1.1.trans (prot_len x k d)
 have hrg := hr.le le1.1
 obtain ⟨l, a0, hle0, ha0, q0, m0, c0, e2, e3⟩ := hrg.eds.at (i := e.toNat) (by have := hrg.eds.1; omega)
 have hen : 0 ≤ e ∧ e < (g.n0 : Int) := by have := hrg.eds.1; omega
 have hm0 : m0 = (t.items e).length := by
  unfold GTab.items
  rw [List.getD_eq_getElem?_getD, hle0]; exact e3.1
 rw [← hl1, ← hm0]
 have hb1 := s1.2.1
 have hb0 := e3.2.1
 have hlen0 := e3.1
 have hlen1 := s1.1
 refine gZ ?_
 refine t_loopB (fun mm vs h' => g1.le h' ∧ ∃ (i : Nat) (p : Option Addr) (n c : Nat), vs = [.slice p n c, .int .i64 i] ∧ i ≤ min n1 m0 ∧ mm = min n1 m0 - i ∧ Growing IntEnc 3 1 g1.get h'.get p n c (pickL (heldB x k d) i))
  (fun vs h' => g1.le h' ∧ ∃ (p : Option Addr) (n c : Nat), vs = [.slice p n c, .int .i64 (min n1 m0 : Nat)] ∧ Growing IntEnc 3 1 g1.get h'.get p n c (pickL (heldB x k d) (min n1 m0)))
  ⟨LH.le_refl _, 0, none, 0, 0, rfl, Nat.zero_le _, rfl, Growing.nil⟩ ?_ ?_
 ·rintro Y mm vs h2 hY ⟨le2, i, p, n, c, rfl, hi, rfl, gr⟩
  have fin : ¬ i < min n1 m0 → g1.le h2 ∧ ∃ (p' : Option Addr) (n' c' : Nat), [Value.slice p n c, .int .i64 (i : Int)] = [.slice p' n' c', .int .i64 (min n1 m0 : Nat)] ∧ Growing IntEnc 3 1 g1.get h2.get p' n' c' (pickL (heldB x k d) (min n1 m0)) := fun hn => by
   have : i = min n1 m0 := by omega
   exact ⟨le2, p, n, c, by rw [this], by rw [← this]; exact gr⟩
  have e2' := Cells.cell?_le le2.1 e2
  refine gZ ?_
  refine t_if (fun e4 => ?_) (fun e4 => ?_)
  ·refine gZ ?_
   refine t_if (fun e5 => ?_) (fun e5 => ?_)
   ·obtain ⟨a, ha, e6⟩ := bool_at s1 (prot_at (x := x) (k := k) (d := d) (j := i) (by omega))
    have e6' := Cells.cell?_le le2.1 e6
    have hin : 0 ≤ (i : Int) ∧ (i : Int) < (n1 : Int) := by omega
    have hks := pick_succ (heldB x k d) i
    have hkl := pick_len (heldB x k d) i
    have hng := gr.count IntEnc.len (by omega)
    refine gZ ?_
    refine t_cond (fun b1 => ?_) (fun b1 => ?_)
    ·rw [show heldB x k d i = true from b1, if_pos rfl] at hks
     refine t_pushI gr le2 (by omega) fun p' c' h3 le3 g3 => ?_
     refine gZ ?_
     refine t_again (hY (min n1 m0 - (i + 1)) _ _ (by omega) ⟨le3, i + 1, p', n + 1, c', ?_, by omega, rfl, by rw [hks]; exact g3⟩)
     rw [wrap_id (by omega) (by omega)]; rfl
    ·rw [show heldB x k d i = false from b1, if_neg (by simp), List.append_nil] at hks
     refine t_again (hY (min n1 m0 - (i + 1)) _ _ (by omega) ⟨le2, i + 1, p, n, c, ?_, by omega, rfl, by rw [hks]; exact gr⟩)
     rw [wrap_id (by omega) (by omega)]; rfl
   ·exact gH (fin (by omega))
  ·exact gH (fin (by omega))
 rintro vs h2 ⟨le2, p, n, c, rfl, gr⟩
 have hkl := pick_len (heldB x k d) (min n1 m0)
 refine gZ ?_
 refine t_cond (fun _ => ?_) (fun e => by cases e)
 have hit : ((n1 : Int) == x.items) = true := by simp; omega
 rw [hit]
 refine gZ ?_
 exact t_ret ⟨LH.le_trans le1 le2, p, n, c, rfl, gr.sl IntEnc.len (by omega) IntEnc.e (by omega)⟩
theorem limit_cut {x : TF} {e : Ev} (h3 : e.kind = 3) (hcy : checkT (add x e) = 0) {m : Nat} {M : Int} (hM : (m : Int) ≤ M) :
  cutsT (pickL (heldB x e.land e.day) m) [e.items.filter fun v => decide (v < M)] = pickL (heldB (add x e) e.land e.day) m := by
 have oky := check_ok hcy
 have hday := (added_ok hcy).day
 have up : ∀ f, (pickL f m).Pairwise (· < ·) := fun f => by
  unfold pickL
  rw [List.pairwise_map]
  exact (List.Pairwise.sublist List.filter_sublist List.pairwise_lt_range).imp fun h => by omega
 refine Te.cut_is (up _) (up _) fun v => ?_
 rw [pick_mem, pick_mem, List.mem_filter]
 constructor
 ·rintro ⟨j, h1, h2, rfl⟩
  have hd : 0 ≤ dateOn (add x e) e.land j e.day := by simpa [heldB] using h2
  have hno : e.items.contains (j : Int) = false := by
   cases hc : e.items.contains (j : Int) with
   | false => rfl
   | true =>
    exfalso
    refine given_up oky (has_add.2 (.inr ⟨?_, rfl⟩)) hd
    unfold about
    rw [h3, hc]; simp
  have hs := (add_other (x := x) (k := e.land) (d := e.day) hno).dateOn (by omega)
  refine ⟨⟨j, h1, ?_, rfl⟩, fun hh => ?_⟩
  ·unfold heldB
   rw [← hs]; exact h2
  ·rw [List.contains_iff_mem.2 hh.1] at hno; cases hno
 ·rintro ⟨⟨j, h1, h2, rfl⟩, h4⟩
  have hno : e.items.contains (j : Int) = false := by
   cases hc : e.items.contains (j : Int) with
   | false => rfl
   | true => exact absurd ⟨List.contains_iff_mem.1 hc, by simp; omega⟩ h4
  have hs := (add_other (x := x) (k := e.land) (d := e.day) hno).dateOn (by omega)
  refine ⟨j, h1, ?_, rfl⟩
  unfold heldB
  rw [hs]; exact h2
set_option maxRecDepth 20000 in
theorem c3105 {h : LH} (hch : h.chans = []) (hpe : h.pend = []) (hk : Kinds h.get) {f : TC} {x : TF} (hx : TreatyR h.get f x) {e : Ev} {q : Option Addr} {m c : Nat} (hm : m ≤ c) (hei : Sl IntE 1 h.get q m e.items) {e2 : Ev} {q2 : Option Addr} {m2 c2 : Nat} (hm2 : m2 ≤ c2) (hei2 : Sl IntE 1 h.get q2 m2 e2.items)
  (land : Int) (hl : 0 ≤ land ∧ land ≤ 255) (day : Int) (hd : 0 ≤ day ∧ day ≤ 65535) {g : TabC} {t : GTab} (hr : TabR h.get g t) (a : Int) (ha : 0 ≤ a ∧ a ≤ 255) (b : Int) (hb : 0 ≤ b ∧ b ≤ 255) :
  FW XT Tryz.prog 8 #[treatyV f x, eventV e q m c, eventV e2 q2 m2 c2, .int .u8 land, .int .u16 day, tabV g, .int .u8 a, .int .u8 b] h (Fin h) := by
 refine w3105 _ _ _ _ _ _ _ _ _ _ _ _ _ _ _ _ _ _ _ _ _ _ _ _ _ _ _ _ _ _ _ _ _ _ _ _ XT_ok ?_
 unfold n3105
 refine t_blk (fun vs h' => vs = [.bool false] ∧ h = h' ∧ checkT x = 0 ∧ TabOk t) ?_ ?_
 ·refine t_pu (c2031 hx) ?_
  refine gZ ?_
  refine t_cond (fun _ => ?_) (fun e0 => ?_)
  ·refine t_shown hk (.of hch hpe (LH.le_refl _)) fun h' hh => ?_
   refine gZ ?_
   exact t_ret hh.fin
  have hcx : checkT x = 0 := fit_ok (by simpa using e0)
  refine t_call (FW.top (c3108 hr)) ?_
  rintro _ _ ⟨rfl, bt, rfl, hbt⟩
  refine gZ ?_
  refine t_cond (fun _ => ?_) (fun hbf => ?_)
  ·refine t_shown hk (.of hch hpe (LH.le_refl _)) fun h' hh => ?_
   refine gZ ?_
   exact t_ret hh.fin
  exact t_again ⟨rfl, rfl, hcx, hbt (by simpa using hbf)⟩
 rintro vs _ ⟨rfl, rfl, hcx, ok⟩
 have hnum := check_numbers hcx
 have h10 : x.events.length ≤ 10 := hnum.2.2.2.2.2.2
 have hbig : x.events.length * 56 ≤ 2 ^ 47 := by omega
 have hi0 : 0 ≤ x.items ∧ x.items ≤ 5 := hnum.1
 have hn0 := hr.eds.1
 have hmany := ok.many
 have ht0 : (g.n0 : Int) ≠ 0 := by omega
 have ea : Int.tmod (IntKind.wrap .i64 a) (g.n0 : Int) = a % (g.n0 : Int) := by rw [wrap_u8 ha, tmod_nn ha.1]
 have eb : Int.tmod (IntKind.wrap .i64 b) (g.n0 : Int) = b % (g.n0 : Int) := by rw [wrap_u8 hb, tmod_nn hb.1]
 have he := mod_pos (n := a) (b := (g.n0 : Int)) (by omega)
 have ho := mod_pos (n := b) (b := (g.n0 : Int)) (by omega)
 obtain ⟨ek, hk0, hk1'⟩ := mod_in (m := x.lands) (n := land) (by omega) (by omega)
 have hl0 : x.lands ≠ 0 := by omega
 rw [ea, eb, ek]
 generalize land % x.lands = k at *
 generalize a % (g.n0 : Int) = n at *
 generalize b % (g.n0 : Int) = o at *
 have hen := he
 replace he : 0 ≤ n ∧ n < (t.eds.length : Int) := by omega
 replace ho : 0 ≤ o ∧ o < (t.eds.length : Int) := by omega
 clear ek ea eb
 have hmn := Nat.min_le_right x.items.toNat (t.items n).length
 have hd9 := day_mod day
 refine gZ ?_
 refine t_blk (fun vs h' => vs = [.bool false] ∧ h.le h') ?_ ?_
 ·refine t_gr (c2035 (e := ⟨3, e.day, e.land, e.items, 0⟩) hx hbig hm hei) ?_
  rintro _ h1 le1 ⟨f1, b1, rfl, hy, hb1⟩
  unfold treatyV
  refine gZ ?_
  refine t_cond (fun e1 => ?_) (fun _ => t_again ⟨rfl, le1⟩)
  have hcy := hb1 e1
  obtain ⟨v, hv, v3, vd, vl, vi⟩ : ∃ v : Ev, v = ⟨3, e.day, e.land, e.items, 0⟩ ∧ v.kind = 3 ∧ v.day = e.day ∧ v.land = e.land ∧ v.items = e.items := ⟨_, rfl, rfl, rfl, rfl, rfl⟩
  rw [← hv] at hcy hy
  rw [← vi] at hei
  rw [← vd, ← vl]
  have hvok := added_ok hcy
  have hday := hvok.day
  have hland : 0 ≤ v.land ∧ v.land < x.lands := hvok.land
  obtain ⟨hin, hup⟩ := items_ok hvok.items
  have ax := asked_fit hcx hland hday
  have ay := asked_fit hcy (k := v.land) (d := v.day) hland hday
  refine t_gr (c3127 (hk.le le1.1) (hx.le le1.1) hi0 ax (hr.le le1.1) he) ?_
  rintro _ h2 le2 ⟨p1, n1, c1, rfl, s1⟩
  have le12 := LH.le_trans le1 le2
  refine gZ ?_
  refine t_gr (c3127 (x := add x v) (hk.le le12.1) (hy.le le2.1) hi0 ay (hr.le le12.1) he) ?_
  rintro _ h3 le3 ⟨p2, n2, c2', rfl, s2⟩
  replace s2 : Sl IntE 1 h3.get p2 n2 (pickL (heldB (add x v) v.land v.day) (min x.items.toNat (t.items n).length)) := s2
  have le03 := LH.le_trans le12 le3
  have o1 := pick_ok he (f := heldB x v.land v.day) hmn
  have o2 := pick_ok he (f := heldB (add x v) v.land v.day) hmn
  have hr3 := hr.le le03.1
  obtain ⟨l, a0, hle0, ha0, q0, m0, c0, g2, g3⟩ := hr3.eds.at (i := n.toNat) (by omega)
  have hm0 : m0 = (t.items n).length := by
   unfold GTab.items
   rw [List.getD_eq_getElem?_getD, hle0]; exact g3.1
  have hcut := limit_cut v3 hcy (m := min x.items.toNat (t.items n).length) (M := (m0 : Int)) (by omega)
  have hmi := hei.1
  have hmb := hei.2.1
  have h5 := items_len hcy (e := v) (by show v ∈ x.events ++ [v]; simp)
  refine gZ ?_
  refine t_loop (fun mm vs h' => h3.le h' ∧ ∃ (i : Nat) (p : Option Addr) (k c : Nat), vs = [.slice p k c, .int .i64 i] ∧ i ≤ m ∧ mm = m - i ∧ Growing IntEnc 3 1 h3.get h'.get p k c ((v.items.take i).filter fun v => decide (v < (m0 : Int)))) ⟨LH.le_refl _, 0, none, 0, 0, rfl, Nat.zero_le _, rfl, Growing.nil⟩ ?_
  rintro Y mm vs h4 hY ⟨le4, i, p, kk, cc, rfl, hi, rfl, gr⟩
  have le04 := LH.le_trans le03 le4
  have hng := gr.count IntEnc.len (by omega)
  have hfl := List.length_filter_le (fun v => decide (v < (m0 : Int))) (v.items.take i)
  rw [List.length_take] at hfl
  refine gZ ?_
  refine t_if (fun e4 => ?_) (fun e4 => ?_)
  ·obtain ⟨w, a1, hw, ha1, e5⟩ := (hei.le IntE.grow le04.1).at (i := i) (by omega)
   unfold IntE at e5
   have hin' : 0 ≤ (i : Int) ∧ (i : Int) < (m : Int) := by omega
   have hft := filter_take (f := fun v => decide (v < (m0 : Int))) hw
   have g2' := Cells.cell?_le le4.1 g2
   refine gZ ?_
   refine t_cond (fun b1 => ?_) (fun b1 => ?_)
   ·rw [b1, if_pos rfl] at hft
    refine gZ ?_
    refine t_pushI gr le4 (by omega) fun p' c' h5 le5 gr2 => ?_
    refine gZ ?_
    refine t_again (hY (m - (i + 1)) _ _ (by omega) ⟨le5, i + 1, p', kk + 1, c', ?_, by omega, rfl, by rw [hft]; exact gr2⟩)
    rw [wrap_id (by omega) (by omega)]; rfl
   ·rw [b1, if_neg (by simp), List.append_nil] at hft
    refine t_again (hY (m - (i + 1)) _ _ (by omega) ⟨le4, i + 1, p, kk, cc, ?_, by omega, rfl, by rw [hft]; exact gr⟩)
    rw [wrap_id (by omega) (by omega)]; rfl
  have htake : v.items.take i = v.items := List.take_of_length_le (by omega)
  rw [htake] at gr hfl
  have sk := gr.sl IntEnc.len (by omega) IntEnc.e (by omega)
  clear hY
  refine gZ ?_
  refine t_buildG und1116 inf1115 (by decide) (by decide) (cells := #[.slice p kk cc, .bool false]) (by kernel_rfl) fun r h5 le5 _ e5 => ?_
  have le35 := LH.le_trans le4 le5
  have le05 := LH.le_trans le03 le35
  have le25 := LH.le_trans le3 le35
  refine gZ ?_
  refine t_gr (c3114 (hr.le le05.1) ok he (s1.le IntE.grow le25.1) o1 (sl_cut e5 (sk.le IntE.grow le5.1)) (by simp) fun s hs => ?_) ?_
  ·rw [List.mem_singleton] at hs
   subst hs
   refine ⟨fun w hw => ?_, hup.sublist List.filter_sublist⟩
   have hw' := List.mem_filter.1 hw
   have := hin w hw'.1
   have := of_decide_eq_true hw'.2
   exact ⟨he.1, he.2, by omega, by omega⟩
  rintro _ h6 le6 ⟨p6, n6, c6, rfl, s6⟩
  rw [hcut] at s6
  have le06 := LH.le_trans le05 le6
  have le26 := LH.le_trans le25 le6
  have le36 := LH.le_trans le35 le6
  have sub : ∀ w ∈ pickL (heldB (add x v) v.land v.day) (min x.items.toNat (t.items n).length), w ∈ pickL (heldB x v.land v.day) (min x.items.toNat (t.items n).length) := fun w hw => by
   rw [← hcut] at hw
   exact (List.mem_filter.1 hw).1
  refine gZ ?_
  refine t_gr (c3113 (hr.le le06.1) ok he (s1.le IntE.grow le26.1) o1 (s2.le IntE.grow le36.1) o2 sub) ?_
  rintro _ h7 le7 rfl
  have le37 := LH.le_trans le36 le7
  have le07 := LH.le_trans le06 le7
  refine gZ ?_
  refine t_cond (fun e => by cases e) (fun _ => ?_)
  refine t_cond (fun e => by cases e) (fun _ => ?_)
  refine t_cond (fun e => by cases e) (fun _ => ?_)
  refine t_cond (fun e => by cases e) (fun _ => ?_)
  refine t_cond (fun e => by cases e) (fun _ => ?_)
  refine t_pu (c35 (s6.le IntE.grow le7.1) (s2.le IntE.grow le37.1)) ?_
  rw [decide_eq_true rfl]
  refine gZ ?_
  refine t_cond (fun e => by cases e) (fun _ => ?_)
  exact t_again ⟨rfl, le07⟩
 rintro vs h5 ⟨rfl, le5⟩
 refine gZ ?_
 refine t_gr (c2035 (hx.le le5.1) hbig hm2 (hei2.le IntE.grow le5.1)) ?_
 rintro _ h6 le6 ⟨f6, b6, rfl, hy6, hb6⟩
 have le06 := LH.le_trans le5 le6
 have hk6 := hk.le le06.1
 unfold treatyV
 refine gZ ?_
 refine t_blk (fun vs h' => (∃ b', vs = [.bool b']) ∧ h6 = h' ∧ b6 = true ∧ (e2.kind = 0 ∨ e2.kind = 2 ∨ e2.kind = 5)) ?_ ?_
 ·refine t_cond (fun _ => ?_) (fun e1 => ?_)
  ·refine t_shown hk (.of hch hpe le06) fun h' hh => ?_
   refine gZ ?_
   exact t_ret hh.fin
  have hb6' : b6 = true := by simpa using e1
  refine t_cond (fun _ => ?_) (fun e3 => ?_)
  ·refine t_cond (fun _ => ?_) (fun e3 => ?_)
   ·refine t_cond (fun _ => ?_) (fun e3 => ?_)
    ·refine t_shown hk (.of hch hpe le06) fun h' hh => ?_
     refine gZ ?_
     exact t_ret hh.fin
    ·exact t_again ⟨⟨_, rfl⟩, rfl, hb6', .inr (.inr (by simpa using e3))⟩
   ·exact t_again ⟨⟨_, rfl⟩, rfl, hb6', .inr (.inl (by simpa using e3))⟩
  ·exact t_again ⟨⟨_, rfl⟩, rfl, hb6', .inl (by simpa using e3)⟩
 rintro vs _ ⟨⟨b', rfl⟩, rfl, hb6', hgk⟩
 have hcy := hb6 hb6'
 refine gZ ?_
 obtain ⟨d, hde⟩ : ∃ d, day % 10000 = d := ⟨_, rfl⟩
 rw [hde] at hd9
 refine t_pu (c2032 hd) ?_
 rw [hde]
 have ax := asked_fit hcx ⟨hk0, hk1'⟩ hd9
 have ay := asked_fit hcy (k := k) ⟨hk0, hk1'⟩ hd9
 refine gZ ?_
 refine t_gr (c3127 hk6 (hx.le le06.1) hi0 ax (hr.le le06.1) he) ?_
 rintro _ h7 le7 ⟨p7, n7, c7, rfl, s7⟩
 have le07 := LH.le_trans le06 le7
 refine gZ ?_
 refine t_pu (c2032 hd) ?_
 rw [hde]
 refine gZ ?_
 refine t_gr (c3127 (x := add x e2) (hk.le le07.1) (hy6.le le7.1) hi0 ay (hr.le le07.1) he) ?_
 rintro _ h8 le8 ⟨p8, n8, c8, rfl, s8⟩
 replace s8 : Sl IntE 1 h8.get p8 n8 (pickL (heldB (add x e2) k d) (min x.items.toNat (t.items n).length)) := s8
 have le08 := LH.le_trans le07 le8
 have o7 := pick_ok he (f := heldB x k d) hmn
 have o8 := pick_ok he (f := heldB (add x e2) k d) hmn
 have sub : ∀ w ∈ pickL (heldB x k d) (min x.items.toNat (t.items n).length), w ∈ pickL (heldB (add x e2) k d) (min x.items.toNat (t.items n).length) := pick_sub fun j _ h0 => by
  have h0' : 0 ≤ dateOn x k j d := by simpa [heldB] using h0
  have := ((add_gives hgk k j).noLess (check_ok hcx) (check_ok hcy) h0').1
  simpa [heldB] using this
 refine gZ ?_
 refine t_gr (c3128 (hr.le le08.1) ok he ho (s7.le IntE.grow le8.1) o7) ?_
 rintro _ h9 le9 ⟨q1, u1, d1, q2', u2, d2, rfl, r1, r2⟩
 refine gZ ?_
 refine t_gr (c3128 (hr.le (LH.le_trans le08 le9).1) ok he ho (s8.le IntE.grow le9.1) o8) ?_
 rintro _ h10' le10 ⟨q3, u3, d3, q4, u4, d4, rfl, r3, r4⟩
 obtain ⟨w1, w2⟩ := cover_up t n o sub
 refine gZ ?_
 refine t_cond (fun _ => ?_) (fun e => by cases e)
 refine t_cond (fun _ => ?_) (fun e => by cases e)
 refine t_cond (fun _ => ?_) (fun e => by cases e)
 refine t_cond (fun _ => ?_) (fun e => by cases e)
 refine t_pu (c3118 (r1.le IntE.grow le10.1) r3 (listT_sub w1)) ?_
 refine gZ ?_
 refine t_cond (fun _ => ?_) (fun e => by cases e)
 refine t_pu (c3118 (r2.le IntE.grow le10.1) r4 (listT_sub w2)) ?_
 refine gZ ?_
 refine t_cond (fun _ => ?_) (fun e => by cases e)
 exact t_shown hk (.of hch hpe (LH.le_trans le08 (LH.le_trans le9 le10))) fun h' hh => t_ret hh.fin
end Go.Proofs.YtldamlcehbdkdaaGreatDoor.Tre
end
section
namespace Go.Proofs.YtldamlcehbdkdaaGreatDoor
open Go Go.TM Go.Proofs Go.Proofs.YtldamlcehbdkdaaGreatDoor.Tre Go.ChangeShapes Go.WideShapes Go.RowKit
set_option maxRecDepth 100000
theorem door_met (os : Os) (args : Array Value) : laidMetH Tryz.prog Rows.treatyGoodsRow.laid ((World.doorLaid Tryz.prog 200 os).forCall (fun _ _ => 0) ⟨#[], args, []⟩).memory :=
 laidMetH_of_parts3 (fuel := 8) (laidMet_of_run' 8 (by kernel_rfl) (by kernel_rfl)) (by kernel_rfl) (by kernel_rfl)
theorem door_shaped (os : Os) (args : Array Value) : ((World.doorLaid Tryz.prog 200 os).forCall (fun _ _ => 0) ⟨#[], args, []⟩).Shaped Tryz.prog :=
 World.shaped_of_RefB (by kernel_rfl) (by kernel_rfl)
theorem treatyGoods_lifted (os : Os) (started : os.Started) (H : Type) (enc : TypeId × Value → H) :
  ReturnsInLeavingWide {} Tryz.checked os 8 .any (fun w args => (Rows.treatyGoodsSpec.pre enc Tryz.prog Tryz.f8 [] false w args ∧ laidMetH Tryz.prog Rows.treatyGoodsRow.laid w) ∧ sizedMet enc Tryz.prog Tryz.f8 (OpenSpec.ofChange Rows.treatyGoodsSpec) false w args)
   (Rows.treatyGoodsSpec.post enc Tryz.prog Tryz.f8 false true false false) := by
 refine row_leaving (C := Tryz.checked) (tb := 4) own started Tryz.func8 (by kernel_rfl) rfl lo ?_ (by kernel_rfl) Tryz.underlying4 ?_
  (ChangeSpec.witness_shaped (enc := enc) (C := Tryz.checked) (os := os) (X := fun w _ => laidMetH Tryz.prog Rows.treatyGoodsRow.laid w) false (World.doorLaid Tryz.prog 200 os) #[noTreaty, .agg #[.int .i64 0, .int .i64 0, .int .i64 0, .slice none 0 0, .int .i64 0], .agg #[.int .i64 0, .int .i64 0, .int .i64 0, .slice none 0 0, .int .i64 0], .int .u8 0, .int .u16 0, .agg #[.slice none 0 0, .slice none 0 0, .slice none 0 0], .int .u8 0, .int .u8 0] 8 rfl (door_shaped os _) (by kernel_rfl) (by kernel_rfl) (by kernel_rfl) (door_met os _)) ?_
 ·exact fun t ht => of_decide_eq_true (List.all_eq_true.1 (show (Tryz.f8.params.toList.all fun t => decide (Tryz.prog.readableRec t = true ∧ t < Tryz.prog.types.size)) = true by kernel_rfl) t ht)
 ·intro ds hd
  match ds, (show ds.length = 8 from hd) with
  | [d0, d1, d2, d3, d4, d5, d6, d7], _ => rfl
 ·intro W base args ds ps hval0 hA0 hz0 hL
  have hval : ∀ (j : Nat) t v, Tryz.f8.params[j]? = some t → args[j]? = some v → Value.okWide Tryz.prog W .any base t v := hval0
  have hz : ∀ (j : Nat) t d, Tryz.f8.params.toList[j]? = some t → ds[j]? = some d → Light Tryz.prog t d := hz0
  have hA : DataW.TrodAll enc Tryz.prog W 0 (fun _ => true) true Tryz.f8.params.toList args.toList ds ps := hA0
  rw [Tryz.params8] at hval hz hA
  obtain ⟨v0, v1, v2, v3, v4, v5, v6, v7, d0, d1, d2, d3, d4, d5, d6, d7, q00, q01, q02, q03, q04, q05, q06, q07, rfl, rfl, rfl, h0, h1, h2, h3, h4, h5, h6, h7⟩ := trodAll8 hA
  obtain ⟨f0, u0, rfl, hu0⟩ := treaty_arg TT (hval 0 82 v0 rfl rfl) (hz 0 82 d0 rfl rfl) h0
  obtain ⟨q1, m1, k1, e1, rfl, hm1, s1⟩ := event_arg TT (hval 1 91 v1 rfl rfl) (hz 1 91 d1 rfl rfl) h1
  obtain ⟨q2, m2, k2, e2, rfl, hm2, s2⟩ := event_arg TT (hval 2 91 v2 rfl rfl) (hz 2 91 d2 rfl rfl) h2
  obtain ⟨x3, rfl, _, _, w3⟩ := open_int und5 (hval 3 5 v3 rfl rfl) h3
  obtain ⟨x4, rfl, _, _, w4⟩ := open_int und57 (hval 4 27 v4 rfl rfl) h4
  obtain ⟨f5, u5, rfl, hu5⟩ := table_arg GT (hval 5 39 v5 rfl rfl) (hz 5 39 d5 rfl rfl) h5
  obtain ⟨x6, rfl, _, _, w6⟩ := open_int und5 (hval 6 5 v6 rfl rfl) h6
  obtain ⟨x7, rfl, _, _, w7⟩ := open_int und5 (hval 7 5 v7 rfl rfl) h7
  exact FW.mono (c3105 (h := ⟨getW W, [], [], []⟩) rfl rfl (kinds_of_laid hL (by repeat first | exact List.Mem.head _ | apply List.Mem.tail) (by repeat first | exact List.Mem.head _ | apply List.Mem.tail)) hu0 hm1 s1 hm2 s2 x3 (wf_u8 w3) x4 (wf_u16 w4) hu5 x6 (wf_u8 w6) x7 (wf_u8 w7)) fun r h' hq => ⟨hq.1, hq.2.2.1⟩
set_option maxHeartbeats 0 in
theorem treatyGoods_closed : joinedFacts Tryz.prog 8 Tryz.f8 Rows.treatyGoodsSpec Rows.treatyGoodsRow = true := by
 unfold joinedFacts
 simp only [Bool.and_eq_true]
 and_intros
 all_goals (as_aux_lemma => kernel_rfl)
theorem treatyGoods_named : Tryz.prog.funcNamed Rows.treatyGoodsRow.func = some 8 := by kernel_rfl
theorem treatyGoods_row : Rows.TreatyGoodsSaid :=
 OpenClaim.holds_of_wide_leaving 8 Tryz.f8 rfl rfl rfl rfl rfl rfl rfl ⟨rfl, rfl, rfl, rfl, rfl⟩ rfl rfl rfl rfl rfl treatyGoods_named Tryz.func8 treatyGoods_closed
  (of_decide_eq_true (by kernel_rfl)) (by unfold Func.isWrapper; first | (rw [if_pos (by decide +kernel)]; kernel_rfl) | (rw [if_neg (by decide +kernel)]; exact ⟨rfl, rfl⟩))
  (fun os started H enc _ => treatyGoods_lifted os started H enc)
theorem treatyGoods_holds : Rows.TreatyGoodsCardSaid :=
 card_goes [.data, .funcsDeep] true Rows.treatyGoodsCard.stood.harness false treatyGoods_row (by kernel_rfl) treatyGoods_row_tie rfl ⟨rfl, rfl⟩ (by kernel_rfl) rfl
  (fun f fn hf hfn => by
   obtain rfl : f = 8 := Option.some.inj (treatyGoods_named.symm.trans hf) |>.symm
   obtain rfl : fn = Tryz.f8 := (Option.some.inj (Tryz.func8.symm.trans hfn)).symm
   exact ⟨by kernel_rfl, fun j t ht => by
    have hm := Array.mem_of_getElem? ht
    have := of_decide_eq_true (List.all_eq_true.1 (show (Tryz.f8.params.toList.all fun t => decide (Tryz.prog.wantsStandIn t = false)) = true by kernel_rfl) t (Array.mem_toList_iff.2 hm))
    exact this⟩)
  (by kernel_rfl)
end Go.Proofs.YtldamlcehbdkdaaGreatDoor
end
#print axioms Go.Proofs.YtldamlcehbdkdaaGreatDoor.treatyGoods_holds

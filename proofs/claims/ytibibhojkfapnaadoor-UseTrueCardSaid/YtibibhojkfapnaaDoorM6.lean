/- For every file, land, day and any real days of the papers the law UseTrue returns true: what Safe and Left say always is so, and what they say never is not. The tied card; no further condition. -/
import Derived.Test.YtibibhojkfapnaaDoorM5
set_option linter.all false
section
namespace Go.TM
open Go
theorem Choice.len : ∀ {ps : List Paper} {ds : List Int}, Choice ps ds → ds.length = ps.length
  | [], [], _ => rfl
  | p :: ps, d :: ds, h => by simp [Choice.len h.2]
  | [], _ :: _, h => h.elim
  | _ :: _, [], h => h.elim
theorem Choice.at : ∀ {ps : List Paper} {ds : List Int}, Choice ps ds → ∀ (i : Nat) p, ps[i]? = some p → ∃ d, ds[i]? = some d ∧ p.days.first ≤ d ∧ d ≤ p.days.last
  | [], [], _, i, p, hp => by simp at hp
  | q :: ps, d :: ds, h, i, p, hp => by
    cases i with
    | zero => simp at hp; subst hp; exact ⟨d, rfl, h.1⟩
    | succ i => exact Choice.at h.2 i p (by simpa using hp)
  | [], _ :: _, h, _, _, _ => h.elim
  | _ :: _, [], h, _, _, _ => h.elim
theorem Choice.snoc : ∀ {ps : List Paper} {ds : List Int}, Choice ps ds → ∀ {p : Paper} {d : Int}, p.days.first ≤ d → d ≤ p.days.last → Choice (ps ++ [p]) (ds ++ [d])
  | [], [], _, _, _, h1, h2 => ⟨⟨h1, h2⟩, trivial⟩
  | _ :: _, _ :: _, h, _, _, h1, h2 => ⟨h.1, Choice.snoc h.2 h1 h2⟩
  | [], _ :: _, h, _, _, _, _ => h.elim
  | _ :: _, [], h, _, _, _, _ => h.elim
def pickDs (sh : Paper → Bool) : List Paper → List Int → List Int
  | p :: ps, d :: ds => if sh p then d :: pickDs sh ps ds else pickDs sh ps ds
  | _, _ => []
theorem Choice.filter {sh : Paper → Bool} : ∀ {ps : List Paper} {ds : List Int}, Choice ps ds → Choice (ps.filter sh) (pickDs sh ps ds)
  | [], [], _ => trivial
  | p :: ps, d :: ds, h => by
    rw [List.filter_cons, pickDs]
    by_cases e : sh p = true
    · rw [if_pos e, if_pos e]; exact ⟨h.1, Choice.filter h.2⟩
    · rw [if_neg e, if_neg e]; exact Choice.filter h.2
  | [], _ :: _, h => h.elim
  | _ :: _, [], h => h.elim
theorem mem_pickDs {sh : Paper → Bool} : ∀ {ps : List Paper} {ds : List Int} {i : Nat} {p : Paper} {d : Int}, ps[i]? = some p → sh p = true → ds[i]? = some d → d ∈ pickDs sh ps ds
  | [], _, i, p, d, hp, _, _ => by simp at hp
  | _ :: _, [], i, p, d, _, _, hd => by simp at hd
  | q :: ps, e :: ds, i, p, d, hp, hs, hd => by
    rw [pickDs]
    cases i with
    | zero => simp at hp hd; subst hp; subst hd; rw [if_pos hs]; simp
    | succ i =>
      have := mem_pickDs (by simpa using hp) hs (by simpa using hd) (ds := ds)
      split
      · simp [this]
      · exact this
def UseDay (u : UseFile) (real : List Int) (land item : Int) (d : Int) : Prop := d = u.from_ ∨ ∃ (i : Nat) (p : Paper), u.papers[i]? = some p ∧ showsB land item p = true ∧ real[i]? = some d
def UsedP (u : UseFile) (real : List Int) (land item day : Int) : Prop := ∃ d, UseDay u real land item d ∧ InW u day d
theorem shown_mem {u : UseFile} {land item : Int} {p : Paper} (hp : p ∈ shown u land item) : ∃ i : Nat, u.papers[i]? = some p ∧ showsB land item p = true := by
  obtain ⟨h1, h2⟩ := List.mem_filter.1 hp
  obtain ⟨i, hi⟩ := List.mem_iff_getElem?.1 h1
  exact ⟨i, hi, h2⟩
theorem safe_used {u : UseFile} {real : List Int} (hc : Choice u.papers real) {land item day : Int} (hs : safe u land item day = 1) : UsedP u real land item day := by
  unfold safe at hs
  by_cases e : isIn u.from_ (window u day).first day = true
  · exact ⟨u.from_, .inl rfl, by simpa [isIn, InW] using e⟩
  · rw [if_neg e, safeGo_one (by omega)] at hs
    obtain ⟨p, hp, hin⟩ := hs
    obtain ⟨i, hi, hsh⟩ := shown_mem hp
    obtain ⟨d, hd, h1, h2⟩ := hc.at i p hi
    have := (inside_def _ _).1 hin
    have hw : (window u day).last = day := rfl
    exact ⟨d, .inr ⟨i, p, hi, hsh, hd⟩, by unfold InW; omega⟩
theorem safe_unused {u : UseFile} (hi : 1 ≤ u.idle) {real : List Int} (hc : Choice u.papers real) {land item day : Int} (hd : 0 ≤ day) (hs : safe u land item day = 2) : ¬ UsedP u real land item day := by
  rintro ⟨d, hu, hw1, hw2⟩
  unfold safe at hs
  by_cases e : isIn u.from_ (window u day).first day = true
  · rw [if_pos e] at hs; omega
  · rw [if_neg e] at hs
    rcases hu with rfl | ⟨i, p, hp, hsh, hr⟩
    · exact e (by simp [isIn]; exact ⟨hw1, hw2⟩)
    · obtain ⟨_, h2⟩ := safeGo_two hs
      obtain ⟨d', hd', h3, h4⟩ := hc.at i p hp
      rw [hr] at hd'; cases hd'
      have hm := (h2 p (List.mem_filter.2 ⟨List.mem_of_getElem? hp, hsh⟩)).1
      have hwb := window_bound hi (u := u) hd
      have hwl : (window u day).last = day := rfl
      have : meetsB (window u day) p.days = true := (meets_def (by omega) (by omega)).2 ⟨by omega, by omega⟩
      rw [hm] at this; cases this
def agreesB (s : Int) (b : Bool) : Bool := !(decide (s = 1) && !b) && !(decide (s = 2) && b)
theorem safe_agrees {u : UseFile} (hi : 1 ≤ u.idle) {real : List Int} (hc : Choice u.papers real) {land item day : Int} (hd : 0 ≤ day) {b : Bool} (hb : b = true ↔ UsedP u real land item day) : agreesB (safe u land item day) b = true := by
  unfold agreesB
  rcases safe_vals u land item day with e | e | e
  · rw [e]; simp
  · have := hb.2 (safe_used hc e)
    rw [e, this]; simp
  · have h1 : b = false := by
      cases b with
      | false => rfl
      | true => exact absurd (hb.1 rfl) (safe_unused hi hc hd e)
    rw [e, h1]; simp
theorem left_agrees {u : UseFile} {real : List Int} (hc : Choice u.papers real) {land item day : Int} {b : Bool} (hb : b = true ↔ ∀ r ∈ against u land item day, UsedP u real land item r.day) : agreesB (left u land item day) b = true := by
  unfold agreesB left
  split
  · rename_i h
    have : b = true := hb.2 fun r hr => safe_used hc (by simpa using List.all_eq_true.1 h r hr)
    rw [this]; simp
  · split
    · simp
    · rename_i h1 h2
      have : b = false := by
        cases b with
        | false => rfl
        | true =>
          refine absurd (can_iff.2 ⟨_, hc.filter (sh := showsB land item), fun r hr => ?_⟩) h2
          obtain ⟨d, hu, hw⟩ := hb.1 rfl r hr
          rcases hu with rfl | ⟨i, p, hp, hsh, hr⟩
          · exact .inl hw
          · exact .inr ⟨d, mem_pickDs hp hsh hr, hw⟩
      rw [this]; simp
end Go.TM
end
section
namespace Go.Proofs.YtibibhojkfapnaaDoor
open Go Go.TM Go.Proofs
attribute [local irreducible] T.wp CV FWK
theorem c50 {h : LH} {p : Option Addr} {n c : Nat} {l : List Int} (hl : Sl U16E 1 h.get p n l) (k : Nat) : FW X0 Tryd.prog 50 #[.slice p n c, .int .i64 k] h fun r h' => h = h' ∧ ∃ v : Int, r = .int .i64 v ∧ 0 ≤ v ∧ v ≤ 65535 := by
  refine w50 _ _ _ _ X0_ok ?_
  unfold n50
  refine t_if (fun e => ?_) (fun e => ?_)
  · obtain ⟨x, a, hx, ha, e1, e2, e3⟩ := hl.at (i := k) (by omega)
    (repeat (first | (with_reducible first | apply gA | apply gB | apply gC | apply gD | apply gE | apply gF | apply gG | apply gH | apply gI | apply gJ | apply gK | apply gL | apply gM | apply gN | apply gO | apply gP | apply gQ | apply gR) | ((with_reducible apply gT); first | exact rfl | exact True.intro | omega | assumption) | ((with_reducible apply gS2); first | assumption | rfl) | ((with_reducible first | apply gL0 | apply gL1 | apply gL2 | apply gL3 | apply gL4); assumption)))
    exact t_ret ⟨rfl, _, rfl, by rw [wrap_u16 ⟨e2, e3⟩]; exact ⟨e2, e3⟩⟩
  · exact t_ret ⟨rfl, 0, rfl, by omega, by omega⟩
theorem c39 {h : LH} (s : Int) (b : Bool) : Pu Tryd.prog 39 #[.int .i64 s, .bool b] h (.bool (agreesB s b)) := by
  refine w39 _ _ X0_ok ?_
  unfold n39 agreesB
  refine t_cond (fun e => ?_) (fun e => ?_)
  · have e1 : s = 1 := by simpa using e
    subst e1
    refine t_cond (fun eb => ?_) (fun eb => ?_)
    · have : b = true := by simpa using eb
      subst this
      refine t_cond (fun e => absurd e (by simp)) (fun _ => ?_)
      exact t_ret ⟨rfl, rfl⟩
    · have : b = false := by simpa using eb
      subst this
      exact t_ret ⟨rfl, rfl⟩
  · have e1 : s ≠ 1 := by simpa using e
    refine t_cond (fun e => ?_) (fun e => ?_)
    · have e2 : s = 2 := by simpa using e
      subst e2
      exact t_ret ⟨by simp, rfl⟩
    · have e2 : s ≠ 2 := by simpa using e
      exact t_ret ⟨by simp [e1, e2], rfl⟩
theorem c38 {h : LH} {f : FileC} {u : UseFile} (hu : FileR h.get f u) (hck : checkF u = 0) {pp : Option Addr} {pn pc : Nat} {pl : List Int} (hpl : Sl U16E 1 h.get pp pn pl) :
    Gr Tryd.prog 38 #[fileV f u, .slice pp pn pc] h fun r h' => ∃ p n c real, r = .slice p n c ∧ Sl IntE 1 h'.get p n real ∧ Choice u.papers real := by
  refine w38 _ _ _ _ _ _ _ _ _ _ _ _ _ _ _ _ X0_ok ?_
  unfold n38
  have hn5 := hu.papers.1
  have hpk := check_papers hck
  refine t_loop (fun mm vs h' => h.le h' ∧ ∃ (i : Nat) (p : Option Addr) (n c : Nat) (real : List Int), vs = [.slice p n c, .int .i64 i] ∧ i ≤ f.n5 ∧ mm = f.n5 - i ∧ Growing IntEnc 3 1 h.get h'.get p n c real ∧ Choice (u.papers.take i) real)
    ⟨LH.le_refl _, 0, none, 0, 0, [], rfl, Nat.zero_le _, rfl, Growing.nil, trivial⟩ ?_
  rintro Y mm vs h₁ hY ⟨hle, i, p, n, c, real, rfl, hi, rfl, g, hc⟩
  (repeat (first | (with_reducible first | apply gA | apply gB | apply gC | apply gD | apply gE | apply gF | apply gG | apply gH | apply gI | apply gJ | apply gK | apply gL | apply gM | apply gN | apply gO | apply gP | apply gQ | apply gR) | ((with_reducible apply gT); first | exact rfl | exact True.intro | omega | assumption) | ((with_reducible apply gS2); first | assumption | rfl) | ((with_reducible first | apply gL0 | apply gL1 | apply gL2 | apply gL3 | apply gL4); assumption)))
  refine t_if (fun e1 => ?_) (fun e1 => ?_)
  · obtain ⟨x, a, hx, ha, x1, x2, x3, q, m, cq, x4, x5⟩ := (hu.le hle.1).papers.at (i := i) (by omega)
    have hxk := hpk.2 x (List.mem_of_getElem? hx)
    have x1' : h₁.get.cell? (((a.add (i * 4)).add 0).add 0) = some (.int .i64 x.days.first) := x1
    have x2' : h₁.get.cell? (((a.add (i * 4)).add 0).add 1) = some (.int .i64 x.days.last) := x2
    have hw : IntKind.wrap .i64 (IntKind.wrap .i64 (x.days.last - x.days.first) + 1) = x.days.last - x.days.first + 1 := by
      rw [wrap_id (n := x.days.last - x.days.first) (by omega) (by omega), wrap_id (by omega) (by omega)]
    have hne : IntKind.wrap .i64 (IntKind.wrap .i64 (x.days.last - x.days.first) + 1) ≠ 0 := by rw [hw]; omega
    (repeat (first | (with_reducible first | apply gA | apply gB | apply gC | apply gD | apply gE | apply gF | apply gG | apply gH | apply gI | apply gJ | apply gK | apply gL | apply gM | apply gN | apply gO | apply gP | apply gQ | apply gR) | ((with_reducible apply gT); first | exact rfl | exact True.intro | omega | assumption) | ((with_reducible apply gS2); first | assumption | rfl) | ((with_reducible first | apply gL0 | apply gL1 | apply gL2 | apply gL3 | apply gL4); assumption)))
    refine t_call (FW.top (c50 (hpl.le U16E.grow hle.1) i)) ?_
    rintro _ _ ⟨rfl, v, rfl, v1, v2⟩
    (repeat (first | (with_reducible first | apply gA | apply gB | apply gC | apply gD | apply gE | apply gF | apply gG | apply gH | apply gI | apply gJ | apply gK | apply gL | apply gM | apply gN | apply gO | apply gP | apply gQ | apply gR) | ((with_reducible apply gT); first | exact rfl | exact True.intro | omega | assumption) | ((with_reducible apply gS2); first | assumption | rfl) | ((with_reducible first | apply gL0 | apply gL1 | apply gL2 | apply gL3 | apply gL4); assumption)))
    have hng := g.count IntEnc.len (by omega)
    have hcl := hc.len
    have htl : (u.papers.take i).length ≤ i := by rw [List.length_take]; omega
    rw [hw, tmod_nn v1]
    have hmod := mod_pos (n := v) (b := x.days.last - x.days.first + 1) (by omega)
    refine t_build und50 inf3 (by decide) (by decide) (cells := #[.int .i64 (IntKind.wrap .i64 (x.days.first + v % (x.days.last - x.days.first + 1)))]) (by kernel_rfl) fun r hr => ?_
    rw [wrap_id (n := x.days.first + v % (x.days.last - x.days.first + 1)) (by omega) (by omega)]
    generalize hd : x.days.first + v % (x.days.last - x.days.first + 1) = d
    have le2 : h₁.le _ := LH.upd_le (x := (true, .cells #[.int .i64 d] 3 (0, 0))) hr
    rw [hw] at hne
    (repeat (first | (with_reducible first | apply gA | apply gB | apply gC | apply gD | apply gE | apply gF | apply gG | apply gH | apply gI | apply gJ | apply gK | apply gL | apply gM | apply gN | apply gO | apply gP | apply gQ | apply gR) | ((with_reducible apply gT); first | exact rfl | exact True.intro | omega | assumption) | ((with_reducible apply gS2); first | assumption | rfl) | ((with_reducible first | apply gL0 | apply gL1 | apply gL2 | apply gL3 | apply gL4); assumption)))
    refine t_grow (h₀ := h) (x := d) (ws := [.int .i64 d]) rfl rfl und50 und50 inf3 rfl (by omega) (by omega) (g.le le2.1) (LH.le_trans hle le2) rfl rfl ?_ ?_ ?_
    · intro j w hj
      rw [add_plain, Nat.zero_add]
      exact cell_upd (by simpa using hj)
    · intro w hw; simp at hw; subst hw; rfl
    · intro p' c' h₂ hle2 _ g2
      (repeat (first | (with_reducible first | apply gA | apply gB | apply gC | apply gD | apply gE | apply gF | apply gG | apply gH | apply gI | apply gJ | apply gK | apply gL | apply gM | apply gN | apply gO | apply gP | apply gQ | apply gR) | ((with_reducible apply gT); first | exact rfl | exact True.intro | omega | assumption) | ((with_reducible apply gS2); first | assumption | rfl) | ((with_reducible first | apply gL0 | apply gL1 | apply gL2 | apply gL3 | apply gL4); assumption)))
      refine t_again (hY (f.n5 - (i + 1)) _ _ (by omega) ⟨hle2, i + 1, p', n + 1, c', _, ?_, by omega, rfl, g2, ?_⟩)
      · rw [wrap_id (by omega) (by omega)]; rfl
      · rw [List.take_add_one, hx]
        exact hc.snoc (by omega) (by omega)
  · (repeat (first | (with_reducible first | apply gA | apply gB | apply gC | apply gD | apply gE | apply gF | apply gG | apply gH | apply gI | apply gJ | apply gK | apply gL | apply gM | apply gN | apply gO | apply gP | apply gQ | apply gR) | ((with_reducible apply gT); first | exact rfl | exact True.intro | omega | assumption) | ((with_reducible apply gS2); first | assumption | rfl) | ((with_reducible first | apply gL0 | apply gL1 | apply gL2 | apply gL3 | apply gL4); assumption)))
    rw [List.take_of_length_le (by omega)] at hc
    have hcl := hc.len
    exact t_ret ⟨hle, p, n, c, real, rfl, g.sl IntEnc.len (by omega) IntEnc.e (by omega), hc⟩
def UseDayN (u : UseFile) (real : List Int) (land item : Int) (i : Nat) (d : Int) : Prop := d = u.from_ ∨ ∃ (j : Nat) (p : Paper), j < i ∧ u.papers[j]? = some p ∧ showsB land item p = true ∧ real[j]? = some d
def LastIs (S : Int → Prop) (day m : Int) : Prop := (m = -1 ∧ ∀ d, S d → ¬ d ≤ day) ∨ (0 ≤ m ∧ m ≤ day ∧ S m ∧ ∀ d, S d → d ≤ day → d ≤ m)
theorem LastIs.keep {S S' : Int → Prop} {day m : Int} (h : LastIs S day m) (h1 : ∀ d, S d → S' d) (h2 : ∀ d, S' d → S d ∨ day < d) : LastIs S' day m := by
  rcases h with ⟨a, b⟩ | ⟨a, b, c, e⟩
  · refine .inl ⟨a, fun d hd hle => ?_⟩
    rcases h2 d hd with h | h
    · exact b d h hle
    · omega
  · refine .inr ⟨a, b, h1 m c, fun d hd hle => ?_⟩
    rcases h2 d hd with h | h
    · exact e d h hle
    · omega
theorem LastIs.add {S S' : Int → Prop} {day m x : Int} (h : LastIs S day m) (hx : 0 ≤ x ∧ x ≤ day) (h1 : ∀ d, S d → S' d) (h0 : S' x) (h2 : ∀ d, S' d → S d ∨ d = x) : LastIs S' day (if x > m then x else m) := by
  rcases h with ⟨a, b⟩ | ⟨a, b, c, e⟩
  · rw [if_pos (by omega)]
    refine .inr ⟨hx.1, hx.2, h0, fun d hd hle => ?_⟩
    rcases h2 d hd with h | h
    · exact absurd hle (b d h)
    · omega
  · by_cases g : x > m
    · rw [if_pos g]
      refine .inr ⟨hx.1, hx.2, h0, fun d hd hle => ?_⟩
      rcases h2 d hd with h | h
      · have := e d h hle; omega
      · omega
    · rw [if_neg g]
      refine .inr ⟨a, b, h1 m c, fun d hd hle => ?_⟩
      rcases h2 d hd with h | h
      · exact e d h hle
      · omega
theorem useDay_step {u : UseFile} {real : List Int} {land item : Int} {i : Nat} {x : Paper} {r : Int} (hx : u.papers[i]? = some x) (hr : real[i]? = some r) (d : Int) : UseDayN u real land item (i + 1) d ↔ (UseDayN u real land item i d ∨ (showsB land item x = true ∧ d = r)) := by
  constructor
  · rintro (h | ⟨j, p, h1, h2, h3, h4⟩)
    · exact .inl (.inl h)
    · by_cases e : j = i
      · subst e
        rw [hx] at h2; cases h2
        rw [hr] at h4; cases h4
        exact .inr ⟨h3, rfl⟩
      · exact .inl (.inr ⟨j, p, by omega, h2, h3, h4⟩)
  · rintro ((h | ⟨j, p, h1, h2, h3, h4⟩) | ⟨h1, rfl⟩)
    · exact .inl h
    · exact .inr ⟨j, p, by omega, h2, h3, h4⟩
    · exact .inr ⟨i, x, by omega, hx, h1, hr⟩
theorem c40 {h : LH} {f : FileC} {u : UseFile} (hu : FileR h.get f u) (hck : checkF u = 0) {rp : Option Addr} {rn rc : Nat} {real : List Int} (hrl : Sl IntE 1 h.get rp rn real) (hc : Choice u.papers real) (land item day : Int) (hd : 0 ≤ day ∧ day ≤ 2000) :
    FW X0 Tryd.prog 40 #[fileV f u, .slice rp rn rc, .int .i64 land, .int .i64 item, .int .i64 day] h fun r h' => h = h' ∧ ∃ b : Bool, r = .bool b ∧ (b = true ↔ UsedP u real land item day) := by
  refine w40 _ _ _ _ _ _ _ _ _ _ _ _ _ _ _ _ _ _ _ X0_ok ?_
  unfold n40
  have hn5 := hu.papers.1
  have hcl := hc.len
  have hrn := hrl.1
  have hpk := check_papers hck
  obtain ⟨_, _, ⟨f1, f2⟩, ⟨i1, i2⟩⟩ := num_ok (check_num hck)
  refine t_blk (fun vs h' => h = h' ∧ ∃ m, vs = [.int .i64 m] ∧ LastIs (UseDayN u real land item 0) day m) ?_ ?_
  · refine t_if (fun e => ?_) (fun e => ?_)
    · refine t_again ⟨rfl, _, rfl, .inr ⟨f1, e, .inl rfl, fun d hd _ => ?_⟩⟩
      rcases hd with rfl | ⟨j, p, h1, _⟩
      · omega
      · omega
    · refine t_again ⟨rfl, _, rfl, .inl ⟨rfl, fun d hd => ?_⟩⟩
      rcases hd with rfl | ⟨j, p, h1, _⟩
      · omega
      · omega
  rintro vs _ ⟨rfl, m, rfl, hm⟩
  (repeat (first | (with_reducible first | apply gA | apply gB | apply gC | apply gD | apply gE | apply gF | apply gG | apply gH | apply gI | apply gJ | apply gK | apply gL | apply gM | apply gN | apply gO | apply gP | apply gQ | apply gR) | ((with_reducible apply gT); first | exact rfl | exact True.intro | omega | assumption) | ((with_reducible apply gS2); first | assumption | rfl) | ((with_reducible first | apply gL0 | apply gL1 | apply gL2 | apply gL3 | apply gL4); assumption)))
  refine t_loop (fun mm vs h' => h = h' ∧ ∃ (i : Nat) (m : Int), vs = [.int .i64 m, .int .i64 i] ∧ i ≤ f.n5 ∧ mm = f.n5 - i ∧ LastIs (UseDayN u real land item i) day m) ⟨rfl, 0, m, rfl, Nat.zero_le _, rfl, hm⟩ ?_
  clear hm
  rintro Y mm vs _ hY ⟨rfl, i, m, rfl, hi, rfl, hm⟩
  (repeat (first | (with_reducible first | apply gA | apply gB | apply gC | apply gD | apply gE | apply gF | apply gG | apply gH | apply gI | apply gJ | apply gK | apply gL | apply gM | apply gN | apply gO | apply gP | apply gQ | apply gR) | ((with_reducible apply gT); first | exact rfl | exact True.intro | omega | assumption) | ((with_reducible apply gS2); first | assumption | rfl) | ((with_reducible first | apply gL0 | apply gL1 | apply gL2 | apply gL3 | apply gL4); assumption)))
  refine t_if (fun e1 => ?_) (fun e1 => ?_)
  · obtain ⟨x, a, hx, ha, x1, x2, x3, q, mq, cq, x4, x5⟩ := hu.papers.at (i := i) (by omega)
    have hxk := hpk.2 x (List.mem_of_getElem? hx)
    obtain ⟨r, hr, r1, r2⟩ := hc.at i x hx
    obtain ⟨r', b, hr', hb, e2⟩ := hrl.at (i := i) (by omega)
    rw [hr] at hr'; cases hr'
    unfold IntE at e2
    have hst := useDay_step (land := land) (item := item) hx hr
    (repeat (first | (with_reducible first | apply gA | apply gB | apply gC | apply gD | apply gE | apply gF | apply gG | apply gH | apply gI | apply gJ | apply gK | apply gL | apply gM | apply gN | apply gO | apply gP | apply gQ | apply gR) | ((with_reducible apply gT); first | exact rfl | exact True.intro | omega | assumption) | ((with_reducible apply gS2); first | assumption | rfl) | ((with_reducible first | apply gL0 | apply gL1 | apply gL2 | apply gL3 | apply gL4); assumption)))
    have hwr : IntKind.wrap .i64 ((i : Int) + 1) = ((i + 1 : Nat) : Int) := by rw [wrap_id (by omega) (by omega)]; rfl
    rw [hwr]
    have next : ∀ m', LastIs (UseDayN u real land item (i + 1)) day m' → Y [.int .i64 m', .int .i64 ((i + 1 : Nat) : Int)] h := fun m' hm' =>
      hY (f.n5 - (i + 1)) _ _ (by omega) ⟨rfl, i + 1, m', rfl, by omega, rfl, hm'⟩
    have skip : showsB land item x = false → LastIs (UseDayN u real land item (i + 1)) day m := fun hs => hm.keep (fun d hd => (hst d).2 (.inl hd)) fun d hd => by
      rcases (hst d).1 hd with h | ⟨h, _⟩
      · exact .inl h
      · rw [hs] at h; cases h
    refine t_cond (fun b1 => ?_) (fun b1 => ?_)
    · refine t_pu (c41 x5 item) ?_
      (repeat (first | (with_reducible first | apply gA | apply gB | apply gC | apply gD | apply gE | apply gF | apply gG | apply gH | apply gI | apply gJ | apply gK | apply gL | apply gM | apply gN | apply gO | apply gP | apply gQ | apply gR) | ((with_reducible apply gT); first | exact rfl | exact True.intro | omega | assumption) | ((with_reducible apply gS2); first | assumption | rfl) | ((with_reducible first | apply gL0 | apply gL1 | apply gL2 | apply gL3 | apply gL4); assumption)))
      refine t_cond (fun b2 => ?_) (fun b2 => ?_)
      · have hs : showsB land item x = true := by rw [showsB, b1, b2]; rfl
        (repeat (first | (with_reducible first | apply gA | apply gB | apply gC | apply gD | apply gE | apply gF | apply gG | apply gH | apply gI | apply gJ | apply gK | apply gL | apply gM | apply gN | apply gO | apply gP | apply gQ | apply gR) | ((with_reducible apply gT); first | exact rfl | exact True.intro | omega | assumption) | ((with_reducible apply gS2); first | assumption | rfl) | ((with_reducible first | apply gL0 | apply gL1 | apply gL2 | apply gL3 | apply gL4); assumption)))
        refine t_if (fun e3 => ?_) (fun e3 => ?_)
        · (repeat (first | (with_reducible first | apply gA | apply gB | apply gC | apply gD | apply gE | apply gF | apply gG | apply gH | apply gI | apply gJ | apply gK | apply gL | apply gM | apply gN | apply gO | apply gP | apply gQ | apply gR) | ((with_reducible apply gT); first | exact rfl | exact True.intro | omega | assumption) | ((with_reducible apply gS2); first | assumption | rfl) | ((with_reducible first | apply gL0 | apply gL1 | apply gL2 | apply gL3 | apply gL4); assumption)))
          refine t_again (next _ (hm.add ⟨by omega, e3⟩ (fun d hd => (hst d).2 (.inl hd)) ((hst r).2 (.inr ⟨hs, rfl⟩)) fun d hd => ?_))
          rcases (hst d).1 hd with h | ⟨_, h⟩
          · exact .inl h
          · exact .inr h
        · refine t_again (next _ (hm.keep (fun d hd => (hst d).2 (.inl hd)) fun d hd => ?_))
          rcases (hst d).1 hd with h | ⟨_, h⟩
          · exact .inl h
          · exact .inr (by omega)
      · exact t_again (next _ (skip (by rw [showsB, b1, b2]; rfl)))
    · exact t_again (next _ (skip (by rw [showsB, b1]; rfl)))
  · (repeat (first | (with_reducible first | apply gA | apply gB | apply gC | apply gD | apply gE | apply gF | apply gG | apply gH | apply gI | apply gJ | apply gK | apply gL | apply gM | apply gN | apply gO | apply gP | apply gQ | apply gR) | ((with_reducible apply gT); first | exact rfl | exact True.intro | omega | assumption) | ((with_reducible apply gS2); first | assumption | rfl) | ((with_reducible first | apply gL0 | apply gL1 | apply gL2 | apply gL3 | apply gL4); assumption)))
    have hall : ∀ d, UseDay u real land item d → UseDayN u real land item i d := by
      rintro d (h | ⟨j, p, h1, h2, h3⟩)
      · exact .inl h
      · exact .inr ⟨j, p, by have := (List.getElem?_eq_some_iff.1 h1).1; omega, h1, h2, h3⟩
    have hback : ∀ d, UseDayN u real land item i d → UseDay u real land item d := by
      rintro d (h | ⟨j, p, _, h1, h2, h3⟩)
      · exact .inl h
      · exact .inr ⟨j, p, h1, h2, h3⟩
    refine t_if (fun e2 => ?_) (fun e2 => ?_)
    · rcases hm with ⟨m1, _⟩ | ⟨m1, m2, m3, m4⟩
      · omega
      refine t_pu (c51 hu _ _ ⟨m1, m2, hd.2⟩) ?_
      (repeat (first | (with_reducible first | apply gA | apply gB | apply gC | apply gD | apply gE | apply gF | apply gG | apply gH | apply gI | apply gJ | apply gK | apply gL | apply gM | apply gN | apply gO | apply gP | apply gQ | apply gR) | ((with_reducible apply gT); first | exact rfl | exact True.intro | omega | assumption) | ((with_reducible apply gS2); first | assumption | rfl) | ((with_reducible first | apply gL0 | apply gL1 | apply gL2 | apply gL3 | apply gL4); assumption)))
      refine t_ret ⟨rfl, _, rfl, ?_⟩
      have hwi := window_iff i1 (u := u) m1 m2
      constructor
      · intro hb
        have : ¬ cnt u m day ≥ u.idle := by simpa [idleF] using hb
        exact ⟨m, hback m m3, by unfold InW; exact ⟨hwi.2 (by omega), m2⟩⟩
      · rintro ⟨d, h1, h2, h3⟩
        have h4 := m4 d (hall d h1) h3
        have : cnt u m day < u.idle := hwi.1 (by omega)
        simp [idleF]; omega
    · rcases hm with ⟨m1, m2⟩ | ⟨m1, _⟩
      · refine t_ret ⟨rfl, false, rfl, ?_⟩
        constructor
        · intro h; cases h
        · rintro ⟨d, h1, h2, h3⟩; exact absurd h3 (m2 d (hall d h1))
      · omega
end Go.Proofs.YtibibhojkfapnaaDoor
end
section
namespace Go.Proofs.YtibibhojkfapnaaDoor
open Go Go.TM Go.Proofs
attribute [local irreducible] T.wp CV FWK
theorem against_take {u : UseFile} {k i d : Int} {j : Nat} {x : Request} (hx : u.requests[j]? = some x) (P : Request → Prop) : (∀ r ∈ u.requests.take (j + 1), agB k i d r = true → P r) ↔ ((∀ r ∈ u.requests.take j, agB k i d r = true → P r) ∧ (agB k i d x = true → P x)) := by
  rw [List.take_add_one, hx]
  simp only [Option.toList, List.mem_append, List.mem_singleton]
  constructor
  · intro h; exact ⟨fun r hr => h r (.inl hr), h x (.inr rfl)⟩
  · rintro ⟨h1, h2⟩ r (hr | rfl)
    · exact h1 r hr
    · exact h2
theorem c6 {h : LH} (hch : h.chans = []) (hpe : h.pend = []) (hp : Parts h.get) {f : FileC} {u : UseFile} (hu : FileR h.get f u) (land : Int) (hl : 0 ≤ land ∧ land ≤ 255) (day : Int) (hd : 0 ≤ day ∧ day ≤ 65535) {pp : Option Addr} {pn pc : Nat} {pl : List Int} (hpl : Sl U16E 1 h.get pp pn pl) :
    FW XT Tryd.prog 6 #[fileV f u, .int .u8 land, .int .u16 day, .slice pp pn pc] h (Fin h) := by
  refine w6 _ _ _ _ _ _ _ _ _ _ _ _ _ _ _ _ _ _ XT_ok ?_
  unfold n6
  refine t_call (FW.top (c36 hu)) ?_
  rintro _ _ ⟨rfl, b, rfl, hb⟩
  (repeat (first | (with_reducible first | apply gA | apply gB | apply gC | apply gD | apply gE | apply gF | apply gG | apply gH | apply gI | apply gJ | apply gK | apply gL | apply gM | apply gN | apply gO | apply gP | apply gQ | apply gR) | ((with_reducible apply gT); first | exact rfl | exact True.intro | omega | assumption) | ((with_reducible apply gS2); first | assumption | rfl) | ((with_reducible first | apply gL0 | apply gL1 | apply gL2 | apply gL3 | apply gL4); assumption)))
  refine t_cond (fun _ => ?_) (fun hbf => ?_)
  · exact t_shown hch hpe hp (LH.le_refl _) fun h' hh => t_ret ⟨rfl, hh⟩
  have hck := hb (by simpa using hbf)
  obtain ⟨⟨i1, i2⟩, ⟨l1, l2⟩, ⟨f1, f2⟩, ⟨d1, d2⟩⟩ := num_ok (check_num hck)
  have hl0 : u.lands ≠ 0 := by omega
  (repeat (first | (with_reducible first | apply gA | apply gB | apply gC | apply gD | apply gE | apply gF | apply gG | apply gH | apply gI | apply gJ | apply gK | apply gL | apply gM | apply gN | apply gO | apply gP | apply gQ | apply gR) | ((with_reducible apply gT); first | exact rfl | exact True.intro | omega | assumption) | ((with_reducible apply gS2); first | assumption | rfl) | ((with_reducible first | apply gL0 | apply gL1 | apply gL2 | apply gL3 | apply gL4); assumption)))
  refine t_pu (c37 hd) ?_
  (repeat (first | (with_reducible first | apply gA | apply gB | apply gC | apply gD | apply gE | apply gF | apply gG | apply gH | apply gI | apply gJ | apply gK | apply gL | apply gM | apply gN | apply gO | apply gP | apply gQ | apply gR) | ((with_reducible apply gT); first | exact rfl | exact True.intro | omega | assumption) | ((with_reducible apply gS2); first | assumption | rfl) | ((with_reducible first | apply gL0 | apply gL1 | apply gL2 | apply gL3 | apply gL4); assumption)))
  rw [wrap_u8 hl, tmod_nn hl.1]
  have hk := mod_pos (n := land) (b := u.lands) (by omega)
  have hday := mod_day (n := day)
  generalize land % u.lands = k at *
  generalize day % 2001 = d at *
  refine t_gr (c38 hu hck hpl) ?_
  rintro _ h1 le1 ⟨rp, rn, rc, real, rfl, hreal, hc⟩
  (repeat (first | (with_reducible first | apply gA | apply gB | apply gC | apply gD | apply gE | apply gF | apply gG | apply gH | apply gI | apply gJ | apply gK | apply gL | apply gM | apply gN | apply gO | apply gP | apply gQ | apply gR) | ((with_reducible apply gT); first | exact rfl | exact True.intro | omega | assumption) | ((with_reducible apply gS2); first | assumption | rfl) | ((with_reducible first | apply gL0 | apply gL1 | apply gL2 | apply gL3 | apply gL4); assumption)))
  refine t_gr (c23 (hp.le le1.1) (hu.le le1.1) k d) ?_
  intro r2 h2 le2 hr2
  obtain ⟨p2, n2, k2, rfl, s2⟩ := hr2.form
  rw [leftQ_ok hck hk hday, if_pos rfl] at s2
  rw [leftQ_ok hck hk hday]
  have hlen : (leftAll u k d).length = u.items.toNat := by unfold leftAll; rw [List.length_map, List.length_range]
  have hn2 := s2.1
  (repeat (first | (with_reducible first | apply gA | apply gB | apply gC | apply gD | apply gE | apply gF | apply gG | apply gH | apply gI | apply gJ | apply gK | apply gL | apply gM | apply gN | apply gO | apply gP | apply gQ | apply gR) | ((with_reducible apply gT); first | exact rfl | exact True.intro | omega | assumption) | ((with_reducible apply gS2); first | assumption | rfl) | ((with_reducible first | apply gL0 | apply gL1 | apply gL2 | apply gL3 | apply gL4); assumption)))
  have le12 := LH.le_trans le1 le2
  have hreal2 := hreal.le IntE.grow le2.1
  have hu2 := hu.le le12.1
  have hp2 := hp.le le12.1
  have hrq := (check_requests hck).2
  refine t_blk (fun vs h' => vs = [.bool false] ∧ h2 = h') ?_ ?_
  · refine t_cond (fun e => absurd e (by simp)) (fun _ => ?_)
    refine t_cond (fun e => ?_) (fun _ => ?_)
    · simp at e; omega
    · exact t_again ⟨rfl, rfl⟩
  rintro vs _ ⟨rfl, rfl⟩
  (repeat (first | (with_reducible first | apply gA | apply gB | apply gC | apply gD | apply gE | apply gF | apply gG | apply gH | apply gI | apply gJ | apply gK | apply gL | apply gM | apply gN | apply gO | apply gP | apply gQ | apply gR) | ((with_reducible apply gT); first | exact rfl | exact True.intro | omega | assumption) | ((with_reducible apply gS2); first | assumption | rfl) | ((with_reducible first | apply gL0 | apply gL1 | apply gL2 | apply gL3 | apply gL4); assumption)))
  refine t_loop (fun mm vs h' => h2.le h' ∧ ∃ i : Nat, vs = [.bool false, .int .i64 i] ∧ i ≤ u.items.toNat ∧ mm = u.items.toNat - i) ⟨LH.le_refl _, 0, rfl, Nat.zero_le _, rfl⟩ ?_
  rintro Y mm vs h3 hY ⟨le3, i, rfl, hi, rfl⟩
  (repeat (first | (with_reducible first | apply gA | apply gB | apply gC | apply gD | apply gE | apply gF | apply gG | apply gH | apply gI | apply gJ | apply gK | apply gL | apply gM | apply gN | apply gO | apply gP | apply gQ | apply gR) | ((with_reducible apply gT); first | exact rfl | exact True.intro | omega | assumption) | ((with_reducible apply gS2); first | assumption | rfl) | ((with_reducible first | apply gL0 | apply gL1 | apply gL2 | apply gL3 | apply gL4); assumption)))
  refine t_if (fun e1 => ?_) (fun e1 => ?_)
  · refine t_gr (c19 (hp2.le le3.1) (hu2.le le3.1) k i d) ?_
    rintro _ h4 le4 rfl
    rw [safeR_ok hck hk ⟨by omega, by omega⟩ hday]
    (repeat (first | (with_reducible first | apply gA | apply gB | apply gC | apply gD | apply gE | apply gF | apply gG | apply gH | apply gI | apply gJ | apply gK | apply gL | apply gM | apply gN | apply gO | apply gP | apply gQ | apply gR) | ((with_reducible apply gT); first | exact rfl | exact True.intro | omega | assumption) | ((with_reducible apply gS2); first | assumption | rfl) | ((with_reducible first | apply gL0 | apply gL1 | apply gL2 | apply gL3 | apply gL4); assumption)))
    have le34 := LH.le_trans le3 le4
    have hu4 := hu2.le le34.1
    have hreal4 := hreal2.le IntE.grow le34.1
    refine t_blk (fun vs h' => vs = [.bool false] ∧ h4 = h') ?_ ?_
    · refine t_cond (fun e => absurd e (by simp)) (fun _ => ?_)
      refine t_call (FW.top (c40 hu4 hck hreal4 hc k i d hday)) ?_
      rintro _ _ ⟨rfl, b1, rfl, hb1⟩
      (repeat (first | (with_reducible first | apply gA | apply gB | apply gC | apply gD | apply gE | apply gF | apply gG | apply gH | apply gI | apply gJ | apply gK | apply gL | apply gM | apply gN | apply gO | apply gP | apply gQ | apply gR) | ((with_reducible apply gT); first | exact rfl | exact True.intro | omega | assumption) | ((with_reducible apply gS2); first | assumption | rfl) | ((with_reducible first | apply gL0 | apply gL1 | apply gL2 | apply gL3 | apply gL4); assumption)))
      refine t_pu (c39 _ _) ?_
      rw [safe_agrees d1 hc hday.1 hb1]
      (repeat (first | (with_reducible first | apply gA | apply gB | apply gC | apply gD | apply gE | apply gF | apply gG | apply gH | apply gI | apply gJ | apply gK | apply gL | apply gM | apply gN | apply gO | apply gP | apply gQ | apply gR) | ((with_reducible apply gT); first | exact rfl | exact True.intro | omega | assumption) | ((with_reducible apply gS2); first | assumption | rfl) | ((with_reducible first | apply gL0 | apply gL1 | apply gL2 | apply gL3 | apply gL4); assumption)))
      refine t_cond (fun e => absurd e (by simp)) (fun _ => ?_)
      exact t_again ⟨rfl, rfl⟩
    rintro vs _ ⟨rfl, rfl⟩
    (repeat (first | (with_reducible first | apply gA | apply gB | apply gC | apply gD | apply gE | apply gF | apply gG | apply gH | apply gI | apply gJ | apply gK | apply gL | apply gM | apply gN | apply gO | apply gP | apply gQ | apply gR) | ((with_reducible apply gT); first | exact rfl | exact True.intro | omega | assumption) | ((with_reducible apply gS2); first | assumption | rfl) | ((with_reducible first | apply gL0 | apply gL1 | apply gL2 | apply gL3 | apply gL4); assumption)))
    have hn6 := hu4.requests.1
    refine t_loop (fun mm vs h' => h4 = h' ∧ ∃ (j : Nat) (b : Bool), vs = [.bool b, .int .i64 j] ∧ j ≤ f.n6 ∧ mm = f.n6 - j ∧ (b = true ↔ ∀ r ∈ u.requests.take j, agB k i d r = true → UsedP u real k i r.day)) ⟨rfl, 0, true, rfl, Nat.zero_le _, rfl, by simp⟩ ?_
    rintro Y2 mm vs _ hY2 ⟨rfl, j, b, rfl, hj, rfl, hbj⟩
    (repeat (first | (with_reducible first | apply gA | apply gB | apply gC | apply gD | apply gE | apply gF | apply gG | apply gH | apply gI | apply gJ | apply gK | apply gL | apply gM | apply gN | apply gO | apply gP | apply gQ | apply gR) | ((with_reducible apply gT); first | exact rfl | exact True.intro | omega | assumption) | ((with_reducible apply gS2); first | assumption | rfl) | ((with_reducible first | apply gL0 | apply gL1 | apply gL2 | apply gL3 | apply gL4); assumption)))
    refine t_if (fun e2 => ?_) (fun e2 => ?_)
    · obtain ⟨x, a, hx, ha, x1, x2, q, mq, cq, x3, x4⟩ := hu4.requests.at (i := j) (by omega)
      have hxd := hrq x (List.mem_of_getElem? hx)
      have hb6 := hu4.requests.2.1
      have hst := against_take (k := k) (i := i) (d := d) hx (fun r => UsedP u real k i r.day)
      (repeat (first | (with_reducible first | apply gA | apply gB | apply gC | apply gD | apply gE | apply gF | apply gG | apply gH | apply gI | apply gJ | apply gK | apply gL | apply gM | apply gN | apply gO | apply gP | apply gQ | apply gR) | ((with_reducible apply gT); first | exact rfl | exact True.intro | omega | assumption) | ((with_reducible apply gS2); first | assumption | rfl) | ((with_reducible first | apply gL0 | apply gL1 | apply gL2 | apply gL3 | apply gL4); assumption)))
      have hwr : IntKind.wrap .i64 ((j : Int) + 1) = ((j + 1 : Nat) : Int) := by rw [wrap_id (by omega) (by omega)]; rfl
      rw [hwr]
      have next : ∀ b', (b' = true ↔ ∀ r ∈ u.requests.take (j + 1), agB k i d r = true → UsedP u real k i r.day) → Y2 [.bool b', .int .i64 ((j + 1 : Nat) : Int)] h4 := fun b' hb' =>
        hY2 (f.n6 - (j + 1)) _ _ (by omega) ⟨rfl, j + 1, b', rfl, by omega, rfl, hb'⟩
      have skip : agB k i d x = false → Y2 [.bool b, .int .i64 ((j + 1 : Nat) : Int)] h4 := fun hs => next b (by
        rw [hst, hbj, hs]; simp)
      refine t_cond (fun b1 => ?_) (fun b1 => ?_)
      · refine t_if (fun b2 => ?_) (fun b2 => ?_)
        · refine t_pu (c41 x4 i) ?_
          (repeat (first | (with_reducible first | apply gA | apply gB | apply gC | apply gD | apply gE | apply gF | apply gG | apply gH | apply gI | apply gJ | apply gK | apply gL | apply gM | apply gN | apply gO | apply gP | apply gQ | apply gR) | ((with_reducible apply gT); first | exact rfl | exact True.intro | omega | assumption) | ((with_reducible apply gS2); first | assumption | rfl) | ((with_reducible first | apply gL0 | apply gL1 | apply gL2 | apply gL3 | apply gL4); assumption)))
          refine t_cond (fun b3 => ?_) (fun b3 => ?_)
          · have hag : agB k i d x = true := by rw [agB, b1, b3]; simp [b2]
            refine t_cond (fun b4 => ?_) (fun b4 => ?_)
            · refine t_call (FW.top (c40 hu4 hck hreal4 hc k i x.day hxd)) ?_
              rintro _ _ ⟨rfl, b5, rfl, hb5⟩
              (repeat (first | (with_reducible first | apply gA | apply gB | apply gC | apply gD | apply gE | apply gF | apply gG | apply gH | apply gI | apply gJ | apply gK | apply gL | apply gM | apply gN | apply gO | apply gP | apply gQ | apply gR) | ((with_reducible apply gT); first | exact rfl | exact True.intro | omega | assumption) | ((with_reducible apply gS2); first | assumption | rfl) | ((with_reducible first | apply gL0 | apply gL1 | apply gL2 | apply gL3 | apply gL4); assumption)))
              refine t_again (next b5 ?_)
              rw [hst, ← hbj, b4, hb5]; simp [hag]
            · refine t_again (next false ?_)
              rw [hst, ← hbj, b4]; simp
          · exact t_again (skip (by rw [agB, b1, b3]; simp))
        · exact t_again (skip (by rw [agB, b1]; simp [b2]))
      · exact t_again (skip (by rw [agB, b1]; rfl))
    · (repeat (first | (with_reducible first | apply gA | apply gB | apply gC | apply gD | apply gE | apply gF | apply gG | apply gH | apply gI | apply gJ | apply gK | apply gL | apply gM | apply gN | apply gO | apply gP | apply gQ | apply gR) | ((with_reducible apply gT); first | exact rfl | exact True.intro | omega | assumption) | ((with_reducible apply gS2); first | assumption | rfl) | ((with_reducible first | apply gL0 | apply gL1 | apply gL2 | apply gL3 | apply gL4); assumption)))
      rw [List.take_of_length_le (by omega)] at hbj
      have hb' : b = true ↔ ∀ r ∈ against u k i d, UsedP u real k i r.day := by
        rw [hbj]
        unfold against
        constructor
        · intro h r hr; obtain ⟨h1, h2⟩ := List.mem_filter.1 hr; exact h r h1 h2
        · intro h r hr h2; exact h r (List.mem_filter.2 ⟨hr, h2⟩)
      obtain ⟨y, a, hy, ha, e3⟩ := (s2.le IntE.grow le34.1).at (i := i) (by omega)
      have hy' : y = left u k i d := by
        unfold leftAll at hy
        rw [List.getElem?_map, List.getElem?_range (by omega)] at hy
        simpa using hy.symm
      subst hy'
      unfold IntE at e3
      (repeat (first | (with_reducible first | apply gA | apply gB | apply gC | apply gD | apply gE | apply gF | apply gG | apply gH | apply gI | apply gJ | apply gK | apply gL | apply gM | apply gN | apply gO | apply gP | apply gQ | apply gR) | ((with_reducible apply gT); first | exact rfl | exact True.intro | omega | assumption) | ((with_reducible apply gS2); first | assumption | rfl) | ((with_reducible first | apply gL0 | apply gL1 | apply gL2 | apply gL3 | apply gL4); assumption)))
      refine t_pu (c39 _ _) ?_
      rw [left_agrees hc hb']
      (repeat (first | (with_reducible first | apply gA | apply gB | apply gC | apply gD | apply gE | apply gF | apply gG | apply gH | apply gI | apply gJ | apply gK | apply gL | apply gM | apply gN | apply gO | apply gP | apply gQ | apply gR) | ((with_reducible apply gT); first | exact rfl | exact True.intro | omega | assumption) | ((with_reducible apply gS2); first | assumption | rfl) | ((with_reducible first | apply gL0 | apply gL1 | apply gL2 | apply gL3 | apply gL4); assumption)))
      refine t_cond (fun e => absurd e (by simp)) (fun _ => ?_)
      refine t_again (hY (u.items.toNat - (i + 1)) _ _ (by omega) ⟨le34, i + 1, ?_, by omega, rfl⟩)
      rw [wrap_id (by omega) (by omega)]; rfl
  · (repeat (first | (with_reducible first | apply gA | apply gB | apply gC | apply gD | apply gE | apply gF | apply gG | apply gH | apply gI | apply gJ | apply gK | apply gL | apply gM | apply gN | apply gO | apply gP | apply gQ | apply gR) | ((with_reducible apply gT); first | exact rfl | exact True.intro | omega | assumption) | ((with_reducible apply gS2); first | assumption | rfl) | ((with_reducible first | apply gL0 | apply gL1 | apply gL2 | apply gL3 | apply gL4); assumption)))
    exact t_shown hch hpe hp (LH.le_trans le12 le3) fun h' hh => t_ret ⟨rfl, hh⟩
end Go.Proofs.YtibibhojkfapnaaDoor
end
section
namespace Go.Proofs.YtibibhojkfapnaaDoor
open Go Go.TM Go.Proofs Go.ChangeShapes Go.WideShapes Go.RowKit
set_option maxRecDepth 100000
theorem useTrue_lifted (os : Os) (started : os.Started) (H : Type) (enc : TypeId × Value → H) :
    ReturnsInLeavingWide {} Tryd.checked os 6 .any (fun w args => (Rows.useTrueSpec.pre enc Tryd.prog Tryd.f6 [] false w args ∧ laidMetH Tryd.prog Rows.useWindowsRow.laid w) ∧ sizedMet enc Tryd.prog Tryd.f6 (OpenSpec.ofChange Rows.useTrueSpec) false w args)
      (Rows.useTrueSpec.post enc Tryd.prog Tryd.f6 false true false false) := by
  refine row_leaving (C := Tryd.checked) (tb := 4) own started Tryd.func6 (by kernel_rfl) rfl lo ?_ (by kernel_rfl) Tryd.underlying4 ?_
    (ChangeSpec.witness_shaped (enc := enc) (C := Tryd.checked) (os := os) (X := fun w _ => laidMetH Tryd.prog Rows.useWindowsRow.laid w) false (World.doorLaid Tryd.prog 200 os) #[noFile, .int .u8 0, .int .u16 0, .slice none 0 0] 8 rfl (door_shaped os _) (by kernel_rfl) (by kernel_rfl) (by kernel_rfl) (door_met os _)) ?_
  · exact fun t ht => of_decide_eq_true (List.all_eq_true.1 (show (Tryd.f6.params.toList.all fun t => decide (Tryd.prog.readableRec t = true ∧ t < Tryd.prog.types.size)) = true by kernel_rfl) t ht)
  · intro ds hd
    match ds, (show ds.length = 4 from hd) with
    | [d0, d1, d2, d3], _ => rfl
  · intro W base args ds ps hval0 hA0 hz0 hL
    have hval : ∀ (j : Nat) t v, Tryd.f6.params[j]? = some t → args[j]? = some v → Value.okWide Tryd.prog W .any base t v := hval0
    have hz : ∀ (j : Nat) t d, Tryd.f6.params.toList[j]? = some t → ds[j]? = some d → Light Tryd.prog t d := hz0
    have hA : DataW.TrodAll enc Tryd.prog W 0 (fun _ => true) true Tryd.f6.params.toList args.toList ds ps := hA0
    rw [Tryd.params6] at hval hz hA
    obtain ⟨v0, v1, v2, v3, d0, d1, d2, d3, q00, q01, q02, q03, rfl, rfl, rfl, h0, h1, h2, h3⟩ := trodAll_four hA
    obtain ⟨f0, u0, rfl, hu0⟩ := file_arg UT (hval 0 26 v0 rfl rfl) (hz 0 26 d0 rfl rfl) h0
    obtain ⟨x1, rfl, _, _, w1⟩ := open_int und5 (hval 1 5 v1 rfl rfl) h1
    obtain ⟨x2, rfl, _, _, w2⟩ := open_int und57 (hval 2 57 v2 rfl rfl) h2
    obtain ⟨p3, n3, k3, l3, rfl, s3⟩ := u16s_arg und58 und57 cells57 bytes57 (hval 3 58 v3 rfl rfl) (hz 3 58 d3 rfl rfl) h3
    exact FW.mono (c6 (h := ⟨getW W, [], [], []⟩) rfl rfl (parts_of_laid hL) hu0 x1 (wf_u8 w1) x2 (wf_u16 w2) s3) fun r h' hq => ⟨hq.1, hq.2.2.1⟩
theorem useTrue_row : Rows.UseTrueSaid :=
  OpenClaim.holds_of_wide_leaving 6 Tryd.f6 rfl rfl rfl rfl rfl rfl rfl ⟨rfl, rfl, rfl, rfl, rfl⟩ rfl rfl rfl rfl rfl (by kernel_rfl) Tryd.func6 (by kernel_rfl)
    (of_decide_eq_true (by kernel_rfl)) (by unfold Func.isWrapper; first | (rw [if_pos (by decide +kernel)]; kernel_rfl) | (rw [if_neg (by decide +kernel)]; exact ⟨rfl, rfl⟩))
    (fun os started H enc _ => useTrue_lifted os started H enc)
theorem useTrue_holds : Rows.UseTrueCardSaid :=
  card_goes [.funcs] true Rows.useTrueCard.stood.harness false useTrue_row (by kernel_rfl) useTrue_row_tie rfl ⟨rfl, rfl⟩ (by kernel_rfl) rfl
    (fun f fn hf hfn => by
      obtain rfl : f = 6 := Option.some.inj ((show Tryd.prog.funcNamed Rows.useTrueRow.func = some 6 by kernel_rfl).symm.trans hf) |>.symm
      obtain rfl : fn = Tryd.f6 := (Option.some.inj (Tryd.func6.symm.trans hfn)).symm
      exact ⟨by kernel_rfl, fun j t ht => by
        have hm := Array.mem_of_getElem? ht
        have := of_decide_eq_true (List.all_eq_true.1 (show (Tryd.f6.params.toList.all fun t => decide (Tryd.prog.wantsStandIn t = false)) = true by kernel_rfl) t (Array.mem_toList_iff.2 hm))
        exact this⟩)
    (by kernel_rfl)
end Go.Proofs.YtibibhojkfapnaaDoor
end
#print axioms Go.Proofs.YtibibhojkfapnaaDoor.useTrue_holds

/- Contracts and laws for the proof, joined by a program. No condition. -/
import Derived.Test.YtibibhojkfapnaaDoorM4
set_option linter.all false
section
namespace Go.Proofs.YtibibhojkfapnaaDoor
open Go Go.TM Go.Proofs
attribute [local irreducible] T.wp CV FWK
def MapIs (h : Cells) (a : Nat) (R : Nat → Prop) : Prop := ∃ es, MapAt h a es ∧ (∀ e ∈ es.toList, ∃ n : Nat, e.key = .int .i64 n ∧ e.val = .bool true ∧ R n) ∧ ∀ n, R n → ∃ e ∈ es.toList, e.key = .int .i64 (n : Int)
theorem MapIs.isMap {h : Cells} {a : Nat} {R : Nat → Prop} (m : MapIs h a R) : ∃ es c, h a = some (true, .map es c) := by obtain ⟨es, ⟨c, h1⟩, _⟩ := m; exact ⟨es, c, h1⟩
theorem MapIs.mv {m a : Nat} {h h' : LH} {R : Nat → Prop} (hne : a ≠ m) (mv : Mv m h h') (hm : MapIs h.get a R) : MapIs h'.get a R := by
  obtain ⟨es, ⟨c, h1⟩, h2⟩ := hm
  exact ⟨es, ⟨c, mv.keep _ _ hne h1⟩, h2⟩
theorem MapIs.congr {h : Cells} {a : Nat} {R R' : Nat → Prop} (hm : MapIs h a R) (hR : ∀ n, R n ↔ R' n) : MapIs h a R' := by
  obtain ⟨es, h1, h2, h3⟩ := hm
  refine ⟨es, h1, fun e he => ?_, fun n hn => h3 n ((hR n).2 hn)⟩
  obtain ⟨n, a, b, c⟩ := h2 e he
  exact ⟨n, a, b, (hR n).1 c⟩
theorem MapIs.keys {h : Cells} {a : Nat} {es : Array MapEntry} {R : Nat → Prop} (h2 : ∀ e ∈ es.toList, ∃ n : Nat, e.key = .int .i64 n ∧ e.val = .bool true ∧ R n) : ∀ e ∈ es.toList, IsKey Tryd.prog 3 e.key := fun e he => by
  obtain ⟨n, h, _⟩ := h2 e he; exact .inl ⟨i64_3, n, h⟩
theorem t_lookSet {X : XP} {Q : Leaf → LH → Prop} {h : LH} {K : Value → T} {a : Nat} {R : Nat → Prop} (hm : MapIs h.get a R) {n : Nat} (h1 : R n → (K (.bool true)).wp X Tryd.prog Q h) (h2 : ¬ R n → (K (.bool false)).wp X Tryd.prog Q h) : (T.sem false (Instr.lookup 138 (.map (some a)) (.int .i64 n) false) K).wp X Tryd.prog Q h := by
  obtain ⟨es, hat, e1, e2⟩ := hm
  refine t_lookup und138 inf4 hat (.inl ⟨i64_3, _, rfl⟩) (MapIs.keys (h := h.get) (a := a) e1) (fun e he hk => ?_) fun hno => ?_
  · obtain ⟨n', g1, g2, g3⟩ := e1 e he
    rw [hk] at g1
    have : n = n' := by simp at g1; omega
    subst this
    rw [g2]
    exact h1 g3
  · refine h2 fun hr => ?_
    obtain ⟨e, he, hk⟩ := e2 n hr
    exact hno e he hk
theorem t_addSet {X : XP} {Q : Leaf → LH → Prop} {h : LH} {K : Value → T} {a : Nat} {R : Nat → Prop} (hm : MapIs h.get a R) {n : Nat} (hk : ∀ es c, MapIs (h.get.upd a (true, .map es c)) a (fun x => R x ∨ x = n) → (K undef).wp X Tryd.prog Q { h with get := h.get.upd a (true, .map es c) }) :
    (T.sem false (Sem.bind (Instr.mapUpdate 138 (.map (some a)) (.int .i64 n) (.bool true)) fun _ => pure (.tuple #[])) K).wp X Tryd.prog Q h := by
  obtain ⟨es, hat, e1, e2⟩ := hm
  refine t_mapUpdate und138 hat (.inl ⟨i64_3, _, rfl⟩) (MapIs.keys (h := h.get) (a := a) e1) fun es' c g1 g2 g3 => hk es' c ⟨es', ⟨c, Cells.upd_self _ _ _⟩, fun e he => ?_, fun x hx => ?_⟩
  · rcases g1 e he with ⟨k1, k2⟩ | k1
    · exact ⟨n, k1, k2, .inr rfl⟩
    · obtain ⟨n', a, b, c⟩ := e1 e k1
      exact ⟨n', a, b, .inl c⟩
  · rcases hx with hx | rfl
    · obtain ⟨e, he, hke⟩ := e2 x hx
      obtain ⟨e', he', hk'⟩ := g3 e he
      exact ⟨e', he', hk'.trans hke⟩
    · exact g2
theorem rd_updMap {h : Cells} {a : Nat} {es' : Array MapEntry} {c : Nat} (hm : ∃ es c, h a = some (true, .map es c)) : Rd h (h.upd a (true, .map es' c)) := by
  intro x v hc
  have hne : x.block ≠ a := by
    intro e
    obtain ⟨es, c, hm⟩ := hm
    unfold Cells.cell? at hc
    rw [e, hm] at hc; cases hc
  unfold Cells.cell? at hc ⊢
  rw [Cells.upd_ne _ _ hne]; exact hc
theorem desk_other {h : Cells} {d m a : Nat} {f : FileC} {u : UseFile} (k : Desk h d m f u) (hne : a ≠ m) (hm : ∃ es c, h a = some (true, .map es c)) {es' : Array MapEntry} {c : Nat} : Desk (h.upd a (true, .map es' c)) d m f u := by
  have hr := rd_updMap (es' := es') (c := c) hm
  refine ⟨k.file.rd hr, k.rep.rd hr, fun j hj => hr _ _ (k.counts j hj), hr _ _ k.mapp, ?_⟩
  obtain ⟨es, c', h1, h2⟩ := k.map
  exact ⟨es, c', by rw [Cells.upd_ne _ _ (Ne.symm hne)]; exact h1, h2⟩
theorem mv_other {m a : Nat} {h h' : LH} (mv : Mv m h h') (hno : h.get a = none) (hne : a ≠ m) {es : Array MapEntry} {c : Nat} : Mv m h { h' with get := h'.get.upd a (true, .map es c) } := by
  refine ⟨fun r x hr hx => ?_, fun es c hm => ?_, mv.same⟩
  · have : r ≠ a := by rintro rfl; rw [hno] at hx; cases hx
    show Cells.upd _ _ _ r = _
    rw [Cells.upd_ne _ _ this]; exact mv.keep r x hr hx
  · obtain ⟨es', c', h1⟩ := mv.isMap es c hm
    exact ⟨es', c', by show Cells.upd _ _ _ m = _; rw [Cells.upd_ne _ _ (Ne.symm hne)]; exact h1⟩
section
variable {X : XP} {Q : Leaf → LH → Prop} {h h' : LH} {d m : Nat} {f : FileC} {u : UseFile} {o : Option (Nat × (Nat → Prop))}
structure St (h : LH) (d m : Nat) (f : FileC) (u : UseFile) (h' : LH) (o : Option (Nat × (Nat → Prop))) : Prop where
  mv : Mv m h h'
  desk : Desk h'.get d m f u
  made : ∀ a R, o = some (a, R) → MapIs h'.get a R ∧ a ≠ m ∧ h.get a = none
theorem s_from (s : St h d m f u h' o) {k : Int → T} (hk : (k u.from_).wp X Tryd.prog Q h') : (T.loadI .i64 (Addr.add (Addr.add (Addr.add ⟨d, 0, none⟩ 0) 0) 2) k).wp X Tryd.prog Q h' := gL0 s.desk.file.f2 hk
theorem s_make (hm : ∃ es c, h.get m = some (true, .map es c)) (s : St h d m f u h' none) {k : Value → T} (hk : ∀ a h'', St h d m f u h'' (some (a, fun _ => False)) → (k (.map (some a))).wp X Tryd.prog Q h'') : (T.sem false (Instr.makeMap 138 none) k).wp X Tryd.prog Q h' := by
  refine t_makeMap fun a ha => hk a _ ?_
  have le1 : h'.le _ := LH.upd_le (x := (true, .map #[] 0)) ha
  have hno : h.get a = none := by
    cases hx : h.get a with
    | none => rfl
    | some x =>
      by_cases e : a = m
      · subst e
        obtain ⟨es, c, hm⟩ := hm
        obtain ⟨es', c', h1⟩ := s.mv.isMap es c hm
        rw [h1] at ha; cases ha
      · rw [s.mv.keep a x e hx] at ha; cases ha
  have hne : a ≠ m := by rintro rfl; obtain ⟨es, c, hm⟩ := hm; rw [hm] at hno; cases hno
  refine ⟨s.mv.trans (Mv.of_le le1), s.desk.le le1.1, fun a' R e => ?_⟩
  cases e
  exact ⟨⟨#[], ⟨0, Cells.upd_self _ _ _⟩, fun e he => by simp at he, fun n hn => hn.elim⟩, hne, hno⟩
theorem s_call (hck : checkF u = 0) (hm : ∃ es c, h.get m = some (true, .map es c)) (s : St h d m f u h' o) {p : Option Addr} {n c : Nat} {l : List Request} (hl : Sl RequestE 3 h.get p n l) (hl4 : l.length ≤ 4) (hdays : ∀ r ∈ l, 0 ≤ r.day ∧ r.day ≤ 2000) {day : Int} {k : Value → T} (hk : ∀ h'', St h d m f u h'' o → (k (.int .i64 (meets u l day))).wp X Tryd.prog Q h'') : (T.call false 107 #[.pointer (some ⟨d, 0, none⟩), .slice p n c, .int .i64 day] k).wp X Tryd.prog Q h' := by
  refine t_de (c107 s.desk hck (hl.rd RequestE.grow (s.mv.rd hm)) hl4 hdays day) ?_
  rintro _ h'' mv k2 rfl
  refine hk h'' ⟨s.mv.trans mv, k2, fun a R e => ?_⟩
  obtain ⟨a1, a2, a3⟩ := s.made a R e
  exact ⟨a1.mv a2 mv, a2, a3⟩
theorem s_add {a : Nat} {R : Nat → Prop} (s : St h d m f u h' (some (a, R))) {n : Nat} {K : Value → T} (hk : ∀ h'', St h d m f u h'' (some (a, fun x => R x ∨ x = n)) → (K undef).wp X Tryd.prog Q h'') :
    (T.sem false (Sem.bind (Instr.mapUpdate 138 (.map (some a)) (.int .i64 n) (.bool true)) fun _ => pure (.tuple #[])) K).wp X Tryd.prog Q h' := by
  obtain ⟨a1, a2, a3⟩ := s.made a R rfl
  refine t_addSet a1 fun es c hm => hk _ ⟨mv_other s.mv a3 a2, desk_other s.desk a2 a1.isMap, fun a' R' e => ?_⟩
  cases e
  exact ⟨hm, a2, a3⟩
end
theorem meets_lt (u : UseFile) (day : Int) : ∀ (l : List Request) (k acc : Nat), acc < 2 ^ (k + l.length) → meetsGo u day l k acc < 2 ^ (k + l.length) := by
  intro l
  induction l with
  | nil => intro k acc h; exact h
  | cons r l ih =>
    intro k acc h
    rw [meetsGo]
    have e : k + (r :: l).length = k + 1 + l.length := by simp; omega
    rw [e] at h ⊢
    refine ih _ _ ?_
    split
    · exact Nat.or_lt_two_pow h (Nat.pow_lt_pow_right (by omega) (by omega))
    · exact h
theorem meets_lt' (u : UseFile) (l : List Request) (day : Int) : meets u l day < 2 ^ l.length := by
  have := meets_lt u day l 0 0 (Nat.two_pow_pos _)
  rw [Nat.zero_add] at this; exact this
theorem or_small {a b : Nat} (ha : a < 16) (hb : b < 16) : IntKind.wrap .i64 (((BitVec.ofInt 64 (a : Int) ||| BitVec.ofInt 64 (b : Int)).toNat : Nat) : Int) = ((a ||| b : Nat) : Int) := by
  have h1 : (BitVec.ofInt 64 (a : Int)).toNat = a := by rw [BitVec.toNat_ofInt]; omega
  have h2 : (BitVec.ofInt 64 (b : Int)).toNat = b := by rw [BitVec.toNat_ofInt]; omega
  rw [BitVec.toNat_or, h1, h2]
  have h3 : a ||| b < 2 ^ 4 := Nat.or_lt_two_pow (by omega) (by omega)
  exact wrap_id (by omega) (by omega)
theorem reach_lt {u : UseFile} {l : List Request} : ∀ {ps : List Paper} {R : List Nat}, (∀ s ∈ R, s < 2 ^ l.length) → ∀ s ∈ reachL u l ps R, s < 2 ^ l.length := by
  intro ps
  induction ps with
  | nil => intro R h s hs; exact h s hs
  | cons p ps ih =>
    intro R h s hs
    rw [reachL] at hs
    refine ih (fun s hs => ?_) s hs
    simp only [stepL, List.mem_flatMap, List.mem_map] at hs
    obtain ⟨s0, h0, m, ⟨dd, _, rfl⟩, rfl⟩ := hs
    exact Nat.or_lt_two_pow (h s0 h0) (meets_lt' u l dd)
theorem c102 {h : LH} {d m : Nat} {f : FileC} {u : UseFile} (k : Desk h.get d m f u) (hck : checkF u = 0) {p : Option Addr} {n c : Nat} {l : List Request} (hl : Sl RequestE 3 h.get p n l) (hl4 : l.length ≤ 4) (hdays : ∀ r ∈ l, 0 ≤ r.day ∧ r.day ≤ 2000) (land item : Int) :
    De 102 #[.pointer (some ⟨d, 0, none⟩), .int .i64 land, .int .i64 item, .slice p n c] h d m f u fun r _ => r = .bool (!can u land item l) := by
  refine w102 _ _ _ _ _ _ X0_ok ?_
  unfold n102
  have hn := hl.1
  have hm := k.isMap
  (repeat (first | (with_reducible first | apply gA | apply gB | apply gC | apply gD | apply gE | apply gF | apply gG | apply gH | apply gI | apply gJ | apply gK | apply gL | apply gM | apply gN | apply gO | apply gP | apply gQ | apply gR) | ((with_reducible apply gT); first | exact rfl | exact True.intro | omega | assumption) | ((with_reducible apply gS2); first | assumption | rfl) | ((with_reducible first | apply gL0 | apply gL1 | apply gL2 | apply gL3 | apply gL4); assumption)))
  refine t_blk (fun vs h' => ∃ a, vs = [.map (some a)] ∧ St h d m f u h' (some (a, fun x => False ∨ x = meets u l u.from_))) ?_ ?_
  · have s0 : St h d m f u h none := ⟨Mv.refl, k, fun a R e => by cases e⟩
    (repeat (first | (with_reducible first | apply gA | apply gB | apply gC | apply gD | apply gE | apply gF | apply gG | apply gH | apply gI | apply gJ | apply gK | apply gL | apply gM | apply gN | apply gO | apply gP | apply gQ | apply gR) | ((with_reducible apply gT); first | exact rfl | exact True.intro | omega | assumption) | ((with_reducible apply gS2); first | assumption | rfl) | ((with_reducible first | apply gL0 | apply gL1 | apply gL2 | apply gL3 | apply gL4); assumption)))
    repeat' (first
      | refine t_both ?_ ?_
      | (refine s_make hm (by assumption) fun a hx s => ?_)
      | (refine s_call hck hm (by assumption) hl hl4 hdays fun hx s => ?_)
      | (refine s_add (by assumption) fun hx s => ?_)
      | (refine s_from (by assumption) ?_)
      | (with_reducible refine gD ?_) | (with_reducible refine gP ?_) | ((with_reducible apply gT); first | exact rfl | exact True.intro) | ((with_reducible apply gS2); exact rfl)
      | (refine t_again ⟨_, rfl, by assumption⟩))
  · rintro vs h₁ ⟨a0, rfl, s1⟩
    (repeat (first | (with_reducible first | apply gA | apply gB | apply gC | apply gD | apply gE | apply gF | apply gG | apply gH | apply gI | apply gJ | apply gK | apply gL | apply gM | apply gN | apply gO | apply gP | apply gQ | apply gR) | ((with_reducible apply gT); first | exact rfl | exact True.intro | omega | assumption) | ((with_reducible apply gS2); first | assumption | rfl) | ((with_reducible first | apply gL0 | apply gL1 | apply gL2 | apply gL3 | apply gL4); assumption)))
    obtain ⟨am, ane, ano⟩ := s1.made a0 _ rfl
    refine t_gr (c88 _ _ _) ?_
    rintro _ h₂ le2 ⟨z0, z1, z2, rfl, hz0, hz1, hz2⟩
    have k2 := s1.desk.le le2.1
    have hm2 := k2.isMap
    let h₀ : LH := { h₂ with get := fun b => if b = m then none else h₂.get b }
    have le0 : h₀.le h₂ := ⟨fun b x hb => by
      show h₂.get b = some x
      have hb' : (if b = m then none else h₂.get b) = some x := hb
      split at hb'
      · cases hb'
      · exact hb', rfl, rfl, rfl⟩
    have rd0 : Rd h₂.get h₀.get := by
      intro x v hc
      have hne : x.block ≠ m := by
        intro e
        obtain ⟨es, c, hm⟩ := hm2
        unfold Cells.cell? at hc
        rw [e, hm] at hc; cases hc
      unfold Cells.cell? at hc ⊢
      show (match (if x.block = m then none else h₂.get x.block) with | some (_, .cells c _ _) => if x.spot.isSome then none else c[x.off]? | _ => none) = _
      rw [if_neg hne]; exact hc
    obtain ⟨L, hL1, hL2, hH⟩ := hands99 X0_ok (rd0 _ _ hz0) (rd0 _ _ hz1) (rd0 _ _ hz2) (rd0 _ _ k2.file.f5) (k2.rep.papers.rd PaperE.grow rd0)
    have mv2 := s1.mv.trans (Mv.of_le (m := m) le2)
    have hcan : ∀ R, reachL u l (shown u land item) [meets u l u.from_] = reachL u l [] R → can u land item l = R.contains (2 ^ l.length - 1) := by
      intro R e; unfold can; rw [e]; rfl
    have hpw : (2 : Nat) ^ l.length ≤ 16 := by
      have : (2 : Nat) ^ l.length ≤ 2 ^ 4 := Nat.pow_le_pow_right (by omega) hl4
      omega
    have hpw1 : 0 < (2 : Nat) ^ l.length := Nat.two_pow_pos _
    have hm1 : (1 * 2 ^ min (n : Int).toNat 64 : Int) = ((2 ^ l.length : Nat) : Int) := by
      have : min (n : Int).toNat 64 = l.length := by rw [hn]; simp; omega
      rw [this]; simp
    generalize hP : (2 : Nat) ^ l.length = pw at hpw hpw1 hm1
    have hall : IntKind.wrap .i64 (IntKind.wrap .i64 (1 * 2 ^ min (n : Int).toNat 64) - 1) = ((pw - 1 : Nat) : Int) := by
      rw [hm1, wrap_id (n := (pw : Int)) (by omega) (by omega), wrap_id (by omega) (by omega)]; omega
    have hall2 : IntKind.wrap .i64 (((pw - 1 : Nat) : Int) + 1) = (pw : Int) := by
      rw [wrap_id (by omega) (by omega)]; omega
    simp only [hall, hall2]
    refine t_each le0 hH (fun i vs h' => Mv m h h' ∧ Desk h'.get d m f u ∧ ∃ a R, vs = [.map (some a)] ∧ a ≠ m ∧ MapIs h'.get a (fun x => x ∈ R) ∧ (∀ s ∈ R, s < pw) ∧ reachL u l (shown u land item) [meets u l u.from_] = reachL u l ((shown u land item).drop i) R)
      ⟨mv2, k2, a0, [meets u l u.from_], rfl, ane, (am.mv ane (Mv.of_le (m := m) le2)).congr (fun x => by simp), by intro s hs; simp at hs; subst hs; rw [← hP]; exact meets_lt' u l _, rfl⟩ ?_ ?_
    · rintro vs h₃ hle ⟨mv3, k3, a, R, rfl, hne, hmap, hR, hc⟩
      rw [List.drop_eq_nil_of_le (by rw [hL1]; exact Nat.le_refl _)] at hc
      have hcan' := hcan R hc
      rw [hP] at hcan'
      (repeat (first | (with_reducible first | apply gA | apply gB | apply gC | apply gD | apply gE | apply gF | apply gG | apply gH | apply gI | apply gJ | apply gK | apply gL | apply gM | apply gN | apply gO | apply gP | apply gQ | apply gR) | ((with_reducible apply gT); first | exact rfl | exact True.intro | omega | assumption) | ((with_reducible apply gS2); first | assumption | rfl) | ((with_reducible first | apply gL0 | apply gL1 | apply gL2 | apply gL3 | apply gL4); assumption)))
      refine t_lookSet hmap (fun hin => ?_) fun hnot => ?_
      · (repeat (first | (with_reducible first | apply gA | apply gB | apply gC | apply gD | apply gE | apply gF | apply gG | apply gH | apply gI | apply gJ | apply gK | apply gL | apply gM | apply gN | apply gO | apply gP | apply gQ | apply gR) | ((with_reducible apply gT); first | exact rfl | exact True.intro | omega | assumption) | ((with_reducible apply gS2); first | assumption | rfl) | ((with_reducible first | apply gL0 | apply gL1 | apply gL2 | apply gL3 | apply gL4); assumption)))
        refine t_ret ⟨mv3, k3, ?_⟩
        rw [hcan']
        have : R.contains (pw - 1) = true := by simpa using hin
        rw [this]
      · (repeat (first | (with_reducible first | apply gA | apply gB | apply gC | apply gD | apply gE | apply gF | apply gG | apply gH | apply gI | apply gJ | apply gK | apply gL | apply gM | apply gN | apply gO | apply gP | apply gQ | apply gR) | ((with_reducible apply gT); first | exact rfl | exact True.intro | omega | assumption) | ((with_reducible apply gS2); first | assumption | rfl) | ((with_reducible first | apply gL0 | apply gL1 | apply gL2 | apply gL3 | apply gL4); assumption)))
        refine t_ret ⟨mv3, k3, ?_⟩
        rw [hcan']
        have : R.contains (pw - 1) = false := by simpa using hnot
        rw [this]
    · rintro i xs vs h₃ hi hle ⟨mv3, k3, a, R, rfl, hne, hmap, hR, hc⟩ Y hY
      obtain ⟨x, q, nq, cq, hx, rfl, hit⟩ := hL2 i xs hi
      have hx' : (shown u land item)[i]? = some x := hx
      have hxp := (check_papers hck).2 x (List.mem_filter.1 (List.mem_of_getElem? hx')).1
      rw [drop_of hx', reachL] at hc
      unfold paperV
      (repeat (first | (with_reducible first | apply gA | apply gB | apply gC | apply gD | apply gE | apply gF | apply gG | apply gH | apply gI | apply gJ | apply gK | apply gL | apply gM | apply gN | apply gO | apply gP | apply gQ | apply gR) | ((with_reducible apply gT); first | exact rfl | exact True.intro | omega | assumption) | ((with_reducible apply gS2); first | assumption | rfl) | ((with_reducible first | apply gL0 | apply gL1 | apply gL2 | apply gL3 | apply gL4); assumption)))
      have hm3 := k3.isMap
      refine t_makeMap fun b hb => ?_
      (repeat (first | (with_reducible first | apply gA | apply gB | apply gC | apply gD | apply gE | apply gF | apply gG | apply gH | apply gI | apply gJ | apply gK | apply gL | apply gM | apply gN | apply gO | apply gP | apply gQ | apply gR) | ((with_reducible apply gT); first | exact rfl | exact True.intro | omega | assumption) | ((with_reducible apply gS2); first | assumption | rfl) | ((with_reducible first | apply gL0 | apply gL1 | apply gL2 | apply gL3 | apply gL4); assumption)))
      have le4 : h₃.le _ := LH.upd_le (x := (true, .map #[] 0)) hb
      have hbm : b ≠ m := by rintro rfl; obtain ⟨es, c, hm3⟩ := hm3; rw [hm3] at hb; cases hb
      have hba : b ≠ a := by rintro rfl; obtain ⟨es, c, ha⟩ := hmap.isMap; rw [ha] at hb; cases hb
      -- the days of the paper
      refine t_loop (fun mm vs h' => Mv m h₃ h' ∧ h₀.le h' ∧ Desk h'.get d m f u ∧ ∃ dy : Int, vs = [.int .i64 dy] ∧ x.days.first ≤ dy ∧ dy ≤ x.days.last + 1 ∧ mm = (x.days.last + 1 - dy).toNat ∧ MapIs h'.get b (fun y => ∃ s ∈ R, ∃ e : Int, x.days.first ≤ e ∧ e < dy ∧ y = s ||| meets u l e))
        ⟨Mv.of_le le4, LH.le_trans hle le4, k3.le le4.1, x.days.first, rfl, by omega, by omega, rfl, ⟨#[], ⟨0, Cells.upd_self _ _ _⟩, fun e he => by simp at he, fun y hy => by obtain ⟨s, _, e, h1, h2, _⟩ := hy; omega⟩⟩ ?_
      rintro Y2 mm vs h₅ hY2 ⟨mv5, le5, k5, dy, rfl, hd1, hd2, rfl, hmb⟩
      (repeat (first | (with_reducible first | apply gA | apply gB | apply gC | apply gD | apply gE | apply gF | apply gG | apply gH | apply gI | apply gJ | apply gK | apply gL | apply gM | apply gN | apply gO | apply gP | apply gQ | apply gR) | ((with_reducible apply gT); first | exact rfl | exact True.intro | omega | assumption) | ((with_reducible apply gS2); first | assumption | rfl) | ((with_reducible first | apply gL0 | apply gL1 | apply gL2 | apply gL3 | apply gL4); assumption)))
      refine t_if (fun e1 => ?_) (fun e1 => ?_)
      · have hl5 := hl.rd RequestE.grow (Mv.rd hm (mv3.trans mv5))
        refine t_de (c107 k5 hck hl5 hl4 hdays dy) ?_
        rintro _ h₆ mv6 k6 rfl
        (repeat (first | (with_reducible first | apply gA | apply gB | apply gC | apply gD | apply gE | apply gF | apply gG | apply gH | apply gI | apply gJ | apply gK | apply gL | apply gM | apply gN | apply gO | apply gP | apply gQ | apply gR) | ((with_reducible apply gT); first | exact rfl | exact True.intro | omega | assumption) | ((with_reducible apply gS2); first | assumption | rfl) | ((with_reducible first | apply gL0 | apply gL1 | apply gL2 | apply gL3 | apply gL4); assumption)))
        have le6 : h₀.le h₆ := ⟨fun r y hr => mv6.keep r y (by
          rintro rfl
          have : (if r = r then none else h₂.get r) = some y := hr
          simp at this) (le5.1 r y hr), mv6.same.1.trans le5.2.1, mv6.same.2.1.trans le5.2.2.1, mv6.same.2.2.trans le5.2.2.2⟩
        have hmt := meets_lt' u l dy
        rw [hP] at hmt
        refine t_loop (fun mm vs h' => Mv m h₃ h' ∧ h₀.le h' ∧ Desk h'.get d m f u ∧ ∃ j : Nat, vs = [.int .i64 j] ∧ j ≤ pw ∧ mm = pw - j ∧ MapIs h'.get b (fun y => (∃ s ∈ R, ∃ e : Int, x.days.first ≤ e ∧ e < dy ∧ y = s ||| meets u l e) ∨ ∃ s ∈ R, s < j ∧ y = s ||| meets u l dy))
          ⟨mv5.trans mv6, le6, k6, 0, rfl, Nat.zero_le _, rfl, (hmb.mv hbm mv6).congr fun y => ⟨.inl, fun h => by rcases h with h | ⟨s, _, h1, _⟩; exact h; omega⟩⟩ ?_
        rintro Y3 mm vs h₇ hY3 ⟨mv7, le7, k7, j, rfl, hj, rfl, hmb7⟩
        (repeat (first | (with_reducible first | apply gA | apply gB | apply gC | apply gD | apply gE | apply gF | apply gG | apply gH | apply gI | apply gJ | apply gK | apply gL | apply gM | apply gN | apply gO | apply gP | apply gQ | apply gR) | ((with_reducible apply gT); first | exact rfl | exact True.intro | omega | assumption) | ((with_reducible apply gS2); first | assumption | rfl) | ((with_reducible first | apply gL0 | apply gL1 | apply gL2 | apply gL3 | apply gL4); assumption)))
        refine t_if (fun e2 => ?_) (fun e2 => ?_)
        · have hma : MapIs h₇.get a (fun x => x ∈ R) := hmap.mv hne mv7
          refine t_lookSet hma (fun hin => ?_) fun hnot => ?_
          · (repeat (first | (with_reducible first | apply gA | apply gB | apply gC | apply gD | apply gE | apply gF | apply gG | apply gH | apply gI | apply gJ | apply gK | apply gL | apply gM | apply gN | apply gO | apply gP | apply gQ | apply gR) | ((with_reducible apply gT); first | exact rfl | exact True.intro | omega | assumption) | ((with_reducible apply gS2); first | assumption | rfl) | ((with_reducible first | apply gL0 | apply gL1 | apply gL2 | apply gL3 | apply gL4); assumption)))
            refine t_cond (fun _ => ?_) (fun e => by cases e)
            rw [or_small (by omega) (by omega)]
            refine t_addSet hmb7 fun es cc hnew => ?_
            have mv8 : Mv m h₃ { h₇ with get := h₇.get.upd b (true, .map es cc) } := mv_other mv7 hb hbm
            have hb0 : h₀.get b = none := by
              cases hx0 : h₀.get b with
              | none => rfl
              | some y => rw [hle.1 _ _ hx0] at hb; cases hb
            refine t_again (hY3 (pw - (j + 1)) _ _ (by omega) ⟨mv8, ⟨fun r y hr => ?_, le7.2⟩, desk_other k7 hbm hmb7.isMap, j + 1, ?_, by omega, rfl, hnew.congr fun y => ?_⟩)
            · have : r ≠ b := by rintro rfl; rw [hb0] at hr; cases hr
              show Cells.upd _ _ _ r = _
              rw [Cells.upd_ne _ _ this]; exact le7.1 r y hr
            · rw [wrap_id (by omega) (by omega)]; rfl
            · constructor
              · rintro ((h1 | ⟨s, h1, h2, h3⟩) | rfl)
                · exact .inl h1
                · exact .inr ⟨s, h1, by omega, h3⟩
                · exact .inr ⟨j, hin, by omega, rfl⟩
              · rintro (h1 | ⟨s, h1, h2, h3⟩)
                · exact .inl (.inl h1)
                · by_cases e : s = j
                  · subst e; exact .inr h3
                  · exact .inl (.inr ⟨s, h1, by omega, h3⟩)
          · (repeat (first | (with_reducible first | apply gA | apply gB | apply gC | apply gD | apply gE | apply gF | apply gG | apply gH | apply gI | apply gJ | apply gK | apply gL | apply gM | apply gN | apply gO | apply gP | apply gQ | apply gR) | ((with_reducible apply gT); first | exact rfl | exact True.intro | omega | assumption) | ((with_reducible apply gS2); first | assumption | rfl) | ((with_reducible first | apply gL0 | apply gL1 | apply gL2 | apply gL3 | apply gL4); assumption)))
            refine t_cond (fun e => by cases e) (fun _ => ?_)
            refine t_again (hY3 (pw - (j + 1)) _ _ (by omega) ⟨mv7, le7, k7, j + 1, ?_, by omega, rfl, hmb7.congr fun y => ?_⟩)
            · rw [wrap_id (by omega) (by omega)]; rfl
            · constructor
              · rintro (h1 | ⟨s, h1, h2, h3⟩)
                · exact .inl h1
                · exact .inr ⟨s, h1, by omega, h3⟩
              · rintro (h1 | ⟨s, h1, h2, h3⟩)
                · exact .inl h1
                · refine .inr ⟨s, h1, ?_, h3⟩
                  have : s ≠ j := by rintro rfl; exact hnot h1
                  omega
        · (repeat (first | (with_reducible first | apply gA | apply gB | apply gC | apply gD | apply gE | apply gF | apply gG | apply gH | apply gI | apply gJ | apply gK | apply gL | apply gM | apply gN | apply gO | apply gP | apply gQ | apply gR) | ((with_reducible apply gT); first | exact rfl | exact True.intro | omega | assumption) | ((with_reducible apply gS2); first | assumption | rfl) | ((with_reducible first | apply gL0 | apply gL1 | apply gL2 | apply gL3 | apply gL4); assumption)))
          refine t_again (hY2 (x.days.last + 1 - (dy + 1)).toNat _ _ (by omega) ⟨mv7, le7, k7, dy + 1, ?_, by omega, by omega, rfl, hmb7.congr fun y => ?_⟩)
          · rw [wrap_id (by omega) (by omega)]
          · constructor
            · rintro (⟨s, h1, e, h2, h3, h4⟩ | ⟨s, h1, h2, h3⟩)
              · exact ⟨s, h1, e, h2, by omega, h4⟩
              · exact ⟨s, h1, dy, hd1, by omega, h3⟩
            · rintro ⟨s, h1, e, h2, h3, h4⟩
              by_cases he : e = dy
              · subst he; exact .inr ⟨s, h1, by have := hR s h1; omega, h4⟩
              · exact .inl ⟨s, h1, e, h2, by omega, h4⟩
      · (repeat (first | (with_reducible first | apply gA | apply gB | apply gC | apply gD | apply gE | apply gF | apply gG | apply gH | apply gI | apply gJ | apply gK | apply gL | apply gM | apply gN | apply gO | apply gP | apply gQ | apply gR) | ((with_reducible apply gT); first | exact rfl | exact True.intro | omega | assumption) | ((with_reducible apply gS2); first | assumption | rfl) | ((with_reducible first | apply gL0 | apply gL1 | apply gL2 | apply gL3 | apply gL4); assumption)))
        have hdy : dy = x.days.last + 1 := by omega
        subst hdy
        refine t_againE le5 (hY _ _ le5 ⟨mv3.trans mv5, k5, b, stepL ((daysOf x.days).map (meets u l)) R, rfl, hbm, hmb.congr fun y => ?_, ?_, hc⟩)
        · simp only [stepL, List.mem_flatMap, List.mem_map, daysOf, List.mem_range]
          constructor
          · rintro ⟨s, h1, e, h2, h3, rfl⟩
            exact ⟨s, h1, _, ⟨e, ⟨(e - x.days.first).toNat, by omega, by omega⟩, rfl⟩, rfl⟩
          · rintro ⟨s, h1, _, ⟨e, ⟨i, h2, rfl⟩, rfl⟩, rfl⟩
            exact ⟨s, h1, _, by omega, by omega, rfl⟩
        · intro s hs
          simp only [stepL, List.mem_flatMap, List.mem_map] at hs
          obtain ⟨s0, h0, mm, ⟨e, _, rfl⟩, rfl⟩ := hs
          rw [← hP]
          exact Nat.or_lt_two_pow (by rw [hP]; exact hR s0 h0) (meets_lt' u l e)
end Go.Proofs.YtibibhojkfapnaaDoor
end
section
namespace Go.Proofs.YtibibhojkfapnaaDoor
open Go Go.TM Go.Proofs
attribute [local irreducible] T.wp CV FWK
theorem against_sub {u : UseFile} {land item day : Int} : ∀ r ∈ against u land item day, r ∈ u.requests := fun r hr => (List.mem_filter.1 hr).1
theorem against_len {u : UseFile} (hck : checkF u = 0) (land item day : Int) : (against u land item day).length ≤ 4 := Nat.le_trans (List.length_filter_le _ _) (check_requests hck).1
theorem c91 {h : LH} {d m : Nat} {f : FileC} {u : UseFile} (k : Desk h.get d m f u) (hck : checkF u = 0) (land item day : Int) :
    De 91 #[.pointer (some ⟨d, 0, none⟩), .int .i64 land, .int .i64 item, .int .i64 day] h d m f u fun r _ => r = .int .i64 (left u land item day) := by
  refine w91 _ _ _ _ X0_ok ?_
  unfold n91
  refine t_gr (c101 k hck land item day) ?_
  rintro _ h₁ le1 ⟨p, n, c, rfl, hl⟩
  have k1 := k.le le1.1
  have hm1 := k1.isMap
  have hdays : ∀ r ∈ against u land item day, 0 ≤ r.day ∧ r.day ≤ 2000 := fun r hr => (check_requests hck).2 r (against_sub r hr)
  have hl4 := against_len hck land item day
  (repeat (first | (with_reducible first | apply gA | apply gB | apply gC | apply gD | apply gE | apply gF | apply gG | apply gH | apply gI | apply gJ | apply gK | apply gL | apply gM | apply gN | apply gO | apply gP | apply gQ | apply gR) | ((with_reducible apply gT); first | exact rfl | exact True.intro | omega | assumption) | ((with_reducible apply gS2); first | assumption | rfl) | ((with_reducible first | apply gL0 | apply gL1 | apply gL2 | apply gL3 | apply gL4); assumption)))
  have hn := hl.1
  refine t_loop (fun mm vs h' => Mv m h₁ h' ∧ Desk h'.get d m f u ∧ ∃ i : Nat, vs = [.bool true, .int .i64 i] ∧ i ≤ n ∧ mm = n - i ∧ ∀ j r, j < i → (against u land item day)[j]? = some r → safe u land item r.day = 1)
    ⟨Mv.refl, k1, 0, rfl, Nat.zero_le _, rfl, fun j r hj => by omega⟩ ?_
  rintro Y mm vs h₂ hY ⟨mv, k2, i, rfl, hi, rfl, hall⟩
  (repeat (first | (with_reducible first | apply gA | apply gB | apply gC | apply gD | apply gE | apply gF | apply gG | apply gH | apply gI | apply gJ | apply gK | apply gL | apply gM | apply gN | apply gO | apply gP | apply gQ | apply gR) | ((with_reducible apply gT); first | exact rfl | exact True.intro | omega | assumption) | ((with_reducible apply gS2); first | assumption | rfl) | ((with_reducible first | apply gL0 | apply gL1 | apply gL2 | apply gL3 | apply gL4); assumption)))
  refine t_if (fun e1 => ?_) (fun e1 => ?_)
  · obtain ⟨x, a, hx, ha, e2, e3, q, mq, cq, e4, e5⟩ := (hl.rd RequestE.grow (mv.rd hm1)).at (i := i) (by omega)
    (repeat (first | (with_reducible first | apply gA | apply gB | apply gC | apply gD | apply gE | apply gF | apply gG | apply gH | apply gI | apply gJ | apply gK | apply gL | apply gM | apply gN | apply gO | apply gP | apply gQ | apply gR) | ((with_reducible apply gT); first | exact rfl | exact True.intro | omega | assumption) | ((with_reducible apply gS2); first | assumption | rfl) | ((with_reducible first | apply gL0 | apply gL1 | apply gL2 | apply gL3 | apply gL4); assumption)))
    have hxd := hdays x (List.mem_of_getElem? hx)
    refine t_de (c60 k2 (check_num hck) land item x.day hxd) ?_
    rintro _ h₃ mv3 k3 rfl
    (repeat (first | (with_reducible first | apply gA | apply gB | apply gC | apply gD | apply gE | apply gF | apply gG | apply gH | apply gI | apply gJ | apply gK | apply gL | apply gM | apply gN | apply gO | apply gP | apply gQ | apply gR) | ((with_reducible apply gT); first | exact rfl | exact True.intro | omega | assumption) | ((with_reducible apply gS2); first | assumption | rfl) | ((with_reducible first | apply gL0 | apply gL1 | apply gL2 | apply gL3 | apply gL4); assumption)))
    refine t_cond (fun b => ?_) (fun b => ?_)
    · (repeat (first | (with_reducible first | apply gA | apply gB | apply gC | apply gD | apply gE | apply gF | apply gG | apply gH | apply gI | apply gJ | apply gK | apply gL | apply gM | apply gN | apply gO | apply gP | apply gQ | apply gR) | ((with_reducible apply gT); first | exact rfl | exact True.intro | omega | assumption) | ((with_reducible apply gS2); first | assumption | rfl) | ((with_reducible first | apply gL0 | apply gL1 | apply gL2 | apply gL3 | apply gL4); assumption)))
      refine t_cond (fun e => by cases e) (fun _ => ?_)
      have mv13 := mv.trans mv3
      refine t_de (c102 k3 hck (hl.rd RequestE.grow (mv13.rd hm1)) hl4 hdays land item) ?_
      rintro _ h₄ mv4 k4 rfl
      (repeat (first | (with_reducible first | apply gA | apply gB | apply gC | apply gD | apply gE | apply gF | apply gG | apply gH | apply gI | apply gJ | apply gK | apply gL | apply gM | apply gN | apply gO | apply gP | apply gQ | apply gR) | ((with_reducible apply gT); first | exact rfl | exact True.intro | omega | assumption) | ((with_reducible apply gS2); first | assumption | rfl) | ((with_reducible first | apply gL0 | apply gL1 | apply gL2 | apply gL3 | apply gL4); assumption)))
      have hne : safe u land item x.day ≠ 1 := by simpa using b
      have hnot : ¬ ((against u land item day).all fun r => decide (safe u land item r.day = 1)) = true := by
        intro hh
        have := List.all_eq_true.1 hh x (List.mem_of_getElem? hx)
        exact hne (by simpa using this)
      refine t_cond (fun e => ?_) (fun e => ?_)
      · refine t_ret ⟨(Mv.of_le le1).trans (mv13.trans mv4), k4, ?_⟩
        have : can u land item (against u land item day) = false := by simpa using e
        rw [left, if_neg hnot, this]; rfl
      · refine t_ret ⟨(Mv.of_le le1).trans (mv13.trans mv4), k4, ?_⟩
        have : can u land item (against u land item day) = true := by simpa using e
        rw [left, if_neg hnot, this]; rfl
    · refine t_again (hY (n - (i + 1)) _ _ (by omega) ⟨mv.trans mv3, k3, i + 1, ?_, by omega, rfl, fun j r hj hr => ?_⟩)
      · rw [wrap_id (by omega) (by omega)]; rfl
      · by_cases e : j = i
        · subst e; rw [hx] at hr; cases hr; simpa using b
        · exact hall j r (by omega) hr
  · (repeat (first | (with_reducible first | apply gA | apply gB | apply gC | apply gD | apply gE | apply gF | apply gG | apply gH | apply gI | apply gJ | apply gK | apply gL | apply gM | apply gN | apply gO | apply gP | apply gQ | apply gR) | ((with_reducible apply gT); first | exact rfl | exact True.intro | omega | assumption) | ((with_reducible apply gS2); first | assumption | rfl) | ((with_reducible first | apply gL0 | apply gL1 | apply gL2 | apply gL3 | apply gL4); assumption)))
    refine t_cond (fun _ => ?_) (fun e => by cases e)
    refine t_ret ⟨(Mv.of_le le1).trans mv, k2, ?_⟩
    have : ((against u land item day).all fun r => decide (safe u land item r.day = 1)) = true := by
      rw [List.all_eq_true]
      intro r hr
      obtain ⟨j, hj⟩ := List.mem_iff_getElem?.1 hr
      have := hall j r (by have := (List.getElem?_eq_some_iff.1 hj).1; omega) hj
      simpa using this
    rw [left, if_pos this]
def dropM (m : Nat) (h : LH) : LH := { h with get := fun b => if b = m then none else h.get b }
theorem dropM_le {m : Nat} {h h' : LH} (mv : Mv m h h') : (dropM m h).le h' := by
  refine ⟨fun r x hr => ?_, mv.same⟩
  have hr' : (if r = m then none else h.get r) = some x := hr
  split at hr'
  · cases hr'
  · exact mv.keep r x (by assumption) hr'
theorem dropM_rd {m : Nat} {h : LH} (hm : ∃ es c, h.get m = some (true, .map es c)) : Rd h.get (dropM m h).get := by
  intro x v hc
  have hne : x.block ≠ m := by
    intro e
    obtain ⟨es, c, hm⟩ := hm
    unfold Cells.cell? at hc
    rw [e, hm] at hc; cases hc
  unfold Cells.cell? at hc ⊢
  show (match (if x.block = m then none else h.get x.block) with | some (_, .cells c _ _) => if x.spot.isSome then none else c[x.off]? | _ => none) = _
  rw [if_neg hne]; exact hc
theorem mv_of_drop {m : Nat} {h h' : LH} (hl : (dropM m h).le h') (hm : ∃ es c, h'.get m = some (true, .map es c)) : Mv m h h' :=
  ⟨fun r x hr hx => hl.1 r x (by show (if r = m then none else h.get r) = _; rw [if_neg hr]; exact hx), fun _ _ _ => hm, hl.2⟩
theorem desk_of_drop {h h' : LH} {d m : Nat} {f : FileC} {u : UseFile} (k : Desk h.get d m f u) (hl : (dropM m h).le h') (hm : ∃ es c, h'.get m = some (true, .map es c) ∧ ∀ e ∈ es.toList, ∃ day : Int, e.key = .agg #[.int .i64 day, .int .i64 u.idle] ∧ e.val = .agg #[.int .i64 (window u day).first, .int .i64 day]) : Desk h'.get d m f u := by
  have hr : Rd h.get h'.get := (dropM_rd k.isMap).trans (Rd.of_le hl.1)
  exact ⟨k.file.rd hr, k.rep.rd hr, fun j hj => hr _ _ (k.counts j hj), hr _ _ k.mapp, hm⟩
theorem t_growD {α : Type} {X : XP} {Q : Leaf → LH → Prop} {Enc : α → List Value → Prop} {h h₁ : LH} {d m : Nat} {f : FileC} {u : UseFile} {k : Value → T} {ts : Array TypeId} {ty sT xT el xe : TypeId} {s by_ : Nat} {z : Value} {p : Option Addr} {n c mc : Nat} {b : Addr} {l : List α} {x : α} {ws : List Value} (kd : Desk h.get d m f u) (k1 : Desk h₁.get d m f u) (mv : Mv m h h₁)
    (h0 : ts[0]? = some sT) (h1 : ts[1]? = some xT) (hu : Tryd.prog.underlying sT = some (.slice el)) (hx : Tryd.prog.underlying xT = some (.slice xe)) (hi : (Tryd.prog.info? el).map (fun i => (i.size, i.bytes, i.zero)) = some (s, by_, some z)) (hsz : z.cells.size = s) (hb : by_ ≤ 1024) (hn : n + 1 ≤ 2 ^ 30) (g : Growing Enc el s (dropM m h).get h₁.get p n c l) (he : Enc x ws) (hl : ws.length = s) (hc : ∀ (j : Nat) v, ws[j]? = some v → h₁.get.cell? (b.add j) = some v) (one : ∀ v ∈ ws, isOne v = true)
    (hk : ∀ p' c' h', Mv m h h' → Desk h'.get d m f u → Growing Enc el s (dropM m h).get h'.get p' (n + 1) c' (l ++ [x]) → (k (.slice p' (n + 1) c')).wp X Tryd.prog Q h') : (T.sem false (Builtin.append_ ts ty #[.slice p n c, .slice (some b) 1 mc]) k).wp X Tryd.prog Q h₁ := by
  have hpm : ∀ a, p = some a → a.block ≠ m := by
    intro a ha e
    obtain ⟨vs, ⟨_, h2⟩, _⟩ := g.row
    obtain ⟨es, c', hm⟩ := k1.isMap
    rcases h2 with ⟨rfl, _⟩ | ⟨r, cs, rfl, hr, _⟩
    · cases ha
    · cases ha; subst e; rw [hm] at hr; cases hr
  refine t_grow h0 h1 hu hx hi hsz hb hn g (dropM_le mv) he hl hc one fun p' c' h' hle hkeep g' => ?_
  obtain ⟨es, c0, hm, hv⟩ := k1.map
  have hm' := hkeep m _ hpm hm
  exact hk p' c' h' (mv_of_drop hle ⟨es, c0, hm'⟩) (desk_of_drop kd hle ⟨es, c0, hm', hv⟩) g'
theorem leftAll_take {u : UseFile} {land day : Int} (i : Nat) (hi : i < u.items.toNat) : (leftAll u land day).take (i + 1) = (leftAll u land day).take i ++ [left u land i day] := by
  have hlen : i < (leftAll u land day).length := by unfold leftAll; rw [List.length_map, List.length_range]; exact hi
  rw [List.take_succ_eq_append_getElem hlen]
  congr 2
  simp [leftAll]
theorem c63 {h : LH} {d m : Nat} {f : FileC} {u : UseFile} (k : Desk h.get d m f u) (hck : checkF u = 0) (land day : Int) :
    De 63 #[.pointer (some ⟨d, 0, none⟩), .int .i64 land, .int .i64 day] h d m f u fun r h' => ∃ p n c, r = .slice p n c ∧ Growing IntEnc 34 1 (dropM m h).get h'.get p n c (leftAll u land day) := by
  refine w63 _ _ _ X0_ok ?_
  unfold n63
  obtain ⟨f0, f1, f2, f3, f4, f5, f6⟩ := k.file
  have hit := (num_ok (check_num hck)).1
  (repeat (first | (with_reducible first | apply gA | apply gB | apply gC | apply gD | apply gE | apply gF | apply gG | apply gH | apply gI | apply gJ | apply gK | apply gL | apply gM | apply gN | apply gO | apply gP | apply gQ | apply gR) | ((with_reducible apply gT); first | exact rfl | exact True.intro | omega | assumption) | ((with_reducible apply gS2); first | assumption | rfl) | ((with_reducible first | apply gL0 | apply gL1 | apply gL2 | apply gL3 | apply gL4); assumption)))
  have hlen : (leftAll u land day).length = u.items.toNat := by unfold leftAll; rw [List.length_map, List.length_range]
  refine t_loop (fun mm vs h' => Mv m h h' ∧ Desk h'.get d m f u ∧ ∃ (i : Nat) (p : Option Addr) (n c : Nat), vs = [.slice p n c, .int .i64 i] ∧ i ≤ u.items.toNat ∧ mm = u.items.toNat - i ∧ Growing IntEnc 34 1 (dropM m h).get h'.get p n c ((leftAll u land day).take i))
    ⟨Mv.refl, k, 0, none, 0, 0, rfl, Nat.zero_le _, rfl, Growing.nil⟩ ?_
  rintro Y mm vs h₁ hY ⟨mv, k1, i, p, n, c, rfl, hi, rfl, g⟩
  (repeat (first | (with_reducible first | apply gA | apply gB | apply gC | apply gD | apply gE | apply gF | apply gG | apply gH | apply gI | apply gJ | apply gK | apply gL | apply gM | apply gN | apply gO | apply gP | apply gQ | apply gR) | ((with_reducible apply gT); first | exact rfl | exact True.intro | omega | assumption) | ((with_reducible apply gS2); first | assumption | rfl) | ((with_reducible first | apply gL0 | apply gL1 | apply gL2 | apply gL3 | apply gL4); assumption)))
  refine t_if (fun e1 => ?_) (fun e1 => ?_)
  · have hm1 := k1.isMap
    refine t_de (c91 k1 hck land i day) ?_
    rintro _ h₂ mv2 k2 rfl
    (repeat (first | (with_reducible first | apply gA | apply gB | apply gC | apply gD | apply gE | apply gF | apply gG | apply gH | apply gI | apply gJ | apply gK | apply gL | apply gM | apply gN | apply gO | apply gP | apply gQ | apply gR) | ((with_reducible apply gT); first | exact rfl | exact True.intro | omega | assumption) | ((with_reducible apply gS2); first | assumption | rfl) | ((with_reducible first | apply gL0 | apply gL1 | apply gL2 | apply gL3 | apply gL4); assumption)))
    have g2 := g.mv hm1 mv2
    refine t_build und40 inf34 (by decide) (by decide) (cells := #[.int .i64 (left u land i day)]) (by kernel_rfl) fun r hr => ?_
    have le3 : h₂.le _ := LH.upd_le (x := (true, .cells #[.int .i64 (left u land i day)] 34 (0, 0))) hr
    have hng := g2.count IntEnc.len (by omega)
    rw [List.length_take] at hng
    (repeat (first | (with_reducible first | apply gA | apply gB | apply gC | apply gD | apply gE | apply gF | apply gG | apply gH | apply gI | apply gJ | apply gK | apply gL | apply gM | apply gN | apply gO | apply gP | apply gQ | apply gR) | ((with_reducible apply gT); first | exact rfl | exact True.intro | omega | assumption) | ((with_reducible apply gS2); first | assumption | rfl) | ((with_reducible first | apply gL0 | apply gL1 | apply gL2 | apply gL3 | apply gL4); assumption)))
    refine t_growD (x := left u land i day) (ws := [.int .i64 (left u land i day)]) k (k2.le le3.1) ((mv.trans mv2).trans (Mv.of_le le3)) rfl rfl und40 und40 inf34 rfl (by omega) (by omega) (g2.le le3.1) rfl rfl ?_ ?_ ?_
    · intro j w hj
      rw [add_plain, Nat.zero_add]
      exact cell_upd (by simpa using hj)
    · intro w hw; simp at hw; subst hw; rfl
    · intro p' c' h₄ mv4 k4 g4
      (repeat (first | (with_reducible first | apply gA | apply gB | apply gC | apply gD | apply gE | apply gF | apply gG | apply gH | apply gI | apply gJ | apply gK | apply gL | apply gM | apply gN | apply gO | apply gP | apply gQ | apply gR) | ((with_reducible apply gT); first | exact rfl | exact True.intro | omega | assumption) | ((with_reducible apply gS2); first | assumption | rfl) | ((with_reducible first | apply gL0 | apply gL1 | apply gL2 | apply gL3 | apply gL4); assumption)))
      refine t_again (hY (u.items.toNat - (i + 1)) _ _ (by omega) ⟨mv4, k4, i + 1, p', n + 1, c', ?_, by omega, rfl, ?_⟩)
      · rw [wrap_id (by omega) (by omega)]; rfl
      · rw [leftAll_take i (by omega)]; exact g4
  · (repeat (first | (with_reducible first | apply gA | apply gB | apply gC | apply gD | apply gE | apply gF | apply gG | apply gH | apply gI | apply gJ | apply gK | apply gL | apply gM | apply gN | apply gO | apply gP | apply gQ | apply gR) | ((with_reducible apply gT); first | exact rfl | exact True.intro | omega | assumption) | ((with_reducible apply gS2); first | assumption | rfl) | ((with_reducible first | apply gL0 | apply gL1 | apply gL2 | apply gL3 | apply gL4); assumption)))
    have : i = u.items.toNat := by omega
    subst this
    rw [List.take_of_length_le (by omega)] at g
    exact t_ret ⟨mv, k1, p, n, c, rfl, g⟩
def LeftR (h' : Cells) (u : UseFile) (land day : Int) (r : Value) : Prop :=
  (openF u [landQ u land, dayQ day] ≠ 0 ∧ r = .tuple #[.slice none 0 0, .int .i64 (openF u [landQ u land, dayQ day])]) ∨
  (openF u [landQ u land, dayQ day] = 0 ∧ ∃ p n c, r = .tuple #[.slice p n c, .int .i64 0] ∧ Sl IntE 1 h' p n (leftAll u land day))
theorem c23 {h : LH} {f : FileC} {u : UseFile} (hp : Parts h.get) (hu : FileR h.get f u) (land day : Int) : Gr Tryd.prog 23 #[fileV f u, .int .i64 land, .int .i64 day] h fun r h' => LeftR h'.get u land day r := by
  refine w23 _ _ _ _ _ _ _ _ _ _ _ _ _ _ _ X0_ok ?_
  unfold n23
  refine t_gr (c58 u land) ?_
  rintro v0 h₁ le1 ⟨q0, a0⟩
  (repeat (first | (with_reducible first | apply gA | apply gB | apply gC | apply gD | apply gE | apply gF | apply gG | apply gH | apply gI | apply gJ | apply gK | apply gL | apply gM | apply gN | apply gO | apply gP | apply gQ | apply gR) | ((with_reducible apply gT); first | exact rfl | exact True.intro | omega | assumption) | ((with_reducible apply gS2); first | assumption | rfl) | ((with_reducible first | apply gL0 | apply gL1 | apply gL2 | apply gL3 | apply gL4); assumption)))
  refine t_gr (c54 u day) ?_
  rintro v1 h₂ le2 ⟨q1, a1⟩
  (repeat (first | (with_reducible first | apply gA | apply gB | apply gC | apply gD | apply gE | apply gF | apply gG | apply gH | apply gI | apply gJ | apply gK | apply gL | apply gM | apply gN | apply gO | apply gP | apply gQ | apply gR) | ((with_reducible apply gT); first | exact rfl | exact True.intro | omega | assumption) | ((with_reducible apply gS2); first | assumption | rfl) | ((with_reducible first | apply gL0 | apply gL1 | apply gL2 | apply gL3 | apply gL4); assumption)))
  refine asks2 q0 (a0.le le2) q1 a1 fun r h₄ le4 hs => ?_
  (repeat (first | (with_reducible first | apply gA | apply gB | apply gC | apply gD | apply gE | apply gF | apply gG | apply gH | apply gI | apply gJ | apply gK | apply gL | apply gM | apply gN | apply gO | apply gP | apply gQ | apply gR) | ((with_reducible apply gT); first | exact rfl | exact True.intro | omega | assumption) | ((with_reducible apply gS2); first | assumption | rfl) | ((with_reducible first | apply gL0 | apply gL1 | apply gL2 | apply gL3 | apply gL4); assumption)))
  have le14 := LH.le_trans (LH.le_trans le1 le2) le4
  refine t_call (c53 (f := f) (hp.le le14.1) (hu.le le14.1) hs) ?_
  rintro v h₅ ⟨le5, ⟨hne, rfl⟩ | ⟨h0, d, m, rfl, hd, hm, k⟩⟩
  · (repeat (first | (with_reducible first | apply gA | apply gB | apply gC | apply gD | apply gE | apply gF | apply gG | apply gH | apply gI | apply gJ | apply gK | apply gL | apply gM | apply gN | apply gO | apply gP | apply gQ | apply gR) | ((with_reducible apply gT); first | exact rfl | exact True.intro | omega | assumption) | ((with_reducible apply gS2); first | assumption | rfl) | ((with_reducible first | apply gL0 | apply gL1 | apply gL2 | apply gL3 | apply gL4); assumption)))
    refine t_cond (fun _ => ?_) (fun e => absurd (by simpa using e) hne)
    exact t_ret ⟨LH.le_trans le14 le5, .inl ⟨hne, rfl⟩⟩
  · (repeat (first | (with_reducible first | apply gA | apply gB | apply gC | apply gD | apply gE | apply gF | apply gG | apply gH | apply gI | apply gJ | apply gK | apply gL | apply gM | apply gN | apply gO | apply gP | apply gQ | apply gR) | ((with_reducible apply gT); first | exact rfl | exact True.intro | omega | assumption) | ((with_reducible apply gS2); first | assumption | rfl) | ((with_reducible first | apply gL0 | apply gL1 | apply gL2 | apply gL3 | apply gL4); assumption)))
    refine t_cond (fun e => by cases e) (fun _ => ?_)
    refine t_de (c63 k (open_num h0).2 land day) ?_
    rintro _ h₆ mv k6 ⟨p, n, c, rfl, g⟩
    (repeat (first | (with_reducible first | apply gA | apply gB | apply gC | apply gD | apply gE | apply gF | apply gG | apply gH | apply gI | apply gJ | apply gK | apply gL | apply gM | apply gN | apply gO | apply gP | apply gQ | apply gR) | ((with_reducible apply gT); first | exact rfl | exact True.intro | omega | assumption) | ((with_reducible apply gS2); first | assumption | rfl) | ((with_reducible first | apply gL0 | apply gL1 | apply gL2 | apply gL3 | apply gL4); assumption)))
    refine t_ret ⟨LH.le_trans le14 (Mv.le_of le5 hm mv), .inr ⟨h0, p, n, c, rfl, ?_⟩⟩
    refine g.sl IntEnc.len (by omega) IntEnc.e ?_
    have := (num_ok (open_num h0).1).1
    unfold leftAll; rw [List.length_map, List.length_range]; omega
end Go.Proofs.YtibibhojkfapnaaDoor
end
section
namespace Go.Proofs.YtibibhojkfapnaaDoor
open Go Go.TM Go.Proofs
attribute [local irreducible] T.wp CV FWK
def LackEnc (x : Lack) (ws : List Value) : Prop := ws = [.int .i64 x.item, .int .i64 x.request, .int .i64 x.window.first, .int .i64 x.window.last]
theorem LackEnc.len : ∀ x ws, LackEnc x ws → ws.length = 4 := by rintro x _ rfl; rfl
theorem LackEnc.e {h' : Cells} : ∀ a x ws, LackEnc x ws → (∀ (j : Nat) w, ws[j]? = some w → h'.cell? (a.add j) = some w) → LackE h' a x := by
  rintro a x _ rfl hc
  exact ⟨hc 0 _ rfl, hc 1 _ rfl, hc 2 _ rfl, hc 3 _ rfl⟩
theorem check_items {u : UseFile} (h : checkF u = 0) : ∀ r ∈ u.requests, risesF r.items u.items = 0 := by
  obtain ⟨_, h2⟩ := eachF_zero (check_parts h).2.2.2
  intro r hr
  obtain ⟨j, hj⟩ := List.mem_iff_getElem?.1 hr
  have := h2 j r hj
  have key : ∀ (c1 c2 c3 : Prop) [Decidable c1] [Decidable c2] [Decidable c3] (x : Int), (if c1 then (1 : Int) else if c2 then 7 else if c3 then 6 else x) = 0 → x = 0 := by
    intro c1 c2 c3 _ _ _ x hx
    by_cases a1 : c1
    · rw [if_pos a1] at hx; cases hx
    · rw [if_neg a1] at hx
      by_cases a2 : c2
      · rw [if_pos a2] at hx; cases hx
      · rw [if_neg a2] at hx
        by_cases a3 : c3
        · rw [if_pos a3] at hx; cases hx
        · rw [if_neg a3] at hx; exact hx
  exact key _ _ _ _ this
theorem rises_len {l : List Int} {b : Int} (h : risesF l b = 0) : (∀ i (hi : i < l.length), (i : Int) ≤ l[i] ∧ l[i] < b ∧ 0 ≤ l[i]) := by
  have h' := firstF_zero' h
  intro i
  induction i with
  | zero =>
    intro hi
    have := h' 0 l[0] (List.getElem?_eq_getElem hi)
    unfold riseF at this
    split at this
    · cases this
    · rename_i h1
      simp [isIn] at h1
      omega
  | succ i ih =>
    intro hi
    have h1 := ih (by omega)
    have := h' (i + 1) l[i + 1] (List.getElem?_eq_getElem hi)
    unfold riseF at this
    split at this
    · cases this
    · split at this
      · cases this
      · rename_i h2 h3
        simp [isIn] at h2
        have e : l.getD (0 + (i + 1) - 1) 0 = l[i] := by
          rw [show 0 + (i + 1) - 1 = i by omega]
          simp [List.getD, List.getElem?_eq_getElem (show i < l.length by omega)]
        rw [e] at h3
        have : ¬ l[i + 1] ≤ l[i] := fun hh => h3 ⟨by omega, hh⟩
        omega
theorem rises_len' {l : List Int} {b : Int} (h : risesF l b = 0) (hb : 0 ≤ b) : (l.length : Int) ≤ b := by
  by_cases h0 : l.length = 0
  · omega
  · have := rises_len h (l.length - 1) (by omega)
    omega
theorem lacksGo_len {u : UseFile} {land day : Int} (hi : ∀ r ∈ u.requests, r.items.length ≤ 6) : ∀ (l : List Request) (i : Nat), (∀ r ∈ l, r ∈ u.requests) → (lacksGo u land day l i).length ≤ l.length * 6 := by
  intro l
  induction l with
  | nil => intro i _; simp [lacksGo]
  | cons r l ih =>
    intro i hs
    rw [lacksGo, List.length_append]
    have h1 := ih (i + 1) fun r hr => hs r (by simp [hr])
    have h2 : (lacksOf u land day i r).length ≤ 6 := by
      unfold lacksOf
      split
      · simp
      · rw [List.length_map]
        exact Nat.le_trans (List.length_filter_le _ _) (hi r (hs r (by simp)))
    simp only [List.length_cons]; omega
def LacksR (h' : Cells) (u : UseFile) (land day : Int) (r : Value) : Prop :=
  (openF u [landQ u land, dayQ day] ≠ 0 ∧ r = .tuple #[.slice none 0 0, .int .i64 (openF u [landQ u land, dayQ day])]) ∨
  (openF u [landQ u land, dayQ day] = 0 ∧ ∃ p n c, r = .tuple #[.slice p n c, .int .i64 0] ∧ Sl LackE 4 h' p n (lacks u land day))
theorem c28 {h : LH} {f : FileC} {u : UseFile} (hp : Parts h.get) (hu : FileR h.get f u) (land day : Int) : Gr Tryd.prog 28 #[fileV f u, .int .i64 land, .int .i64 day] h fun r h' => LacksR h'.get u land day r := by
  refine w28 _ _ _ _ _ _ _ _ _ _ _ _ _ _ _ X0_ok ?_
  unfold n28
  refine t_gr (c58 u land) ?_
  rintro v0 h₁ le1 ⟨q0, a0⟩
  (repeat (first | (with_reducible first | apply gA | apply gB | apply gC | apply gD | apply gE | apply gF | apply gG | apply gH | apply gI | apply gJ | apply gK | apply gL | apply gM | apply gN | apply gO | apply gP | apply gQ | apply gR) | ((with_reducible apply gT); first | exact rfl | exact True.intro | omega | assumption) | ((with_reducible apply gS2); first | assumption | rfl) | ((with_reducible first | apply gL0 | apply gL1 | apply gL2 | apply gL3 | apply gL4); assumption)))
  refine t_gr (c54 u day) ?_
  rintro v1 h₂ le2 ⟨q1, a1⟩
  (repeat (first | (with_reducible first | apply gA | apply gB | apply gC | apply gD | apply gE | apply gF | apply gG | apply gH | apply gI | apply gJ | apply gK | apply gL | apply gM | apply gN | apply gO | apply gP | apply gQ | apply gR) | ((with_reducible apply gT); first | exact rfl | exact True.intro | omega | assumption) | ((with_reducible apply gS2); first | assumption | rfl) | ((with_reducible first | apply gL0 | apply gL1 | apply gL2 | apply gL3 | apply gL4); assumption)))
  refine asks2 q0 (a0.le le2) q1 a1 fun r h₄ le4 hs => ?_
  (repeat (first | (with_reducible first | apply gA | apply gB | apply gC | apply gD | apply gE | apply gF | apply gG | apply gH | apply gI | apply gJ | apply gK | apply gL | apply gM | apply gN | apply gO | apply gP | apply gQ | apply gR) | ((with_reducible apply gT); first | exact rfl | exact True.intro | omega | assumption) | ((with_reducible apply gS2); first | assumption | rfl) | ((with_reducible first | apply gL0 | apply gL1 | apply gL2 | apply gL3 | apply gL4); assumption)))
  have le14 := LH.le_trans (LH.le_trans le1 le2) le4
  refine t_call (c53 (f := f) (hp.le le14.1) (hu.le le14.1) hs) ?_
  rintro v h₅ ⟨le5, ⟨hne, rfl⟩ | ⟨h0, d, m, rfl, hd, hm, k⟩⟩
  · (repeat (first | (with_reducible first | apply gA | apply gB | apply gC | apply gD | apply gE | apply gF | apply gG | apply gH | apply gI | apply gJ | apply gK | apply gL | apply gM | apply gN | apply gO | apply gP | apply gQ | apply gR) | ((with_reducible apply gT); first | exact rfl | exact True.intro | omega | assumption) | ((with_reducible apply gS2); first | assumption | rfl) | ((with_reducible first | apply gL0 | apply gL1 | apply gL2 | apply gL3 | apply gL4); assumption)))
    refine t_cond (fun _ => ?_) (fun e => absurd (by simpa using e) hne)
    exact t_ret ⟨LH.le_trans le14 le5, .inl ⟨hne, rfl⟩⟩
  · (repeat (first | (with_reducible first | apply gA | apply gB | apply gC | apply gD | apply gE | apply gF | apply gG | apply gH | apply gI | apply gJ | apply gK | apply gL | apply gM | apply gN | apply gO | apply gP | apply gQ | apply gR) | ((with_reducible apply gT); first | exact rfl | exact True.intro | omega | assumption) | ((with_reducible apply gS2); first | assumption | rfl) | ((with_reducible first | apply gL0 | apply gL1 | apply gL2 | apply gL3 | apply gL4); assumption)))
    refine t_cond (fun e => by cases e) (fun _ => ?_)
    have hck := (open_num h0).2
    have hnum := check_num hck
    have hreq := check_requests hck
    have hitn := (num_ok hnum).1
    have hitems : ∀ r ∈ u.requests, r.items.length ≤ 6 := fun r hr => by have := rises_len' (check_items hck r hr) (by omega); omega
    have hlen6 := lacksGo_len (land := land) (day := day) hitems u.requests 0 fun r hr => hr
    have le15 := LH.le_trans le14 le5
    have hrq := (hu.le le15.1).requests
    have hn6 := hrq.1
    have hm5 := k.isMap
    refine t_loop (fun mm vs h' => Mv m h₅ h' ∧ Desk h'.get d m f u ∧ ∃ (i : Nat) (p : Option Addr) (n c : Nat) (rs : List Lack), vs = [.slice p n c, .int .i64 i] ∧ i ≤ f.n6 ∧ mm = f.n6 - i ∧ Growing LackEnc 79 4 (dropM m h₅).get h'.get p n c rs ∧ lacks u land day = rs ++ lacksGo u land day (u.requests.drop i) i)
      ⟨Mv.refl, k, 0, none, 0, 0, [], rfl, Nat.zero_le _, rfl, Growing.nil, rfl⟩ ?_
    rintro Y mm vs h₆ hY ⟨mv, k6, i, p, n, c, rs, rfl, hi, rfl, g, hc⟩
    (repeat (first | (with_reducible first | apply gA | apply gB | apply gC | apply gD | apply gE | apply gF | apply gG | apply gH | apply gI | apply gJ | apply gK | apply gL | apply gM | apply gN | apply gO | apply gP | apply gQ | apply gR) | ((with_reducible apply gT); first | exact rfl | exact True.intro | omega | assumption) | ((with_reducible apply gS2); first | assumption | rfl) | ((with_reducible first | apply gL0 | apply gL1 | apply gL2 | apply gL3 | apply gL4); assumption)))
    refine t_if (fun e1 => ?_) (fun e1 => ?_)
    · obtain ⟨x, a, hx, ha, e2, e3, q, mq, cq, e4, e5⟩ := hrq.at (i := i) (by omega)
      have e2 := mv.rd hm5 _ _ e2
      have e3 := mv.rd hm5 _ _ e3
      have e4 := mv.rd hm5 _ _ e4
      have hxm := List.mem_of_getElem? hx
      have hxd := hreq.2 x hxm
      have hx6 := hitems x hxm
      rw [drop_of hx, lacksGo] at hc
      (repeat (first | (with_reducible first | apply gA | apply gB | apply gC | apply gD | apply gE | apply gF | apply gG | apply gH | apply gI | apply gJ | apply gK | apply gL | apply gM | apply gN | apply gO | apply gP | apply gQ | apply gR) | ((with_reducible apply gT); first | exact rfl | exact True.intro | omega | assumption) | ((with_reducible apply gS2); first | assumption | rfl) | ((with_reducible first | apply gL0 | apply gL1 | apply gL2 | apply gL3 | apply gL4); assumption)))
      have next : ∀ h' p n c rs', Mv m h₅ h' → Desk h'.get d m f u → Growing LackEnc 79 4 (dropM m h₅).get h'.get p n c rs' → rs' = rs ++ lacksOf u land day i x → Y [.slice p n c, .int .i64 (IntKind.wrap .i64 ((i : Int) + 1))] h' := by
        rintro h' p n c rs' mv' k' g' rfl
        refine hY (f.n6 - (i + 1)) _ _ (by omega) ⟨mv', k', i + 1, p, n, c, _, ?_, by omega, rfl, g', by rw [hc, List.append_assoc]⟩
        rw [wrap_id (by omega) (by omega)]; rfl
      refine t_blk (fun vs h' => vs = [] ∧ h₆ = h' ∧ x.land = land ∧ x.day ≤ day) ?_ ?_
      · refine t_cond (fun b1 => ?_) (fun b1 => ?_)
        · refine gR ?_
          refine t_cond (fun _ => ?_) (fun e => by cases e)
          (repeat (first | (with_reducible first | apply gA | apply gB | apply gC | apply gD | apply gE | apply gF | apply gG | apply gH | apply gI | apply gJ | apply gK | apply gL | apply gM | apply gN | apply gO | apply gP | apply gQ | apply gR) | ((with_reducible apply gT); first | exact rfl | exact True.intro | omega | assumption) | ((with_reducible apply gS2); first | assumption | rfl) | ((with_reducible first | apply gL0 | apply gL1 | apply gL2 | apply gL3 | apply gL4); assumption)))
          refine t_again (next h₆ p n c rs mv k6 g ?_)
          have : x.land ≠ land := by simpa using b1
          rw [lacksOf, if_pos (.inl this)]; simp
        · refine t_if (fun b2 => ?_) (fun b2 => ?_)
          · refine gR ?_
            refine t_cond (fun _ => ?_) (fun e => by cases e)
            (repeat (first | (with_reducible first | apply gA | apply gB | apply gC | apply gD | apply gE | apply gF | apply gG | apply gH | apply gI | apply gJ | apply gK | apply gL | apply gM | apply gN | apply gO | apply gP | apply gQ | apply gR) | ((with_reducible apply gT); first | exact rfl | exact True.intro | omega | assumption) | ((with_reducible apply gS2); first | assumption | rfl) | ((with_reducible first | apply gL0 | apply gL1 | apply gL2 | apply gL3 | apply gL4); assumption)))
            refine t_again (next h₆ p n c rs mv k6 g ?_)
            rw [lacksOf, if_pos (.inr b2)]; simp
          · exact t_again ⟨rfl, rfl, by simpa using b1, by omega⟩
      · rintro vs _ ⟨rfl, rfl, hland, hday⟩
        (repeat (first | (with_reducible first | apply gA | apply gB | apply gC | apply gD | apply gE | apply gF | apply gG | apply gH | apply gI | apply gJ | apply gK | apply gL | apply gM | apply gN | apply gO | apply gP | apply gQ | apply gR) | ((with_reducible apply gT); first | exact rfl | exact True.intro | omega | assumption) | ((with_reducible apply gS2); first | assumption | rfl) | ((with_reducible first | apply gL0 | apply gL1 | apply gL2 | apply gL3 | apply gL4); assumption)))
        have hof : lacksOf u land day i x = (x.items.filter fun n => decide (safe u land n x.day ≠ 1)).map fun n => ⟨n, (i : Int), ⟨(window u x.day).first, x.day⟩⟩ := by
          rw [lacksOf, if_neg (by omega)]
        have hmq := e5.1
        refine t_loop (fun mm vs h' => Mv m h₅ h' ∧ Desk h'.get d m f u ∧ ∃ (j : Nat) (p : Option Addr) (n c : Nat) (ss : List Lack), vs = [.slice p n c, .int .i64 j] ∧ j ≤ mq ∧ mm = mq - j ∧ ss.length ≤ j ∧ Growing LackEnc 79 4 (dropM m h₅).get h'.get p n c (rs ++ ss) ∧ lacksOf u land day i x = ss ++ ((x.items.drop j).filter fun n => decide (safe u land n x.day ≠ 1)).map fun n => ⟨n, (i : Int), ⟨(window u x.day).first, x.day⟩⟩)
          ⟨mv, k6, 0, p, n, c, [], rfl, Nat.zero_le _, rfl, Nat.le_refl _, by simpa using g, hof⟩ ?_
        rintro Y2 mm vs h₇ hY2 ⟨mv7, k7, j, p, n, c, ss, rfl, hj, rfl, hsl, g7, hc7⟩
        (repeat (first | (with_reducible first | apply gA | apply gB | apply gC | apply gD | apply gE | apply gF | apply gG | apply gH | apply gI | apply gJ | apply gK | apply gL | apply gM | apply gN | apply gO | apply gP | apply gQ | apply gR) | ((with_reducible apply gT); first | exact rfl | exact True.intro | omega | assumption) | ((with_reducible apply gS2); first | assumption | rfl) | ((with_reducible first | apply gL0 | apply gL1 | apply gL2 | apply gL3 | apply gL4); assumption)))
        refine t_if (fun e6 => ?_) (fun e6 => ?_)
        · obtain ⟨y, b, hy, hb, e7⟩ := (e5.rd IntE.grow (mv7.rd hm5)).at (i := j) (by omega)
          unfold IntE at e7
          rw [drop_of hy, List.filter_cons] at hc7
          (repeat (first | (with_reducible first | apply gA | apply gB | apply gC | apply gD | apply gE | apply gF | apply gG | apply gH | apply gI | apply gJ | apply gK | apply gL | apply gM | apply gN | apply gO | apply gP | apply gQ | apply gR) | ((with_reducible apply gT); first | exact rfl | exact True.intro | omega | assumption) | ((with_reducible apply gS2); first | assumption | rfl) | ((with_reducible first | apply gL0 | apply gL1 | apply gL2 | apply gL3 | apply gL4); assumption)))
          refine t_de (c60 k7 hnum land y x.day hxd) ?_
          rintro _ h₈ mv8 k8 rfl
          have g8 := g7.mv k7.isMap mv8
          (repeat (first | (with_reducible first | apply gA | apply gB | apply gC | apply gD | apply gE | apply gF | apply gG | apply gH | apply gI | apply gJ | apply gK | apply gL | apply gM | apply gN | apply gO | apply gP | apply gQ | apply gR) | ((with_reducible apply gT); first | exact rfl | exact True.intro | omega | assumption) | ((with_reducible apply gS2); first | assumption | rfl) | ((with_reducible first | apply gL0 | apply gL1 | apply gL2 | apply gL3 | apply gL4); assumption)))
          refine t_cond (fun b1 => ?_) (fun b1 => ?_)
          · have b1' : decide (safe u land y x.day ≠ 1) = true := by simpa using b1
            rw [if_pos b1', List.map_cons] at hc7
            refine t_de (c55 k8 (num_ok hnum).2.2.2 x.day hxd) ?_
            rintro _ h₉ mv9 k9 rfl
            have g9 := g8.mv k8.isMap mv9
            have e7' := (mv8.trans mv9).rd k7.isMap _ _ e7
            (repeat (first | (with_reducible first | apply gA | apply gB | apply gC | apply gD | apply gE | apply gF | apply gG | apply gH | apply gI | apply gJ | apply gK | apply gL | apply gM | apply gN | apply gO | apply gP | apply gQ | apply gR) | ((with_reducible apply gT); first | exact rfl | exact True.intro | omega | assumption) | ((with_reducible apply gS2); first | assumption | rfl) | ((with_reducible first | apply gL0 | apply gL1 | apply gL2 | apply gL3 | apply gL4); assumption)))
            refine t_build und45 inf79 (by decide) (by decide) (cells := #[.int .i64 y, .int .i64 i, .int .i64 (window u x.day).first, .int .i64 x.day]) (by kernel_rfl) fun r hr => ?_
            have le10 : h₉.le _ := LH.upd_le (x := (true, .cells #[.int .i64 y, .int .i64 i, .int .i64 (window u x.day).first, .int .i64 x.day] 79 (0, 0))) hr
            have hng := g9.count LackEnc.len (by omega)
            have hrs6 : rs.length ≤ u.requests.length * 6 := by
              have := hlen6
              unfold lacks at hc
              rw [hc, List.length_append] at this; omega
            have hssl : ss.length ≤ 6 := by have := e5.1; omega
            rw [List.length_append] at hng
            (repeat (first | (with_reducible first | apply gA | apply gB | apply gC | apply gD | apply gE | apply gF | apply gG | apply gH | apply gI | apply gJ | apply gK | apply gL | apply gM | apply gN | apply gO | apply gP | apply gQ | apply gR) | ((with_reducible apply gT); first | exact rfl | exact True.intro | omega | assumption) | ((with_reducible apply gS2); first | assumption | rfl) | ((with_reducible first | apply gL0 | apply gL1 | apply gL2 | apply gL3 | apply gL4); assumption)))
            refine t_growD (x := (⟨y, (i : Int), ⟨(window u x.day).first, x.day⟩⟩ : Lack)) (ws := [.int .i64 y, .int .i64 i, .int .i64 (window u x.day).first, .int .i64 x.day]) k (k9.le le10.1) (((mv7.trans mv8).trans mv9).trans (Mv.of_le le10)) rfl rfl und45 und45 inf79 rfl (by omega) (by omega) (g9.le le10.1) rfl rfl ?_ ?_ ?_
            · intro j w hj
              rw [add_plain, Nat.zero_add]
              exact cell_upd (by simpa using hj)
            · intro w hw; simp at hw; rcases hw with rfl | rfl | rfl | rfl <;> rfl
            · intro p' c' h₁₀ mv10 k10 g10
              (repeat (first | (with_reducible first | apply gA | apply gB | apply gC | apply gD | apply gE | apply gF | apply gG | apply gH | apply gI | apply gJ | apply gK | apply gL | apply gM | apply gN | apply gO | apply gP | apply gQ | apply gR) | ((with_reducible apply gT); first | exact rfl | exact True.intro | omega | assumption) | ((with_reducible apply gS2); first | assumption | rfl) | ((with_reducible first | apply gL0 | apply gL1 | apply gL2 | apply gL3 | apply gL4); assumption)))
              refine t_again (hY2 (mq - (j + 1)) _ _ (by omega) ⟨mv10, k10, j + 1, p', n + 1, c', ss ++ [⟨y, (i : Int), ⟨(window u x.day).first, x.day⟩⟩], ?_, by omega, rfl, by simp; omega, by rw [← List.append_assoc]; exact g10, by rw [hc7]; simp⟩)
              rw [wrap_id (by omega) (by omega)]; rfl
          · have b1' : decide (safe u land y x.day ≠ 1) = false := by simpa using b1
            rw [if_neg (by rw [b1']; simp)] at hc7
            refine t_again (hY2 (mq - (j + 1)) _ _ (by omega) ⟨mv7.trans mv8, k8, j + 1, p, n, c, ss, ?_, by omega, rfl, by omega, g8, hc7⟩)
            rw [wrap_id (by omega) (by omega)]; rfl
        · (repeat (first | (with_reducible first | apply gA | apply gB | apply gC | apply gD | apply gE | apply gF | apply gG | apply gH | apply gI | apply gJ | apply gK | apply gL | apply gM | apply gN | apply gO | apply gP | apply gQ | apply gR) | ((with_reducible apply gT); first | exact rfl | exact True.intro | omega | assumption) | ((with_reducible apply gS2); first | assumption | rfl) | ((with_reducible first | apply gL0 | apply gL1 | apply gL2 | apply gL3 | apply gL4); assumption)))
          rw [List.drop_eq_nil_of_le (by omega)] at hc7
          refine t_again (next h₇ p n c _ mv7 k7 g7 ?_)
          rw [hc7]; simp
    · (repeat (first | (with_reducible first | apply gA | apply gB | apply gC | apply gD | apply gE | apply gF | apply gG | apply gH | apply gI | apply gJ | apply gK | apply gL | apply gM | apply gN | apply gO | apply gP | apply gQ | apply gR) | ((with_reducible apply gT); first | exact rfl | exact True.intro | omega | assumption) | ((with_reducible apply gS2); first | assumption | rfl) | ((with_reducible first | apply gL0 | apply gL1 | apply gL2 | apply gL3 | apply gL4); assumption)))
      rw [List.drop_eq_nil_of_le (by omega), lacksGo, List.append_nil] at hc
      refine t_ret ⟨LH.le_trans le14 (Mv.le_of le5 hm mv), .inr ⟨h0, p, n, c, rfl, ?_⟩⟩
      rw [hc]
      refine g.sl LackEnc.len (by omega) LackEnc.e ?_
      have : rs.length ≤ u.requests.length * 6 := by
        have := hlen6
        unfold lacks at hc
        rw [hc] at this; exact this
      omega
def PaperEnc (h₀ : Cells) (x : Paper) (ws : List Value) : Prop := ∃ q m c, ws = [.int .i64 x.days.first, .int .i64 x.days.last, .int .i64 x.land, .slice q m c] ∧ Sl IntE 1 h₀ q m x.items
theorem PaperEnc.len {h₀ : Cells} : ∀ x ws, PaperEnc h₀ x ws → ws.length = 4 := by rintro x _ ⟨q, m, c, rfl, _⟩; rfl
theorem PaperEnc.e {h₀ h' : Cells} (hr : Rd h₀ h') : ∀ a x ws, PaperEnc h₀ x ws → (∀ (j : Nat) w, ws[j]? = some w → h'.cell? (a.add j) = some w) → PaperE h' a x := by
  rintro a x _ ⟨q, m, c, rfl, hs⟩ hc
  exact ⟨hc 0 _ rfl, hc 1 _ rfl, hc 2 _ rfl, q, m, c, hc 3 _ rfl, hs.rd IntE.grow hr⟩
def enoughB (u : UseFile) (land day : Int) (papers all : List Int) : Bool := decide (checkF (withP u papers) = 0) && coversB all (leftAll (withP u papers) land day)
theorem withP_take {u : UseFile} {pl : List Int} {i : Nat} {v : Int} {x : Paper} (hv : pl[i]? = some v) (hx : u.papers[v.toNat]? = some x) : (pl.take (i + 1)).filterMap (fun n => u.papers[n.toNat]?) = (pl.take i).filterMap (fun n => u.papers[n.toNat]?) ++ [x] := by
  obtain ⟨hlt, rfl⟩ := List.getElem?_eq_some_iff.1 hv
  rw [List.take_succ_eq_append_getElem hlt, List.filterMap_append]
  simp [hx]
theorem c71 {h : LH} {f : FileC} {u : UseFile} (hp : Parts h.get) (hu : FileR h.get f u) (land day : Int) {pp : Option Addr} {pn pc : Nat} {pl : List Int} (hpl : Sl IntE 1 h.get pp pn pl) (hin : ∀ v ∈ pl, 0 ≤ v ∧ v < (u.papers.length : Int)) (hpl8 : pl.length ≤ 8)
    {ap : Option Addr} {an ac : Nat} {all : List Int} (hal : Sl IntE 1 h.get ap an all) (halen : all.length = u.items.toNat) : Gr Tryd.prog 71 #[fileV f u, .int .i64 land, .int .i64 day, .slice pp pn pc, .slice ap an ac] h fun r _ => r = .bool (enoughB u land day pl all) := by
  refine w71 _ _ _ _ _ _ _ _ _ _ _ _ _ _ _ _ _ _ _ _ _ X0_ok ?_
  unfold n71
  have hn := hpl.1
  have hn5 := hu.papers.1
  refine t_loop (fun mm vs h' => h.le h' ∧ ∃ (i : Nat) (p : Option Addr) (n c : Nat), vs = [.int .i64 i, .int .i64 u.items, .int .i64 u.lands, .int .i64 u.from_, .int .i64 u.idle, .slice f.p4 f.n4 f.c4, .slice p n c, .slice f.p6 f.n6 f.c6] ∧ i ≤ pn ∧ mm = pn - i ∧
      Growing (PaperEnc h.get) 69 4 h.get h'.get p n c ((pl.take i).filterMap fun n => u.papers[n.toNat]?)) ⟨LH.le_refl _, 0, none, 0, 0, rfl, Nat.zero_le _, rfl, Growing.nil⟩ ?_
  rintro Y mm vs h₁ hY ⟨hle, i, p, n, c, rfl, hi, rfl, g⟩
  (repeat (first | (with_reducible first | apply gA | apply gB | apply gC | apply gD | apply gE | apply gF | apply gG | apply gH | apply gI | apply gJ | apply gK | apply gL | apply gM | apply gN | apply gO | apply gP | apply gQ | apply gR) | ((with_reducible apply gT); first | exact rfl | exact True.intro | omega | assumption) | ((with_reducible apply gS2); first | assumption | rfl) | ((with_reducible first | apply gL0 | apply gL1 | apply gL2 | apply gL3 | apply gL4); assumption)))
  refine t_if (fun e1 => ?_) (fun e1 => ?_)
  · obtain ⟨v, a, hv, ha, e2⟩ := hpl.at (i := i) (by omega)
    unfold IntE at e2
    have e2 := Cells.cell?_le hle.1 e2
    have hvr := hin v (List.mem_of_getElem? hv)
    have hvn : ((v.toNat : Nat) : Int) = v := by omega
    obtain ⟨x, b, hx, hb, e3, e4, e5, q, mq, cq, e6, e7⟩ := hu.papers.at (i := v.toNat) (by omega)
    have e3 := Cells.cell?_le hle.1 e3
    have e4 := Cells.cell?_le hle.1 e4
    have e5 := Cells.cell?_le hle.1 e5
    have e6 := Cells.cell?_le hle.1 e6
    have hnv : 0 ≤ v ∧ v < (f.n5 : Int) := by omega
    (repeat (first | (with_reducible first | apply gA | apply gB | apply gC | apply gD | apply gE | apply gF | apply gG | apply gH | apply gI | apply gJ | apply gK | apply gL | apply gM | apply gN | apply gO | apply gP | apply gQ | apply gR) | ((with_reducible apply gT); first | exact rfl | exact True.intro | omega | assumption) | ((with_reducible apply gS2); first | assumption | rfl) | ((with_reducible first | apply gL0 | apply gL1 | apply gL2 | apply gL3 | apply gL4); assumption)))
    refine t_build und23 inf69 (by decide) (by decide) (cells := #[.int .i64 x.days.first, .int .i64 x.days.last, .int .i64 x.land, .slice q mq cq]) (by kernel_rfl) fun r hr => ?_
    have le2 : h₁.le _ := LH.upd_le (x := (true, .cells #[.int .i64 x.days.first, .int .i64 x.days.last, .int .i64 x.land, .slice q mq cq] 69 (0, 0))) hr
    have hng := g.count PaperEnc.len (by omega)
    have hlen : ((pl.take i).filterMap fun n => u.papers[n.toNat]?).length ≤ 8 := Nat.le_trans (List.length_filterMap_le _ _) (by rw [List.length_take]; omega)
    (repeat (first | (with_reducible first | apply gA | apply gB | apply gC | apply gD | apply gE | apply gF | apply gG | apply gH | apply gI | apply gJ | apply gK | apply gL | apply gM | apply gN | apply gO | apply gP | apply gQ | apply gR) | ((with_reducible apply gT); first | exact rfl | exact True.intro | omega | assumption) | ((with_reducible apply gS2); first | assumption | rfl) | ((with_reducible first | apply gL0 | apply gL1 | apply gL2 | apply gL3 | apply gL4); assumption)))
    refine t_grow (x := x) (ws := [.int .i64 x.days.first, .int .i64 x.days.last, .int .i64 x.land, .slice q mq cq]) rfl rfl und23 und23 inf69 rfl (by omega) (by omega) (g.le le2.1) (LH.le_trans hle le2) ⟨q, mq, cq, rfl, e7⟩ rfl ?_ ?_ ?_
    · intro j w hj
      rw [add_plain, Nat.zero_add]
      exact cell_upd (by simpa using hj)
    · intro w hw; simp at hw; rcases hw with rfl | rfl | rfl | rfl <;> rfl
    · intro p' c' h₂ hle2 _ g2
      (repeat (first | (with_reducible first | apply gA | apply gB | apply gC | apply gD | apply gE | apply gF | apply gG | apply gH | apply gI | apply gJ | apply gK | apply gL | apply gM | apply gN | apply gO | apply gP | apply gQ | apply gR) | ((with_reducible apply gT); first | exact rfl | exact True.intro | omega | assumption) | ((with_reducible apply gS2); first | assumption | rfl) | ((with_reducible first | apply gL0 | apply gL1 | apply gL2 | apply gL3 | apply gL4); assumption)))
      refine t_again (hY (pn - (i + 1)) _ _ (by omega) ⟨hle2, i + 1, p', n + 1, c', ?_, by omega, rfl, by rw [withP_take hv hx]; exact g2⟩)
      rw [wrap_id (by omega) (by omega)]; rfl
  · (repeat (first | (with_reducible first | apply gA | apply gB | apply gC | apply gD | apply gE | apply gF | apply gG | apply gH | apply gI | apply gJ | apply gK | apply gL | apply gM | apply gN | apply gO | apply gP | apply gQ | apply gR) | ((with_reducible apply gT); first | exact rfl | exact True.intro | omega | assumption) | ((with_reducible apply gS2); first | assumption | rfl) | ((with_reducible first | apply gL0 | apply gL1 | apply gL2 | apply gL3 | apply gL4); assumption)))
    have hpi : pl.take i = pl := List.take_of_length_le (by omega)
    rw [hpi] at g
    have hlen : (pl.filterMap fun n => u.papers[n.toNat]?).length ≤ 8 := Nat.le_trans (List.length_filterMap_le _ _) hpl8
    have hsl := g.sl PaperEnc.len (by omega) (PaperEnc.e (Rd.of_le hle.1)) (by omega)
    have hu' : FileR h₁.get { f with p5 := p, n5 := n, c5 := c } (withP u pl) := ⟨hu.excuses.le SpanE.grow hle.1, hsl, hu.requests.le RequestE.grow hle.1⟩
    refine t_call (c53 (f := { f with p5 := p, n5 := n, c5 := c }) (u := withP u pl) (l := []) (hp.le hle.1) hu' ⟨rfl, by show 0 < _; omega, fun i g hg => by simp at hg⟩) ?_
    rintro v h₂ ⟨le2, ⟨hne, rfl⟩ | ⟨h0, d, m, rfl, hd, hm, k⟩⟩
    · (repeat (first | (with_reducible first | apply gA | apply gB | apply gC | apply gD | apply gE | apply gF | apply gG | apply gH | apply gI | apply gJ | apply gK | apply gL | apply gM | apply gN | apply gO | apply gP | apply gQ | apply gR) | ((with_reducible apply gT); first | exact rfl | exact True.intro | omega | assumption) | ((with_reducible apply gS2); first | assumption | rfl) | ((with_reducible first | apply gL0 | apply gL1 | apply gL2 | apply gL3 | apply gL4); assumption)))
      refine t_cond (fun _ => ?_) (fun e => absurd (by simpa using e) hne)
      refine t_ret ⟨LH.le_trans hle le2, ?_⟩
      have : checkF (withP u pl) ≠ 0 := by
        intro hc
        apply hne
        rw [openF, if_neg (by simp [hc])]; rfl
      unfold enoughB
      rw [decide_eq_false this]; rfl
    · (repeat (first | (with_reducible first | apply gA | apply gB | apply gC | apply gD | apply gE | apply gF | apply gG | apply gH | apply gI | apply gJ | apply gK | apply gL | apply gM | apply gN | apply gO | apply gP | apply gQ | apply gR) | ((with_reducible apply gT); first | exact rfl | exact True.intro | omega | assumption) | ((with_reducible apply gS2); first | assumption | rfl) | ((with_reducible first | apply gL0 | apply gL1 | apply gL2 | apply gL3 | apply gL4); assumption)))
      refine t_cond (fun e => by cases e) (fun _ => ?_)
      have hck := (open_num h0).2
      refine t_de (c63 k hck land day) ?_
      rintro _ h₃ mv k3 ⟨p3, n3, c3, rfl, g3⟩
      (repeat (first | (with_reducible first | apply gA | apply gB | apply gC | apply gD | apply gE | apply gF | apply gG | apply gH | apply gI | apply gJ | apply gK | apply gL | apply gM | apply gN | apply gO | apply gP | apply gQ | apply gR) | ((with_reducible apply gT); first | exact rfl | exact True.intro | omega | assumption) | ((with_reducible apply gS2); first | assumption | rfl) | ((with_reducible first | apply gL0 | apply gL1 | apply gL2 | apply gL3 | apply gL4); assumption)))
      have hitn := (num_ok (open_num h0).1).1
      have hitn' : (withP u pl).items = u.items := rfl
      rw [hitn'] at hitn
      have hll : (leftAll (withP u pl) land day).length = u.items.toNat := by unfold leftAll; rw [List.length_map, List.length_range, hitn']
      have hs3 := g3.sl IntEnc.len (by omega) IntEnc.e (by omega)
      have hle3 := Mv.le_of (LH.le_trans hle le2) (by
        cases hx : h.get m with
        | none => rfl
        | some y => rw [hle.1 _ _ hx] at hm; cases hm) mv
      have hal3 := hal.le IntE.grow hle3.1
      have hn3 := hs3.1
      have han := hal3.1
      refine t_loop (fun mm vs h' => h₃ = h' ∧ ∃ j : Nat, vs = [.bool false, .int .i64 j] ∧ j ≤ n3 ∧ mm = n3 - j ∧ coversB all (leftAll (withP u pl) land day) = coversB (all.drop j) ((leftAll (withP u pl) land day).drop j)) ⟨rfl, 0, rfl, Nat.zero_le _, rfl, rfl⟩ ?_
      rintro Y2 mm vs _ hY2 ⟨rfl, j, rfl, hj, rfl, hc⟩
      (repeat (first | (with_reducible first | apply gA | apply gB | apply gC | apply gD | apply gE | apply gF | apply gG | apply gH | apply gI | apply gJ | apply gK | apply gL | apply gM | apply gN | apply gO | apply gP | apply gQ | apply gR) | ((with_reducible apply gT); first | exact rfl | exact True.intro | omega | assumption) | ((with_reducible apply gS2); first | assumption | rfl) | ((with_reducible first | apply gL0 | apply gL1 | apply gL2 | apply gL3 | apply gL4); assumption)))
      have hfin : ∀ b, coversB all (leftAll (withP u pl) land day) = b → Value.bool b = .bool (enoughB u land day pl all) := by
        intro b hb
        unfold enoughB
        rw [decide_eq_true hck, hb]; rfl
      refine t_if (fun e6 => ?_) (fun e6 => ?_)
      · obtain ⟨y, a1, hy, ha1, e7⟩ := hs3.at (i := j) (by omega)
        obtain ⟨z, a2, hz, ha2, e8⟩ := hal3.at (i := j) (by omega)
        unfold IntE at e7 e8
        rw [drop_of hy, drop_of hz, coversB] at hc
        (repeat (first | (with_reducible first | apply gA | apply gB | apply gC | apply gD | apply gE | apply gF | apply gG | apply gH | apply gI | apply gJ | apply gK | apply gL | apply gM | apply gN | apply gO | apply gP | apply gQ | apply gR) | ((with_reducible apply gT); first | exact rfl | exact True.intro | omega | assumption) | ((with_reducible apply gS2); first | assumption | rfl) | ((with_reducible first | apply gL0 | apply gL1 | apply gL2 | apply gL3 | apply gL4); assumption)))
        have next : (!decide (z = 1) || decide (y = 1)) = true → Y2 [.bool false, .int .i64 (IntKind.wrap .i64 ((j : Int) + 1))] h₃ := by
          intro hh
          rw [hh, Bool.true_and] at hc
          refine hY2 (n3 - (j + 1)) _ _ (by omega) ⟨rfl, j + 1, ?_, by omega, rfl, hc⟩
          rw [wrap_id (by omega) (by omega)]; rfl
        refine t_cond (fun b1 => ?_) (fun b1 => ?_)
        · have b1' : z = 1 := by simpa using b1
          refine t_cond (fun b2 => ?_) (fun b2 => ?_)
          · have b2' : y ≠ 1 := by simpa using b2
            (repeat (first | (with_reducible first | apply gA | apply gB | apply gC | apply gD | apply gE | apply gF | apply gG | apply gH | apply gI | apply gJ | apply gK | apply gL | apply gM | apply gN | apply gO | apply gP | apply gQ | apply gR) | ((with_reducible apply gT); first | exact rfl | exact True.intro | omega | assumption) | ((with_reducible apply gS2); first | assumption | rfl) | ((with_reducible first | apply gL0 | apply gL1 | apply gL2 | apply gL3 | apply gL4); assumption)))
            refine t_ret ⟨hle3, hfin false ?_⟩
            rw [hc]; simp [b1', b2']
          · have b2' : y = 1 := by simpa using b2
            exact t_again (next (by simp [b2']))
        · have b1' : z ≠ 1 := by simpa using b1
          exact t_again (next (by simp [b1']))
      · (repeat (first | (with_reducible first | apply gA | apply gB | apply gC | apply gD | apply gE | apply gF | apply gG | apply gH | apply gI | apply gJ | apply gK | apply gL | apply gM | apply gN | apply gO | apply gP | apply gQ | apply gR) | ((with_reducible apply gT); first | exact rfl | exact True.intro | omega | assumption) | ((with_reducible apply gS2); first | assumption | rfl) | ((with_reducible first | apply gL0 | apply gL1 | apply gL2 | apply gL3 | apply gL4); assumption)))
        refine t_ret ⟨hle3, hfin true ?_⟩
        rw [hc, List.drop_eq_nil_of_le (show (leftAll (withP u pl) land day).length ≤ j by omega)]
        cases all.drop j <;> rfl
theorem c69 {h : LH} {f : FileC} {u : UseFile} (hu5 : f.n5 = u.papers.length) (hub : (u.papers.length : Int) < 4611686018427387904) {z : Addr} {p : Option Addr} {n c : Nat} {l : List Int} (hz : h.get.cell? z = some (.slice p n c)) (hl : Sl IntE 1 h.get p n l) : Gr Tryd.prog 69 #[fileV f u, .pointer (some z)] h fun r _ => r = .int .i64 (risesF l u.papers.length) := by
  refine w69 _ _ _ _ _ _ _ _ _ _ _ _ _ _ X0_ok ?_
  unfold n69
  refine gL1 hz ?_
  rw [hu5]
  refine t_gr (c70 hl (by unfold IsI; omega)) ?_
  rintro _ h' hle rfl
  (repeat (first | (with_reducible first | apply gA | apply gB | apply gC | apply gD | apply gE | apply gF | apply gG | apply gH | apply gI | apply gJ | apply gK | apply gL | apply gM | apply gN | apply gO | apply gP | apply gQ | apply gR) | ((with_reducible apply gT); first | exact rfl | exact True.intro | omega | assumption) | ((with_reducible apply gS2); first | assumption | rfl) | ((with_reducible first | apply gL0 | apply gL1 | apply gL2 | apply gL3 | apply gL4); assumption)))
  exact t_ret ⟨hle, rfl⟩
theorem rises_in {l : List Int} {b : Int} (h : risesF l b = 0) : ∀ v ∈ l, 0 ≤ v ∧ v < b := by
  intro v hv
  obtain ⟨i, hi, rfl⟩ := List.getElem_of_mem hv
  have := rises_len h i hi
  omega
def enoughQ (u : UseFile) (land day : Int) (papers : List Int) : List Int := [landQ u land, dayQ day, risesF papers u.papers.length]
def enoughR (u : UseFile) (land day : Int) (papers : List Int) : Value :=
  if openF u (enoughQ u land day papers) ≠ 0 then .tuple #[.bool false, .int .i64 (openF u (enoughQ u land day papers))] else .tuple #[.bool (enoughB u land day papers (leftAll u land day)), .int .i64 0]
theorem c31 {h : LH} {f : FileC} {u : UseFile} (hp : Parts h.get) (hu : FileR h.get f u) (land day : Int) {pp : Option Addr} {pn pc : Nat} {pl : List Int} (hpl : Sl IntE 1 h.get pp pn pl) : Gr Tryd.prog 31 #[fileV f u, .int .i64 land, .int .i64 day, .slice pp pn pc] h fun r _ => r = enoughR u land day pl := by
  refine w31 _ _ _ _ _ _ _ _ _ _ _ _ _ _ _ _ _ _ X0_ok ?_
  unfold n31
  refine t_new fun r hr => ?_
  have le0 : h.le _ := LH.upd_le (x := (true, .cells #[.slice pp pn pc] 50 (0, 0))) hr
  have z0 : Cells.cell? (h.get.upd r (true, .cells #[.slice pp pn pc] 50 (0, 0))) ⟨r, 0, none⟩ = some (.slice pp pn pc) := cell_upd rfl
  refine t_gr (c58 u land) ?_
  rintro v0 h₁ le1 ⟨q0, a0⟩
  (repeat (first | (with_reducible first | apply gA | apply gB | apply gC | apply gD | apply gE | apply gF | apply gG | apply gH | apply gI | apply gJ | apply gK | apply gL | apply gM | apply gN | apply gO | apply gP | apply gQ | apply gR) | ((with_reducible apply gT); first | exact rfl | exact True.intro | omega | assumption) | ((with_reducible apply gS2); first | assumption | rfl) | ((with_reducible first | apply gL0 | apply gL1 | apply gL2 | apply gL3 | apply gL4); assumption)))
  refine t_gr (c54 u day) ?_
  rintro v1 h₂ le2 ⟨q1, a1⟩
  (repeat (first | (with_reducible first | apply gA | apply gB | apply gC | apply gD | apply gE | apply gF | apply gG | apply gH | apply gI | apply gJ | apply gK | apply gL | apply gM | apply gN | apply gO | apply gP | apply gQ | apply gR) | ((with_reducible apply gT); first | exact rfl | exact True.intro | omega | assumption) | ((with_reducible apply gS2); first | assumption | rfl) | ((with_reducible first | apply gL0 | apply gL1 | apply gL2 | apply gL3 | apply gL4); assumption)))
  have le02 := LH.le_trans (LH.le_trans le0 le1) le2
  have hub := hu.papers.2.1
  have z2 := Cells.cell?_le (LH.le_trans le1 le2).1 z0
  have a2 : Asks (.func (.func 69) #[] #[.pointer (some ⟨r, 0, none⟩)]) h₂ u (risesF pl u.papers.length) := by
    intro _ f' h' hle hu'
    exact cv_fw X0_ok (by rfl) (c69 hu'.papers.1 (by omega) (Cells.cell?_le hle.1 z2) (hpl.le IntE.grow (LH.le_trans le02 hle).1))
  refine asks3 q0 (a0.le le2) q1 a1 ⟨_, _, _, rfl⟩ a2 fun r' h₄ le4 hs => ?_
  (repeat (first | (with_reducible first | apply gA | apply gB | apply gC | apply gD | apply gE | apply gF | apply gG | apply gH | apply gI | apply gJ | apply gK | apply gL | apply gM | apply gN | apply gO | apply gP | apply gQ | apply gR) | ((with_reducible apply gT); first | exact rfl | exact True.intro | omega | assumption) | ((with_reducible apply gS2); first | assumption | rfl) | ((with_reducible first | apply gL0 | apply gL1 | apply gL2 | apply gL3 | apply gL4); assumption)))
  have le14 := LH.le_trans le02 le4
  refine t_call (c53 (f := f) (hp.le le14.1) (hu.le le14.1) hs) ?_
  rintro v h₅ ⟨le5, ⟨hne, rfl⟩ | ⟨h0, d, m, rfl, hd, hm, k⟩⟩
  · (repeat (first | (with_reducible first | apply gA | apply gB | apply gC | apply gD | apply gE | apply gF | apply gG | apply gH | apply gI | apply gJ | apply gK | apply gL | apply gM | apply gN | apply gO | apply gP | apply gQ | apply gR) | ((with_reducible apply gT); first | exact rfl | exact True.intro | omega | assumption) | ((with_reducible apply gS2); first | assumption | rfl) | ((with_reducible first | apply gL0 | apply gL1 | apply gL2 | apply gL3 | apply gL4); assumption)))
    refine t_cond (fun _ => ?_) (fun e => absurd (by simpa using e) hne)
    refine t_ret ⟨LH.le_trans le14 le5, ?_⟩
    show _ = enoughR u land day pl
    rw [enoughR, if_pos (show openF u (enoughQ u land day pl) ≠ 0 from hne)]; rfl
  · (repeat (first | (with_reducible first | apply gA | apply gB | apply gC | apply gD | apply gE | apply gF | apply gG | apply gH | apply gI | apply gJ | apply gK | apply gL | apply gM | apply gN | apply gO | apply gP | apply gQ | apply gR) | ((with_reducible apply gT); first | exact rfl | exact True.intro | omega | assumption) | ((with_reducible apply gS2); first | assumption | rfl) | ((with_reducible first | apply gL0 | apply gL1 | apply gL2 | apply gL3 | apply gL4); assumption)))
    refine t_cond (fun e => by cases e) (fun _ => ?_)
    have le25 := LH.le_trans le4 le5
    have z5 := Cells.cell?_le le25.1 z2
    refine gL1 z5 ?_
    have hck := (open_num h0).2
    refine t_de (c63 k hck land day) ?_
    rintro _ h₆ mv k6 ⟨p, n, c, rfl, g⟩
    (repeat (first | (with_reducible first | apply gA | apply gB | apply gC | apply gD | apply gE | apply gF | apply gG | apply gH | apply gI | apply gJ | apply gK | apply gL | apply gM | apply gN | apply gO | apply gP | apply gQ | apply gR) | ((with_reducible apply gT); first | exact rfl | exact True.intro | omega | assumption) | ((with_reducible apply gS2); first | assumption | rfl) | ((with_reducible first | apply gL0 | apply gL1 | apply gL2 | apply gL3 | apply gL4); assumption)))
    have z6 := mv.rd k.isMap _ _ z5
    refine gL1 z6 ?_
    (repeat (first | (with_reducible first | apply gA | apply gB | apply gC | apply gD | apply gE | apply gF | apply gG | apply gH | apply gI | apply gJ | apply gK | apply gL | apply gM | apply gN | apply gO | apply gP | apply gQ | apply gR) | ((with_reducible apply gT); first | exact rfl | exact True.intro | omega | assumption) | ((with_reducible apply gS2); first | assumption | rfl) | ((with_reducible first | apply gL0 | apply gL1 | apply gL2 | apply gL3 | apply gL4); assumption)))
    have hm0 : h.get m = none := by
      cases hx : h.get m with
      | none => rfl
      | some x => rw [le14.1 _ _ hx] at hm; cases hm
    have le6 := Mv.le_of (LH.le_trans le14 le5) hm0 mv
    have hrise : risesF pl u.papers.length = 0 := open_zero h0 _ (by simp)
    have hpap := (check_papers hck).1
    have hpl8 := rises_len' hrise (by omega)
    have hitn := (num_ok (open_num h0).1).1
    have hll : (leftAll u land day).length = u.items.toNat := by unfold leftAll; rw [List.length_map, List.length_range]
    refine t_gr (c71 (hp.le le6.1) (hu.le le6.1) land day (hpl.le IntE.grow le6.1) (rises_in hrise) (by omega) (g.sl IntEnc.len (by omega) IntEnc.e (by omega)) hll) ?_
    rintro _ h₇ le7 rfl
    (repeat (first | (with_reducible first | apply gA | apply gB | apply gC | apply gD | apply gE | apply gF | apply gG | apply gH | apply gI | apply gJ | apply gK | apply gL | apply gM | apply gN | apply gO | apply gP | apply gQ | apply gR) | ((with_reducible apply gT); first | exact rfl | exact True.intro | omega | assumption) | ((with_reducible apply gS2); first | assumption | rfl) | ((with_reducible first | apply gL0 | apply gL1 | apply gL2 | apply gL3 | apply gL4); assumption)))
    refine t_ret ⟨LH.le_trans le6 le7, ?_⟩
    show _ = enoughR u land day pl
    rw [enoughR, if_neg (by unfold enoughQ; simpa using h0)]
def cmpI (x y : Int) : Int := if x < y then -1 else if x > y then 1 else 0
def cmpL : List Int → List Int → Int
  | [], [] => 0
  | [], _ :: _ => -1
  | _ :: _, [] => 1
  | x :: xs, y :: ys => if cmpI x y ≠ 0 then cmpI x y else cmpL xs ys
def fewerF (a b : List Int) : Int := if a.length ≠ b.length then (a.length : Int) - b.length else cmpL a b
theorem c109 {h : LH} (x : Int) : Pu Tryd.prog 109 #[.int .i64 x] h (.bool false) := by
  refine w109 _ X0_ok ?_
  unfold n109
  refine t_ret ⟨?_, rfl⟩
  simp
theorem c105 {h : LH} (x y : Int) : Pu Tryd.prog 105 #[.int .i64 x, .int .i64 y] h (.int .i64 (cmpI x y)) := by
  refine w105 _ _ X0_ok ?_
  unfold n105
  refine t_pu (c109 _) ?_
  (repeat (first | (with_reducible first | apply gA | apply gB | apply gC | apply gD | apply gE | apply gF | apply gG | apply gH | apply gI | apply gJ | apply gK | apply gL | apply gM | apply gN | apply gO | apply gP | apply gQ | apply gR) | ((with_reducible apply gT); first | exact rfl | exact True.intro | omega | assumption) | ((with_reducible apply gS2); first | assumption | rfl) | ((with_reducible first | apply gL0 | apply gL1 | apply gL2 | apply gL3 | apply gL4); assumption)))
  refine t_pu (c109 _) ?_
  (repeat (first | (with_reducible first | apply gA | apply gB | apply gC | apply gD | apply gE | apply gF | apply gG | apply gH | apply gI | apply gJ | apply gK | apply gL | apply gM | apply gN | apply gO | apply gP | apply gQ | apply gR) | ((with_reducible apply gT); first | exact rfl | exact True.intro | omega | assumption) | ((with_reducible apply gS2); first | assumption | rfl) | ((with_reducible first | apply gL0 | apply gL1 | apply gL2 | apply gL3 | apply gL4); assumption)))
  refine t_cond (fun e => by cases e) (fun _ => ?_)
  refine t_cond (fun e => by cases e) (fun _ => ?_)
  refine t_if (fun e => ?_) (fun e => ?_)
  · refine t_ret ⟨?_, rfl⟩; rw [cmpI, if_pos e]
  · refine t_if (fun e' => ?_) (fun e' => ?_) <;> refine t_ret ⟨?_, rfl⟩ <;> simp [cmpI, e, e']
theorem c97 {h : LH} {p q : Option Addr} {n c m d : Nat} {a b : List Int} (ha : Sl IntE 1 h.get p n a) (hb : Sl IntE 1 h.get q m b) : Pu Tryd.prog 97 #[.slice p n c, .slice q m d] h (.int .i64 (cmpL a b)) := by
  refine w97 _ _ _ _ _ _ X0_ok ?_
  unfold n97
  have hn := ha.1
  have hm := hb.1
  have hbn := ha.2.1
  have hbm := hb.2.1
  refine t_loop (fun mm vs h' => h = h' ∧ ∃ i : Nat, vs = [.int .i64 0, .int .i64 i] ∧ i ≤ n ∧ i ≤ m ∧ mm = n - i ∧ cmpL a b = cmpL (a.drop i) (b.drop i)) ⟨rfl, 0, rfl, Nat.zero_le _, Nat.zero_le _, rfl, rfl⟩ ?_
  rintro Y mm vs _ hY ⟨rfl, i, rfl, hi, hi', rfl, hc⟩
  (repeat (first | (with_reducible first | apply gA | apply gB | apply gC | apply gD | apply gE | apply gF | apply gG | apply gH | apply gI | apply gJ | apply gK | apply gL | apply gM | apply gN | apply gO | apply gP | apply gQ | apply gR) | ((with_reducible apply gT); first | exact rfl | exact True.intro | omega | assumption) | ((with_reducible apply gS2); first | assumption | rfl) | ((with_reducible first | apply gL0 | apply gL1 | apply gL2 | apply gL3 | apply gL4); assumption)))
  refine t_if (fun e1 => ?_) (fun e1 => ?_)
  · obtain ⟨x, a1, hx, ha1, e2⟩ := ha.at (i := i) (by omega)
    unfold IntE at e2
    rw [drop_of hx] at hc
    (repeat (first | (with_reducible first | apply gA | apply gB | apply gC | apply gD | apply gE | apply gF | apply gG | apply gH | apply gI | apply gJ | apply gK | apply gL | apply gM | apply gN | apply gO | apply gP | apply gQ | apply gR) | ((with_reducible apply gT); first | exact rfl | exact True.intro | omega | assumption) | ((with_reducible apply gS2); first | assumption | rfl) | ((with_reducible first | apply gL0 | apply gL1 | apply gL2 | apply gL3 | apply gL4); assumption)))
    refine t_if (fun e3 => ?_) (fun e3 => ?_)
    · (repeat (first | (with_reducible first | apply gA | apply gB | apply gC | apply gD | apply gE | apply gF | apply gG | apply gH | apply gI | apply gJ | apply gK | apply gL | apply gM | apply gN | apply gO | apply gP | apply gQ | apply gR) | ((with_reducible apply gT); first | exact rfl | exact True.intro | omega | assumption) | ((with_reducible apply gS2); first | assumption | rfl) | ((with_reducible first | apply gL0 | apply gL1 | apply gL2 | apply gL3 | apply gL4); assumption)))
      rw [List.drop_eq_nil_of_le (show b.length ≤ i by omega), cmpL] at hc
      exact t_ret ⟨by rw [hc], rfl⟩
    · obtain ⟨y, b1, hy, hb1, e4⟩ := hb.at (i := i) (by omega)
      unfold IntE at e4
      rw [drop_of hy, cmpL] at hc
      (repeat (first | (with_reducible first | apply gA | apply gB | apply gC | apply gD | apply gE | apply gF | apply gG | apply gH | apply gI | apply gJ | apply gK | apply gL | apply gM | apply gN | apply gO | apply gP | apply gQ | apply gR) | ((with_reducible apply gT); first | exact rfl | exact True.intro | omega | assumption) | ((with_reducible apply gS2); first | assumption | rfl) | ((with_reducible first | apply gL0 | apply gL1 | apply gL2 | apply gL3 | apply gL4); assumption)))
      refine t_pu (c105 _ _) ?_
      (repeat (first | (with_reducible first | apply gA | apply gB | apply gC | apply gD | apply gE | apply gF | apply gG | apply gH | apply gI | apply gJ | apply gK | apply gL | apply gM | apply gN | apply gO | apply gP | apply gQ | apply gR) | ((with_reducible apply gT); first | exact rfl | exact True.intro | omega | assumption) | ((with_reducible apply gS2); first | assumption | rfl) | ((with_reducible first | apply gL0 | apply gL1 | apply gL2 | apply gL3 | apply gL4); assumption)))
      refine t_cond (fun e5 => ?_) (fun e5 => ?_)
      · (repeat (first | (with_reducible first | apply gA | apply gB | apply gC | apply gD | apply gE | apply gF | apply gG | apply gH | apply gI | apply gJ | apply gK | apply gL | apply gM | apply gN | apply gO | apply gP | apply gQ | apply gR) | ((with_reducible apply gT); first | exact rfl | exact True.intro | omega | assumption) | ((with_reducible apply gS2); first | assumption | rfl) | ((with_reducible first | apply gL0 | apply gL1 | apply gL2 | apply gL3 | apply gL4); assumption)))
        rw [if_pos (by simpa using e5)] at hc
        exact t_ret ⟨by rw [hc], rfl⟩
      · rw [if_neg (by simpa using e5)] at hc
        refine t_again (hY (n - (i + 1)) _ _ (by omega) ⟨rfl, i + 1, ?_, by omega, by omega, rfl, hc⟩)
        rw [wrap_id (by omega) (by omega)]; rfl
  · (repeat (first | (with_reducible first | apply gA | apply gB | apply gC | apply gD | apply gE | apply gF | apply gG | apply gH | apply gI | apply gJ | apply gK | apply gL | apply gM | apply gN | apply gO | apply gP | apply gQ | apply gR) | ((with_reducible apply gT); first | exact rfl | exact True.intro | omega | assumption) | ((with_reducible apply gS2); first | assumption | rfl) | ((with_reducible first | apply gL0 | apply gL1 | apply gL2 | apply gL3 | apply gL4); assumption)))
    rw [List.drop_eq_nil_of_le (show a.length ≤ i by omega)] at hc
    refine t_if (fun e3 => ?_) (fun e3 => ?_)
    · obtain ⟨y, hy⟩ : ∃ y, b[i]? = some y := ⟨b[i]'(by omega), List.getElem?_eq_getElem (by omega)⟩
      rw [drop_of hy, cmpL] at hc
      exact t_ret ⟨by rw [hc], rfl⟩
    · rw [List.drop_eq_nil_of_le (show b.length ≤ i by omega), cmpL] at hc
      exact t_ret ⟨by rw [hc], rfl⟩
theorem c75 {h : LH} {p q : Option Addr} {n c m d : Nat} {a b : List Int} (ha : Sl IntE 1 h.get p n a) (hb : Sl IntE 1 h.get q m b) : Pu Tryd.prog 75 #[.slice p n c, .slice q m d] h (.int .i64 (fewerF a b)) := by
  refine w75 _ _ _ _ _ _ X0_ok ?_
  unfold n75
  have hn := ha.1
  have hm := hb.1
  have hbn := ha.2.1
  have hbm := hb.2.1
  refine t_cond (fun e => ?_) (fun e => ?_)
  · have e' : a.length ≠ b.length := by simp at e; omega
    rw [wrap_id (by omega) (by omega)]
    refine t_ret ⟨?_, rfl⟩
    rw [fewerF, if_pos e', hn, hm]
  · have e' : ¬ a.length ≠ b.length := by simp at e; omega
    refine t_pu (c97 ha hb) ?_
    (repeat (first | (with_reducible first | apply gA | apply gB | apply gC | apply gD | apply gE | apply gF | apply gG | apply gH | apply gI | apply gJ | apply gK | apply gL | apply gM | apply gN | apply gO | apply gP | apply gQ | apply gR) | ((with_reducible apply gT); first | exact rfl | exact True.intro | omega | assumption) | ((with_reducible apply gS2); first | assumption | rfl) | ((with_reducible first | apply gL0 | apply gL1 | apply gL2 | apply gL3 | apply gL4); assumption)))
    refine t_ret ⟨?_, rfl⟩
    rw [fewerF, if_neg e']
end Go.Proofs.YtibibhojkfapnaaDoor
end
section
namespace Go.TM
open Go Go.Conc
variable {P : Program}
theorem spawn_wk {f : FuncId} {first args cap hargs : Array Value} {hc : Cells} {s : Script} (hne : s ≠ []) (ha : (first ++ args) ++ cap = hargs) (c : FWK XW P .deferred f hargs ⟨hc, [], [], s⟩ fun _ _ => False) :
    Wk P (G (baseOf P [deferOf (.func (.func f) first cap) args]) []) ⟨hc, [], [], s⟩ := by
  obtain ⟨⟨fn, hf, hb, hname⟩, hrun⟩ := c
  have hgo := hrun false _ (wk_closed P) [baseOf P []] (.inr ⟨rfl, rfl⟩) (fun _ _ _ _ _ _ _ hq => hq.elim) hne
  have hbn : fn.body.isNone = false := by cases h : fn.body <;> simp_all
  refine .step (N := fun g h => g = G (Frame.enter P f hargs .deferred) [baseOf P []] ∧ h = ⟨hc, [], [], s⟩) hne ?_ ?_
  · intro w hfit
    refine ⟨_, w, #[], hc, ?_, Tr.refl hfit, by simp, rfl, rfl⟩
    have hcall : (callFunc f hargs).runT P w #[] = (.ok (.enter f hargs) w, #[]) := by
      show ((program).bind _).runT P w #[] = _
      simp only [program, Sem.bind, Sem.runT, hf, hname, hbn, Bool.false_eq_true, if_false]
      rfl
    have h1 : (callFunc f hargs).run P w = .ok (.enter f hargs) w := by rw [← Sem.runT_fst _ _ _ #[], hcall]
    have h2 : (callFunc f hargs).events P w #[] = #[] := by show ((callFunc f hargs).runT P w #[]).2 = _; rw [hcall]
    have hinv : invoke (deferOf (.func (.func f) first cap) args).target (deferOf (.func (.func f) first cap) args).args = callFunc f hargs := by rw [← ha]; rfl
    have hnil : ((deferOf (.func (.func f) first cap) args).target matches .nil) = false := rfl
    have hcd : ∀ fr cs, callDeferred P fr cs none (deferOf (.func (.func f) first cap) args) w = .go (G (Frame.enter P f hargs .deferred) (fr :: cs)) w (seen P fr.fn #[]) := by
      intro fr cs
      unfold callDeferred
      simp only [hinv, hnil, Bool.false_and, Bool.false_eq_true, if_false, hcall]
      rfl
    show unwind P false (baseOf P [deferOf (.func (.func f) first cap) args]) [] none w = _
    unfold unwind
    simp only [baseOf, deferOf]
    exact hcd _ _
  · rintro _ _ ⟨rfl, rfl⟩; exact hgo
theorem spawnW {f : FuncId} {first args cap hargs : Array Value} {h : LH} {Q : LH → Prop} (F : Nat → Bool) (hc : Cells) (s : Script) (hne : s ≠ []) (ha : (first ++ args) ++ cap = hargs) (hhc : ∀ r x, hc r = some x → x.1 = false ∧ freezeC F h.get r = some x)
    (hch : ∀ y ∈ s, y.1 ∈ h.chans) (c : FWK XW P .deferred f hargs ⟨hc, [], [], s⟩ fun _ _ => False) (hQ : Q { h with get := freezeC F h.get, pend := h.pend ++ [s] }) : SpawnW XT P (.func (.func f) first cap) args h Q := by
  intro main R hR fr cs _ _ hst k d hk
  obtain ⟨rfl, _, h2, _, _⟩ := hR.2
  refine h2 fr cs (h.add k) (fun r => F r && (h.get r).isSome) hc _ s ⟨hst⟩ ?_ hne hch (spawn_wk hne ha c) ?_
  · intro r x hx
    obtain ⟨a, b⟩ := hhc r x hx
    refine ⟨a, ?_⟩
    show freezeC _ (h.get.add k) r = _
    rw [freezeC_add]; exact Cells.add_left b
  · have e : freezeC (fun r => F r && (h.get r).isSome) (h.add k).get = (freezeC F h.get).add k := freezeC_add F h.get k
    rw [e]
    refine hk { h with get := freezeC F h.get, pend := h.pend ++ [s] } ?_ hQ
    intro r
    rcases d r with hr | hr
    · left; simp only [freezeC, hr]
    · exact .inr hr
theorem drop_add {a k : Cells} {c : Nat} (hk : k c = none) : dropC (a.add k) c = (dropC a c).add k := by
  funext r
  unfold dropC Cells.add
  by_cases e : r = c
  · subst e; simp [hk]
  · simp [e]
theorem upd_add {a k : Cells} {c : Nat} {x : Bool × Obj} : (a.add k).upd c x = (a.upd c x).add k := by
  funext r
  unfold Cells.upd Cells.add
  by_cases e : r = c <;> simp [e]
theorem Disj.drop {a k : Cells} (d : Disj a k) (c : Nat) : Disj (dropC a c) k := by
  intro r
  rcases d r with hr | hr
  · left; unfold dropC; split
    · rfl
    · exact hr
  · exact .inr hr
theorem SpawnW.opened {v : Value} {args : Array Value} {h : LH} {Q : LH → Prop} (c s : Nat) (hs : h.get c = some (true, .chan 0 #[] false s s false)) (hS : SpawnW XT P v args { h with get := dropC h.get c, chans := c :: h.chans } Q) : SpawnW XT P v args h Q := by
  intro main R hR fr cs hat hstk hst k d hk
  have hkc : k c = none := by
    rcases d c with h' | h'
    · rw [hs] at h'; cases h'
    · exact h'
  refine hR.2.2.2.2.1 _ (h.add k) c s (Cells.add_left hs) ?_
  have := hS main R hR fr cs hat hstk hst k (d.drop c) hk
  unfold LH.add at this ⊢
  simp only [drop_add hkc]
  exact this
theorem commW_recv {last : Bool} {cases : Array CommCase} {shape : CommShape} {h : LH} {Q : Value → LH → Prop} (recv : ∀ (k : Nat) (cc : CommCase), cases[k]? = some cc → ∃ c z, cc = rcase c z ∧ c ∈ h.chans) (some_ : h.pend ≠ [])
    (heads : ∀ s ∈ h.pend, ∃ (c : Nat) (φ : Value → Cells → Prop) (s' : Script) (k : Nat) (z : Value), s = (c, φ) :: s' ∧ cases[k]? = some (rcase c z))
    (hQ : ∀ pre φ s post (k : Nat) c v hv z, h.pend = pre ++ ((c, φ) :: s) :: post → cases[k]? = some (rcase c z) → Disj h.get hv → (∀ r x, hv r = some x → x.1 = true) → φ v hv →
      Q (commResult cases shape (k : Nat) v true) { h with get := h.get.add hv, pend := pre ++ cons' s post }) : CommW XT P last cases shape h Q := by
  intro main R hR fr cs _ _ _ hst k d hk
  obtain ⟨rfl, h1, _, _, _⟩ := hR.2
  refine h1 fr cs cases shape (h.add k) ⟨hst, recv, some_, heads⟩ ?_
  intro pre φ s post j c v hv z hp hcase hd hown hφ
  have d1 : Disj h.get hv := hd.of_add_left
  have d2 : Disj k hv := Disj.of_add_right d hd
  have e : ((h.get.add hv).add k) = ((h.get.add k).add hv) := Cells.add_swap d2.symm
  have := hk _ { h with get := h.get.add hv, pend := pre ++ cons' s post } (Disj.add d d2.symm) (hQ pre φ s post j c v hv z hp hcase d1 hown hφ)
  unfold LH.add at this
  simp only [e] at this
  exact this
theorem CommW.closed {last : Bool} {cases : Array CommCase} {shape : CommShape} {h : LH} {Q : Value → LH → Prop}
    (hC : CommW XT P last cases shape h fun v h' => Q v h' ∨ ∃ c ∈ h'.chans, h'.pend = [] ∧ ∀ s, h'.get c = none → Q v { h' with get := h'.get.upd c (true, .chan 0 #[] false s s false), chans := h'.chans.filter (· ≠ c) }) : CommW XT P last cases shape h Q := by
  intro main R hR fr cs hat hstk hl hst k d hk
  refine hC main R hR fr cs hat hstk hl hst k d ?_
  rintro v h' d' (hq | ⟨c, hc, hp, hq⟩)
  · exact hk v h' d' hq
  · refine hR.2.2.2.2.2 _ (h'.add k) c hc hp ?_
    intro hcn s
    have hhc : h'.get c = none := by
      cases hx : h'.get c with
      | none => rfl
      | some x => rw [show (h'.add k).get c = some x from Cells.add_left hx] at hcn; cases hcn
    have hkc : k c = none := by
      have := hcn
      rw [show (h'.add k).get c = k c from Cells.add_right hhc] at this; exact this
    have d2 : Disj (h'.get.upd c (true, .chan 0 #[] false s s false)) k := by
      intro r
      by_cases e : r = c
      · right; rw [e]; exact hkc
      · rw [Cells.upd_ne _ _ e]; exact d' r
    have := hk v _ d2 (hq s hhc)
    unfold LH.add at this ⊢
    simp only [upd_add]
    exact this
theorem commW_send {last : Bool} {c : Nat} {v z : Value} {φ : Value → Cells → Prop} {s : Script} {h : LH} {hv hr : Cells} {Q : Value → LH → Prop} (todo : h.todo = (c, φ) :: s) (get : h.get = hv.add hr) (disj : Disj hv hr) (own : ∀ r x, hv r = some x → x.1 = true)
    (val : φ v hv) (hl : s = [] → last = true) (hQ : s ≠ [] → Q undef { h with get := hr, todo := s }) : CommW XW P last #[scase c v z] .send h Q := by
  intro main R hR fr cs hat hstk hlast hst k d hk
  obtain ⟨rfl, h1⟩ := hR.2
  have hs : Sends P fr cs h c z v φ s hv hr := ⟨hat, hst, todo, get, disj, own, val⟩
  exact h1 fr cs (h.add k) c z v φ s hv (hr.add k) hstk (hs.frame d) (fun e => hlast (hl e)) fun hne => hk undef { h with get := hr, todo := s } (hs.rest d) (hQ hne)
end Go.TM
end
section
namespace Go.TM
open Go Go.Conc
variable {P : Program} {X : XP} {Q : Leaf → LH → Prop} {h : LH}
theorem t_spawn {v : Value} {args : Array Value} {k : T} (hs : SpawnW X P v args h fun h' => k.wp X P Q h') : (T.spawn v args k).wp X P Q h := hs
theorem t_comm {last : Bool} {cases : Array CommCase} {shape : CommShape} {k : Value → T} (hc : CommW X P last cases shape h fun v h' => (k v).wp X P Q h') : (T.comm last cases shape k).wp X P Q h := hc
theorem t_makeChan {t el : TypeId} {d : ChanDir} {s b : Nat} {z : Option Value} {K : Value → T} (hu : P.underlying t = some (.chan d el)) (hi : (P.info? el).map (fun i => (i.size, i.bytes, i.zero)) = some (s, b, z))
    (hk : ∀ r, h.get r = none → (K (.chan (some r))).wp X P Q { h with get := h.get.upd r (true, .chan 0 #[] false 0 0 false) }) : (T.sem false (Instr.makeChan t (.int .i64 0)) K).wp X P Q h := by
  obtain ⟨inf, g1, _, _, _⟩ := info_of hi
  refine t_sem (A := fun v h' => ∃ r, h.get r = none ∧ v = .chan (some r) ∧ h' = h.get.upd r (true, .chan 0 #[] false 0 0 false)) ?_ (by rintro v h' ⟨r, hr, rfl, rfl⟩; exact hk r hr)
  unfold Instr.makeChan
  have e : IntKind.i64.max = 9223372036854775807 := rfl
  simp only [asInt, asIntOf, lwp_bind, lwp_pure, lwp_underlying hu, lwp_typeInfo g1]
  rw [if_neg (by rw [e]; omega)]
  rw [lwp_bind]
  intro r hr
  exact ⟨r, hr, rfl, rfl⟩
theorem t_close {ts : Array TypeId} {ty : TypeId} {c s : Nat} {K : Value → T} (hc : h.get c = some (true, .chan 0 #[] false s s false)) (hk : (K (.tuple #[])).wp X P Q { h with get := h.get.upd c (true, .chan 0 #[] true s s false) }) : (T.sem false (Builtin.close_ ts ty #[.chan (some c)]) K).wp X P Q h := by
  refine t_sem (A := fun v h' => v = .tuple #[] ∧ h' = h.get.upd c (true, .chan 0 #[] true s s false)) ?_ (by rintro v h' ⟨rfl, rfl⟩; exact hk)
  change Sem.lwp P (getObj c >>= _) _ _ _
  rw [lwp_bind]
  exact ⟨_, _, hc, trivial, ⟨_, hc, trivial⟩, rfl, rfl⟩
theorem t_eqNil {t el : TypeId} {x y : Operand} {a : Option Addr} {n c : Nat} {K : Value → T} (hu : P.underlying t = some (.slice el)) (hk : (K (.bool a.isNone)).wp X P Q h) :
    (T.sem false (Sem.bind (eqGuard .eql t x y (.slice a n c) (.slice none 0 0)) fun _ => binOp .eql t (.slice a n c) (.slice none 0 0)) K).wp X P Q h := by
  refine t_sem (A := fun w h' => w = .bool a.isNone ∧ h' = h.get) (Sem.lwp_bind _ _ ?_) (by rintro w h' ⟨rfl, rfl⟩; exact hk)
  unfold eqGuard
  simp only [Bool.not_true, Bool.false_eq_true, if_false, lwp_pure]
  unfold binOp Op.equal
  have hmd : Op.maxDepth = 9999 + 1 := rfl
  rw [lwp_bind, hmd, Op.equalIn, lwp_bind, lwp_underlying hu]
  cases a <;> exact ⟨rfl, rfl⟩
theorem t_neNil {t el : TypeId} {x y : Operand} {a : Option Addr} {n c : Nat} {K : Value → T} (hu : P.underlying t = some (.slice el)) (hk : (K (.bool a.isSome)).wp X P Q h) :
    (T.sem false (Sem.bind (eqGuard .neq t x y (.slice a n c) (.slice none 0 0)) fun _ => binOp .neq t (.slice a n c) (.slice none 0 0)) K).wp X P Q h := by
  refine t_sem (A := fun w h' => w = .bool a.isSome ∧ h' = h.get) (Sem.lwp_bind _ _ ?_) (by rintro w h' ⟨rfl, rfl⟩; exact hk)
  unfold eqGuard
  simp only [Bool.not_true, Bool.false_eq_true, if_false, lwp_pure]
  unfold binOp Op.equal
  have hmd : Op.maxDepth = 9999 + 1 := rfl
  rw [lwp_bind, hmd, Op.equalIn, lwp_bind, lwp_underlying hu]
  cases a <;> exact ⟨rfl, rfl⟩
theorem t_build0 {K : Value → T} {t el : TypeId} {s b : Nat} {z : Option Value} (hu : P.underlying t = some (.slice el)) (hi : (P.info? el).map (fun i => (i.size, i.bytes, i.zero)) = some (s, b, z))
    (hk : ∀ r, h.get r = none → (K (.slice (some ⟨r, 0, none⟩) 0 0)).wp X P Q { h with get := h.get.upd r (true, .cells #[] el (0, 0)) }) : (T.sem false (Instr.buildSlice t 0 #[]) K).wp X P Q h := by
  obtain ⟨inf, g1, _, _, _⟩ := info_of hi
  refine t_sem (A := fun v h' => ∃ r, h.get r = none ∧ v = .slice (some ⟨r, 0, none⟩) 0 0 ∧ h' = h.get.upd r (true, .cells #[] el (0, 0))) ?_ (by rintro v h' ⟨r, hr, rfl, rfl⟩; exact hk r hr)
  unfold Instr.buildSlice
  simp only [lwp_bind, lwp_underlying hu, lwp_sizeOf g1, Nat.zero_mul, lwp_pure]
  rw [if_neg (by omega)]
  simp only [if_true, lwp_bind, lwp_pure]
  have hf : Instr.fill (fun i => some (i * inf.size, inf.size)) (Array.map (fun x => (#[] : Array Value)[x % (#[] : Array Value).size]!) (Array.range 0)) (#[] : Array (Nat × Value)).toList = some #[] := by simp [Instr.fill]
  rw [hf]
  simp only [lwp_bind]
  exact lwp_newRow fun r hr => ⟨r, hr, rfl, rfl⟩
end Go.TM
end
section
namespace Go.Proofs.YtibibhojkfapnaaDoor
open Go Go.TM Go.Proofs
attribute [local irreducible] T.wp CV FWK
def Sent (u : UseFile) (land day : Int) (i : Nat) (v : Value) (hv : Cells) : Prop :=
  if enoughB u land day (subsetL u.papers.length i) (leftAll u land day) then ∃ a n c, v = .slice (some a) n c ∧ Sl IntE 1 hv (some a) n (subsetL u.papers.length i) ∧ n ≤ c else v = .slice none 0 0
theorem subset_in {n i : Nat} : ∀ v ∈ subsetL n i, 0 ≤ v ∧ v < (n : Int) := by
  intro v hv
  unfold subsetL at hv
  obtain ⟨j, hj, rfl⟩ := List.mem_map.1 hv
  have := List.mem_range.1 (List.mem_filter.1 hj).1
  omega
theorem subset_len {n i : Nat} : (subsetL n i).length ≤ n := by
  unfold subsetL
  rw [List.length_map]
  exact Nat.le_trans (List.length_filter_le _ _) (by simp)
theorem bit_test {i j : Nat} (hi : i < 2 ^ 32) : (IntKind.wrap .i64 (((BitVec.ofInt 64 (Int.fdiv (i : Int) (2 ^ min (j : Int).toNat 64)) &&& BitVec.ofInt 64 1).toNat : Nat) : Int) == 1) = i.testBit j := by
  have hq : ∃ q : Nat, Int.fdiv (i : Int) (2 ^ min (j : Int).toNat 64) = (q : Int) ∧ q ≤ i ∧ q % 2 = (i / 2 ^ j) % 2 := by
    by_cases hj : j ≤ 64
    · have hm : min (j : Int).toNat 64 = j := by simp; omega
      refine ⟨i / 2 ^ j, ?_, Nat.div_le_self _ _, rfl⟩
      rw [hm]
      have : (2 ^ j : Int) = ((2 ^ j : Nat) : Int) := by simp
      rw [this, ← Int.ofNat_fdiv]
    · have hm : min (j : Int).toNat 64 = 64 := by simp; omega
      refine ⟨0, ?_, Nat.zero_le _, ?_⟩
      · rw [hm]
        have : (2 ^ 64 : Int) = ((2 ^ 64 : Nat) : Int) := by simp
        rw [this, ← Int.ofNat_fdiv]
        have : i / 2 ^ 64 = 0 := Nat.div_eq_of_lt (by omega)
        rw [this]
      · have : i / 2 ^ j = 0 := Nat.div_eq_of_lt (Nat.lt_of_lt_of_le hi (Nat.pow_le_pow_right (by omega) (by omega)))
        rw [this]
  obtain ⟨q, h1, h2, h3⟩ := hq
  rw [h1]
  have a1 : (BitVec.ofInt 64 (q : Int)).toNat = q := by rw [BitVec.toNat_ofInt]; omega
  have a2 : (BitVec.ofInt 64 1).toNat = 1 := rfl
  rw [BitVec.toNat_and, a1, a2, Nat.and_one_is_mod, wrap_id (by omega) (by omega), Nat.testBit_eq_decide_div_mod_eq, ← h3]
  by_cases e : q % 2 = 1
  · rw [e]; rfl
  · have : q % 2 = 0 := by omega
    rw [this]; rfl
theorem subset_take {n i j : Nat} (hj : j < n) : ((List.range n).take (j + 1)).filter (fun j => i.testBit j) = ((List.range n).take j).filter (fun j => i.testBit j) ++ (if i.testBit j then [j] else []) := by
  rw [List.take_succ_eq_append_getElem (by simpa using hj), List.filter_append]
  congr 1
  simp [List.filter_cons]
theorem c74 {hc : Cells} {c0 i : Nat} {z0 z1 z2 z3 z4 z5 : Addr} {f : FileC} {u : UseFile} {land day : Int} (hp : Parts hc) (hu : FileR hc f u) (hat : FileAt hc z0 f u) (hpap : u.papers.length ≤ 8) (hi : i < 2 ^ 32) (h1 : hc.cell? z1 = some (.int .i64 (i : Int))) (h2 : hc.cell? z2 = some (.int .i64 land)) (h3 : hc.cell? z3 = some (.int .i64 day))
    {ap : Option Addr} {an ac : Nat} (h4 : hc.cell? z4 = some (.slice ap an ac)) (hal : Sl IntE 1 hc ap an (leftAll u land day)) (h5 : hc.cell? z5 = some (.chan (some c0))) :
    FWK XW Tryd.prog .deferred 74 #[.pointer (some z0), .pointer (some z1), .pointer (some z2), .pointer (some z3), .pointer (some z4), .pointer (some z5)] ⟨hc, [], [], [(c0, Sent u land day i)]⟩ fun _ _ => False := by
  refine w74 _ _ _ _ _ _ XW_ok ?_
  unfold n74
  have hn5 := hu.papers.1
  refine t_build0 und50 inf3 fun b0 hb0 => ?_
  have le0 : LH.le ⟨hc, [], [], [(c0, Sent u land day i)]⟩ _ := LH.upd_le (x := (true, .cells #[] 3 (0, 0))) hb0
  (repeat (first | (with_reducible first | apply gA | apply gB | apply gC | apply gD | apply gE | apply gF | apply gG | apply gH | apply gI | apply gJ | apply gK | apply gL | apply gM | apply gN | apply gO | apply gP | apply gQ | apply gR) | ((with_reducible apply gT); first | exact rfl | exact True.intro | omega | assumption) | ((with_reducible apply gS2); first | assumption | rfl) | ((with_reducible first | apply gL0 | apply gL1 | apply gL2 | apply gL3 | apply gL4); assumption)))
  have g5 := Cells.cell?_le le0.1 hat.f5
  refine gL1 g5 ?_
  refine t_loop (fun mm vs h' => LH.le ⟨hc, [], [], [(c0, Sent u land day i)]⟩ h' ∧ ∃ (j : Nat) (a : Addr) (n c : Nat), vs = [.slice (some a) n c, .int .i64 j] ∧ j ≤ f.n5 ∧ mm = f.n5 - j ∧ Growing IntEnc 3 1 hc h'.get (some a) n c (((List.range u.papers.length).take j).filter (fun j => i.testBit j) |>.map fun j : Nat => (j : Int)))
    ⟨le0, 0, _, 0, 0, rfl, Nat.zero_le _, rfl, ⟨[], ⟨rfl, .inr ⟨b0, #[], rfl, Cells.upd_self _ _ _, rfl, Nat.le_refl _, fun j v hv => by simp at hv⟩⟩, .nil⟩, fun a ha => by cases ha; exact hb0⟩ ?_
  rintro Y mm vs h₁ hY ⟨hle, j, a, n, c, rfl, hj, rfl, g⟩
  (repeat (first | (with_reducible first | apply gA | apply gB | apply gC | apply gD | apply gE | apply gF | apply gG | apply gH | apply gI | apply gJ | apply gK | apply gL | apply gM | apply gN | apply gO | apply gP | apply gQ | apply gR) | ((with_reducible apply gT); first | exact rfl | exact True.intro | omega | assumption) | ((with_reducible apply gS2); first | assumption | rfl) | ((with_reducible first | apply gL0 | apply gL1 | apply gL2 | apply gL3 | apply gL4); assumption)))
  refine t_if (fun e1 => ?_) (fun e1 => ?_)
  · have k1 := Cells.cell?_le hle.1 h1
    refine gL0 k1 ?_
    (repeat (first | (with_reducible first | apply gA | apply gB | apply gC | apply gD | apply gE | apply gF | apply gG | apply gH | apply gI | apply gJ | apply gK | apply gL | apply gM | apply gN | apply gO | apply gP | apply gQ | apply gR) | ((with_reducible apply gT); first | exact rfl | exact True.intro | omega | assumption) | ((with_reducible apply gS2); first | assumption | rfl) | ((with_reducible first | apply gL0 | apply gL1 | apply gL2 | apply gL3 | apply gL4); assumption)))
    rw [bit_test hi]
    have hst := subset_take (n := u.papers.length) (i := i) (j := j) (by omega)
    refine t_cond (fun b => ?_) (fun b => ?_)
    · rw [if_pos b] at hst
      refine t_build und50 inf3 (by decide) (by decide) (cells := #[.int .i64 (j : Int)]) (by kernel_rfl) fun r hr => ?_
      have le2 : h₁.le _ := LH.upd_le (x := (true, .cells #[.int .i64 (j : Int)] 3 (0, 0))) hr
      have hng := g.count IntEnc.len (by omega)
      have hlen : (((List.range u.papers.length).take j).filter (fun j => i.testBit j)).length ≤ 8 := Nat.le_trans (List.length_filter_le _ _) (by rw [List.length_take, List.length_range]; omega)
      rw [List.length_map] at hng
      (repeat (first | (with_reducible first | apply gA | apply gB | apply gC | apply gD | apply gE | apply gF | apply gG | apply gH | apply gI | apply gJ | apply gK | apply gL | apply gM | apply gN | apply gO | apply gP | apply gQ | apply gR) | ((with_reducible apply gT); first | exact rfl | exact True.intro | omega | assumption) | ((with_reducible apply gS2); first | assumption | rfl) | ((with_reducible first | apply gL0 | apply gL1 | apply gL2 | apply gL3 | apply gL4); assumption)))
      refine t_grow (h₀ := ⟨hc, [], [], [(c0, Sent u land day i)]⟩) (x := (j : Int)) (ws := [.int .i64 (j : Int)]) rfl rfl und50 und50 inf3 rfl (by omega) (by omega) (g.le le2.1) (LH.le_trans hle le2) rfl rfl ?_ ?_ ?_
      · intro j w hj
        rw [add_plain, Nat.zero_add]
        exact cell_upd (by simpa using hj)
      · intro w hw; simp at hw; subst hw; rfl
      · intro p' c' h₂ hle2 _ g2
        (repeat (first | (with_reducible first | apply gA | apply gB | apply gC | apply gD | apply gE | apply gF | apply gG | apply gH | apply gI | apply gJ | apply gK | apply gL | apply gM | apply gN | apply gO | apply gP | apply gQ | apply gR) | ((with_reducible apply gT); first | exact rfl | exact True.intro | omega | assumption) | ((with_reducible apply gS2); first | assumption | rfl) | ((with_reducible first | apply gL0 | apply gL1 | apply gL2 | apply gL3 | apply gL4); assumption)))
        obtain ⟨a', rfl⟩ : ∃ a', p' = some a' := by
          obtain ⟨vs, ⟨_, h6⟩, _⟩ := g2.row
          rcases h6 with ⟨_, h7, _⟩ | ⟨r, cs, h7, _⟩
          · omega
          · exact ⟨_, h7⟩
        refine t_again (hY (f.n5 - (j + 1)) _ _ (by omega) ⟨hle2, j + 1, a', n + 1, c', ?_, by omega, rfl, by rw [hst, List.map_append]; exact g2⟩)
        rw [wrap_id (by omega) (by omega)]; rfl
    · rw [if_neg (by rw [b]; simp), List.append_nil] at hst
      refine t_again (hY (f.n5 - (j + 1)) _ _ (by omega) ⟨hle, j + 1, a, n, c, ?_, by omega, rfl, by rw [hst]; exact g⟩)
      rw [wrap_id (by omega) (by omega)]; rfl
  · (repeat (first | (with_reducible first | apply gA | apply gB | apply gC | apply gD | apply gE | apply gF | apply gG | apply gH | apply gI | apply gJ | apply gK | apply gL | apply gM | apply gN | apply gO | apply gP | apply gQ | apply gR) | ((with_reducible apply gT); first | exact rfl | exact True.intro | omega | assumption) | ((with_reducible apply gS2); first | assumption | rfl) | ((with_reducible first | apply gL0 | apply gL1 | apply gL2 | apply gL3 | apply gL4); assumption)))
    have htake : (((List.range u.papers.length).take j).filter (fun j => i.testBit j) |>.map fun j : Nat => (j : Int)) = subsetL u.papers.length i := by
      rw [List.take_of_length_le (by simp; omega)]; rfl
    rw [htake] at g
    obtain ⟨g0, g1, g2, g3, g4, g5, g6⟩ := hat.le hle.1
    have k2 := Cells.cell?_le hle.1 h2
    have k3 := Cells.cell?_le hle.1 h3
    have k4 := Cells.cell?_le hle.1 h4
    have k5 := Cells.cell?_le hle.1 h5
    (repeat (first | (with_reducible first | apply gA | apply gB | apply gC | apply gD | apply gE | apply gF | apply gG | apply gH | apply gI | apply gJ | apply gK | apply gL | apply gM | apply gN | apply gO | apply gP | apply gQ | apply gR) | ((with_reducible apply gT); first | exact rfl | exact True.intro | omega | assumption) | ((with_reducible apply gS2); first | assumption | rfl) | ((with_reducible first | apply gL0 | apply gL1 | apply gL2 | apply gL3 | apply gL4); assumption)))
    have hsub := subset_len (n := u.papers.length) (i := i)
    have hll : (leftAll u land day).length = u.items.toNat := by unfold leftAll; rw [List.length_map, List.length_range]
    refine t_gr (c71 (hp.le hle.1) (hu.le hle.1) land day (g.sl IntEnc.len (by omega) IntEnc.e (by omega)) subset_in (by omega) (hal.le IntE.grow hle.1) hll) ?_
    rintro _ h₂ le2 rfl
    have k5 := Cells.cell?_le le2.1 k5
    (repeat (first | (with_reducible first | apply gA | apply gB | apply gC | apply gD | apply gE | apply gF | apply gG | apply gH | apply gI | apply gJ | apply gK | apply gL | apply gM | apply gN | apply gO | apply gP | apply gQ | apply gR) | ((with_reducible apply gT); first | exact rfl | exact True.intro | omega | assumption) | ((with_reducible apply gS2); first | assumption | rfl) | ((with_reducible first | apply gL0 | apply gL1 | apply gL2 | apply gL3 | apply gL4); assumption)))
    have hle2 := LH.le_trans hle le2
    refine t_cond (fun b => ?_) (fun b => ?_)
    · refine t_loadC k5 ?_
      refine t_comm ?_
      refine commW_send (z := .tuple #[]) (φ := Sent u land day i) (s := []) (hv := fun _ => none) (hr := h₂.get) hle2.2.2.2 ?_ (fun r => .inl rfl) (fun r x hx => by cases hx) ?_ (fun _ => rfl) (fun h => absurd rfl h)
      · funext r; rfl
      · have b' : enoughB u land day (subsetL u.papers.length i) (leftAll u land day) = false := by simpa using b
        unfold Sent; rw [if_neg (by rw [b']; simp)]
    · refine t_loadC k5 ?_
      refine t_comm ?_
      have g7 := g.le le2.1
      obtain ⟨vs, ⟨o1, o2⟩, rows⟩ := g7.row
      rcases o2 with ⟨o3, _⟩ | ⟨r, cs, o3, o4, o5, o6, o7⟩
      · cases o3
      · cases o3
        refine commW_send (z := .tuple #[]) (φ := Sent u land day i) (s := []) (hv := fun b => if b = r then h₂.get b else none) (hr := fun b => if b = r then none else h₂.get b) hle2.2.2.2 ?_ (fun b => ?_) (fun b x hx => ?_) ?_ (fun _ => rfl) (fun h => absurd rfl h)
        · funext b
          unfold Cells.add
          by_cases e : b = r
          · subst e; simp [o4]
          · simp [e]
        · by_cases e : b = r
          · right; simp [e]
          · left; simp [e]
        · have hx' : (if b = r then h₂.get b else none) = some x := hx
          split at hx'
          · rename_i e; subst e; rw [o4] at hx'; cases hx'; rfl
          · cases hx'
        · have b' : enoughB u land day (subsetL u.papers.length i) (leftAll u land day) = true := by simpa using b
          unfold Sent; rw [if_pos b']
          refine ⟨_, _, _, rfl, ?_, o6⟩
          refine rows.sl IntEnc.len (by omega) IntEnc.e (el := 3) ⟨o1, .inr ⟨r, cs, rfl, ?_, o5, o6, o7⟩⟩ (by omega)
          show (if r = r then h₂.get r else none) = _
          rw [if_pos rfl]; exact o4
end Go.Proofs.YtibibhojkfapnaaDoor
end
section
namespace Go.TM
open Go Go.Conc
variable {P : Program}
theorem t_newSt {X : XP} {Q : Leaf → LH → Prop} {h : LH} {e : TypeId} {v₀ v : Value} {k : Nat → T} (h1 : isOne v = true) (hk : ∀ r, h.get r = none → (k r).wp X P Q { h with get := h.get.upd r (true, .cells #[v] e (0, 0)) }) :
    (T.new e #[v₀] fun r => T.store (Addr.add ⟨r, 0, none⟩ 0) v (k r)).wp X P Q h := by
  refine t_new fun r hr => ?_
  have own1 : (h.get.upd r (true, .cells #[v₀] e (0, 0))) r = some (true, .cells #[v₀] e (0, 0)) := Cells.upd_self _ _ _
  refine t_store h1 ⟨_, own1⟩ (v₀ := v₀) (by show Cells.cell? _ _ = _; exact cell_upd rfl) (Go.Proofs.YtibibhojkfapnaaDoor.frozen_plain (i := 0) own1) ?_
  have hset : (h.get.upd r (true, .cells #[v₀] e (0, 0))).setCell (Addr.add ⟨r, 0, none⟩ 0) v = h.get.upd r (true, .cells #[v] e (0, 0)) := by
    show Cells.setCell _ ⟨r, 0, none⟩ v = _
    rw [Go.Proofs.YtibibhojkfapnaaDoor.setCell_upd own1]
    funext b; unfold Cells.upd; by_cases e : b = r <;> simp [e]
  simp only [hset]
  exact hk r hr
theorem cell_freeze (F : Nat → Bool) (h : Cells) (a : Addr) : (freezeC F h).cell? a = h.cell? a := by
  unfold Cells.cell? freezeC
  cases h a.block with
  | none => rfl
  | some x => obtain ⟨m, o⟩ := x; cases o <;> rfl
theorem rd_freeze (F : Nat → Bool) (h : Cells) : Rd h (freezeC F h) := fun a v hc => by rw [cell_freeze]; exact hc
theorem rd_drop {h : Cells} {c s : Nat} (hs : h c = some (true, .chan 0 #[] false s s false)) : Rd h (dropC h c) := by
  intro a v hc
  unfold Cells.cell? dropC at *
  by_cases e : a.block = c
  · rw [e, hs] at hc; cases hc
  · rw [if_neg e]; exact hc
def Hand (c0 : Nat) (h : LH) : Prop := (h.chans = [] ∧ ∃ s, h.get c0 = some (true, .chan 0 #[] false s s false)) ∨ h.chans = [c0]
theorem spawnW_all {f : FuncId} {cap : Array Value} {h : LH} {Q : LH → Prop} (c0 : Nat) {φ : Value → Cells → Prop} (hst : Hand c0 h) (c : ∀ hc, Rd h.get hc → FWK XW P .deferred f cap ⟨hc, [], [], [(c0, φ)]⟩ fun _ _ => False)
    (hQ : ∀ h', Rd h.get h'.get → h'.chans = [c0] → h'.todo = h.todo → h'.pend = h.pend ++ [[(c0, φ)]] → Q h') : SpawnW XT P (.func (.func f) #[] cap) #[] h Q := by
  have key : ∀ h1 : LH, Rd h.get h1.get → h1.chans = [c0] → h1.todo = h.todo → h1.pend = h.pend → SpawnW XT P (.func (.func f) #[] cap) #[] h1 Q := by
    intro h1 r1 c1 t1 p1
    refine spawnW (fun _ => true) (freezeC (fun _ => true) h1.get) [(c0, φ)] (by simp) (hargs := cap) (by simp) ?_ ?_ (c _ (r1.trans (rd_freeze _ _))) ?_
    · intro r x hx
      refine ⟨?_, hx⟩
      unfold freezeC at hx
      cases hy : h1.get r with
      | none => rw [hy] at hx; cases hx
      | some y => rw [hy] at hx; simp at hx; rw [← hx]
    · intro y hy
      simp at hy; subst hy; rw [c1]; simp
    · exact hQ _ (r1.trans (rd_freeze _ _)) c1 t1 (by show h1.pend ++ _ = _; rw [p1])
  rcases hst with ⟨h1, s, h2⟩ | h1
  · refine SpawnW.opened c0 s h2 (key _ (rd_drop h2) ?_ rfl rfl)
    show c0 :: h.chans = _
    rw [h1]
  · exact key h (Rd.refl _) h1 rfl rfl
theorem commW_gather {last : Bool} {shape : CommShape} {c0 : Nat} {z : Value} {φ : Nat → Value → Cells → Prop} {rem : List Nat} {h : LH} {Q : Value → LH → Prop} (hp : h.pend = rem.map fun i => [(c0, φ i)]) (hc : h.chans = [c0]) (hne : rem ≠ [])
    (hQ : ∀ i rest v h₂, i ∈ rem → (∀ j, j ∈ rem → j = i ∨ j ∈ rest) → (∀ j, j ∈ rest → j ∈ rem) → rest.length + 1 = rem.length → h₂.todo = h.todo → h₂.pend = rest.map (fun i => [(c0, φ i)]) → ((rest ≠ [] ∧ h₂.chans = [c0]) ∨ (rest = [] ∧ h₂.chans = [] ∧ ∃ s, h₂.get c0 = some (true, .chan 0 #[] false s s false))) →
      (∃ hv, φ i v hv ∧ hv.le h₂.get) → h.get.le h₂.get → Q (commResult #[rcase c0 z] shape 0 v true) h₂) : CommW XT P last #[rcase c0 z] shape h Q := by
  refine CommW.closed (commW_recv ?_ (by rw [hp]; simpa using hne) ?_ ?_)
  · intro k cc hk
    cases k with
    | zero => simp at hk; subst hk; exact ⟨c0, z, rfl, by rw [hc]; simp⟩
    | succ k => simp at hk
  · intro s hs
    rw [hp] at hs
    obtain ⟨i, hi, rfl⟩ := List.mem_map.1 hs
    exact ⟨c0, φ i, [], 0, z, rfl, rfl⟩
  · intro pre ψ s post k c v hv z' hpe hcase hd hown hφ
    rw [hp] at hpe
    obtain ⟨l1, l2, rfl, hl1, hl2⟩ := List.map_eq_append_iff.1 hpe
    obtain ⟨i, l3, rfl, hi, hl3⟩ := List.map_eq_cons_iff.1 hl2
    cases hi
    have hk0 : k = 0 := by
      cases k with
      | zero => rfl
      | succ k => simp at hcase
    subst hk0
    have le1 : h.get.le (h.get.add hv) := Cells.le_add _ _
    have le2 : hv.le (h.get.add hv) := fun r x hr => Cells.add_right' hd hr
    have hpend : pre ++ cons' [] post = (l1 ++ l3).map fun i => [(c0, φ i)] := by
      show pre ++ post = _
      rw [← hl1, ← hl3, List.map_append]
    by_cases hn : l1 ++ l3 = []
    · right
      refine ⟨c0, by show c0 ∈ h.chans; rw [hc]; simp, by show pre ++ cons' [] post = []; rw [hpend, hn]; rfl, fun s hs => ?_⟩
      refine hQ i (l1 ++ l3) v _ (by simp) (fun j hj => ?_) (fun j hj => ?_) (by simp; omega) rfl hpend (.inr ⟨hn, ?_, s, Cells.upd_self _ _ _⟩) ⟨hv, hφ, ?_⟩ ?_
      · simp at hj ⊢; grind
      · simp at hj ⊢; grind
      · show h.chans.filter _ = []
        rw [hc]; simp
      · exact Cells.le_trans le2 (Cells.le_upd _ hs)
      · exact Cells.le_trans le1 (Cells.le_upd _ hs)
    · left
      refine hQ i (l1 ++ l3) v _ (by simp) (fun j hj => ?_) (fun j hj => ?_) (by simp; omega) rfl hpend (.inl ⟨hn, hc⟩) ⟨hv, hφ, le2⟩ le1
      · simp at hj ⊢; grind
      · simp at hj ⊢; grind
end Go.TM
namespace Go.Proofs.YtibibhojkfapnaaDoor
open Go Go.TM Go.Proofs
attribute [local irreducible] T.wp CV FWK
theorem Parts.rd {h h' : Cells} (hl : Rd h h') (p : Parts h) : Parts h' := fun j hj => hl _ _ (p j hj)
/-! ### fewerF is an order -/
theorem cmpI_neg (x y : Int) : cmpI y x = - cmpI x y := by unfold cmpI; repeat' split <;> omega
theorem cmpI_zero {x y : Int} : cmpI x y = 0 ↔ x = y := by unfold cmpI; repeat' split <;> omega
theorem cmpL_neg : ∀ a b : List Int, cmpL b a = - cmpL a b := by
  intro a
  induction a with
  | nil => intro b; cases b <;> rfl
  | cons x a ih =>
    intro b
    cases b with
    | nil => rfl
    | cons y b =>
      simp only [cmpL]
      rw [cmpI_neg x y, ih b]
      by_cases e : cmpI x y = 0
      · simp [e]
      · rw [if_pos (by omega), if_pos e]
theorem cmpL_trans : ∀ a b c : List Int, cmpL a b ≤ 0 → cmpL b c ≤ 0 → cmpL a c ≤ 0 := by
  intro a
  induction a with
  | nil => intro b c _ _; cases c <;> simp [cmpL]
  | cons x a ih =>
    intro b c h1 h2
    cases b with
    | nil => simp [cmpL] at h1
    | cons y b =>
      cases c with
      | nil => simp [cmpL] at h2
      | cons z c =>
        simp only [cmpL] at h1 h2 ⊢
        have := ih b c
        unfold cmpI at h1 h2 ⊢
        by_cases a1 : x < y
        · by_cases a2 : y < z
          · rw [if_pos (by rw [if_pos (show x < z by omega)]; omega), if_pos (show x < z by omega)]; omega
          · by_cases a3 : y = z
            · subst a3; simp [a1]
            · have : y > z := by omega
              simp [a2, this] at h2
        · by_cases a4 : x = y
          · subst a4
            simp at h1
            by_cases a2 : x < z
            · simp [a2]
            · by_cases a3 : x = z
              · subst a3; simp at h2 ⊢; exact this h1 h2
              · have : x > z := by omega
                simp [a2, this] at h2
          · have : x > y := by omega
            simp [a1, this] at h1
theorem fewer_neg (a b : List Int) : fewerF b a = - fewerF a b := by
  unfold fewerF
  by_cases e : a.length = b.length
  · rw [if_neg (by omega), if_neg (by omega), cmpL_neg a b]
  · rw [if_pos (by omega), if_pos (by omega)]; omega
theorem fewer_trans {a b c : List Int} (h1 : fewerF a b ≤ 0) (h2 : fewerF b c ≤ 0) : fewerF a c ≤ 0 := by
  unfold fewerF at *
  by_cases e1 : a.length = b.length
  · rw [if_neg (by omega)] at h1
    by_cases e2 : b.length = c.length
    · rw [if_neg (by omega)] at h2
      rw [if_neg (by omega)]
      exact cmpL_trans a b c h1 h2
    · rw [if_pos (by omega)] at h2
      rw [if_pos (by omega)]; omega
  · rw [if_pos (by omega)] at h1
    by_cases e2 : b.length = c.length
    · rw [if_pos (by omega)]; omega
    · rw [if_pos (by omega)] at h2
      rw [if_pos (by omega)]; omega
theorem fewer_self (a : List Int) : fewerF a a ≤ 0 := by
  have := fewer_neg a a
  omega
def okF (u : UseFile) (land day : Int) (i : Nat) : Bool := enoughB u land day (subsetL u.papers.length i) (leftAll u land day)
def BestR (h : Cells) (u : UseFile) (land day : Int) (rem : List Nat) (p : Option Addr) (n : Nat) : Prop :=
  (p = none ∧ n = 0 ∧ ∀ j, j < 2 ^ u.papers.length → j ∉ rem → okF u land day j = false) ∨
  (∃ i a, p = some a ∧ i < 2 ^ u.papers.length ∧ okF u land day i = true ∧ Sl IntE 1 h (some a) n (subsetL u.papers.length i) ∧ ∀ j, j < 2 ^ u.papers.length → j ∉ rem → okF u land day j = true → fewerF (subsetL u.papers.length i) (subsetL u.papers.length j) ≤ 0)
def KeepR (h' : Cells) (u : UseFile) (land day : Int) (r : Value) : Prop :=
  (openF u [landQ u land, dayQ day] ≠ 0 ∧ r = .tuple #[.slice none 0 0, .int .i64 (openF u [landQ u land, dayQ day])]) ∨
  (openF u [landQ u land, dayQ day] = 0 ∧ ∃ p n c, r = .tuple #[.slice p n c, .int .i64 0] ∧ BestR h' u land day [] p n ∧ n ≤ c)
theorem BestR.skip {h h' : Cells} {u : UseFile} {land day : Int} {rem rest : List Nat} {p : Option Addr} {n i : Nat} (b : BestR h u land day rem p n) (hr : ∀ j, j ∈ rem → j = i ∨ j ∈ rest) (hi : okF u land day i = false) (hrd : Rd h h') : BestR h' u land day rest p n := by
  rcases b with ⟨h1, h2, h3⟩ | ⟨k, a, h1, h2, h3, h4, h5⟩
  · refine .inl ⟨h1, h2, fun j hj hn => ?_⟩
    by_cases e : j = i
    · rw [e]; exact hi
    · exact h3 j hj fun hm => (hr j hm).elim e hn
  · refine .inr ⟨k, a, h1, h2, h3, h4.rd IntE.grow hrd, fun j hj hn ho => ?_⟩
    by_cases e : j = i
    · rw [e] at ho; exact absurd ho (by rw [hi]; simp)
    · exact h5 j hj (fun hm => (hr j hm).elim e hn) ho
theorem BestR.take {h h' : Cells} {u : UseFile} {land day : Int} {rem rest : List Nat} {p : Option Addr} {n i n' : Nat} {a : Addr} (b : BestR h u land day rem p n) (hr : ∀ j, j ∈ rem → j = i ∨ j ∈ rest) (hi : okF u land day i = true) (hlt : i < 2 ^ u.papers.length) (hs : Sl IntE 1 h' (some a) n' (subsetL u.papers.length i))
    (hb : p = none ∨ ∀ k, okF u land day k = true → Sl IntE 1 h p n (subsetL u.papers.length k) → fewerF (subsetL u.papers.length i) (subsetL u.papers.length k) ≤ 0) : BestR h' u land day rest (some a) n' := by
  rcases b with ⟨h1, h2, h3⟩ | ⟨k, a', h1, h2, h3, h4, h5⟩
  · refine .inr ⟨i, a, rfl, hlt, hi, hs, fun j hj hn ho => ?_⟩
    by_cases e : j = i
    · rw [e]; exact fewer_self _
    · have := h3 j hj fun hm => (hr j hm).elim e hn
      rw [this] at ho; cases ho
  · have hle := hb.resolve_left (by rw [h1]; simp) k h3 (by rw [h1]; exact h4)
    refine .inr ⟨i, a, rfl, hlt, hi, hs, fun j hj hn ho => ?_⟩
    by_cases e : j = i
    · rw [e]; exact fewer_self _
    · exact fewer_trans hle (h5 j hj (fun hm => (hr j hm).elim e hn) ho)
theorem BestR.stay {h h' : Cells} {u : UseFile} {land day : Int} {rem rest : List Nat} {p : Option Addr} {n i : Nat} (b : BestR h u land day rem p n) (hr : ∀ j, j ∈ rem → j = i ∨ j ∈ rest) (hp : p ≠ none) (hrd : Rd h h')
    (hb : ∀ k, Sl IntE 1 h p n (subsetL u.papers.length k) → fewerF (subsetL u.papers.length k) (subsetL u.papers.length i) ≤ 0) : BestR h' u land day rest p n := by
  rcases b with ⟨h1, h2, h3⟩ | ⟨k, a', h1, h2, h3, h4, h5⟩
  · exact absurd h1 hp
  · refine .inr ⟨k, a', h1, h2, h3, h4.rd IntE.grow hrd, fun j hj hn ho => ?_⟩
    by_cases e : j = i
    · rw [e]; exact hb k (by rw [h1]; exact h4)
    · exact h5 j hj (fun hm => (hr j hm).elim e hn) ho
theorem Sl.same {h : Cells} {p : Option Addr} {n : Nat} {a b : List Int} (ha : Sl IntE 1 h p n a) (hb : Sl IntE 1 h p n b) : a = b := by
  refine List.ext_getElem (by rw [← ha.1, ← hb.1]) fun i h1 h2 => ?_
  obtain ⟨x, c, e1, e2, e3⟩ := ha.at (i := i) (by rw [ha.1]; exact h1)
  obtain ⟨y, d, e4, e5, e6⟩ := hb.at (i := i) (by rw [hb.1]; exact h2)
  rw [e2] at e5; cases e5
  unfold IntE at e3 e6
  rw [e3] at e6; cases e6
  rw [List.getElem?_eq_getElem h1] at e1
  rw [List.getElem?_eq_getElem h2] at e4
  exact (Option.some.inj e1).trans (Option.some.inj e4).symm
theorem sets_wrap {n : Nat} (hn : n ≤ 8) : IntKind.wrap .i64 (1 * 2 ^ min (Int.toNat (n : Int)) 64) = ((2 ^ n : Nat) : Int) := by
  have e : min (Int.toNat (n : Int)) 64 = n := by simp; omega
  have h2 : (2 : Nat) ^ n ≤ 2 ^ 8 := Nat.pow_le_pow_right (by omega) hn
  have e2 : (1 : Int) * 2 ^ n = ((2 ^ n : Nat) : Int) := by simp
  rw [e, e2]
  generalize 2 ^ n = m at h2
  rw [wrap_id (by omega) (by omega)]
set_option maxRecDepth 100000 in
theorem c33 {h : LH} (hch : h.chans = []) (hpe : h.pend = []) {f : FileC} {u : UseFile} (hp : Parts h.get) (hu : FileR h.get f u) (land day : Int) :
    FW XT Tryd.prog 33 #[fileV f u, .int .i64 land, .int .i64 day] h fun r h' => Rd h.get h'.get ∧ h'.chans = [] ∧ h'.pend = [] ∧ h'.todo = h.todo ∧ KeepR h'.get u land day r := by
  refine w33 _ _ _ _ _ _ _ _ _ _ _ _ _ _ _ XT_ok ?_
  unfold n33
  refine t_new fun r hr => ?_
  have le0 : h.le _ := LH.upd_le (x := (true, .cells #[.int .i64 u.items, .int .i64 u.lands, .int .i64 u.from_, .int .i64 u.idle, .slice f.p4 f.n4 f.c4, .slice f.p5 f.n5 f.c5, .slice f.p6 f.n6 f.c6] 26 (0, 0))) hr
  have hat : FileAt (h.get.upd r (true, .cells #[.int .i64 u.items, .int .i64 u.lands, .int .i64 u.from_, .int .i64 u.idle, .slice f.p4 f.n4 f.c4, .slice f.p5 f.n5 f.c5, .slice f.p6 f.n6 f.c6] 26 (0, 0))) ⟨r, 0, none⟩ f u :=
    ⟨cell_upd rfl, cell_upd rfl, cell_upd rfl, cell_upd rfl, cell_upd rfl, cell_upd rfl, cell_upd rfl⟩
  generalize hh0 : ({ h with get := h.get.upd r (true, .cells #[.int .i64 u.items, .int .i64 u.lands, .int .i64 u.from_, .int .i64 u.idle, .slice f.p4 f.n4 f.c4, .slice f.p5 f.n5 f.c5, .slice f.p6 f.n6 f.c6] 26 (0, 0)) } : LH) = h0 at le0 ⊢
  have hat : FileAt h0.get ⟨r, 0, none⟩ f u := by rw [← hh0]; exact hat
  refine t_new fun r1 hr1 => ?_
  have le1 : h0.le _ := LH.upd_le (x := (true, .cells #[.int .i64 land] 3 (0, 0))) hr1
  have z1 : Cells.cell? (h0.get.upd r1 (true, .cells #[.int .i64 land] 3 (0, 0))) ⟨r1, 0, none⟩ = some (.int .i64 land) := cell_upd rfl
  refine t_new fun r2 hr2 => ?_
  have le2 := LH.upd_le (h := { h0 with get := h0.get.upd r1 (true, .cells #[.int .i64 land] 3 (0, 0)) }) (x := (true, .cells #[.int .i64 day] 3 (0, 0))) hr2
  have z2 : Cells.cell? ((h0.get.upd r1 (true, .cells #[.int .i64 land] 3 (0, 0))).upd r2 (true, .cells #[.int .i64 day] 3 (0, 0))) ⟨r2, 0, none⟩ = some (.int .i64 day) := cell_upd rfl
  have z1 := Cells.cell?_le le2.1 z1
  have hat := hat.le (LH.le_trans le1 le2).1
  obtain ⟨g0, g1, g2, g3, g4, g5, g6⟩ := id hat
  have le02 := LH.le_trans le0 (LH.le_trans le1 le2)
  (repeat (first | (with_reducible first | apply gA | apply gB | apply gC | apply gD | apply gE | apply gF | apply gG | apply gH | apply gI | apply gJ | apply gK | apply gL | apply gM | apply gN | apply gO | apply gP | apply gQ | apply gR) | ((with_reducible apply gT); first | exact rfl | exact True.intro | omega | assumption) | ((with_reducible apply gS2); first | assumption | rfl) | ((with_reducible first | apply gL0 | apply gL1 | apply gL2 | apply gL3 | apply gL4); assumption)))
  refine t_gr (c58 u land) ?_
  rintro v0 h₁ le3 ⟨q0, a0⟩
  have z1 := Cells.cell?_le le3.1 z1
  have z2 := Cells.cell?_le le3.1 z2
  have hat := hat.le le3.1
  obtain ⟨g0, g1, g2, g3, g4, g5, g6⟩ := id hat
  (repeat (first | (with_reducible first | apply gA | apply gB | apply gC | apply gD | apply gE | apply gF | apply gG | apply gH | apply gI | apply gJ | apply gK | apply gL | apply gM | apply gN | apply gO | apply gP | apply gQ | apply gR) | ((with_reducible apply gT); first | exact rfl | exact True.intro | omega | assumption) | ((with_reducible apply gS2); first | assumption | rfl) | ((with_reducible first | apply gL0 | apply gL1 | apply gL2 | apply gL3 | apply gL4); assumption)))
  refine t_gr (c54 u day) ?_
  rintro v1 h₂ le4 ⟨q1, a1⟩
  have z1 := Cells.cell?_le le4.1 z1
  have z2 := Cells.cell?_le le4.1 z2
  have hat := hat.le le4.1
  obtain ⟨g0, g1, g2, g3, g4, g5, g6⟩ := id hat
  (repeat (first | (with_reducible first | apply gA | apply gB | apply gC | apply gD | apply gE | apply gF | apply gG | apply gH | apply gI | apply gJ | apply gK | apply gL | apply gM | apply gN | apply gO | apply gP | apply gQ | apply gR) | ((with_reducible apply gT); first | exact rfl | exact True.intro | omega | assumption) | ((with_reducible apply gS2); first | assumption | rfl) | ((with_reducible first | apply gL0 | apply gL1 | apply gL2 | apply gL3 | apply gL4); assumption)))
  refine asks2 q0 (a0.le le4) q1 a1 fun r' h₃ le5 hs => ?_
  have z1 := Cells.cell?_le le5.1 z1
  have z2 := Cells.cell?_le le5.1 z2
  have hat := hat.le le5.1
  obtain ⟨g0, g1, g2, g3, g4, g5, g6⟩ := id hat
  (repeat (first | (with_reducible first | apply gA | apply gB | apply gC | apply gD | apply gE | apply gF | apply gG | apply gH | apply gI | apply gJ | apply gK | apply gL | apply gM | apply gN | apply gO | apply gP | apply gQ | apply gR) | ((with_reducible apply gT); first | exact rfl | exact True.intro | omega | assumption) | ((with_reducible apply gS2); first | assumption | rfl) | ((with_reducible first | apply gL0 | apply gL1 | apply gL2 | apply gL3 | apply gL4); assumption)))
  have le03 := LH.le_trans le02 (LH.le_trans (LH.le_trans le3 le4) le5)
  refine t_call (FW.top (c53 (f := f) (hp.le le03.1) (hu.le le03.1) hs)) ?_
  rintro v h₄ ⟨le6, ⟨hne, rfl⟩ | ⟨ho, d, m, rfl, hd, hm, k⟩⟩
  · (repeat (first | (with_reducible first | apply gA | apply gB | apply gC | apply gD | apply gE | apply gF | apply gG | apply gH | apply gI | apply gJ | apply gK | apply gL | apply gM | apply gN | apply gO | apply gP | apply gQ | apply gR) | ((with_reducible apply gT); first | exact rfl | exact True.intro | omega | assumption) | ((with_reducible apply gS2); first | assumption | rfl) | ((with_reducible first | apply gL0 | apply gL1 | apply gL2 | apply gL3 | apply gL4); assumption)))
    have le04 := LH.le_trans le03 le6
    refine t_cond (fun _ => ?_) (fun e => absurd (by simpa using e) hne)
    exact t_ret ⟨Rd.of_le le04.1, by rw [le04.2.1, hch], by rw [le04.2.2.1, hpe], le04.2.2.2, .inl ⟨hne, rfl⟩⟩
  (repeat (first | (with_reducible first | apply gA | apply gB | apply gC | apply gD | apply gE | apply gF | apply gG | apply gH | apply gI | apply gJ | apply gK | apply gL | apply gM | apply gN | apply gO | apply gP | apply gQ | apply gR) | ((with_reducible apply gT); first | exact rfl | exact True.intro | omega | assumption) | ((with_reducible apply gS2); first | assumption | rfl) | ((with_reducible first | apply gL0 | apply gL1 | apply gL2 | apply gL3 | apply gL4); assumption)))
  refine t_cond (fun e => by cases e) (fun _ => ?_)
  have hck := (open_num ho).2
  have z1' := Cells.cell?_le le6.1 z1
  have z2' := Cells.cell?_le le6.1 z2
  (repeat (first | (with_reducible first | apply gA | apply gB | apply gC | apply gD | apply gE | apply gF | apply gG | apply gH | apply gI | apply gJ | apply gK | apply gL | apply gM | apply gN | apply gO | apply gP | apply gQ | apply gR) | ((with_reducible apply gT); first | exact rfl | exact True.intro | omega | assumption) | ((with_reducible apply gS2); first | assumption | rfl) | ((with_reducible first | apply gL0 | apply gL1 | apply gL2 | apply gL3 | apply gL4); assumption)))
  refine t_de (c63 k hck land day) ?_
  rintro _ h₅ mv k5 ⟨p0, n0, c0, rfl, gl⟩
  have le35 := Mv.le_of le6 hm mv
  have le05 := LH.le_trans le03 le35
  have hitn := (num_ok (open_num ho).1).1
  have hll : (leftAll u land day).length = u.items.toNat := by unfold leftAll; rw [List.length_map, List.length_range]
  have hsl : Sl IntE 1 h₅.get p0 n0 (leftAll u land day) := gl.sl IntEnc.len (by omega) IntEnc.e (by omega)
  have hpap := (check_papers hck).1
  have hu5 := hu.le le05.1
  have hn5 := hu5.papers.1
  (repeat (first | (with_reducible first | apply gA | apply gB | apply gC | apply gD | apply gE | apply gF | apply gG | apply gH | apply gI | apply gJ | apply gK | apply gL | apply gM | apply gN | apply gO | apply gP | apply gQ | apply gR) | ((with_reducible apply gT); first | exact rfl | exact True.intro | omega | assumption) | ((with_reducible apply gS2); first | assumption | rfl) | ((with_reducible first | apply gL0 | apply gL1 | apply gL2 | apply gL3 | apply gL4); assumption)))
  refine t_newSt rfl fun r3 hr3 => ?_
  have le7 := LH.upd_le (x := (true, .cells #[.slice p0 n0 c0] 40 (0, 0))) hr3
  have z3 : Cells.cell? (h₅.get.upd r3 (true, .cells #[.slice p0 n0 c0] 40 (0, 0))) ⟨r3, 0, none⟩ = some (.slice p0 n0 c0) := cell_upd rfl
  refine t_makeChan und104 inf50 fun q hq => ?_
  have le8 := LH.upd_le (x := (true, .chan 0 #[] false 0 0 false)) hq
  refine t_unC ?_
  refine t_newSt rfl fun r4 hr4 => ?_
  have le9 := LH.upd_le (x := (true, .cells #[.chan (some q)] 104 (0, 0))) hr4
  have le38 := LH.le_trans le35 (LH.le_trans (LH.le_trans le7 le8) le9)
  have z1 := Cells.cell?_le le38.1 z1
  have z2 := Cells.cell?_le le38.1 z2
  have z3 := Cells.cell?_le (LH.le_trans le8 le9).1 z3
  have hat := hat.le le38.1
  obtain ⟨g0, g1, g2, g3, g4, g5, g6⟩ := id hat
  have hsl := hsl.le IntE.grow (LH.le_trans (LH.le_trans le7 le8) le9).1
  have le08 := LH.le_trans le03 le38
  have z4 : Cells.cell? (((h₅.get.upd r3 (true, .cells #[.slice p0 n0 c0] 40 (0, 0))).upd q (true, .chan 0 #[] false 0 0 false)).upd r4 (true, .cells #[.chan (some q)] 104 (0, 0))) ⟨r4, 0, none⟩ = some (.chan (some q)) := cell_upd rfl
  have hq' := le9.1 q _ (Cells.upd_self _ _ _)
  refine gL1 g5 ?_
  have h256 : 2 ^ f.n5 ≤ 2 ^ 8 := Nat.pow_le_pow_right (by omega) (by omega)
  have hNe : (2 : Nat) ^ f.n5 = 2 ^ u.papers.length := by rw [hn5]
  rw [sets_wrap (by omega)]
  generalize hN : (2 : Nat) ^ f.n5 = N at h256 hNe ⊢
  (repeat (first | (with_reducible first | apply gA | apply gB | apply gC | apply gD | apply gE | apply gF | apply gG | apply gH | apply gI | apply gJ | apply gK | apply gL | apply gM | apply gN | apply gO | apply gP | apply gQ | apply gR) | ((with_reducible apply gT); first | exact rfl | exact True.intro | omega | assumption) | ((with_reducible apply gS2); first | assumption | rfl) | ((with_reducible first | apply gL0 | apply gL1 | apply gL2 | apply gL3 | apply gL4); assumption)))
  refine t_loop (fun mm vs h' => ∃ j : Nat, vs = [.int .i64 j] ∧ j ≤ N ∧ mm = N - j ∧ Rd (((h₅.get.upd r3 (true, .cells #[.slice p0 n0 c0] 40 (0, 0))).upd q (true, .chan 0 #[] false 0 0 false)).upd r4 (true, .cells #[.chan (some q)] 104 (0, 0))) h'.get ∧ h'.todo = h.todo ∧ h'.pend = (List.range j).map (fun i => [(q, Sent u land day i)]) ∧ Hand q h' ∧ (0 < j → h'.chans = [q]))
    ⟨0, rfl, Nat.zero_le _, rfl, Rd.refl _, le08.2.2.2, by rw [le08.2.2.1, hpe]; rfl, .inl ⟨by rw [le08.2.1, hch], 0, hq'⟩, fun hh => absurd hh (by omega)⟩ ?_
  rintro Y mm vs h₇ hY ⟨j, rfl, hj, rfl, rd7, td7, pd7, hand7, ch7⟩
  (repeat (first | (with_reducible first | apply gA | apply gB | apply gC | apply gD | apply gE | apply gF | apply gG | apply gH | apply gI | apply gJ | apply gK | apply gL | apply gM | apply gN | apply gO | apply gP | apply gQ | apply gR) | ((with_reducible apply gT); first | exact rfl | exact True.intro | omega | assumption) | ((with_reducible apply gS2); first | assumption | rfl) | ((with_reducible first | apply gL0 | apply gL1 | apply gL2 | apply gL3 | apply gL4); assumption)))
  refine t_if (fun e1 => ?_) (fun e1 => ?_)
  · refine t_newSt rfl fun r5 hr5 => ?_
    have le10 := LH.upd_le (x := (true, .cells #[.int .i64 (j : Int)] 3 (0, 0))) hr5
    have z5 : Cells.cell? (h₇.get.upd r5 (true, .cells #[.int .i64 (j : Int)] 3 (0, 0))) ⟨r5, 0, none⟩ = some (.int .i64 (j : Int)) := cell_upd rfl
    have hand8 : Hand q { h₇ with get := h₇.get.upd r5 (true, .cells #[.int .i64 (j : Int)] 3 (0, 0)) } := by
      rcases hand7 with ⟨a1, s, a2⟩ | a1
      · exact .inl ⟨a1, s, le10.1 _ _ a2⟩
      · exact .inr a1
    have rd8 := rd7.trans (Rd.of_le le10.1)
    refine t_spawn (spawnW_all q (φ := Sent u land day j) hand8 (fun hc hrd => ?_) (fun h₈ r8 c8 t8 p8 => ?_))
    · have rdc := rd8.trans hrd
      exact c74 ((hp.le le08.1).rd rdc) ((hu.le le08.1).rd rdc) (hat.rd rdc) hpap (by omega) (hrd _ _ z5) (rdc _ _ z1) (rdc _ _ z2) (rdc _ _ z3) (hsl.rd IntE.grow rdc) (rdc _ _ z4)
    · refine t_again (hY (N - (j + 1)) _ _ (by omega) ⟨j + 1, ?_, by omega, rfl, rd8.trans r8, t8.trans td7, ?_, .inr c8, fun _ => c8⟩)
      · rw [wrap_id (by omega) (by omega)]; rfl
      · rw [p8, pd7, List.range_succ, List.map_append]; rfl
  · (repeat (first | (with_reducible first | apply gA | apply gB | apply gC | apply gD | apply gE | apply gF | apply gG | apply gH | apply gI | apply gJ | apply gK | apply gL | apply gM | apply gN | apply gO | apply gP | apply gQ | apply gR) | ((with_reducible apply gT); first | exact rfl | exact True.intro | omega | assumption) | ((with_reducible apply gS2); first | assumption | rfl) | ((with_reducible first | apply gL0 | apply gL1 | apply gL2 | apply gL3 | apply gL4); assumption)))
    have hjN : j = N := by omega
    subst hjN
    have hpos : 0 < j := by rw [hNe]; exact Nat.pow_pos (by omega)
    refine t_loop (fun mm vs h' => ∃ (k : Nat) (rem : List Nat) (p : Option Addr) (n c : Nat), vs = [.slice p n c, .int .i64 k] ∧ rem.length + k = j ∧ mm = j - k ∧ (∀ i ∈ rem, i < j) ∧ Rd (((h₅.get.upd r3 (true, .cells #[.slice p0 n0 c0] 40 (0, 0))).upd q (true, .chan 0 #[] false 0 0 false)).upd r4 (true, .cells #[.chan (some q)] 104 (0, 0))) h'.get ∧ h'.todo = h.todo ∧ h'.pend = rem.map (fun i => [(q, Sent u land day i)]) ∧
        ((rem ≠ [] ∧ h'.chans = [q]) ∨ (rem = [] ∧ h'.chans = [] ∧ ∃ s, h'.get q = some (true, .chan 0 #[] false s s false))) ∧ BestR h'.get u land day rem p n ∧ n ≤ c)
      ⟨0, List.range j, none, 0, 0, rfl, by simp, rfl, fun i hi => List.mem_range.1 hi, rd7, td7, pd7, .inl ⟨by simp; omega, ch7 hpos⟩, .inl ⟨rfl, rfl, fun i hi hn => absurd (List.mem_range.2 (by omega)) hn⟩, Nat.le_refl _⟩ ?_
    rintro Y2 mm vs h₈ hY2 ⟨k, rem, p, n, c, rfl, hk, rfl, hrem, rd8, td8, pd8, hst8, best, hcap⟩
    (repeat (first | (with_reducible first | apply gA | apply gB | apply gC | apply gD | apply gE | apply gF | apply gG | apply gH | apply gI | apply gJ | apply gK | apply gL | apply gM | apply gN | apply gO | apply gP | apply gQ | apply gR) | ((with_reducible apply gT); first | exact rfl | exact True.intro | omega | assumption) | ((with_reducible apply gS2); first | assumption | rfl) | ((with_reducible first | apply gL0 | apply gL1 | apply gL2 | apply gL3 | apply gL4); assumption)))
    refine t_if (fun e2 => ?_) (fun e2 => ?_)
    · have hne : rem ≠ [] := by rintro rfl; simp at hk; omega
      have hc8 : h₈.chans = [q] := by
        rcases hst8 with ⟨_, a⟩ | ⟨a, _⟩
        · exact a
        · exact absurd a hne
      refine t_loadC (rd8 _ _ z4) ?_
      refine t_comm (commW_gather (φ := Sent u land day) pd8 hc8 hne ?_)
      intro i rest v h₉ hi h1 h2 hlen ht hpd hst ⟨hv, hsent, hle⟩ hle9
      have hcr : commResult #[Conc.rcase q (.slice none 0 0)] (CommShape.recv false) 0 v true = v := rfl
      rw [hcr]
      have rd9 := Rd.of_le hle9
      have next : ∀ p' n' c', BestR h₉.get u land day rest p' n' → n' ≤ c' → Y2 [.slice p' n' c', .int .i64 (IntKind.wrap .i64 ((k : Int) + 1))] h₉ := by
        intro p' n' c' hb hcap'
        refine hY2 (j - (k + 1)) _ _ (by omega) ⟨k + 1, rest, p', n', c', ?_, by omega, rfl, fun i hi => hrem i (h2 i hi), rd8.trans rd9, ht.trans td8, hpd, hst, hb, hcap'⟩
        rw [wrap_id (by omega) (by omega)]; rfl
      change (if okF u land day i = true then _ else _) at hsent
      by_cases ok : okF u land day i = true
      · rw [if_pos ok] at hsent
        obtain ⟨a, n', c', rfl, hs9, hcap9⟩ := hsent
        have hs9 := hs9.rd IntE.grow (Rd.of_le hle)
        (repeat (first | (with_reducible first | apply gA | apply gB | apply gC | apply gD | apply gE | apply gF | apply gG | apply gH | apply gI | apply gJ | apply gK | apply gL | apply gM | apply gN | apply gO | apply gP | apply gQ | apply gR) | ((with_reducible apply gT); first | exact rfl | exact True.intro | omega | assumption) | ((with_reducible apply gS2); first | assumption | rfl) | ((with_reducible first | apply gL0 | apply gL1 | apply gL2 | apply gL3 | apply gL4); assumption)))
        refine t_neNil und50 ?_
        (repeat (first | (with_reducible first | apply gA | apply gB | apply gC | apply gD | apply gE | apply gF | apply gG | apply gH | apply gI | apply gJ | apply gK | apply gL | apply gM | apply gN | apply gO | apply gP | apply gQ | apply gR) | ((with_reducible apply gT); first | exact rfl | exact True.intro | omega | assumption) | ((with_reducible apply gS2); first | assumption | rfl) | ((with_reducible first | apply gL0 | apply gL1 | apply gL2 | apply gL3 | apply gL4); assumption)))
        refine t_cond (fun _ => ?_) (fun e => by cases e)
        refine t_eqNil und50 ?_
        (repeat (first | (with_reducible first | apply gA | apply gB | apply gC | apply gD | apply gE | apply gF | apply gG | apply gH | apply gI | apply gJ | apply gK | apply gL | apply gM | apply gN | apply gO | apply gP | apply gQ | apply gR) | ((with_reducible apply gT); first | exact rfl | exact True.intro | omega | assumption) | ((with_reducible apply gS2); first | assumption | rfl) | ((with_reducible first | apply gL0 | apply gL1 | apply gL2 | apply gL3 | apply gL4); assumption)))
        refine t_cond (fun b => ?_) (fun b => ?_)
        · exact t_again (next _ _ _ (best.take h1 ok (by have := hrem i hi; omega) hs9 (.inl (by simpa using b))) hcap9)
        · have hpn : p ≠ none := by rintro rfl; cases b
          obtain ⟨k', a', hk', hs'⟩ : ∃ k' a', p = some a' ∧ Sl IntE 1 h₈.get (some a') n (subsetL u.papers.length k') := by
            rcases best with ⟨b1, _⟩ | ⟨k', a', b1, _, _, b4, _⟩
            · exact absurd b1 hpn
            · exact ⟨k', a', b1, b4⟩
          subst hk'
          have hs'9 := hs'.rd IntE.grow rd9
          refine t_pu (c75 hs9 hs'9) ?_
          have same : ∀ k2, Sl IntE 1 h₈.get (some a') n (subsetL u.papers.length k2) → subsetL u.papers.length k2 = subsetL u.papers.length k' := by
            intro k2 h3
            exact Sl.same h3 hs'
          (repeat (first | (with_reducible first | apply gA | apply gB | apply gC | apply gD | apply gE | apply gF | apply gG | apply gH | apply gI | apply gJ | apply gK | apply gL | apply gM | apply gN | apply gO | apply gP | apply gQ | apply gR) | ((with_reducible apply gT); first | exact rfl | exact True.intro | omega | assumption) | ((with_reducible apply gS2); first | assumption | rfl) | ((with_reducible first | apply gL0 | apply gL1 | apply gL2 | apply gL3 | apply gL4); assumption)))
          refine t_if (fun e3 => ?_) (fun e3 => ?_)
          · refine t_again (next _ _ _ (best.take h1 ok (by have := hrem i hi; omega) hs9 (.inr fun k2 _ h3 => ?_)) hcap9)
            rw [same k2 h3]; omega
          · refine t_again (next _ _ _ (best.stay h1 hpn rd9 fun k2 h3 => ?_) hcap)
            rw [same k2 h3, fewer_neg]; omega
      · rw [if_neg ok] at hsent
        subst hsent
        (repeat (first | (with_reducible first | apply gA | apply gB | apply gC | apply gD | apply gE | apply gF | apply gG | apply gH | apply gI | apply gJ | apply gK | apply gL | apply gM | apply gN | apply gO | apply gP | apply gQ | apply gR) | ((with_reducible apply gT); first | exact rfl | exact True.intro | omega | assumption) | ((with_reducible apply gS2); first | assumption | rfl) | ((with_reducible first | apply gL0 | apply gL1 | apply gL2 | apply gL3 | apply gL4); assumption)))
        refine t_neNil und50 ?_
        (repeat (first | (with_reducible first | apply gA | apply gB | apply gC | apply gD | apply gE | apply gF | apply gG | apply gH | apply gI | apply gJ | apply gK | apply gL | apply gM | apply gN | apply gO | apply gP | apply gQ | apply gR) | ((with_reducible apply gT); first | exact rfl | exact True.intro | omega | assumption) | ((with_reducible apply gS2); first | assumption | rfl) | ((with_reducible first | apply gL0 | apply gL1 | apply gL2 | apply gL3 | apply gL4); assumption)))
        refine t_cond (fun e => by cases e) (fun _ => ?_)
        exact t_again (next _ _ _ (best.skip h1 (by simpa using ok) rd9) hcap)
    · (repeat (first | (with_reducible first | apply gA | apply gB | apply gC | apply gD | apply gE | apply gF | apply gG | apply gH | apply gI | apply gJ | apply gK | apply gL | apply gM | apply gN | apply gO | apply gP | apply gQ | apply gR) | ((with_reducible apply gT); first | exact rfl | exact True.intro | omega | assumption) | ((with_reducible apply gS2); first | assumption | rfl) | ((with_reducible first | apply gL0 | apply gL1 | apply gL2 | apply gL3 | apply gL4); assumption)))
      have hrem0 : rem = [] := List.length_eq_zero_iff.1 (by omega)
      subst hrem0
      obtain ⟨hc8, s, hq8⟩ : h₈.chans = [] ∧ ∃ s, h₈.get q = some (true, .chan 0 #[] false s s false) := by
        rcases hst8 with ⟨a, _⟩ | ⟨_, a, b⟩
        · exact absurd rfl a
        · exact ⟨a, b⟩
      refine t_loadC (rd8 _ _ z4) ?_
      refine t_close hq8 ?_
      have rd9 : Rd h₈.get (h₈.get.upd q (true, .chan 0 #[] true s s false)) := by
        intro a v hc
        have hne : a.block ≠ q := by
          intro e
          unfold Cells.cell? at hc
          rw [e, hq8] at hc; cases hc
        unfold Cells.cell? at hc ⊢
        rw [Cells.upd_ne _ _ hne]; exact hc
      have b9 : BestR (h₈.get.upd q (true, .chan 0 #[] true s s false)) u land day [] p n := by
        rcases best with b1 | ⟨k2, a, b1, b2, b3, b4, b5⟩
        · exact .inl b1
        · exact .inr ⟨k2, a, b1, b2, b3, b4.rd IntE.grow rd9, b5⟩
      exact t_ret ⟨((Rd.of_le le08.1).trans rd8).trans rd9, hc8, pd8, td8, .inr ⟨ho, p, n, c, rfl, b9, hcap⟩⟩
end Go.Proofs.YtibibhojkfapnaaDoor
end
section
namespace Go.Proofs.YtibibhojkfapnaaDoor
open Go Go.TM Go.Proofs
set_option linter.unusedVariables false
set_option maxRecDepth 100000
noncomputable def n5 (u_0 : Int) (u_1 : Int) (u_2 : Int) (u_3 : Int) (u_4p : Option Addr) (u_4n u_4c : Nat) (u_5p : Option Addr) (u_5n u_5c : Nat) (u_6p : Option Addr) (u_6n u_6c : Nat) (land : Int) (day : Int) (papersp : Option Addr) (papersn papersc : Nat) : T := .blk (.call false 15 #[.agg #[.int .i64 u_0, .int .i64 u_1, .int .i64 u_2, .int .i64 u_3, .slice u_4p u_4n u_4c, .slice u_5p u_5n u_5c, .slice u_6p u_6n u_6c]] fun v => .unB v fun b => bif b then .call false 16 #[] fun v => .unB v fun b => .leaf (.retn [.bool b]) else bif decide ((↑papersn : Int) > 20) then .call false 16 #[] fun v => .unB v fun b => .leaf (.retn [.bool b]) else .leaf (.again [.bool false])) (fun vs => .popB vs fun b vs => .unNil vs (.call false 31 #[.agg #[.int .i64 u_0, .int .i64 u_1, .int .i64 u_2, .int .i64 u_3, .slice u_4p u_4n u_4c, .slice u_5p u_5n u_5c, .slice u_6p u_6n u_6c], .int .i64 land, .int .i64 day, .slice papersp papersn papersc] fun v => .unTup v fun l => .unCons l fun v vs => .unB v fun b_1 => .unCons vs fun v vs => .unI .i64 v fun n => .unNil vs (.call false 32 #[.agg #[.int .i64 u_0, .int .i64 u_1, .int .i64 u_2, .int .i64 u_3, .slice u_4p u_4n u_4c, .slice u_5p u_5n u_5c, .slice u_6p u_6n u_6c], .int .i64 land, .int .i64 day, .slice papersp papersn papersc] fun v => .unTup v fun l => .unCons l fun v vs => .unB v fun b_2 => .unCons vs fun v vs => .unI .i64 v fun n_1 => .unNil vs (.blk (bif !b_1 == b_2 then .leaf (.retn [.bool false]) else bif n != n_1 then .leaf (.retn [.bool false]) else .leaf (.again [.bool b])) (fun vs => .popB vs fun b vs => .unNil vs (.call false 33 #[.agg #[.int .i64 u_0, .int .i64 u_1, .int .i64 u_2, .int .i64 u_3, .slice u_4p u_4n u_4c, .slice u_5p u_5n u_5c, .slice u_6p u_6n u_6c], .int .i64 land, .int .i64 day] fun v => .unTup v fun l => .unCons l fun v vs => .unS v fun a n c => .unCons vs fun v vs => .unI .i64 v fun n_2 => .unNil vs (.call false 34 #[.agg #[.int .i64 u_0, .int .i64 u_1, .int .i64 u_2, .int .i64 u_3, .slice u_4p u_4n u_4c, .slice u_5p u_5n u_5c, .slice u_6p u_6n u_6c], .int .i64 land, .int .i64 day] fun v => .unTup v fun l => .unCons l fun v vs => .unS v fun a_1 n_3 c_1 => .unCons vs fun v vs => .unI .i64 v fun n_4 => .unNil vs (.call false 35 #[.slice a n c, .slice a_1 n_3 c_1] fun v => .unB v fun b => bif b then bif n_2 == n_4 then .call false 16 #[] fun v => .unB v fun b => .leaf (.ret (.bool b)) else .leaf (.ret (.bool false)) else .leaf (.ret (.bool false)))))) (fun vs => .popB vs fun b vs => .unNil vs (.leaf (.ret (.bool b)))) fun x x_1 => .fail)))) (fun vs => .popB vs fun b vs => .unNil vs (.leaf (.ret (.bool b)))) fun x x_1 => .fail
theorem t5 (u_0 : Int) (u_1 : Int) (u_2 : Int) (u_3 : Int) (u_4p : Option Addr) (u_4n u_4c : Nat) (u_5p : Option Addr) (u_5n u_5c : Nat) (u_6p : Option Addr) (u_6n u_6c : Nat) (land : Int) (day : Int) (papersp : Option Addr) (papersn papersc : Nat) : ftree ({ P := Tryd.prog, priv := [4], loops := [], joins := [{ id := 7, slots := [(8, .bool)], ro := [4], outs := [] }, { id := 3, slots := [(8, .bool)], ro := [4], outs := [] }] }) Tryd.f5 [.agg #[.int .i64 u_0, .int .i64 u_1, .int .i64 u_2, .int .i64 u_3, .slice u_4p u_4n u_4c, .slice u_5p u_5n u_5c, .slice u_6p u_6n u_6c], .int .i64 land, .int .i64 day, .slice papersp papersn papersc] = n5 u_0 u_1 u_2 u_3 u_4p u_4n u_4c u_5p u_5n u_5c u_6p u_6n u_6c land day papersp papersn papersc := by kernel_rfl
theorem w5 (u_0 : Int) (u_1 : Int) (u_2 : Int) (u_3 : Int) (u_4p : Option Addr) (u_4n u_4c : Nat) (u_5p : Option Addr) (u_5n u_5c : Nat) (u_6p : Option Addr) (u_6n u_6c : Nat) (land : Int) (day : Int) (papersp : Option Addr) (papersn papersc : Nat) {X : XP} (hX : XOK X) {h : LH} {A : Value → LH → Prop} (hw : (n5 u_0 u_1 u_2 u_3 u_4p u_4n u_4c u_5p u_5n u_5c u_6p u_6n u_6c land day papersp papersn papersc).wp X Tryd.prog (retQ A) h) : FWK X Tryd.prog .normal 5 #[.agg #[.int .i64 u_0, .int .i64 u_1, .int .i64 u_2, .int .i64 u_3, .slice u_4p u_4n u_4c, .slice u_5p u_5n u_5c, .slice u_6p u_6n u_6c], .int .i64 land, .int .i64 day, .slice papersp papersn papersc] h A := fwk_neat (t5 u_0 u_1 u_2 u_3 u_4p u_4n u_4c u_5p u_5n u_5c u_6p u_6n u_6c land day papersp papersn papersc) (by simp) (by kernel_rfl) (by kernel_rfl) hX hw
noncomputable def n16  : T := .call false 52 #[] fun v => .unAgg v fun l => .popI .i64 l fun n vs => .popI .i64 vs fun n_1 vs => .popI .i64 vs fun n_2 vs => .popI .i64 vs fun n_3 vs => .popS vs fun a n_4 c vs => .popS vs fun a_1 n_5 c_1 vs => .popS vs fun a_2 n_6 c_2 vs => .unNil vs (.call false 17 #[.agg #[.int .i64 n, .int .i64 n_1, .int .i64 n_2, .int .i64 n_3, .slice a n_4 c, .slice a_1 n_5 c_1, .slice a_2 n_6 c_2], .int .i64 20] fun v => .unTup v fun l => .unCons l fun v vs => .unAgg v fun l => .popI .i64 l fun n_7 vs_1 => .popI .i64 vs_1 fun n_8 vs_2 => .unNil vs_2 (.unCons vs fun v vs => .unI .i64 v fun n_9 => .unNil vs (.call false 17 #[.agg #[.int .i64 n, .int .i64 n_1, .int .i64 n_2, .int .i64 n_3, .slice a n_4 c, .slice a_1 n_5 c_1, .slice a_2 n_6 c_2], .int .i64 25] fun v => .unTup v fun l => .unCons l fun v vs => .unAgg v fun l => .popI .i64 l fun n_10 vs_3 => .popI .i64 vs_3 fun n_11 vs_4 => .unNil vs_4 (.unCons vs fun v vs => .unI .i64 v fun n_12 => .unNil vs (.call false 19 #[.agg #[.int .i64 n, .int .i64 n_1, .int .i64 n_2, .int .i64 n_3, .slice a n_4 c, .slice a_1 n_5 c_1, .slice a_2 n_6 c_2], .int .i64 0, .int .i64 1, .int .i64 16] fun v => .unTup v fun l => .unCons l fun v vs => .unI .i64 v fun n_13 => .unCons vs fun v vs => .unI .i64 v fun n_14 => .unNil vs (.call false 19 #[.agg #[.int .i64 n, .int .i64 n_1, .int .i64 n_2, .int .i64 n_3, .slice a n_4 c, .slice a_1 n_5 c_1, .slice a_2 n_6 c_2], .int .i64 0, .int .i64 1, .int .i64 18] fun v => .unTup v fun l => .unCons l fun v vs => .unI .i64 v fun n_15 => .unCons vs fun v vs => .unI .i64 v fun n_16 => .unNil vs (.call false 19 #[.agg #[.int .i64 n, .int .i64 n_1, .int .i64 n_2, .int .i64 n_3, .slice a n_4 c, .slice a_1 n_5 c_1, .slice a_2 n_6 c_2], .int .i64 0, .int .i64 1, .int .i64 19] fun v => .unTup v fun l => .unCons l fun v vs => .unI .i64 v fun n_17 => .unCons vs fun v vs => .unI .i64 v fun n_18 => .unNil vs (.call false 21 #[.agg #[.int .i64 n, .int .i64 n_1, .int .i64 n_2, .int .i64 n_3, .slice a n_4 c, .slice a_1 n_5 c_1, .slice a_2 n_6 c_2], .int .i64 0, .int .i64 1] fun v => .unTup v fun l => .unCons l fun v vs => .unI .i64 v fun n_19 => .unCons vs fun v vs => .unI .i64 v fun n_20 => .unNil vs (.call false 21 #[.agg #[.int .i64 n, .int .i64 n_1, .int .i64 n_2, .int .i64 n_3, .slice a n_4 c, .slice a_1 n_5 c_1, .slice a_2 n_6 c_2], .int .i64 1, .int .i64 2] fun v => .unTup v fun l => .unCons l fun v vs => .unI .i64 v fun n_21 => .unCons vs fun v vs => .unI .i64 v fun n_22 => .unNil vs (.call false 23 #[.agg #[.int .i64 n, .int .i64 n_1, .int .i64 n_2, .int .i64 n_3, .slice a n_4 c, .slice a_1 n_5 c_1, .slice a_2 n_6 c_2], .int .i64 0, .int .i64 25] fun v => .unTup v fun l => .unCons l fun v vs => .unS v fun a_3 n_23 c_3 => .unCons vs fun v vs => .unI .i64 v fun n_24 => .unNil vs (.call false 28 #[.agg #[.int .i64 n, .int .i64 n_1, .int .i64 n_2, .int .i64 n_3, .slice a n_4 c, .slice a_1 n_5 c_1, .slice a_2 n_6 c_2], .int .i64 0, .int .i64 20] fun v => .unTup v fun l => .unCons l fun v vs => .unS v fun a_4 n_25 c_4 => .unCons vs fun v vs => .unI .i64 v fun n_26 => .unNil vs (.call false 33 #[.agg #[.int .i64 n, .int .i64 n_1, .int .i64 n_2, .int .i64 n_3, .slice a n_4 c, .slice a_1 n_5 c_1, .slice a_2 n_6 c_2], .int .i64 0, .int .i64 25] fun v => .unTup v fun l => .unCons l fun v vs => .unS v fun a_5 n_27 c_5 => .unCons vs fun v vs => .unI .i64 v fun n_28 => .unNil vs (.sem false (Instr.buildSlice 50 2 #[(0, .int .i64 0), (1, .int .i64 2)]) fun v => .unS v fun a_6 n_29 c_6 => .call false 31 #[.agg #[.int .i64 n, .int .i64 n_1, .int .i64 n_2, .int .i64 n_3, .slice a n_4 c, .slice a_1 n_5 c_1, .slice a_2 n_6 c_2], .int .i64 0, .int .i64 25, .slice a_6 n_29 c_6] fun v => .unTup v fun l => .unCons l fun v vs => .unB v fun b => .unCons vs fun v vs => .unI .i64 v fun n => .unNil vs (.blk (bif n_9 != 0 then .leaf (.retn [.bool false]) else bif n_12 != 0 then .leaf (.retn [.bool false]) else bif n_14 != 0 then .leaf (.retn [.bool false]) else bif n_16 != 0 then .leaf (.retn [.bool false]) else bif n_18 != 0 then .leaf (.retn [.bool false]) else bif n_20 != 0 then .leaf (.retn [.bool false]) else bif n_22 != 0 then .leaf (.retn [.bool false]) else bif n_24 != 0 then .leaf (.retn [.bool false]) else bif n_26 != 0 then .leaf (.retn [.bool false]) else bif n_28 != 0 then .leaf (.retn [.bool false]) else bif n != 0 then .leaf (.retn [.bool false]) else .leaf (.again [.bool false])) (fun vs => .popB vs fun b_1 vs => .unNil vs (.blk (.call false 42 #[.int .i64 16, .int .i64 20] fun v => .unAgg v fun l => .popI .i64 l fun n vs => .popI .i64 vs fun n_30 vs => .unNil vs (.nd (.agg #[.int .i64 n_7, .int .i64 n_8]) (.sem false (Sem.bind (eqGuard BinOp.neq 30 (Operand.tmp 123) (Operand.tmp 124) (.agg #[.int .i64 n_7, .int .i64 n_8]) (.agg #[.int .i64 n, .int .i64 n_30])) fun __r => binOp BinOp.neq 30 (.agg #[.int .i64 n_7, .int .i64 n_8]) (.agg #[.int .i64 n, .int .i64 n_30])) fun v => .unB v fun b_2 => bif b_2 then .nd (.tuple #[]) (.nd (.bool true) (.nd (.bool true) (.nd (.bool true) (.nd (.bool true) (.nd (.bool true) (.nd (.bool true) (.nd (.bool true) (.nd (.bool true) (.nd (.bool true) (.nd (.bool true) (.nd (.bool true) (.nd (.bool true) (.nd (.bool true) (.nd (.bool true) (.nd (.bool true) (.nd (.tuple #[]) (.nd (.bool true) (.nd (.tuple #[]) (.nd (.bool true) (.nd (.bool true) (.nd (.bool true) (.nd (.bool true) (.nd (.bool true) (.nd (.bool true) (.nd (.bool true) (.nd (.bool true) (.nd (.tuple #[]) (.nd (.bool true) (.nd (.bool true) (.nd (.bool true) (.nd (.bool true) (.nd (.bool true) (.nd (.bool true) (.nd (.bool true) (.nd (.bool true) (.nd (.tuple #[]) (.nd (.bool true) (.nd (.bool true) (.nd (.bool true) (.nd (.bool true) (.nd (.bool true) (.nd (.bool true) (.nd (.bool true) (.leaf (.retn [.bool false]))))))))))))))))))))))))))))))))))))))))))))) else .call false 42 #[.int .i64 18, .int .i64 25] fun v => .unAgg v fun l => .popI .i64 l fun n vs => .popI .i64 vs fun n_31 vs => .unNil vs (.nd (.agg #[.int .i64 n_10, .int .i64 n_11]) (.sem false (Sem.bind (eqGuard BinOp.neq 30 (Operand.tmp 127) (Operand.tmp 128) (.agg #[.int .i64 n_10, .int .i64 n_11]) (.agg #[.int .i64 n, .int .i64 n_31])) fun __r => binOp BinOp.neq 30 (.agg #[.int .i64 n_10, .int .i64 n_11]) (.agg #[.int .i64 n, .int .i64 n_31])) fun v => .unB v fun b_3 => bif b_3 then .nd (.bool b_3) (.nd (.bool true) (.nd (.bool b_3) (.nd (.bool true) (.nd (.bool true) (.nd (.bool b_3) (.nd (.bool true) (.nd (.bool true) (.nd (.bool true) (.nd (.bool b_3) (.nd (.bool true) (.nd (.bool true) (.nd (.bool true) (.nd (.bool true) (.nd (.bool b_3) (.nd (.tuple #[]) (.nd (.bool true) (.nd (.tuple #[]) (.nd (.bool true) (.nd (.bool true) (.nd (.bool true) (.nd (.bool true) (.nd (.bool true) (.nd (.bool true) (.nd (.bool b_3) (.nd (.bool true) (.nd (.tuple #[]) (.nd (.bool true) (.nd (.bool true) (.nd (.bool true) (.nd (.bool true) (.nd (.bool true) (.nd (.bool true) (.nd (.bool b_3) (.nd (.bool true) (.nd (.tuple #[]) (.nd (.bool true) (.nd (.bool true) (.nd (.bool true) (.nd (.bool true) (.nd (.bool true) (.nd (.bool true) (.nd (.bool b_3) (.leaf (.retn [.bool false])))))))))))))))))))))))))))))))))))))))))))) else bif n_13 != 1 then .nd (.bool (n_13 != 1)) (.nd (.bool (n_13 != 1)) (.nd (.int .i64 n_13) (.need (AV.val (.bool b_3) = AV.val (.bool false)) (.nd (.bool b_3) (.nd (.bool true) (.nd (.bool (n_13 != 1)) (.nd (.bool (n_13 != 1)) (.nd (.int .i64 n_13) (.need (AV.val (.bool b_3) = AV.val (.bool false)) (.nd (.bool b_3) (.nd (.bool true) (.nd (.bool true) (.nd (.bool (n_13 != 1)) (.nd (.bool (n_13 != 1)) (.nd (.int .i64 n_13) (.need (AV.val (.bool b_3) = AV.val (.bool false)) (.nd (.bool b_3) (.nd (.bool true) (.nd (.bool true) (.nd (.bool true) (.nd (.bool (n_13 != 1)) (.nd (.bool (n_13 != 1)) (.nd (.int .i64 n_13) (.need (AV.val (.bool b_3) = AV.val (.bool false)) (.nd (.bool b_3) (.nd (.tuple #[]) (.nd (.bool true) (.nd (.tuple #[]) (.nd (.bool true) (.nd (.bool true) (.nd (.bool true) (.nd (.bool true) (.nd (.bool true) (.nd (.bool (n_13 != 1)) (.nd (.bool (n_13 != 1)) (.nd (.int .i64 n_13) (.need (AV.val (.bool b_3) = AV.val (.bool false)) (.nd (.bool b_3) (.nd (.bool true) (.nd (.tuple #[]) (.nd (.bool true) (.nd (.bool true) (.nd (.bool true) (.nd (.bool true) (.nd (.bool true) (.nd (.bool (n_13 != 1)) (.nd (.bool (n_13 != 1)) (.nd (.int .i64 n_13) (.need (AV.val (.bool b_3) = AV.val (.bool false)) (.nd (.bool b_3) (.nd (.bool true) (.nd (.tuple #[]) (.nd (.bool true) (.nd (.bool true) (.nd (.bool true) (.nd (.bool true) (.nd (.bool true) (.nd (.bool (n_13 != 1)) (.nd (.bool (n_13 != 1)) (.nd (.int .i64 n_13) (.need (AV.val (.bool b_3) = AV.val (.bool false)) (.nd (.bool b_3) (.leaf (.retn [.bool false])))))))))))))))))))))))))))))))))))))))))))))))))))))))))))))))) else bif n_15 != 0 then .nd (.bool (n_15 != 0)) (.nd (.bool (n_15 != 0)) (.nd (.int .i64 n_15) (.need (AV.val (.bool (n_13 != 1)) = AV.val (.bool false)) (.nd (.bool (n_13 != 1)) (.nd (.bool (n_13 != 1)) (.nd (.int .i64 n_13) (.need (AV.val (.bool b_3) = AV.val (.bool false)) (.nd (.bool b_3) (.nd (.bool true) (.nd (.bool (n_15 != 0)) (.nd (.bool (n_15 != 0)) (.nd (.int .i64 n_15) (.need (AV.val (.bool (n_13 != 1)) = AV.val (.bool false)) (.nd (.bool (n_13 != 1)) (.nd (.bool (n_13 != 1)) (.nd (.int .i64 n_13) (.need (AV.val (.bool b_3) = AV.val (.bool false)) (.nd (.bool b_3) (.nd (.bool true) (.nd (.bool true) (.nd (.bool (n_15 != 0)) (.nd (.bool (n_15 != 0)) (.nd (.int .i64 n_15) (.need (AV.val (.bool (n_13 != 1)) = AV.val (.bool false)) (.nd (.bool (n_13 != 1)) (.nd (.bool (n_13 != 1)) (.nd (.int .i64 n_13) (.need (AV.val (.bool b_3) = AV.val (.bool false)) (.nd (.bool b_3) (.nd (.tuple #[]) (.nd (.bool true) (.nd (.tuple #[]) (.nd (.bool true) (.nd (.bool true) (.nd (.bool true) (.nd (.bool true) (.nd (.bool (n_15 != 0)) (.nd (.bool (n_15 != 0)) (.nd (.int .i64 n_15) (.need (AV.val (.bool (n_13 != 1)) = AV.val (.bool false)) (.nd (.bool (n_13 != 1)) (.nd (.bool (n_13 != 1)) (.nd (.int .i64 n_13) (.need (AV.val (.bool b_3) = AV.val (.bool false)) (.nd (.bool b_3) (.nd (.bool true) (.nd (.tuple #[]) (.nd (.bool true) (.nd (.bool true) (.nd (.bool true) (.nd (.bool true) (.nd (.bool (n_15 != 0)) (.nd (.bool (n_15 != 0)) (.nd (.int .i64 n_15) (.need (AV.val (.bool (n_13 != 1)) = AV.val (.bool false)) (.nd (.bool (n_13 != 1)) (.nd (.bool (n_13 != 1)) (.nd (.int .i64 n_13) (.need (AV.val (.bool b_3) = AV.val (.bool false)) (.nd (.bool b_3) (.nd (.bool true) (.nd (.tuple #[]) (.nd (.bool true) (.nd (.bool true) (.nd (.bool true) (.nd (.bool true) (.nd (.bool (n_15 != 0)) (.nd (.bool (n_15 != 0)) (.nd (.int .i64 n_15) (.need (AV.val (.bool (n_13 != 1)) = AV.val (.bool false)) (.nd (.bool (n_13 != 1)) (.nd (.bool (n_13 != 1)) (.nd (.int .i64 n_13) (.need (AV.val (.bool b_3) = AV.val (.bool false)) (.nd (.bool b_3) (.leaf (.retn [.bool false]))))))))))))))))))))))))))))))))))))))))))))))))))))))))))))))))))))))))))))) else bif n_17 != 2 then .nd (.bool (n_17 != 2)) (.nd (.bool (n_17 != 2)) (.nd (.int .i64 n_17) (.need (AV.val (.bool (n_15 != 0)) = AV.val (.bool false)) (.nd (.bool (n_15 != 0)) (.nd (.bool (n_15 != 0)) (.nd (.int .i64 n_15) (.need (AV.val (.bool (n_13 != 1)) = AV.val (.bool false)) (.nd (.bool (n_13 != 1)) (.nd (.bool (n_13 != 1)) (.nd (.int .i64 n_13) (.need (AV.val (.bool b_3) = AV.val (.bool false)) (.nd (.bool b_3) (.nd (.bool true) (.nd (.bool (n_17 != 2)) (.nd (.bool (n_17 != 2)) (.nd (.int .i64 n_17) (.need (AV.val (.bool (n_15 != 0)) = AV.val (.bool false)) (.nd (.bool (n_15 != 0)) (.nd (.bool (n_15 != 0)) (.nd (.int .i64 n_15) (.need (AV.val (.bool (n_13 != 1)) = AV.val (.bool false)) (.nd (.bool (n_13 != 1)) (.nd (.bool (n_13 != 1)) (.nd (.int .i64 n_13) (.need (AV.val (.bool b_3) = AV.val (.bool false)) (.nd (.bool b_3) (.nd (.tuple #[]) (.nd (.bool true) (.nd (.tuple #[]) (.nd (.bool true) (.nd (.bool true) (.nd (.bool true) (.nd (.bool (n_17 != 2)) (.nd (.bool (n_17 != 2)) (.nd (.int .i64 n_17) (.need (AV.val (.bool (n_15 != 0)) = AV.val (.bool false)) (.nd (.bool (n_15 != 0)) (.nd (.bool (n_15 != 0)) (.nd (.int .i64 n_15) (.need (AV.val (.bool (n_13 != 1)) = AV.val (.bool false)) (.nd (.bool (n_13 != 1)) (.nd (.bool (n_13 != 1)) (.nd (.int .i64 n_13) (.need (AV.val (.bool b_3) = AV.val (.bool false)) (.nd (.bool b_3) (.nd (.bool true) (.nd (.tuple #[]) (.nd (.bool true) (.nd (.bool true) (.nd (.bool true) (.nd (.bool (n_17 != 2)) (.nd (.bool (n_17 != 2)) (.nd (.int .i64 n_17) (.need (AV.val (.bool (n_15 != 0)) = AV.val (.bool false)) (.nd (.bool (n_15 != 0)) (.nd (.bool (n_15 != 0)) (.nd (.int .i64 n_15) (.need (AV.val (.bool (n_13 != 1)) = AV.val (.bool false)) (.nd (.bool (n_13 != 1)) (.nd (.bool (n_13 != 1)) (.nd (.int .i64 n_13) (.need (AV.val (.bool b_3) = AV.val (.bool false)) (.nd (.bool b_3) (.nd (.bool true) (.nd (.tuple #[]) (.nd (.bool true) (.nd (.bool true) (.nd (.bool true) (.nd (.bool (n_17 != 2)) (.nd (.bool (n_17 != 2)) (.nd (.int .i64 n_17) (.need (AV.val (.bool (n_15 != 0)) = AV.val (.bool false)) (.nd (.bool (n_15 != 0)) (.nd (.bool (n_15 != 0)) (.nd (.int .i64 n_15) (.need (AV.val (.bool (n_13 != 1)) = AV.val (.bool false)) (.nd (.bool (n_13 != 1)) (.nd (.bool (n_13 != 1)) (.nd (.int .i64 n_13) (.need (AV.val (.bool b_3) = AV.val (.bool false)) (.nd (.bool b_3) (.leaf (.retn [.bool false]))))))))))))))))))))))))))))))))))))))))))))))))))))))))))))))))))))))))))))))))))) else bif n_19 != 17 then .nd (.bool (n_19 != 17)) (.nd (.bool (n_19 != 17)) (.nd (.int .i64 n_19) (.need (AV.val (.bool (n_17 != 2)) = AV.val (.bool false)) (.nd (.bool (n_17 != 2)) (.nd (.bool (n_17 != 2)) (.nd (.int .i64 n_17) (.need (AV.val (.bool (n_15 != 0)) = AV.val (.bool false)) (.nd (.bool (n_15 != 0)) (.nd (.bool (n_15 != 0)) (.nd (.int .i64 n_15) (.need (AV.val (.bool (n_13 != 1)) = AV.val (.bool false)) (.nd (.bool (n_13 != 1)) (.nd (.bool (n_13 != 1)) (.nd (.int .i64 n_13) (.need (AV.val (.bool b_3) = AV.val (.bool false)) (.nd (.bool b_3) (.nd (.tuple #[]) (.nd (.bool true) (.nd (.tuple #[]) (.nd (.bool true) (.nd (.bool true) (.nd (.bool (n_19 != 17)) (.nd (.bool (n_19 != 17)) (.nd (.int .i64 n_19) (.need (AV.val (.bool (n_17 != 2)) = AV.val (.bool false)) (.nd (.bool (n_17 != 2)) (.nd (.bool (n_17 != 2)) (.nd (.int .i64 n_17) (.need (AV.val (.bool (n_15 != 0)) = AV.val (.bool false)) (.nd (.bool (n_15 != 0)) (.nd (.bool (n_15 != 0)) (.nd (.int .i64 n_15) (.need (AV.val (.bool (n_13 != 1)) = AV.val (.bool false)) (.nd (.bool (n_13 != 1)) (.nd (.bool (n_13 != 1)) (.nd (.int .i64 n_13) (.need (AV.val (.bool b_3) = AV.val (.bool false)) (.nd (.bool b_3) (.nd (.bool true) (.nd (.tuple #[]) (.nd (.bool true) (.nd (.bool true) (.nd (.bool (n_19 != 17)) (.nd (.bool (n_19 != 17)) (.nd (.int .i64 n_19) (.need (AV.val (.bool (n_17 != 2)) = AV.val (.bool false)) (.nd (.bool (n_17 != 2)) (.nd (.bool (n_17 != 2)) (.nd (.int .i64 n_17) (.need (AV.val (.bool (n_15 != 0)) = AV.val (.bool false)) (.nd (.bool (n_15 != 0)) (.nd (.bool (n_15 != 0)) (.nd (.int .i64 n_15) (.need (AV.val (.bool (n_13 != 1)) = AV.val (.bool false)) (.nd (.bool (n_13 != 1)) (.nd (.bool (n_13 != 1)) (.nd (.int .i64 n_13) (.need (AV.val (.bool b_3) = AV.val (.bool false)) (.nd (.bool b_3) (.nd (.bool true) (.nd (.tuple #[]) (.nd (.bool true) (.nd (.bool true) (.nd (.bool (n_19 != 17)) (.nd (.bool (n_19 != 17)) (.nd (.int .i64 n_19) (.need (AV.val (.bool (n_17 != 2)) = AV.val (.bool false)) (.nd (.bool (n_17 != 2)) (.nd (.bool (n_17 != 2)) (.nd (.int .i64 n_17) (.need (AV.val (.bool (n_15 != 0)) = AV.val (.bool false)) (.nd (.bool (n_15 != 0)) (.nd (.bool (n_15 != 0)) (.nd (.int .i64 n_15) (.need (AV.val (.bool (n_13 != 1)) = AV.val (.bool false)) (.nd (.bool (n_13 != 1)) (.nd (.bool (n_13 != 1)) (.nd (.int .i64 n_13) (.need (AV.val (.bool b_3) = AV.val (.bool false)) (.nd (.bool b_3) (.leaf (.retn [.bool false])))))))))))))))))))))))))))))))))))))))))))))))))))))))))))))))))))))))))))))))))) else bif n_21 != 15 then .nd (.tuple #[]) (.nd (.bool true) (.nd (.tuple #[]) (.need (AV.val (.bool (n_21 != 15)) = AV.val (.bool true)) (.nd (.bool (n_21 != 15)) (.nd (.bool (n_21 != 15)) (.nd (.int .i64 n_21) (.need (AV.val (.bool (n_19 != 17)) = AV.val (.bool false)) (.nd (.bool (n_19 != 17)) (.nd (.bool (n_19 != 17)) (.nd (.int .i64 n_19) (.need (AV.val (.bool (n_17 != 2)) = AV.val (.bool false)) (.nd (.bool (n_17 != 2)) (.nd (.bool (n_17 != 2)) (.nd (.int .i64 n_17) (.need (AV.val (.bool (n_15 != 0)) = AV.val (.bool false)) (.nd (.bool (n_15 != 0)) (.nd (.bool (n_15 != 0)) (.nd (.int .i64 n_15) (.need (AV.val (.bool (n_13 != 1)) = AV.val (.bool false)) (.nd (.bool (n_13 != 1)) (.nd (.bool (n_13 != 1)) (.nd (.int .i64 n_13) (.need (AV.val (.bool b_3) = AV.val (.bool false)) (.nd (.bool b_3) (.nd (.bool true) (.nd (.tuple #[]) (.need (AV.val (.bool (n_21 != 15)) = AV.val (.bool true)) (.nd (.bool (n_21 != 15)) (.nd (.bool (n_21 != 15)) (.nd (.int .i64 n_21) (.need (AV.val (.bool (n_19 != 17)) = AV.val (.bool false)) (.nd (.bool (n_19 != 17)) (.nd (.bool (n_19 != 17)) (.nd (.int .i64 n_19) (.need (AV.val (.bool (n_17 != 2)) = AV.val (.bool false)) (.nd (.bool (n_17 != 2)) (.nd (.bool (n_17 != 2)) (.nd (.int .i64 n_17) (.need (AV.val (.bool (n_15 != 0)) = AV.val (.bool false)) (.nd (.bool (n_15 != 0)) (.nd (.bool (n_15 != 0)) (.nd (.int .i64 n_15) (.need (AV.val (.bool (n_13 != 1)) = AV.val (.bool false)) (.nd (.bool (n_13 != 1)) (.nd (.bool (n_13 != 1)) (.nd (.int .i64 n_13) (.need (AV.val (.bool b_3) = AV.val (.bool false)) (.nd (.bool b_3) (.nd (.bool true) (.nd (.tuple #[]) (.need (AV.val (.bool (n_21 != 15)) = AV.val (.bool true)) (.nd (.bool (n_21 != 15)) (.nd (.bool (n_21 != 15)) (.nd (.int .i64 n_21) (.need (AV.val (.bool (n_19 != 17)) = AV.val (.bool false)) (.nd (.bool (n_19 != 17)) (.nd (.bool (n_19 != 17)) (.nd (.int .i64 n_19) (.need (AV.val (.bool (n_17 != 2)) = AV.val (.bool false)) (.nd (.bool (n_17 != 2)) (.nd (.bool (n_17 != 2)) (.nd (.int .i64 n_17) (.need (AV.val (.bool (n_15 != 0)) = AV.val (.bool false)) (.nd (.bool (n_15 != 0)) (.nd (.bool (n_15 != 0)) (.nd (.int .i64 n_15) (.need (AV.val (.bool (n_13 != 1)) = AV.val (.bool false)) (.nd (.bool (n_13 != 1)) (.nd (.bool (n_13 != 1)) (.nd (.int .i64 n_13) (.need (AV.val (.bool b_3) = AV.val (.bool false)) (.nd (.bool b_3) (.leaf (.retn [.bool false])))))))))))))))))))))))))))))))))))))))))))))))))))))))))))))))))))))))))) else bif b then .nd (.tuple #[]) (.nd (.bool b) (.nd (.bool b) (.need (AV.val (.bool (n_21 != 15)) = AV.val (.bool false)) (.nd (.bool (n_21 != 15)) (.nd (.bool (n_21 != 15)) (.nd (.int .i64 n_21) (.need (AV.val (.bool (n_19 != 17)) = AV.val (.bool false)) (.nd (.bool (n_19 != 17)) (.nd (.bool (n_19 != 17)) (.nd (.int .i64 n_19) (.need (AV.val (.bool (n_17 != 2)) = AV.val (.bool false)) (.nd (.bool (n_17 != 2)) (.nd (.bool (n_17 != 2)) (.nd (.int .i64 n_17) (.need (AV.val (.bool (n_15 != 0)) = AV.val (.bool false)) (.nd (.bool (n_15 != 0)) (.nd (.bool (n_15 != 0)) (.nd (.int .i64 n_15) (.need (AV.val (.bool (n_13 != 1)) = AV.val (.bool false)) (.nd (.bool (n_13 != 1)) (.nd (.bool (n_13 != 1)) (.nd (.int .i64 n_13) (.need (AV.val (.bool b_3) = AV.val (.bool false)) (.nd (.bool b_3) (.nd (.bool b) (.nd (.bool b) (.need (AV.val (.bool (n_21 != 15)) = AV.val (.bool false)) (.nd (.bool (n_21 != 15)) (.nd (.bool (n_21 != 15)) (.nd (.int .i64 n_21) (.need (AV.val (.bool (n_19 != 17)) = AV.val (.bool false)) (.nd (.bool (n_19 != 17)) (.nd (.bool (n_19 != 17)) (.nd (.int .i64 n_19) (.need (AV.val (.bool (n_17 != 2)) = AV.val (.bool false)) (.nd (.bool (n_17 != 2)) (.nd (.bool (n_17 != 2)) (.nd (.int .i64 n_17) (.need (AV.val (.bool (n_15 != 0)) = AV.val (.bool false)) (.nd (.bool (n_15 != 0)) (.nd (.bool (n_15 != 0)) (.nd (.int .i64 n_15) (.need (AV.val (.bool (n_13 != 1)) = AV.val (.bool false)) (.nd (.bool (n_13 != 1)) (.nd (.bool (n_13 != 1)) (.nd (.int .i64 n_13) (.need (AV.val (.bool b_3) = AV.val (.bool false)) (.nd (.bool b_3) (.nd (.bool b) (.nd (.bool b) (.need (AV.val (.bool (n_21 != 15)) = AV.val (.bool false)) (.nd (.bool (n_21 != 15)) (.nd (.bool (n_21 != 15)) (.nd (.int .i64 n_21) (.need (AV.val (.bool (n_19 != 17)) = AV.val (.bool false)) (.nd (.bool (n_19 != 17)) (.nd (.bool (n_19 != 17)) (.nd (.int .i64 n_19) (.need (AV.val (.bool (n_17 != 2)) = AV.val (.bool false)) (.nd (.bool (n_17 != 2)) (.nd (.bool (n_17 != 2)) (.nd (.int .i64 n_17) (.need (AV.val (.bool (n_15 != 0)) = AV.val (.bool false)) (.nd (.bool (n_15 != 0)) (.nd (.bool (n_15 != 0)) (.nd (.int .i64 n_15) (.need (AV.val (.bool (n_13 != 1)) = AV.val (.bool false)) (.nd (.bool (n_13 != 1)) (.nd (.bool (n_13 != 1)) (.nd (.int .i64 n_13) (.need (AV.val (.bool b_3) = AV.val (.bool false)) (.nd (.bool b_3) (.leaf (.retn [.bool false])))))))))))))))))))))))))))))))))))))))))))))))))))))))))))))))))))))))))) else .sem false (Instr.buildSlice 50 1 #[(0, .int .i64 1)]) fun v => .unS v fun a n c => .nd (.slice a_5 n_27 c_5) (.nd (.bool b) (.nd (.bool b) (.need (AV.val (.bool (n_21 != 15)) = AV.val (.bool false)) (.nd (.bool (n_21 != 15)) (.nd (.bool (n_21 != 15)) (.nd (.int .i64 n_21) (.need (AV.val (.bool (n_19 != 17)) = AV.val (.bool false)) (.nd (.bool (n_19 != 17)) (.nd (.bool (n_19 != 17)) (.nd (.int .i64 n_19) (.need (AV.val (.bool (n_17 != 2)) = AV.val (.bool false)) (.nd (.bool (n_17 != 2)) (.nd (.bool (n_17 != 2)) (.nd (.int .i64 n_17) (.need (AV.val (.bool (n_15 != 0)) = AV.val (.bool false)) (.nd (.bool (n_15 != 0)) (.nd (.bool (n_15 != 0)) (.nd (.int .i64 n_15) (.need (AV.val (.bool (n_13 != 1)) = AV.val (.bool false)) (.nd (.bool (n_13 != 1)) (.nd (.bool (n_13 != 1)) (.nd (.int .i64 n_13) (.need (AV.val (.bool b_3) = AV.val (.bool false)) (.nd (.bool b_3) (.call false 35 #[.slice a_5 n_27 c_5, .slice a n c] fun v => .unB v fun b_4 => .nd (.bool b) (.nd (.bool b) (.need (AV.val (.bool (n_21 != 15)) = AV.val (.bool false)) (.nd (.bool (n_21 != 15)) (.nd (.bool (n_21 != 15)) (.nd (.int .i64 n_21) (.need (AV.val (.bool (n_19 != 17)) = AV.val (.bool false)) (.nd (.bool (n_19 != 17)) (.nd (.bool (n_19 != 17)) (.nd (.int .i64 n_19) (.need (AV.val (.bool (n_17 != 2)) = AV.val (.bool false)) (.nd (.bool (n_17 != 2)) (.nd (.bool (n_17 != 2)) (.nd (.int .i64 n_17) (.need (AV.val (.bool (n_15 != 0)) = AV.val (.bool false)) (.nd (.bool (n_15 != 0)) (.nd (.bool (n_15 != 0)) (.nd (.int .i64 n_15) (.need (AV.val (.bool (n_13 != 1)) = AV.val (.bool false)) (.nd (.bool (n_13 != 1)) (.nd (.bool (n_13 != 1)) (.nd (.int .i64 n_13) (.need (AV.val (.bool b_3) = AV.val (.bool false)) (.nd (.bool b_3) (bif !b_4 then .leaf (.retn [.bool false]) else .leaf (.again [.bool b_1]))))))))))))))))))))))))))))))))))))))))))))))))))))))) (fun vs => .popB vs fun b vs => .unNil vs (.sem false (Instr.buildSlice 40 3 #[(0, .int .i64 1), (1, .int .i64 2), (2, .int .i64 0)]) fun v => .unS v fun a n c => .call false 25 #[.slice a_3 n_23 c_3, .slice a n c] fun v => .unB v fun b => bif b then .call false 42 #[.int .i64 16, .int .i64 20] fun v => .unAgg v fun l => .popI .i64 l fun n vs => .popI .i64 vs fun n_30 vs => .unNil vs (.call false 42 #[.int .i64 16, .int .i64 20] fun v => .unAgg v fun l => .popI .i64 l fun n_31 vs => .popI .i64 vs fun n_32 vs => .unNil vs (.sem false (Instr.buildSlice 45 2 #[(0, .agg #[.int .i64 1, .int .i64 0, .int .i64 n, .int .i64 n_30]), (1, .agg #[.int .i64 2, .int .i64 0, .int .i64 n_31, .int .i64 n_32])]) fun v => .unS v fun a n c => .call false 30 #[.slice a_4 n_25 c_4, .slice a n c] fun v => .unB v fun b => .leaf (.ret (.bool b)))) else .leaf (.ret (.bool false)))) (fun vs => .popB vs fun b vs => .unNil vs (.leaf (.ret (.bool b)))) fun x x_1 => .fail)) (fun vs => .popB vs fun b vs => .unNil vs (.leaf (.ret (.bool b)))) fun x x_1 => .fail))))))))))))))
theorem t16  : ftree ({ P := Tryd.prog, priv := [1, 2, 4], loops := [], joins := [{ id := 17, slots := [(0, .bool)], ro := [1, 2, 4], outs := [] }, { id := 15, slots := [(0, .bool)], ro := [1, 2, 4], outs := [] }] }) Tryd.f16 [] = n16  := by kernel_rfl
theorem w16  {X : XP} (hX : XOK X) {h : LH} {A : Value → LH → Prop} (hw : (n16 ).wp X Tryd.prog (retQ A) h) : FWK X Tryd.prog .normal 16 #[] h A := fwk_neat (t16 ) (by simp) (by kernel_rfl) (by kernel_rfl) hX hw
end Go.Proofs.YtibibhojkfapnaaDoor
end
section
namespace Go.Proofs.YtibibhojkfapnaaDoor
open Go Go.TM Go.Proofs
attribute [local irreducible] T.wp CV FWK
def exU : UseFile := ⟨3, 2, 10, 5, [⟨21, 23⟩], [⟨⟨12, 14⟩, 0, [0, 1]⟩, ⟨⟨19, 19⟩, 0, [0]⟩, ⟨⟨17, 26⟩, 0, [2]⟩, ⟨⟨18, 18⟩, 1, [0, 1]⟩], [⟨20, 0, [0, 1, 2]⟩, ⟨25, 0, [0, 2]⟩]⟩
theorem c42 {h : LH} (a b : Int) : Pu Tryd.prog 42 #[.int .i64 a, .int .i64 b] h (.agg #[.int .i64 a, .int .i64 b]) := by
  refine w42 _ _ X0_ok ?_
  unfold n42
  exact t_ret ⟨rfl, rfl⟩
theorem c35 {h : LH} {p q : Option Addr} {n c m d : Nat} {a b : List Int} (ha : Sl IntE 1 h.get p n a) (hb : Sl IntE 1 h.get q m b) : Pu Tryd.prog 35 #[.slice p n c, .slice q m d] h (.bool (decide (a = b))) := by
  refine w35 _ _ _ _ _ _ X0_ok ?_
  unfold n35
  have hn := ha.1
  have hm := hb.1
  have hbn := ha.2.1
  have hbm := hb.2.1
  refine t_cond (fun e => ?_) (fun e => ?_)
  · have : a ≠ b := by rintro rfl; simp at e; omega
    exact t_ret ⟨by simp [this], rfl⟩
  have hnm : n = m := by simp at e; omega
  refine t_loop (fun mm vs h' => h = h' ∧ ∃ i : Nat, vs = [.bool false, .int .i64 i] ∧ i ≤ n ∧ mm = n - i ∧ a.take i = b.take i) ⟨rfl, 0, rfl, Nat.zero_le _, rfl, rfl⟩ ?_
  rintro Y mm vs _ hY ⟨rfl, i, rfl, hi, rfl, hc⟩
  (repeat (first | (with_reducible first | apply gA | apply gB | apply gC | apply gD | apply gE | apply gF | apply gG | apply gH | apply gI | apply gJ | apply gK | apply gL | apply gM | apply gN | apply gO | apply gP | apply gQ | apply gR) | ((with_reducible apply gT); first | exact rfl | exact True.intro | omega | assumption) | ((with_reducible apply gS2); first | assumption | rfl) | ((with_reducible first | apply gL0 | apply gL1 | apply gL2 | apply gL3 | apply gL4); assumption)))
  refine t_if (fun e => ?_) (fun e => ?_)
  · obtain ⟨x, a1, hx, ha1, e1⟩ := ha.at (i := i) (by omega)
    obtain ⟨y, a2, hy, ha2, e2⟩ := hb.at (i := i) (by omega)
    unfold IntE at e1 e2
    (repeat (first | (with_reducible first | apply gA | apply gB | apply gC | apply gD | apply gE | apply gF | apply gG | apply gH | apply gI | apply gJ | apply gK | apply gL | apply gM | apply gN | apply gO | apply gP | apply gQ | apply gR) | ((with_reducible apply gT); first | exact rfl | exact True.intro | omega | assumption) | ((with_reducible apply gS2); first | assumption | rfl) | ((with_reducible first | apply gL0 | apply gL1 | apply gL2 | apply gL3 | apply gL4); assumption)))
    refine t_cond (fun b1 => ?_) (fun b1 => ?_)
    · (repeat (first | (with_reducible first | apply gA | apply gB | apply gC | apply gD | apply gE | apply gF | apply gG | apply gH | apply gI | apply gJ | apply gK | apply gL | apply gM | apply gN | apply gO | apply gP | apply gQ | apply gR) | ((with_reducible apply gT); first | exact rfl | exact True.intro | omega | assumption) | ((with_reducible apply gS2); first | assumption | rfl) | ((with_reducible first | apply gL0 | apply gL1 | apply gL2 | apply gL3 | apply gL4); assumption)))
      have : a ≠ b := by rintro rfl; rw [hx] at hy; cases hy; simp at b1
      exact t_ret ⟨by simp [this], rfl⟩
    · have b2 : x = y := by simpa using b1
      refine t_again (hY (n - (i + 1)) _ _ (by omega) ⟨rfl, i + 1, ?_, by omega, rfl, ?_⟩)
      · rw [wrap_id (by omega) (by omega)]; rfl
      · rw [List.take_add_one, List.take_add_one, hc, hx, hy, b2]
  · (repeat (first | (with_reducible first | apply gA | apply gB | apply gC | apply gD | apply gE | apply gF | apply gG | apply gH | apply gI | apply gJ | apply gK | apply gL | apply gM | apply gN | apply gO | apply gP | apply gQ | apply gR) | ((with_reducible apply gT); first | exact rfl | exact True.intro | omega | assumption) | ((with_reducible apply gS2); first | assumption | rfl) | ((with_reducible first | apply gL0 | apply gL1 | apply gL2 | apply gL3 | apply gL4); assumption)))
    rw [List.take_of_length_le (by omega), List.take_of_length_le (by omega)] at hc
    exact t_ret ⟨by simp [hc], rfl⟩
theorem c25 {h : LH} {p q : Option Addr} {n c m d : Nat} {a b : List Int} (ha : Sl IntE 1 h.get p n a) (hb : Sl IntE 1 h.get q m b) : Pu Tryd.prog 25 #[.slice p n c, .slice q m d] h (.bool (decide (a = b))) := by
  refine w25 _ _ _ _ _ _ X0_ok ?_
  unfold n25
  have hn := ha.1
  have hm := hb.1
  have hbn := ha.2.1
  have hbm := hb.2.1
  refine t_cond (fun e => ?_) (fun e => ?_)
  · have : a ≠ b := by rintro rfl; simp at e; omega
    exact t_ret ⟨by simp [this], rfl⟩
  have hnm : n = m := by simp at e; omega
  refine t_loop (fun mm vs h' => h = h' ∧ ∃ i : Nat, vs = [.bool false, .int .i64 i] ∧ i ≤ n ∧ mm = n - i ∧ a.take i = b.take i) ⟨rfl, 0, rfl, Nat.zero_le _, rfl, rfl⟩ ?_
  rintro Y mm vs _ hY ⟨rfl, i, rfl, hi, rfl, hc⟩
  (repeat (first | (with_reducible first | apply gA | apply gB | apply gC | apply gD | apply gE | apply gF | apply gG | apply gH | apply gI | apply gJ | apply gK | apply gL | apply gM | apply gN | apply gO | apply gP | apply gQ | apply gR) | ((with_reducible apply gT); first | exact rfl | exact True.intro | omega | assumption) | ((with_reducible apply gS2); first | assumption | rfl) | ((with_reducible first | apply gL0 | apply gL1 | apply gL2 | apply gL3 | apply gL4); assumption)))
  refine t_if (fun e => ?_) (fun e => ?_)
  · obtain ⟨x, a1, hx, ha1, e1⟩ := ha.at (i := i) (by omega)
    obtain ⟨y, a2, hy, ha2, e2⟩ := hb.at (i := i) (by omega)
    unfold IntE at e1 e2
    (repeat (first | (with_reducible first | apply gA | apply gB | apply gC | apply gD | apply gE | apply gF | apply gG | apply gH | apply gI | apply gJ | apply gK | apply gL | apply gM | apply gN | apply gO | apply gP | apply gQ | apply gR) | ((with_reducible apply gT); first | exact rfl | exact True.intro | omega | assumption) | ((with_reducible apply gS2); first | assumption | rfl) | ((with_reducible first | apply gL0 | apply gL1 | apply gL2 | apply gL3 | apply gL4); assumption)))
    refine t_cond (fun b1 => ?_) (fun b1 => ?_)
    · (repeat (first | (with_reducible first | apply gA | apply gB | apply gC | apply gD | apply gE | apply gF | apply gG | apply gH | apply gI | apply gJ | apply gK | apply gL | apply gM | apply gN | apply gO | apply gP | apply gQ | apply gR) | ((with_reducible apply gT); first | exact rfl | exact True.intro | omega | assumption) | ((with_reducible apply gS2); first | assumption | rfl) | ((with_reducible first | apply gL0 | apply gL1 | apply gL2 | apply gL3 | apply gL4); assumption)))
      have : a ≠ b := by rintro rfl; rw [hx] at hy; cases hy; simp at b1
      exact t_ret ⟨by simp [this], rfl⟩
    · have b2 : x = y := by simpa using b1
      refine t_again (hY (n - (i + 1)) _ _ (by omega) ⟨rfl, i + 1, ?_, by omega, rfl, ?_⟩)
      · rw [wrap_id (by omega) (by omega)]; rfl
      · rw [List.take_add_one, List.take_add_one, hc, hx, hy, b2]
  · (repeat (first | (with_reducible first | apply gA | apply gB | apply gC | apply gD | apply gE | apply gF | apply gG | apply gH | apply gI | apply gJ | apply gK | apply gL | apply gM | apply gN | apply gO | apply gP | apply gQ | apply gR) | ((with_reducible apply gT); first | exact rfl | exact True.intro | omega | assumption) | ((with_reducible apply gS2); first | assumption | rfl) | ((with_reducible first | apply gL0 | apply gL1 | apply gL2 | apply gL3 | apply gL4); assumption)))
    rw [List.take_of_length_le (by omega), List.take_of_length_le (by omega)] at hc
    exact t_ret ⟨by simp [hc], rfl⟩
end Go.Proofs.YtibibhojkfapnaaDoor
end
section
namespace Go.Proofs.YtibibhojkfapnaaDoor
open Go Go.TM Go.Proofs
attribute [local irreducible] T.wp CV FWK
theorem t_buildG {X : XP} {Q : Leaf → LH → Prop} {h : LH} {k : Value → T} {t el : TypeId} {n s b : Nat} {parts : Array (Nat × Value)} {z : Value} {cells : Array Value} (hu : Tryd.prog.underlying t = some (.slice el)) (hi : (Tryd.prog.info? el).map (fun i => (i.size, i.bytes, i.zero)) = some (s, b, some z)) (hn : n * s ≤ 2 ^ 24) (hpos : n * s ≠ 0)
    (hf : Instr.fill (fun i => some (i * s, s)) ((Array.range (n * s)).map (z.cells[· % z.cells.size]!)) parts.toList = some cells)
    (hk : ∀ r h', h.le h' → h.get r = none → h'.get r = some (true, .cells cells el (0, 0)) → (k (.slice (some ⟨r, 0, none⟩) n n)).wp X Tryd.prog Q h') : (T.sem false (Instr.buildSlice t n parts) k).wp X Tryd.prog Q h :=
  t_build hu hi hn hpos hf fun r hr => hk r _ (LH.upd_le hr) hr (Cells.upd_self _ _ _)
theorem sl_ints {h : Cells} {r : Nat} {m : Bool} {el : TypeId} {l : List Int} {cs : Array Value} (hcs : cs = (l.map (Value.int .i64)).toArray) (hr : h r = some (m, .cells cs el (0, 0))) (hb : l.length < 4611686018427387904) : Sl IntE 1 h (some ⟨r, 0, none⟩) l.length l := by
  refine ⟨rfl, hb, fun i x hx => ⟨_, rfl, ?_⟩⟩
  unfold IntE
  rw [add_plain, add_plain]
  subst hcs
  simp [Cells.cell?, hr, hx]
theorem cell_row {h : Cells} {r i : Nat} {m : Bool} {cs : Array Value} {el : TypeId} {v : Value} (hr : h r = some (m, .cells cs el (0, 0))) (hv : cs[i]? = some v) : h.cell? ⟨r, i, none⟩ = some v := by
  simp [Cells.cell?, hr, hv]
theorem exRep {h : Cells} {r1 r2 r3 r4 r5 r6 r7 r8 r9 : Nat} (e1 : h r1 = some (true, .cells #[.int .i64 21, .int .i64 23] 30 (0, 0))) (e2 : h r2 = some (true, .cells #[.int .i64 0, .int .i64 1] 3 (0, 0))) (e3 : h r3 = some (true, .cells #[.int .i64 0] 3 (0, 0))) (e4 : h r4 = some (true, .cells #[.int .i64 2] 3 (0, 0))) (e5 : h r5 = some (true, .cells #[.int .i64 0, .int .i64 1] 3 (0, 0)))
    (e6 : h r6 = some (true, .cells #[.int .i64 12, .int .i64 14, .int .i64 0, .slice (some ⟨r2, 0, none⟩) 2 2, .int .i64 19, .int .i64 19, .int .i64 0, .slice (some ⟨r3, 0, none⟩) 1 1, .int .i64 17, .int .i64 26, .int .i64 0, .slice (some ⟨r4, 0, none⟩) 1 1, .int .i64 18, .int .i64 18, .int .i64 1, .slice (some ⟨r5, 0, none⟩) 2 2] 69 (0, 0)))
    (e7 : h r7 = some (true, .cells #[.int .i64 0, .int .i64 1, .int .i64 2] 3 (0, 0))) (e8 : h r8 = some (true, .cells #[.int .i64 0, .int .i64 2] 3 (0, 0))) (e9 : h r9 = some (true, .cells #[.int .i64 20, .int .i64 0, .slice (some ⟨r7, 0, none⟩) 3 3, .int .i64 25, .int .i64 0, .slice (some ⟨r8, 0, none⟩) 2 2] 64 (0, 0))) :
    FileR h ⟨some ⟨r1, 0, none⟩, 1, 1, some ⟨r6, 0, none⟩, 4, 4, some ⟨r9, 0, none⟩, 2, 2⟩ exU := by
  have cr : ∀ {r i j : Nat} {m : Bool} {cs : Array Value} {el : TypeId} {v : Value}, h r = some (m, .cells cs el (0, 0)) → cs[i + j]? = some v → h.cell? (Addr.add (Addr.add ⟨r, 0, none⟩ i) j) = some v := by
    intro r i j m cs el v hr hv
    rw [add_plain, add_plain, Nat.zero_add]; exact cell_row hr hv
  refine ⟨⟨rfl, by show (1 : Nat) < _; omega, ?_⟩, ⟨rfl, by show (4 : Nat) < _; omega, ?_⟩, ⟨rfl, by show (2 : Nat) < _; omega, ?_⟩⟩
  · intro i x hx
    match i, hx with
    | 0, hx => cases hx; exact ⟨_, rfl, cr e1 rfl, cr e1 rfl⟩
    | i + 1, hx => simp [exU] at hx
  · intro i x hx
    match i, hx with
    | 0, hx => cases hx; exact ⟨_, rfl, cr e6 rfl, cr e6 rfl, cr e6 rfl, _, _, _, cr e6 rfl, sl_ints (l := [0, 1]) rfl e2 (by show (2 : Nat) < _; omega)⟩
    | 1, hx => cases hx; exact ⟨_, rfl, cr e6 rfl, cr e6 rfl, cr e6 rfl, _, _, _, cr e6 rfl, sl_ints (l := [0]) rfl e3 (by show (1 : Nat) < _; omega)⟩
    | 2, hx => cases hx; exact ⟨_, rfl, cr e6 rfl, cr e6 rfl, cr e6 rfl, _, _, _, cr e6 rfl, sl_ints (l := [2]) rfl e4 (by show (1 : Nat) < _; omega)⟩
    | 3, hx => cases hx; exact ⟨_, rfl, cr e6 rfl, cr e6 rfl, cr e6 rfl, _, _, _, cr e6 rfl, sl_ints (l := [0, 1]) rfl e5 (by show (2 : Nat) < _; omega)⟩
    | i + 4, hx => simp [exU] at hx
  · intro i x hx
    match i, hx with
    | 0, hx => cases hx; exact ⟨_, rfl, cr e9 rfl, cr e9 rfl, _, _, _, cr e9 rfl, sl_ints (l := [0, 1, 2]) rfl e7 (by show (3 : Nat) < _; omega)⟩
    | 1, hx => cases hx; exact ⟨_, rfl, cr e9 rfl, cr e9 rfl, _, _, _, cr e9 rfl, sl_ints (l := [0, 2]) rfl e8 (by show (2 : Nat) < _; omega)⟩
    | i + 2, hx => simp [exU] at hx
set_option maxRecDepth 100000 in
theorem c52 {h : LH} : Gr Tryd.prog 52 #[] h fun r h' => ∃ f, r = fileV f exU ∧ FileR h'.get f exU := by
  refine w52 X0_ok ?_
  unfold n52
  refine t_pu (c42 _ _) ?_
  (repeat (first | (with_reducible first | apply gA | apply gB | apply gC | apply gD | apply gE | apply gF | apply gG | apply gH | apply gI | apply gJ | apply gK | apply gL | apply gM | apply gN | apply gO | apply gP | apply gQ | apply gR) | ((with_reducible apply gT); first | exact rfl | exact True.intro | omega | assumption) | ((with_reducible apply gS2); first | assumption | rfl) | ((with_reducible first | apply gL0 | apply gL1 | apply gL2 | apply gL3 | apply gL4); assumption)))
  refine t_buildG und22 inf30 (by decide) (by decide) (cells := #[.int .i64 21, .int .i64 23]) (by kernel_rfl) fun r1 h1 le1 _ e1 => ?_
  (repeat (first | (with_reducible first | apply gA | apply gB | apply gC | apply gD | apply gE | apply gF | apply gG | apply gH | apply gI | apply gJ | apply gK | apply gL | apply gM | apply gN | apply gO | apply gP | apply gQ | apply gR) | ((with_reducible apply gT); first | exact rfl | exact True.intro | omega | assumption) | ((with_reducible apply gS2); first | assumption | rfl) | ((with_reducible first | apply gL0 | apply gL1 | apply gL2 | apply gL3 | apply gL4); assumption)))
  refine t_pu (c42 _ _) ?_
  (repeat (first | (with_reducible first | apply gA | apply gB | apply gC | apply gD | apply gE | apply gF | apply gG | apply gH | apply gI | apply gJ | apply gK | apply gL | apply gM | apply gN | apply gO | apply gP | apply gQ | apply gR) | ((with_reducible apply gT); first | exact rfl | exact True.intro | omega | assumption) | ((with_reducible apply gS2); first | assumption | rfl) | ((with_reducible first | apply gL0 | apply gL1 | apply gL2 | apply gL3 | apply gL4); assumption)))
  refine t_buildG und50 inf3 (by decide) (by decide) (cells := #[.int .i64 0, .int .i64 1]) (by kernel_rfl) fun r2 h2 le2 _ e2 => ?_
  (repeat (first | (with_reducible first | apply gA | apply gB | apply gC | apply gD | apply gE | apply gF | apply gG | apply gH | apply gI | apply gJ | apply gK | apply gL | apply gM | apply gN | apply gO | apply gP | apply gQ | apply gR) | ((with_reducible apply gT); first | exact rfl | exact True.intro | omega | assumption) | ((with_reducible apply gS2); first | assumption | rfl) | ((with_reducible first | apply gL0 | apply gL1 | apply gL2 | apply gL3 | apply gL4); assumption)))
  refine t_pu (c42 _ _) ?_
  (repeat (first | (with_reducible first | apply gA | apply gB | apply gC | apply gD | apply gE | apply gF | apply gG | apply gH | apply gI | apply gJ | apply gK | apply gL | apply gM | apply gN | apply gO | apply gP | apply gQ | apply gR) | ((with_reducible apply gT); first | exact rfl | exact True.intro | omega | assumption) | ((with_reducible apply gS2); first | assumption | rfl) | ((with_reducible first | apply gL0 | apply gL1 | apply gL2 | apply gL3 | apply gL4); assumption)))
  refine t_buildG und50 inf3 (by decide) (by decide) (cells := #[.int .i64 0]) (by kernel_rfl) fun r3 h3 le3 _ e3 => ?_
  (repeat (first | (with_reducible first | apply gA | apply gB | apply gC | apply gD | apply gE | apply gF | apply gG | apply gH | apply gI | apply gJ | apply gK | apply gL | apply gM | apply gN | apply gO | apply gP | apply gQ | apply gR) | ((with_reducible apply gT); first | exact rfl | exact True.intro | omega | assumption) | ((with_reducible apply gS2); first | assumption | rfl) | ((with_reducible first | apply gL0 | apply gL1 | apply gL2 | apply gL3 | apply gL4); assumption)))
  refine t_pu (c42 _ _) ?_
  (repeat (first | (with_reducible first | apply gA | apply gB | apply gC | apply gD | apply gE | apply gF | apply gG | apply gH | apply gI | apply gJ | apply gK | apply gL | apply gM | apply gN | apply gO | apply gP | apply gQ | apply gR) | ((with_reducible apply gT); first | exact rfl | exact True.intro | omega | assumption) | ((with_reducible apply gS2); first | assumption | rfl) | ((with_reducible first | apply gL0 | apply gL1 | apply gL2 | apply gL3 | apply gL4); assumption)))
  refine t_buildG und50 inf3 (by decide) (by decide) (cells := #[.int .i64 2]) (by kernel_rfl) fun r4 h4 le4 _ e4 => ?_
  (repeat (first | (with_reducible first | apply gA | apply gB | apply gC | apply gD | apply gE | apply gF | apply gG | apply gH | apply gI | apply gJ | apply gK | apply gL | apply gM | apply gN | apply gO | apply gP | apply gQ | apply gR) | ((with_reducible apply gT); first | exact rfl | exact True.intro | omega | assumption) | ((with_reducible apply gS2); first | assumption | rfl) | ((with_reducible first | apply gL0 | apply gL1 | apply gL2 | apply gL3 | apply gL4); assumption)))
  refine t_pu (c42 _ _) ?_
  (repeat (first | (with_reducible first | apply gA | apply gB | apply gC | apply gD | apply gE | apply gF | apply gG | apply gH | apply gI | apply gJ | apply gK | apply gL | apply gM | apply gN | apply gO | apply gP | apply gQ | apply gR) | ((with_reducible apply gT); first | exact rfl | exact True.intro | omega | assumption) | ((with_reducible apply gS2); first | assumption | rfl) | ((with_reducible first | apply gL0 | apply gL1 | apply gL2 | apply gL3 | apply gL4); assumption)))
  refine t_buildG und50 inf3 (by decide) (by decide) (cells := #[.int .i64 0, .int .i64 1]) (by kernel_rfl) fun r5 h5 le5 _ e5 => ?_
  (repeat (first | (with_reducible first | apply gA | apply gB | apply gC | apply gD | apply gE | apply gF | apply gG | apply gH | apply gI | apply gJ | apply gK | apply gL | apply gM | apply gN | apply gO | apply gP | apply gQ | apply gR) | ((with_reducible apply gT); first | exact rfl | exact True.intro | omega | assumption) | ((with_reducible apply gS2); first | assumption | rfl) | ((with_reducible first | apply gL0 | apply gL1 | apply gL2 | apply gL3 | apply gL4); assumption)))
  refine t_buildG und23 inf69 (by decide) (by decide) (cells := #[.int .i64 12, .int .i64 14, .int .i64 0, .slice (some ⟨r2, 0, none⟩) 2 2, .int .i64 19, .int .i64 19, .int .i64 0, .slice (some ⟨r3, 0, none⟩) 1 1, .int .i64 17, .int .i64 26, .int .i64 0, .slice (some ⟨r4, 0, none⟩) 1 1, .int .i64 18, .int .i64 18, .int .i64 1, .slice (some ⟨r5, 0, none⟩) 2 2]) (by kernel_rfl) fun r6 h6 le6 _ e6 => ?_
  (repeat (first | (with_reducible first | apply gA | apply gB | apply gC | apply gD | apply gE | apply gF | apply gG | apply gH | apply gI | apply gJ | apply gK | apply gL | apply gM | apply gN | apply gO | apply gP | apply gQ | apply gR) | ((with_reducible apply gT); first | exact rfl | exact True.intro | omega | assumption) | ((with_reducible apply gS2); first | assumption | rfl) | ((with_reducible first | apply gL0 | apply gL1 | apply gL2 | apply gL3 | apply gL4); assumption)))
  refine t_buildG und50 inf3 (by decide) (by decide) (cells := #[.int .i64 0, .int .i64 1, .int .i64 2]) (by kernel_rfl) fun r7 h7 le7 _ e7 => ?_
  (repeat (first | (with_reducible first | apply gA | apply gB | apply gC | apply gD | apply gE | apply gF | apply gG | apply gH | apply gI | apply gJ | apply gK | apply gL | apply gM | apply gN | apply gO | apply gP | apply gQ | apply gR) | ((with_reducible apply gT); first | exact rfl | exact True.intro | omega | assumption) | ((with_reducible apply gS2); first | assumption | rfl) | ((with_reducible first | apply gL0 | apply gL1 | apply gL2 | apply gL3 | apply gL4); assumption)))
  refine t_buildG und50 inf3 (by decide) (by decide) (cells := #[.int .i64 0, .int .i64 2]) (by kernel_rfl) fun r8 h8 le8 _ e8 => ?_
  (repeat (first | (with_reducible first | apply gA | apply gB | apply gC | apply gD | apply gE | apply gF | apply gG | apply gH | apply gI | apply gJ | apply gK | apply gL | apply gM | apply gN | apply gO | apply gP | apply gQ | apply gR) | ((with_reducible apply gT); first | exact rfl | exact True.intro | omega | assumption) | ((with_reducible apply gS2); first | assumption | rfl) | ((with_reducible first | apply gL0 | apply gL1 | apply gL2 | apply gL3 | apply gL4); assumption)))
  refine t_buildG und24 inf64 (by decide) (by decide) (cells := #[.int .i64 20, .int .i64 0, .slice (some ⟨r7, 0, none⟩) 3 3, .int .i64 25, .int .i64 0, .slice (some ⟨r8, 0, none⟩) 2 2]) (by kernel_rfl) fun r9 h9 le9 _ e9 => ?_
  (repeat (first | (with_reducible first | apply gA | apply gB | apply gC | apply gD | apply gE | apply gF | apply gG | apply gH | apply gI | apply gJ | apply gK | apply gL | apply gM | apply gN | apply gO | apply gP | apply gQ | apply gR) | ((with_reducible apply gT); first | exact rfl | exact True.intro | omega | assumption) | ((with_reducible apply gS2); first | assumption | rfl) | ((with_reducible first | apply gL0 | apply gL1 | apply gL2 | apply gL3 | apply gL4); assumption)))
  have l89 := le9
  have l79 := LH.le_trans le8 l89
  have l69 := LH.le_trans le7 l79
  have l59 := LH.le_trans le6 l69
  have l49 := LH.le_trans le5 l59
  have l39 := LH.le_trans le4 l49
  have l29 := LH.le_trans le3 l39
  have l19 := LH.le_trans le2 l29
  have e1 := l19.1 _ _ e1
  have e2 := l29.1 _ _ e2
  have e3 := l39.1 _ _ e3
  have e4 := l49.1 _ _ e4
  have e5 := l59.1 _ _ e5
  have e6 := l69.1 _ _ e6
  have e7 := l79.1 _ _ e7
  have e8 := l89.1 _ _ e8
  refine t_ret ⟨LH.le_trans le1 l19, ⟨some ⟨r1, 0, none⟩, 1, 1, some ⟨r6, 0, none⟩, 4, 4, some ⟨r9, 0, none⟩, 2, 2⟩, rfl, ?_⟩
  exact exRep e1 e2 e3 e4 e5 e6 e7 e8 e9
end Go.Proofs.YtibibhojkfapnaaDoor
end
section
namespace Go.TM
open Go Go.Conc
variable {P : Program} {E : Halt → Cells → Prop} {h : Cells}
theorem lwp_equalIn2 {Q : Bool → Cells → Prop} {t : TypeId} {k : Nat} {a b c d : Int} (ht : twoInts P t = true) (hq : Q (decide (a = c ∧ b = d)) h) : Sem.lwp P (Op.equalIn (k + 1 + 1) t (.agg #[.int .i64 a, .int .i64 b]) (.agg #[.int .i64 c, .int .i64 d])) Q E h := by
  obtain ⟨f, g, hu, n1, n2, i1, i2, o1, o2, hs⟩ := twoInts_spec ht
  rw [Op.equalIn]
  rw [lwp_bind, lwp_underlying hu]
  simp only [lwp_bind, lwp_program, hs, Bool.false_eq_true, if_false, List.forIn_toArray, List.forIn_cons, List.forIn_nil, n1, n2, ne_eq, not_false_eq_true, if_true]
  refine lwp_partI i1 (v := .int .i64 a) (by rw [o1]; rfl) ?_
  refine lwp_partI i1 (v := .int .i64 c) (by rw [o1]; rfl) ?_
  refine lwp_equalI i1 ?_
  by_cases e1 : a = c
  · subst e1
    simp only [beq_self_eq_true, Bool.not_true, Bool.false_eq_true, if_false, lwp_pure, lwp_bind]
    refine lwp_partI i2 (v := .int .i64 b) (by rw [o2]; rfl) ?_
    refine lwp_partI i2 (v := .int .i64 d) (by rw [o2]; rfl) ?_
    refine lwp_equalI i2 ?_
    by_cases e2 : b = d
    · subst e2
      simpa [lwp_pure] using hq
    · have e3 : (b == d) = false := by simpa using e2
      simpa [lwp_pure, e2, e3] using hq
  · have e3 : (a == c) = false := by simpa using e1
    simpa [lwp_pure, e1, e3] using hq
def twoAndTwo (P : Program) (t : TypeId) : Bool := match P.underlying t with
  | some (.struct fs) => (match fs.toList with
    | [a, b, w] => a.name != "_" && b.name != "_" && w.name != "_" && isI64 P a.type && isI64 P b.type && twoInts P w.type && Nat.beq a.offset 0 && Nat.beq b.offset 1 && Nat.beq w.offset 2 && (match P.info? w.type with | some i => Nat.beq i.size 2 | none => false)
    | _ => false) && !P.stoodInHeld t
  | _ => false
theorem twoInts_agg {t : TypeId} (ht : twoInts P t = true) : isAggT P t = true := by
  obtain ⟨f, g, hu, _⟩ := twoInts_spec ht
  unfold isAggT; rw [hu]
theorem lwp_part2 {Q : Value → Cells → Prop} {t : TypeId} {cs : Array Value} {o : Nat} {i : TypeInfo} (ht : twoInts P t = true) (hi : P.info? t = some i) (hs : i.size = 2) (hq : Q (.agg (cs.extract o (o + 2))) h) : Sem.lwp P (part t cs o) Q E h := by
  unfold part
  rw [lwp_bind, lwp_isAgg_true (twoInts_agg ht)]
  simp only [if_true, lwp_bind, lwp_sizeOf hi, hs, lwp_pure]
  exact hq
theorem lwp_equal4 {Q : Bool → Cells → Prop} {t : TypeId} {a b c d a' b' c' d' : Int} (ht : twoAndTwo P t = true) (hq : Q (decide (a = a' ∧ b = b' ∧ c = c' ∧ d = d')) h) : Sem.lwp P (Op.equal t (.agg #[.int .i64 a, .int .i64 b, .int .i64 c, .int .i64 d]) (.agg #[.int .i64 a', .int .i64 b', .int .i64 c', .int .i64 d'])) Q E h := by
  unfold twoAndTwo at ht
  split at ht
  next fs hu =>
    simp only [Bool.and_eq_true, Bool.not_eq_true'] at ht
    obtain ⟨h1, hs⟩ := ht
    split at h1
    next x y w hfs =>
      simp only [Bool.and_eq_true, bne_iff_ne] at h1
      obtain ⟨⟨⟨⟨⟨⟨⟨⟨⟨n1, n2⟩, n3⟩, i1⟩, i2⟩, i3⟩, o1⟩, o2⟩, o3⟩, sz⟩ := h1
      have hfs' : fs = #[x, y, w] := by rw [← hfs]
      subst hfs'
      have o1 := nbeq_true o1
      have o2 := nbeq_true o2
      have o3 := nbeq_true o3
      cases hi : P.info? w.type with
      | none => rw [hi] at sz; cases sz
      | some inf =>
        rw [hi] at sz
        have sz := nbeq_true sz
        unfold Op.equal
        have hmd : Op.maxDepth = 9997 + 1 + 1 + 1 := rfl
        rw [hmd, Op.equalIn]
        rw [lwp_bind, lwp_underlying hu]
        simp only [lwp_bind, lwp_program, hs, Bool.false_eq_true, if_false, List.forIn_toArray, List.forIn_cons, List.forIn_nil, n1, n2, n3, ne_eq, not_false_eq_true, if_true]
        refine lwp_partI i1 (v := .int .i64 a) (by rw [o1]; rfl) ?_
        refine lwp_partI i1 (v := .int .i64 a') (by rw [o1]; rfl) ?_
        refine lwp_equalI i1 ?_
        by_cases e1 : a = a'
        · subst e1
          simp only [beq_self_eq_true, Bool.not_true, Bool.false_eq_true, if_false, lwp_pure, lwp_bind]
          refine lwp_partI i2 (v := .int .i64 b) (by rw [o2]; rfl) ?_
          refine lwp_partI i2 (v := .int .i64 b') (by rw [o2]; rfl) ?_
          refine lwp_equalI i2 ?_
          by_cases e2 : b = b'
          · subst e2
            simp only [beq_self_eq_true, Bool.not_true, Bool.false_eq_true, if_false, lwp_pure, lwp_bind]
            refine lwp_part2 i3 hi sz ?_
            refine lwp_part2 i3 hi sz ?_
            rw [o3]
            refine lwp_equalIn2 (a := c) (b := d) (c := c') (d := d') i3 ?_
            by_cases e3 : c = c' ∧ d = d'
            · simpa [lwp_pure, e3] using hq
            · simpa [lwp_pure, e3] using hq
          · have e3 : (b == b') = false := by simpa using e2
            simpa [lwp_pure, e2, e3] using hq
        · have e3 : (a == a') = false := by simpa using e1
          simpa [lwp_pure, e1, e3] using hq
    next => cases h1
  next => cases ht
variable {X : XP} {Q : Leaf → LH → Prop}
theorem t_ne4 {h : LH} {K : Value → T} {t : TypeId} {x y : Operand} {a b c d a' b' c' d' : Int} (ht : twoAndTwo P t = true) (hg : P.eqGuardType P.depth t = false) (hk : (K (.bool (!decide (a = a' ∧ b = b' ∧ c = c' ∧ d = d')))).wp X P Q h) :
    (T.sem false (Sem.bind (eqGuard .neq t x y (.agg #[.int .i64 a, .int .i64 b, .int .i64 c, .int .i64 d]) (.agg #[.int .i64 a', .int .i64 b', .int .i64 c', .int .i64 d'])) fun _ => binOp .neq t (.agg #[.int .i64 a, .int .i64 b, .int .i64 c, .int .i64 d]) (.agg #[.int .i64 a', .int .i64 b', .int .i64 c', .int .i64 d'])) K).wp X P Q h := by
  refine t_sem (A := fun w h' => w = .bool (!decide (a = a' ∧ b = b' ∧ c = c' ∧ d = d')) ∧ h' = h.get) (Sem.lwp_bind _ _ ?_) (by rintro w h' ⟨rfl, rfl⟩; exact hk)
  unfold eqGuard
  simp only [Bool.not_true, Bool.false_eq_true, if_false, lwp_bind, lwp_program, hg, Bool.not_false, if_true, lwp_pure]
  unfold binOp
  rw [lwp_bind]
  exact lwp_equal4 ht ⟨rfl, rfl⟩
end Go.TM
end
section
namespace Go.Proofs.YtibibhojkfapnaaDoor
open Go Go.TM Go.Proofs
attribute [local irreducible] T.wp CV FWK
theorem two79 : twoAndTwo Tryd.prog 79 = true := by kernel_rfl
theorem g79 : Tryd.prog.eqGuardType Tryd.prog.depth 79 = false := by kernel_rfl
theorem c30 {h : LH} {p q : Option Addr} {n c m d : Nat} {a b : List Lack} (ha : Sl LackE 4 h.get p n a) (hb : Sl LackE 4 h.get q m b) : Pu Tryd.prog 30 #[.slice p n c, .slice q m d] h (.bool (decide (a = b))) := by
  refine w30 _ _ _ _ _ _ X0_ok ?_
  unfold n30
  have hn := ha.1
  have hm := hb.1
  have hbn := ha.2.1
  have hbm := hb.2.1
  refine t_cond (fun e => ?_) (fun e => ?_)
  · have : a ≠ b := by rintro rfl; simp at e; omega
    exact t_ret ⟨by simp [this], rfl⟩
  have hnm : n = m := by simp at e; omega
  refine t_loop (fun mm vs h' => h = h' ∧ ∃ i : Nat, vs = [.bool false, .int .i64 i] ∧ i ≤ n ∧ mm = n - i ∧ a.take i = b.take i) ⟨rfl, 0, rfl, Nat.zero_le _, rfl, rfl⟩ ?_
  rintro Y mm vs _ hY ⟨rfl, i, rfl, hi, rfl, hc⟩
  (repeat (first | (with_reducible first | apply gA | apply gB | apply gC | apply gD | apply gE | apply gF | apply gG | apply gH | apply gI | apply gJ | apply gK | apply gL | apply gM | apply gN | apply gO | apply gP | apply gQ | apply gR) | ((with_reducible apply gT); first | exact rfl | exact True.intro | omega | assumption) | ((with_reducible apply gS2); first | assumption | rfl) | ((with_reducible first | apply gL0 | apply gL1 | apply gL2 | apply gL3 | apply gL4); assumption)))
  refine t_if (fun e => ?_) (fun e => ?_)
  · obtain ⟨x, a1, hx, ha1, e1, e2, e3, e4⟩ := ha.at (i := i) (by omega)
    obtain ⟨y, a2, hy, ha2, f1, f2, f3, f4⟩ := hb.at (i := i) (by omega)
    (repeat (first | (with_reducible first | apply gA | apply gB | apply gC | apply gD | apply gE | apply gF | apply gG | apply gH | apply gI | apply gJ | apply gK | apply gL | apply gM | apply gN | apply gO | apply gP | apply gQ | apply gR) | ((with_reducible apply gT); first | exact rfl | exact True.intro | omega | assumption) | ((with_reducible apply gS2); first | assumption | rfl) | ((with_reducible first | apply gL0 | apply gL1 | apply gL2 | apply gL3 | apply gL4); assumption)))
    refine t_ne4 two79 g79 ?_
    (repeat (first | (with_reducible first | apply gA | apply gB | apply gC | apply gD | apply gE | apply gF | apply gG | apply gH | apply gI | apply gJ | apply gK | apply gL | apply gM | apply gN | apply gO | apply gP | apply gQ | apply gR) | ((with_reducible apply gT); first | exact rfl | exact True.intro | omega | assumption) | ((with_reducible apply gS2); first | assumption | rfl) | ((with_reducible first | apply gL0 | apply gL1 | apply gL2 | apply gL3 | apply gL4); assumption)))
    refine t_cond (fun b1 => ?_) (fun b1 => ?_)
    · (repeat (first | (with_reducible first | apply gA | apply gB | apply gC | apply gD | apply gE | apply gF | apply gG | apply gH | apply gI | apply gJ | apply gK | apply gL | apply gM | apply gN | apply gO | apply gP | apply gQ | apply gR) | ((with_reducible apply gT); first | exact rfl | exact True.intro | omega | assumption) | ((with_reducible apply gS2); first | assumption | rfl) | ((with_reducible first | apply gL0 | apply gL1 | apply gL2 | apply gL3 | apply gL4); assumption)))
      have : a ≠ b := by rintro rfl; rw [hx] at hy; cases hy; simp at b1
      exact t_ret ⟨by simp [this], rfl⟩
    · have b2 : x = y := by
        obtain ⟨x1, x2, x3, x4⟩ := x
        obtain ⟨y1, y2, y3, y4⟩ := y
        simp at b1
        obtain ⟨rfl, rfl, rfl, rfl⟩ := b1
        rfl
      refine t_again (hY (n - (i + 1)) _ _ (by omega) ⟨rfl, i + 1, ?_, by omega, rfl, ?_⟩)
      · rw [wrap_id (by omega) (by omega)]; rfl
      · rw [List.take_add_one, List.take_add_one, hc, hx, hy, b2]
  · (repeat (first | (with_reducible first | apply gA | apply gB | apply gC | apply gD | apply gE | apply gF | apply gG | apply gH | apply gI | apply gJ | apply gK | apply gL | apply gM | apply gN | apply gO | apply gP | apply gQ | apply gR) | ((with_reducible apply gT); first | exact rfl | exact True.intro | omega | assumption) | ((with_reducible apply gS2); first | assumption | rfl) | ((with_reducible first | apply gL0 | apply gL1 | apply gL2 | apply gL3 | apply gL4); assumption)))
    rw [List.take_of_length_le (by omega), List.take_of_length_le (by omega)] at hc
    exact t_ret ⟨by simp [hc], rfl⟩
theorem c15 {h : LH} {f : FileC} {u : UseFile} (hu : FileR h.get f u) : FW X0 Tryd.prog 15 #[fileV f u] h fun r h' => h = h' ∧ ∃ b : Bool, r = .bool b ∧ (b = false → u.excuses.length ≤ 20 ∧ u.papers.length ≤ 20 ∧ u.requests.length ≤ 20) := by
  refine w15 _ _ _ _ _ _ _ _ _ _ _ _ _ X0_ok ?_
  unfold n15
  have x0 := hu.excuses.1
  have p0 := hu.papers.1
  have r0 := hu.requests.1
  have pb := hu.papers.2.1
  have rb := hu.requests.2.1
  refine t_blk (fun vs h' => vs = [.bool false] ∧ h = h' ∧ u.excuses.length ≤ 20 ∧ u.papers.length ≤ 20 ∧ u.requests.length ≤ 20) ?_ ?_
  · refine t_if (fun e1 => ?_) (fun e1 => ?_)
    · (repeat (first | (with_reducible first | apply gA | apply gB | apply gC | apply gD | apply gE | apply gF | apply gG | apply gH | apply gI | apply gJ | apply gK | apply gL | apply gM | apply gN | apply gO | apply gP | apply gQ | apply gR) | ((with_reducible apply gT); first | exact rfl | exact True.intro | omega | assumption) | ((with_reducible apply gS2); first | assumption | rfl) | ((with_reducible first | apply gL0 | apply gL1 | apply gL2 | apply gL3 | apply gL4); assumption)))
      exact t_ret ⟨rfl, true, rfl, fun e => by cases e⟩
    refine t_if (fun e2 => ?_) (fun e2 => ?_)
    · (repeat (first | (with_reducible first | apply gA | apply gB | apply gC | apply gD | apply gE | apply gF | apply gG | apply gH | apply gI | apply gJ | apply gK | apply gL | apply gM | apply gN | apply gO | apply gP | apply gQ | apply gR) | ((with_reducible apply gT); first | exact rfl | exact True.intro | omega | assumption) | ((with_reducible apply gS2); first | assumption | rfl) | ((with_reducible first | apply gL0 | apply gL1 | apply gL2 | apply gL3 | apply gL4); assumption)))
      exact t_ret ⟨rfl, true, rfl, fun e => by cases e⟩
    refine t_if (fun e3 => ?_) (fun e3 => ?_)
    · (repeat (first | (with_reducible first | apply gA | apply gB | apply gC | apply gD | apply gE | apply gF | apply gG | apply gH | apply gI | apply gJ | apply gK | apply gL | apply gM | apply gN | apply gO | apply gP | apply gQ | apply gR) | ((with_reducible apply gT); first | exact rfl | exact True.intro | omega | assumption) | ((with_reducible apply gS2); first | assumption | rfl) | ((with_reducible first | apply gL0 | apply gL1 | apply gL2 | apply gL3 | apply gL4); assumption)))
      exact t_ret ⟨rfl, true, rfl, fun e => by cases e⟩
    exact t_again ⟨rfl, rfl, by omega, by omega, by omega⟩
  rintro vs _ ⟨rfl, rfl, h1, h2, h3⟩
  (repeat (first | (with_reducible first | apply gA | apply gB | apply gC | apply gD | apply gE | apply gF | apply gG | apply gH | apply gI | apply gJ | apply gK | apply gL | apply gM | apply gN | apply gO | apply gP | apply gQ | apply gR) | ((with_reducible apply gT); first | exact rfl | exact True.intro | omega | assumption) | ((with_reducible apply gS2); first | assumption | rfl) | ((with_reducible first | apply gL0 | apply gL1 | apply gL2 | apply gL3 | apply gL4); assumption)))
  refine t_loop (fun mm vs h' => h = h' ∧ ∃ i : Nat, vs = [.bool false, .int .i64 i] ∧ i ≤ f.n5 ∧ mm = f.n5 - i) ⟨rfl, 0, rfl, Nat.zero_le _, rfl⟩ ?_
  rintro Y mm vs _ hY ⟨rfl, i, rfl, hi, rfl⟩
  (repeat (first | (with_reducible first | apply gA | apply gB | apply gC | apply gD | apply gE | apply gF | apply gG | apply gH | apply gI | apply gJ | apply gK | apply gL | apply gM | apply gN | apply gO | apply gP | apply gQ | apply gR) | ((with_reducible apply gT); first | exact rfl | exact True.intro | omega | assumption) | ((with_reducible apply gS2); first | assumption | rfl) | ((with_reducible first | apply gL0 | apply gL1 | apply gL2 | apply gL3 | apply gL4); assumption)))
  refine t_if (fun e => ?_) (fun e => ?_)
  · obtain ⟨x, a1, hx, ha1, e1, e2, e3, q, m, c, e4, e5⟩ := hu.papers.at (i := i) (by omega)
    (repeat (first | (with_reducible first | apply gA | apply gB | apply gC | apply gD | apply gE | apply gF | apply gG | apply gH | apply gI | apply gJ | apply gK | apply gL | apply gM | apply gN | apply gO | apply gP | apply gQ | apply gR) | ((with_reducible apply gT); first | exact rfl | exact True.intro | omega | assumption) | ((with_reducible apply gS2); first | assumption | rfl) | ((with_reducible first | apply gL0 | apply gL1 | apply gL2 | apply gL3 | apply gL4); assumption)))
    refine t_if (fun e6 => ?_) (fun e6 => ?_)
    · (repeat (first | (with_reducible first | apply gA | apply gB | apply gC | apply gD | apply gE | apply gF | apply gG | apply gH | apply gI | apply gJ | apply gK | apply gL | apply gM | apply gN | apply gO | apply gP | apply gQ | apply gR) | ((with_reducible apply gT); first | exact rfl | exact True.intro | omega | assumption) | ((with_reducible apply gS2); first | assumption | rfl) | ((with_reducible first | apply gL0 | apply gL1 | apply gL2 | apply gL3 | apply gL4); assumption)))
      exact t_ret ⟨rfl, true, rfl, fun e => by cases e⟩
    · refine t_again (hY (f.n5 - (i + 1)) _ _ (by omega) ⟨rfl, i + 1, ?_, by omega, rfl⟩)
      rw [wrap_id (by omega) (by omega)]; rfl
  · (repeat (first | (with_reducible first | apply gA | apply gB | apply gC | apply gD | apply gE | apply gF | apply gG | apply gH | apply gI | apply gJ | apply gK | apply gL | apply gM | apply gN | apply gO | apply gP | apply gQ | apply gR) | ((with_reducible apply gT); first | exact rfl | exact True.intro | omega | assumption) | ((with_reducible apply gS2); first | assumption | rfl) | ((with_reducible first | apply gL0 | apply gL1 | apply gL2 | apply gL3 | apply gL4); assumption)))
    refine t_loop (fun mm vs h' => h = h' ∧ ∃ i : Nat, vs = [.bool false, .int .i64 i] ∧ i ≤ f.n6 ∧ mm = f.n6 - i) ⟨rfl, 0, rfl, Nat.zero_le _, rfl⟩ ?_
    rintro Y2 mm vs _ hY2 ⟨rfl, i, rfl, hi, rfl⟩
    (repeat (first | (with_reducible first | apply gA | apply gB | apply gC | apply gD | apply gE | apply gF | apply gG | apply gH | apply gI | apply gJ | apply gK | apply gL | apply gM | apply gN | apply gO | apply gP | apply gQ | apply gR) | ((with_reducible apply gT); first | exact rfl | exact True.intro | omega | assumption) | ((with_reducible apply gS2); first | assumption | rfl) | ((with_reducible first | apply gL0 | apply gL1 | apply gL2 | apply gL3 | apply gL4); assumption)))
    refine t_if (fun e => ?_) (fun e => ?_)
    · obtain ⟨x, a1, hx, ha1, e1, e2, q, m, c, e4, e5⟩ := hu.requests.at (i := i) (by omega)
      (repeat (first | (with_reducible first | apply gA | apply gB | apply gC | apply gD | apply gE | apply gF | apply gG | apply gH | apply gI | apply gJ | apply gK | apply gL | apply gM | apply gN | apply gO | apply gP | apply gQ | apply gR) | ((with_reducible apply gT); first | exact rfl | exact True.intro | omega | assumption) | ((with_reducible apply gS2); first | assumption | rfl) | ((with_reducible first | apply gL0 | apply gL1 | apply gL2 | apply gL3 | apply gL4); assumption)))
      refine t_if (fun e6 => ?_) (fun e6 => ?_)
      · (repeat (first | (with_reducible first | apply gA | apply gB | apply gC | apply gD | apply gE | apply gF | apply gG | apply gH | apply gI | apply gJ | apply gK | apply gL | apply gM | apply gN | apply gO | apply gP | apply gQ | apply gR) | ((with_reducible apply gT); first | exact rfl | exact True.intro | omega | assumption) | ((with_reducible apply gS2); first | assumption | rfl) | ((with_reducible first | apply gL0 | apply gL1 | apply gL2 | apply gL3 | apply gL4); assumption)))
        exact t_ret ⟨rfl, true, rfl, fun e => by cases e⟩
      · refine t_again (hY2 (f.n6 - (i + 1)) _ _ (by omega) ⟨rfl, i + 1, ?_, by omega, rfl⟩)
        rw [wrap_id (by omega) (by omega)]; rfl
    · (repeat (first | (with_reducible first | apply gA | apply gB | apply gC | apply gD | apply gE | apply gF | apply gG | apply gH | apply gI | apply gJ | apply gK | apply gL | apply gM | apply gN | apply gO | apply gP | apply gQ | apply gR) | ((with_reducible apply gT); first | exact rfl | exact True.intro | omega | assumption) | ((with_reducible apply gS2); first | assumption | rfl) | ((with_reducible first | apply gL0 | apply gL1 | apply gL2 | apply gL3 | apply gL4); assumption)))
      exact t_ret ⟨rfl, false, rfl, fun _ => ⟨h1, h2, h3⟩⟩
end Go.Proofs.YtibibhojkfapnaaDoor
end
section
namespace Go.Proofs.YtibibhojkfapnaaDoor
open Go Go.TM Go.Proofs
theorem lack_grow : Grow LackE := fun _ _ _ _ hl h => ⟨hl _ _ h.1, hl _ _ h.2.1, hl _ _ h.2.2.1, hl _ _ h.2.2.2⟩
theorem ev1 : window exU 20 = ⟨16, 20⟩ := by decide +kernel
theorem ev2 : window exU 25 = ⟨18, 25⟩ := by decide +kernel
theorem ev3 : safe exU 0 1 16 = 1 := by decide +kernel
theorem ev4 : safe exU 0 1 18 = 0 := by decide +kernel
theorem ev5 : safe exU 0 1 19 = 2 := by decide +kernel
theorem ev6 : weak exU 0 1 = 17 := by decide +kernel
theorem ev7 : weak exU 1 2 = 15 := by decide +kernel
theorem ev8 : leftAll exU 0 25 = [1, 2, 0] := by decide +kernel
theorem ev9 : lacks exU 0 20 = [⟨1, 0, ⟨16, 20⟩⟩, ⟨2, 0, ⟨16, 20⟩⟩] := by decide +kernel
theorem ev10 : enoughB exU 0 25 [0, 2] (leftAll exU 0 25) = false := by decide +kernel
theorem ev11 : ∀ i, i < 16 → okF exU 0 25 i = true → (∀ j, j < 16 → okF exU 0 25 j = true → fewerF (subsetL 4 i) (subsetL 4 j) ≤ 0) → subsetL 4 i = [1] := by decide +kernel
theorem ev12 : okF exU 0 25 2 = true := by decide +kernel
theorem exWindow20 : windowR exU 20 = .tuple #[.agg #[.int .i64 16, .int .i64 20], .int .i64 0] := by rw [windowR, if_neg (by decide +kernel), ev1]
theorem exWindow25 : windowR exU 25 = .tuple #[.agg #[.int .i64 18, .int .i64 25], .int .i64 0] := by rw [windowR, if_neg (by decide +kernel), ev2]
theorem exSafe16 : safeR exU 0 1 16 = .tuple #[.int .i64 1, .int .i64 0] := by rw [safeR, if_neg (by decide +kernel), ev3]
theorem exSafe18 : safeR exU 0 1 18 = .tuple #[.int .i64 0, .int .i64 0] := by rw [safeR, if_neg (by decide +kernel), ev4]
theorem exSafe19 : safeR exU 0 1 19 = .tuple #[.int .i64 2, .int .i64 0] := by rw [safeR, if_neg (by decide +kernel), ev5]
theorem exWeak1 : weakR exU 0 1 = .tuple #[.int .i64 17, .int .i64 0] := by rw [weakR, if_neg (by decide +kernel), ev6]
theorem exWeak2 : weakR exU 1 2 = .tuple #[.int .i64 15, .int .i64 0] := by rw [weakR, if_neg (by decide +kernel), ev7]
theorem exEnough : enoughR exU 0 25 [0, 2] = .tuple #[.bool false, .int .i64 0] := by rw [enoughR, if_neg (by decide +kernel), ev10]
theorem exOpen25 : openF exU [landQ exU 0, dayQ 25] = 0 := by decide +kernel
theorem exOpen20 : openF exU [landQ exU 0, dayQ 20] = 0 := by decide +kernel
attribute [local irreducible] T.wp CV FWK
set_option maxRecDepth 100000 in
theorem c16 {h : LH} (hch : h.chans = []) (hpe : h.pend = []) (hp : Parts h.get) : FW XT Tryd.prog 16 #[] h fun r h' => r = .bool true ∧ Rd h.get h'.get ∧ h'.chans = [] ∧ h'.pend = [] ∧ h'.todo = h.todo := by
  refine w16 XT_ok ?_
  unfold n16
  refine t_gr c52 ?_
  rintro _ h1 le1 ⟨f, rfl, hu⟩
  have hp := hp.le le1.1
  (repeat (first | (with_reducible first | apply gA | apply gB | apply gC | apply gD | apply gE | apply gF | apply gG | apply gH | apply gI | apply gJ | apply gK | apply gL | apply gM | apply gN | apply gO | apply gP | apply gQ | apply gR) | ((with_reducible apply gT); first | exact rfl | exact True.intro | omega | assumption) | ((with_reducible apply gS2); first | assumption | rfl) | ((with_reducible first | apply gL0 | apply gL1 | apply gL2 | apply gL3 | apply gL4); assumption)))
  refine t_gr (c17 hp hu 20) ?_
  rintro _ h2 le2 rfl
  rw [exWindow20]
  (repeat (first | (with_reducible first | apply gA | apply gB | apply gC | apply gD | apply gE | apply gF | apply gG | apply gH | apply gI | apply gJ | apply gK | apply gL | apply gM | apply gN | apply gO | apply gP | apply gQ | apply gR) | ((with_reducible apply gT); first | exact rfl | exact True.intro | omega | assumption) | ((with_reducible apply gS2); first | assumption | rfl) | ((with_reducible first | apply gL0 | apply gL1 | apply gL2 | apply gL3 | apply gL4); assumption)))
  have hp := hp.le le2.1
  have hu := hu.le le2.1
  refine t_gr (c17 hp hu 25) ?_
  rintro _ h3 le3 rfl
  rw [exWindow25]
  (repeat (first | (with_reducible first | apply gA | apply gB | apply gC | apply gD | apply gE | apply gF | apply gG | apply gH | apply gI | apply gJ | apply gK | apply gL | apply gM | apply gN | apply gO | apply gP | apply gQ | apply gR) | ((with_reducible apply gT); first | exact rfl | exact True.intro | omega | assumption) | ((with_reducible apply gS2); first | assumption | rfl) | ((with_reducible first | apply gL0 | apply gL1 | apply gL2 | apply gL3 | apply gL4); assumption)))
  have hp := hp.le le3.1
  have hu := hu.le le3.1
  refine t_gr (c19 hp hu 0 1 16) ?_
  rintro _ h4 le4 rfl
  rw [exSafe16]
  (repeat (first | (with_reducible first | apply gA | apply gB | apply gC | apply gD | apply gE | apply gF | apply gG | apply gH | apply gI | apply gJ | apply gK | apply gL | apply gM | apply gN | apply gO | apply gP | apply gQ | apply gR) | ((with_reducible apply gT); first | exact rfl | exact True.intro | omega | assumption) | ((with_reducible apply gS2); first | assumption | rfl) | ((with_reducible first | apply gL0 | apply gL1 | apply gL2 | apply gL3 | apply gL4); assumption)))
  have hp := hp.le le4.1
  have hu := hu.le le4.1
  refine t_gr (c19 hp hu 0 1 18) ?_
  rintro _ h5 le5 rfl
  rw [exSafe18]
  (repeat (first | (with_reducible first | apply gA | apply gB | apply gC | apply gD | apply gE | apply gF | apply gG | apply gH | apply gI | apply gJ | apply gK | apply gL | apply gM | apply gN | apply gO | apply gP | apply gQ | apply gR) | ((with_reducible apply gT); first | exact rfl | exact True.intro | omega | assumption) | ((with_reducible apply gS2); first | assumption | rfl) | ((with_reducible first | apply gL0 | apply gL1 | apply gL2 | apply gL3 | apply gL4); assumption)))
  have hp := hp.le le5.1
  have hu := hu.le le5.1
  refine t_gr (c19 hp hu 0 1 19) ?_
  rintro _ h6 le6 rfl
  rw [exSafe19]
  (repeat (first | (with_reducible first | apply gA | apply gB | apply gC | apply gD | apply gE | apply gF | apply gG | apply gH | apply gI | apply gJ | apply gK | apply gL | apply gM | apply gN | apply gO | apply gP | apply gQ | apply gR) | ((with_reducible apply gT); first | exact rfl | exact True.intro | omega | assumption) | ((with_reducible apply gS2); first | assumption | rfl) | ((with_reducible first | apply gL0 | apply gL1 | apply gL2 | apply gL3 | apply gL4); assumption)))
  have hp := hp.le le6.1
  have hu := hu.le le6.1
  refine t_gr (c21 hp hu 0 1) ?_
  rintro _ h7 le7 rfl
  rw [exWeak1]
  (repeat (first | (with_reducible first | apply gA | apply gB | apply gC | apply gD | apply gE | apply gF | apply gG | apply gH | apply gI | apply gJ | apply gK | apply gL | apply gM | apply gN | apply gO | apply gP | apply gQ | apply gR) | ((with_reducible apply gT); first | exact rfl | exact True.intro | omega | assumption) | ((with_reducible apply gS2); first | assumption | rfl) | ((with_reducible first | apply gL0 | apply gL1 | apply gL2 | apply gL3 | apply gL4); assumption)))
  have hp := hp.le le7.1
  have hu := hu.le le7.1
  refine t_gr (c21 hp hu 1 2) ?_
  rintro _ h8 le8 rfl
  rw [exWeak2]
  (repeat (first | (with_reducible first | apply gA | apply gB | apply gC | apply gD | apply gE | apply gF | apply gG | apply gH | apply gI | apply gJ | apply gK | apply gL | apply gM | apply gN | apply gO | apply gP | apply gQ | apply gR) | ((with_reducible apply gT); first | exact rfl | exact True.intro | omega | assumption) | ((with_reducible apply gS2); first | assumption | rfl) | ((with_reducible first | apply gL0 | apply gL1 | apply gL2 | apply gL3 | apply gL4); assumption)))
  have hp := hp.le le8.1
  have hu := hu.le le8.1
  refine t_gr (c23 hp hu 0 25) ?_
  rintro _ h9 le9 (⟨hne, _⟩ | ⟨_, lp, ln, lc, rfl, hl⟩)
  · exact absurd exOpen25 hne
  rw [ev8] at hl
  (repeat (first | (with_reducible first | apply gA | apply gB | apply gC | apply gD | apply gE | apply gF | apply gG | apply gH | apply gI | apply gJ | apply gK | apply gL | apply gM | apply gN | apply gO | apply gP | apply gQ | apply gR) | ((with_reducible apply gT); first | exact rfl | exact True.intro | omega | assumption) | ((with_reducible apply gS2); first | assumption | rfl) | ((with_reducible first | apply gL0 | apply gL1 | apply gL2 | apply gL3 | apply gL4); assumption)))
  have hp := hp.le le9.1
  have hu := hu.le le9.1
  refine t_gr (c28 hp hu 0 20) ?_
  rintro _ h10 le10 (⟨hne, _⟩ | ⟨_, kp, kn, kc, rfl, hk⟩)
  · exact absurd exOpen20 hne
  rw [ev9] at hk
  (repeat (first | (with_reducible first | apply gA | apply gB | apply gC | apply gD | apply gE | apply gF | apply gG | apply gH | apply gI | apply gJ | apply gK | apply gL | apply gM | apply gN | apply gO | apply gP | apply gQ | apply gR) | ((with_reducible apply gT); first | exact rfl | exact True.intro | omega | assumption) | ((with_reducible apply gS2); first | assumption | rfl) | ((with_reducible first | apply gL0 | apply gL1 | apply gL2 | apply gL3 | apply gL4); assumption)))
  have hp := hp.le le10.1
  have hu := hu.le le10.1
  have hl := hl.le IntE.grow le10.1
  have le := LH.le_trans (LH.le_trans (LH.le_trans (LH.le_trans (LH.le_trans (LH.le_trans (LH.le_trans (LH.le_trans (LH.le_trans le1 le2) le3) le4) le5) le6) le7) le8) le9) le10
  refine t_call (c33 (by rw [le.2.1, hch]) (by rw [le.2.2.1, hpe]) hp hu 0 25) ?_
  rintro _ h11 ⟨rd11, ch11, pe11, td11, ⟨hne, _⟩ | ⟨_, pp, pn, pc, rfl, hb, _⟩⟩
  · exact absurd exOpen25 hne
  have hpk : Sl IntE 1 h11.get pp pn [1] := by
    rcases hb with ⟨_, _, hno⟩ | ⟨i, a, rfl, hi, hok, hs, hmin⟩
    · have := hno 2 (by decide) (by simp)
      rw [ev12] at this; cases this
    · have e := ev11 i hi hok fun j hj hj2 => hmin j hj (by simp) hj2
      rw [← e]; exact hs
  (repeat (first | (with_reducible first | apply gA | apply gB | apply gC | apply gD | apply gE | apply gF | apply gG | apply gH | apply gI | apply gJ | apply gK | apply gL | apply gM | apply gN | apply gO | apply gP | apply gQ | apply gR) | ((with_reducible apply gT); first | exact rfl | exact True.intro | omega | assumption) | ((with_reducible apply gS2); first | assumption | rfl) | ((with_reducible first | apply gL0 | apply gL1 | apply gL2 | apply gL3 | apply gL4); assumption)))
  have hp := hp.rd rd11
  have hu := hu.rd rd11
  have hl := hl.rd IntE.grow rd11
  have hk := hk.rd lack_grow rd11
  refine t_buildG und50 inf3 (by decide) (by decide) (cells := #[.int .i64 0, .int .i64 2]) (by kernel_rfl) fun r12 h12 le12 _ e12 => ?_
  (repeat (first | (with_reducible first | apply gA | apply gB | apply gC | apply gD | apply gE | apply gF | apply gG | apply gH | apply gI | apply gJ | apply gK | apply gL | apply gM | apply gN | apply gO | apply gP | apply gQ | apply gR) | ((with_reducible apply gT); first | exact rfl | exact True.intro | omega | assumption) | ((with_reducible apply gS2); first | assumption | rfl) | ((with_reducible first | apply gL0 | apply gL1 | apply gL2 | apply gL3 | apply gL4); assumption)))
  have hp := hp.le le12.1
  have hu := hu.le le12.1
  refine t_gr (c31 hp hu 0 25 (pl := [0, 2]) (sl_ints (l := [0, 2]) rfl e12 (by show (2 : Nat) < _; omega))) ?_
  rintro _ h13 le13 rfl
  rw [exEnough]
  (repeat (first | (with_reducible first | apply gA | apply gB | apply gC | apply gD | apply gE | apply gF | apply gG | apply gH | apply gI | apply gJ | apply gK | apply gL | apply gM | apply gN | apply gO | apply gP | apply gQ | apply gR) | ((with_reducible apply gT); first | exact rfl | exact True.intro | omega | assumption) | ((with_reducible apply gS2); first | assumption | rfl) | ((with_reducible first | apply gL0 | apply gL1 | apply gL2 | apply gL3 | apply gL4); assumption)))
  have le1113 := LH.le_trans le12 le13
  have hl := hl.le IntE.grow le1113.1
  have hk := hk.le lack_grow le1113.1
  have hpk := hpk.le IntE.grow le1113.1
  refine t_blk (fun vs h' => vs = [.bool false] ∧ h13 = h') ?_ ?_
  · iterate 11 refine t_cond (fun e => absurd e (by decide)) (fun _ => ?_)
    exact t_again ⟨rfl, rfl⟩
  rintro vs _ ⟨rfl, rfl⟩
  (repeat (first | (with_reducible first | apply gA | apply gB | apply gC | apply gD | apply gE | apply gF | apply gG | apply gH | apply gI | apply gJ | apply gK | apply gL | apply gM | apply gN | apply gO | apply gP | apply gQ | apply gR) | ((with_reducible apply gT); first | exact rfl | exact True.intro | omega | assumption) | ((with_reducible apply gS2); first | assumption | rfl) | ((with_reducible first | apply gL0 | apply gL1 | apply gL2 | apply gL3 | apply gL4); assumption)))
  refine t_blk (fun vs h' => vs = [.bool false] ∧ h13.le h') ?_ ?_
  · refine t_pu (c42 _ _) ?_
    (repeat (first | (with_reducible first | apply gA | apply gB | apply gC | apply gD | apply gE | apply gF | apply gG | apply gH | apply gI | apply gJ | apply gK | apply gL | apply gM | apply gN | apply gO | apply gP | apply gQ | apply gR) | ((with_reducible apply gT); first | exact rfl | exact True.intro | omega | assumption) | ((with_reducible apply gS2); first | assumption | rfl) | ((with_reducible first | apply gL0 | apply gL1 | apply gL2 | apply gL3 | apply gL4); assumption)))
    refine t_ne2 two30 g30 ?_
    (repeat (first | (with_reducible first | apply gA | apply gB | apply gC | apply gD | apply gE | apply gF | apply gG | apply gH | apply gI | apply gJ | apply gK | apply gL | apply gM | apply gN | apply gO | apply gP | apply gQ | apply gR) | ((with_reducible apply gT); first | exact rfl | exact True.intro | omega | assumption) | ((with_reducible apply gS2); first | assumption | rfl) | ((with_reducible first | apply gL0 | apply gL1 | apply gL2 | apply gL3 | apply gL4); assumption)))
    refine t_cond (fun e => absurd e (by decide)) (fun _ => ?_)
    refine t_pu (c42 _ _) ?_
    (repeat (first | (with_reducible first | apply gA | apply gB | apply gC | apply gD | apply gE | apply gF | apply gG | apply gH | apply gI | apply gJ | apply gK | apply gL | apply gM | apply gN | apply gO | apply gP | apply gQ | apply gR) | ((with_reducible apply gT); first | exact rfl | exact True.intro | omega | assumption) | ((with_reducible apply gS2); first | assumption | rfl) | ((with_reducible first | apply gL0 | apply gL1 | apply gL2 | apply gL3 | apply gL4); assumption)))
    refine t_ne2 two30 g30 ?_
    (repeat (first | (with_reducible first | apply gA | apply gB | apply gC | apply gD | apply gE | apply gF | apply gG | apply gH | apply gI | apply gJ | apply gK | apply gL | apply gM | apply gN | apply gO | apply gP | apply gQ | apply gR) | ((with_reducible apply gT); first | exact rfl | exact True.intro | omega | assumption) | ((with_reducible apply gS2); first | assumption | rfl) | ((with_reducible first | apply gL0 | apply gL1 | apply gL2 | apply gL3 | apply gL4); assumption)))
    refine t_cond (fun e => absurd e (by decide)) (fun _ => ?_)
    (repeat (first | (with_reducible first | apply gA | apply gB | apply gC | apply gD | apply gE | apply gF | apply gG | apply gH | apply gI | apply gJ | apply gK | apply gL | apply gM | apply gN | apply gO | apply gP | apply gQ | apply gR) | ((with_reducible apply gT); first | exact rfl | exact True.intro | omega | assumption) | ((with_reducible apply gS2); first | assumption | rfl) | ((with_reducible first | apply gL0 | apply gL1 | apply gL2 | apply gL3 | apply gL4); assumption)))
    refine t_cond (fun e => absurd e (by decide)) (fun _ => ?_)
    (repeat (first | (with_reducible first | apply gA | apply gB | apply gC | apply gD | apply gE | apply gF | apply gG | apply gH | apply gI | apply gJ | apply gK | apply gL | apply gM | apply gN | apply gO | apply gP | apply gQ | apply gR) | ((with_reducible apply gT); first | exact rfl | exact True.intro | omega | assumption) | ((with_reducible apply gS2); first | assumption | rfl) | ((with_reducible first | apply gL0 | apply gL1 | apply gL2 | apply gL3 | apply gL4); assumption)))
    refine t_cond (fun e => absurd e (by decide)) (fun _ => ?_)
    (repeat (first | (with_reducible first | apply gA | apply gB | apply gC | apply gD | apply gE | apply gF | apply gG | apply gH | apply gI | apply gJ | apply gK | apply gL | apply gM | apply gN | apply gO | apply gP | apply gQ | apply gR) | ((with_reducible apply gT); first | exact rfl | exact True.intro | omega | assumption) | ((with_reducible apply gS2); first | assumption | rfl) | ((with_reducible first | apply gL0 | apply gL1 | apply gL2 | apply gL3 | apply gL4); assumption)))
    refine t_cond (fun e => absurd e (by decide)) (fun _ => ?_)
    (repeat (first | (with_reducible first | apply gA | apply gB | apply gC | apply gD | apply gE | apply gF | apply gG | apply gH | apply gI | apply gJ | apply gK | apply gL | apply gM | apply gN | apply gO | apply gP | apply gQ | apply gR) | ((with_reducible apply gT); first | exact rfl | exact True.intro | omega | assumption) | ((with_reducible apply gS2); first | assumption | rfl) | ((with_reducible first | apply gL0 | apply gL1 | apply gL2 | apply gL3 | apply gL4); assumption)))
    refine t_cond (fun e => absurd e (by decide)) (fun _ => ?_)
    (repeat (first | (with_reducible first | apply gA | apply gB | apply gC | apply gD | apply gE | apply gF | apply gG | apply gH | apply gI | apply gJ | apply gK | apply gL | apply gM | apply gN | apply gO | apply gP | apply gQ | apply gR) | ((with_reducible apply gT); first | exact rfl | exact True.intro | omega | assumption) | ((with_reducible apply gS2); first | assumption | rfl) | ((with_reducible first | apply gL0 | apply gL1 | apply gL2 | apply gL3 | apply gL4); assumption)))
    refine t_cond (fun e => absurd e (by decide)) (fun _ => ?_)
    (repeat (first | (with_reducible first | apply gA | apply gB | apply gC | apply gD | apply gE | apply gF | apply gG | apply gH | apply gI | apply gJ | apply gK | apply gL | apply gM | apply gN | apply gO | apply gP | apply gQ | apply gR) | ((with_reducible apply gT); first | exact rfl | exact True.intro | omega | assumption) | ((with_reducible apply gS2); first | assumption | rfl) | ((with_reducible first | apply gL0 | apply gL1 | apply gL2 | apply gL3 | apply gL4); assumption)))
    refine t_cond (fun e => absurd e (by decide)) (fun _ => ?_)
    (repeat (first | (with_reducible first | apply gA | apply gB | apply gC | apply gD | apply gE | apply gF | apply gG | apply gH | apply gI | apply gJ | apply gK | apply gL | apply gM | apply gN | apply gO | apply gP | apply gQ | apply gR) | ((with_reducible apply gT); first | exact rfl | exact True.intro | omega | assumption) | ((with_reducible apply gS2); first | assumption | rfl) | ((with_reducible first | apply gL0 | apply gL1 | apply gL2 | apply gL3 | apply gL4); assumption)))
    refine t_buildG und50 inf3 (by decide) (by decide) (cells := #[.int .i64 1]) (by kernel_rfl) fun r14 h14 le14 _ e14 => ?_
    (repeat (first | (with_reducible first | apply gA | apply gB | apply gC | apply gD | apply gE | apply gF | apply gG | apply gH | apply gI | apply gJ | apply gK | apply gL | apply gM | apply gN | apply gO | apply gP | apply gQ | apply gR) | ((with_reducible apply gT); first | exact rfl | exact True.intro | omega | assumption) | ((with_reducible apply gS2); first | assumption | rfl) | ((with_reducible first | apply gL0 | apply gL1 | apply gL2 | apply gL3 | apply gL4); assumption)))
    refine t_pu (c35 (hpk.le IntE.grow le14.1) (sl_ints (l := [1]) rfl e14 (by show (1 : Nat) < _; omega))) ?_
    (repeat (first | (with_reducible first | apply gA | apply gB | apply gC | apply gD | apply gE | apply gF | apply gG | apply gH | apply gI | apply gJ | apply gK | apply gL | apply gM | apply gN | apply gO | apply gP | apply gQ | apply gR) | ((with_reducible apply gT); first | exact rfl | exact True.intro | omega | assumption) | ((with_reducible apply gS2); first | assumption | rfl) | ((with_reducible first | apply gL0 | apply gL1 | apply gL2 | apply gL3 | apply gL4); assumption)))
    refine t_cond (fun e => absurd e (by decide)) (fun _ => ?_)
    exact t_again ⟨rfl, le14⟩
  rintro vs h15 ⟨rfl, le15⟩
  have hl := hl.le IntE.grow le15.1
  have hk := hk.le lack_grow le15.1
  (repeat (first | (with_reducible first | apply gA | apply gB | apply gC | apply gD | apply gE | apply gF | apply gG | apply gH | apply gI | apply gJ | apply gK | apply gL | apply gM | apply gN | apply gO | apply gP | apply gQ | apply gR) | ((with_reducible apply gT); first | exact rfl | exact True.intro | omega | assumption) | ((with_reducible apply gS2); first | assumption | rfl) | ((with_reducible first | apply gL0 | apply gL1 | apply gL2 | apply gL3 | apply gL4); assumption)))
  refine t_buildG und40 inf34 (by decide) (by decide) (cells := #[.int .i64 1, .int .i64 2, .int .i64 0]) (by kernel_rfl) fun r16 h16 le16 _ e16 => ?_
  (repeat (first | (with_reducible first | apply gA | apply gB | apply gC | apply gD | apply gE | apply gF | apply gG | apply gH | apply gI | apply gJ | apply gK | apply gL | apply gM | apply gN | apply gO | apply gP | apply gQ | apply gR) | ((with_reducible apply gT); first | exact rfl | exact True.intro | omega | assumption) | ((with_reducible apply gS2); first | assumption | rfl) | ((with_reducible first | apply gL0 | apply gL1 | apply gL2 | apply gL3 | apply gL4); assumption)))
  refine t_pu (c25 (hl.le IntE.grow le16.1) (sl_ints (l := [1, 2, 0]) rfl e16 (by show (3 : Nat) < _; omega))) ?_
  (repeat (first | (with_reducible first | apply gA | apply gB | apply gC | apply gD | apply gE | apply gF | apply gG | apply gH | apply gI | apply gJ | apply gK | apply gL | apply gM | apply gN | apply gO | apply gP | apply gQ | apply gR) | ((with_reducible apply gT); first | exact rfl | exact True.intro | omega | assumption) | ((with_reducible apply gS2); first | assumption | rfl) | ((with_reducible first | apply gL0 | apply gL1 | apply gL2 | apply gL3 | apply gL4); assumption)))
  refine t_cond (fun _ => ?_) (fun e => absurd e (by decide))
  (repeat (first | (with_reducible first | apply gA | apply gB | apply gC | apply gD | apply gE | apply gF | apply gG | apply gH | apply gI | apply gJ | apply gK | apply gL | apply gM | apply gN | apply gO | apply gP | apply gQ | apply gR) | ((with_reducible apply gT); first | exact rfl | exact True.intro | omega | assumption) | ((with_reducible apply gS2); first | assumption | rfl) | ((with_reducible first | apply gL0 | apply gL1 | apply gL2 | apply gL3 | apply gL4); assumption)))
  refine t_pu (c42 _ _) ?_
  (repeat (first | (with_reducible first | apply gA | apply gB | apply gC | apply gD | apply gE | apply gF | apply gG | apply gH | apply gI | apply gJ | apply gK | apply gL | apply gM | apply gN | apply gO | apply gP | apply gQ | apply gR) | ((with_reducible apply gT); first | exact rfl | exact True.intro | omega | assumption) | ((with_reducible apply gS2); first | assumption | rfl) | ((with_reducible first | apply gL0 | apply gL1 | apply gL2 | apply gL3 | apply gL4); assumption)))
  refine t_pu (c42 _ _) ?_
  (repeat (first | (with_reducible first | apply gA | apply gB | apply gC | apply gD | apply gE | apply gF | apply gG | apply gH | apply gI | apply gJ | apply gK | apply gL | apply gM | apply gN | apply gO | apply gP | apply gQ | apply gR) | ((with_reducible apply gT); first | exact rfl | exact True.intro | omega | assumption) | ((with_reducible apply gS2); first | assumption | rfl) | ((with_reducible first | apply gL0 | apply gL1 | apply gL2 | apply gL3 | apply gL4); assumption)))
  refine t_buildG und45 inf79 (by decide) (by decide) (cells := #[.int .i64 1, .int .i64 0, .int .i64 16, .int .i64 20, .int .i64 2, .int .i64 0, .int .i64 16, .int .i64 20]) (by kernel_rfl) fun r17 h17 le17 _ e17 => ?_
  (repeat (first | (with_reducible first | apply gA | apply gB | apply gC | apply gD | apply gE | apply gF | apply gG | apply gH | apply gI | apply gJ | apply gK | apply gL | apply gM | apply gN | apply gO | apply gP | apply gQ | apply gR) | ((with_reducible apply gT); first | exact rfl | exact True.intro | omega | assumption) | ((with_reducible apply gS2); first | assumption | rfl) | ((with_reducible first | apply gL0 | apply gL1 | apply gL2 | apply gL3 | apply gL4); assumption)))
  have le1617 := LH.le_trans le16 le17
  refine t_pu (c30 (hk.le lack_grow le1617.1) (b := [⟨1, 0, ⟨16, 20⟩⟩, ⟨2, 0, ⟨16, 20⟩⟩]) ?_) ?_
  · refine ⟨rfl, by show (2 : Nat) < _; omega, ?_⟩
    have cr : ∀ {i j : Nat} {v : Value}, (#[.int .i64 1, .int .i64 0, .int .i64 16, .int .i64 20, .int .i64 2, .int .i64 0, .int .i64 16, .int .i64 20] : Array Value)[i + j]? = some v → h17.get.cell? (Addr.add (Addr.add ⟨r17, 0, none⟩ i) j) = some v := by
      intro i j v hv
      rw [add_plain, add_plain, Nat.zero_add]; exact cell_row e17 hv
    intro i x hx
    match i, hx with
    | 0, hx => cases hx; exact ⟨_, rfl, cr rfl, cr rfl, cr rfl, cr rfl⟩
    | 1, hx => cases hx; exact ⟨_, rfl, cr rfl, cr rfl, cr rfl, cr rfl⟩
    | i + 2, hx => simp at hx
  (repeat (first | (with_reducible first | apply gA | apply gB | apply gC | apply gD | apply gE | apply gF | apply gG | apply gH | apply gI | apply gJ | apply gK | apply gL | apply gM | apply gN | apply gO | apply gP | apply gQ | apply gR) | ((with_reducible apply gT); first | exact rfl | exact True.intro | omega | assumption) | ((with_reducible apply gS2); first | assumption | rfl) | ((with_reducible first | apply gL0 | apply gL1 | apply gL2 | apply gL3 | apply gL4); assumption)))
  have leZ := LH.le_trans (LH.le_trans le1113 le15) le1617
  refine t_ret ⟨by simp, (Rd.of_le le.1).trans (rd11.trans (Rd.of_le leZ.1)), by rw [leZ.2.1, ch11], by rw [leZ.2.2.1, pe11], by rw [leZ.2.2.2, td11, le.2.2.2]⟩
end Go.Proofs.YtibibhojkfapnaaDoor
end
section
namespace Go.Proofs.YtibibhojkfapnaaDoor
open Go Go.TM Go.Proofs
attribute [local irreducible] T.wp CV FWK
theorem t_pushI {X : XP} {Q : Leaf → LH → Prop} {h h₀ : LH} {k : Value → T} {p : Option Addr} {n c : Nat} {l : List Int} {x : Int} (g : Growing IntEnc 3 1 h₀.get h.get p n c l) (hle : h₀.le h) (hn : n + 1 ≤ 2 ^ 30)
    (hk : ∀ p' c' h', h₀.le h' → Growing IntEnc 3 1 h₀.get h'.get p' (n + 1) c' (l ++ [x]) → (k (.slice p' (n + 1) c')).wp X Tryd.prog Q h') :
    (T.sem false (Instr.buildSlice 50 1 #[(0, .int .i64 x)]) fun v => T.unS v fun a m c2 => T.sem false (Builtin.append_ #[50, 50] 50 #[.slice p n c, .slice a m c2]) k).wp X Tryd.prog Q h := by
  refine t_build und50 inf3 (by decide) (by decide) (cells := #[.int .i64 x]) (by kernel_rfl) fun r hr => ?_
  have le2 : h.le _ := LH.upd_le (x := (true, .cells #[.int .i64 x] 3 (0, 0))) hr
  refine gG ?_
  refine t_grow (h₀ := h₀) (x := x) (ws := [.int .i64 x]) rfl rfl und50 und50 inf3 rfl (by omega) hn (g.le le2.1) (LH.le_trans hle le2) rfl rfl ?_ ?_ ?_
  · intro j w hj
    rw [add_plain, Nat.zero_add]
    exact cell_upd (by simpa using hj)
  · intro w hw; simp at hw; subst hw; rfl
  · intro p' c' h₂ hle2 _ g2
    exact hk p' c' h₂ hle2 g2
def placesOf (rs : List Request) (g : Request → Bool) (i : Nat) : List Int := ((List.range i).filter fun j => (rs[j]?).any g).map fun j : Nat => (j : Int)
theorem placesOf_succ {rs : List Request} {g : Request → Bool} {i : Nat} {r : Request} (hr : rs[i]? = some r) : placesOf rs g (i + 1) = placesOf rs g i ++ (if g r then [(i : Int)] else []) := by
  unfold placesOf
  rw [List.range_succ, List.filter_append, List.map_append]
  congr 1
  rw [List.filter_cons, hr]
  cases hg : g r <;> simp [hg]
theorem placesOf_len {rs : List Request} {g : Request → Bool} {i : Nat} : (placesOf rs g i).length ≤ i := by
  unfold placesOf
  rw [List.length_map]
  exact Nat.le_trans (List.length_filter_le _ _) (by simp)
def Pick (rs : List Request) (I : List Int) (L : List Request) : Prop := I.length = L.length ∧ ∀ (k : Nat) (i : Int), I[k]? = some i → 0 ≤ i ∧ ∃ r, rs[i.toNat]? = some r ∧ L[k]? = some r
theorem Pick.snoc {rs : List Request} {I : List Int} {L : List Request} (p : Pick rs I L) {i : Nat} {r : Request} (hr : rs[i]? = some r) : Pick rs (I ++ [(i : Int)]) (L ++ [r]) := by
  refine ⟨by simp [p.1], fun k j hj => ?_⟩
  by_cases hk : k < I.length
  · rw [List.getElem?_append_left hk] at hj
    obtain ⟨h1, s, h2, h3⟩ := p.2 k j hj
    exact ⟨h1, s, h2, by rw [List.getElem?_append_left (by rw [← p.1]; exact hk)]; exact h3⟩
  · rw [List.getElem?_append_right (by omega)] at hj
    have h0 : k - I.length = 0 := by
      have := (List.getElem?_eq_some_iff.1 hj).1
      simp at this; omega
    rw [h0] at hj
    simp at hj
    subst hj
    refine ⟨by omega, r, by simpa using hr, ?_⟩
    rw [List.getElem?_append_right (by rw [← p.1]; omega), ← p.1, h0]
    rfl
theorem pick_places (rs : List Request) (g : Request → Bool) : ∀ i, i ≤ rs.length → Pick rs (placesOf rs g i) ((rs.take i).filter g) := by
  intro i
  induction i with
  | zero => intro _; exact ⟨by simp [placesOf], fun k i hi => by simp [placesOf] at hi⟩
  | succ i ih =>
    intro hi
    have hr : rs[i]? = some rs[i] := List.getElem?_eq_getElem (by omega)
    rw [placesOf_succ hr, List.take_add_one, hr, List.filter_append]
    have := ih (by omega)
    by_cases hg : g rs[i] = true
    · rw [if_pos hg]
      simp only [Option.toList, List.filter_cons, hg, if_true, List.filter_nil]
      exact this.snoc hr
    · rw [if_neg hg]
      simp only [Option.toList, List.filter_cons, hg, Bool.false_eq_true, if_false, List.filter_nil, List.append_nil]
      exact this
theorem c103 {h : LH} {f : FileC} {u : UseFile} (hu : FileR h.get f u) (hck : checkF u = 0) (land item day : Int) :
    Gr Tryd.prog 103 #[fileV f u, .int .i64 land, .int .i64 item, .int .i64 day] h fun r h' => ∃ p n c I, r = .slice p n c ∧ Sl IntE 1 h'.get p n I ∧ Pick u.requests I (against u land item day) := by
  refine w103 _ _ _ _ _ _ _ _ _ _ _ _ _ _ _ _ X0_ok ?_
  unfold n103
  have hr := hu.requests
  have hn := hr.1
  have hb4 := (check_requests hck).1
  refine t_loop (fun mm vs h' => h.le h' ∧ ∃ (i : Nat) (p : Option Addr) (n c : Nat), vs = [.slice p n c, .int .i64 i] ∧ i ≤ f.n6 ∧ mm = f.n6 - i ∧ Growing IntEnc 3 1 h.get h'.get p n c (placesOf u.requests (agB land item day) i))
    ⟨LH.le_refl _, 0, none, 0, 0, rfl, Nat.zero_le _, rfl, Growing.nil⟩ ?_
  rintro Y mm vs h₁ hY ⟨hle, i, p, n, c, rfl, hi, rfl, g⟩
  (repeat (first | (with_reducible first | apply gA | apply gB | apply gC | apply gD | apply gE | apply gF | apply gG | apply gH | apply gI | apply gJ | apply gK | apply gL | apply gM | apply gN | apply gO | apply gP | apply gQ | apply gR) | ((with_reducible apply gT); first | exact rfl | exact True.intro | omega | assumption) | ((with_reducible apply gS2); first | assumption | rfl) | ((with_reducible first | apply gL0 | apply gL1 | apply gL2 | apply gL3 | apply gL4); assumption)))
  refine t_if (fun e1 => ?_) (fun e1 => ?_)
  · obtain ⟨x, a, hx, ha, e2, e3, q, mq, cq, e4, e5⟩ := (hr.le RequestE.grow hle.1).at (i := i) (by omega)
    have hst := placesOf_succ (g := agB land item day) hx
    (repeat (first | (with_reducible first | apply gA | apply gB | apply gC | apply gD | apply gE | apply gF | apply gG | apply gH | apply gI | apply gJ | apply gK | apply gL | apply gM | apply gN | apply gO | apply gP | apply gQ | apply gR) | ((with_reducible apply gT); first | exact rfl | exact True.intro | omega | assumption) | ((with_reducible apply gS2); first | assumption | rfl) | ((with_reducible first | apply gL0 | apply gL1 | apply gL2 | apply gL3 | apply gL4); assumption)))
    have next : agB land item day x = false → Y [.slice p n c, .int .i64 (IntKind.wrap .i64 ((i : Int) + 1))] h₁ := by
      intro hf
      rw [hf, if_neg (by simp), List.append_nil] at hst
      refine hY (f.n6 - (i + 1)) _ _ (by omega) ⟨hle, i + 1, p, n, c, ?_, by omega, rfl, by rw [hst]; exact g⟩
      rw [wrap_id (by omega) (by omega)]; rfl
    refine t_cond (fun b1 => ?_) (fun b1 => ?_)
    · refine t_if (fun b2 => ?_) (fun b2 => ?_)
      · refine t_pu (c41 e5 item) ?_
        (repeat (first | (with_reducible first | apply gA | apply gB | apply gC | apply gD | apply gE | apply gF | apply gG | apply gH | apply gI | apply gJ | apply gK | apply gL | apply gM | apply gN | apply gO | apply gP | apply gQ | apply gR) | ((with_reducible apply gT); first | exact rfl | exact True.intro | omega | assumption) | ((with_reducible apply gS2); first | assumption | rfl) | ((with_reducible first | apply gL0 | apply gL1 | apply gL2 | apply gL3 | apply gL4); assumption)))
        refine t_cond (fun b3 => ?_) (fun b3 => ?_)
        · have ht : agB land item day x = true := by
            rw [agB, b1, b3]; simp [b2]
          rw [ht, if_pos rfl] at hst
          have hng := g.count IntEnc.len (by omega)
          have hpl := placesOf_len (rs := u.requests) (g := agB land item day) (i := i)
          refine t_pushI g hle (by omega) fun p' c' h₂ hle2 g2 => ?_
          (repeat (first | (with_reducible first | apply gA | apply gB | apply gC | apply gD | apply gE | apply gF | apply gG | apply gH | apply gI | apply gJ | apply gK | apply gL | apply gM | apply gN | apply gO | apply gP | apply gQ | apply gR) | ((with_reducible apply gT); first | exact rfl | exact True.intro | omega | assumption) | ((with_reducible apply gS2); first | assumption | rfl) | ((with_reducible first | apply gL0 | apply gL1 | apply gL2 | apply gL3 | apply gL4); assumption)))
          refine t_again (hY (f.n6 - (i + 1)) _ _ (by omega) ⟨hle2, i + 1, p', n + 1, c', ?_, by omega, rfl, by rw [hst]; exact g2⟩)
          rw [wrap_id (by omega) (by omega)]; rfl
        · refine t_again (next ?_)
          rw [agB, b1, b3]; simp
      · refine t_again (next ?_)
        rw [agB, b1]; simp [b2]
    · refine t_again (next ?_)
      rw [agB, b1]; rfl
  · (repeat (first | (with_reducible first | apply gA | apply gB | apply gC | apply gD | apply gE | apply gF | apply gG | apply gH | apply gI | apply gJ | apply gK | apply gL | apply gM | apply gN | apply gO | apply gP | apply gQ | apply gR) | ((with_reducible apply gT); first | exact rfl | exact True.intro | omega | assumption) | ((with_reducible apply gS2); first | assumption | rfl) | ((with_reducible first | apply gL0 | apply gL1 | apply gL2 | apply gL3 | apply gL4); assumption)))
    have hii : i = u.requests.length := by omega
    subst hii
    refine t_ret ⟨hle, p, n, c, _, rfl, g.sl IntEnc.len (by omega) IntEnc.e (by have := placesOf_len (rs := u.requests) (g := agB land item day) (i := u.requests.length); omega), ?_⟩
    have := pick_places u.requests (agB land item day) u.requests.length (Nat.le_refl _)
    rw [List.take_length] at this
    exact this
theorem daysOf_succ {x : Span} (i : Nat) (hi : x.first + i ≤ x.last) : (daysOf x).take (i + 1) = (daysOf x).take i ++ [x.first + (i : Int)] := by
  have hlen : i < (daysOf x).length := by unfold daysOf; rw [List.length_map, List.length_range]; omega
  rw [List.take_succ_eq_append_getElem hlen]
  congr 2
  simp [daysOf]
def SetL (M : List Int) (S : Nat → Prop) : Prop := M.Nodup ∧ ∀ s : Int, s ∈ M ↔ ∃ m : Nat, s = m ∧ S m
theorem SetL.nil : SetL [] (fun _ => False) := ⟨List.nodup_nil, fun s => by simp⟩
theorem SetL.congr {M : List Int} {S S' : Nat → Prop} (s : SetL M S) (h : ∀ m, S m ↔ S' m) : SetL M S' := ⟨s.1, fun x => by rw [s.2]; constructor <;> (rintro ⟨m, h1, h2⟩; exact ⟨m, h1, by first | exact (h m).1 h2 | exact (h m).2 h2⟩)⟩
theorem SetL.snoc {M : List Int} {S : Nat → Prop} (s : SetL M S) {m : Nat} (hm : (m : Int) ∉ M) : SetL (M ++ [(m : Int)]) (fun x => S x ∨ x = m) := by
  refine ⟨?_, fun x => ?_⟩
  · rw [List.nodup_append]
    refine ⟨s.1, by simp, fun a ha b hb => ?_⟩
    simp at hb
    subst hb
    rintro rfl; exact hm ha
  · rw [List.mem_append, s.2, List.mem_singleton]
    constructor
    · rintro (⟨k, h1, h2⟩ | rfl)
      · exact ⟨k, h1, .inl h2⟩
      · exact ⟨m, rfl, .inr rfl⟩
    · rintro ⟨k, h1, h2 | rfl⟩
      · exact .inl ⟨k, h1, h2⟩
      · exact .inr h1
theorem SetL.old {M : List Int} {S : Nat → Prop} (s : SetL M S) {m : Nat} (hm : (m : Int) ∈ M) : SetL M (fun x => S x ∨ x = m) := by
  refine s.congr fun x => ⟨.inl, ?_⟩
  rintro (h | rfl)
  · exact h
  · obtain ⟨k, h1, h2⟩ := (s.2 _).1 hm
    have : x = k := by omega
    rw [this]; exact h2
theorem nodup_bound : ∀ (N : Nat) (l : List Int), l.Nodup → (∀ x ∈ l, 0 ≤ x ∧ x < (N : Int)) → l.length ≤ N := by
  intro N
  induction N with
  | zero =>
    intro l _ h
    cases l with
    | nil => simp
    | cons x l => have := h x (by simp); omega
  | succ N ih =>
    intro l hn h
    by_cases hm : (N : Int) ∈ l
    · have h1 := List.length_erase_of_mem hm
      have h2 := ih (l.erase (N : Int)) (hn.erase _) (fun x hx => by
        have hx' := (hn.mem_erase_iff).1 hx
        have := h x hx'.2
        have := hx'.1
        omega)
      omega
    · have := ih l hn (fun x hx => by
        have := h x hx
        have : x ≠ (N : Int) := by rintro rfl; exact hm hx
        omega)
      omega
theorem SetL.len {M : List Int} {S : Nat → Prop} (s : SetL M S) {N : Nat} (h : ∀ m, S m → m < N) : M.length ≤ N :=
  nodup_bound N M s.1 fun x hx => by obtain ⟨m, h1, h2⟩ := (s.2 x).1 hx; have := h m h2; omega
theorem Pick.at {rs : List Request} {I : List Int} {L : List Request} (p : Pick rs I L) {k : Nat} {i : Int} (hi : I[k]? = some i) : ∃ (j : Nat) (r : Request), i = j ∧ rs[j]? = some r ∧ L[k]? = some r := by
  obtain ⟨h1, r, h2, h3⟩ := p.2 k i hi
  exact ⟨i.toNat, r, by omega, h2, h3⟩
def metBy (u : UseFile) (L : List Request) (x : Span) (i : Nat) (m : Nat) : Prop := ∃ d ∈ (daysOf x).take i, m = meets u L d
theorem metBy_succ {u : UseFile} {L : List Request} {x : Span} {i : Nat} (hi : x.first + i ≤ x.last) (m : Nat) : metBy u L x (i + 1) m ↔ (metBy u L x i m ∨ m = meets u L (x.first + i)) := by
  unfold metBy
  rw [daysOf_succ i hi]
  simp only [List.mem_append, List.mem_singleton]
  constructor
  · rintro ⟨d, h1 | rfl, h2⟩
    · exact .inl ⟨d, h1, h2⟩
    · exact .inr h2
  · rintro (⟨d, h1, h2⟩ | h2)
    · exact ⟨d, .inl h1, h2⟩
    · exact ⟨_, .inr rfl, h2⟩
theorem metBy_lt {u : UseFile} {L : List Request} {x : Span} {i m : Nat} (h : metBy u L x i m) : m < 2 ^ L.length := by
  obtain ⟨d, _, rfl⟩ := h
  exact meets_lt' u L d
theorem pow16 {L : List Request} (h : L.length ≤ 4) : 2 ^ L.length ≤ 16 := Nat.pow_le_pow_right (by omega) h (n := 2)
end Go.Proofs.YtibibhojkfapnaaDoor
end

/- Contracts and laws for the proof, joined by a program. No condition. -/
import Derived.Test.YtbmfimaomcnkfaaDoorM4
set_option linter.all false
section
namespace Go.Proofs.YtbmfimaomcnkfaaDoor
open Go Go.TM Go.Proofs Go.TM.Tr
set_option maxRecDepth 100000 in
theorem via_ask_eq {v : Value} {d : Int} {A : Next → Cells → Prop} {E : Halt → Cells → Prop} {H : Cells} : Sem.lwp Tryd.prog (do let d ← Deferred.ofValue (.func (.func 137) #[] #[]) #[v, .int .i64 d]; invoke d.target d.args) A E H = Sem.lwp Tryd.prog (do let d ← Deferred.ofValue (.func (.method "touchmark/treaty.on") #[.iface 87 v] #[]) #[.int .i64 d]; invoke d.target d.args) A E H := by
  kernel_rfl
set_option maxRecDepth 100000 in
theorem via_ask {X : XP} {v : Value} {d : Int} {h : LH} {Q : Value → LH → Prop} (c : CV X Tryd.prog (.func (.func 137) #[] #[]) #[v, .int .i64 d] h Q) : CV X Tryd.prog (.func (.method "touchmark/treaty.on") #[.iface 87 v] #[]) #[.int .i64 d] h Q := by
  intro main R hR fr cs hk
  exact via_ask_eq.mp (c main R hR fr cs hk)
set_option maxRecDepth 100000 in
theorem via_turn_eq {v : Value} {d : Int} {A : Next → Cells → Prop} {E : Halt → Cells → Prop} {H : Cells} : Sem.lwp Tryd.prog (do let d ← Deferred.ofValue (.func (.func 138) #[] #[]) #[v, .int .i64 d]; invoke d.target d.args) A E H = Sem.lwp Tryd.prog (do let d ← Deferred.ofValue (.func (.method "touchmark/treaty.on") #[.iface 126 v] #[]) #[.int .i64 d]; invoke d.target d.args) A E H := by
  kernel_rfl
set_option maxRecDepth 100000 in
theorem via_turn {X : XP} {v : Value} {d : Int} {h : LH} {Q : Value → LH → Prop} (c : CV X Tryd.prog (.func (.func 138) #[] #[]) #[v, .int .i64 d] h Q) : CV X Tryd.prog (.func (.method "touchmark/treaty.on") #[.iface 126 v] #[]) #[.int .i64 d] h Q := by
  intro main R hR fr cs hk
  exact via_turn_eq.mp (c main R hR fr cs hk)
attribute [local irreducible] T.wp CV FWK
inductive Title where
  | ask (a : Int)
  | turn (a b : Int)
def turnV (f : TC) (x : TF) (k i a b : Int) : Value := .agg #[.int .i64 x.items, .int .i64 x.lands, .int .i64 x.start, .int .i64 x.depend, .int .i64 x.refuse, .int .i64 x.turn, .slice f.p f.n f.c, .int .i64 k, .int .i64 i, .int .i64 a, .int .i64 (askEnd x k i a), .bool (fallen x k i a), .int .i64 b, .int .i64 (limits x k i b)]
def titleV (f : TC) (x : TF) (k i : Int) : Title → Value
  | .ask a => .iface 87 (askV f x k i a)
  | .turn a b => .iface 126 (turnV f x k i a b)
def titleDate : Title → Int
  | .ask a => a
  | .turn a _ => a
def titleOn (x : TF) (k i d : Int) : Title → Bool
  | .ask a => decide (a ≤ d ∧ d < askEnd x k i a) && !refused x k i a d
  | .turn _ b => decide (b ≤ d ∧ d < limits x k i b)
def turnsL (x : TF) (k i : Int) (l : List Ev) : List Title := (l.filter fun e => decide (0 ≤ turned x k i e.day)).map fun e => .turn (turned x k i e.day) e.day
def titlesL (x : TF) (k i : Int) : List Title := (askDays x k i).map .ask ++ turnsL x k i (x.events.filter (allB 5 k i))
theorem titles_held (x : TF) (k i d : Int) : ((titlesL x k i).filter (titleOn x k i d)).map titleDate = held x k i d := by
  unfold titlesL turnsL held askHeld turnHeld
  rw [List.filter_append, List.map_append]
  congr 1
  · rw [List.filter_map, List.map_map]
    have : titleDate ∘ Title.ask = id := rfl
    rw [this, List.map_id]; rfl
  · rw [List.filter_map, List.map_map, List.filter_filter, List.filter_filter]
    congr 1
    refine List.filter_congr fun e _ => ?_
    rw [allB_about (by decide)]
    show (decide (e.day ≤ d ∧ d < limits x k i e.day) && decide (0 ≤ turned x k i e.day) && about e 5 k i) = _
    cases about e 5 k i <;> cases decide (0 ≤ turned x k i e.day) <;> cases decide (e.day ≤ d ∧ d < limits x k i e.day) <;> rfl
def TitleE (f : TC) (x : TF) (k i : Int) (h : Cells) (a : Addr) (t : Title) : Prop := h.cell? (a.add 0) = some (titleV f x k i t)
def TitleEnc (f : TC) (x : TF) (k i : Int) (t : Title) (ws : List Value) : Prop := ws = [titleV f x k i t]
theorem TitleE.grow {f : TC} {x : TF} {k i : Int} : Grow (TitleE f x k i) := fun _ _ _ _ hl h => hl _ _ h
theorem TitleEnc.len {f : TC} {x : TF} {k i : Int} : ∀ d ws, TitleEnc f x k i d ws → ws.length = 1 := by rintro d _ rfl; rfl
theorem TitleEnc.e {f : TC} {x : TF} {k i : Int} {h' : Cells} : ∀ a d ws, TitleEnc f x k i d ws → (∀ (j : Nat) w, ws[j]? = some w → h'.cell? (a.add j) = some w) → TitleE f x k i h' a d := by
  rintro a d _ rfl hc; exact hc 0 _ rfl
theorem titleV_one (f : TC) (x : TF) (k i : Int) (t : Title) : isOne (titleV f x k i t) = true := by cases t <;> rfl
theorem c2138 {h : LH} (f : TC) (x : TF) (v : Ok x) (k i a b d : Int) : Pu Tryd.prog 138 #[turnV f x k i a b, .int .i64 d] h (.tuple #[.int .i64 a, .bool (decide (b ≤ d ∧ d < limits x k i b))]) := by
  refine w2138 _ _ _ _ _ _ _ _ _ _ _ _ _ _ _ _ _ X0_ok ?_
  unfold n2138
  have hl := limits_low v k i b
  rw [wrap_id (by omega) (by omega)]
  have hin : inB d b (limits x k i b - 1) = decide (b ≤ d ∧ d < limits x k i b) := by
    unfold inB
    rw [Bool.eq_iff_iff]
    simp only [Bool.and_eq_true, decide_eq_true_eq]
    omega
  refine t_pu (c2052 _ _ _) ?_
  rw [hin]
  (repeat (first | (with_reducible first | apply gA | apply gB | apply gC | apply gD | apply gE | apply gF | apply gG | apply gH | apply gI | apply gJ | apply gK | apply gL | apply gM | apply gN | apply gO | apply gP | apply gQ | apply gR | apply gP2 | apply gP3) | ((with_reducible first | apply gT | apply gS2); first | exact rfl | assumption | omega | exact ⟨⟩) | ((with_reducible first | apply gL0 | apply gL1 | apply gL2 | apply gL3 | apply gL4); assumption)))
  exact t_ret ⟨rfl, rfl⟩
theorem titles_ask {x : TF} {k i : Int} {t : Title} (h : t ∈ titlesL x k i) : (∃ a, t = .ask a ∧ a ∈ askDays x k i) ∨ ∃ e ∈ x.events, t = .turn (turned x k i e.day) e.day ∧ 0 ≤ turned x k i e.day := by
  unfold titlesL turnsL at h
  rcases List.mem_append.1 h with h | h
  · obtain ⟨a, ha, rfl⟩ := List.mem_map.1 h
    exact .inl ⟨a, rfl, ha⟩
  · obtain ⟨e, he, rfl⟩ := List.mem_map.1 h
    have h1 := List.mem_filter.1 he
    exact .inr ⟨e, (List.mem_filter.1 h1.1).1, rfl, by simpa using h1.2⟩
theorem titles_len (x : TF) (k i : Int) : (titlesL x k i).length ≤ 2 * x.events.length := by
  unfold titlesL turnsL
  rw [List.length_append, List.length_map, List.length_map]
  have h1 := askDays_len x k i
  have h2 := List.length_filter_le (fun e : Ev => decide (0 ≤ turned x k i e.day)) (x.events.filter (allB 5 k i))
  have h3 := List.length_filter_le (allB 5 k i) x.events
  omega
theorem cv_title {h : LH} (hk : Kinds h.get) {f : TC} {x : TF} (hx : TreatyR h.get f x) (rt : Right x) (k i d : Int) {t : Title} (ht : t ∈ titlesL x k i) :
    CV X0 Tryd.prog (.func (.method "touchmark/treaty.on") #[titleV f x k i t] #[]) #[.int .i64 d] h fun r h' => h.le h' ∧ r = .tuple #[.int .i64 (titleDate t), .bool (titleOn x k i d t)] := by
  rcases titles_ask ht with ⟨a, rfl, ha⟩ | ⟨e, _, rfl, _⟩
  · refine via_ask (cv_fw X0_ok (hargs := #[askV f x k i a, .int .i64 d]) (by rfl) ?_)
    have h1 := rt.askDay ha
    have h2 := rt.refuse
    have h3 := askEnd_low rt.ok k i a
    exact c2137 hk hx k i (by unfold IsI; omega) (by unfold IsI; omega) d
  · refine via_turn (cv_fw X0_ok (hargs := #[turnV f x k i (turned x k i e.day) e.day, .int .i64 d]) (by rfl) ?_)
    exact pu_gr (c2138 f x rt.ok k i _ _ d)
theorem turns_step {x : TF} {k i : Int} {l : List Ev} {e : Ev} (h : 0 ≤ turned x k i e.day) : turnsL x k i (l ++ [e]) = turnsL x k i l ++ [.turn (turned x k i e.day) e.day] := by
  unfold turnsL
  rw [List.filter_append, List.map_append, List.filter_cons, if_pos (by simpa using h)]; rfl
theorem turns_skip {x : TF} {k i : Int} {l : List Ev} {e : Ev} (h : ¬ 0 ≤ turned x k i e.day) : turnsL x k i (l ++ [e]) = turnsL x k i l := by
  unfold turnsL
  rw [List.filter_append, List.map_append, List.filter_cons, if_neg (by simpa using h)]; simp
def butOf (h : Cells) : Option Addr → Cells
  | none => h
  | some a => fun r => if r = a.block then none else h r
def onlyOf (h : Cells) : Option Addr → Cells
  | none => fun _ => none
  | some a => fun r => if r = a.block then h r else none
theorem but_only (h : Cells) (p : Option Addr) : h = (butOf h p).add (onlyOf h p) ∧ Disj (butOf h p) (onlyOf h p) := by
  cases p with
  | none => exact ⟨by funext r; unfold butOf onlyOf Cells.add; simp only; cases h r <;> rfl, fun r => .inr rfl⟩
  | some a =>
    refine ⟨?_, fun r => ?_⟩
    · funext r
      unfold butOf onlyOf Cells.add
      by_cases e : r = a.block
      · simp [e]
      · simp [e]; cases h r <;> rfl
    · unfold butOf onlyOf
      by_cases e : r = a.block
      · simp [e]
      · simp [e]
theorem but_le {h₁ h : Cells} {p : Option Addr} (hl : h₁.le h) (hp : NewIn h₁ p) : h₁.le (butOf h p) := by
  intro r x hr
  cases p with
  | none => exact hl r x hr
  | some a =>
    unfold butOf
    have hne : r ≠ a.block := by
      rintro rfl
      have := hp a rfl
      rw [this] at hr; cases hr
    simp [hne]; exact hl r x hr
theorem Growing.over {α : Type} {Enc : α → List Value → Prop} {el : TypeId} {k : Nat} {h₀ h hb : Cells} {p : Option Addr} {n c : Nat} {l : List α} (g : Growing Enc el k h₀ h p n c l) (d : Disj hb (onlyOf h p)) : Growing Enc el k hb (hb.add (onlyOf h p)) p n c l := by
  obtain ⟨vs, ⟨h1, h2⟩, h3⟩ := g.row
  rcases h2 with h2 | ⟨r, cs, rfl, hr, h4⟩
  · exact ⟨⟨vs, ⟨h1, .inl h2⟩, h3⟩, fun a ha => by rw [h2.1] at ha; cases ha⟩
  · have ho : onlyOf h (some ⟨r, 0, none⟩) r = some (true, .cells cs el (0, 0)) := by unfold onlyOf; simp [hr]
    refine ⟨⟨vs, ⟨h1, .inr ⟨r, cs, rfl, Cells.add_right' d ho, h4⟩⟩, h3⟩, fun a ha => ?_⟩
    cases ha
    rcases d r with h5 | h5
    · exact h5
    · rw [ho] at h5; cases h5
theorem t_allF {X : XP} {Q : Leaf → LH → Prop} {h hb : LH} {kq : Cells} {kk : Value → T} (hX : XOK X) (hh : h = hb.add kq) (d : Disj hb.get kq) (hk : Kinds hb.get) {f : TC} {x : TF} (hx : TreatyR hb.get f x) (k i : Int) (K : Nat) (hK : K < 7)
    (hw : ∀ v hb' L, hb.le hb' → Disj hb'.get kq → L.length = (x.events.filter (allB K k i)).length → (∀ (j : Nat) xs, L[j]? = some xs → ∃ e q m c, (x.events.filter (allB K k i))[j]? = some e ∧ xs = [evV e q m c] ∧ Sl IntE 1 hb'.get q m e.items) → Hands X Tryd.prog v hb' L → (kk v).wp X Tryd.prog Q (hb'.add kq)) :
    (T.call false 83 #[matV f x k i, .int .i64 (K : Int)] kk).wp X Tryd.prog Q h := by
  subst hh
  refine t_call (FW.frame hX (FW.top (c2083 (h := hb) f x k i K)) d) ?_
  rintro _ _ ⟨h', d', rfl, le1, z0, z1, rfl, hm, hz⟩
  obtain ⟨L, h1, h2, h3⟩ := hands2095 hX (hk.le le1.1) hK hm hz (hx.le le1.1)
  exact hw _ h' L le1 d' h1 h2 h3
set_option maxRecDepth 10000 in
theorem c2082 {h : LH} (hk : Kinds h.get) {f : TC} {x : TF} (hx : TreatyR h.get f x) (rt : Right x) (k i : Int) :
    Gr Tryd.prog 82 #[matV f x k i] h fun r h' => ∃ p n c, r = .slice p n c ∧ Sl (TitleE f x k i) 1 h'.get p n (titlesL x k i) := by
  refine w2082 _ _ _ _ _ _ _ _ _ _ _ X0_ok ?_
  unfold n2082
  refine t_gr (c2084 hk hx rt.sum (Nat.le_trans rt.many (by omega)) k i) ?_
  rintro _ h₁ le1 ⟨p, n, c, rfl, hs⟩
  (repeat (first | (with_reducible first | apply gA | apply gB | apply gC | apply gD | apply gE | apply gF | apply gG | apply gH | apply gI | apply gJ | apply gK | apply gL | apply gM | apply gN | apply gO | apply gP | apply gQ | apply gR | apply gP2 | apply gP3) | ((with_reducible first | apply gT | apply gS2); first | exact rfl | assumption | omega | exact ⟨⟩) | ((with_reducible first | apply gL0 | apply gL1 | apply gL2 | apply gL3 | apply gL4); assumption)))
  have hn := hs.1
  have hb := hs.2.1
  have hlen := askDays_len x k i
  have hmany := rt.many
  have htl := titles_len x k i
  refine t_loop (fun mm vs h' => h₁.le h' ∧ ∃ (j : Nat) (q : Option Addr) (m cc : Nat), vs = [.int .i64 j, .slice q m cc] ∧ j ≤ n ∧ mm = n - j ∧ Growing (TitleEnc f x k i) 115 1 h₁.get h'.get q m cc (((askDays x k i).take j).map .ask))
    ⟨LH.le_refl _, 0, none, 0, 0, rfl, Nat.zero_le _, rfl, Growing.nil⟩ ?_
  rintro Y mm vs h2 hY ⟨le2, j, q, m, cc, rfl, hj, rfl, g⟩
  (repeat (first | (with_reducible first | apply gA | apply gB | apply gC | apply gD | apply gE | apply gF | apply gG | apply gH | apply gI | apply gJ | apply gK | apply gL | apply gM | apply gN | apply gO | apply gP | apply gQ | apply gR | apply gP2 | apply gP3) | ((with_reducible first | apply gT | apply gS2); first | exact rfl | assumption | omega | exact ⟨⟩) | ((with_reducible first | apply gL0 | apply gL1 | apply gL2 | apply gL3 | apply gL4); assumption)))
  refine t_if (fun e1 => ?_) (fun e1 => ?_)
  · obtain ⟨a, ad, ha, had, he⟩ := (hs.le AskE.grow le2.1).at (i := j) (by omega)
    have g0 := he 0 _ rfl
    have g1 := he 1 _ rfl
    have g2 := he 2 _ rfl
    have g3 := he 3 _ rfl
    have g4 := he 4 _ rfl
    have g5 := he 5 _ rfl
    have g6 := he 6 _ rfl
    have g7 := he 7 _ rfl
    have g8 := he 8 _ rfl
    have g9 := he 9 _ rfl
    have g10 := he 10 _ rfl
    have g11 := he 11 _ rfl
    have hm : m ≤ 100 := by
      rw [g.count TitleEnc.len (by omega), List.length_map, List.length_take]; omega
    (repeat (first | (with_reducible first | apply gA | apply gB | apply gC | apply gD | apply gE | apply gF | apply gG | apply gH | apply gI | apply gJ | apply gK | apply gL | apply gM | apply gN | apply gO | apply gP | apply gQ | apply gR | apply gP2 | apply gP3) | ((with_reducible first | apply gT | apply gS2); first | exact rfl | assumption | omega | exact ⟨⟩) | ((with_reducible first | apply gL0 | apply gL1 | apply gL2 | apply gL3 | apply gL4); assumption)))
    refine t_push (Title.ask a) [titleV f x k i (.ask a)] rfl rfl undTitles infTitle rfl (by omega) (by decide) (by kernel_rfl) rfl (by simp [titleV_one]) (by omega) g le2 rfl ?_
    intro p' c' h3 le3 _ g3'
    (repeat (first | (with_reducible first | apply gA | apply gB | apply gC | apply gD | apply gE | apply gF | apply gG | apply gH | apply gI | apply gJ | apply gK | apply gL | apply gM | apply gN | apply gO | apply gP | apply gQ | apply gR | apply gP2 | apply gP3) | ((with_reducible first | apply gT | apply gS2); first | exact rfl | assumption | omega | exact ⟨⟩) | ((with_reducible first | apply gL0 | apply gL1 | apply gL2 | apply gL3 | apply gL4); assumption)))
    refine t_again (hY (n - (j + 1)) _ _ (by omega) ⟨le3, j + 1, p', m + 1, c', ?_, by omega, rfl, ?_⟩)
    · rw [wrap_id (by omega) (by omega)]; rfl
    · rw [List.take_add_one, ha, List.map_append]
      exact g3'
  · (repeat (first | (with_reducible first | apply gA | apply gB | apply gC | apply gD | apply gE | apply gF | apply gG | apply gH | apply gI | apply gJ | apply gK | apply gL | apply gM | apply gN | apply gO | apply gP | apply gQ | apply gR | apply gP2 | apply gP3) | ((with_reducible first | apply gT | apply gS2); first | exact rfl | assumption | omega | exact ⟨⟩) | ((with_reducible first | apply gL0 | apply gL1 | apply gL2 | apply gL3 | apply gL4); assumption)))
    have hjn : j = (askDays x k i).length := by omega
    subst hjn
    rw [List.take_of_length_le (Nat.le_refl _)] at g
    have hbo := but_only h2.get q
    have lebut : h₁.get.le (butOf h2.get q) := but_le le2.1 g.new
    refine t_allF (hb := { h2 with get := butOf h2.get q }) (kq := onlyOf h2.get q) X0_ok (by unfold LH.add; simp only; rw [← hbo.1]) hbo.2 ((hk.le le1.1).le lebut) ((hx.le le1.1).le lebut) k i 5 (by decide) ?_
    intro v h3 L leb3 d3 hL1 hL2 hH
    have le3 : h₁.le h3 := ⟨Cells.le_trans lebut leb3.1, leb3.2.1.trans le2.2.1, leb3.2.2.1.trans le2.2.2.1, leb3.2.2.2.trans le2.2.2.2⟩
    have le03 := LH.le_trans le1 le3
    have hFl := List.length_filter_le (allB 5 k i) x.events
    have htit : titlesL x k i = (askDays x k i).map .ask ++ turnsL x k i (x.events.filter (allB 5 k i)) := rfl
    rw [htit]
    generalize hF : x.events.filter (allB 5 k i) = F at hL1 hL2 hFl
    have leA : h3.le (h3.add (onlyOf h2.get q)) := ⟨Cells.le_add _ _, rfl, rfl, rfl⟩
    refine t_each leA hH (fun j vs h' => ∃ (q : Option Addr) (m cc : Nat), vs = [.slice q m cc] ∧ Growing (TitleEnc f x k i) 115 1 h3.get h'.get q m cc ((askDays x k i).map .ask ++ turnsL x k i (F.take j)))
      ⟨q, m, cc, rfl, by simpa [turnsL, LH.add] using Growing.over g d3⟩ ?_ ?_
    · rintro vs h' hle ⟨q, m, cc, rfl, g⟩
      rw [hL1, List.take_of_length_le (Nat.le_refl _)] at g
      (repeat (first | (with_reducible first | apply gA | apply gB | apply gC | apply gD | apply gE | apply gF | apply gG | apply gH | apply gI | apply gJ | apply gK | apply gL | apply gM | apply gN | apply gO | apply gP | apply gQ | apply gR | apply gP2 | apply gP3) | ((with_reducible first | apply gT | apply gS2); first | exact rfl | assumption | omega | exact ⟨⟩) | ((with_reducible first | apply gL0 | apply gL1 | apply gL2 | apply gL3 | apply gL4); assumption)))
      refine t_ret ⟨LH.le_trans le03 hle, q, m, cc, rfl, g.sl TitleEnc.len (by omega) TitleEnc.e ?_⟩
      rw [htit, hF] at htl; omega
    · rintro j xs vs h' hj2 hle ⟨q, m, cc, rfl, g⟩ Y2 hY2
      obtain ⟨e, qe, me, ce, he, rfl, hit⟩ := hL2 j xs hj2
      have htake : F.take (j + 1) = F.take j ++ [e] := by rw [List.take_add_one, he]; rfl
      have le13 := LH.le_trans le03 hle
      unfold evV
      (repeat (first | (with_reducible first | apply gA | apply gB | apply gC | apply gD | apply gE | apply gF | apply gG | apply gH | apply gI | apply gJ | apply gK | apply gL | apply gM | apply gN | apply gO | apply gP | apply gQ | apply gR | apply gP2 | apply gP3) | ((with_reducible first | apply gT | apply gS2); first | exact rfl | assumption | omega | exact ⟨⟩) | ((with_reducible first | apply gL0 | apply gL1 | apply gL2 | apply gL3 | apply gL4); assumption)))
      refine t_gr (c2064 (hk.le le13.1) (hx.le le13.1) rt k i e.day) ?_
      rintro _ h4 le4 rfl
      have le14 := LH.le_trans le13 le4
      cases ho : turnO x k i e.day with
      | none =>
        have hno := (turnO_none rt.ok).1 ho
        simp only [Option.isSome, bestCells, zeroAsk]
        (repeat (first | (with_reducible first | apply gA | apply gB | apply gC | apply gD | apply gE | apply gF | apply gG | apply gH | apply gI | apply gJ | apply gK | apply gL | apply gM | apply gN | apply gO | apply gP | apply gQ | apply gR | apply gP2 | apply gP3) | ((with_reducible first | apply gT | apply gS2); first | exact rfl | assumption | omega | exact ⟨⟩) | ((with_reducible first | apply gL0 | apply gL1 | apply gL2 | apply gL3 | apply gL4); assumption)))
        refine t_cond (fun e => by cases e) (fun _ => ?_)
        (repeat (first | (with_reducible first | apply gA | apply gB | apply gC | apply gD | apply gE | apply gF | apply gG | apply gH | apply gI | apply gJ | apply gK | apply gL | apply gM | apply gN | apply gO | apply gP | apply gQ | apply gR | apply gP2 | apply gP3) | ((with_reducible first | apply gT | apply gS2); first | exact rfl | assumption | omega | exact ⟨⟩) | ((with_reducible first | apply gL0 | apply gL1 | apply gL2 | apply gL3 | apply gL4); assumption)))
        refine t_againE (LH.le_trans hle le4) (hY2 _ _ (LH.le_trans hle le4) ⟨q, m, cc, rfl, ?_⟩)
        rw [htake, turns_skip hno]
        exact g.le le4.1
      | some a =>
        obtain ⟨ha0, hae⟩ := turnO_some rt.ok ho
        simp only [Option.isSome, bestCells, askCells]
        (repeat (first | (with_reducible first | apply gA | apply gB | apply gC | apply gD | apply gE | apply gF | apply gG | apply gH | apply gI | apply gJ | apply gK | apply gL | apply gM | apply gN | apply gO | apply gP | apply gQ | apply gR | apply gP2 | apply gP3) | ((with_reducible first | apply gT | apply gS2); first | exact rfl | assumption | omega | exact ⟨⟩) | ((with_reducible first | apply gL0 | apply gL1 | apply gL2 | apply gL3 | apply gL4); assumption)))
        refine t_cond (fun _ => ?_) (fun e => by cases e)
        (repeat (first | (with_reducible first | apply gA | apply gB | apply gC | apply gD | apply gE | apply gF | apply gG | apply gH | apply gI | apply gJ | apply gK | apply gL | apply gM | apply gN | apply gO | apply gP | apply gQ | apply gR | apply gP2 | apply gP3) | ((with_reducible first | apply gT | apply gS2); first | exact rfl | assumption | omega | exact ⟨⟩) | ((with_reducible first | apply gL0 | apply gL1 | apply gL2 | apply gL3 | apply gL4); assumption)))
        refine t_gr (c2094 (hk.le le14.1) (hx.le le14.1) k i e.day) ?_
        rintro _ h5 le5 rfl
        (repeat (first | (with_reducible first | apply gA | apply gB | apply gC | apply gD | apply gE | apply gF | apply gG | apply gH | apply gI | apply gJ | apply gK | apply gL | apply gM | apply gN | apply gO | apply gP | apply gQ | apply gR | apply gP2 | apply gP3) | ((with_reducible first | apply gT | apply gS2); first | exact rfl | assumption | omega | exact ⟨⟩) | ((with_reducible first | apply gL0 | apply gL1 | apply gL2 | apply gL3 | apply gL4); assumption)))
        have hm : m ≤ 100 := by
          rw [g.count TitleEnc.len (by omega), List.length_append, List.length_map]
          unfold turnsL
          rw [List.length_map]
          have h1 := List.length_filter_le (fun e : Ev => decide (0 ≤ turned x k i e.day)) (F.take j)
          have h2 : (F.take j).length ≤ F.length := by rw [List.length_take]; omega
          omega
        refine t_buildR [titleV f x k i (.turn a e.day)] undTitles infTitle (by decide) (by decide) (by kernel_rfl) ?_
        intro r h6 le6 _ hr6
        (repeat (first | (with_reducible first | apply gA | apply gB | apply gC | apply gD | apply gE | apply gF | apply gG | apply gH | apply gI | apply gJ | apply gK | apply gL | apply gM | apply gN | apply gO | apply gP | apply gQ | apply gR | apply gP2 | apply gP3) | ((with_reducible first | apply gT | apply gS2); first | exact rfl | assumption | omega | exact ⟨⟩) | ((with_reducible first | apply gL0 | apply gL1 | apply gL2 | apply gL3 | apply gL4); assumption)))
        refine t_growR (h₀ := h3) (Enc := TitleEnc f x k i) (Title.turn a e.day) [titleV f x k i (.turn a e.day)] rfl rfl undTitles infTitle rfl (by omega) (by omega) (g.le (LH.le_trans le4 (LH.le_trans le5 le6)).1) (LH.le_trans hle (LH.le_trans le4 (LH.le_trans le5 le6))) rfl rfl hr6 (by simp [titleV_one]) ?_
        intro p' c' h7 le7 kp7 g7
        (repeat (first | (with_reducible first | apply gA | apply gB | apply gC | apply gD | apply gE | apply gF | apply gG | apply gH | apply gI | apply gJ | apply gK | apply gL | apply gM | apply gN | apply gO | apply gP | apply gQ | apply gR | apply gP2 | apply gP3) | ((with_reducible first | apply gT | apply gS2); first | exact rfl | assumption | omega | exact ⟨⟩) | ((with_reducible first | apply gL0 | apply gL1 | apply gL2 | apply gL3 | apply gL4); assumption)))
        refine t_againE le7 (hY2 _ _ le7 ⟨p', _, c', rfl, ?_⟩)
        rw [htake, turns_step (by rw [← hae]; exact ha0), ← List.append_assoc, ← hae]
        exact g7
end Go.Proofs.YtbmfimaomcnkfaaDoor
end
section
namespace Go.Proofs.YtbmfimaomcnkfaaDoor
open Go Go.TM Go.Proofs Go.TM.Tr
attribute [local irreducible] T.wp CV FWK
theorem dated_all (x : TF) (k i d a : Int) (ha : a ≤ 10000) : dated x k i d a = leastFrom a (((x.events.filter (allB 6 k i)).filter fun e => decide (e.day ≤ d) && decide (e.since ≤ a)).map (·.since)) := by
  unfold dated oldL
  rw [leastFrom_min _ _ ha, List.filter_filter, least_cons]
  have : (x.events.filter fun e => about e 6 k i && (decide (e.day ≤ d) && decide (e.since ≤ a))) = x.events.filter fun e => (decide (e.day ≤ d) && decide (e.since ≤ a)) && allB 6 k i e := by
    refine List.filter_congr fun e _ => ?_
    rw [allB_about (by decide), Bool.and_comm]; rfl
  rw [this]
theorem dateOn_least {x : TF} (v : Ok x) (k i d : Int) : dateOn x k i d = if least ((held x k i d).map (dated x k i d)) = 10000 then -1 else least ((held x k i d).map (dated x k i d)) := by
  unfold dateOn
  rcases leastOr_mem (date_vals v (k := k) (i := i) (d := d)) with ⟨h1, h2⟩ | ⟨h1, h2⟩
  · rw [h1, h2]; rfl
  · rw [h2]
    have := date_vals v (k := k) (i := i) (d := d) _ h1
    rw [h2] at this
    rw [if_neg (by omega)]
theorem title_low {x : TF} (rt : Right x) {k i : Int} {t : Title} (h : t ∈ titlesL x k i) : titleDate t ≤ 10000 := by
  rcases titles_ask h with ⟨a, rfl, ha⟩ | ⟨e, _, rfl, _⟩
  · have := rt.askDay ha
    show a ≤ 10000
    omega
  · show turned x k i e.day ≤ 10000
    rcases turned_vals rt.ok k i e.day with ⟨h1, _⟩ | ⟨h1, _⟩
    · omega
    · have := rt.ok.turnedL _ h1; omega
set_option maxRecDepth 10000 in
theorem c2060 {h : LH} (hk : Kinds h.get) {f : TC} {x : TF} (hx : TreatyR h.get f x) (rt : Right x) (k i d : Int) :
    Gr Tryd.prog 60 #[matV f x k i, .int .i64 d] h fun r _ => r = .int .i64 (dateOn x k i d) := by
  refine w2060 _ _ _ _ _ _ _ _ _ _ _ _ X0_ok ?_
  unfold n2060
  refine t_gr (c2082 hk hx rt k i) ?_
  rintro _ h₁ le1 ⟨p, n, c, rfl, hs⟩
  (repeat (first | (with_reducible first | apply gA | apply gB | apply gC | apply gD | apply gE | apply gF | apply gG | apply gH | apply gI | apply gJ | apply gK | apply gL | apply gM | apply gN | apply gO | apply gP | apply gQ | apply gR | apply gP2 | apply gP3) | ((with_reducible first | apply gT | apply gS2); first | exact rfl | assumption | omega | exact ⟨⟩) | ((with_reducible first | apply gL0 | apply gL1 | apply gL2 | apply gL3 | apply gL4); assumption)))
  have hn := hs.1
  have hb := hs.2.1
  have htl := titles_len x k i
  have hmany := rt.many
  refine t_loop (fun mm vs h' => h₁.le h' ∧ ∃ (j : Nat) (b : Int), vs = [.int .i64 b, .int .i64 j, .int .i64 x.items, .int .i64 x.lands, .int .i64 x.start, .int .i64 x.depend, .int .i64 x.refuse, .int .i64 x.turn, .slice f.p f.n f.c, .int .i64 k, .int .i64 i, .int .i64 d] ∧ j ≤ n ∧ mm = n - j ∧ b ≤ 10000 ∧
      least ((held x k i d).map (dated x k i d)) = leastFrom b (((((titlesL x k i).drop j).filter (titleOn x k i d)).map titleDate).map (dated x k i d)))
    ⟨LH.le_refl _, 0, 10000, rfl, Nat.zero_le _, rfl, Int.le_refl _, by rw [List.drop_zero, titles_held, leastFrom_cap]⟩ ?_
  rintro Y mm vs h2 hY ⟨le2, j, b, rfl, hj, rfl, hb1, hc⟩
  have le12 := LH.le_trans le1 le2
  have next : ∀ h' (b' : Int), h₁.le h' → j + 1 ≤ n → b' ≤ 10000 → least ((held x k i d).map (dated x k i d)) = leastFrom b' (((((titlesL x k i).drop (j + 1)).filter (titleOn x k i d)).map titleDate).map (dated x k i d)) →
      Y [.int .i64 b', .int .i64 (IntKind.wrap .i64 ((j : Int) + 1)), .int .i64 x.items, .int .i64 x.lands, .int .i64 x.start, .int .i64 x.depend, .int .i64 x.refuse, .int .i64 x.turn, .slice f.p f.n f.c, .int .i64 k, .int .i64 i, .int .i64 d] h' := by
    intro h' b' hle' hlt hb' hc'
    refine hY (n - (j + 1)) _ _ (by omega) ⟨hle', j + 1, b', ?_, by omega, rfl, hb', hc'⟩
    rw [wrap_id (by omega) (by omega)]; rfl
  (repeat (first | (with_reducible first | apply gA | apply gB | apply gC | apply gD | apply gE | apply gF | apply gG | apply gH | apply gI | apply gJ | apply gK | apply gL | apply gM | apply gN | apply gO | apply gP | apply gQ | apply gR | apply gP2 | apply gP3) | ((with_reducible first | apply gT | apply gS2); first | exact rfl | assumption | omega | exact ⟨⟩) | ((with_reducible first | apply gL0 | apply gL1 | apply gL2 | apply gL3 | apply gL4); assumption)))
  refine t_if (fun e1 => ?_) (fun e1 => ?_)
  · obtain ⟨t, ad, ht, had, he⟩ := (hs.le TitleE.grow le2.1).at (i := j) (by omega)
    unfold TitleE at he
    rw [add_zero'] at he
    have htm := List.mem_of_getElem? ht
    rw [drop_of ht, List.filter_cons] at hc
    subst had
    refine gT (by omega) (gS2 rfl (t_loadV he ?_))
    refine t_callv (cv_title (hk.le le12.1) (hx.le le12.1) rt k i d htm) ?_
    rintro _ h3 ⟨le3, rfl⟩
    have le13 := LH.le_trans le12 le3
    have le23 := LH.le_trans le2 le3
    (repeat (first | (with_reducible first | apply gA | apply gB | apply gC | apply gD | apply gE | apply gF | apply gG | apply gH | apply gI | apply gJ | apply gK | apply gL | apply gM | apply gN | apply gO | apply gP | apply gQ | apply gR | apply gP2 | apply gP3) | ((with_reducible first | apply gT | apply gS2); first | exact rfl | assumption | omega | exact ⟨⟩) | ((with_reducible first | apply gL0 | apply gL1 | apply gL2 | apply gL3 | apply gL4); assumption)))
    refine t_cond (fun e2 => ?_) (fun e2 => ?_)
    · have e2 : titleOn x k i d t = false := by simpa using e2
      rw [e2, if_neg (by simp)] at hc
      exact t_again (next h3 b le23 (by omega) hb1 hc)
    · have e2 : titleOn x k i d t = true := by simpa using e2
      rw [e2, if_pos rfl, List.map_cons, List.map_cons, leastFrom] at hc
      have hlow := title_low rt htm
      refine t_all X0_ok (hk.le le13.1) (hx.le le13.1) k i 6 (by decide) ?_
      intro v h4 L le4 hL1 hL2 hH
      have hdt := dated_all x k i d (titleDate t) hlow
      generalize hF : x.events.filter (allB 6 k i) = F at hL1 hL2 hdt
      have le24 := LH.le_trans le23 le4
      refine t_each (LH.le_refl h4) hH (fun j vs h' => ∃ a : Int, vs = [.int .i64 a] ∧ a ≤ 10000 ∧ dated x k i d (titleDate t) = leastFrom a (((F.drop j).filter fun e => decide (e.day ≤ d) && decide (e.since ≤ titleDate t)).map (·.since)))
        ⟨_, rfl, hlow, hdt⟩ ?_ ?_
      · rintro vs h' hle ⟨a, rfl, hal, hda⟩
        rw [List.drop_eq_nil_of_le (by omega)] at hda
        simp only [List.filter_nil, List.map_nil, leastFrom] at hda
        rw [hda] at hc
        (repeat (first | (with_reducible first | apply gA | apply gB | apply gC | apply gD | apply gE | apply gF | apply gG | apply gH | apply gI | apply gJ | apply gK | apply gL | apply gM | apply gN | apply gO | apply gP | apply gQ | apply gR | apply gP2 | apply gP3) | ((with_reducible first | apply gT | apply gS2); first | exact rfl | assumption | omega | exact ⟨⟩) | ((with_reducible first | apply gL0 | apply gL1 | apply gL2 | apply gL3 | apply gL4); assumption)))
        exact t_again (next h' _ (LH.le_trans le24 hle) (by omega) (by split <;> omega) hc)
      · rintro j2 xs vs h' hj2 hle ⟨a, rfl, hal, hda⟩ Y2 hY2
        obtain ⟨e, q, m, cc, hev, rfl, hit⟩ := hL2 j2 xs hj2
        rw [drop_of hev, List.filter_cons] at hda
        unfold evV
        (repeat (first | (with_reducible first | apply gA | apply gB | apply gC | apply gD | apply gE | apply gF | apply gG | apply gH | apply gI | apply gJ | apply gK | apply gL | apply gM | apply gN | apply gO | apply gP | apply gQ | apply gR | apply gP2 | apply gP3) | ((with_reducible first | apply gT | apply gS2); first | exact rfl | assumption | omega | exact ⟨⟩) | ((with_reducible first | apply gL0 | apply gL1 | apply gL2 | apply gL3 | apply gL4); assumption)))
        refine t_if (fun e3 => ?_) (fun e3 => ?_)
        · refine t_if (fun e4 => ?_) (fun e4 => ?_)
          · rw [if_pos (by simp; omega), List.map_cons, leastFrom] at hda
            exact t_againE hle (hY2 _ _ hle ⟨_, rfl, by split <;> omega, hda⟩)
          · rw [if_neg (by simp; omega)] at hda
            exact t_againE hle (hY2 _ _ hle ⟨_, rfl, hal, hda⟩)
        · rw [if_neg (by simp; omega)] at hda
          exact t_againE hle (hY2 _ _ hle ⟨_, rfl, hal, hda⟩)
  · (repeat (first | (with_reducible first | apply gA | apply gB | apply gC | apply gD | apply gE | apply gF | apply gG | apply gH | apply gI | apply gJ | apply gK | apply gL | apply gM | apply gN | apply gO | apply gP | apply gQ | apply gR | apply gP2 | apply gP3) | ((with_reducible first | apply gT | apply gS2); first | exact rfl | assumption | omega | exact ⟨⟩) | ((with_reducible first | apply gL0 | apply gL1 | apply gL2 | apply gL3 | apply gL4); assumption)))
    rw [List.drop_eq_nil_of_le (by omega)] at hc
    simp only [List.filter_nil, List.map_nil, leastFrom] at hc
    have hd := dateOn_least rt.ok k i d
    rw [hc] at hd
    refine t_cond (fun e2 => ?_) (fun e2 => ?_)
    · exact t_ret ⟨le12, by rw [hd, if_pos (by simpa using e2)]⟩
    · exact t_ret ⟨le12, by rw [hd, if_neg (by simpa using e2)]⟩
def datesT (x : TF) (k d : Int) : List Int := (List.range x.items.toNat).map fun i : Nat => dateOn x k (i : Int) d
def DatesR (h : Cells) (x : TF) (k d : Int) (r : Value) : Prop :=
  (askedDayT x k d ≠ 0 ∧ r = .tuple #[.slice none 0 0, .int .i64 (askedDayT x k d)]) ∨
  (askedDayT x k d = 0 ∧ ∃ p n c, r = .tuple #[.slice p n c, .int .i64 0] ∧ Sl IntE 1 h p n (datesT x k d) ∧ n ≤ c)
theorem c2026 {h : LH} (hk : Kinds h.get) {f : TC} {x : TF} (hx : TreatyR h.get f x) (k d : Int) : Gr Tryd.prog 26 #[treatyV f x, .int .i64 k, .int .i64 d] h fun r h' => DatesR h'.get x k d r := by
  refine w2026 _ _ _ _ _ _ _ _ _ _ _ X0_ok ?_
  unfold n2026
  refine t_pu (c2063 hk hx k d) ?_
  (repeat (first | (with_reducible first | apply gA | apply gB | apply gC | apply gD | apply gE | apply gF | apply gG | apply gH | apply gI | apply gJ | apply gK | apply gL | apply gM | apply gN | apply gO | apply gP | apply gQ | apply gR | apply gP2 | apply gP3) | ((with_reducible first | apply gT | apply gS2); first | exact rfl | assumption | omega | exact ⟨⟩) | ((with_reducible first | apply gL0 | apply gL1 | apply gL2 | apply gL3 | apply gL4); assumption)))
  refine t_cond (fun e => ?_) (fun e => ?_)
  · exact t_ret ⟨LH.le_refl _, .inl ⟨by simpa using e, rfl⟩⟩
  have e0 : askedDayT x k d = 0 := by simpa using e
  have hck := (asked_ok (askedDay_ok e0).1).1
  have rt := Right.of hck
  have hit := (check_numbers hck).1
  refine t_loop (fun mm vs h' => h.le h' ∧ ∃ (j : Nat) (p : Option Addr) (n c : Nat), vs = [.slice p n c, .int .i64 j] ∧ (j : Int) ≤ x.items ∧ mm = x.items.toNat - j ∧ Growing IntEnc 3 1 h.get h'.get p n c ((List.range j).map fun i : Nat => dateOn x k (i : Int) d))
    ⟨LH.le_refl _, 0, none, 0, 0, rfl, by omega, rfl, Growing.nil⟩ ?_
  rintro Y mm vs h₁ hY ⟨le1, j, p, n, c, rfl, hj, rfl, g⟩
  (repeat (first | (with_reducible first | apply gA | apply gB | apply gC | apply gD | apply gE | apply gF | apply gG | apply gH | apply gI | apply gJ | apply gK | apply gL | apply gM | apply gN | apply gO | apply gP | apply gQ | apply gR | apply gP2 | apply gP3) | ((with_reducible first | apply gT | apply gS2); first | exact rfl | assumption | omega | exact ⟨⟩) | ((with_reducible first | apply gL0 | apply gL1 | apply gL2 | apply gL3 | apply gL4); assumption)))
  refine t_if (fun e1 => ?_) (fun e1 => ?_)
  · refine t_gr (c2060 (hk.le le1.1) (hx.le le1.1) rt k j d) ?_
    rintro _ h2 le2 rfl
    (repeat (first | (with_reducible first | apply gA | apply gB | apply gC | apply gD | apply gE | apply gF | apply gG | apply gH | apply gI | apply gJ | apply gK | apply gL | apply gM | apply gN | apply gO | apply gP | apply gQ | apply gR | apply gP2 | apply gP3) | ((with_reducible first | apply gT | apply gS2); first | exact rfl | assumption | omega | exact ⟨⟩) | ((with_reducible first | apply gL0 | apply gL1 | apply gL2 | apply gL3 | apply gL4); assumption)))
    have hnn : n = j := by rw [g.count IntEnc.len (by omega)]; simp
    refine t_push (dateOn x k j d) [.int .i64 (dateOn x k j d)] rfl rfl und50 inf3 rfl (by omega) (by decide) (by kernel_rfl) rfl (by simp; rfl) (by omega) (g.le le2.1) (LH.le_trans le1 le2) rfl ?_
    intro p' c' h3 le3 _ g3
    (repeat (first | (with_reducible first | apply gA | apply gB | apply gC | apply gD | apply gE | apply gF | apply gG | apply gH | apply gI | apply gJ | apply gK | apply gL | apply gM | apply gN | apply gO | apply gP | apply gQ | apply gR | apply gP2 | apply gP3) | ((with_reducible first | apply gT | apply gS2); first | exact rfl | assumption | omega | exact ⟨⟩) | ((with_reducible first | apply gL0 | apply gL1 | apply gL2 | apply gL3 | apply gL4); assumption)))
    refine t_again (hY (x.items.toNat - (j + 1)) _ _ (by omega) ⟨le3, j + 1, p', n + 1, c', ?_, by omega, rfl, ?_⟩)
    · rw [wrap_id (by omega) (by omega)]; rfl
    · rw [List.range_succ, List.map_append]; exact g3
  · (repeat (first | (with_reducible first | apply gA | apply gB | apply gC | apply gD | apply gE | apply gF | apply gG | apply gH | apply gI | apply gJ | apply gK | apply gL | apply gM | apply gN | apply gO | apply gP | apply gQ | apply gR | apply gP2 | apply gP3) | ((with_reducible first | apply gT | apply gS2); first | exact rfl | assumption | omega | exact ⟨⟩) | ((with_reducible first | apply gL0 | apply gL1 | apply gL2 | apply gL3 | apply gL4); assumption)))
    have hjn : x.items.toNat = j := by omega
    refine t_ret ⟨le1, .inr ⟨e0, p, n, c, rfl, ?_, ?_⟩⟩
    · unfold datesT
      rw [hjn]
      exact g.sl IntEnc.len (by omega) IntEnc.e (by simp; omega)
    · obtain ⟨vs, o, _⟩ := g.row
      exact o.le_cap
end Go.Proofs.YtbmfimaomcnkfaaDoor
end
section
namespace Go.Proofs.YtbmfimaomcnkfaaDoor
open Go Go.TM Go.Proofs Go.TM.Tr
attribute [local irreducible] T.wp CV FWK
def protT (x : TF) (k d : Int) : List Bool := (datesT x k d).map fun d => decide (d ≥ 0)
def ProtR (h : Cells) (x : TF) (k d : Int) (r : Value) : Prop :=
  ∃ p n c, r = .tuple #[.slice p n c, .int .i64 (askedDayT x k d)] ∧ Sl BoolE 1 h p n (if askedDayT x k d = 0 then protT x k d else []) ∧ n ≤ c
theorem dates_len (x : TF) (k d : Int) : (datesT x k d).length = x.items.toNat := by unfold datesT; simp
set_option maxRecDepth 10000 in
theorem c2018 {h : LH} (hk : Kinds h.get) {f : TC} {x : TF} (hx : TreatyR h.get f x) (k d : Int) : Gr Tryd.prog 18 #[treatyV f x, .int .i64 k, .int .i64 d] h fun r h' => ProtR h'.get x k d r := by
  refine w2018 _ _ _ _ _ _ _ _ _ _ _ X0_ok ?_
  unfold n2018
  refine t_gr (c2026 hk hx k d) ?_
  intro r h₁ le1 hr
  obtain ⟨p, n, c, g, l, rfl, hs, hg, hl, hl5⟩ : ∃ p n c g l, r = .tuple #[.slice p n c, .int .i64 g] ∧ Sl IntE 1 h₁.get p n l ∧ g = askedDayT x k d ∧ (if askedDayT x k d = 0 then protT x k d else []) = l.map (fun d => decide (d ≥ 0)) ∧ l.length ≤ 5 := by
    rcases hr with ⟨h1, rfl⟩ | ⟨h1, p, n, c, rfl, h2, h3⟩
    · exact ⟨none, 0, 0, _, [], rfl, Sl.nil, rfl, by rw [if_neg h1]; rfl, by simp⟩
    · refine ⟨p, n, c, 0, _, rfl, h2, h1.symm, by rw [if_pos h1]; rfl, ?_⟩
      have := (check_numbers (asked_ok (askedDay_ok h1).1).1).1
      rw [dates_len]; omega
  (repeat (first | (with_reducible first | apply gA | apply gB | apply gC | apply gD | apply gE | apply gF | apply gG | apply gH | apply gI | apply gJ | apply gK | apply gL | apply gM | apply gN | apply gO | apply gP | apply gQ | apply gR | apply gP2 | apply gP3) | ((with_reducible first | apply gT | apply gS2); first | exact rfl | assumption | omega | exact ⟨⟩) | ((with_reducible first | apply gL0 | apply gL1 | apply gL2 | apply gL3 | apply gL4); assumption)))
  have hn := hs.1
  refine t_new fun r hr => ?_
  have le2 : ∀ cs, h₁.le { h₁ with get := h₁.get.upd r (true, .cells cs 73 (0, 0)) } := fun cs => LH.upd_le hr
  refine t_loop (fun mm vs h' => ∃ (j : Nat) (cs : Array Value), vs = [.int .i64 j] ∧ j ≤ n ∧ mm = n - j ∧ h' = { h₁ with get := h₁.get.upd r (true, .cells cs 73 (0, 0)) } ∧ cs.size = 5 ∧ (∀ (i : Nat) y, i < j → l[i]? = some y → cs[i]? = some (.bool (decide (y ≥ 0)))) ∧ ∀ i : Nat, j ≤ i → i < 5 → cs[i]? = some (.bool false))
    ⟨0, #[.bool false, .bool false, .bool false, .bool false, .bool false], rfl, Nat.zero_le _, rfl, rfl, rfl, fun i y hi => absurd hi (Nat.not_lt_zero _), fun i _ hi => by match i, hi with | 0, _ | 1, _ | 2, _ | 3, _ | 4, _ => rfl⟩ ?_
  rintro Y mm vs _ hY ⟨j, cs, rfl, hj, rfl, rfl, hsz, hlow, hhigh⟩
  (repeat (first | (with_reducible first | apply gA | apply gB | apply gC | apply gD | apply gE | apply gF | apply gG | apply gH | apply gI | apply gJ | apply gK | apply gL | apply gM | apply gN | apply gO | apply gP | apply gQ | apply gR | apply gP2 | apply gP3) | ((with_reducible first | apply gT | apply gS2); first | exact rfl | assumption | omega | exact ⟨⟩) | ((with_reducible first | apply gL0 | apply gL1 | apply gL2 | apply gL3 | apply gL4); assumption)))
  refine t_if (fun e1 => ?_) (fun e1 => ?_)
  · obtain ⟨y, a, hy, ha, e2⟩ := (hs.le IntE.grow (le2 cs).1).at (i := j) (by omega)
    unfold IntE at e2
    (repeat (first | (with_reducible first | apply gA | apply gB | apply gC | apply gD | apply gE | apply gF | apply gG | apply gH | apply gI | apply gJ | apply gK | apply gL | apply gM | apply gN | apply gO | apply gP | apply gQ | apply gR | apply gP2 | apply gP3) | ((with_reducible first | apply gT | apply gS2); first | exact rfl | assumption | omega | exact ⟨⟩) | ((with_reducible first | apply gL0 | apply gL1 | apply gL2 | apply gL3 | apply gL4); assumption)))
    refine t_storeU (o := j) (by rw [add_plain, add_plain]; simp) rfl (by omega) ?_
    refine t_again (hY (n - (j + 1)) _ _ (by omega) ⟨j + 1, _, ?_, by omega, rfl, rfl, by simp [hsz], fun i z hi hz => ?_, fun i hi h5 => ?_⟩)
    · rw [wrap_id (by omega) (by omega)]; rfl
    · by_cases e : i = j
      · subst e
        rw [hy] at hz; cases hz
        rw [Array.getElem?_setIfInBounds_self_of_lt (by omega)]
      · rw [Array.getElem?_setIfInBounds_ne (Ne.symm e)]
        exact hlow i z (by omega) hz
    · rw [Array.getElem?_setIfInBounds_ne (by omega)]
      exact hhigh i (by omega) h5
  · (repeat (first | (with_reducible first | apply gA | apply gB | apply gC | apply gD | apply gE | apply gF | apply gG | apply gH | apply gI | apply gJ | apply gK | apply gL | apply gM | apply gN | apply gO | apply gP | apply gQ | apply gR | apply gP2 | apply gP3) | ((with_reducible first | apply gT | apply gS2); first | exact rfl | assumption | omega | exact ⟨⟩) | ((with_reducible first | apply gL0 | apply gL1 | apply gL2 | apply gL3 | apply gL4); assumption)))
    have hjn : j = n := by omega
    subst hjn
    obtain ⟨bs, hbs5, hbs⟩ : ∃ bs : List Bool, bs.length = 5 ∧ ∀ (i : Nat) b, bs[i]? = some b → cs[i]? = some (.bool b) := by
      refine ⟨(List.range 5).map fun i : Nat => match (l[i]? : Option Int) with | some y => decide (y ≥ 0) | none => false, by simp, fun i b hb => ?_⟩
      rw [List.getElem?_map] at hb
      by_cases h5 : i < 5
      · rw [List.getElem?_range h5] at hb
        simp only [Option.map_some, Option.some.injEq] at hb
        cases hly : l[i]? with
        | none =>
          rw [hly] at hb; subst hb
          exact hhigh i (by rw [hn]; exact List.getElem?_eq_none_iff.1 hly) h5
        | some y =>
          rw [hly] at hb; subst hb
          exact hlow i y (by rw [hn]; exact (List.getElem?_eq_some_iff.1 hly).1) hly
      · rw [List.getElem?_eq_none (by simp; omega)] at hb; cases hb
    match bs, hbs5 with
    | [b0, b1, b2, b3, b4], _ =>
      have c0 : Cells.cell? (h₁.get.upd r (true, .cells cs 73 (0, 0))) (Addr.add ⟨r, 0, none⟩ 0) = some (.bool b0) := by rw [add_plain]; exact cell_upd (hbs 0 _ rfl)
      have c1 : Cells.cell? (h₁.get.upd r (true, .cells cs 73 (0, 0))) (Addr.add ⟨r, 0, none⟩ 1) = some (.bool b1) := by rw [add_plain]; exact cell_upd (hbs 1 _ rfl)
      have c2 : Cells.cell? (h₁.get.upd r (true, .cells cs 73 (0, 0))) (Addr.add ⟨r, 0, none⟩ 2) = some (.bool b2) := by rw [add_plain]; exact cell_upd (hbs 2 _ rfl)
      have c3 : Cells.cell? (h₁.get.upd r (true, .cells cs 73 (0, 0))) (Addr.add ⟨r, 0, none⟩ 3) = some (.bool b3) := by rw [add_plain]; exact cell_upd (hbs 3 _ rfl)
      have c4 : Cells.cell? (h₁.get.upd r (true, .cells cs 73 (0, 0))) (Addr.add ⟨r, 0, none⟩ 4) = some (.bool b4) := by rw [add_plain]; exact cell_upd (hbs 4 _ rfl)
      refine gL2 c0 (gL2 c1 (gL2 c2 (gL2 c3 (gL2 c4 ?_))))
      refine t_eqA5 undItems bo4 inf4 gItems ?_
      (repeat (first | (with_reducible first | apply gA | apply gB | apply gC | apply gD | apply gE | apply gF | apply gG | apply gH | apply gI | apply gJ | apply gK | apply gL | apply gM | apply gN | apply gO | apply gP | apply gQ | apply gR | apply gP2 | apply gP3) | ((with_reducible first | apply gT | apply gS2); first | exact rfl | assumption | omega | exact ⟨⟩) | ((with_reducible first | apply gL0 | apply gL1 | apply gL2 | apply gL3 | apply gL4); assumption)))
      refine t_cond (fun e => ?_) (fun e => ?_)
      · have e : [b0, b1, b2, b3, b4] = [false, false, false, false, false] := by simpa only [decide_eq_true_eq] using e
        refine t_makeSlice undBs inf4 rfl (by decide) (by omega) fun r2 cs2 hr2 hsz2 hcs2 => ?_
        (repeat (first | (with_reducible first | apply gA | apply gB | apply gC | apply gD | apply gE | apply gF | apply gG | apply gH | apply gI | apply gJ | apply gK | apply gL | apply gM | apply gN | apply gO | apply gP | apply gQ | apply gR | apply gP2 | apply gP3) | ((with_reducible first | apply gT | apply gS2); first | exact rfl | assumption | omega | exact ⟨⟩) | ((with_reducible first | apply gL0 | apply gL1 | apply gL2 | apply gL3 | apply gL4); assumption)))
        refine t_ret ⟨LH.le_trans (LH.le_trans le1 (le2 cs)) (LH.upd_le hr2), _, _, _, by rw [hg], ?_, Nat.le_refl _⟩
        rw [hl]
        refine ⟨by rw [List.length_map]; exact hn, by rw [List.length_map]; omega, fun i b hb => ⟨_, rfl, ?_⟩⟩
        unfold BoolE
        rw [add_plain, add_plain]
        rw [List.getElem?_map] at hb
        cases hly : l[i]? with
        | none => rw [hly] at hb; cases hb
        | some y =>
          rw [hly] at hb
          simp only [Option.map_some, Option.some.injEq] at hb
          have hi := (List.getElem?_eq_some_iff.1 hly).1
          have h1 := hlow i y (by omega) hly
          have hcell := hcs2 i (by omega)
          have hb' : b = false := by
            have h2 := hbs i
            match i, hi with
            | 0, _ => have := h2 b0 rfl; cases e; rw [this] at h1; simp only [Option.some.injEq, Value.bool.injEq] at h1; rw [← hb, ← h1]
            | 1, _ => have := h2 b1 rfl; cases e; rw [this] at h1; simp only [Option.some.injEq, Value.bool.injEq] at h1; rw [← hb, ← h1]
            | 2, _ => have := h2 b2 rfl; cases e; rw [this] at h1; simp only [Option.some.injEq, Value.bool.injEq] at h1; rw [← hb, ← h1]
            | 3, _ => have := h2 b3 rfl; cases e; rw [this] at h1; simp only [Option.some.injEq, Value.bool.injEq] at h1; rw [← hb, ← h1]
            | 4, _ => have := h2 b4 rfl; cases e; rw [this] at h1; simp only [Option.some.injEq, Value.bool.injEq] at h1; rw [← hb, ← h1]
            | i + 5, hi => omega
          rw [hb']
          have hz : 0 + i * 1 + 0 = i := by omega
          rw [hz]
          exact cell_upd hcell
      · refine t_sliceArr undItems inf4 (by omega) fun a' ha0 ha1 => ?_
        (repeat (first | (with_reducible first | apply gA | apply gB | apply gC | apply gD | apply gE | apply gF | apply gG | apply gH | apply gI | apply gJ | apply gK | apply gL | apply gM | apply gN | apply gO | apply gP | apply gQ | apply gR | apply gP2 | apply gP3) | ((with_reducible first | apply gT | apply gS2); first | exact rfl | assumption | omega | exact ⟨⟩) | ((with_reducible first | apply gL0 | apply gL1 | apply gL2 | apply gL3 | apply gL4); assumption)))
        refine t_ret ⟨LH.le_trans le1 (le2 cs), _, _, _, by rw [hg], ?_, Nat.le_refl _⟩
        rw [hl]
        have haa : a' = ⟨r, 0, none⟩ := by
          by_cases e0 : j = 0
          · exact ha0 e0
          · rw [ha1 e0, add_plain]
        subst haa
        refine ⟨by rw [List.length_map]; exact hn, by rw [List.length_map]; omega, fun i b hb => ⟨_, rfl, ?_⟩⟩
        unfold BoolE
        rw [add_plain, add_plain]
        rw [List.getElem?_map] at hb
        cases hly : l[i]? with
        | none => rw [hly] at hb; cases hb
        | some y =>
          rw [hly] at hb
          simp only [Option.map_some, Option.some.injEq] at hb
          have hi := (List.getElem?_eq_some_iff.1 hly).1
          have h1 := hlow i y (by omega) hly
          have hz : 0 + i * 1 + 0 = i := by omega
          rw [hz, ← hb]
          exact cell_upd h1
def turnsT (x : TF) (k d : Int) : List Int := ((List.range x.items.toNat).filter fun i : Nat => decide (0 ≤ turned x k (i : Int) d)).map fun i : Nat => (i : Int)
def TurnsR (h : Cells) (x : TF) (k d : Int) (r : Value) : Prop :=
  (askedDayT x k d ≠ 0 ∧ r = .tuple #[.slice none 0 0, .int .i64 (askedDayT x k d)]) ∨
  (askedDayT x k d = 0 ∧ ∃ p n c, r = .tuple #[.slice p n c, .int .i64 0] ∧ Sl IntE 1 h p n (turnsT x k d) ∧ n ≤ c)
set_option maxRecDepth 10000 in
theorem c2029 {h : LH} (hk : Kinds h.get) {f : TC} {x : TF} (hx : TreatyR h.get f x) (k d : Int) : Gr Tryd.prog 29 #[treatyV f x, .int .i64 k, .int .i64 d] h fun r h' => TurnsR h'.get x k d r := by
  refine w2029 _ _ _ _ _ _ _ _ _ _ _ X0_ok ?_
  unfold n2029
  refine t_pu (c2063 hk hx k d) ?_
  (repeat (first | (with_reducible first | apply gA | apply gB | apply gC | apply gD | apply gE | apply gF | apply gG | apply gH | apply gI | apply gJ | apply gK | apply gL | apply gM | apply gN | apply gO | apply gP | apply gQ | apply gR | apply gP2 | apply gP3) | ((with_reducible first | apply gT | apply gS2); first | exact rfl | assumption | omega | exact ⟨⟩) | ((with_reducible first | apply gL0 | apply gL1 | apply gL2 | apply gL3 | apply gL4); assumption)))
  refine t_cond (fun e => ?_) (fun e => ?_)
  · exact t_ret ⟨LH.le_refl _, .inl ⟨by simpa using e, rfl⟩⟩
  have e0 : askedDayT x k d = 0 := by simpa using e
  have hck := (asked_ok (askedDay_ok e0).1).1
  have rt := Right.of hck
  have hit := (check_numbers hck).1
  refine t_loop (fun mm vs h' => h.le h' ∧ ∃ (j : Nat) (p : Option Addr) (n c : Nat), vs = [.slice p n c, .int .i64 j] ∧ (j : Int) ≤ x.items ∧ mm = x.items.toNat - j ∧ Growing IntEnc 3 1 h.get h'.get p n c (((List.range j).filter fun i : Nat => decide (0 ≤ turned x k (i : Int) d)).map fun i : Nat => (i : Int)))
    ⟨LH.le_refl _, 0, none, 0, 0, rfl, by omega, rfl, Growing.nil⟩ ?_
  rintro Y mm vs h₁ hY ⟨le1, j, p, n, c, rfl, hj, rfl, g⟩
  have hnn : n ≤ j := by
    rw [g.count IntEnc.len (by omega), List.length_map]
    have := List.length_filter_le (fun i : Nat => decide (0 ≤ turned x k (i : Int) d)) (List.range j)
    rw [List.length_range] at this; exact this
  (repeat (first | (with_reducible first | apply gA | apply gB | apply gC | apply gD | apply gE | apply gF | apply gG | apply gH | apply gI | apply gJ | apply gK | apply gL | apply gM | apply gN | apply gO | apply gP | apply gQ | apply gR | apply gP2 | apply gP3) | ((with_reducible first | apply gT | apply gS2); first | exact rfl | assumption | omega | exact ⟨⟩) | ((with_reducible first | apply gL0 | apply gL1 | apply gL2 | apply gL3 | apply gL4); assumption)))
  refine t_if (fun e1 => ?_) (fun e1 => ?_)
  · refine t_gr (c2064 (hk.le le1.1) (hx.le le1.1) rt k j d) ?_
    rintro _ h2 le2 rfl
    cases ho : turnO x k (j : Int) d with
    | none =>
      have hno := (turnO_none rt.ok).1 ho
      simp only [Option.isSome, bestCells, zeroAsk]
      (repeat (first | (with_reducible first | apply gA | apply gB | apply gC | apply gD | apply gE | apply gF | apply gG | apply gH | apply gI | apply gJ | apply gK | apply gL | apply gM | apply gN | apply gO | apply gP | apply gQ | apply gR | apply gP2 | apply gP3) | ((with_reducible first | apply gT | apply gS2); first | exact rfl | assumption | omega | exact ⟨⟩) | ((with_reducible first | apply gL0 | apply gL1 | apply gL2 | apply gL3 | apply gL4); assumption)))
      refine t_cond (fun e => by cases e) (fun _ => ?_)
      refine t_again (hY (x.items.toNat - (j + 1)) _ _ (by omega) ⟨LH.le_trans le1 le2, j + 1, p, n, c, ?_, by omega, rfl, ?_⟩)
      · rw [wrap_id (by omega) (by omega)]; rfl
      · rw [List.range_succ, List.filter_append, List.filter_cons, if_neg (by simpa using hno)]
        simpa using g.le le2.1
    | some a =>
      obtain ⟨ha0, hae⟩ := turnO_some rt.ok ho
      simp only [Option.isSome, bestCells, askCells]
      (repeat (first | (with_reducible first | apply gA | apply gB | apply gC | apply gD | apply gE | apply gF | apply gG | apply gH | apply gI | apply gJ | apply gK | apply gL | apply gM | apply gN | apply gO | apply gP | apply gQ | apply gR | apply gP2 | apply gP3) | ((with_reducible first | apply gT | apply gS2); first | exact rfl | assumption | omega | exact ⟨⟩) | ((with_reducible first | apply gL0 | apply gL1 | apply gL2 | apply gL3 | apply gL4); assumption)))
      refine t_cond (fun _ => ?_) (fun e => by cases e)
      refine t_push (j : Int) [.int .i64 (j : Int)] rfl rfl und50 inf3 rfl (by omega) (by decide) (by kernel_rfl) rfl (by simp; rfl) (by omega) (g.le le2.1) (LH.le_trans le1 le2) rfl ?_
      intro p' c' h3 le3 _ g3
      (repeat (first | (with_reducible first | apply gA | apply gB | apply gC | apply gD | apply gE | apply gF | apply gG | apply gH | apply gI | apply gJ | apply gK | apply gL | apply gM | apply gN | apply gO | apply gP | apply gQ | apply gR | apply gP2 | apply gP3) | ((with_reducible first | apply gT | apply gS2); first | exact rfl | assumption | omega | exact ⟨⟩) | ((with_reducible first | apply gL0 | apply gL1 | apply gL2 | apply gL3 | apply gL4); assumption)))
      refine t_again (hY (x.items.toNat - (j + 1)) _ _ (by omega) ⟨le3, j + 1, p', n + 1, c', ?_, by omega, rfl, ?_⟩)
      · rw [wrap_id (by omega) (by omega)]; rfl
      · rw [List.range_succ, List.filter_append, List.filter_cons, if_pos (by rw [← hae]; simpa using ha0), List.map_append]; exact g3
  · (repeat (first | (with_reducible first | apply gA | apply gB | apply gC | apply gD | apply gE | apply gF | apply gG | apply gH | apply gI | apply gJ | apply gK | apply gL | apply gM | apply gN | apply gO | apply gP | apply gQ | apply gR | apply gP2 | apply gP3) | ((with_reducible first | apply gT | apply gS2); first | exact rfl | assumption | omega | exact ⟨⟩) | ((with_reducible first | apply gL0 | apply gL1 | apply gL2 | apply gL3 | apply gL4); assumption)))
    have hjn : x.items.toNat = j := by omega
    refine t_ret ⟨le1, .inr ⟨e0, p, n, c, rfl, ?_, ?_⟩⟩
    · unfold turnsT
      rw [hjn]
      refine g.sl IntEnc.len (by omega) IntEnc.e ?_
      rw [← g.count IntEnc.len (by omega)]; omega
    · obtain ⟨vs, o, _⟩ := g.row
      exact o.le_cap
end Go.Proofs.YtbmfimaomcnkfaaDoor
end
section
namespace Go.Proofs.YtbmfimaomcnkfaaDoor
open Go Go.TM Go.Proofs Go.TM.Tr
attribute [local irreducible] T.wp CV FWK
def KindsOk (x : TF) : Prop := ∀ e ∈ x.events, 0 ≤ e.kind ∧ e.kind ≤ 6
theorem KindsOk.of {x : TF} (h : checkT x = 0) : KindsOk x := fun e he => (event_ok.1 (check_event h e he)).kind
theorem KindsOk.nat {x : TF} (h : KindsOk x) {e : Ev} (he : e ∈ x.events) : ∃ n : Nat, e.kind = n ∧ n < 7 := by
  have := h e he
  exact ⟨e.kind.toNat, by omega, by omega⟩
theorem gives_int {n : Nat} (hn : n < 7) {e : Ev} (he : e.kind = n) : givesK n = givesB e := by
  unfold givesB
  rw [he]
  match n, hn with
  | 0, _ | 1, _ | 2, _ | 3, _ | 4, _ | 5, _ | 6, _ => rfl
theorem cv_gives {h : LH} (n : Nat) : CV X0 Tryd.prog (.func (.func (if givesK n then 140 else 141)) #[] #[]) #[] h fun r h' => r = .bool (givesK n) ∧ h = h' := by
  cases hg : givesK n with
  | true => exact cv_fw X0_ok (by rfl) (FW.mono c2140 fun _ _ h => ⟨h.1, h.2.symm⟩)
  | false => exact cv_fw X0_ok (by rfl) (FW.mono c2141 fun _ _ h => ⟨h.1, h.2.symm⟩)
theorem giving_snoc {e : Ev} : ∀ (l : List Ev) (n : Int), givingGo (l ++ [e]) n = givingGo l n ++ if givesB e then [n + (l.length : Int)] else []
  | [], n => by simp [givingGo]
  | c :: l, n => by
    rw [List.cons_append, givingGo, givingGo, giving_snoc l (n + 1)]
    have : n + 1 + (l.length : Int) = n + ((c :: l).length : Int) := by simp; omega
    rw [this]
    split <;> simp
theorem with_snoc {L : List Int} {e : Ev} : ∀ (l : List Ev) (n : Int), withGo L (l ++ [e]) n = withGo L l n ++ if (!givesB e || L.contains (n + (l.length : Int))) then [e] else []
  | [], n => by simp [withGo]
  | c :: l, n => by
    rw [List.cons_append, withGo, withGo, with_snoc l (n + 1)]
    have : n + 1 + (l.length : Int) = n + ((c :: l).length : Int) := by simp; omega
    rw [this]
    split <;> simp
theorem giving_len : ∀ (l : List Ev) (n : Int), (givingGo l n).length ≤ l.length
  | [], _ => Nat.le_refl _
  | c :: l, n => by
    have := giving_len l (n + 1)
    rw [givingGo]
    split <;> simp <;> omega
theorem with_len (L : List Int) : ∀ (l : List Ev) (n : Int), (withGo L l n).length ≤ l.length
  | [], _ => Nat.le_refl _
  | c :: l, n => by
    have := with_len L l (n + 1)
    rw [withGo]
    split <;> simp <;> omega
theorem Right.with {x : TF} (r : Right x) (L : List Int) : Right (withE x L) :=
  ⟨ok_with r.ok L, r.start, r.depend, r.refuse, r.turn, Nat.le_trans (with_len L x.events 0) r.many⟩
theorem c2067 {h : LH} (hk : Kinds h.get) {f : TC} {x : TF} (hx : TreatyR h.get f x) (hkd : KindsOk x) (hmany : x.events.length ≤ 10) :
    Gr Tryd.prog 67 #[treatyV f x] h fun r h' => ∃ p n c, r = .slice p n c ∧ Sl IntE 1 h'.get p n (giving x) ∧ n ≤ c := by
  refine w2067 _ _ _ _ _ _ _ _ _ X0_ok ?_
  unfold n2067
  have hs := hx.2
  have hn := hs.1
  refine t_loop (fun mm vs h' => h.le h' ∧ ∃ (j : Nat) (p : Option Addr) (n c : Nat), vs = [.slice p n c, .int .i64 j] ∧ j ≤ f.n ∧ mm = f.n - j ∧ Growing IntEnc 3 1 h.get h'.get p n c (givingGo (x.events.take j) 0))
    ⟨LH.le_refl _, 0, none, 0, 0, rfl, Nat.zero_le _, rfl, Growing.nil⟩ ?_
  rintro Y mm vs h₁ hY ⟨le1, j, p, n, c, rfl, hj, rfl, g⟩
  have hnn : n ≤ 10 := by
    rw [g.count IntEnc.len (by omega)]
    have := giving_len (x.events.take j) 0
    rw [List.length_take] at this; omega
  (repeat (first | (with_reducible first | apply gA | apply gB | apply gC | apply gD | apply gE | apply gF | apply gG | apply gH | apply gI | apply gJ | apply gK | apply gL | apply gM | apply gN | apply gO | apply gP | apply gQ | apply gR | apply gP2 | apply gP3) | ((with_reducible first | apply gT | apply gS2); first | exact rfl | assumption | omega | exact ⟨⟩) | ((with_reducible first | apply gL0 | apply gL1 | apply gL2 | apply gL3 | apply gL4); assumption)))
  refine t_if (fun e1 => ?_) (fun e1 => ?_)
  · obtain ⟨e, a, he, ha, g0, g1, g2, ⟨q, m, cc, g3, _, g5⟩, g4⟩ := (hs.le EventE.grow le1.1).at (i := j) (by omega)
    obtain ⟨kn, hkn, hk7⟩ := hkd.nat (List.mem_of_getElem? he)
    have htake : x.events.take (j + 1) = x.events.take j ++ [e] := by rw [List.take_add_one, he]; rfl
    have hlen : (x.events.take j).length = j := by rw [List.length_take]; omega
    have hg := (hk.le le1.1).givesAt hk7
    rw [hkn] at g0
    (repeat (first | (with_reducible first | apply gA | apply gB | apply gC | apply gD | apply gE | apply gF | apply gG | apply gH | apply gI | apply gJ | apply gK | apply gL | apply gM | apply gN | apply gO | apply gP | apply gQ | apply gR | apply gP2 | apply gP3) | ((with_reducible first | apply gT | apply gS2); first | exact rfl | assumption | omega | exact ⟨⟩) | ((with_reducible first | apply gL0 | apply gL1 | apply gL2 | apply gL3 | apply gL4); assumption)))
    refine t_loadV hg ?_
    refine t_callv (cv_gives kn) ?_
    rintro _ _ ⟨rfl, rfl⟩
    rw [gives_int hk7 hkn]
    (repeat (first | (with_reducible first | apply gA | apply gB | apply gC | apply gD | apply gE | apply gF | apply gG | apply gH | apply gI | apply gJ | apply gK | apply gL | apply gM | apply gN | apply gO | apply gP | apply gQ | apply gR | apply gP2 | apply gP3) | ((with_reducible first | apply gT | apply gS2); first | exact rfl | assumption | omega | exact ⟨⟩) | ((with_reducible first | apply gL0 | apply gL1 | apply gL2 | apply gL3 | apply gL4); assumption)))
    refine t_cond (fun e2 => ?_) (fun e2 => ?_)
    · refine t_push (j : Int) [.int .i64 (j : Int)] rfl rfl und50 inf3 rfl (by omega) (by decide) (by kernel_rfl) rfl (by simp; rfl) (by omega) g le1 rfl ?_
      intro p' c' h3 le3 _ g3
      (repeat (first | (with_reducible first | apply gA | apply gB | apply gC | apply gD | apply gE | apply gF | apply gG | apply gH | apply gI | apply gJ | apply gK | apply gL | apply gM | apply gN | apply gO | apply gP | apply gQ | apply gR | apply gP2 | apply gP3) | ((with_reducible first | apply gT | apply gS2); first | exact rfl | assumption | omega | exact ⟨⟩) | ((with_reducible first | apply gL0 | apply gL1 | apply gL2 | apply gL3 | apply gL4); assumption)))
      refine t_again (hY (f.n - (j + 1)) _ _ (by omega) ⟨le3, j + 1, p', n + 1, c', ?_, by omega, rfl, ?_⟩)
      · rw [wrap_id (by omega) (by omega)]; rfl
      · rw [htake, giving_snoc, if_pos e2, hlen, Int.zero_add]; exact g3
    · refine t_again (hY (f.n - (j + 1)) _ _ (by omega) ⟨le1, j + 1, p, n, c, ?_, by omega, rfl, ?_⟩)
      · rw [wrap_id (by omega) (by omega)]; rfl
      · rw [htake, giving_snoc, if_neg (by rw [e2]; simp), List.append_nil]; exact g
  · (repeat (first | (with_reducible first | apply gA | apply gB | apply gC | apply gD | apply gE | apply gF | apply gG | apply gH | apply gI | apply gJ | apply gK | apply gL | apply gM | apply gN | apply gO | apply gP | apply gQ | apply gR | apply gP2 | apply gP3) | ((with_reducible first | apply gT | apply gS2); first | exact rfl | assumption | omega | exact ⟨⟩) | ((with_reducible first | apply gL0 | apply gL1 | apply gL2 | apply gL3 | apply gL4); assumption)))
    rw [List.take_of_length_le (by omega)] at g
    refine t_ret ⟨le1, p, n, c, rfl, g.sl IntEnc.len (by omega) IntEnc.e ?_, ?_⟩
    · show (givingGo x.events 0).length < _
      rw [← g.count IntEnc.len (by omega)]; omega
    · obtain ⟨vs, o, _⟩ := g.row
      exact o.le_cap
set_option maxRecDepth 10000 in
theorem c2069 {h : LH} (hk : Kinds h.get) {f : TC} {x : TF} (hx : TreatyR h.get f x) (rt : Right x) (hkd : KindsOk x) (k i d : Int) {ep : Option Addr} {en ec : Nat} {L : List Int} (hL : Sl IntE 1 h.get ep en L) :
    Gr Tryd.prog 69 #[treatyV f x, .int .i64 k, .int .i64 i, .int .i64 d, .slice ep en ec] h fun r _ => r = .bool (holdsB x k i d L) := by
  refine w2069 _ _ _ _ _ _ _ _ _ _ _ _ _ _ _ X0_ok ?_
  unfold n2069
  have hs := hx.2
  have hn := hs.1
  have hmany := rt.many
  refine t_loop (fun mm vs h' => h.le h' ∧ ∃ (j : Nat) (p : Option Addr) (n c : Nat), vs = [.int .i64 j, .int .i64 x.items, .int .i64 x.lands, .int .i64 x.start, .int .i64 x.depend, .int .i64 x.refuse, .int .i64 x.turn, .slice p n c] ∧ j ≤ f.n ∧ mm = f.n - j ∧ Growing (EventEnc h.get) 50 5 h.get h'.get p n c (withGo L (x.events.take j) 0))
    ⟨LH.le_refl _, 0, none, 0, 0, rfl, Nat.zero_le _, rfl, Growing.nil⟩ ?_
  rintro Y mm vs h₁ hY ⟨le1, j, p, n, c, rfl, hj, rfl, g⟩
  have hnn : n ≤ 10 := by
    rw [g.count EventEnc.len (by omega)]
    have := with_len L (x.events.take j) 0
    rw [List.length_take] at this; omega
  (repeat (first | (with_reducible first | apply gA | apply gB | apply gC | apply gD | apply gE | apply gF | apply gG | apply gH | apply gI | apply gJ | apply gK | apply gL | apply gM | apply gN | apply gO | apply gP | apply gQ | apply gR | apply gP2 | apply gP3) | ((with_reducible first | apply gT | apply gS2); first | exact rfl | assumption | omega | exact ⟨⟩) | ((with_reducible first | apply gL0 | apply gL1 | apply gL2 | apply gL3 | apply gL4); assumption)))
  refine t_if (fun e1 => ?_) (fun e1 => ?_)
  · obtain ⟨e, a, he, ha, g0, g1, g2, ⟨q, m, cc, g3, g6, g5⟩, g4⟩ := hs.at (i := j) (by omega)
    have hws : EventEnc h.get e [.int .i64 e.kind, .int .i64 e.day, .int .i64 e.land, .slice q m cc, .int .i64 e.since] := ⟨q, m, cc, rfl, g6, g5⟩
    obtain ⟨kn, hkn, hk7⟩ := hkd.nat (List.mem_of_getElem? he)
    have htake : x.events.take (j + 1) = x.events.take j ++ [e] := by rw [List.take_add_one, he]; rfl
    have hlen : (x.events.take j).length = j := by rw [List.length_take]; omega
    have hg := (hk.le le1.1).givesAt hk7
    rw [hkn] at g0 hws
    have g0 := Cells.cell?_le le1.1 g0
    have g1 := Cells.cell?_le le1.1 g1
    have g2 := Cells.cell?_le le1.1 g2
    have g3 := Cells.cell?_le le1.1 g3
    have g4 := Cells.cell?_le le1.1 g4
    (repeat (first | (with_reducible first | apply gA | apply gB | apply gC | apply gD | apply gE | apply gF | apply gG | apply gH | apply gI | apply gJ | apply gK | apply gL | apply gM | apply gN | apply gO | apply gP | apply gQ | apply gR | apply gP2 | apply gP3) | ((with_reducible first | apply gT | apply gS2); first | exact rfl | assumption | omega | exact ⟨⟩) | ((with_reducible first | apply gL0 | apply gL1 | apply gL2 | apply gL3 | apply gL4); assumption)))
    refine t_loadV hg ?_
    refine t_callv (cv_gives kn) ?_
    rintro _ _ ⟨rfl, rfl⟩
    rw [gives_int hk7 hkn]
    have keep : (!givesB e || L.contains (j : Int)) = true → ∀ {K : Value → T} {Q : Leaf → LH → Prop}, (∀ p' c' h', h.le h' → Growing (EventEnc h.get) 50 5 h.get h'.get p' (n + 1) c' (withGo L (x.events.take (j + 1)) 0) → (K (.slice p' (n + 1) c')).wp X0 Tryd.prog Q h') →
        (T.sem false (Instr.buildSlice 22 1 #[(0, .agg #[.int .i64 (kn : Int), .int .i64 e.day, .int .i64 e.land, .slice q m cc, .int .i64 e.since])]) fun v => T.unS v fun a m mc => T.sem false (Builtin.append_ #[22, 22] 22 #[.slice p n c, .slice a m mc]) K).wp X0 Tryd.prog Q h₁ := by
      intro hkeep K Q hK
      refine t_push e [.int .i64 (kn : Int), .int .i64 e.day, .int .i64 e.land, .slice q m cc, .int .i64 e.since] rfl rfl undEvs infEv rfl (by omega) (by decide) (by kernel_rfl) rfl ?_ (by omega) g le1 hws ?_
      · intro w hw
        simp only [List.mem_cons, List.not_mem_nil, or_false] at hw
        rcases hw with rfl | rfl | rfl | rfl | rfl <;> rfl
      · intro p' c' h3 le3 _ g3
        refine hK p' c' h3 le3 ?_
        rw [htake, with_snoc, hlen, Int.zero_add, if_pos hkeep]; exact g3
    have next : ∀ h' p' n' c', h.le h' → Growing (EventEnc h.get) 50 5 h.get h'.get p' n' c' (withGo L (x.events.take (j + 1)) 0) → Y [.int .i64 (IntKind.wrap .i64 ((j : Int) + 1)), .int .i64 x.items, .int .i64 x.lands, .int .i64 x.start, .int .i64 x.depend, .int .i64 x.refuse, .int .i64 x.turn, .slice p' n' c'] h' := by
      intro h' p' n' c' hle' g'
      refine hY (f.n - (j + 1)) _ _ (by omega) ⟨hle', j + 1, p', n', c', ?_, by omega, rfl, g'⟩
      rw [wrap_id (by omega) (by omega)]; rfl
    (repeat (first | (with_reducible first | apply gA | apply gB | apply gC | apply gD | apply gE | apply gF | apply gG | apply gH | apply gI | apply gJ | apply gK | apply gL | apply gM | apply gN | apply gO | apply gP | apply gQ | apply gR | apply gP2 | apply gP3) | ((with_reducible first | apply gT | apply gS2); first | exact rfl | assumption | omega | exact ⟨⟩) | ((with_reducible first | apply gL0 | apply gL1 | apply gL2 | apply gL3 | apply gL4); assumption)))
    refine t_cond (fun e2 => ?_) (fun e2 => ?_)
    · refine keep (by rw [e2, Bool.true_or]) fun p' c' h' hle' g' => ?_
      (repeat (first | (with_reducible first | apply gA | apply gB | apply gC | apply gD | apply gE | apply gF | apply gG | apply gH | apply gI | apply gJ | apply gK | apply gL | apply gM | apply gN | apply gO | apply gP | apply gQ | apply gR | apply gP2 | apply gP3) | ((with_reducible first | apply gT | apply gS2); first | exact rfl | assumption | omega | exact ⟨⟩) | ((with_reducible first | apply gL0 | apply gL1 | apply gL2 | apply gL3 | apply gL4); assumption)))
      exact t_again (next h' p' _ c' hle' g')
    · refine t_pu (c100 (hL.le IntE.grow le1.1) (j : Int)) ?_
      (repeat (first | (with_reducible first | apply gA | apply gB | apply gC | apply gD | apply gE | apply gF | apply gG | apply gH | apply gI | apply gJ | apply gK | apply gL | apply gM | apply gN | apply gO | apply gP | apply gQ | apply gR | apply gP2 | apply gP3) | ((with_reducible first | apply gT | apply gS2); first | exact rfl | assumption | omega | exact ⟨⟩) | ((with_reducible first | apply gL0 | apply gL1 | apply gL2 | apply gL3 | apply gL4); assumption)))
      refine t_cond (fun e3 => ?_) (fun e3 => ?_)
      · refine keep (by rw [e3, Bool.or_true]) fun p' c' h' hle' g' => ?_
        (repeat (first | (with_reducible first | apply gA | apply gB | apply gC | apply gD | apply gE | apply gF | apply gG | apply gH | apply gI | apply gJ | apply gK | apply gL | apply gM | apply gN | apply gO | apply gP | apply gQ | apply gR | apply gP2 | apply gP3) | ((with_reducible first | apply gT | apply gS2); first | exact rfl | assumption | omega | exact ⟨⟩) | ((with_reducible first | apply gL0 | apply gL1 | apply gL2 | apply gL3 | apply gL4); assumption)))
        exact t_again (next h' p' _ c' hle' g')
      · refine t_again (next h₁ p n c le1 ?_)
        rw [htake, with_snoc, hlen, Int.zero_add, if_neg (by rw [e2, e3]; simp), List.append_nil]; exact g
  · (repeat (first | (with_reducible first | apply gA | apply gB | apply gC | apply gD | apply gE | apply gF | apply gG | apply gH | apply gI | apply gJ | apply gK | apply gL | apply gM | apply gN | apply gO | apply gP | apply gQ | apply gR | apply gP2 | apply gP3) | ((with_reducible first | apply gT | apply gS2); first | exact rfl | assumption | omega | exact ⟨⟩) | ((with_reducible first | apply gL0 | apply gL1 | apply gL2 | apply gL3 | apply gL4); assumption)))
    rw [List.take_of_length_le (by omega)] at g
    have hx' : TreatyR h₁.get ⟨p, n, c⟩ (withE x L) := by
      refine ⟨?_, g.sl EventEnc.len (by omega) (EventEnc.e (Rd.of_le le1.1)) ?_⟩
      · obtain ⟨vs, o, _⟩ := g.row
        exact o.le_cap
      · show (withGo L x.events 0).length < _
        rw [← g.count EventEnc.len (by omega)]; omega
    refine t_gr (c2060 (hk.le le1.1) hx' (rt.with L) k i d) ?_
    rintro _ h2 le2 rfl
    (repeat (first | (with_reducible first | apply gA | apply gB | apply gC | apply gD | apply gE | apply gF | apply gG | apply gH | apply gI | apply gJ | apply gK | apply gL | apply gM | apply gN | apply gO | apply gP | apply gQ | apply gR | apply gP2 | apply gP3) | ((with_reducible first | apply gT | apply gS2); first | exact rfl | assumption | omega | exact ⟨⟩) | ((with_reducible first | apply gL0 | apply gL1 | apply gL2 | apply gL3 | apply gL4); assumption)))
    exact t_ret ⟨LH.le_trans le1 le2, rfl⟩
def chosenT (x : TF) (L : List Int) (i : Nat) (n : Int) : Int := if (giving x).contains n = false then 6 else if 0 < i ∧ n ≤ L.getD (i - 1) 0 then 7 else 0
def holdsT (x : TF) (k i d : Int) (L : List Int) : Value :=
  if askedAllT x k i d ≠ 0 then .tuple #[.bool false, .int .i64 (askedAllT x k i d)]
  else if firstT (chosenT x L) 0 L ≠ 0 then .tuple #[.bool false, .int .i64 (firstT (chosenT x L) 0 L)] else .tuple #[.bool (holdsB x k i d L), .int .i64 0]
theorem c2042 {h : LH} (hk : Kinds h.get) {f : TC} {x : TF} (hx : TreatyR h.get f x) (k i d : Int) {ep : Option Addr} {en ec : Nat} {L : List Int} (hL : Sl IntE 1 h.get ep en L) :
    Gr Tryd.prog 42 #[treatyV f x, .int .i64 k, .int .i64 i, .int .i64 d, .slice ep en ec] h fun r _ => r = holdsT x k i d L := by
  refine w2042 _ _ _ _ _ _ _ _ _ _ _ _ _ _ _ X0_ok ?_
  unfold n2042
  refine t_pu (c2066 hk hx k i d) ?_
  (repeat (first | (with_reducible first | apply gA | apply gB | apply gC | apply gD | apply gE | apply gF | apply gG | apply gH | apply gI | apply gJ | apply gK | apply gL | apply gM | apply gN | apply gO | apply gP | apply gQ | apply gR | apply gP2 | apply gP3) | ((with_reducible first | apply gT | apply gS2); first | exact rfl | assumption | omega | exact ⟨⟩) | ((with_reducible first | apply gL0 | apply gL1 | apply gL2 | apply gL3 | apply gL4); assumption)))
  refine t_cond (fun e => ?_) (fun e => ?_)
  · exact t_ret ⟨LH.le_refl _, by rw [holdsT, if_pos (by simpa using e)]⟩
  have e0 : askedAllT x k i d = 0 := by simpa using e
  have hck := (asked_ok (askedItem_ok (askedAll_ok e0).1).1).1
  have rt := Right.of hck
  have hkd := KindsOk.of hck
  have hT : holdsT x k i d L = if firstT (chosenT x L) 0 L ≠ 0 then .tuple #[.bool false, .int .i64 (firstT (chosenT x L) 0 L)] else .tuple #[.bool (holdsB x k i d L), .int .i64 0] := by rw [holdsT, if_neg (by simp [e0])]
  refine t_gr (c2067 hk hx hkd rt.many) ?_
  rintro _ h₁ le1 ⟨p, n, c, rfl, hg, _⟩
  have hen := hL.1
  have heb := hL.2.1
  (repeat (first | (with_reducible first | apply gA | apply gB | apply gC | apply gD | apply gE | apply gF | apply gG | apply gH | apply gI | apply gJ | apply gK | apply gL | apply gM | apply gN | apply gO | apply gP | apply gQ | apply gR | apply gP2 | apply gP3) | ((with_reducible first | apply gT | apply gS2); first | exact rfl | assumption | omega | exact ⟨⟩) | ((with_reducible first | apply gL0 | apply gL1 | apply gL2 | apply gL3 | apply gL4); assumption)))
  refine t_loop (fun mm vs h' => h₁ = h' ∧ ∃ j : Nat, vs = [.bool false, .int .i64 0, .int .i64 j] ∧ j ≤ en ∧ mm = en - j ∧ firstT (chosenT x L) 0 L = firstT (chosenT x L) j (L.drop j)) ⟨rfl, 0, rfl, Nat.zero_le _, rfl, rfl⟩ ?_
  rintro Y mm vs _ hY ⟨rfl, j, rfl, hj, rfl, hc⟩
  (repeat (first | (with_reducible first | apply gA | apply gB | apply gC | apply gD | apply gE | apply gF | apply gG | apply gH | apply gI | apply gJ | apply gK | apply gL | apply gM | apply gN | apply gO | apply gP | apply gQ | apply gR | apply gP2 | apply gP3) | ((with_reducible first | apply gT | apply gS2); first | exact rfl | assumption | omega | exact ⟨⟩) | ((with_reducible first | apply gL0 | apply gL1 | apply gL2 | apply gL3 | apply gL4); assumption)))
  refine t_if (fun e1 => ?_) (fun e1 => ?_)
  · obtain ⟨y, a, hy, ha, e2⟩ := (hL.le IntE.grow le1.1).at (i := j) (by omega)
    unfold IntE at e2
    rw [drop_of hy, firstT] at hc
    (repeat (first | (with_reducible first | apply gA | apply gB | apply gC | apply gD | apply gE | apply gF | apply gG | apply gH | apply gI | apply gJ | apply gK | apply gL | apply gM | apply gN | apply gO | apply gP | apply gQ | apply gR | apply gP2 | apply gP3) | ((with_reducible first | apply gT | apply gS2); first | exact rfl | assumption | omega | exact ⟨⟩) | ((with_reducible first | apply gL0 | apply gL1 | apply gL2 | apply gL3 | apply gL4); assumption)))
    refine t_pu (c100 hg y) ?_
    (repeat (first | (with_reducible first | apply gA | apply gB | apply gC | apply gD | apply gE | apply gF | apply gG | apply gH | apply gI | apply gJ | apply gK | apply gL | apply gM | apply gN | apply gO | apply gP | apply gQ | apply gR | apply gP2 | apply gP3) | ((with_reducible first | apply gT | apply gS2); first | exact rfl | assumption | omega | exact ⟨⟩) | ((with_reducible first | apply gL0 | apply gL1 | apply gL2 | apply gL3 | apply gL4); assumption)))
    have next : chosenT x L j y = 0 → Y [.bool false, .int .i64 0, .int .i64 (IntKind.wrap .i64 ((j : Int) + 1))] h₁ := by
      intro hz
      rw [if_neg (by rw [hz]; simp)] at hc
      refine hY (en - (j + 1)) _ _ (by omega) ⟨rfl, j + 1, ?_, by omega, rfl, hc⟩
      rw [wrap_id (by omega) (by omega)]; rfl
    have stop : ∀ z : Int, z ≠ 0 → chosenT x L j y = z → holdsT x k i d L = .tuple #[.bool false, .int .i64 z] := by
      intro z hz hr
      rw [hr, if_pos hz] at hc
      rw [hT, hc, if_pos hz]
    refine t_cond (fun d1 => ?_) (fun d1 => ?_)
    · (repeat (first | (with_reducible first | apply gA | apply gB | apply gC | apply gD | apply gE | apply gF | apply gG | apply gH | apply gI | apply gJ | apply gK | apply gL | apply gM | apply gN | apply gO | apply gP | apply gQ | apply gR | apply gP2 | apply gP3) | ((with_reducible first | apply gT | apply gS2); first | exact rfl | assumption | omega | exact ⟨⟩) | ((with_reducible first | apply gL0 | apply gL1 | apply gL2 | apply gL3 | apply gL4); assumption)))
      refine t_ret ⟨le1, ?_⟩
      rw [stop 6 (by decide) (by rw [chosenT, if_pos (by simpa using d1)])]
    have d1' : ¬ (giving x).contains y = false := by simp at d1; simp [d1]
    refine t_if (fun d2 => ?_) (fun d2 => ?_)
    · obtain ⟨z, a2, hz, ha2, e3⟩ := (hL.le IntE.grow le1.1).at (i := j - 1) (by omega)
      unfold IntE at e3
      rw [ha] at ha2; cases ha2
      have hwi : IntKind.wrap .i64 ((j : Int) - 1) = ((j - 1 : Nat) : Int) := by rw [wrap_id (by omega) (by omega)]; omega
      have hgd : L.getD (j - 1) 0 = z := by simp [List.getD, hz]
      rw [hwi]
      (repeat (first | (with_reducible first | apply gA | apply gB | apply gC | apply gD | apply gE | apply gF | apply gG | apply gH | apply gI | apply gJ | apply gK | apply gL | apply gM | apply gN | apply gO | apply gP | apply gQ | apply gR | apply gP2 | apply gP3) | ((with_reducible first | apply gT | apply gS2); first | exact rfl | assumption | omega | exact ⟨⟩) | ((with_reducible first | apply gL0 | apply gL1 | apply gL2 | apply gL3 | apply gL4); assumption)))
      refine t_if (fun d3 => ?_) (fun d3 => ?_)
      · (repeat (first | (with_reducible first | apply gA | apply gB | apply gC | apply gD | apply gE | apply gF | apply gG | apply gH | apply gI | apply gJ | apply gK | apply gL | apply gM | apply gN | apply gO | apply gP | apply gQ | apply gR | apply gP2 | apply gP3) | ((with_reducible first | apply gT | apply gS2); first | exact rfl | assumption | omega | exact ⟨⟩) | ((with_reducible first | apply gL0 | apply gL1 | apply gL2 | apply gL3 | apply gL4); assumption)))
        refine t_ret ⟨le1, ?_⟩
        rw [stop 7 (by decide) (by rw [chosenT, if_neg d1', if_pos ⟨by omega, by rw [hgd]; exact d3⟩])]
      · exact t_again (next (by rw [chosenT, if_neg d1', if_neg (by rw [hgd]; omega)]))
    · exact t_again (next (by rw [chosenT, if_neg d1', if_neg (by omega)]))
  · (repeat (first | (with_reducible first | apply gA | apply gB | apply gC | apply gD | apply gE | apply gF | apply gG | apply gH | apply gI | apply gJ | apply gK | apply gL | apply gM | apply gN | apply gO | apply gP | apply gQ | apply gR | apply gP2 | apply gP3) | ((with_reducible first | apply gT | apply gS2); first | exact rfl | assumption | omega | exact ⟨⟩) | ((with_reducible first | apply gL0 | apply gL1 | apply gL2 | apply gL3 | apply gL4); assumption)))
    rw [List.drop_eq_nil_of_le (by omega), firstT] at hc
    refine t_gr (c2069 (hk.le le1.1) (hx.le le1.1) rt hkd k i d (hL.le IntE.grow le1.1)) ?_
    rintro _ h2 le2 rfl
    (repeat (first | (with_reducible first | apply gA | apply gB | apply gC | apply gD | apply gE | apply gF | apply gG | apply gH | apply gI | apply gJ | apply gK | apply gL | apply gM | apply gN | apply gO | apply gP | apply gQ | apply gR | apply gP2 | apply gP3) | ((with_reducible first | apply gT | apply gS2); first | exact rfl | assumption | omega | exact ⟨⟩) | ((with_reducible first | apply gL0 | apply gL1 | apply gL2 | apply gL3 | apply gL4); assumption)))
    exact t_ret ⟨LH.le_trans le1 le2, by rw [hT, if_neg (by rw [hc]; simp)]⟩
end Go.Proofs.YtbmfimaomcnkfaaDoor
end
section
namespace Go.TM
open Go Go.Conc
variable {P : Program} {X : XP} {Q : Leaf → LH → Prop}
theorem t_indexStr {h : LH} {K : Value → T} {t : TypeId} {s : ByteArray} {i : Nat} (hu : P.underlying t = some .string) (hs : s.size = 256) (hi : i < 256) (hk : ∀ b : Nat, (K (.int .u8 (b : Int))).wp X P Q h) : (T.sem false (Instr.index t (.string s) (.int .u8 (i : Int))) K).wp X P Q h := by
  refine t_sem (A := fun w h' => h' = h.get ∧ ∃ b : Nat, w = .int .u8 (b : Int)) ?_ (by rintro w h' ⟨rfl, b, rfl⟩; exact hk b)
  unfold Instr.index
  simp only [asIntOf, lwp_bind, lwp_pure, lwp_underlying hu]
  have h1 : s[(i : Int).toNat]? = some (s[i]'(by omega)) := by
    rw [Int.toNat_natCast]; exact getElem?_pos s i (by omega)
  rw [if_pos (by omega), h1]
  exact ⟨rfl, _, rfl⟩
def Reads (cs : Array Value) (l : List Int) : Prop := ∀ (i : Nat) y, l[i]? = some y → cs[i]? = some (.int .i64 y)
theorem swap_perm : ∀ (m : List Int) (j : Nat) (x y : Int), m[j]? = some y → m[j + 1]? = some x → ((m.set (j + 1) y).set j x).Perm m
  | [], j, x, y, h, _ => by simp at h
  | [a], j, x, y, _, h => by simp at h
  | a :: b :: r, 0, x, y, h1, h2 => by
    simp at h1 h2; subst h1; subst h2
    simp only [List.set_cons_succ, List.set_cons_zero]
    exact List.Perm.swap _ _ _
  | a :: b :: r, j + 1, x, y, h1, h2 => by
    simp only [List.set_cons_succ]
    exact (swap_perm (b :: r) j x y (by simpa using h1) (by simpa using h2)).cons a
structure Ins (m : List Int) (i j : Nat) : Prop where
  rest : ∀ a b u v, a < b → b ≤ i → a ≠ j → b ≠ j → m[a]? = some u → m[b]? = some v → u ≤ v
  small : ∀ b u v, j < b → b ≤ i → m[j]? = some u → m[b]? = some v → u ≤ v
theorem Ins.swap {m : List Int} {i j : Nat} {x y : Int} (h : Ins m i (j + 1)) (hj : j + 1 ≤ i) (hy : m[j]? = some y) (hx : m[j + 1]? = some x) (hlt : x < y) : Ins ((m.set (j + 1) y).set j x) i j := by
  have len : j + 1 < m.length := (List.getElem?_eq_some_iff.1 hx).1
  have get : ∀ a, ((m.set (j + 1) y).set j x)[a]? = if a = j then some x else if a = j + 1 then some y else m[a]? := by
    intro a
    rw [List.getElem?_set, List.getElem?_set]
    by_cases e1 : a = j
    · subst e1; simp; omega
    · by_cases e2 : a = j + 1
      · subst e2; simp; omega
      · rw [if_neg (Ne.symm e1), if_neg (Ne.symm e2), if_neg e1, if_neg e2]
  refine ⟨fun a b u v hab hbi ha hb hu hv => ?_, fun b u v hjb hbi hu hv => ?_⟩
  · rw [get, if_neg ha] at hu
    rw [get, if_neg hb] at hv
    by_cases e1 : a = j + 1
    · rw [if_pos e1] at hu; cases hu
      rw [if_neg (by omega)] at hv
      exact h.rest j b y v (by omega) hbi (by omega) (by omega) hy hv
    · rw [if_neg e1] at hu
      by_cases e2 : b = j + 1
      · rw [if_pos e2] at hv; cases hv
        exact h.rest a j u y (by omega) (by omega) (by omega) (by omega) hu hy
      · rw [if_neg e2] at hv
        exact h.rest a b u v hab hbi e1 e2 hu hv
  · rw [get, if_pos rfl] at hu; cases hu
    rw [get, if_neg (by omega)] at hv
    by_cases e2 : b = j + 1
    · rw [if_pos e2] at hv; cases hv; omega
    · rw [if_neg e2] at hv
      exact h.small b x v (by omega) hbi hx hv
theorem Ins.done {m : List Int} {i j : Nat} (h : Ins m i j) (hj : j = 0 ∨ ∃ x y, m[j - 1]? = some y ∧ m[j]? = some x ∧ y ≤ x) : ∀ a b u v, a < b → b ≤ i → m[a]? = some u → m[b]? = some v → u ≤ v := by
  intro a b u v hab hbi hu hv
  by_cases ea : a = j
  · subst ea; exact h.small b u v hab hbi hu hv
  · by_cases eb : b = j
    · subst eb
      rcases hj with h0 | ⟨x, y, h1, h2, h3⟩
      · omega
      · rw [hv] at h2; cases h2
        by_cases e : a = b - 1
        · subst e; rw [hu] at h1; cases h1; exact h3
        · exact Int.le_trans (h.rest a (b - 1) u y (by omega) (by omega) ea (by omega) hu h1) h3
    · exact h.rest a b u v hab hbi ea eb hu hv
theorem sorted_of {m : List Int} {n : Nat} (hn : m.length ≤ n) (h : ∀ a b u v, a < b → b < n → m[a]? = some u → m[b]? = some v → u ≤ v) : m.Pairwise (· ≤ ·) := by
  rw [List.pairwise_iff_getElem]
  intro a b ha hb hab
  exact h a b _ _ hab (by omega) (List.getElem?_eq_getElem ha) (List.getElem?_eq_getElem hb)
end Go.TM
namespace Go.Proofs.YtbmfimaomcnkfaaDoor
open Go Go.TM Go.Proofs Go.TM.Tr
attribute [local irreducible] T.wp CV FWK
theorem c2111 {h : LH} (x y : Int) : Pu Tryd.prog 111 #[.int .i64 x, .int .i64 y] h (.bool (decide (x < y))) := by
  refine w2111 _ _ X0_ok ?_
  unfold n2111
  refine t_pu (c109 _) ?_
  (repeat (first | (with_reducible first | apply gA | apply gB | apply gC | apply gD | apply gE | apply gF | apply gG | apply gH | apply gI | apply gJ | apply gK | apply gL | apply gM | apply gN | apply gO | apply gP | apply gQ | apply gR | apply gP2 | apply gP3) | ((with_reducible first | apply gT | apply gS2); first | exact rfl | assumption | omega | exact ⟨⟩) | ((with_reducible first | apply gL0 | apply gL1 | apply gL2 | apply gL3 | apply gL4); assumption)))
  refine t_cond (fun e => by cases e) (fun _ => ?_)
  exact t_ret ⟨rfl, rfl⟩
set_option maxRecDepth 10000 in
theorem c2105 {h : LH} {r c : Nat} {el : TypeId} : ∀ {cs : Array Value} {l : List Int}, Reads cs l → l.length ≤ 12 →
    FW X0 Tryd.prog 105 #[.slice (some ⟨r, 0, none⟩) l.length c, .int .i64 0, .int .i64 (l.length : Int)] { h with get := h.get.upd r (true, .cells cs el (0, 0)) } fun v h' => v = .tuple #[] ∧
      ∃ cs' l', cs'.size = cs.size ∧ Reads cs' l' ∧ l'.Perm l ∧ l'.Pairwise (· ≤ ·) ∧ h' = { h with get := h.get.upd r (true, .cells cs' el (0, 0)) } := by
  intro cs l hr hl
  have hcell : ∀ {cs : Array Value} {m : List Int} {j : Nat} {y : Int}, Reads cs m → m[j]? = some y → Cells.cell? (h.get.upd r (true, .cells cs el (0, 0))) (Addr.add ⟨r, 0, none⟩ ((j : Int).toNat * 1)) = some (.int .i64 y) := by
    intro cs m j y hm hy
    rw [add_plain]
    have e : 0 + (j : Int).toNat * 1 = j := by simp
    rw [e]
    exact cell_upd (hm j y hy)
  refine w2105 _ _ _ _ _ X0_ok ?_
  unfold n2105
  have hw0 : IntKind.wrap .i64 ((0 : Int) + 1) = ((1 : Nat) : Int) := by rw [wrap_id (by omega) (by omega)]; rfl
  rw [hw0]
  refine t_loop (fun mm vs h' => ∃ (i : Nat) (cs' : Array Value) (m : List Int), vs = [.int .i64 i] ∧ mm = l.length + 1 - i ∧ 1 ≤ i ∧ i ≤ l.length + 1 ∧ h' = { h with get := h.get.upd r (true, .cells cs' el (0, 0)) } ∧ cs'.size = cs.size ∧ Reads cs' m ∧ m.Perm l ∧ ∀ a b u v, a < b → b < i → m[a]? = some u → m[b]? = some v → u ≤ v)
    ⟨1, cs, l, rfl, rfl, Nat.le_refl _, by omega, rfl, rfl, hr, List.Perm.refl _, fun a b u v hab hb => by omega⟩ ?_
  rintro Y mm vs _ hY ⟨i, cs1, m1, rfl, rfl, hi1, hi2, rfl, hsz1, hr1, hp1, hso1⟩
  (repeat (first | (with_reducible first | apply gA | apply gB | apply gC | apply gD | apply gE | apply gF | apply gG | apply gH | apply gI | apply gJ | apply gK | apply gL | apply gM | apply gN | apply gO | apply gP | apply gQ | apply gR | apply gP2 | apply gP3) | ((with_reducible first | apply gT | apply gS2); first | exact rfl | assumption | omega | exact ⟨⟩) | ((with_reducible first | apply gL0 | apply gL1 | apply gL2 | apply gL3 | apply gL4); assumption)))
  refine t_if (fun e1 => ?_) (fun e1 => ?_)
  · have hlen1 := hp1.length_eq
    refine t_loop (fun mm vs h' => ∃ (j : Nat) (cs' : Array Value) (m : List Int), vs = [.int .i64 j] ∧ j = mm ∧ j ≤ i ∧ h' = { h with get := h.get.upd r (true, .cells cs' el (0, 0)) } ∧ cs'.size = cs.size ∧ Reads cs' m ∧ m.Perm l ∧ Ins m i j)
      ⟨i, cs1, m1, rfl, rfl, Nat.le_refl _, rfl, hsz1, hr1, hp1, fun a b u v hab hbi ha hb hu hv => hso1 a b u v hab (by omega) hu hv, fun b u v h1 h2 => by omega⟩ ?_
    rintro Y2 mm vs _ hY2 ⟨j, cs2, m2, rfl, rfl, hj, rfl, hsz2, hr2, hp2, hins⟩
    have hlen2 := hp2.length_eq
    have fin : (∀ a b u v, a < b → b ≤ i → m2[a]? = some u → m2[b]? = some v → u ≤ v) → Y [.int .i64 (IntKind.wrap .i64 ((i : Int) + 1))] { h with get := h.get.upd r (true, .cells cs2 el (0, 0)) } := by
      intro hso
      refine hY (l.length + 1 - (i + 1)) _ _ (by omega) ⟨i + 1, cs2, m2, ?_, rfl, by omega, by omega, rfl, hsz2, hr2, hp2, fun a b u v hab hb => hso a b u v hab (by omega)⟩
      rw [wrap_id (by omega) (by omega)]; rfl
    (repeat (first | (with_reducible first | apply gA | apply gB | apply gC | apply gD | apply gE | apply gF | apply gG | apply gH | apply gI | apply gJ | apply gK | apply gL | apply gM | apply gN | apply gO | apply gP | apply gQ | apply gR | apply gP2 | apply gP3) | ((with_reducible first | apply gT | apply gS2); first | exact rfl | assumption | omega | exact ⟨⟩) | ((with_reducible first | apply gL0 | apply gL1 | apply gL2 | apply gL3 | apply gL4); assumption)))
    refine t_blk (fun vs h' => vs = [] ∧ h' = { h with get := h.get.upd r (true, .cells cs2 el (0, 0)) } ∧ ∃ (j' : Nat) (x y : Int), j = j' + 1 ∧ m2[j']? = some y ∧ m2[j' + 1]? = some x ∧ x < y) ?_ ?_
    · refine t_if (fun e2 => ?_) (fun e2 => ?_)
      · obtain ⟨j', rfl⟩ : ∃ j', j = j' + 1 := ⟨j - 1, by omega⟩
        obtain ⟨y, hy⟩ : ∃ y, m2[j']? = some y := ⟨m2[j']'(by omega), List.getElem?_eq_getElem (by omega)⟩
        obtain ⟨x, hx⟩ : ∃ x, m2[j' + 1]? = some x := ⟨m2[j' + 1]'(by omega), List.getElem?_eq_getElem (by omega)⟩
        have hw : IntKind.wrap .i64 (((j' + 1 : Nat) : Int) - 1) = (j' : Int) := by rw [wrap_id (by omega) (by omega)]; omega
        rw [hw]
        have g1 := hcell hr2 hx
        have g2 := hcell hr2 hy
        refine gT (by omega) (gS2 rfl (gL0 g1 (gT (by omega) (gS2 rfl (gL0 g2 ?_)))))
        refine t_pu (c2111 _ _) ?_
        (repeat (first | (with_reducible first | apply gA | apply gB | apply gC | apply gD | apply gE | apply gF | apply gG | apply gH | apply gI | apply gJ | apply gK | apply gL | apply gM | apply gN | apply gO | apply gP | apply gQ | apply gR | apply gP2 | apply gP3) | ((with_reducible first | apply gT | apply gS2); first | exact rfl | assumption | omega | exact ⟨⟩) | ((with_reducible first | apply gL0 | apply gL1 | apply gL2 | apply gL3 | apply gL4); assumption)))
        refine t_cond (fun e3 => ?_) (fun e3 => ?_)
        · exact t_again ⟨rfl, rfl, j', x, y, rfl, hy, hx, by simpa using e3⟩
        · refine gR ?_
          refine t_cond (fun _ => ?_) (fun e => by cases e)
          (repeat (first | (with_reducible first | apply gA | apply gB | apply gC | apply gD | apply gE | apply gF | apply gG | apply gH | apply gI | apply gJ | apply gK | apply gL | apply gM | apply gN | apply gO | apply gP | apply gQ | apply gR | apply gP2 | apply gP3) | ((with_reducible first | apply gT | apply gS2); first | exact rfl | assumption | omega | exact ⟨⟩) | ((with_reducible first | apply gL0 | apply gL1 | apply gL2 | apply gL3 | apply gL4); assumption)))
          have e3 : ¬ x < y := by simpa using e3
          exact t_again (fin (hins.done (.inr ⟨x, y, by simpa using hy, hx, by omega⟩)))
      · (repeat (first | (with_reducible first | apply gA | apply gB | apply gC | apply gD | apply gE | apply gF | apply gG | apply gH | apply gI | apply gJ | apply gK | apply gL | apply gM | apply gN | apply gO | apply gP | apply gQ | apply gR | apply gP2 | apply gP3) | ((with_reducible first | apply gT | apply gS2); first | exact rfl | assumption | omega | exact ⟨⟩) | ((with_reducible first | apply gL0 | apply gL1 | apply gL2 | apply gL3 | apply gL4); assumption)))
        refine t_cond (fun _ => ?_) (fun e => by cases e)
        (repeat (first | (with_reducible first | apply gA | apply gB | apply gC | apply gD | apply gE | apply gF | apply gG | apply gH | apply gI | apply gJ | apply gK | apply gL | apply gM | apply gN | apply gO | apply gP | apply gQ | apply gR | apply gP2 | apply gP3) | ((with_reducible first | apply gT | apply gS2); first | exact rfl | assumption | omega | exact ⟨⟩) | ((with_reducible first | apply gL0 | apply gL1 | apply gL2 | apply gL3 | apply gL4); assumption)))
        exact t_again (fin (hins.done (.inl (by omega))))
    · rintro vs _ ⟨rfl, rfl, j', x, y, rfl, hy, hx, hlt⟩
      have hw : IntKind.wrap .i64 (((j' + 1 : Nat) : Int) - 1) = (j' : Int) := by rw [wrap_id (by omega) (by omega)]; omega
      have g1 := hcell hr2 hx
      have g2 := hcell hr2 hy
      have hjs : j' + 1 < cs2.size := (Array.getElem?_eq_some_iff.1 (hr2 _ _ hx)).1
      rw [hw]
      (repeat (first | (with_reducible first | apply gA | apply gB | apply gC | apply gD | apply gE | apply gF | apply gG | apply gH | apply gI | apply gJ | apply gK | apply gL | apply gM | apply gN | apply gO | apply gP | apply gQ | apply gR | apply gP2 | apply gP3) | ((with_reducible first | apply gT | apply gS2); first | exact rfl | assumption | omega | exact ⟨⟩) | ((with_reducible first | apply gL0 | apply gL1 | apply gL2 | apply gL3 | apply gL4); assumption)))
      refine t_storeU (o := j' + 1) (by rw [add_plain, add_plain]; simp) rfl hjs ?_
      (repeat (first | (with_reducible first | apply gA | apply gB | apply gC | apply gD | apply gE | apply gF | apply gG | apply gH | apply gI | apply gJ | apply gK | apply gL | apply gM | apply gN | apply gO | apply gP | apply gQ | apply gR | apply gP2 | apply gP3) | ((with_reducible first | apply gT | apply gS2); first | exact rfl | assumption | omega | exact ⟨⟩) | ((with_reducible first | apply gL0 | apply gL1 | apply gL2 | apply gL3 | apply gL4); assumption)))
      refine t_storeU (o := j') (by rw [add_plain, add_plain]; simp) rfl (by simp; omega) ?_
      refine t_again (hY2 j' _ _ (by omega) ⟨j', _, (m2.set (j' + 1) y).set j' x, rfl, rfl, by omega, rfl, by simp [hsz2], ?_, (swap_perm m2 j' x y hy hx).trans hp2, hins.swap (by omega) hy hx hlt⟩)
      intro a z hz
      rw [List.getElem?_set, List.getElem?_set] at hz
      by_cases e4 : a = j'
      · subst e4
        rw [Array.getElem?_setIfInBounds_self_of_lt (by simp; omega)]
        simp at hz
        rw [hz.2]
      · rw [Array.getElem?_setIfInBounds_ne (Ne.symm e4)]
        rw [if_neg (Ne.symm e4)] at hz
        by_cases e5 : a = j' + 1
        · subst e5
          rw [Array.getElem?_setIfInBounds_self_of_lt (by omega)]
          simp at hz
          rw [hz.2]
        · rw [Array.getElem?_setIfInBounds_ne (Ne.symm e5)]
          rw [if_neg (Ne.symm e5)] at hz
          exact hr2 a z hz
  · (repeat (first | (with_reducible first | apply gA | apply gB | apply gC | apply gD | apply gE | apply gF | apply gG | apply gH | apply gI | apply gJ | apply gK | apply gL | apply gM | apply gN | apply gO | apply gP | apply gQ | apply gR | apply gP2 | apply gP3) | ((with_reducible first | apply gT | apply gS2); first | exact rfl | assumption | omega | exact ⟨⟩) | ((with_reducible first | apply gL0 | apply gL1 | apply gL2 | apply gL3 | apply gL4); assumption)))
    refine t_ret ⟨rfl, cs1, m1, hsz1, hr1, hp1, sorted_of (n := i) (by rw [hp1.length_eq]; omega) hso1, rfl⟩
theorem c2101 {h : LH} {r c : Nat} {el : TypeId} {cs : Array Value} {l : List Int} (hr : Reads cs l) (hl : l.length ≤ 12) (lim : Int) :
    FW X0 Tryd.prog 101 #[.slice (some ⟨r, 0, none⟩) l.length c, .int .i64 0, .int .i64 (l.length : Int), .int .i64 lim] { h with get := h.get.upd r (true, .cells cs el (0, 0)) } fun v h' => v = .tuple #[] ∧
      ∃ cs' l', cs'.size = cs.size ∧ Reads cs' l' ∧ l'.Perm l ∧ l'.Pairwise (· ≤ ·) ∧ h' = { h with get := h.get.upd r (true, .cells cs' el (0, 0)) } := by
  refine w2101 _ _ _ _ _ _ X0_ok ?_
  unfold n2101
  refine t_loop (fun mm vs h' => mm = 0 ∧ vs = [.int .i64 0, .int .i64 (l.length : Int), .int .i64 lim, .bool true, .bool true] ∧ h' = { h with get := h.get.upd r (true, .cells cs el (0, 0)) }) ⟨rfl, rfl, rfl⟩ ?_
  rintro Y mm vs _ hY ⟨rfl, rfl, rfl⟩
  (repeat (first | (with_reducible first | apply gA | apply gB | apply gC | apply gD | apply gE | apply gF | apply gG | apply gH | apply gI | apply gJ | apply gK | apply gL | apply gM | apply gN | apply gO | apply gP | apply gQ | apply gR | apply gP2 | apply gP3) | ((with_reducible first | apply gT | apply gS2); first | exact rfl | assumption | omega | exact ⟨⟩) | ((with_reducible first | apply gL0 | apply gL1 | apply gL2 | apply gL3 | apply gL4); assumption)))
  have hw : IntKind.wrap .i64 ((l.length : Int) - 0) = (l.length : Int) := by rw [wrap_id (by omega) (by omega)]; omega
  rw [hw]
  refine t_if (fun e => ?_) (fun e => absurd (by omega) e)
  refine t_call (c2105 hr hl) ?_
  rintro _ h2 ⟨rfl, hq⟩
  (repeat (first | (with_reducible first | apply gA | apply gB | apply gC | apply gD | apply gE | apply gF | apply gG | apply gH | apply gI | apply gJ | apply gK | apply gL | apply gM | apply gN | apply gO | apply gP | apply gQ | apply gR | apply gP2 | apply gP3) | ((with_reducible first | apply gT | apply gS2); first | exact rfl | assumption | omega | exact ⟨⟩) | ((with_reducible first | apply gL0 | apply gL1 | apply gL2 | apply gL3 | apply gL4); assumption)))
  exact t_ret ⟨rfl, hq⟩
set_option maxRecDepth 100000 in
theorem c2115 {h : LH} {x : Nat} (hx : x < 256) : FW X0 Tryd.prog 115 #[.int .u64 (x : Int)] h fun v h' => h' = h ∧ ∃ z, v = .int .i64 z := by
  refine w2115 _ X0_ok ?_
  unfold n2115
  refine t_blk (fun vs h' => vs = [.int .u64 (x : Int), .int .i64 0] ∧ h = h') ?_ ?_
  · refine t_if (fun e => by omega) (fun e => ?_)
    exact t_again ⟨rfl, rfl⟩
  rintro vs _ ⟨rfl, rfl⟩
  (repeat (first | (with_reducible first | apply gA | apply gB | apply gC | apply gD | apply gE | apply gF | apply gG | apply gH | apply gI | apply gJ | apply gK | apply gL | apply gM | apply gN | apply gO | apply gP | apply gQ | apply gR | apply gP2 | apply gP3) | ((with_reducible first | apply gT | apply gS2); first | exact rfl | assumption | omega | exact ⟨⟩) | ((with_reducible first | apply gL0 | apply gL1 | apply gL2 | apply gL3 | apply gL4); assumption)))
  refine t_blk (fun vs h' => vs = [.int .u64 (x : Int), .int .i64 0] ∧ h = h') ?_ ?_
  · refine t_if (fun e => by omega) (fun e => ?_)
    exact t_again ⟨rfl, rfl⟩
  rintro vs _ ⟨rfl, rfl⟩
  (repeat (first | (with_reducible first | apply gA | apply gB | apply gC | apply gD | apply gE | apply gF | apply gG | apply gH | apply gI | apply gJ | apply gK | apply gL | apply gM | apply gN | apply gO | apply gP | apply gQ | apply gR | apply gP2 | apply gP3) | ((with_reducible first | apply gT | apply gS2); first | exact rfl | assumption | omega | exact ⟨⟩) | ((with_reducible first | apply gL0 | apply gL1 | apply gL2 | apply gL3 | apply gL4); assumption)))
  refine t_if (fun e => by omega) (fun e => ?_)
  have hw : IntKind.wrap .u8 (x : Int) = (x : Int) := by
    have e1 : (2 ^ IntKind.u8.bits : Int) = 256 := rfl
    simp only [IntKind.wrap, e1, show IntKind.u8.signed = false from rfl, Bool.false_and, Bool.false_eq_true, if_false]
    omega
  rw [hw]
  refine t_indexStr (by kernel_rfl) (by kernel_rfl) hx fun b => ?_
  (repeat (first | (with_reducible first | apply gA | apply gB | apply gC | apply gD | apply gE | apply gF | apply gG | apply gH | apply gI | apply gJ | apply gK | apply gL | apply gM | apply gN | apply gO | apply gP | apply gQ | apply gR | apply gP2 | apply gP3) | ((with_reducible first | apply gT | apply gS2); first | exact rfl | assumption | omega | exact ⟨⟩) | ((with_reducible first | apply gL0 | apply gL1 | apply gL2 | apply gL3 | apply gL4); assumption)))
  exact t_ret ⟨rfl, _, rfl⟩
theorem c2102 {h : LH} {x : Nat} (hx : x < 256) : FW X0 Tryd.prog 102 #[.int .u64 (x : Int)] h fun v h' => h' = h ∧ ∃ z, v = .int .i64 z := by
  refine w2102 _ X0_ok ?_
  unfold n2102
  refine t_call (c2115 hx) ?_
  rintro _ _ ⟨rfl, z, rfl⟩
  (repeat (first | (with_reducible first | apply gA | apply gB | apply gC | apply gD | apply gE | apply gF | apply gG | apply gH | apply gI | apply gJ | apply gK | apply gL | apply gM | apply gN | apply gO | apply gP | apply gQ | apply gR | apply gP2 | apply gP3) | ((with_reducible first | apply gT | apply gS2); first | exact rfl | assumption | omega | exact ⟨⟩) | ((with_reducible first | apply gL0 | apply gL1 | apply gL2 | apply gL3 | apply gL4); assumption)))
  exact t_ret ⟨rfl, _, rfl⟩
theorem c2092 {h : LH} {r c : Nat} {el : TypeId} {cs : Array Value} {l : List Int} (hr : Reads cs l) (hl : l.length ≤ 12) :
    FW X0 Tryd.prog 92 #[.slice (some ⟨r, 0, none⟩) l.length c] { h with get := h.get.upd r (true, .cells cs el (0, 0)) } fun v h' => v = .tuple #[] ∧
      ∃ cs' l', cs'.size = cs.size ∧ Reads cs' l' ∧ l'.Perm l ∧ l'.Pairwise (· ≤ ·) ∧ h' = { h with get := h.get.upd r (true, .cells cs' el (0, 0)) } := by
  refine w2092 _ _ _ X0_ok ?_
  unfold n2092
  have hw : IntKind.wrap .u64 (l.length : Int) = (l.length : Int) := by
    have e1 : (2 ^ IntKind.u64.bits : Int) = 18446744073709551616 := rfl
    simp only [IntKind.wrap, e1, show IntKind.u64.signed = false from rfl, Bool.false_and, Bool.false_eq_true, if_false]
    omega
  rw [hw]
  refine t_call (c2102 (by omega)) ?_
  rintro _ _ ⟨rfl, z, rfl⟩
  (repeat (first | (with_reducible first | apply gA | apply gB | apply gC | apply gD | apply gE | apply gF | apply gG | apply gH | apply gI | apply gJ | apply gK | apply gL | apply gM | apply gN | apply gO | apply gP | apply gQ | apply gR | apply gP2 | apply gP3) | ((with_reducible first | apply gT | apply gS2); first | exact rfl | assumption | omega | exact ⟨⟩) | ((with_reducible first | apply gL0 | apply gL1 | apply gL2 | apply gL3 | apply gL4); assumption)))
  refine t_call (c2101 hr hl z) ?_
  rintro _ h2 ⟨rfl, hq⟩
  (repeat (first | (with_reducible first | apply gA | apply gB | apply gC | apply gD | apply gE | apply gF | apply gG | apply gH | apply gI | apply gJ | apply gK | apply gL | apply gM | apply gN | apply gO | apply gP | apply gQ | apply gR | apply gP2 | apply gP3) | ((with_reducible first | apply gT | apply gS2); first | exact rfl | assumption | omega | exact ⟨⟩) | ((with_reducible first | apply gL0 | apply gL1 | apply gL2 | apply gL3 | apply gL4); assumption)))
  exact t_ret ⟨rfl, hq⟩
end Go.Proofs.YtbmfimaomcnkfaaDoor
end
section
namespace Go.TM
open Go Go.Conc
variable {P : Program} {X : XP} {Q : Leaf → LH → Prop}
inductive Chain {S : Type} (nx : S → List Value → S → Prop) (s₀ : S) : List Int → S → Prop
  | nil : Chain nx s₀ [] s₀
  | snoc {l : List Int} {s s' : S} {v : Int} : Chain nx s₀ l s → nx s [.int .i64 v] s' → Chain nx s₀ (l ++ [v]) s'
theorem chain_keys {es : Array MapEntry} {c : Nat} {l : List Int} (k : Keys es c l) {acc : List Int} {seen : Array Nat} (h : Chain (NextKey es) #[] acc seen) :
    ∃ E : List MapEntry, (∀ e ∈ E, e ∈ es.toList) ∧ acc.map (Value.int .i64) = E.map (·.key) ∧ seen.toList = E.map (·.born) ∧ (E.map (·.born)).Nodup := by
  induction h with
  | nil => exact ⟨[], by simp, rfl, rfl, List.nodup_nil⟩
  | snoc h hn ih =>
    obtain ⟨E, h1, h2, h3, h4⟩ := ih
    obtain ⟨e, he, hb, hx, rfl⟩ := hn
    refine ⟨E ++ [e], fun a ha => ?_, ?_, ?_, ?_⟩
    · rcases List.mem_append.1 ha with ha | ha
      · exact h1 a ha
      · simp at ha; subst ha; exact he
    · simp only [List.cons.injEq, and_true] at hx
      rw [List.map_append, List.map_append, h2]
      simp [hx]
    · simp [h3]
    · rw [List.map_append]
      refine List.nodup_append.2 ⟨h4, by simp, fun a ha b hb' e' => ?_⟩
      simp at hb'; subst hb'; subst e'
      rw [h3] at hb
      exact hb ha
theorem nodup_key {es : Array MapEntry} {c : Nat} {l : List Int} (k : Keys es c l) : ∀ e ∈ es.toList, ∀ e' ∈ es.toList, e.key = e'.key → e.born = e'.born := by
  have hk : (es.toList.map (·.key)).Nodup := by
    rw [k.keys]
    rw [List.nodup_iff_pairwise_ne, List.pairwise_map]
    exact (List.nodup_iff_pairwise_ne.1 k.nodup).imp fun hne he => hne (by cases he; rfl)
  intro e he e' he' heq
  obtain ⟨i, hi, hie⟩ := List.getElem_of_mem he
  obtain ⟨j, hj, hje⟩ := List.getElem_of_mem he'
  have := (List.getElem_inj (xs := es.toList.map (·.key)) (i := i) (j := j) (h₀ := by simpa using hi) (h₁ := by simpa using hj) hk).1 (by simp [hie, hje, heq])
  subst this
  rw [hie] at hje; rw [hje]
theorem chain_done {es : Array MapEntry} {c : Nat} {l : List Int} (k : Keys es c l) {acc : List Int} {seen : Array Nat} (h : Chain (NextKey es) #[] acc seen) (hf : AllSeen es seen) : acc.Nodup ∧ ∀ v, v ∈ acc ↔ v ∈ l := by
  obtain ⟨E, h1, h2, h3, h4⟩ := chain_keys k h
  refine ⟨?_, fun v => ?_⟩
  · have h5 : (acc.map (Value.int .i64)).Nodup := by
      rw [h2, List.nodup_iff_pairwise_ne, List.pairwise_map]
      rw [List.nodup_iff_pairwise_ne, List.pairwise_map] at h4
      exact (List.Pairwise.and_mem.1 h4).imp fun ⟨ha, hb, hne⟩ hk => hne (nodup_key k _ (h1 _ ha) _ (h1 _ hb) hk)
    rw [List.nodup_iff_pairwise_ne, List.pairwise_map] at h5
    rw [List.nodup_iff_pairwise_ne]
    exact h5.imp fun hne e => hne (by rw [e])
  · constructor
    · intro hv
      have : Value.int .i64 v ∈ acc.map (Value.int .i64) := List.mem_map.2 ⟨v, hv, rfl⟩
      rw [h2] at this
      obtain ⟨e, he, hk⟩ := List.mem_map.1 this
      have h6 : e.key ∈ es.toList.map (·.key) := List.mem_map.2 ⟨e, h1 e he, rfl⟩
      rw [k.keys, hk] at h6
      obtain ⟨w, hw, e'⟩ := List.mem_map.1 h6
      cases e'; exact hw
    · intro hv
      have : Value.int .i64 v ∈ l.map (Value.int .i64) := List.mem_map.2 ⟨v, hv, rfl⟩
      rw [← k.keys] at this
      obtain ⟨e, he, hk⟩ := List.mem_map.1 this
      have h6 := hf e he
      rw [h3] at h6
      obtain ⟨e', he', hb⟩ := List.mem_map.1 h6
      have hee : e' = e := by
        obtain ⟨i, hi, hie⟩ := List.getElem_of_mem (h1 e' he')
        obtain ⟨j, hj, hje⟩ := List.getElem_of_mem he
        have := (List.getElem_inj (xs := es.toList.map (·.born)) (i := i) (j := j) (h₀ := by simpa using hi) (h₁ := by simpa using hj) k.born).1 (by simp [hie, hje, hb])
        subst this
        rw [← hie, ← hje]
      subst hee
      have : e'.key ∈ E.map (·.key) := List.mem_map.2 ⟨e', he', rfl⟩
      rw [← h2, hk] at this
      obtain ⟨w, hw, e2⟩ := List.mem_map.1 this
      cases e2; exact hw
def toCome (es : Array MapEntry) (seen : Array Nat) : Nat := (es.toList.filter fun e => !seen.toList.contains e.born).length
theorem filter_less {α : Type} {p q : α → Bool} : ∀ {l : List α}, (∀ x ∈ l, q x = true → p x = true) → (∃ x ∈ l, p x = true ∧ q x = false) → (l.filter q).length < (l.filter p).length
  | [], _, ⟨x, hx, _⟩ => by simp at hx
  | a :: l, h1, ⟨x, hx, h2, h3⟩ => by
    have hle : ∀ (l : List α), (∀ x ∈ l, q x = true → p x = true) → (l.filter q).length ≤ (l.filter p).length := by
      intro l
      induction l with
      | nil => intro _; simp
      | cons b l ih =>
        intro h
        have := ih fun x hx => h x (by simp [hx])
        rw [List.filter_cons, List.filter_cons]
        cases hb : q b with
        | true => rw [h b (by simp) hb]; simpa using this
        | false => cases p b <;> simp <;> omega
    rw [List.filter_cons, List.filter_cons]
    rcases List.mem_cons.1 hx with rfl | hx
    · rw [h2, h3]
      have := hle l fun x hx => h1 x (by simp [hx])
      simp; omega
    · have := filter_less (l := l) (fun y hy => h1 y (by simp [hy])) ⟨x, hx, h2, h3⟩
      cases hb : q a with
      | true => rw [h1 a (by simp) hb]; simpa using this
      | false => cases p a <;> simp <;> omega
theorem toCome_less {es : Array MapEntry} {seen : Array Nat} {xs : List Value} {seen' : Array Nat} (h : NextKey es seen xs seen') : toCome es seen' < toCome es seen := by
  obtain ⟨e, he, hb, _, rfl⟩ := h
  refine filter_less (fun x _ hx => ?_) ⟨e, he, ?_, ?_⟩
  · simp at hx ⊢; exact hx.1
  · simpa using hb
  · simp
end Go.TM
namespace Go.Proofs.YtbmfimaomcnkfaaDoor
open Go Go.TM Go.Proofs Go.TM.Tr
attribute [local irreducible] T.wp CV FWK
theorem c2081 {h : LH} (m : Nat) : Gr Tryd.prog 81 #[.map (some m)] h fun r h' => ∃ z0, r = .func (.func 93) #[] #[.pointer (some z0)] ∧ h'.get.cell? z0 = some (.map (some m)) := by
  refine w2081 _ X0_ok ?_
  unfold n2081
  refine t_new fun r hr => ?_
  exact t_ret ⟨LH.upd_le hr, _, rfl, cell_upd rfl⟩
theorem hands2093 {X : XP} (hX : XOK X) {h₀ : LH} {z0 : Addr} {m c : Nat} {es : Array MapEntry} {b : Bool} {l : List Int} (hz : h₀.get.cell? z0 = some (.map (some m))) (hm : h₀.get m = some (b, .map es c)) (k : Keys es c l) :
    HandsG X Tryd.prog (.func (.func 93) #[] #[.pointer (some z0)]) h₀ (NextKey es) (AllSeen es) #[] := by
  intro y J E hJ hE hcall h hle hJ0
  refine cv_fw hX (by rfl) (?_ : FW X Tryd.prog 93 #[y, .pointer (some z0)] h _)
  refine w2093 _ _ hX ?_
  unfold n2093
  have hz1 := Cells.cell?_le hle.1 hz
  refine gL4 hz1 ?_
  refine t_range undMap (hle.1 _ _ hm) fun r hr => ?_
  (repeat (first | (with_reducible first | apply gA | apply gB | apply gC | apply gD | apply gE | apply gF | apply gG | apply gH | apply gI | apply gJ | apply gK | apply gL | apply gM | apply gN | apply gO | apply gP | apply gQ | apply gR | apply gP2 | apply gP3) | ((with_reducible first | apply gT | apply gS2); first | exact rfl | assumption | omega | exact ⟨⟩) | ((with_reducible first | apply gL0 | apply gL1 | apply gL2 | apply gL3 | apply gL4); assumption)))
  have hst : ({ h with get := h.get.upd r (true, .mapIter (some m) c #[] c) } : LH) = { h with get := h.get.add (oneC r (.mapIter (some m) c #[] c)) } := by
    have : h.get.upd r (true, .mapIter (some m) c #[] c) = h.get.add (oneC r (.mapIter (some m) c #[] c)) := by
      funext a
      unfold Cells.upd Cells.add oneC
      by_cases e : a = r
      · subst e; simp [hr]
      · simp [e]; cases h.get a <;> rfl
    rw [this]
  rw [hst]
  refine t_loop (fun mm vs h' => ∃ (seen : Array Nat) (hb : LH), vs = [] ∧ mm = toCome es seen ∧ h' = { hb with get := hb.get.add (oneC r (.mapIter (some m) c seen c)) } ∧ Disj hb.get (oneC r (.mapIter (some m) c seen c)) ∧ h₀.le hb ∧ J seen hb)
    ⟨#[], h, rfl, rfl, rfl, disj_oneC hr, hle, hJ0⟩ ?_
  rintro Y mm vs _ hY ⟨seen, hb, rfl, rfl, rfl, dj, leb, hJs⟩
  have hbr := oneC_none dj
  (repeat (first | (with_reducible first | apply gA | apply gB | apply gC | apply gD | apply gE | apply gF | apply gG | apply gH | apply gI | apply gJ | apply gK | apply gL | apply gM | apply gN | apply gO | apply gP | apply gQ | apply gR | apply gP2 | apply gP3) | ((with_reducible first | apply gT | apply gS2); first | exact rfl | assumption | omega | exact ⟨⟩) | ((with_reducible first | apply gL0 | apply gL1 | apply gL2 | apply gL3 | apply gL4); assumption)))
  refine t_next (m := m) (r := r) (c := c) (es := es) (seen := seen) (b := b) (add_oneC_get hbr) (Cells.add_left (leb.1 _ _ hm)) k.lt (fun hall => ?_) fun e he hnb => ?_
  · (repeat (first | (with_reducible first | apply gA | apply gB | apply gC | apply gD | apply gE | apply gF | apply gG | apply gH | apply gI | apply gJ | apply gK | apply gL | apply gM | apply gN | apply gO | apply gP | apply gQ | apply gR | apply gP2 | apply gP3) | ((with_reducible first | apply gT | apply gS2); first | exact rfl | assumption | omega | exact ⟨⟩) | ((with_reducible first | apply gL0 | apply gL1 | apply gL2 | apply gL3 | apply gL4); assumption)))
    refine t_cond (fun e => by cases e) (fun _ => ?_)
    (repeat (first | (with_reducible first | apply gA | apply gB | apply gC | apply gD | apply gE | apply gF | apply gG | apply gH | apply gI | apply gJ | apply gK | apply gL | apply gM | apply gN | apply gO | apply gP | apply gQ | apply gR | apply gP2 | apply gP3) | ((with_reducible first | apply gT | apply gS2); first | exact rfl | assumption | omega | exact ⟨⟩) | ((with_reducible first | apply gL0 | apply gL1 | apply gL2 | apply gL3 | apply gL4); assumption)))
    refine t_ret ⟨⟨fun a x ha => Cells.add_left (leb.1 a x ha), leb.2⟩, .inl ⟨seen, hall, ?_⟩⟩
    exact hJ seen hb _ hJs dj
  · rw [add_oneC_upd hbr]
    have dj2 : Disj hb.get (oneC r (.mapIter (some m) c (seen.push e.born) c)) := disj_oneC hbr
    (repeat (first | (with_reducible first | apply gA | apply gB | apply gC | apply gD | apply gE | apply gF | apply gG | apply gH | apply gI | apply gJ | apply gK | apply gL | apply gM | apply gN | apply gO | apply gP | apply gQ | apply gR | apply gP2 | apply gP3) | ((with_reducible first | apply gT | apply gS2); first | exact rfl | assumption | omega | exact ⟨⟩) | ((with_reducible first | apply gL0 | apply gL1 | apply gL2 | apply gL3 | apply gL4); assumption)))
    refine t_cond (fun _ => ?_) (fun e => by cases e)
    (repeat (first | (with_reducible first | apply gA | apply gB | apply gC | apply gD | apply gE | apply gF | apply gG | apply gH | apply gI | apply gJ | apply gK | apply gL | apply gM | apply gN | apply gO | apply gP | apply gQ | apply gR | apply gP2 | apply gP3) | ((with_reducible first | apply gT | apply gS2); first | exact rfl | assumption | omega | exact ⟨⟩) | ((with_reducible first | apply gL0 | apply gL1 | apply gL2 | apply gL3 | apply gL4); assumption)))
    refine t_entry (m := m) (r := r) (c := c) (es := es) (seen := seen) (e := e) (b := b) (add_oneC_get hbr) (Cells.add_left (leb.1 _ _ hm)) he k.born ?_
    (repeat (first | (with_reducible first | apply gA | apply gB | apply gC | apply gD | apply gE | apply gF | apply gG | apply gH | apply gI | apply gJ | apply gK | apply gL | apply gM | apply gN | apply gO | apply gP | apply gQ | apply gR | apply gP2 | apply gP3) | ((with_reducible first | apply gT | apply gS2); first | exact rfl | assumption | omega | exact ⟨⟩) | ((with_reducible first | apply gL0 | apply gL1 | apply gL2 | apply gL3 | apply gL4); assumption)))
    have hnk : NextKey es seen [e.key] (seen.push e.born) := ⟨e, he, hnb, rfl, rfl⟩
    have hcv := CV.frame hX (hcall seen hb [e.key] (seen.push e.born) leb hnk hJs) dj2
    refine t_callv hcv ?_
    rintro bv _ ⟨h3, d3, rfl, le3, ⟨rfl, hJ3⟩ | ⟨rfl, hE3⟩⟩
    · (repeat (first | (with_reducible first | apply gA | apply gB | apply gC | apply gD | apply gE | apply gF | apply gG | apply gH | apply gI | apply gJ | apply gK | apply gL | apply gM | apply gN | apply gO | apply gP | apply gQ | apply gR | apply gP2 | apply gP3) | ((with_reducible first | apply gT | apply gS2); first | exact rfl | assumption | omega | exact ⟨⟩) | ((with_reducible first | apply gL0 | apply gL1 | apply gL2 | apply gL3 | apply gL4); assumption)))
      refine t_cond (fun e => by cases e) (fun _ => ?_)
      exact t_again (hY _ _ _ (toCome_less hnk) ⟨_, h3, rfl, rfl, rfl, d3, le3, hJ3⟩)
    · (repeat (first | (with_reducible first | apply gA | apply gB | apply gC | apply gD | apply gE | apply gF | apply gG | apply gH | apply gI | apply gJ | apply gK | apply gL | apply gM | apply gN | apply gO | apply gP | apply gQ | apply gR | apply gP2 | apply gP3) | ((with_reducible first | apply gT | apply gS2); first | exact rfl | assumption | omega | exact ⟨⟩) | ((with_reducible first | apply gL0 | apply gL1 | apply gL2 | apply gL3 | apply gL4); assumption)))
      refine t_cond (fun _ => ?_) (fun e => by cases e)
      (repeat (first | (with_reducible first | apply gA | apply gB | apply gC | apply gD | apply gE | apply gF | apply gG | apply gH | apply gI | apply gJ | apply gK | apply gL | apply gM | apply gN | apply gO | apply gP | apply gQ | apply gR | apply gP2 | apply gP3) | ((with_reducible first | apply gT | apply gS2); first | exact rfl | assumption | omega | exact ⟨⟩) | ((with_reducible first | apply gL0 | apply gL1 | apply gL2 | apply gL3 | apply gL4); assumption)))
      exact t_ret ⟨⟨fun a x ha => Cells.add_left (le3.1 a x ha), le3.2⟩, .inr (hE h3 _ hE3 d3)⟩
theorem c2100 {h : LH} {S : Type} {nx : S → List Value → S → Prop} {fin : S → Prop} {s₀ : S} {seq : Value} (μ : S → Nat) (hμ : ∀ s xs s', nx s xs s' → μ s' < μ s) (hint : ∀ s xs s', nx s xs s' → ∃ v, xs = [.int .i64 v]) (hm : μ s₀ ≤ 1000) (hH : HandsG X0 Tryd.prog seq h nx fin s₀) :
    Gr Tryd.prog 100 #[.slice none 0 0, seq] h fun r h' => ∃ p n c s acc, fin s ∧ Chain nx s₀ acc s ∧ r = .slice p n c ∧ acc.length ≤ μ s₀ ∧ Growing IntEnc 3 1 h.get h'.get p n c acc := by
  refine w2100 _ _ _ _ X0_ok ?_
  unfold n2100
  refine t_eachG μ hμ (LH.le_refl h) hH (fun s vs h' => ∃ p n c acc, vs = [.slice p n c] ∧ Chain nx s₀ acc s ∧ acc.length + μ s ≤ μ s₀ ∧ Growing IntEnc 3 1 h.get h'.get p n c acc)
    ⟨none, 0, 0, [], rfl, .nil, by simp, Growing.nil⟩ ?_ ?_
  · rintro s vs h' hf hle ⟨p, n, c, acc, rfl, hch, hlen, g⟩
    (repeat (first | (with_reducible first | apply gA | apply gB | apply gC | apply gD | apply gE | apply gF | apply gG | apply gH | apply gI | apply gJ | apply gK | apply gL | apply gM | apply gN | apply gO | apply gP | apply gQ | apply gR | apply gP2 | apply gP3) | ((with_reducible first | apply gT | apply gS2); first | exact rfl | assumption | omega | exact ⟨⟩) | ((with_reducible first | apply gL0 | apply gL1 | apply gL2 | apply gL3 | apply gL4); assumption)))
    exact t_ret ⟨hle, p, n, c, s, acc, hf, hch, rfl, by omega, g⟩
  · rintro s xs s' vs h' hn hle ⟨p, n, c, acc, rfl, hch, hlen, g⟩ Y hY
    obtain ⟨v, rfl⟩ := hint s xs s' hn
    have hlt := hμ _ _ _ hn
    have hnn := g.count IntEnc.len (by omega)
    (repeat (first | (with_reducible first | apply gA | apply gB | apply gC | apply gD | apply gE | apply gF | apply gG | apply gH | apply gI | apply gJ | apply gK | apply gL | apply gM | apply gN | apply gO | apply gP | apply gQ | apply gR | apply gP2 | apply gP3) | ((with_reducible first | apply gT | apply gS2); first | exact rfl | assumption | omega | exact ⟨⟩) | ((with_reducible first | apply gL0 | apply gL1 | apply gL2 | apply gL3 | apply gL4); assumption)))
    refine t_push v [.int .i64 v] rfl rfl und50 inf3 rfl (by omega) (by decide) (by kernel_rfl) rfl (by simp; rfl) (by omega) g hle rfl ?_
    intro p' c' h3 le3 _ g3
    (repeat (first | (with_reducible first | apply gA | apply gB | apply gC | apply gD | apply gE | apply gF | apply gG | apply gH | apply gI | apply gJ | apply gK | apply gL | apply gM | apply gN | apply gO | apply gP | apply gQ | apply gR | apply gP2 | apply gP3) | ((with_reducible first | apply gT | apply gS2); first | exact rfl | assumption | omega | exact ⟨⟩) | ((with_reducible first | apply gL0 | apply gL1 | apply gL2 | apply gL3 | apply gL4); assumption)))
    exact t_againE le3 (hY _ _ le3 ⟨p', n + 1, c', acc ++ [v], rfl, hch.snoc hn, by simp; omega, g3⟩)
theorem c2091 {h : LH} {S : Type} {nx : S → List Value → S → Prop} {fin : S → Prop} {s₀ : S} {seq : Value} (μ : S → Nat) (hμ : ∀ s xs s', nx s xs s' → μ s' < μ s) (hint : ∀ s xs s', nx s xs s' → ∃ v, xs = [.int .i64 v]) (hm : μ s₀ ≤ 1000) (hH : HandsG X0 Tryd.prog seq h nx fin s₀) :
    Gr Tryd.prog 91 #[seq] h fun r h' => ∃ p n c s acc, fin s ∧ Chain nx s₀ acc s ∧ r = .slice p n c ∧ acc.length ≤ μ s₀ ∧ Growing IntEnc 3 1 h.get h'.get p n c acc := by
  refine w2091 _ X0_ok ?_
  unfold n2091
  refine t_gr (c2100 μ hμ hint hm hH) ?_
  rintro _ h1 le1 ⟨p, n, c, s, acc, h2, h3, rfl, h4, h5⟩
  (repeat (first | (with_reducible first | apply gA | apply gB | apply gC | apply gD | apply gE | apply gF | apply gG | apply gH | apply gI | apply gJ | apply gK | apply gL | apply gM | apply gN | apply gO | apply gP | apply gQ | apply gR | apply gP2 | apply gP3) | ((with_reducible first | apply gT | apply gS2); first | exact rfl | assumption | omega | exact ⟨⟩) | ((with_reducible first | apply gL0 | apply gL1 | apply gL2 | apply gL3 | apply gL4); assumption)))
  exact t_ret ⟨le1, p, n, c, s, acc, h2, h3, rfl, h4, h5⟩
theorem rows_reads {vs : List Value} {l : List Int} (r : Go.TM.Rows IntEnc vs l) : vs = l.map (Value.int .i64) := by
  induction r with
  | nil => rfl
  | snoc r he ih => rw [he, ih]; simp
theorem grown {h₀ h : Cells} {p : Option Addr} {n c : Nat} {l : List Int} (g : Growing IntEnc 3 1 h₀ h p n c l) (hne : l ≠ []) : ∃ r cs, p = some ⟨r, 0, none⟩ ∧ h = h.upd r (true, .cells cs 3 (0, 0)) ∧ h₀ r = none ∧ n = l.length ∧ n ≤ c ∧ cs.size = c * 1 ∧ Reads cs l ∧
    ∀ cs' l', cs'.size = cs.size → Reads cs' l' → l'.length = l.length → Growing IntEnc 3 1 h₀ (h.upd r (true, .cells cs' 3 (0, 0))) p n c l' := by
  have hn := g.count IntEnc.len (by omega)
  obtain ⟨vs, ⟨h1, h2⟩, h3⟩ := g.row
  have hvs := rows_reads h3
  rcases h2 with ⟨_, h2, _⟩ | ⟨r, cs, rfl, hr, hcs, hnc, hv⟩
  · exfalso; apply hne; exact List.eq_nil_of_length_eq_zero (by omega)
  · refine ⟨r, cs, rfl, ?_, g.new _ rfl, hn, hnc, hcs, ?_, ?_⟩
    · funext a
      unfold Cells.upd
      by_cases e : a = r
      · subst e; simp [hr]
      · simp [e]
    · intro i y hy
      refine hv i _ ?_
      rw [hvs, List.getElem?_map, hy]; rfl
    · intro cs' l' hsz hrd hlen
      have rows : ∀ l : List Int, Go.TM.Rows IntEnc (l.map (Value.int .i64)) l := by
        intro l
        have : ∀ (k : Nat) (l : List Int), l.length = k → Go.TM.Rows IntEnc (l.map (Value.int .i64)) l := by
          intro k
          induction k with
          | zero => intro l hl; rw [List.eq_nil_of_length_eq_zero hl]; exact .nil
          | succ k ih =>
            intro l hl
            obtain ⟨a, b, rfl⟩ : ∃ a b, l = a ++ [b] := ⟨l.dropLast, l.getLast (by intro e; subst e; simp at hl), (List.dropLast_concat_getLast _).symm⟩
            rw [List.map_append]
            exact Go.TM.Rows.snoc (ih a (by simp at hl; exact hl)) rfl
        exact this _ l rfl
      refine ⟨⟨l'.map (Value.int .i64), ⟨by rw [List.length_map]; omega, .inr ⟨r, cs', rfl, Cells.upd_self _ _ _, by rw [hsz]; exact hcs, hnc, fun j v hj => ?_⟩⟩, rows l'⟩, g.new⟩
      rw [List.getElem?_map] at hj
      cases hy : l'[j]? with
      | none => rw [hy] at hj; cases hj
      | some y => rw [hy] at hj; cases hj; exact hrd j y hy
theorem c2059 {h : LH} {m c : Nat} {es : Array MapEntry} {b : Bool} {l : List Int} (hm : h.get m = some (b, .map es c)) (k : Keys es c l) (hne : l ≠ []) (hl : l.length ≤ 12) :
    Gr Tryd.prog 59 #[.map (some m)] h fun r h' => ∃ p n c acc, r = .slice p n c ∧ Sl IntE 1 h'.get p n acc ∧ n ≤ c ∧ acc.Pairwise (· < ·) ∧ ∀ v, v ∈ acc ↔ v ∈ l := by
  refine w2059 _ X0_ok ?_
  unfold n2059
  refine t_gr (c2081 m) ?_
  rintro _ h1 le1 ⟨z0, rfl, hz⟩
  have hlen : es.toList.length = l.length := by
    have := congrArg List.length k.keys
    simpa using this
  have hu : toCome es #[] ≤ 12 := by
    unfold toCome
    have := List.length_filter_le (fun e : MapEntry => !(#[] : Array Nat).toList.contains e.born) es.toList
    omega
  have sorted : Gr Tryd.prog 80 #[.func (.func 93) #[] #[.pointer (some z0)]] h1 fun r h' => ∃ p n c acc, r = .slice p n c ∧ Sl IntE 1 h'.get p n acc ∧ n ≤ c ∧ acc.Pairwise (· < ·) ∧ ∀ v, v ∈ acc ↔ v ∈ l := by
    refine w2080 _ X0_ok ?_
    unfold n2080
    refine t_gr (c2091 (toCome es) (fun s xs s' h => toCome_less h) ?_ (by omega) (hands2093 X0_ok hz (le1.1 _ _ hm) k)) ?_
    · rintro s xs s' ⟨e, he, _, rfl, _⟩
      have : e.key ∈ es.toList.map (·.key) := List.mem_map.2 ⟨e, he, rfl⟩
      rw [k.keys] at this
      obtain ⟨v, _, hv⟩ := List.mem_map.1 this
      exact ⟨v, by rw [hv]⟩
    · rintro _ h2 le2 ⟨p, n, c, s, acc, hf, hch, rfl, hal, g⟩
      obtain ⟨hnd, hmem⟩ := chain_done k hch hf
      have hane : acc ≠ [] := by
        rintro rfl
        apply hne
        exact List.eq_nil_iff_forall_not_mem.2 fun v hv => by simpa using (hmem v).2 hv
      obtain ⟨r, cs, rfl, hup, hr0, rfl, hnc, hcs, hrd, hback⟩ := grown g hane
      (repeat (first | (with_reducible first | apply gA | apply gB | apply gC | apply gD | apply gE | apply gF | apply gG | apply gH | apply gI | apply gJ | apply gK | apply gL | apply gM | apply gN | apply gO | apply gP | apply gQ | apply gR | apply gP2 | apply gP3) | ((with_reducible first | apply gT | apply gS2); first | exact rfl | assumption | omega | exact ⟨⟩) | ((with_reducible first | apply gL0 | apply gL1 | apply gL2 | apply gL3 | apply gL4); assumption)))
      have hst : h2 = { h2 with get := h2.get.upd r (true, .cells cs 3 (0, 0)) } := by
        obtain ⟨g2, a2, b2, d2⟩ := h2
        simp only [LH.mk.injEq, and_self, and_true]
        exact hup
      rw [hst]
      refine t_call (c2092 hrd (by omega)) ?_
      rintro _ _ ⟨rfl, cs', l', hsz, hrd', hperm, hso, rfl⟩
      (repeat (first | (with_reducible first | apply gA | apply gB | apply gC | apply gD | apply gE | apply gF | apply gG | apply gH | apply gI | apply gJ | apply gK | apply gL | apply gM | apply gN | apply gO | apply gP | apply gQ | apply gR | apply gP2 | apply gP3) | ((with_reducible first | apply gT | apply gS2); first | exact rfl | assumption | omega | exact ⟨⟩) | ((with_reducible first | apply gL0 | apply gL1 | apply gL2 | apply gL3 | apply gL4); assumption)))
      have g' := hback cs' l' hsz hrd' hperm.length_eq
      refine t_ret ⟨?_, _, _, c, l', rfl, g'.sl IntEnc.len (by omega) IntEnc.e (by rw [hperm.length_eq]; omega), hnc, ?_, fun v => by rw [hperm.mem_iff, hmem]⟩
      · refine ⟨fun a x ha => ?_, le2.2⟩
        have hne' : a ≠ r := by rintro rfl; rw [hr0] at ha; cases ha
        show Cells.upd _ _ _ a = _
        rw [Cells.upd_ne _ _ hne']
        exact le2.1 a x ha
      · have hnd' : l'.Nodup := hperm.nodup_iff.2 hnd
        rw [List.nodup_iff_pairwise_ne] at hnd'
        exact (hso.and hnd').imp fun ⟨h1, h2⟩ => by omega
  refine t_gr sorted ?_
  rintro _ h2 le2 ⟨p, n, c', acc, rfl, h3, h4, h5, h6⟩
  (repeat (first | (with_reducible first | apply gA | apply gB | apply gC | apply gD | apply gE | apply gF | apply gG | apply gH | apply gI | apply gJ | apply gK | apply gL | apply gM | apply gN | apply gO | apply gP | apply gQ | apply gR | apply gP2 | apply gP3) | ((with_reducible first | apply gT | apply gS2); first | exact rfl | assumption | omega | exact ⟨⟩) | ((with_reducible first | apply gL0 | apply gL1 | apply gL2 | apply gL3 | apply gL4); assumption)))
  exact t_ret ⟨LH.le_trans le1 le2, p, n, c', acc, rfl, h3, h4, h5, h6⟩
end Go.Proofs.YtbmfimaomcnkfaaDoor
end
section
namespace Go.TM
open Go Go.Conc
section
variable {P : Program} {X : XP} {Q : Leaf → LH → Prop}
theorem t_sliceLow {h : LH} {K : Value → T} {t el : TypeId} {s b : Nat} {z : Option Value} {p : Option Addr} {n c i : Nat} (hu : P.underlying t = some (.slice el)) (hi : (P.info? el).map (fun i => (i.size, i.bytes, i.zero)) = some (s, b, z)) (hin : i ≤ n)
    (hk : (K (.slice (if c = i then p else p.map (·.add (i * s))) (n - i) (c - i))).wp X P Q h) : (T.sem false (Instr.sliceAt t (.slice p n c) (some (.int .i64 (i : Int))) none none) K).wp X P Q h := by
  obtain ⟨inf, g1, g2, _, _⟩ := info_of hi
  refine t_sem (A := fun v h' => v = .slice (if c = i then p else p.map (·.add (i * s))) (n - i) (c - i) ∧ h' = h.get) ?_ (by rintro v h' ⟨rfl, rfl⟩; exact hk)
  unfold Instr.sliceAt
  simp only [lwp_bind, lwp_underlying hu]
  unfold Instr.slice
  simp only [lwp_bind, lwp_underlying hu]
  unfold Instr.sliceBounds Instr.sliceBound
  simp only [lwp_bind, lwp_pure, asIntOf, asInt]
  rw [if_pos (show 0 ≤ (i : Int) ∧ (i : Int) ≤ (n : Int) by omega)]
  simp only [lwp_pure, lwp_sizeOf g1, Int.toNat_natCast, g2]
  exact ⟨trivial, trivial⟩
end
theorem Sl.drop {α : Type} {E : Cells → Addr → α → Prop} {k : Nat} {h : Cells} {p : Option Addr} {n : Nat} {l : List α} (s : Sl E k h p n l) {c i : Nat} (hc : n ≤ c) : Sl E k h (if c = i then p else p.map (·.add (i * k))) (n - i) (l.drop i) := by
  refine ⟨by rw [List.length_drop, s.1], by rw [List.length_drop]; have := s.2.1; omega, fun j x hx => ?_⟩
  rw [List.getElem?_drop] at hx
  have hlt := (List.getElem?_eq_some_iff.1 hx).1
  have hn := s.1
  obtain ⟨a, ha, hE⟩ := s.2.2 _ x hx
  rw [if_neg (by omega), ha]
  refine ⟨a.add (i * k), rfl, ?_⟩
  rw [Addr.add_add', ← Nat.add_mul]; exact hE
def vis (h₀ : Cells) (p : Option Addr) (h : Cells) : Cells := fun r => if (h₀ r).isNone && decide (p.map (·.block) ≠ some r) then h r else none
theorem vis_some {h₀ h : Cells} {p : Option Addr} {r : Nat} {y : Bool × Obj} : vis h₀ p h r = some y ↔ (h₀ r = none ∧ p.map (·.block) ≠ some r) ∧ h r = some y := by
  unfold vis
  by_cases e : ((h₀ r).isNone && decide (p.map (·.block) ≠ some r)) = true
  · rw [if_pos e]
    simp only [Bool.and_eq_true, decide_eq_true_eq, Option.isNone_iff_eq_none] at e
    simp [e.1, e.2]
  · rw [if_neg e]
    simp only [Bool.and_eq_true, decide_eq_true_eq, Option.isNone_iff_eq_none] at e
    constructor
    · intro h; cases h
    · intro h; exact absurd h.1 e
theorem vis_sub {h₀ h : Cells} {p : Option Addr} : (vis h₀ p h).le h := fun _ _ hy => (vis_some.1 hy).2
theorem vis_up {h₀ h1 h2 : Cells} {p p' : Option Addr} (hk : ∀ r y, (∀ a, p = some a → a.block ≠ r) → h1 r = some y → h2 r = some y) (hp : p' = p ∨ ∃ r, p' = some ⟨r, 0, none⟩ ∧ h1 r = none) : (vis h₀ p h1).le (vis h₀ p' h2) := by
  intro r y hy
  obtain ⟨⟨h3, h4⟩, h5⟩ := vis_some.1 hy
  refine vis_some.2 ⟨⟨h3, ?_⟩, hk r y (fun a ha e => h4 (by rw [ha]; simp [e])) h5⟩
  rcases hp with rfl | ⟨r', rfl, hr'⟩
  · exact h4
  · intro e; simp at e; rw [e, h5] at hr'; cases hr'
theorem vis_le {h₀ h1 h2 : Cells} {p : Option Addr} (hle : h1.le h2) : (vis h₀ p h1).le (vis h₀ p h2) := vis_up (fun r y _ hy => hle r y hy) (.inl rfl)
theorem vis_none {h₀ h : Cells} {p : Option Addr} : (vis h₀ p h).le (vis h₀ none h) := by
  intro r y hy
  obtain ⟨⟨h3, _⟩, h5⟩ := vis_some.1 hy
  exact vis_some.2 ⟨⟨h3, by simp⟩, h5⟩
theorem cell_of {g : Cells} {r i : Nat} {m : Bool} {cs : Array Value} {el : TypeId} {f : Nat × Nat} {v : Value} (hr : g r = some (m, .cells cs el f)) (hv : cs[i]? = some v) : g.cell? ⟨r, i, none⟩ = some v := by
  unfold Cells.cell?
  simp only [hr]
  exact hv
def SlE (h : Cells) (a : Addr) (l : List Int) : Prop := ∃ q m c, h.cell? (a.add 0) = some (.slice q m c) ∧ Sl IntE 1 h q m l
theorem SlE.grow : Grow SlE := by
  rintro h h' a x hr ⟨q, m, c, h1, h2⟩
  exact ⟨q, m, c, hr _ _ h1, h2.rd IntE.grow hr⟩
def LEnc (g : Cells) (x : List Int) (ws : List Value) : Prop := ∃ q m c, ws = [.slice q m c] ∧ Sl IntE 1 g q m x
theorem LEnc.len {g : Cells} : ∀ x ws, LEnc g x ws → ws.length = 1 := by rintro x _ ⟨q, m, c, rfl, _⟩; rfl
theorem LEnc.up {g g' : Cells} (hle : g.le g') {x : List Int} {ws : List Value} (h : LEnc g x ws) : LEnc g' x ws := by
  obtain ⟨q, m, c, h1, h2⟩ := h
  exact ⟨q, m, c, h1, h2.le IntE.grow hle⟩
theorem Rows.mono {α : Type} {Enc Enc' : α → List Value → Prop} (he : ∀ x ws, Enc x ws → Enc' x ws) {vs : List Value} {l : List α} (r : Rows Enc vs l) : Rows Enc' vs l := by
  induction r with
  | nil => exact .nil
  | snoc r h ih => exact ih.snoc (he _ _ h)
theorem Growing.mono {α : Type} {Enc Enc' : α → List Value → Prop} (he : ∀ x ws, Enc x ws → Enc' x ws) {el : TypeId} {k : Nat} {h₀ h : Cells} {p : Option Addr} {n c : Nat} {l : List α} (g : Growing Enc el k h₀ h p n c l) : Growing Enc' el k h₀ h p n c l := by
  obtain ⟨vs, h1, h2⟩ := g.row
  exact ⟨⟨vs, h1, h2.mono he⟩, g.new⟩
theorem Growing.base {α : Type} {Enc : α → List Value → Prop} {el : TypeId} {k : Nat} {h₀ h₁ h : Cells} {p : Option Addr} {n c : Nat} {l : List α} (g : Growing Enc el k h₀ h p n c l) (hb : ∀ r, h₀ r = none → h₁ r = none) : Growing Enc el k h₁ h p n c l := ⟨g.row, fun a ha => hb _ (g.new a ha)⟩
theorem IntE.told {h : Cells} : ToldE IntE IntEnc 1 h := by
  rintro a x h1
  refine ⟨_, rfl, rfl, fun j w hj => ?_, fun w hw => by simp at hw; subst hw; rfl⟩
  match j, hj with
  | 0, hj => cases hj; exact h1
  | j + 1, hj => simp at hj
theorem OwnRow.vis {el : TypeId} {k : Nat} {h₀ h h3 : Cells} {p q : Option Addr} {n c : Nat} {vs : List Value} (o : OwnRow el k h q n c vs) (hn : NewIn h3 q) (h03 : h₀.le h3) (hp : ∀ a, p = some a → ∃ y, h3 a.block = some y) : OwnRow el k (Go.TM.vis h₀ p h) q n c vs := by
  obtain ⟨h1, h2 | ⟨r, cs, e1, e2, e3, e4, e5⟩⟩ := o
  · exact ⟨h1, .inl h2⟩
  · subst e1
    have h3r := hn _ rfl
    refine ⟨h1, .inr ⟨r, cs, rfl, vis_some.2 ⟨⟨?_, ?_⟩, e2⟩, e3, e4, e5⟩⟩
    · cases hx : h₀ r with
      | none => rfl
      | some x => rw [h03 _ _ hx] at h3r; cases h3r
    · intro e
      cases hpp : p with
      | none => rw [hpp] at e; cases e
      | some a =>
        rw [hpp] at e
        simp at e
        obtain ⟨y, hy⟩ := hp a hpp
        rw [e] at hy
        rw [hy] at h3r; cases h3r
section
variable {P : Program} {X : XP} {Q : Leaf → LH → Prop}
theorem t_growP {α : Type} {Enc : α → List Value → Prop} {h h₀ : LH} {k : Value → T} {ts : Array TypeId} {ty sT xT el xe : TypeId} {s by_ : Nat} {z : Value} {p : Option Addr} {n c mc : Nat} {b : Addr} {l : List α} {x : α} {ws : List Value} (h0 : ts[0]? = some sT) (h1 : ts[1]? = some xT) (hu : P.underlying sT = some (.slice el)) (hx : P.underlying xT = some (.slice xe))
    (hi : (P.info? el).map (fun i => (i.size, i.bytes, i.zero)) = some (s, by_, some z)) (hsz : z.cells.size = s) (hb : by_ ≤ 1024) (hn : n + 1 ≤ 2 ^ 30) (g : Growing Enc el s h₀.get h.get p n c l) (hle : h₀.le h) (he : Enc x ws) (hl : ws.length = s) (hc : ∀ (j : Nat) v, ws[j]? = some v → h.get.cell? (b.add j) = some v) (one : ∀ v ∈ ws, isOne v = true)
    (hk : ∀ p' c' h', h₀.le h' → (∀ r y, (∀ a, p = some a → a.block ≠ r) → h.get r = some y → h'.get r = some y) → (p' = p ∨ ∃ r, p' = some ⟨r, 0, none⟩ ∧ h.get r = none) → Growing Enc el s h₀.get h'.get p' (n + 1) c' (l ++ [x]) → (k (.slice p' (n + 1) c')).wp X P Q h') : (T.sem false (Builtin.append_ ts ty #[.slice p n c, .slice (some b) 1 mc]) k).wp X P Q h := by
  obtain ⟨vs, o, r⟩ := g.row
  refine t_append h0 h1 hu hx hi hsz hb hn o (by rw [hl, Nat.one_mul]) hc one (by omega) fun p' c' h' a b c => ?_
  obtain ⟨l1, l2⟩ := after_append hle.1 g.new b c
  exact hk p' c' _ ⟨l1, hle.2⟩ (fun r y hr hy => b r y hy hr) c ⟨⟨vs ++ ws, a, .snoc r he⟩, l2⟩
end
end Go.TM
end
section
namespace Go.Proofs.YtbmfimaomcnkfaaDoor
open Go Go.TM Go.Proofs
attribute [local irreducible] T.wp CV FWK
theorem t_sliceHigh {P : Program} {X : XP} {Q : Leaf → LH → Prop} {h : LH} {K : Value → T} {t el : TypeId} {s b : Nat} {z : Option Value} {p : Option Addr} {n c i : Nat} (hu : P.underlying t = some (.slice el)) (hi : (P.info? el).map (fun i => (i.size, i.bytes, i.zero)) = some (s, b, z)) (hin : i ≤ c)
    (hk : (K (.slice p i c)).wp X P Q h) : (T.sem false (Instr.sliceAt t (.slice p n c) none (some (.int .i64 (i : Int))) none) K).wp X P Q h := by
  obtain ⟨inf, g1, g2, _, _⟩ := info_of hi
  refine t_sem (A := fun v h' => v = .slice p i c ∧ h' = h.get) ?_ (by rintro v h' ⟨rfl, rfl⟩; exact hk)
  unfold Instr.sliceAt
  simp only [lwp_bind, lwp_underlying hu]
  unfold Instr.slice
  simp only [lwp_bind, lwp_underlying hu]
  unfold Instr.sliceBounds Instr.sliceBound
  simp only [lwp_bind, lwp_pure, asIntOf]
  rw [if_pos (show 0 ≤ (i : Int) ∧ (i : Int) ≤ (c : Int) by omega)]
  simp only [lwp_pure, lwp_sizeOf g1, Int.toNat_natCast, g2, Nat.zero_mul, Nat.sub_zero]
  have e : (p.map fun x : Addr => x.add 0) = p := by cases p <;> simp [Addr.add]
  rw [e]
  simp
end Go.Proofs.YtbmfimaomcnkfaaDoor
end
section
namespace Go.TM
open Go Go.Conc
theorem nodup_len : ∀ {l m : List Int}, l.Nodup → (∀ v ∈ l, v ∈ m) → l.length ≤ m.length
  | [], m, _, _ => Nat.zero_le _
  | a :: l, m, hn, hs => by
    have ha := hs a (by simp)
    have hn' := List.nodup_cons.1 hn
    have := nodup_len (l := l) (m := m.erase a) hn'.2 fun v hv => by
      rw [List.mem_erase_of_ne]
      · exact hs v (by simp [hv])
      · rintro rfl; exact hn'.1 hv
    have h2 := List.length_erase_of_mem ha
    have h3 := List.length_pos_of_mem ha
    simp only [List.length_cons]
    omega
def SpE (h : Cells) (a : Addr) (s : Tr.Sp) : Prop := h.cell? (a.add 0) = some (.int .i64 s.first) ∧ h.cell? (a.add 1) = some (.int .i64 s.last)
def SpEnc (s : Tr.Sp) (ws : List Value) : Prop := ws = [.int .i64 s.first, .int .i64 s.last]
theorem SpE.grow : Grow SpE := fun _ _ _ _ hl h => ⟨hl _ _ h.1, hl _ _ h.2⟩
theorem SpEnc.len : ∀ d ws, SpEnc d ws → ws.length = 2 := by rintro d _ rfl; rfl
theorem SpEnc.e {h' : Cells} : ∀ a d ws, SpEnc d ws → (∀ (j : Nat) w, ws[j]? = some w → h'.cell? (a.add j) = some w) → SpE h' a d := by
  rintro a d _ rfl hc; exact ⟨hc 0 _ rfl, hc 1 _ rfl⟩
theorem Rows.last {α : Type} {Enc : α → List Value → Prop} {vs : List Value} {l : List α} {x : α} (r : Rows Enc vs (l ++ [x])) : ∃ us ws, vs = us ++ ws ∧ Rows Enc us l ∧ Enc x ws := by
  generalize he : l ++ [x] = m at r
  cases r with
  | nil => simp at he
  | snoc r hx =>
    rename_i us l' y ws
    have := List.append_inj' he rfl
    obtain ⟨rfl, h2⟩ := this
    simp at h2; subst h2
    exact ⟨us, ws, rfl, r, hx⟩
theorem Growing.lastSp {el : TypeId} {h₀ h : Cells} {p : Option Addr} {n c : Nat} {out : List Tr.Sp} {s : Tr.Sp} (g : Growing SpEnc el 2 h₀ h p n c (out ++ [s])) :
    ∃ r cs, p = some ⟨r, 0, none⟩ ∧ h r = some (true, .cells cs el (0, 0)) ∧ h₀ r = none ∧ n = out.length + 1 ∧ 2 * out.length + 1 < cs.size ∧ cs[2 * out.length + 1]? = some (.int .i64 s.last) ∧
      ∀ v : Int, Growing SpEnc el 2 h₀ (h.upd r (true, .cells (cs.setIfInBounds (2 * out.length + 1) (.int .i64 v)) el (0, 0))) p n c (out ++ [⟨s.first, v⟩]) := by
  have hn := g.count SpEnc.len (by omega)
  obtain ⟨vs, ⟨h1, h2⟩, h3⟩ := g.row
  obtain ⟨us, ws, rfl, h4, rfl⟩ := h3.last
  have hus := h4.len SpEnc.len
  rcases h2 with ⟨_, h2, _⟩ | ⟨r, cs, rfl, hr, hcs, hnc, hv⟩
  · simp at hn; omega
  · have hn' : n = out.length + 1 := by simpa using hn
    have hc1 : cs[2 * out.length + 1]? = some (.int .i64 s.last) := by
      refine hv _ _ ?_
      rw [List.getElem?_append_right (by omega)]
      rw [show 2 * out.length + 1 - us.length = 1 by omega]; rfl
    refine ⟨r, cs, rfl, hr, g.new _ rfl, hn', (Array.getElem?_eq_some_iff.1 hc1).1, hc1, fun v => ?_⟩
    refine ⟨⟨us ++ [.int .i64 s.first, .int .i64 v], ⟨by rw [List.length_append, hus, hn']; simp; omega, .inr ⟨r, _, rfl, Cells.upd_self _ _ _, by simp; exact hcs, hnc, fun j w hj => ?_⟩⟩, Rows.snoc (x := (⟨s.first, v⟩ : Tr.Sp)) (ws := [.int .i64 s.first, .int .i64 v]) h4 rfl⟩, g.new⟩
    by_cases e : j = 2 * out.length + 1
    · subst e
      rw [Array.getElem?_setIfInBounds_self_of_lt (Array.getElem?_eq_some_iff.1 hc1).1]
      rw [List.getElem?_append_right (by omega), show 2 * out.length + 1 - us.length = 1 by omega] at hj
      exact hj
    · rw [Array.getElem?_setIfInBounds_ne (Ne.symm e)]
      refine hv j w ?_
      by_cases e2 : j < us.length
      · rw [List.getElem?_append_left e2] at hj ⊢; exact hj
      · rw [List.getElem?_append_right (by omega)] at hj ⊢
        match hq : j - us.length, hj with
        | 0, hj => exact hj
        | 1, hj => omega
        | q + 2, hj => simp at hj
end Go.TM
namespace Go.Proofs.YtbmfimaomcnkfaaDoor
open Go Go.TM Go.Proofs Go.TM.Tr
attribute [local irreducible] T.wp CV FWK
def SpansR (h : Cells) (x : TF) (k i : Int) (r : Value) : Prop :=
  (askedItemT x k i ≠ 0 ∧ r = .tuple #[.slice none 0 0, .int .i64 (askedItemT x k i)]) ∨
  (askedItemT x k i = 0 ∧ ∃ p n c l, r = .tuple #[.slice p n c, .int .i64 0] ∧ IsDays x l ∧ Sl SpE 2 h p n (spansT x k i l) ∧ n ≤ c)
theorem join_none {d e : Int} : join [] d e = [⟨d, e - 1⟩] := rfl
theorem join_last {out : List Sp} {s : Sp} {d e : Int} : join (out ++ [s]) d e = if s.last = d - 1 then out ++ [⟨s.first, e - 1⟩] else (out ++ [s]) ++ [⟨d, e - 1⟩] := by
  unfold join
  simp
set_option maxRecDepth 10000 in
theorem c2023 {h : LH} (hk : Kinds h.get) {f : TC} {x : TF} (hx : TreatyR h.get f x) (k i : Int) : Gr Tryd.prog 23 #[treatyV f x, .int .i64 k, .int .i64 i] h fun r h' => SpansR h'.get x k i r := by
  refine w2023 _ _ _ _ _ _ _ _ _ _ _ X0_ok ?_
  unfold n2023
  refine t_pu (c2058 hk hx k i) ?_
  (repeat (first | (with_reducible first | apply gA | apply gB | apply gC | apply gD | apply gE | apply gF | apply gG | apply gH | apply gI | apply gJ | apply gK | apply gL | apply gM | apply gN | apply gO | apply gP | apply gQ | apply gR | apply gP2 | apply gP3) | ((with_reducible first | apply gT | apply gS2); first | exact rfl | assumption | omega | exact ⟨⟩) | ((with_reducible first | apply gL0 | apply gL1 | apply gL2 | apply gL3 | apply gL4); assumption)))
  refine t_cond (fun e => ?_) (fun e => ?_)
  · exact t_ret ⟨LH.le_refl _, .inl ⟨by simpa using e, rfl⟩⟩
  have e0 : askedItemT x k i = 0 := by simpa using e
  have hck := (asked_ok (askedItem_ok e0).1).1
  have rt := Right.of hck
  have hmany := rt.many
  have hn := hx.2.1
  refine t_makeMap fun m hm0 => ?_
  have lem : ∀ {h' : LH} {o : Obj}, h.le h' → h.le { h' with get := h'.get.upd m (true, o) } := by
    intro h' o hl
    refine ⟨fun a y ha => ?_, hl.2⟩
    have : a ≠ m := by rintro rfl; rw [hm0] at ha; cases ha
    show Cells.upd _ _ _ a = _
    rw [Cells.upd_ne _ _ this]; exact hl.1 a y ha
  (repeat (first | (with_reducible first | apply gA | apply gB | apply gC | apply gD | apply gE | apply gF | apply gG | apply gH | apply gI | apply gJ | apply gK | apply gL | apply gM | apply gN | apply gO | apply gP | apply gQ | apply gR | apply gP2 | apply gP3) | ((with_reducible first | apply gT | apply gS2); first | exact rfl | assumption | omega | exact ⟨⟩) | ((with_reducible first | apply gL0 | apply gL1 | apply gL2 | apply gL3 | apply gL4); assumption)))
  refine t_putKey (l := []) undMap i64_3 ⟨#[], 0, Cells.upd_self _ _ _, Keys.nil⟩ fun es1 c1 l1 hm1 k1 hl1 => ?_
  refine t_putKey (l := l1) undMap i64_3 ⟨es1, c1, hm1, k1⟩ fun es2 c2 l2 hm2 k2 hl2 => ?_
  have le2 := lem (o := .map es2 c2) (lem (o := .map es1 c1) (lem (o := .map #[] 0) (LH.le_refl h)))
  refine t_loop (fun mm vs h' => h.le h' ∧ ∃ (j : Nat) (es : Array MapEntry) (c : Nat) (l : List Int), vs = [.int .i64 j] ∧ j ≤ f.n ∧ mm = f.n - j ∧ h'.get m = some (true, .map es c) ∧ Keys es c l ∧ ∀ v, v ∈ l ↔ v = 0 ∨ v = 10000 ∨ ∃ e ∈ x.events.take j, e.day = v)
    ⟨le2, 0, es2, c2, l2, rfl, Nat.zero_le _, rfl, hm2, k2, fun v => by rw [hl2, hl1]; simp; omega⟩ ?_
  rintro Y mm vs h3 hY ⟨le3, j, es, c, l, rfl, hj, rfl, hm3, k3, hl3⟩
  (repeat (first | (with_reducible first | apply gA | apply gB | apply gC | apply gD | apply gE | apply gF | apply gG | apply gH | apply gI | apply gJ | apply gK | apply gL | apply gM | apply gN | apply gO | apply gP | apply gQ | apply gR | apply gP2 | apply gP3) | ((with_reducible first | apply gT | apply gS2); first | exact rfl | assumption | omega | exact ⟨⟩) | ((with_reducible first | apply gL0 | apply gL1 | apply gL2 | apply gL3 | apply gL4); assumption)))
  refine t_if (fun e1 => ?_) (fun e1 => ?_)
  · obtain ⟨e, a, he, ha, g0, g1, g2, ⟨q, mq, cq, g3, g6, g5⟩, g4⟩ := (hx.2.le EventE.grow le3.1).at (i := j) (by omega)
    (repeat (first | (with_reducible first | apply gA | apply gB | apply gC | apply gD | apply gE | apply gF | apply gG | apply gH | apply gI | apply gJ | apply gK | apply gL | apply gM | apply gN | apply gO | apply gP | apply gQ | apply gR | apply gP2 | apply gP3) | ((with_reducible first | apply gT | apply gS2); first | exact rfl | assumption | omega | exact ⟨⟩) | ((with_reducible first | apply gL0 | apply gL1 | apply gL2 | apply gL3 | apply gL4); assumption)))
    refine t_putKey (l := l) undMap i64_3 ⟨es, c, hm3, k3⟩ fun es' c' l' hm' k' hl' => ?_
    refine t_again (hY (f.n - (j + 1)) _ _ (by omega) ⟨lem le3, j + 1, es', c', l', ?_, by omega, rfl, hm', k', fun v => ?_⟩)
    · rw [wrap_id (by omega) (by omega)]; rfl
    · rw [hl', hl3, List.take_add_one, he]
      simp only [List.mem_append, Option.toList, List.mem_singleton]
      constructor
      · rintro (rfl | h1 | h1 | ⟨e', h1, h2⟩)
        · exact .inr (.inr ⟨e, .inr rfl, rfl⟩)
        · exact .inl h1
        · exact .inr (.inl h1)
        · exact .inr (.inr ⟨e', .inl h1, h2⟩)
      · rintro (h1 | h1 | ⟨e', h1 | rfl, h2⟩)
        · exact .inr (.inl h1)
        · exact .inr (.inr (.inl h1))
        · exact .inr (.inr (.inr ⟨e', h1, h2⟩))
        · exact .inl h2.symm
  · (repeat (first | (with_reducible first | apply gA | apply gB | apply gC | apply gD | apply gE | apply gF | apply gG | apply gH | apply gI | apply gJ | apply gK | apply gL | apply gM | apply gN | apply gO | apply gP | apply gQ | apply gR | apply gP2 | apply gP3) | ((with_reducible first | apply gT | apply gS2); first | exact rfl | assumption | omega | exact ⟨⟩) | ((with_reducible first | apply gL0 | apply gL1 | apply gL2 | apply gL3 | apply gL4); assumption)))
    rw [List.take_of_length_le (by omega)] at hl3
    have hl12 : l.length ≤ 12 := by
      have := nodup_len (m := 0 :: 10000 :: x.events.map (·.day)) k3.nodup fun v hv => by
        rcases (hl3 v).1 hv with rfl | rfl | ⟨e, he, rfl⟩
        · simp
        · simp
        · simp only [List.mem_cons, List.mem_map]; exact .inr (.inr ⟨e, he, rfl⟩)
      simp at this; omega
    have hlne : l ≠ [] := by
      rintro rfl
      have := (hl3 0).2 (.inl rfl)
      simp at this
    refine t_gr (c2059 hm3 k3 hlne hl12) ?_
    rintro _ h4 le4 ⟨p, n, c', days, rfl, hs, hnc, hup, hmem⟩
    have isd : IsDays x days := ⟨hup, fun v => by rw [hmem, hl3]⟩
    have hdn := hs.1
    have hd2 : 2 ≤ days.length := by
      have h0 : (0 : Int) ∈ days := (isd.mem 0).2 (.inl rfl)
      have h1 : (10000 : Int) ∈ days := (isd.mem 10000).2 (.inr (.inl rfl))
      match days, h0, h1 with
      | [], h0, _ => simp at h0
      | [a], h0, h1 => simp at h0 h1; omega
      | a :: b :: l, _, _ => simp
    have hd12 : days.length ≤ 12 := by
      have := nodup_len (m := l) (hup.imp fun h => by omega) fun v hv => (hmem v).1 hv
      omega
    have hbound : ∀ v ∈ days, 0 ≤ v ∧ v ≤ 10000 := by
      intro v hv
      rcases (isd.mem v).1 hv with rfl | rfl | ⟨e, he, rfl⟩
      · omega
      · omega
      · have := rt.ok e he; omega
    have le04 := LH.le_trans le3 le4
    (repeat (first | (with_reducible first | apply gA | apply gB | apply gC | apply gD | apply gE | apply gF | apply gG | apply gH | apply gI | apply gJ | apply gK | apply gL | apply gM | apply gN | apply gO | apply gP | apply gQ | apply gR | apply gP2 | apply gP3) | ((with_reducible first | apply gT | apply gS2); first | exact rfl | assumption | omega | exact ⟨⟩) | ((with_reducible first | apply gL0 | apply gL1 | apply gL2 | apply gL3 | apply gL4); assumption)))
    have hw : IntKind.wrap .i64 ((n : Int) - 1) = ((n - 1 : Nat) : Int) := by rw [wrap_id (by omega) (by omega)]; omega
    rw [hw]
    refine t_sliceHigh und50 inf3 (by omega) ?_
    (repeat (first | (with_reducible first | apply gA | apply gB | apply gC | apply gD | apply gE | apply gF | apply gG | apply gH | apply gI | apply gJ | apply gK | apply gL | apply gM | apply gN | apply gO | apply gP | apply gQ | apply gR | apply gP2 | apply gP3) | ((with_reducible first | apply gT | apply gS2); first | exact rfl | assumption | omega | exact ⟨⟩) | ((with_reducible first | apply gL0 | apply gL1 | apply gL2 | apply gL3 | apply gL4); assumption)))
    refine t_loop (fun mm vs h' => h4.le h' ∧ ∃ (j : Nat) (q : Option Addr) (m cc : Nat) (out : List Sp), vs = [.slice q m cc, .int .i64 j] ∧ j ≤ n - 1 ∧ mm = n - 1 - j ∧ out.length ≤ j ∧ Growing SpEnc 59 2 h4.get h'.get q m cc out ∧ spansT x k i days = spansGo (fun d => decide (0 ≤ dateOn x k i d)) (days.drop j) out)
      ⟨LH.le_refl _, 0, none, 0, 0, [], rfl, Nat.zero_le _, rfl, Nat.le_refl _, Growing.nil, rfl⟩ ?_
    clear hY e1 hj
    rintro Y mm vs h5 hY ⟨le5, j, q, mq, cc, out, rfl, hj, rfl, hol, g, hc⟩
    have le05 := LH.le_trans le04 le5
    have hmq := g.count SpEnc.len (by omega)
    have next : ∀ h' q' m' c' out', h4.le h' → j + 1 ≤ n - 1 → out'.length ≤ j + 1 → Growing SpEnc 59 2 h4.get h'.get q' m' c' out' → spansT x k i days = spansGo (fun d => decide (0 ≤ dateOn x k i d)) (days.drop (j + 1)) out' → Y [.slice q' m' c', .int .i64 (IntKind.wrap .i64 ((j : Int) + 1))] h' := by
      intro h' q' m' c' out' hle' hlt hol' g' hc'
      refine hY (n - 1 - (j + 1)) _ _ (by omega) ⟨hle', j + 1, q', m', c', out', ?_, by omega, rfl, hol', g', hc'⟩
      rw [wrap_id (by omega) (by omega)]; rfl
    (repeat (first | (with_reducible first | apply gA | apply gB | apply gC | apply gD | apply gE | apply gF | apply gG | apply gH | apply gI | apply gJ | apply gK | apply gL | apply gM | apply gN | apply gO | apply gP | apply gQ | apply gR | apply gP2 | apply gP3) | ((with_reducible first | apply gT | apply gS2); first | exact rfl | assumption | omega | exact ⟨⟩) | ((with_reducible first | apply gL0 | apply gL1 | apply gL2 | apply gL3 | apply gL4); assumption)))
    refine t_if (fun e2 => ?_) (fun e2 => ?_)
    · obtain ⟨d, a, hd, ha, e3⟩ := (hs.le IntE.grow le5.1).at (i := j) (by omega)
      obtain ⟨d2, a2, hd2', ha2, e4⟩ := (hs.le IntE.grow le5.1).at (i := j + 1) (by omega)
      unfold IntE at e3 e4
      rw [ha] at ha2; cases ha2
      have hwj : IntKind.wrap .i64 ((j : Int) + 1) = ((j + 1 : Nat) : Int) := by rw [wrap_id (by omega) (by omega)]; rfl
      rw [drop_of hd, drop_of hd2', spansGo] at hc
      rw [← drop_of hd2'] at hc
      have hdb := hbound d (List.mem_of_getElem? hd)
      have hdb2 := hbound d2 (List.mem_of_getElem? hd2')
      rw [hwj] at next ⊢
      (repeat (first | (with_reducible first | apply gA | apply gB | apply gC | apply gD | apply gE | apply gF | apply gG | apply gH | apply gI | apply gJ | apply gK | apply gL | apply gM | apply gN | apply gO | apply gP | apply gQ | apply gR | apply gP2 | apply gP3) | ((with_reducible first | apply gT | apply gS2); first | exact rfl | assumption | omega | exact ⟨⟩) | ((with_reducible first | apply gL0 | apply gL1 | apply gL2 | apply gL3 | apply gL4); assumption)))
      refine t_gr (c2060 (hk.le le05.1) (hx.le le05.1) rt k i d) ?_
      rintro _ h6 le6 rfl
      have le46 := LH.le_trans le5 le6
      have g6 := g.le le6.1
      (repeat (first | (with_reducible first | apply gA | apply gB | apply gC | apply gD | apply gE | apply gF | apply gG | apply gH | apply gI | apply gJ | apply gK | apply gL | apply gM | apply gN | apply gO | apply gP | apply gQ | apply gR | apply gP2 | apply gP3) | ((with_reducible first | apply gT | apply gS2); first | exact rfl | assumption | omega | exact ⟨⟩) | ((with_reducible first | apply gL0 | apply gL1 | apply gL2 | apply gL3 | apply gL4); assumption)))
      refine t_if (fun e5 => ?_) (fun e5 => ?_)
      · rw [if_neg (by simp; omega)] at hc
        exact t_again (next h6 q mq cc out le46 (by omega) (by omega) g6 hc)
      · rw [if_pos (by simp; omega)] at hc
        have hwd : IntKind.wrap .i64 (d2 - 1) = d2 - 1 := wrap_id (by omega) (by omega)
        have hwd1 : IntKind.wrap .i64 (d - 1) = d - 1 := wrap_id (by omega) (by omega)
        rw [hwd, hwd1]
        have push : spansT x k i days = spansGo (fun d => decide (0 ≤ dateOn x k i d)) (days.drop (j + 1)) (out ++ [⟨d, d2 - 1⟩]) → ∀ {K : Value → T} {Q : Leaf → LH → Prop}, (∀ p' c' h', h4.le h' → Growing SpEnc 59 2 h4.get h'.get p' (mq + 1) c' (out ++ [⟨d, d2 - 1⟩]) → (K (.slice p' (mq + 1) c')).wp X0 Tryd.prog Q h') →
            (T.sem false (Instr.buildSlice 33 1 #[(0, .agg #[.int .i64 d, .int .i64 (d2 - 1)])]) fun v => T.unS v fun a m mc => T.sem false (Builtin.append_ #[33, 33] 33 #[.slice q mq cc, .slice a m mc]) K).wp X0 Tryd.prog Q h6 := by
          intro _ K Q hK
          refine t_push (⟨d, d2 - 1⟩ : Sp) [.int .i64 d, .int .i64 (d2 - 1)] rfl rfl und22 inf30 rfl (by omega) (by decide) (by kernel_rfl) rfl (by simp; exact ⟨rfl, rfl⟩) (by omega) g6 le46 rfl ?_
          intro p' c' h7 le7 _ g7
          exact hK p' c' h7 le7 g7
        refine t_if (fun e6 => ?_) (fun e6 => ?_)
        · obtain ⟨out', s, rfl⟩ : ∃ out' s, out = out' ++ [s] := ⟨out.dropLast, out.getLast (by rintro rfl; simp at hmq; omega), (List.dropLast_concat_getLast _).symm⟩
          obtain ⟨r, cs, rfl, hr6, hr0, hmq', hlt, hcs, hset⟩ := g6.lastSp
          have hwm : IntKind.wrap .i64 ((mq : Int) - 1) = (out'.length : Int) := by rw [wrap_id (by omega) (by omega)]; omega
          have hcell : h6.get.cell? ((Addr.add ⟨r, 0, none⟩ ((out'.length : Int).toNat * 2)).add 1) = some (.int .i64 s.last) := by
            rw [add_plain, add_plain]
            have : 0 + (out'.length : Int).toNat * 2 + 1 = 2 * out'.length + 1 := by simp; omega
            rw [this]
            simp only [Cells.cell?, hr6, Option.isSome_none, Bool.false_eq_true, if_false]
            exact hcs
          rw [join_last] at hc
          rw [hwm]
          refine gT (by omega) (gS2 rfl (gL0 hcell ?_))
          refine t_cond (fun e7 => ?_) (fun e7 => ?_)
          · rw [if_pos (by simpa using e7)] at hc
            refine gT (by omega) (gS2 rfl ?_)
            have haddr : ((Addr.add ⟨r, 0, none⟩ ((out'.length : Int).toNat * 2)).add 1).add 0 = ⟨r, 2 * out'.length + 1, none⟩ := by
              rw [add_plain, add_plain, add_plain]
              have : 0 + (out'.length : Int).toNat * 2 + 1 + 0 = 2 * out'.length + 1 := by simp; omega
              rw [this]
            rw [haddr]
            have hcell2 : h6.get.cell? ⟨r, 2 * out'.length + 1, none⟩ = some (.int .i64 s.last) := by
              simp only [Cells.cell?, hr6, Option.isSome_none, Bool.false_eq_true, if_false]
              exact hcs
            refine t_store rfl ⟨_, hr6⟩ hcell2 (by simp [Cells.frozen?, hr6]) ?_
            have hupd : h6.get.setCell ⟨r, 2 * out'.length + 1, none⟩ (.int .i64 (d2 - 1)) = h6.get.upd r (true, .cells (cs.setIfInBounds (2 * out'.length + 1) (.int .i64 (d2 - 1))) 59 (0, 0)) := by
              funext b
              unfold Cells.setCell Cells.upd
              by_cases e : b = r
              · subst e; simp [hr6]
              · simp [e]
            rw [hupd]
            refine t_again (next _ _ _ _ (out' ++ [⟨s.first, d2 - 1⟩]) ?_ (by omega) (by simp at hol ⊢; omega) (hset (d2 - 1)) hc)
            refine ⟨fun b y hb => ?_, le46.2⟩
            have hne : b ≠ r := by rintro rfl; rw [hr0] at hb; cases hb
            show Cells.upd _ _ _ b = _
            rw [Cells.upd_ne _ _ hne]; exact le46.1 b y hb
          · rw [if_neg (by simpa using e7)] at hc
            refine push hc fun p' c' h7 le7 g7 => ?_
            (repeat (first | (with_reducible first | apply gA | apply gB | apply gC | apply gD | apply gE | apply gF | apply gG | apply gH | apply gI | apply gJ | apply gK | apply gL | apply gM | apply gN | apply gO | apply gP | apply gQ | apply gR | apply gP2 | apply gP3) | ((with_reducible first | apply gT | apply gS2); first | exact rfl | assumption | omega | exact ⟨⟩) | ((with_reducible first | apply gL0 | apply gL1 | apply gL2 | apply gL3 | apply gL4); assumption)))
            exact t_again (next h7 p' _ c' _ le7 (by omega) (by simp at hol ⊢; omega) g7 hc)
        · have hout : out = [] := List.eq_nil_of_length_eq_zero (by omega)
          subst hout
          rw [join_none] at hc
          refine push hc fun p' c' h7 le7 g7 => ?_
          (repeat (first | (with_reducible first | apply gA | apply gB | apply gC | apply gD | apply gE | apply gF | apply gG | apply gH | apply gI | apply gJ | apply gK | apply gL | apply gM | apply gN | apply gO | apply gP | apply gQ | apply gR | apply gP2 | apply gP3) | ((with_reducible first | apply gT | apply gS2); first | exact rfl | assumption | omega | exact ⟨⟩) | ((with_reducible first | apply gL0 | apply gL1 | apply gL2 | apply gL3 | apply gL4); assumption)))
          exact t_again (next h7 p' _ c' _ le7 (by omega) (by simp) g7 hc)
    · (repeat (first | (with_reducible first | apply gA | apply gB | apply gC | apply gD | apply gE | apply gF | apply gG | apply gH | apply gI | apply gJ | apply gK | apply gL | apply gM | apply gN | apply gO | apply gP | apply gQ | apply gR | apply gP2 | apply gP3) | ((with_reducible first | apply gT | apply gS2); first | exact rfl | assumption | omega | exact ⟨⟩) | ((with_reducible first | apply gL0 | apply gL1 | apply gL2 | apply gL3 | apply gL4); assumption)))
      have hjn : j = n - 1 := by omega
      have hfin : spansT x k i days = out := by
        rw [hc]
        have hlen1 : (days.drop j).length = 1 := by rw [List.length_drop]; omega
        match hd : days.drop j, hlen1 with
        | [d], _ => rfl
      refine t_ret ⟨le05, .inr ⟨e0, q, mq, cc, days, rfl, isd, ?_, ?_⟩⟩
      · rw [hfin]
        exact g.sl SpEnc.len (by omega) SpEnc.e (by omega)
      · obtain ⟨vs, o, _⟩ := g.row
        exact o.le_cap
end Go.Proofs.YtbmfimaomcnkfaaDoor
end
section
namespace Go.Proofs.YtbmfimaomcnkfaaDoor
open Go Go.TM Go.Proofs Go.TM.Tr
attribute [local irreducible] T.wp CV FWK
theorem c2089 {h : LH} {e : Ev} {q : Option Addr} {m c : Nat} (hs : Sl IntE 1 h.get q m e.items) (K k i : Int) :
    Pu Tryd.prog 89 #[.agg #[.int .i64 e.kind, .int .i64 e.day, .int .i64 e.land, .slice q m c, .int .i64 e.since], .int .i64 K, .int .i64 k, .int .i64 i] h (.bool (about e K k i)) := by
  refine w2089 _ _ _ _ _ _ _ _ _ _ X0_ok ?_
  unfold n2089
  refine t_cond (fun e1 => ?_) (fun e1 => ?_)
  · refine t_cond (fun e2 => ?_) (fun e2 => ?_)
    · refine t_pu (c41 hs i) ?_
      (repeat (first | (with_reducible first | apply gA | apply gB | apply gC | apply gD | apply gE | apply gF | apply gG | apply gH | apply gI | apply gJ | apply gK | apply gL | apply gM | apply gN | apply gO | apply gP | apply gQ | apply gR | apply gP2 | apply gP3) | ((with_reducible first | apply gT | apply gS2); first | exact rfl | assumption | omega | exact ⟨⟩) | ((with_reducible first | apply gL0 | apply gL1 | apply gL2 | apply gL3 | apply gL4); assumption)))
      exact t_ret ⟨by rw [about, e1, e2]; rfl, rfl⟩
    · exact t_ret ⟨by rw [about, e2]; simp, rfl⟩
  · exact t_ret ⟨by rw [about, e1]; rfl, rfl⟩
theorem c2103 {h : LH} {f : TC} {x : TF} (hsum : IsI (x.start + x.depend)) {e : Ev} {q : Option Addr} {m c : Nat} :
    Pu Tryd.prog 103 #[treatyV f x, .agg #[.int .i64 e.kind, .int .i64 e.day, .int .i64 e.land, .slice q m c, .int .i64 e.since]] h (.bool (Tr.early x e)) := by
  refine w2103 _ _ _ _ _ _ _ _ _ _ _ _ _ _ _ _ X0_ok ?_
  unfold n2103
  rw [wrap_id hsum.1 hsum.2]
  refine t_cond (fun e1 => ?_) (fun e1 => ?_)
  · exact t_ret ⟨by rw [Tr.early, e1]; rfl, rfl⟩
  · exact t_ret ⟨by rw [Tr.early, e1]; rfl, rfl⟩
theorem c2090 {h : LH} {f : TC} {x : TF} (hx : TreatyR h.get f x) (k i fr : Int) : Pu Tryd.prog 90 #[treatyV f x, .int .i64 k, .int .i64 i, .int .i64 fr] h (.int .i64 (limits x k i fr)) := by
  refine w2090 _ _ _ _ _ _ _ _ _ _ _ _ X0_ok ?_
  unfold n2090
  have hn := hx.2.1
  have hb := hx.2.2.1
  refine t_loop (fun mm vs h' => h = h' ∧ ∃ (j : Nat) (d : Int), vs = [.int .i64 d, .int .i64 j] ∧ j ≤ f.n ∧ mm = f.n - j ∧ limits x k i fr = leastFrom d (((x.events.drop j).filter fun e => about e 3 k i && decide (fr ≤ e.day)).map (·.day)))
    ⟨rfl, 0, 10000, rfl, Nat.zero_le _, rfl, (leastFrom_cap _).symm⟩ ?_
  rintro Y mm vs _ hY ⟨rfl, j, d, rfl, hj, rfl, hc⟩
  have next : ∀ d', j + 1 ≤ f.n → limits x k i fr = leastFrom d' (((x.events.drop (j + 1)).filter fun e => about e 3 k i && decide (fr ≤ e.day)).map (·.day)) → Y [.int .i64 d', .int .i64 (IntKind.wrap .i64 ((j : Int) + 1))] h := by
    intro d' hlt hc'
    refine hY (f.n - (j + 1)) _ _ (by omega) ⟨rfl, j + 1, d', ?_, by omega, rfl, hc'⟩
    rw [wrap_id (by omega) (by omega)]; rfl
  (repeat (first | (with_reducible first | apply gA | apply gB | apply gC | apply gD | apply gE | apply gF | apply gG | apply gH | apply gI | apply gJ | apply gK | apply gL | apply gM | apply gN | apply gO | apply gP | apply gQ | apply gR | apply gP2 | apply gP3) | ((with_reducible first | apply gT | apply gS2); first | exact rfl | assumption | omega | exact ⟨⟩) | ((with_reducible first | apply gL0 | apply gL1 | apply gL2 | apply gL3 | apply gL4); assumption)))
  refine t_if (fun e1 => ?_) (fun e1 => ?_)
  · obtain ⟨y, a, hy, ha, g0, g1, g2, ⟨q, m, c, g3, _, g5⟩, g4⟩ := hx.2.at (i := j) (by omega)
    rw [drop_of hy, List.filter_cons] at hc
    (repeat (first | (with_reducible first | apply gA | apply gB | apply gC | apply gD | apply gE | apply gF | apply gG | apply gH | apply gI | apply gJ | apply gK | apply gL | apply gM | apply gN | apply gO | apply gP | apply gQ | apply gR | apply gP2 | apply gP3) | ((with_reducible first | apply gT | apply gS2); first | exact rfl | assumption | omega | exact ⟨⟩) | ((with_reducible first | apply gL0 | apply gL1 | apply gL2 | apply gL3 | apply gL4); assumption)))
    refine t_pu (c2089 g5 3 k i) ?_
    (repeat (first | (with_reducible first | apply gA | apply gB | apply gC | apply gD | apply gE | apply gF | apply gG | apply gH | apply gI | apply gJ | apply gK | apply gL | apply gM | apply gN | apply gO | apply gP | apply gQ | apply gR | apply gP2 | apply gP3) | ((with_reducible first | apply gT | apply gS2); first | exact rfl | assumption | omega | exact ⟨⟩) | ((with_reducible first | apply gL0 | apply gL1 | apply gL2 | apply gL3 | apply gL4); assumption)))
    refine t_cond (fun e2 => ?_) (fun e2 => ?_)
    · rw [e2, Bool.true_and] at hc
      refine t_cond (fun e3 => ?_) (fun e3 => ?_)
      · rw [if_pos (by simpa using e3), List.map_cons, leastFrom] at hc
        exact t_again (next _ (by omega) hc)
      · rw [if_neg (by simpa using e3)] at hc
        exact t_again (next _ (by omega) hc)
    · rw [e2, if_neg (by simp)] at hc
      exact t_again (next _ (by omega) hc)
  · (repeat (first | (with_reducible first | apply gA | apply gB | apply gC | apply gD | apply gE | apply gF | apply gG | apply gH | apply gI | apply gJ | apply gK | apply gL | apply gM | apply gN | apply gO | apply gP | apply gQ | apply gR | apply gP2 | apply gP3) | ((with_reducible first | apply gT | apply gS2); first | exact rfl | assumption | omega | exact ⟨⟩) | ((with_reducible first | apply gL0 | apply gL1 | apply gL2 | apply gL3 | apply gL4); assumption)))
    rw [List.drop_eq_nil_of_le (by omega)] at hc
    exact t_ret ⟨by rw [hc]; rfl, rfl⟩
theorem c2098 {h : LH} {f : TC} {x : TF} (hx : TreatyR h.get f x) (hsum : IsI (x.start + x.depend)) (i fr : Int) : Pu Tryd.prog 98 #[treatyV f x, .int .i64 i, .int .i64 fr] h (.int .i64 (falls x i fr)) := by
  refine w2098 _ _ _ _ _ _ _ _ _ _ _ X0_ok ?_
  unfold n2098
  have hn := hx.2.1
  have hb := hx.2.2.1
  refine t_loop (fun mm vs h' => h = h' ∧ ∃ (j : Nat) (d : Int), vs = [.int .i64 d, .int .i64 j] ∧ j ≤ f.n ∧ mm = f.n - j ∧ falls x i fr = leastFrom d (((x.events.drop j).filter fun e => Tr.early x e && (e.items.contains i && decide (fr ≤ e.day))).map (·.day)))
    ⟨rfl, 0, 10000, rfl, Nat.zero_le _, rfl, (leastFrom_cap _).symm⟩ ?_
  rintro Y mm vs _ hY ⟨rfl, j, d, rfl, hj, rfl, hc⟩
  have next : ∀ d', j + 1 ≤ f.n → falls x i fr = leastFrom d' (((x.events.drop (j + 1)).filter fun e => Tr.early x e && (e.items.contains i && decide (fr ≤ e.day))).map (·.day)) → Y [.int .i64 d', .int .i64 (IntKind.wrap .i64 ((j : Int) + 1))] h := by
    intro d' hlt hc'
    refine hY (f.n - (j + 1)) _ _ (by omega) ⟨rfl, j + 1, d', ?_, by omega, rfl, hc'⟩
    rw [wrap_id (by omega) (by omega)]; rfl
  (repeat (first | (with_reducible first | apply gA | apply gB | apply gC | apply gD | apply gE | apply gF | apply gG | apply gH | apply gI | apply gJ | apply gK | apply gL | apply gM | apply gN | apply gO | apply gP | apply gQ | apply gR | apply gP2 | apply gP3) | ((with_reducible first | apply gT | apply gS2); first | exact rfl | assumption | omega | exact ⟨⟩) | ((with_reducible first | apply gL0 | apply gL1 | apply gL2 | apply gL3 | apply gL4); assumption)))
  refine t_if (fun e1 => ?_) (fun e1 => ?_)
  · obtain ⟨y, a, hy, ha, g0, g1, g2, ⟨q, m, c, g3, _, g5⟩, g4⟩ := hx.2.at (i := j) (by omega)
    rw [drop_of hy, List.filter_cons] at hc
    (repeat (first | (with_reducible first | apply gA | apply gB | apply gC | apply gD | apply gE | apply gF | apply gG | apply gH | apply gI | apply gJ | apply gK | apply gL | apply gM | apply gN | apply gO | apply gP | apply gQ | apply gR | apply gP2 | apply gP3) | ((with_reducible first | apply gT | apply gS2); first | exact rfl | assumption | omega | exact ⟨⟩) | ((with_reducible first | apply gL0 | apply gL1 | apply gL2 | apply gL3 | apply gL4); assumption)))
    refine t_pu (c2103 (f := f) hsum (e := y)) ?_
    (repeat (first | (with_reducible first | apply gA | apply gB | apply gC | apply gD | apply gE | apply gF | apply gG | apply gH | apply gI | apply gJ | apply gK | apply gL | apply gM | apply gN | apply gO | apply gP | apply gQ | apply gR | apply gP2 | apply gP3) | ((with_reducible first | apply gT | apply gS2); first | exact rfl | assumption | omega | exact ⟨⟩) | ((with_reducible first | apply gL0 | apply gL1 | apply gL2 | apply gL3 | apply gL4); assumption)))
    refine t_cond (fun e2 => ?_) (fun e2 => ?_)
    · rw [e2, Bool.true_and] at hc
      refine t_pu (c41 g5 i) ?_
      (repeat (first | (with_reducible first | apply gA | apply gB | apply gC | apply gD | apply gE | apply gF | apply gG | apply gH | apply gI | apply gJ | apply gK | apply gL | apply gM | apply gN | apply gO | apply gP | apply gQ | apply gR | apply gP2 | apply gP3) | ((with_reducible first | apply gT | apply gS2); first | exact rfl | assumption | omega | exact ⟨⟩) | ((with_reducible first | apply gL0 | apply gL1 | apply gL2 | apply gL3 | apply gL4); assumption)))
      refine t_cond (fun e4 => ?_) (fun e4 => ?_)
      · rw [e4, Bool.true_and] at hc
        refine t_cond (fun e3 => ?_) (fun e3 => ?_)
        · rw [if_pos (by simpa using e3), List.map_cons, leastFrom] at hc
          exact t_again (next _ (by omega) hc)
        · rw [if_neg (by simpa using e3)] at hc
          exact t_again (next _ (by omega) hc)
      · rw [e4, Bool.false_and, if_neg (by simp)] at hc
        exact t_again (next _ (by omega) hc)
    · rw [e2, Bool.false_and, if_neg (by simp)] at hc
      exact t_again (next _ (by omega) hc)
  · (repeat (first | (with_reducible first | apply gA | apply gB | apply gC | apply gD | apply gE | apply gF | apply gG | apply gH | apply gI | apply gJ | apply gK | apply gL | apply gM | apply gN | apply gO | apply gP | apply gQ | apply gR | apply gP2 | apply gP3) | ((with_reducible first | apply gT | apply gS2); first | exact rfl | assumption | omega | exact ⟨⟩) | ((with_reducible first | apply gL0 | apply gL1 | apply gL2 | apply gL3 | apply gL4); assumption)))
    rw [List.drop_eq_nil_of_le (by omega)] at hc
    exact t_ret ⟨by rw [hc]; rfl, rfl⟩
theorem c2078 {h : LH} {f : TC} {x : TF} (hx : TreatyR h.get f x) (k i d a : Int) (hlow : a ≤ 10000) : Pu Tryd.prog 78 #[treatyV f x, .int .i64 k, .int .i64 i, .int .i64 d, .int .i64 a] h (.int .i64 (dated x k i d a)) := by
  refine w2078 _ _ _ _ _ _ _ _ _ _ _ _ _ X0_ok ?_
  unfold n2078
  have hn := hx.2.1
  have hb := hx.2.2.1
  have h0 : dated x k i d a = leastFrom a (oldL x k i d a) := by rw [leastFrom_min _ _ hlow]; rfl
  refine t_loop (fun mm vs h' => h = h' ∧ ∃ (j : Nat) (b : Int), vs = [.int .i64 b, .int .i64 j] ∧ j ≤ f.n ∧ mm = f.n - j ∧ dated x k i d a = leastFrom b (((x.events.drop j).filter fun e => about e 6 k i && (decide (e.day ≤ d) && decide (e.since ≤ a))).map (·.since)))
    ⟨rfl, 0, a, rfl, Nat.zero_le _, rfl, h0⟩ ?_
  rintro Y mm vs _ hY ⟨rfl, j, b, rfl, hj, rfl, hc⟩
  have next : ∀ d', j + 1 ≤ f.n → dated x k i d a = leastFrom d' (((x.events.drop (j + 1)).filter fun e => about e 6 k i && (decide (e.day ≤ d) && decide (e.since ≤ a))).map (·.since)) → Y [.int .i64 d', .int .i64 (IntKind.wrap .i64 ((j : Int) + 1))] h := by
    intro d' hlt hc'
    refine hY (f.n - (j + 1)) _ _ (by omega) ⟨rfl, j + 1, d', ?_, by omega, rfl, hc'⟩
    rw [wrap_id (by omega) (by omega)]; rfl
  (repeat (first | (with_reducible first | apply gA | apply gB | apply gC | apply gD | apply gE | apply gF | apply gG | apply gH | apply gI | apply gJ | apply gK | apply gL | apply gM | apply gN | apply gO | apply gP | apply gQ | apply gR | apply gP2 | apply gP3) | ((with_reducible first | apply gT | apply gS2); first | exact rfl | assumption | omega | exact ⟨⟩) | ((with_reducible first | apply gL0 | apply gL1 | apply gL2 | apply gL3 | apply gL4); assumption)))
  refine t_if (fun e1 => ?_) (fun e1 => ?_)
  · obtain ⟨y, ad, hy, ha, g0, g1, g2, ⟨q, m, c, g3, _, g5⟩, g4⟩ := hx.2.at (i := j) (by omega)
    rw [drop_of hy, List.filter_cons] at hc
    (repeat (first | (with_reducible first | apply gA | apply gB | apply gC | apply gD | apply gE | apply gF | apply gG | apply gH | apply gI | apply gJ | apply gK | apply gL | apply gM | apply gN | apply gO | apply gP | apply gQ | apply gR | apply gP2 | apply gP3) | ((with_reducible first | apply gT | apply gS2); first | exact rfl | assumption | omega | exact ⟨⟩) | ((with_reducible first | apply gL0 | apply gL1 | apply gL2 | apply gL3 | apply gL4); assumption)))
    refine t_pu (c2089 g5 6 k i) ?_
    (repeat (first | (with_reducible first | apply gA | apply gB | apply gC | apply gD | apply gE | apply gF | apply gG | apply gH | apply gI | apply gJ | apply gK | apply gL | apply gM | apply gN | apply gO | apply gP | apply gQ | apply gR | apply gP2 | apply gP3) | ((with_reducible first | apply gT | apply gS2); first | exact rfl | assumption | omega | exact ⟨⟩) | ((with_reducible first | apply gL0 | apply gL1 | apply gL2 | apply gL3 | apply gL4); assumption)))
    refine t_cond (fun e2 => ?_) (fun e2 => ?_)
    · rw [e2, Bool.true_and] at hc
      refine t_cond (fun e4 => ?_) (fun e4 => ?_)
      · rw [e4, Bool.true_and] at hc
        refine t_cond (fun e3 => ?_) (fun e3 => ?_)
        · rw [if_pos e3, List.map_cons, leastFrom] at hc
          exact t_again (next _ (by omega) hc)
        · rw [if_neg (by rw [e3]; simp)] at hc
          exact t_again (next _ (by omega) hc)
      · rw [e4, Bool.false_and, if_neg (by simp)] at hc
        exact t_again (next _ (by omega) hc)
    · rw [e2, Bool.false_and, if_neg (by simp)] at hc
      exact t_again (next _ (by omega) hc)
  · (repeat (first | (with_reducible first | apply gA | apply gB | apply gC | apply gD | apply gE | apply gF | apply gG | apply gH | apply gI | apply gJ | apply gK | apply gL | apply gM | apply gN | apply gO | apply gP | apply gQ | apply gR | apply gP2 | apply gP3) | ((with_reducible first | apply gT | apply gS2); first | exact rfl | assumption | omega | exact ⟨⟩) | ((with_reducible first | apply gL0 | apply gL1 | apply gL2 | apply gL3 | apply gL4); assumption)))
    rw [List.drop_eq_nil_of_le (by omega)] at hc
    exact t_ret ⟨by rw [hc]; rfl, rfl⟩
theorem c2077 {h : LH} {f : TC} {x : TF} (hx : TreatyR h.get f x) (k i : Int) {a : Int} (ha : IsI (a + x.refuse)) (d : Int) : Pu Tryd.prog 77 #[treatyV f x, .int .i64 k, .int .i64 i, .int .i64 a, .int .i64 d] h (.bool (refused x k i a d)) := by
  refine w2077 _ _ _ _ _ _ _ _ _ _ _ _ _ X0_ok ?_
  unfold n2077
  have hn := hx.2.1
  have hb := hx.2.2.1
  refine t_loop (fun mm vs h' => h = h' ∧ ∃ (j : Nat), vs = [.bool false, .int .i64 j] ∧ j ≤ f.n ∧ mm = f.n - j ∧ refused x k i a d = (x.events.drop j).any fun r => about r 1 k i && (decide (a ≤ r.day ∧ r.day ≤ a + x.refuse ∧ r.day ≤ d) && !lifted x k i r.day d))
    ⟨rfl, 0, rfl, Nat.zero_le _, rfl, rfl⟩ ?_
  rintro Y mm vs _ hY ⟨rfl, j, rfl, hj, rfl, hc⟩
  have next : j + 1 ≤ f.n → (refused x k i a d = (x.events.drop (j + 1)).any fun r => about r 1 k i && (decide (a ≤ r.day ∧ r.day ≤ a + x.refuse ∧ r.day ≤ d) && !lifted x k i r.day d)) → Y [.bool false, .int .i64 (IntKind.wrap .i64 ((j : Int) + 1))] h := by
    intro hlt hc'
    refine hY (f.n - (j + 1)) _ _ (by omega) ⟨rfl, j + 1, ?_, by omega, rfl, hc'⟩
    rw [wrap_id (by omega) (by omega)]; rfl
  (repeat (first | (with_reducible first | apply gA | apply gB | apply gC | apply gD | apply gE | apply gF | apply gG | apply gH | apply gI | apply gJ | apply gK | apply gL | apply gM | apply gN | apply gO | apply gP | apply gQ | apply gR | apply gP2 | apply gP3) | ((with_reducible first | apply gT | apply gS2); first | exact rfl | assumption | omega | exact ⟨⟩) | ((with_reducible first | apply gL0 | apply gL1 | apply gL2 | apply gL3 | apply gL4); assumption)))
  refine t_if (fun e1 => ?_) (fun e1 => ?_)
  · obtain ⟨r, ad, hr, had, g0, g1, g2, ⟨q, m, c, g3, _, g5⟩, g4⟩ := hx.2.at (i := j) (by omega)
    rw [drop_of hr, List.any_cons] at hc
    (repeat (first | (with_reducible first | apply gA | apply gB | apply gC | apply gD | apply gE | apply gF | apply gG | apply gH | apply gI | apply gJ | apply gK | apply gL | apply gM | apply gN | apply gO | apply gP | apply gQ | apply gR | apply gP2 | apply gP3) | ((with_reducible first | apply gT | apply gS2); first | exact rfl | assumption | omega | exact ⟨⟩) | ((with_reducible first | apply gL0 | apply gL1 | apply gL2 | apply gL3 | apply gL4); assumption)))
    rw [wrap_id ha.1 ha.2]
    have skip : (about r 1 k i && decide (a ≤ r.day ∧ r.day ≤ a + x.refuse ∧ r.day ≤ d)) = false → refused x k i a d = (x.events.drop (j + 1)).any fun r => about r 1 k i && (decide (a ≤ r.day ∧ r.day ≤ a + x.refuse ∧ r.day ≤ d) && !lifted x k i r.day d) := by
      intro h0
      rw [← Bool.and_assoc, h0, Bool.false_and, Bool.false_or] at hc
      exact hc
    refine t_blk (fun vs h' => vs = [] ∧ (about r 1 k i && decide (a ≤ r.day ∧ r.day ≤ a + x.refuse ∧ r.day ≤ d)) = true ∧ h = h') ?_ ?_
    · refine t_pu (c2089 g5 1 k i) ?_
      (repeat (first | (with_reducible first | apply gA | apply gB | apply gC | apply gD | apply gE | apply gF | apply gG | apply gH | apply gI | apply gJ | apply gK | apply gL | apply gM | apply gN | apply gO | apply gP | apply gQ | apply gR | apply gP2 | apply gP3) | ((with_reducible first | apply gT | apply gS2); first | exact rfl | assumption | omega | exact ⟨⟩) | ((with_reducible first | apply gL0 | apply gL1 | apply gL2 | apply gL3 | apply gL4); assumption)))
      have out : (about r 1 k i && decide (a ≤ r.day ∧ r.day ≤ a + x.refuse ∧ r.day ≤ d)) = false → Y [.bool false, .int .i64 (IntKind.wrap .i64 ((j : Int) + 1))] h := fun h0 => next (by omega) (skip h0)
      refine t_cond (fun e2 => ?_) (fun e2 => ?_)
      · refine gR ?_
        show T.wp _ _ (bif Nat.beq 1 1 then _ else _) _ _
        refine t_cond (fun _ => ?_) (fun e => by cases e)
        (repeat (first | (with_reducible first | apply gA | apply gB | apply gC | apply gD | apply gE | apply gF | apply gG | apply gH | apply gI | apply gJ | apply gK | apply gL | apply gM | apply gN | apply gO | apply gP | apply gQ | apply gR | apply gP2 | apply gP3) | ((with_reducible first | apply gT | apply gS2); first | exact rfl | assumption | omega | exact ⟨⟩) | ((with_reducible first | apply gL0 | apply gL1 | apply gL2 | apply gL3 | apply gL4); assumption)))
        exact t_again (out (by rw [show about r 1 k i = false by simpa using e2]; rfl))
      refine t_if (fun e3 => ?_) (fun e3 => ?_)
      · refine gR ?_
        show T.wp _ _ (bif Nat.beq 1 1 then _ else _) _ _
        refine t_cond (fun _ => ?_) (fun e => by cases e)
        (repeat (first | (with_reducible first | apply gA | apply gB | apply gC | apply gD | apply gE | apply gF | apply gG | apply gH | apply gI | apply gJ | apply gK | apply gL | apply gM | apply gN | apply gO | apply gP | apply gQ | apply gR | apply gP2 | apply gP3) | ((with_reducible first | apply gT | apply gS2); first | exact rfl | assumption | omega | exact ⟨⟩) | ((with_reducible first | apply gL0 | apply gL1 | apply gL2 | apply gL3 | apply gL4); assumption)))
        exact t_again (out (by rw [decide_eq_false (by omega), Bool.and_false]))
      refine t_if (fun e4 => ?_) (fun e4 => ?_)
      · refine gR ?_
        show T.wp _ _ (bif Nat.beq 1 1 then _ else _) _ _
        refine t_cond (fun _ => ?_) (fun e => by cases e)
        (repeat (first | (with_reducible first | apply gA | apply gB | apply gC | apply gD | apply gE | apply gF | apply gG | apply gH | apply gI | apply gJ | apply gK | apply gL | apply gM | apply gN | apply gO | apply gP | apply gQ | apply gR | apply gP2 | apply gP3) | ((with_reducible first | apply gT | apply gS2); first | exact rfl | assumption | omega | exact ⟨⟩) | ((with_reducible first | apply gL0 | apply gL1 | apply gL2 | apply gL3 | apply gL4); assumption)))
        exact t_again (out (by rw [decide_eq_false (by omega), Bool.and_false]))
      refine t_if (fun e5 => ?_) (fun e5 => ?_)
      · refine gR ?_
        show T.wp _ _ (bif Nat.beq 1 1 then _ else _) _ _
        refine t_cond (fun _ => ?_) (fun e => by cases e)
        (repeat (first | (with_reducible first | apply gA | apply gB | apply gC | apply gD | apply gE | apply gF | apply gG | apply gH | apply gI | apply gJ | apply gK | apply gL | apply gM | apply gN | apply gO | apply gP | apply gQ | apply gR | apply gP2 | apply gP3) | ((with_reducible first | apply gT | apply gS2); first | exact rfl | assumption | omega | exact ⟨⟩) | ((with_reducible first | apply gL0 | apply gL1 | apply gL2 | apply gL3 | apply gL4); assumption)))
        exact t_again (out (by rw [decide_eq_false (by omega), Bool.and_false]))
      exact t_again ⟨rfl, by rw [show about r 1 k i = true by simpa using e2, decide_eq_true (by omega)]; rfl, rfl⟩
    rintro vs _ ⟨rfl, hyes, rfl⟩
    rw [← Bool.and_assoc, hyes, Bool.true_and] at hc
    (repeat (first | (with_reducible first | apply gA | apply gB | apply gC | apply gD | apply gE | apply gF | apply gG | apply gH | apply gI | apply gJ | apply gK | apply gL | apply gM | apply gN | apply gO | apply gP | apply gQ | apply gR | apply gP2 | apply gP3) | ((with_reducible first | apply gT | apply gS2); first | exact rfl | assumption | omega | exact ⟨⟩) | ((with_reducible first | apply gL0 | apply gL1 | apply gL2 | apply gL3 | apply gL4); assumption)))
    refine t_loop (fun mm vs h' => h = h' ∧ ∃ (n : Nat) (b : Bool), vs = [.bool b, .int .i64 n] ∧ n ≤ f.n ∧ mm = f.n - n ∧ lifted x k i r.day d = (b || (x.events.drop n).any fun l => about l 2 k i && decide (r.day ≤ l.day ∧ l.day ≤ d)))
      ⟨rfl, 0, false, rfl, Nat.zero_le _, rfl, rfl⟩ ?_
    rintro Y2 mm vs _ hY2 ⟨rfl, n, b, rfl, hnn, rfl, hl⟩
    have next2 : ∀ b', n + 1 ≤ f.n → (lifted x k i r.day d = (b' || (x.events.drop (n + 1)).any fun l => about l 2 k i && decide (r.day ≤ l.day ∧ l.day ≤ d))) → Y2 [.bool b', .int .i64 (IntKind.wrap .i64 ((n : Int) + 1))] h := by
      intro b' hlt hc'
      refine hY2 (f.n - (n + 1)) _ _ (by omega) ⟨rfl, n + 1, b', ?_, by omega, rfl, hc'⟩
      rw [wrap_id (by omega) (by omega)]; rfl
    (repeat (first | (with_reducible first | apply gA | apply gB | apply gC | apply gD | apply gE | apply gF | apply gG | apply gH | apply gI | apply gJ | apply gK | apply gL | apply gM | apply gN | apply gO | apply gP | apply gQ | apply gR | apply gP2 | apply gP3) | ((with_reducible first | apply gT | apply gS2); first | exact rfl | assumption | omega | exact ⟨⟩) | ((with_reducible first | apply gL0 | apply gL1 | apply gL2 | apply gL3 | apply gL4); assumption)))
    refine t_if (fun e2 => ?_) (fun e2 => ?_)
    · obtain ⟨l, ad2, hl2, had2, k0, k1, k2, ⟨q2, m2, c2, k3, _, k5⟩, k4⟩ := hx.2.at (i := n) (by omega)
      rw [had] at had2; cases had2
      rw [drop_of hl2, List.any_cons] at hl
      (repeat (first | (with_reducible first | apply gA | apply gB | apply gC | apply gD | apply gE | apply gF | apply gG | apply gH | apply gI | apply gJ | apply gK | apply gL | apply gM | apply gN | apply gO | apply gP | apply gQ | apply gR | apply gP2 | apply gP3) | ((with_reducible first | apply gT | apply gS2); first | exact rfl | assumption | omega | exact ⟨⟩) | ((with_reducible first | apply gL0 | apply gL1 | apply gL2 | apply gL3 | apply gL4); assumption)))
      refine t_cond (fun e3 => ?_) (fun e3 => ?_)
      · rw [e3, Bool.true_or] at hl
        exact t_again (next2 true (by omega) (by rw [hl]; rfl))
      · rw [e3, Bool.false_or] at hl
        refine t_pu (c2089 k5 2 k i) ?_
        (repeat (first | (with_reducible first | apply gA | apply gB | apply gC | apply gD | apply gE | apply gF | apply gG | apply gH | apply gI | apply gJ | apply gK | apply gL | apply gM | apply gN | apply gO | apply gP | apply gQ | apply gR | apply gP2 | apply gP3) | ((with_reducible first | apply gT | apply gS2); first | exact rfl | assumption | omega | exact ⟨⟩) | ((with_reducible first | apply gL0 | apply gL1 | apply gL2 | apply gL3 | apply gL4); assumption)))
        refine t_cond (fun e4 => ?_) (fun e4 => ?_)
        · rw [e4, Bool.true_and] at hl
          refine t_if (fun e5 => ?_) (fun e5 => ?_)
          · refine t_again (next2 _ (by omega) ?_)
            rw [hl]
            congr 2
            simp [e5]
          · refine t_again (next2 _ (by omega) ?_)
            rw [hl, decide_eq_false (by omega)]
        · rw [e4, Bool.false_and] at hl
          exact t_again (next2 _ (by omega) hl)
    · (repeat (first | (with_reducible first | apply gA | apply gB | apply gC | apply gD | apply gE | apply gF | apply gG | apply gH | apply gI | apply gJ | apply gK | apply gL | apply gM | apply gN | apply gO | apply gP | apply gQ | apply gR | apply gP2 | apply gP3) | ((with_reducible first | apply gT | apply gS2); first | exact rfl | assumption | omega | exact ⟨⟩) | ((with_reducible first | apply gL0 | apply gL1 | apply gL2 | apply gL3 | apply gL4); assumption)))
      rw [List.drop_eq_nil_of_le (by omega), List.any_nil, Bool.or_false] at hl
      rw [hl] at hc
      refine t_cond (fun e3 => ?_) (fun e3 => ?_)
      · rw [e3, Bool.true_or] at hc
        refine gI ?_
        (repeat (first | (with_reducible first | apply gA | apply gB | apply gC | apply gD | apply gE | apply gF | apply gG | apply gH | apply gI | apply gJ | apply gK | apply gL | apply gM | apply gN | apply gO | apply gP | apply gQ | apply gR | apply gP2 | apply gP3) | ((with_reducible first | apply gT | apply gS2); first | exact rfl | assumption | omega | exact ⟨⟩) | ((with_reducible first | apply gL0 | apply gL1 | apply gL2 | apply gL3 | apply gL4); assumption)))
        exact t_ret ⟨by rw [hc], rfl⟩
      · rw [e3, Bool.false_or] at hc
        exact t_again (next (by omega) hc)
  · (repeat (first | (with_reducible first | apply gA | apply gB | apply gC | apply gD | apply gE | apply gF | apply gG | apply gH | apply gI | apply gJ | apply gK | apply gL | apply gM | apply gN | apply gO | apply gP | apply gQ | apply gR | apply gP2 | apply gP3) | ((with_reducible first | apply gT | apply gS2); first | exact rfl | assumption | omega | exact ⟨⟩) | ((with_reducible first | apply gL0 | apply gL1 | apply gL2 | apply gL3 | apply gL4); assumption)))
    rw [List.drop_eq_nil_of_le (by omega)] at hc
    exact t_ret ⟨by rw [hc]; rfl, rfl⟩
end Go.Proofs.YtbmfimaomcnkfaaDoor
end
section
namespace Go.Proofs.YtbmfimaomcnkfaaDoor
open Go Go.TM Go.Proofs Go.TM.Tr
attribute [local irreducible] T.wp CV FWK
def rtCells (x : TF) (k i : Int) : Title → List Value
  | .ask a => [.int .i64 a, .int .i64 (askEnd x k i a), .bool true, .bool (fallen x k i a), .int .i64 a]
  | .turn a b => [.int .i64 b, .int .i64 (limits x k i b), .bool false, .bool false, .int .i64 a]
def RtE (x : TF) (k i : Int) (h : Cells) (a : Addr) (t : Title) : Prop := ∀ (j : Nat) w, (rtCells x k i t)[j]? = some w → h.cell? (a.add j) = some w
def RtEnc (x : TF) (k i : Int) (t : Title) (ws : List Value) : Prop := ws = rtCells x k i t
theorem RtEnc.len {x : TF} {k i : Int} : ∀ d ws, RtEnc x k i d ws → ws.length = 5 := by rintro d _ rfl; cases d <;> rfl
theorem RtEnc.e {x : TF} {k i : Int} {h' : Cells} : ∀ a d ws, RtEnc x k i d ws → (∀ (j : Nat) w, ws[j]? = some w → h'.cell? (a.add j) = some w) → RtE x k i h' a d := by
  rintro a d _ rfl hc; exact hc
theorem rt_one (x : TF) (k i : Int) (t : Title) : ∀ v ∈ rtCells x k i t, isOne v = true := by
  intro v hv
  cases t <;> simp only [rtCells, List.mem_cons, List.not_mem_nil, or_false] at hv <;> rcases hv with rfl | rfl | rfl | rfl | rfl <;> rfl
theorem c2086 {h : LH} {f : TC} {x : TF} (hx : TreatyR h.get f x) (rt : Right x) (k i : Int) :
    Gr Tryd.prog 86 #[treatyV f x, .int .i64 k, .int .i64 i] h fun r h' => ∃ p n c, r = .slice p n c ∧ Growing (RtEnc x k i) 100 5 h.get h'.get p n c ((askDays x k i).map .ask) := by
  refine w2086 _ _ _ _ _ _ _ _ _ _ _ X0_ok ?_
  unfold n2086
  have hn := hx.2.1
  have hb := hx.2.2.1
  have hmany := rt.many
  refine t_loop (fun mm vs h' => h.le h' ∧ ∃ (j : Nat) (p : Option Addr) (n c : Nat), vs = [.slice p n c, .int .i64 j] ∧ j ≤ f.n ∧ mm = f.n - j ∧ Growing (RtEnc x k i) 100 5 h.get h'.get p n c ((((x.events.take j).filter fun e => about e 0 k i && decide (e.day < falls x i 0)).map (·.day)).map .ask))
    ⟨LH.le_refl _, 0, none, 0, 0, rfl, Nat.zero_le _, rfl, Growing.nil⟩ ?_
  rintro Y mm vs h₁ hY ⟨le1, j, p, n, c, rfl, hj, rfl, g⟩
  have hnn : n ≤ 10 := by
    rw [g.count RtEnc.len (by omega), List.length_map, List.length_map]
    have h1 := List.length_filter_le (fun e : Ev => about e 0 k i && decide (e.day < falls x i 0)) (x.events.take j)
    have h2 : (x.events.take j).length ≤ x.events.length := by rw [List.length_take]; omega
    omega
  (repeat (first | (with_reducible first | apply gA | apply gB | apply gC | apply gD | apply gE | apply gF | apply gG | apply gH | apply gI | apply gJ | apply gK | apply gL | apply gM | apply gN | apply gO | apply gP | apply gQ | apply gR | apply gP2 | apply gP3) | ((with_reducible first | apply gT | apply gS2); first | exact rfl | assumption | omega | exact ⟨⟩) | ((with_reducible first | apply gL0 | apply gL1 | apply gL2 | apply gL3 | apply gL4); assumption)))
  refine t_if (fun e1 => ?_) (fun e1 => ?_)
  · obtain ⟨e, a, he, ha, g0, g1, g2, ⟨q, m, cc, g3, _, g5⟩, g4⟩ := (hx.2.le EventE.grow le1.1).at (i := j) (by omega)
    have htake : x.events.take (j + 1) = x.events.take j ++ [e] := by rw [List.take_add_one, he]; rfl
    have next : ∀ h' p' n' c', h.le h' → Growing (RtEnc x k i) 100 5 h.get h'.get p' n' c' ((((x.events.take (j + 1)).filter fun e => about e 0 k i && decide (e.day < falls x i 0)).map (·.day)).map .ask) → Y [.slice p' n' c', .int .i64 (IntKind.wrap .i64 ((j : Int) + 1))] h' := by
      intro h' p' n' c' hle' g'
      refine hY (f.n - (j + 1)) _ _ (by omega) ⟨hle', j + 1, p', n', c', ?_, by omega, rfl, g'⟩
      rw [wrap_id (by omega) (by omega)]; rfl
    have skip : (about e 0 k i && decide (e.day < falls x i 0)) = false → Y [.slice p n c, .int .i64 (IntKind.wrap .i64 ((j : Int) + 1))] h₁ := by
      intro h0
      refine next h₁ p n c le1 ?_
      rw [htake, List.filter_append, List.filter_cons, if_neg (by rw [h0]; simp)]
      simpa using g
    (repeat (first | (with_reducible first | apply gA | apply gB | apply gC | apply gD | apply gE | apply gF | apply gG | apply gH | apply gI | apply gJ | apply gK | apply gL | apply gM | apply gN | apply gO | apply gP | apply gQ | apply gR | apply gP2 | apply gP3) | ((with_reducible first | apply gT | apply gS2); first | exact rfl | assumption | omega | exact ⟨⟩) | ((with_reducible first | apply gL0 | apply gL1 | apply gL2 | apply gL3 | apply gL4); assumption)))
    refine t_blk (fun vs h' => vs = [] ∧ (about e 0 k i && decide (e.day < falls x i 0)) = true ∧ h₁ = h') ?_ ?_
    · refine t_pu (c2089 g5 0 k i) ?_
      (repeat (first | (with_reducible first | apply gA | apply gB | apply gC | apply gD | apply gE | apply gF | apply gG | apply gH | apply gI | apply gJ | apply gK | apply gL | apply gM | apply gN | apply gO | apply gP | apply gQ | apply gR | apply gP2 | apply gP3) | ((with_reducible first | apply gT | apply gS2); first | exact rfl | assumption | omega | exact ⟨⟩) | ((with_reducible first | apply gL0 | apply gL1 | apply gL2 | apply gL3 | apply gL4); assumption)))
      refine t_cond (fun e2 => ?_) (fun e2 => ?_)
      · (repeat (first | (with_reducible first | apply gA | apply gB | apply gC | apply gD | apply gE | apply gF | apply gG | apply gH | apply gI | apply gJ | apply gK | apply gL | apply gM | apply gN | apply gO | apply gP | apply gQ | apply gR | apply gP2 | apply gP3) | ((with_reducible first | apply gT | apply gS2); first | exact rfl | assumption | omega | exact ⟨⟩) | ((with_reducible first | apply gL0 | apply gL1 | apply gL2 | apply gL3 | apply gL4); assumption)))
        show T.wp _ _ (bif Nat.beq 1 1 then _ else _) _ _
        refine t_cond (fun _ => ?_) (fun e => by cases e)
        (repeat (first | (with_reducible first | apply gA | apply gB | apply gC | apply gD | apply gE | apply gF | apply gG | apply gH | apply gI | apply gJ | apply gK | apply gL | apply gM | apply gN | apply gO | apply gP | apply gQ | apply gR | apply gP2 | apply gP3) | ((with_reducible first | apply gT | apply gS2); first | exact rfl | assumption | omega | exact ⟨⟩) | ((with_reducible first | apply gL0 | apply gL1 | apply gL2 | apply gL3 | apply gL4); assumption)))
        exact t_again (skip (by rw [show about e 0 k i = false by simpa using e2]; rfl))
      refine t_pu (c2098 (hx.le le1.1) rt.sum i 0) ?_
      (repeat (first | (with_reducible first | apply gA | apply gB | apply gC | apply gD | apply gE | apply gF | apply gG | apply gH | apply gI | apply gJ | apply gK | apply gL | apply gM | apply gN | apply gO | apply gP | apply gQ | apply gR | apply gP2 | apply gP3) | ((with_reducible first | apply gT | apply gS2); first | exact rfl | assumption | omega | exact ⟨⟩) | ((with_reducible first | apply gL0 | apply gL1 | apply gL2 | apply gL3 | apply gL4); assumption)))
      refine t_if (fun e3 => ?_) (fun e3 => ?_)
      · refine gR ?_
        show T.wp _ _ (bif Nat.beq 1 1 then _ else _) _ _
        refine t_cond (fun _ => ?_) (fun e => by cases e)
        (repeat (first | (with_reducible first | apply gA | apply gB | apply gC | apply gD | apply gE | apply gF | apply gG | apply gH | apply gI | apply gJ | apply gK | apply gL | apply gM | apply gN | apply gO | apply gP | apply gQ | apply gR | apply gP2 | apply gP3) | ((with_reducible first | apply gT | apply gS2); first | exact rfl | assumption | omega | exact ⟨⟩) | ((with_reducible first | apply gL0 | apply gL1 | apply gL2 | apply gL3 | apply gL4); assumption)))
        exact t_again (skip (by rw [decide_eq_false (by omega), Bool.and_false]))
      exact t_again ⟨rfl, by rw [show about e 0 k i = true by simpa using e2, decide_eq_true (by omega)]; rfl, rfl⟩
    rintro vs _ ⟨rfl, hyes, rfl⟩
    (repeat (first | (with_reducible first | apply gA | apply gB | apply gC | apply gD | apply gE | apply gF | apply gG | apply gH | apply gI | apply gJ | apply gK | apply gL | apply gM | apply gN | apply gO | apply gP | apply gQ | apply gR | apply gP2 | apply gP3) | ((with_reducible first | apply gT | apply gS2); first | exact rfl | assumption | omega | exact ⟨⟩) | ((with_reducible first | apply gL0 | apply gL1 | apply gL2 | apply gL3 | apply gL4); assumption)))
    refine t_pu (c2098 (hx.le le1.1) rt.sum i e.day) ?_
    (repeat (first | (with_reducible first | apply gA | apply gB | apply gC | apply gD | apply gE | apply gF | apply gG | apply gH | apply gI | apply gJ | apply gK | apply gL | apply gM | apply gN | apply gO | apply gP | apply gQ | apply gR | apply gP2 | apply gP3) | ((with_reducible first | apply gT | apply gS2); first | exact rfl | assumption | omega | exact ⟨⟩) | ((with_reducible first | apply gL0 | apply gL1 | apply gL2 | apply gL3 | apply gL4); assumption)))
    refine t_pu (c2090 (hx.le le1.1) k i e.day) ?_
    (repeat (first | (with_reducible first | apply gA | apply gB | apply gC | apply gD | apply gE | apply gF | apply gG | apply gH | apply gI | apply gJ | apply gK | apply gL | apply gM | apply gN | apply gO | apply gP | apply gQ | apply gR | apply gP2 | apply gP3) | ((with_reducible first | apply gT | apply gS2); first | exact rfl | assumption | omega | exact ⟨⟩) | ((with_reducible first | apply gL0 | apply gL1 | apply gL2 | apply gL3 | apply gL4); assumption)))
    refine t_push (Title.ask e.day) (rtCells x k i (.ask e.day)) rfl rfl undRTs infRT rfl (by omega) (by decide) (by kernel_rfl) rfl (rt_one x k i _) (by omega) g le1 rfl ?_
    intro p' c' h3 le3 _ g3'
    (repeat (first | (with_reducible first | apply gA | apply gB | apply gC | apply gD | apply gE | apply gF | apply gG | apply gH | apply gI | apply gJ | apply gK | apply gL | apply gM | apply gN | apply gO | apply gP | apply gQ | apply gR | apply gP2 | apply gP3) | ((with_reducible first | apply gT | apply gS2); first | exact rfl | assumption | omega | exact ⟨⟩) | ((with_reducible first | apply gL0 | apply gL1 | apply gL2 | apply gL3 | apply gL4); assumption)))
    refine t_again (next h3 p' _ c' le3 ?_)
    rw [htake, List.filter_append, List.filter_cons, if_pos hyes, List.map_append, List.map_append]
    exact g3'
  · (repeat (first | (with_reducible first | apply gA | apply gB | apply gC | apply gD | apply gE | apply gF | apply gG | apply gH | apply gI | apply gJ | apply gK | apply gL | apply gM | apply gN | apply gO | apply gP | apply gQ | apply gR | apply gP2 | apply gP3) | ((with_reducible first | apply gT | apply gS2); first | exact rfl | assumption | omega | exact ⟨⟩) | ((with_reducible first | apply gL0 | apply gL1 | apply gL2 | apply gL3 | apply gL4); assumption)))
    rw [List.take_of_length_le (by omega)] at g
    exact t_ret ⟨le1, p, n, c, rfl, g⟩
def foldNeg (n : Int) : List Int → Int
  | [] => n
  | a :: l => foldNeg (if n < 0 ∨ a < n then a else n) l
theorem foldNeg_from : ∀ (l : List Int) (n : Int), 0 ≤ n → (∀ v ∈ l, 0 ≤ v) → foldNeg n l = leastFrom n l
  | [], _, _, _ => rfl
  | a :: l, n, hn, hl => by
    have ha := hl a (by simp)
    rw [foldNeg, leastFrom]
    have : (if n < 0 ∨ a < n then a else n) = if a < n then a else n := by
      by_cases e : a < n
      · rw [if_pos (.inr e), if_pos e]
      · rw [if_neg (by omega), if_neg e]
    rw [this]
    exact foldNeg_from l _ (by split <;> omega) fun v hv => hl v (by simp [hv])
theorem foldNeg_least {l : List Int} (h : ∀ v ∈ l, 0 ≤ v ∧ v < 10000) : foldNeg (-1) l = leastOr l := by
  cases l with
  | nil => rfl
  | cons a l =>
    have ha := h a (by simp)
    rw [foldNeg, if_pos (.inl (by omega)), foldNeg_from l a ha.1 fun v hv => (h v (by simp [hv])).1, leastFrom_min l a (by omega), show leastOr (a :: l) = least (a :: l) from rfl, least_cons]
set_option maxRecDepth 10000 in
theorem c2065 {h : LH} {f : TC} {x : TF} (hx : TreatyR h.get f x) (rt : Right x) (k i d : Int) : Gr Tryd.prog 65 #[treatyV f x, .int .i64 k, .int .i64 i, .int .i64 d] h fun r _ => r = .int .i64 (turned x k i d) := by
  refine w2065 _ _ _ _ _ _ _ _ _ _ _ _ X0_ok ?_
  unfold n2065
  refine t_gr (c2086 hx rt k i) ?_
  rintro _ h₁ le1 ⟨p, n, c, rfl, g⟩
  have hlen := askDays_len x k i
  have hmany := rt.many
  have hs : Sl (RtE x k i) 5 h₁.get p n ((askDays x k i).map .ask) := g.sl RtEnc.len (by omega) RtEnc.e (by rw [List.length_map]; omega)
  (repeat (first | (with_reducible first | apply gA | apply gB | apply gC | apply gD | apply gE | apply gF | apply gG | apply gH | apply gI | apply gJ | apply gK | apply gL | apply gM | apply gN | apply gO | apply gP | apply gQ | apply gR | apply gP2 | apply gP3) | ((with_reducible first | apply gT | apply gS2); first | exact rfl | assumption | omega | exact ⟨⟩) | ((with_reducible first | apply gL0 | apply gL1 | apply gL2 | apply gL3 | apply gL4); assumption)))
  have hn := hs.1
  rw [List.length_map] at hn
  have h0 : turned x k i d = foldNeg (-1) (turnedL x k i d) := (foldNeg_least rt.ok.turnedL).symm
  refine t_loop (fun mm vs h' => h₁ = h' ∧ ∃ (j : Nat) (b : Int), vs = [.int .i64 b, .int .i64 j] ∧ j ≤ n ∧ mm = n - j ∧ turned x k i d = foldNeg b (((askDays x k i).drop j).filter (goodBy x k i d)))
    ⟨rfl, 0, -1, rfl, Nat.zero_le _, rfl, h0⟩ ?_
  rintro Y mm vs _ hY ⟨rfl, j, b, rfl, hj, rfl, hc⟩
  have next : ∀ b', j + 1 ≤ n → turned x k i d = foldNeg b' (((askDays x k i).drop (j + 1)).filter (goodBy x k i d)) → Y [.int .i64 b', .int .i64 (IntKind.wrap .i64 ((j : Int) + 1))] h₁ := by
    intro b' hlt hc'
    refine hY (n - (j + 1)) _ _ (by omega) ⟨rfl, j + 1, b', ?_, by omega, rfl, hc'⟩
    rw [wrap_id (by omega) (by omega)]; rfl
  (repeat (first | (with_reducible first | apply gA | apply gB | apply gC | apply gD | apply gE | apply gF | apply gG | apply gH | apply gI | apply gJ | apply gK | apply gL | apply gM | apply gN | apply gO | apply gP | apply gQ | apply gR | apply gP2 | apply gP3) | ((with_reducible first | apply gT | apply gS2); first | exact rfl | assumption | omega | exact ⟨⟩) | ((with_reducible first | apply gL0 | apply gL1 | apply gL2 | apply gL3 | apply gL4); assumption)))
  refine t_if (fun e1 => ?_) (fun e1 => ?_)
  · obtain ⟨t, ad, ht, had, he⟩ := hs.at (i := j) (by omega)
    rw [List.getElem?_map] at ht
    obtain ⟨a, ha, rfl⟩ := Option.map_eq_some_iff.1 ht
    have g0 := he 0 _ rfl
    have g1 := he 1 _ rfl
    have g2 := he 2 _ rfl
    have g3 := he 3 _ rfl
    have g4 := he 4 _ rfl
    have ham := List.mem_of_getElem? ha
    have had2 := rt.askDay ham
    have hend := askEnd_low rt.ok k i a
    have hturn := rt.turn
    have href := rt.refuse
    rw [drop_of ha, goodBy_step] at hc
    have hgb : goodBy x k i d a = (fallen x k i a && (decide (askEnd x k i a ≤ d ∧ d ≤ askEnd x k i a + x.turn) && !refused x k i a (askEnd x k i a - 1))) := rfl
    have bad : goodBy x k i d a = false → Y [.int .i64 b, .int .i64 (IntKind.wrap .i64 ((j : Int) + 1))] h₁ := fun hb => next b (by omega) (by rw [if_neg (by rw [hb]; simp)] at hc; exact hc)
    (repeat (first | (with_reducible first | apply gA | apply gB | apply gC | apply gD | apply gE | apply gF | apply gG | apply gH | apply gI | apply gJ | apply gK | apply gL | apply gM | apply gN | apply gO | apply gP | apply gQ | apply gR | apply gP2 | apply gP3) | ((with_reducible first | apply gT | apply gS2); first | exact rfl | assumption | omega | exact ⟨⟩) | ((with_reducible first | apply gL0 | apply gL1 | apply gL2 | apply gL3 | apply gL4); assumption)))
    refine t_cond (fun e2 => ?_) (fun e2 => ?_)
    · refine t_if (fun e3 => ?_) (fun e3 => ?_)
      · rw [wrap_id (by omega) (by omega)]
        refine t_if (fun e4 => ?_) (fun e4 => ?_)
        · rw [wrap_id (by omega) (by omega)]
          refine t_pu (c2077 (hx.le le1.1) k i (a := a) (by unfold IsI; omega) _) ?_
          (repeat (first | (with_reducible first | apply gA | apply gB | apply gC | apply gD | apply gE | apply gF | apply gG | apply gH | apply gI | apply gJ | apply gK | apply gL | apply gM | apply gN | apply gO | apply gP | apply gQ | apply gR | apply gP2 | apply gP3) | ((with_reducible first | apply gT | apply gS2); first | exact rfl | assumption | omega | exact ⟨⟩) | ((with_reducible first | apply gL0 | apply gL1 | apply gL2 | apply gL3 | apply gL4); assumption)))
          refine t_cond (fun e5 => ?_) (fun e5 => ?_)
          · have hg : goodBy x k i d a = true := by rw [hgb, e2, e5, decide_eq_true ⟨e3, e4⟩]; rfl
            rw [if_pos hg] at hc
            refine t_if (fun e6 => ?_) (fun e6 => ?_)
            · rw [foldNeg, if_pos (.inl e6)] at hc
              exact t_again (next a (by omega) hc)
            · refine t_if (fun e7 => ?_) (fun e7 => ?_)
              · rw [foldNeg, if_pos (.inr e7)] at hc
                exact t_again (next a (by omega) hc)
              · rw [foldNeg, if_neg (by omega)] at hc
                exact t_again (next b (by omega) hc)
          · exact t_again (bad (by rw [hgb, e5]; simp))
        · exact t_again (bad (by rw [hgb, decide_eq_false (by omega)]; simp))
      · exact t_again (bad (by rw [hgb, decide_eq_false (by omega)]; simp))
    · exact t_again (bad (by rw [hgb, e2]; simp))
  · (repeat (first | (with_reducible first | apply gA | apply gB | apply gC | apply gD | apply gE | apply gF | apply gG | apply gH | apply gI | apply gJ | apply gK | apply gL | apply gM | apply gN | apply gO | apply gP | apply gQ | apply gR | apply gP2 | apply gP3) | ((with_reducible first | apply gT | apply gS2); first | exact rfl | assumption | omega | exact ⟨⟩) | ((with_reducible first | apply gL0 | apply gL1 | apply gL2 | apply gL3 | apply gL4); assumption)))
    rw [List.drop_eq_nil_of_le (by omega)] at hc
    exact t_ret ⟨le1, by rw [hc]; rfl⟩
theorem c2076 {h : LH} {f : TC} {x : TF} (hx : TreatyR h.get f x) (rt : Right x) (k i : Int) :
    Gr Tryd.prog 76 #[treatyV f x, .int .i64 k, .int .i64 i] h fun r h' => ∃ p n c, r = .slice p n c ∧ Sl (RtE x k i) 5 h'.get p n (titlesL x k i) := by
  refine w2076 _ _ _ _ _ _ _ _ _ _ _ X0_ok ?_
  unfold n2076
  refine t_gr (c2086 hx rt k i) ?_
  rintro _ h₁ le1 ⟨p, n, c, rfl, g⟩
  have hn := hx.2.1
  have hb := hx.2.2.1
  have hmany := rt.many
  have hlen := askDays_len x k i
  (repeat (first | (with_reducible first | apply gA | apply gB | apply gC | apply gD | apply gE | apply gF | apply gG | apply gH | apply gI | apply gJ | apply gK | apply gL | apply gM | apply gN | apply gO | apply gP | apply gQ | apply gR | apply gP2 | apply gP3) | ((with_reducible first | apply gT | apply gS2); first | exact rfl | assumption | omega | exact ⟨⟩) | ((with_reducible first | apply gL0 | apply gL1 | apply gL2 | apply gL3 | apply gL4); assumption)))
  refine t_loop (fun mm vs h' => h.le h' ∧ ∃ (j : Nat) (p : Option Addr) (n c : Nat), vs = [.slice p n c, .int .i64 j] ∧ j ≤ f.n ∧ mm = f.n - j ∧ Growing (RtEnc x k i) 100 5 h.get h'.get p n c ((askDays x k i).map .ask ++ turnsL x k i ((x.events.take j).filter (allB 5 k i))))
    ⟨le1, 0, p, n, c, rfl, Nat.zero_le _, rfl, by simpa [turnsL] using g⟩ ?_
  clear g
  rintro Y mm vs h2 hY ⟨le2, j, p, n, c, rfl, hj, rfl, g⟩
  have hnn : n ≤ 20 := by
    rw [g.count RtEnc.len (by omega), List.length_append, List.length_map]
    unfold turnsL
    rw [List.length_map]
    have h1 := List.length_filter_le (fun e : Ev => decide (0 ≤ turned x k i e.day)) ((x.events.take j).filter (allB 5 k i))
    have h2 := List.length_filter_le (allB 5 k i) (x.events.take j)
    have h3 : (x.events.take j).length ≤ x.events.length := by rw [List.length_take]; omega
    omega
  (repeat (first | (with_reducible first | apply gA | apply gB | apply gC | apply gD | apply gE | apply gF | apply gG | apply gH | apply gI | apply gJ | apply gK | apply gL | apply gM | apply gN | apply gO | apply gP | apply gQ | apply gR | apply gP2 | apply gP3) | ((with_reducible first | apply gT | apply gS2); first | exact rfl | assumption | omega | exact ⟨⟩) | ((with_reducible first | apply gL0 | apply gL1 | apply gL2 | apply gL3 | apply gL4); assumption)))
  refine t_if (fun e1 => ?_) (fun e1 => ?_)
  · obtain ⟨e, a, he, ha, g0, g1, g2, ⟨q, m, cc, g3, _, g5⟩, g4⟩ := (hx.2.le EventE.grow le2.1).at (i := j) (by omega)
    have htake : x.events.take (j + 1) = x.events.take j ++ [e] := by rw [List.take_add_one, he]; rfl
    have next : ∀ h' p' n' c', h.le h' → Growing (RtEnc x k i) 100 5 h.get h'.get p' n' c' ((askDays x k i).map .ask ++ turnsL x k i ((x.events.take (j + 1)).filter (allB 5 k i))) → Y [.slice p' n' c', .int .i64 (IntKind.wrap .i64 ((j : Int) + 1))] h' := by
      intro h' p' n' c' hle' g'
      refine hY (f.n - (j + 1)) _ _ (by omega) ⟨hle', j + 1, p', n', c', ?_, by omega, rfl, g'⟩
      rw [wrap_id (by omega) (by omega)]; rfl
    (repeat (first | (with_reducible first | apply gA | apply gB | apply gC | apply gD | apply gE | apply gF | apply gG | apply gH | apply gI | apply gJ | apply gK | apply gL | apply gM | apply gN | apply gO | apply gP | apply gQ | apply gR | apply gP2 | apply gP3) | ((with_reducible first | apply gT | apply gS2); first | exact rfl | assumption | omega | exact ⟨⟩) | ((with_reducible first | apply gL0 | apply gL1 | apply gL2 | apply gL3 | apply gL4); assumption)))
    refine t_pu (c2089 g5 5 k i) ?_
    have hab : about e 5 k i = allB 5 k i e := (allB_about (by decide) k i e).symm
    rw [hab]
    (repeat (first | (with_reducible first | apply gA | apply gB | apply gC | apply gD | apply gE | apply gF | apply gG | apply gH | apply gI | apply gJ | apply gK | apply gL | apply gM | apply gN | apply gO | apply gP | apply gQ | apply gR | apply gP2 | apply gP3) | ((with_reducible first | apply gT | apply gS2); first | exact rfl | assumption | omega | exact ⟨⟩) | ((with_reducible first | apply gL0 | apply gL1 | apply gL2 | apply gL3 | apply gL4); assumption)))
    refine t_cond (fun e2 => ?_) (fun e2 => ?_)
    · have e2 : allB 5 k i e = false := by simpa using e2
      refine t_again (next h2 p n c le2 ?_)
      rw [htake, List.filter_append, List.filter_cons, if_neg (by rw [e2]; simp)]
      simpa using g
    · have e2 : allB 5 k i e = true := by simpa using e2
      have hf : (x.events.take (j + 1)).filter (allB 5 k i) = (x.events.take j).filter (allB 5 k i) ++ [e] := by
        rw [htake, List.filter_append, List.filter_cons, if_pos e2]; rfl
      refine t_gr (c2065 (hx.le le2.1) rt k i e.day) ?_
      rintro _ h3 le3 rfl
      have le03 := LH.le_trans le2 le3
      (repeat (first | (with_reducible first | apply gA | apply gB | apply gC | apply gD | apply gE | apply gF | apply gG | apply gH | apply gI | apply gJ | apply gK | apply gL | apply gM | apply gN | apply gO | apply gP | apply gQ | apply gR | apply gP2 | apply gP3) | ((with_reducible first | apply gT | apply gS2); first | exact rfl | assumption | omega | exact ⟨⟩) | ((with_reducible first | apply gL0 | apply gL1 | apply gL2 | apply gL3 | apply gL4); assumption)))
      refine t_if (fun e3 => ?_) (fun e3 => ?_)
      · refine t_pu (c2090 (hx.le le03.1) k i e.day) ?_
        (repeat (first | (with_reducible first | apply gA | apply gB | apply gC | apply gD | apply gE | apply gF | apply gG | apply gH | apply gI | apply gJ | apply gK | apply gL | apply gM | apply gN | apply gO | apply gP | apply gQ | apply gR | apply gP2 | apply gP3) | ((with_reducible first | apply gT | apply gS2); first | exact rfl | assumption | omega | exact ⟨⟩) | ((with_reducible first | apply gL0 | apply gL1 | apply gL2 | apply gL3 | apply gL4); assumption)))
        refine t_buildR (rtCells x k i (.turn (turned x k i e.day) e.day)) undRTs infRT (by decide) (by decide) (by kernel_rfl) ?_
        intro r h6 le6 _ hr6
        (repeat (first | (with_reducible first | apply gA | apply gB | apply gC | apply gD | apply gE | apply gF | apply gG | apply gH | apply gI | apply gJ | apply gK | apply gL | apply gM | apply gN | apply gO | apply gP | apply gQ | apply gR | apply gP2 | apply gP3) | ((with_reducible first | apply gT | apply gS2); first | exact rfl | assumption | omega | exact ⟨⟩) | ((with_reducible first | apply gL0 | apply gL1 | apply gL2 | apply gL3 | apply gL4); assumption)))
        refine t_growR (h₀ := h) (Enc := RtEnc x k i) (Title.turn (turned x k i e.day) e.day) (rtCells x k i (.turn (turned x k i e.day) e.day)) rfl rfl undRTs infRT rfl (by omega) (by omega) (g.le (LH.le_trans le3 le6).1) (LH.le_trans le03 le6) rfl rfl hr6 (rt_one x k i _) ?_
        intro p' c' h7 le7 kp7 g7
        (repeat (first | (with_reducible first | apply gA | apply gB | apply gC | apply gD | apply gE | apply gF | apply gG | apply gH | apply gI | apply gJ | apply gK | apply gL | apply gM | apply gN | apply gO | apply gP | apply gQ | apply gR | apply gP2 | apply gP3) | ((with_reducible first | apply gT | apply gS2); first | exact rfl | assumption | omega | exact ⟨⟩) | ((with_reducible first | apply gL0 | apply gL1 | apply gL2 | apply gL3 | apply gL4); assumption)))
        refine t_again (next h7 p' _ c' le7 ?_)
        rw [hf, turns_step (by omega), ← List.append_assoc]
        exact g7
      · refine t_again (next h3 p n c le03 ?_)
        rw [hf, turns_skip (by omega)]
        exact g.le le3.1
  · (repeat (first | (with_reducible first | apply gA | apply gB | apply gC | apply gD | apply gE | apply gF | apply gG | apply gH | apply gI | apply gJ | apply gK | apply gL | apply gM | apply gN | apply gO | apply gP | apply gQ | apply gR | apply gP2 | apply gP3) | ((with_reducible first | apply gT | apply gS2); first | exact rfl | assumption | omega | exact ⟨⟩) | ((with_reducible first | apply gL0 | apply gL1 | apply gL2 | apply gL3 | apply gL4); assumption)))
    rw [List.take_of_length_le (by omega)] at g
    have htl := titles_len x k i
    exact t_ret ⟨le2, p, n, c, rfl, g.sl RtEnc.len (by omega) RtEnc.e (by show (titlesL x k i).length < _; omega)⟩
set_option maxRecDepth 10000 in
theorem c2051 {h : LH} {f : TC} {x : TF} (hx : TreatyR h.get f x) (rt : Right x) (k i d : Int) : Gr Tryd.prog 51 #[treatyV f x, .int .i64 k, .int .i64 i, .int .i64 d] h fun r _ => r = .int .i64 (dateOn x k i d) := by
  refine w2051 _ _ _ _ _ _ _ _ _ _ _ _ X0_ok ?_
  unfold n2051
  refine t_gr (c2076 hx rt k i) ?_
  rintro _ h₁ le1 ⟨p, n, c, rfl, hs⟩
  (repeat (first | (with_reducible first | apply gA | apply gB | apply gC | apply gD | apply gE | apply gF | apply gG | apply gH | apply gI | apply gJ | apply gK | apply gL | apply gM | apply gN | apply gO | apply gP | apply gQ | apply gR | apply gP2 | apply gP3) | ((with_reducible first | apply gT | apply gS2); first | exact rfl | assumption | omega | exact ⟨⟩) | ((with_reducible first | apply gL0 | apply gL1 | apply gL2 | apply gL3 | apply gL4); assumption)))
  have hn := hs.1
  have htl := titles_len x k i
  have hmany := rt.many
  have h0 : dateOn x k i d = foldNeg (-1) ((((titlesL x k i).filter (titleOn x k i d)).map titleDate).map (dated x k i d)) := by
    rw [titles_held, foldNeg_least (date_vals rt.ok)]; rfl
  refine t_loop (fun mm vs h' => h₁ = h' ∧ ∃ (j : Nat) (b : Int), vs = [.int .i64 b, .int .i64 j] ∧ j ≤ n ∧ mm = n - j ∧ dateOn x k i d = foldNeg b (((((titlesL x k i).drop j).filter (titleOn x k i d)).map titleDate).map (dated x k i d)))
    ⟨rfl, 0, -1, rfl, Nat.zero_le _, rfl, h0⟩ ?_
  rintro Y mm vs _ hY ⟨rfl, j, b, rfl, hj, rfl, hc⟩
  have next : ∀ b', j + 1 ≤ n → dateOn x k i d = foldNeg b' (((((titlesL x k i).drop (j + 1)).filter (titleOn x k i d)).map titleDate).map (dated x k i d)) → Y [.int .i64 b', .int .i64 (IntKind.wrap .i64 ((j : Int) + 1))] h₁ := by
    intro b' hlt hc'
    refine hY (n - (j + 1)) _ _ (by omega) ⟨rfl, j + 1, b', ?_, by omega, rfl, hc'⟩
    rw [wrap_id (by omega) (by omega)]; rfl
  (repeat (first | (with_reducible first | apply gA | apply gB | apply gC | apply gD | apply gE | apply gF | apply gG | apply gH | apply gI | apply gJ | apply gK | apply gL | apply gM | apply gN | apply gO | apply gP | apply gQ | apply gR | apply gP2 | apply gP3) | ((with_reducible first | apply gT | apply gS2); first | exact rfl | assumption | omega | exact ⟨⟩) | ((with_reducible first | apply gL0 | apply gL1 | apply gL2 | apply gL3 | apply gL4); assumption)))
  refine t_if (fun e1 => ?_) (fun e1 => ?_)
  · obtain ⟨t, ad, ht, had, he⟩ := hs.at (i := j) (by omega)
    have htm := List.mem_of_getElem? ht
    have hlow := title_low rt htm
    rw [drop_of ht, List.filter_cons] at hc
    have skip : titleOn x k i d t = false → Y [.int .i64 b, .int .i64 (IntKind.wrap .i64 ((j : Int) + 1))] h₁ := by
      intro h0
      rw [h0, if_neg (by simp)] at hc
      exact next b (by omega) hc
    have out : titleOn x k i d t = false → ∀ {Q : Leaf → LH → Prop}, (∀ h, Y [.int .i64 b, .int .i64 (IntKind.wrap .i64 ((j : Int) + 1))] h → Q (.again [.int .i64 b, .int .i64 (IntKind.wrap .i64 ((j : Int) + 1))]) h) → Q (.again [.int .i64 b, .int .i64 (IntKind.wrap .i64 ((j : Int) + 1))]) h₁ := fun h0 _ hQ => hQ _ (skip h0)
    have hold : titleOn x k i d t = true → ∀ b', b' = dated x k i d (titleDate t) → (if b < 0 ∨ b' < b then b' else b) = (if b < 0 ∨ b' < b then b' else b) ∧ dateOn x k i d = foldNeg (if b < 0 ∨ b' < b then b' else b) (((((titlesL x k i).drop (j + 1)).filter (titleOn x k i d)).map titleDate).map (dated x k i d)) := by
      rintro h1 b' rfl
      rw [h1, if_pos rfl, List.map_cons, List.map_cons, foldNeg] at hc
      exact ⟨rfl, hc⟩
    rcases titles_ask htm with ⟨a, rfl, ha⟩ | ⟨e, _, rfl, hpos⟩
    · have g0 := he 0 _ rfl
      have g1 := he 1 _ rfl
      have g2 := he 2 _ rfl
      have g3 := he 3 _ rfl
      have g4 := he 4 _ rfl
      have had2 := rt.askDay ha
      have href := rt.refuse
      have hon : titleOn x k i d (.ask a) = (decide (a ≤ d ∧ d < askEnd x k i a) && !refused x k i a d) := rfl
      (repeat (first | (with_reducible first | apply gA | apply gB | apply gC | apply gD | apply gE | apply gF | apply gG | apply gH | apply gI | apply gJ | apply gK | apply gL | apply gM | apply gN | apply gO | apply gP | apply gQ | apply gR | apply gP2 | apply gP3) | ((with_reducible first | apply gT | apply gS2); first | exact rfl | assumption | omega | exact ⟨⟩) | ((with_reducible first | apply gL0 | apply gL1 | apply gL2 | apply gL3 | apply gL4); assumption)))
      refine t_blk (fun vs h' => vs = [] ∧ titleOn x k i d (.ask a) = true ∧ h₁ = h') ?_ ?_
      · refine t_if (fun e3 => ?_) (fun e3 => ?_)
        · refine gR ?_
          show T.wp _ _ (bif Nat.beq 1 1 then _ else _) _ _
          refine t_cond (fun _ => ?_) (fun e => by cases e)
          (repeat (first | (with_reducible first | apply gA | apply gB | apply gC | apply gD | apply gE | apply gF | apply gG | apply gH | apply gI | apply gJ | apply gK | apply gL | apply gM | apply gN | apply gO | apply gP | apply gQ | apply gR | apply gP2 | apply gP3) | ((with_reducible first | apply gT | apply gS2); first | exact rfl | assumption | omega | exact ⟨⟩) | ((with_reducible first | apply gL0 | apply gL1 | apply gL2 | apply gL3 | apply gL4); assumption)))
          exact t_again (skip (by rw [hon, decide_eq_false (by omega)]; rfl))
        refine t_if (fun e4 => ?_) (fun e4 => ?_)
        · refine gR ?_
          show T.wp _ _ (bif Nat.beq 1 1 then _ else _) _ _
          refine t_cond (fun _ => ?_) (fun e => by cases e)
          (repeat (first | (with_reducible first | apply gA | apply gB | apply gC | apply gD | apply gE | apply gF | apply gG | apply gH | apply gI | apply gJ | apply gK | apply gL | apply gM | apply gN | apply gO | apply gP | apply gQ | apply gR | apply gP2 | apply gP3) | ((with_reducible first | apply gT | apply gS2); first | exact rfl | assumption | omega | exact ⟨⟩) | ((with_reducible first | apply gL0 | apply gL1 | apply gL2 | apply gL3 | apply gL4); assumption)))
          exact t_again (skip (by rw [hon, decide_eq_false (by omega)]; rfl))
        refine t_cond (fun _ => ?_) (fun e => by cases e)
        refine t_pu (c2077 (hx.le le1.1) k i (a := a) (by unfold IsI; omega) d) ?_
        (repeat (first | (with_reducible first | apply gA | apply gB | apply gC | apply gD | apply gE | apply gF | apply gG | apply gH | apply gI | apply gJ | apply gK | apply gL | apply gM | apply gN | apply gO | apply gP | apply gQ | apply gR | apply gP2 | apply gP3) | ((with_reducible first | apply gT | apply gS2); first | exact rfl | assumption | omega | exact ⟨⟩) | ((with_reducible first | apply gL0 | apply gL1 | apply gL2 | apply gL3 | apply gL4); assumption)))
        refine t_cond (fun e5 => ?_) (fun e5 => ?_)
        · refine gR ?_
          show T.wp _ _ (bif Nat.beq 1 1 then _ else _) _ _
          refine t_cond (fun _ => ?_) (fun e => by cases e)
          (repeat (first | (with_reducible first | apply gA | apply gB | apply gC | apply gD | apply gE | apply gF | apply gG | apply gH | apply gI | apply gJ | apply gK | apply gL | apply gM | apply gN | apply gO | apply gP | apply gQ | apply gR | apply gP2 | apply gP3) | ((with_reducible first | apply gT | apply gS2); first | exact rfl | assumption | omega | exact ⟨⟩) | ((with_reducible first | apply gL0 | apply gL1 | apply gL2 | apply gL3 | apply gL4); assumption)))
          exact t_again (skip (by rw [hon, e5]; simp))
        · exact t_again ⟨rfl, by rw [hon, e5, decide_eq_true (by omega)]; rfl, rfl⟩
      rintro vs _ ⟨rfl, hyes, rfl⟩
      (repeat (first | (with_reducible first | apply gA | apply gB | apply gC | apply gD | apply gE | apply gF | apply gG | apply gH | apply gI | apply gJ | apply gK | apply gL | apply gM | apply gN | apply gO | apply gP | apply gQ | apply gR | apply gP2 | apply gP3) | ((with_reducible first | apply gT | apply gS2); first | exact rfl | assumption | omega | exact ⟨⟩) | ((with_reducible first | apply gL0 | apply gL1 | apply gL2 | apply gL3 | apply gL4); assumption)))
      refine t_pu (c2078 (hx.le le1.1) k i d a hlow) ?_
      (repeat (first | (with_reducible first | apply gA | apply gB | apply gC | apply gD | apply gE | apply gF | apply gG | apply gH | apply gI | apply gJ | apply gK | apply gL | apply gM | apply gN | apply gO | apply gP | apply gQ | apply gR | apply gP2 | apply gP3) | ((with_reducible first | apply gT | apply gS2); first | exact rfl | assumption | omega | exact ⟨⟩) | ((with_reducible first | apply gL0 | apply gL1 | apply gL2 | apply gL3 | apply gL4); assumption)))
      have hh := (hold hyes _ rfl).2
      refine t_if (fun e6 => ?_) (fun e6 => ?_)
      · rw [if_pos (.inl e6)] at hh
        exact t_again (next _ (by omega) hh)
      · refine t_if (fun e7 => ?_) (fun e7 => ?_)
        · rw [if_pos (.inr e7)] at hh
          exact t_again (next _ (by omega) hh)
        · rw [if_neg (by show ¬ (b < 0 ∨ dated x k i d a < b); omega)] at hh
          exact t_again (next _ (by omega) hh)
    · have g0 := he 0 _ rfl
      have g1 := he 1 _ rfl
      have g2 := he 2 _ rfl
      have g3 := he 3 _ rfl
      have g4 := he 4 _ rfl
      have hon : titleOn x k i d (.turn (turned x k i e.day) e.day) = decide (e.day ≤ d ∧ d < limits x k i e.day) := rfl
      (repeat (first | (with_reducible first | apply gA | apply gB | apply gC | apply gD | apply gE | apply gF | apply gG | apply gH | apply gI | apply gJ | apply gK | apply gL | apply gM | apply gN | apply gO | apply gP | apply gQ | apply gR | apply gP2 | apply gP3) | ((with_reducible first | apply gT | apply gS2); first | exact rfl | assumption | omega | exact ⟨⟩) | ((with_reducible first | apply gL0 | apply gL1 | apply gL2 | apply gL3 | apply gL4); assumption)))
      refine t_blk (fun vs h' => vs = [] ∧ titleOn x k i d (.turn (turned x k i e.day) e.day) = true ∧ h₁ = h') ?_ ?_
      · refine t_if (fun e3 => ?_) (fun e3 => ?_)
        · refine gR ?_
          show T.wp _ _ (bif Nat.beq 1 1 then _ else _) _ _
          refine t_cond (fun _ => ?_) (fun e => by cases e)
          (repeat (first | (with_reducible first | apply gA | apply gB | apply gC | apply gD | apply gE | apply gF | apply gG | apply gH | apply gI | apply gJ | apply gK | apply gL | apply gM | apply gN | apply gO | apply gP | apply gQ | apply gR | apply gP2 | apply gP3) | ((with_reducible first | apply gT | apply gS2); first | exact rfl | assumption | omega | exact ⟨⟩) | ((with_reducible first | apply gL0 | apply gL1 | apply gL2 | apply gL3 | apply gL4); assumption)))
          exact t_again (skip (by rw [hon, decide_eq_false (by omega)]))
        refine t_if (fun e4 => ?_) (fun e4 => ?_)
        · refine gR ?_
          show T.wp _ _ (bif Nat.beq 1 1 then _ else _) _ _
          refine t_cond (fun _ => ?_) (fun e => by cases e)
          (repeat (first | (with_reducible first | apply gA | apply gB | apply gC | apply gD | apply gE | apply gF | apply gG | apply gH | apply gI | apply gJ | apply gK | apply gL | apply gM | apply gN | apply gO | apply gP | apply gQ | apply gR | apply gP2 | apply gP3) | ((with_reducible first | apply gT | apply gS2); first | exact rfl | assumption | omega | exact ⟨⟩) | ((with_reducible first | apply gL0 | apply gL1 | apply gL2 | apply gL3 | apply gL4); assumption)))
          exact t_again (skip (by rw [hon, decide_eq_false (by omega)]))
        refine t_cond (fun e => by cases e) (fun _ => ?_)
        exact t_again ⟨rfl, by rw [hon, decide_eq_true (by omega)], rfl⟩
      rintro vs _ ⟨rfl, hyes, rfl⟩
      (repeat (first | (with_reducible first | apply gA | apply gB | apply gC | apply gD | apply gE | apply gF | apply gG | apply gH | apply gI | apply gJ | apply gK | apply gL | apply gM | apply gN | apply gO | apply gP | apply gQ | apply gR | apply gP2 | apply gP3) | ((with_reducible first | apply gT | apply gS2); first | exact rfl | assumption | omega | exact ⟨⟩) | ((with_reducible first | apply gL0 | apply gL1 | apply gL2 | apply gL3 | apply gL4); assumption)))
      refine t_pu (c2078 (hx.le le1.1) k i d _ hlow) ?_
      (repeat (first | (with_reducible first | apply gA | apply gB | apply gC | apply gD | apply gE | apply gF | apply gG | apply gH | apply gI | apply gJ | apply gK | apply gL | apply gM | apply gN | apply gO | apply gP | apply gQ | apply gR | apply gP2 | apply gP3) | ((with_reducible first | apply gT | apply gS2); first | exact rfl | assumption | omega | exact ⟨⟩) | ((with_reducible first | apply gL0 | apply gL1 | apply gL2 | apply gL3 | apply gL4); assumption)))
      have hh := (hold hyes _ rfl).2
      refine t_if (fun e6 => ?_) (fun e6 => ?_)
      · rw [if_pos (.inl e6)] at hh
        exact t_again (next _ (by omega) hh)
      · refine t_if (fun e7 => ?_) (fun e7 => ?_)
        · rw [if_pos (.inr e7)] at hh
          exact t_again (next _ (by omega) hh)
        · rw [if_neg (by show ¬ (b < 0 ∨ dated x k i d (turned x k i e.day) < b); omega)] at hh
          exact t_again (next _ (by omega) hh)
  · (repeat (first | (with_reducible first | apply gA | apply gB | apply gC | apply gD | apply gE | apply gF | apply gG | apply gH | apply gI | apply gJ | apply gK | apply gL | apply gM | apply gN | apply gO | apply gP | apply gQ | apply gR | apply gP2 | apply gP3) | ((with_reducible first | apply gT | apply gS2); first | exact rfl | assumption | omega | exact ⟨⟩) | ((with_reducible first | apply gL0 | apply gL1 | apply gL2 | apply gL3 | apply gL4); assumption)))
    rw [List.drop_eq_nil_of_le (by omega)] at hc
    exact t_ret ⟨le1, by rw [hc]; rfl⟩
end Go.Proofs.YtbmfimaomcnkfaaDoor
end
section
namespace Go.TM
open Go Go.Conc
variable {P : Program}
theorem setCell_at {h : Cells} {r i : Nat} {m : Bool} {cs : Array Value} {el : TypeId} {v : Value} (hr : h r = some (m, .cells cs el (0, 0))) : h.setCell ⟨r, i, none⟩ v = h.upd r (m, .cells (cs.setIfInBounds i v) el (0, 0)) := by
  funext b
  unfold Cells.setCell Cells.upd
  by_cases e : b = r
  · subst e; simp [hr]
  · simp [e]
theorem t_newSt {X : XP} {Q : Leaf → LH → Prop} {h : LH} {e : TypeId} {v₀ v : Value} {k : Nat → T} (h1 : isOne v = true) (hk : ∀ r h', h.le h' → h.get r = none → h'.get = h.get.upd r (true, .cells #[v] e (0, 0)) → h'.get.cell? ⟨r, 0, none⟩ = some v → (k r).wp X P Q h') :
    (T.new e #[v₀] fun r => T.store (Addr.add ⟨r, 0, none⟩ 0) v (k r)).wp X P Q h := by
  refine t_new fun r hr => ?_
  have ha : Addr.add (⟨r, 0, none⟩ : Addr) 0 = ⟨r, 0, none⟩ := by rw [add_plain]
  rw [ha]
  refine t_storeU (o := 0) rfl h1 (by simp) ?_
  have : (#[v₀] : Array Value).setIfInBounds 0 v = #[v] := rfl
  rw [this]
  exact hk r _ (LH.upd_le hr) hr rfl (cell_upd rfl)
theorem cell_freeze (F : Nat → Bool) (h : Cells) (a : Addr) : (freezeC F h).cell? a = h.cell? a := by
  unfold Cells.cell? freezeC
  cases h a.block with
  | none => rfl
  | some x => obtain ⟨m, o⟩ := x; cases o <;> rfl
theorem rd_freeze (F : Nat → Bool) (h : Cells) : Rd h (freezeC F h) := fun a v hc => by rw [cell_freeze]; exact hc
theorem rd_drop {h : Cells} {c s : Nat} (hs : h c = some (true, .chan 0 #[] false s s false)) : Rd h (dropC h c) := by
  intro a v hc
  unfold Cells.cell? dropC at *
  by_cases e : a.block = c
  · rw [e, hs] at hc; cases hc
  · rw [if_neg e]; exact hc
def Hand2 (q1 q2 : Nat) (h : LH) : Prop := (h.chans = [] ∧ q1 ≠ q2 ∧ (∃ s, h.get q1 = some (true, .chan 0 #[] false s s false)) ∧ ∃ s, h.get q2 = some (true, .chan 0 #[] false s s false)) ∨ h.chans = [q2, q1]
theorem Hand2.le {q1 q2 : Nat} {h h' : LH} (hl : h.le h') (hd : Hand2 q1 q2 h) : Hand2 q1 q2 h' := by
  rcases hd with ⟨a, b, ⟨s, c⟩, t, d⟩ | a
  · exact .inl ⟨by rw [hl.2.1, a], b, ⟨s, hl.1 _ _ c⟩, t, hl.1 _ _ d⟩
  · exact .inr (by rw [hl.2.1, a])
theorem spawnW_two {f : FuncId} {cap : Array Value} {h : LH} {Q : LH → Prop} {s : Script} (q1 q2 : Nat) (hst : Hand2 q1 q2 h) (hne : s ≠ []) (hs : ∀ y ∈ s, y.1 = q1 ∨ y.1 = q2) (c : ∀ hc, Rd h.get hc → FWK XW P .deferred f cap ⟨hc, [], [], s⟩ fun _ _ => False)
    (hQ : ∀ h', Rd h.get h'.get → h'.chans = [q2, q1] → h'.todo = h.todo → h'.pend = h.pend ++ [s] → Q h') : SpawnW XT P (.func (.func f) #[] cap) #[] h Q := by
  have key : ∀ h1 : LH, Rd h.get h1.get → h1.chans = [q2, q1] → h1.todo = h.todo → h1.pend = h.pend → SpawnW XT P (.func (.func f) #[] cap) #[] h1 Q := by
    intro h1 r1 c1 t1 p1
    refine spawnW (fun _ => true) (freezeC (fun _ => true) h1.get) s hne (hargs := cap) (by simp) ?_ ?_ (c _ (r1.trans (rd_freeze _ _))) ?_
    · intro r x hx
      refine ⟨?_, hx⟩
      unfold freezeC at hx
      cases hy : h1.get r with
      | none => rw [hy] at hx; cases hx
      | some y => rw [hy] at hx; simp at hx; rw [← hx]
    · intro y hy
      rw [c1]
      rcases hs y hy with e | e <;> simp [e]
    · exact hQ _ (r1.trans (rd_freeze _ _)) c1 t1 (by show h1.pend ++ _ = _; rw [p1])
  rcases hst with ⟨h1, hq, ⟨s1, h2⟩, s2, h3⟩ | h1
  · refine SpawnW.opened q1 s1 h2 ?_
    have h3' : dropC h.get q1 q2 = some (true, .chan 0 #[] false s2 s2 false) := by unfold dropC; rw [if_neg (Ne.symm hq)]; exact h3
    refine SpawnW.opened q2 s2 h3' (key _ ((rd_drop h2).trans (rd_drop h3')) ?_ rfl rfl)
    show q2 :: q1 :: h.chans = _
    rw [h1]
  · exact key h (Rd.refl _) h1 rfl rfl
def scr (q1 q2 : Nat) (φ : Nat → Value → Cells → Prop) (ψ : Value → Cells → Prop) (x : Nat × Bool) : Script := if x.2 then [(q1, φ x.1), (q2, ψ)] else [(q2, ψ)]
theorem commW_sel {last : Bool} {q1 q2 : Nat} {z1 z2 : Value} {φ : Nat → Value → Cells → Prop} {ψ : Value → Cells → Prop} {rem : List (Nat × Bool)} {h : LH} {Q : Value → LH → Prop} (hp : h.pend = rem.map (scr q1 q2 φ ψ)) (hc : h.chans = [q2, q1]) (hq : q1 ≠ q2) (hne : rem ≠ [])
    (hQ1 : ∀ l1 i l2 v h₂, rem = l1 ++ (i, true) :: l2 → h₂.todo = h.todo → h₂.pend = (l1 ++ (i, false) :: l2).map (scr q1 q2 φ ψ) → h₂.chans = [q2, q1] → (∃ hv, φ i v hv ∧ hv.le h₂.get) → h.get.le h₂.get → Q (commResult #[rcase q1 z1, rcase q2 z2] .select (0 : Nat) v true) h₂)
    (hQ2 : ∀ l1 i l2 v h₂, rem = l1 ++ (i, false) :: l2 → h₂.todo = h.todo → h₂.pend = (l1 ++ l2).map (scr q1 q2 φ ψ) → ((l1 ++ l2 ≠ [] ∧ h₂.chans = [q2, q1]) ∨ (l1 ++ l2 = [] ∧ h₂.chans = [])) → (∃ hv, ψ v hv) → h.get.le h₂.get → Q (commResult #[rcase q1 z1, rcase q2 z2] .select (1 : Nat) v true) h₂) : CommW XT P last #[rcase q1 z1, rcase q2 z2] .select h Q := by
  refine CommW.closed (CommW.closed (commW_recv ?_ (by rw [hp]; simpa using hne) ?_ ?_))
  · intro k cc hk
    match k, hk with
    | 0, hk => simp at hk; subst hk; exact ⟨q1, z1, rfl, by rw [hc]; simp⟩
    | 1, hk => simp at hk; subst hk; exact ⟨q2, z2, rfl, by rw [hc]; simp⟩
    | k + 2, hk => simp at hk
  · intro s hs
    rw [hp] at hs
    obtain ⟨⟨i, b⟩, hi, rfl⟩ := List.mem_map.1 hs
    cases b with
    | true => exact ⟨q1, φ i, [(q2, ψ)], 0, z1, rfl, rfl⟩
    | false => exact ⟨q2, ψ, [], 1, z2, rfl, rfl⟩
  · intro pre χ s post k c v hv z' hpe hcase hd hown hφ
    rw [hp] at hpe
    obtain ⟨l1, l2, rfl, hl1, hl2⟩ := List.map_eq_append_iff.1 hpe
    obtain ⟨⟨i, b⟩, l3, rfl, hi, hl3⟩ := List.map_eq_cons_iff.1 hl2
    have le1 : h.get.le (h.get.add hv) := Cells.le_add _ _
    have le2 : hv.le (h.get.add hv) := fun r x hr => Cells.add_right' hd hr
    cases b with
    | true =>
      simp only [scr, if_true, List.cons.injEq, Prod.mk.injEq] at hi
      obtain ⟨⟨rfl, rfl⟩, rfl⟩ := hi
      have hk0 : k = 0 := by
        match k, hcase with
        | 0, _ => rfl
        | 1, hcase => simp [rcase] at hcase; exact absurd hcase.1.symm hq
        | k + 2, hcase => simp at hcase
      subst hk0
      refine .inl (.inl (hQ1 l1 i l3 v _ rfl rfl ?_ hc ⟨hv, hφ, le2⟩ le1))
      show pre ++ cons' [(q2, ψ)] post = _
      rw [← hl1, ← hl3, List.map_append, List.map_cons]
      rfl
    | false =>
      simp only [scr, Bool.false_eq_true, if_false, List.cons.injEq, Prod.mk.injEq] at hi
      obtain ⟨⟨rfl, rfl⟩, rfl⟩ := hi
      have hk1 : k = 1 := by
        match k, hcase with
        | 0, hcase => simp [rcase] at hcase; exact absurd hcase.1 hq
        | 1, _ => rfl
        | k + 2, hcase => simp at hcase
      subst hk1
      have hpend : pre ++ cons' [] post = (l1 ++ l3).map (scr q1 q2 φ ψ) := by
        show pre ++ post = _
        rw [← hl1, ← hl3, List.map_append]
      by_cases hn : l1 ++ l3 = []
      · right
        refine ⟨q2, by show q2 ∈ h.chans; rw [hc]; simp, by show pre ++ cons' [] post = []; rw [hpend, hn]; rfl, fun s hs => ?_⟩
        right
        refine ⟨q1, ?_, by show pre ++ cons' [] post = []; rw [hpend, hn]; rfl, fun s' hs' => ?_⟩
        · show q1 ∈ h.chans.filter _
          rw [hc]; simp [hq]
        · refine hQ2 l1 i l3 v _ rfl rfl hpend (.inr ⟨hn, ?_⟩) ⟨hv, hφ⟩ ?_
          · show (h.chans.filter _).filter _ = []
            rw [hc]
            simp [hq]
          · exact Cells.le_trans le1 (Cells.le_trans (Cells.le_upd _ hs) (Cells.le_upd _ hs'))
      · exact .inl (.inl (hQ2 l1 i l3 v _ rfl rfl hpend (.inl ⟨hn, hc⟩) ⟨hv, hφ⟩ le1))
/-! ### Two channels and their boxes, made in any order -/
structure Opening (t1 t2 : TypeId) (h₀ h : LH) (c1 c2 : Option Nat) (b1 b2 : Option (Nat × Bool)) : Prop where
  le : h₀.le h
  hc1 : ∀ q, c1 = some q → h.get q = some (true, .chan 0 #[] false 0 0 false)
  hc2 : ∀ q, c2 = some q → h.get q = some (true, .chan 0 #[] false 0 0 false)
  ne : ∀ q q', c1 = some q → c2 = some q' → q ≠ q'
  hb1 : ∀ r s, b1 = some (r, s) → h₀.get r = none ∧ h.get r = some (true, .cells #[.chan (if s then c1 else none)] t1 (0, 0))
  hb2 : ∀ r s, b2 = some (r, s) → h₀.get r = none ∧ h.get r = some (true, .cells #[.chan (if s then c2 else none)] t2 (0, 0))
  bne : ∀ r s r' s', b1 = some (r, s) → b2 = some (r', s') → r ≠ r'
section
variable {X : XP} {Q : Leaf → LH → Prop} {h₀ h : LH} {c1 c2 : Option Nat} {b1 b2 : Option (Nat × Bool)} {t1 t2 : TypeId}
theorem Opening.start : Opening t1 t2 h₀ h₀ none none none none := ⟨LH.le_refl _, fun _ h => (by cases h), fun _ h => (by cases h), fun _ _ h => (by cases h), fun _ _ h => (by cases h), fun _ _ h => (by cases h), fun _ _ _ _ h => (by cases h)⟩
theorem ne_of_get {h : Cells} {a b : Nat} {x : Bool × Obj} (ha : h a = none) (hb : h b = some x) : b ≠ a := by rintro rfl; rw [ha] at hb; cases hb
theorem op_chan1 {k : Value → T} {el : TypeId} {d : ChanDir} {s b : Nat} {z : Option Value} (hu : P.underlying t1 = some (.chan d el)) (hi : (P.info? el).map (fun i => (i.size, i.bytes, i.zero)) = some (s, b, z)) (O : Opening t1 t2 h₀ h none c2 b1 b2)
    (hk : ∀ q h', Opening t1 t2 h₀ h' (some q) c2 (b1.map fun x => (x.1, false)) b2 → (k (.chan (some q))).wp X P Q h') : (T.sem false (Instr.makeChan t1 (.int .i64 0)) k).wp X P Q h := by
  refine t_makeChan hu hi fun q hq => hk q _ ?_
  have hle := LH.upd_le (x := (true, .chan 0 #[] false 0 0 false)) hq
  refine ⟨LH.le_trans O.le hle, fun q' e => by cases e; exact Cells.upd_self _ _ _, fun q' e => hle.1 _ _ (O.hc2 q' e), fun a b ha hb => by cases ha; exact (ne_of_get hq (O.hc2 b hb)).symm, fun r s hr => ?_, fun r s hr => ⟨(O.hb2 r s hr).1, hle.1 _ _ (O.hb2 r s hr).2⟩, fun r s r' s' h1 h2 => ?_⟩
  · cases hb : b1 with
    | none => rw [hb] at hr; cases hr
    | some x =>
      rw [hb] at hr; cases hr
      have := O.hb1 x.1 x.2 hb
      refine ⟨this.1, ?_⟩
      have h3 := hle.1 _ _ this.2
      rw [h3]; cases x.2 <;> rfl
  · cases hb : b1 with
    | none => rw [hb] at h1; cases h1
    | some x => rw [hb] at h1; cases h1; exact O.bne x.1 x.2 r' s' hb h2
theorem op_chan2 {k : Value → T} {el : TypeId} {d : ChanDir} {s b : Nat} {z : Option Value} (hu : P.underlying t2 = some (.chan d el)) (hi : (P.info? el).map (fun i => (i.size, i.bytes, i.zero)) = some (s, b, z)) (O : Opening t1 t2 h₀ h c1 none b1 b2)
    (hk : ∀ q h', Opening t1 t2 h₀ h' c1 (some q) b1 (b2.map fun x => (x.1, false)) → (k (.chan (some q))).wp X P Q h') : (T.sem false (Instr.makeChan t2 (.int .i64 0)) k).wp X P Q h := by
  refine t_makeChan hu hi fun q hq => hk q _ ?_
  have hle := LH.upd_le (x := (true, .chan 0 #[] false 0 0 false)) hq
  refine ⟨LH.le_trans O.le hle, fun q' e => hle.1 _ _ (O.hc1 q' e), fun q' e => by cases e; exact Cells.upd_self _ _ _, fun a b ha hb => by cases hb; exact ne_of_get hq (O.hc1 a ha), fun r s hr => ⟨(O.hb1 r s hr).1, hle.1 _ _ (O.hb1 r s hr).2⟩, fun r s hr => ?_, fun r s r' s' h1 h2 => ?_⟩
  · cases hb : b2 with
    | none => rw [hb] at hr; cases hr
    | some x =>
      rw [hb] at hr; cases hr
      have := O.hb2 x.1 x.2 hb
      refine ⟨this.1, ?_⟩
      have h3 := hle.1 _ _ this.2
      rw [h3]; cases x.2 <;> rfl
  · cases hb : b2 with
    | none => rw [hb] at h2; cases h2
    | some x => rw [hb] at h2; cases h2; exact O.bne r s x.1 x.2 h1 hb
theorem op_new1 {k : Nat → T} (O : Opening t1 t2 h₀ h c1 c2 none b2) (hk : ∀ r h', Opening t1 t2 h₀ h' c1 c2 (some (r, false)) b2 → (k r).wp X P Q h') : (T.new t1 #[.chan none] k).wp X P Q h := by
  refine t_new fun q hq => hk q _ ?_
  have hle := LH.upd_le (x := (true, .cells #[.chan none] t1 (0, 0))) hq
  have h0 : h₀.get q = none := by
    cases hx : h₀.get q with
    | none => rfl
    | some x => rw [O.le.1 _ _ hx] at hq; cases hq
  exact ⟨LH.le_trans O.le hle, fun q' e => hle.1 _ _ (O.hc1 q' e), fun q' e => hle.1 _ _ (O.hc2 q' e), O.ne, fun r s hr => by cases hr; exact ⟨h0, Cells.upd_self _ _ _⟩, fun r s hr => ⟨(O.hb2 r s hr).1, hle.1 _ _ (O.hb2 r s hr).2⟩, fun r s r' s' h1 h2 => by cases h1; exact (ne_of_get hq (O.hb2 r' s' h2).2).symm⟩
theorem op_new2 {k : Nat → T} (O : Opening t1 t2 h₀ h c1 c2 b1 none) (hk : ∀ r h', Opening t1 t2 h₀ h' c1 c2 b1 (some (r, false)) → (k r).wp X P Q h') : (T.new t2 #[.chan none] k).wp X P Q h := by
  refine t_new fun q hq => hk q _ ?_
  have hle := LH.upd_le (x := (true, .cells #[.chan none] t2 (0, 0))) hq
  have h0 : h₀.get q = none := by
    cases hx : h₀.get q with
    | none => rfl
    | some x => rw [O.le.1 _ _ hx] at hq; cases hq
  exact ⟨LH.le_trans O.le hle, fun q' e => hle.1 _ _ (O.hc1 q' e), fun q' e => hle.1 _ _ (O.hc2 q' e), O.ne, fun r s hr => ⟨(O.hb1 r s hr).1, hle.1 _ _ (O.hb1 r s hr).2⟩, fun r s hr => by cases hr; exact ⟨h0, Cells.upd_self _ _ _⟩, fun r s r' s' h1 h2 => by cases h2; exact ne_of_get hq (O.hb1 r s h1).2⟩
theorem op_store1 {k : T} {q r : Nat} (O : Opening t1 t2 h₀ h (some q) c2 (some (r, false)) b2) (hk : ∀ h', Opening t1 t2 h₀ h' (some q) c2 (some (r, true)) b2 → k.wp X P Q h') : (T.store (Addr.add ⟨r, 0, none⟩ 0) (.chan (some q)) k).wp X P Q h := by
  have hr := (O.hb1 r false rfl).2
  have ha : Addr.add (⟨r, 0, none⟩ : Addr) 0 = ⟨r, 0, none⟩ := by rw [add_plain]
  rw [ha]
  refine t_store rfl ⟨_, hr⟩ (v₀ := .chan none) (by simp [Cells.cell?, hr]) (by simp [Cells.frozen?, hr]) ?_
  rw [setCell_at hr]
  refine hk _ ?_
  have keep : ∀ b x, h.get b = some x → b ≠ r → (h.get.upd r (true, .cells ((#[.chan (if false = true then some q else none)] : Array Value).setIfInBounds 0 (.chan (some q))) t1 (0, 0))) b = some x := fun b x hb hne => by rw [Cells.upd_ne _ _ hne]; exact hb
  have cne : ∀ b, h.get b = some (true, .chan 0 #[] false 0 0 false) → b ≠ r := fun b hb e => by rw [e, hr] at hb; cases hb
  refine ⟨⟨fun b x hb => keep b x (O.le.1 b x hb) (ne_of_get (O.hb1 r false rfl).1 hb), O.le.2⟩, fun q' e => keep _ _ (O.hc1 q' e) (cne _ (O.hc1 q' e)), fun q' e => keep _ _ (O.hc2 q' e) (cne _ (O.hc2 q' e)), O.ne, fun r' s hr' => ?_, fun r' s hr' => ⟨(O.hb2 r' s hr').1, keep _ _ (O.hb2 r' s hr').2 (O.bne r false r' s rfl hr').symm⟩, fun a s r' s' h1 h2 => by cases h1; exact O.bne r false r' s' rfl h2⟩
  cases hr'
  exact ⟨(O.hb1 r false rfl).1, Cells.upd_self _ _ _⟩
theorem op_store2 {k : T} {q r : Nat} (O : Opening t1 t2 h₀ h c1 (some q) b1 (some (r, false))) (hk : ∀ h', Opening t1 t2 h₀ h' c1 (some q) b1 (some (r, true)) → k.wp X P Q h') : (T.store (Addr.add ⟨r, 0, none⟩ 0) (.chan (some q)) k).wp X P Q h := by
  have hr := (O.hb2 r false rfl).2
  have ha : Addr.add (⟨r, 0, none⟩ : Addr) 0 = ⟨r, 0, none⟩ := by rw [add_plain]
  rw [ha]
  refine t_store rfl ⟨_, hr⟩ (v₀ := .chan none) (by simp [Cells.cell?, hr]) (by simp [Cells.frozen?, hr]) ?_
  rw [setCell_at hr]
  refine hk _ ?_
  have keep : ∀ b x, h.get b = some x → b ≠ r → (h.get.upd r (true, .cells ((#[.chan (if false = true then some q else none)] : Array Value).setIfInBounds 0 (.chan (some q))) t2 (0, 0))) b = some x := fun b x hb hne => by rw [Cells.upd_ne _ _ hne]; exact hb
  have cne : ∀ b, h.get b = some (true, .chan 0 #[] false 0 0 false) → b ≠ r := fun b hb e => by rw [e, hr] at hb; cases hb
  refine ⟨⟨fun b x hb => keep b x (O.le.1 b x hb) (ne_of_get (O.hb2 r false rfl).1 hb), O.le.2⟩, fun q' e => keep _ _ (O.hc1 q' e) (cne _ (O.hc1 q' e)), fun q' e => keep _ _ (O.hc2 q' e) (cne _ (O.hc2 q' e)), O.ne, fun r' s hr' => ⟨(O.hb1 r' s hr').1, keep _ _ (O.hb1 r' s hr').2 (O.bne r' s r false hr' rfl)⟩, fun r' s hr' => ?_, fun a s r' s' h1 h2 => by cases h2; exact O.bne a s r false h1 rfl⟩
  cases hr'
  exact ⟨(O.hb2 r false rfl).1, Cells.upd_self _ _ _⟩
end
end Go.TM
end
section
namespace Go.Proofs.YtbmfimaomcnkfaaDoor
open Go Go.TM Go.Proofs Go.TM.Tr
attribute [local irreducible] T.wp CV FWK
theorem bit_test {i j : Nat} (hi : i < 2 ^ 32) : (IntKind.wrap .i64 (((BitVec.ofInt 64 (Int.fdiv (i : Int) (2 ^ min (j : Int).toNat 64)) &&& BitVec.ofInt 64 1).toNat : Nat) : Int) == 1) = i.testBit j := by
  have hq : ∃ q : Nat, Int.fdiv (i : Int) (2 ^ min (j : Int).toNat 64) = (q : Int) ∧ q ≤ i ∧ q % 2 = (i / 2 ^ j) % 2 := by
    by_cases hj : j ≤ 64
    · have hm : min (j : Int).toNat 64 = j := by simp; omega
      refine ⟨i / 2 ^ j, ?_, Nat.div_le_self _ _, rfl⟩
      rw [hm]
      have : (2 ^ j : Int) = ((2 ^ j : Nat) : Int) := by simp
      rw [this, ← Int.ofNat_fdiv]
    · have hm : min (j : Int).toNat 64 = 64 := by simp; omega
      refine ⟨0, ?_, Nat.zero_le _, ?_⟩
      · rw [hm]
        have : (2 ^ 64 : Int) = ((2 ^ 64 : Nat) : Int) := by simp
        rw [this, ← Int.ofNat_fdiv]
        have : i / 2 ^ 64 = 0 := Nat.div_eq_of_lt (by omega)
        rw [this]
      · have : i / 2 ^ j = 0 := Nat.div_eq_of_lt (Nat.lt_of_lt_of_le hi (Nat.pow_le_pow_right (by omega) (by omega)))
        rw [this]
  obtain ⟨q, h1, h2, h3⟩ := hq
  rw [h1]
  have a1 : (BitVec.ofInt 64 (q : Int)).toNat = q := by rw [BitVec.toNat_ofInt]; omega
  have a2 : (BitVec.ofInt 64 1).toNat = 1 := rfl
  rw [BitVec.toNat_and, a1, a2, Nat.and_one_is_mod, wrap_id (by omega) (by omega), Nat.testBit_eq_decide_div_mod_eq, ← h3]
  by_cases e : q % 2 = 1
  · rw [e]; rfl
  · have : q % 2 = 0 := by omega
    rw [this]; rfl
theorem sets_wrap {n : Nat} (hn : n ≤ 10) : IntKind.wrap .i64 (1 * 2 ^ min (Int.toNat (n : Int)) 64) = ((2 ^ n : Nat) : Int) := by
  have e : min (Int.toNat (n : Int)) 64 = n := by simp; omega
  have h2 : (2 : Nat) ^ n ≤ 2 ^ 10 := Nat.pow_le_pow_right (by omega) hn
  have e2 : (1 : Int) * 2 ^ n = ((2 ^ n : Nat) : Int) := by simp
  rw [e, e2]
  generalize 2 ^ n = m at h2
  rw [wrap_id (by omega) (by omega)]
def bitsTo (l : List Int) (i j : Nat) : List Int := (((List.range l.length).take j).filter fun b => i.testBit b).map fun b => l.getD b 0
def bitsL (l : List Int) (i : Nat) : List Int := ((List.range l.length).filter fun b => i.testBit b).map fun b => l.getD b 0
theorem bits_all {l : List Int} {i j : Nat} (hj : l.length ≤ j) : bitsTo l i j = bitsL l i := by
  unfold bitsTo bitsL
  rw [List.take_of_length_le (by simpa using hj)]
theorem bits_take {l : List Int} {i j : Nat} {y : Int} (hy : l[j]? = some y) : bitsTo l i (j + 1) = bitsTo l i j ++ if i.testBit j then [y] else [] := by
  have hj : j < l.length := (List.getElem?_eq_some_iff.1 hy).1
  unfold bitsTo
  rw [List.take_succ_eq_append_getElem (by simpa using hj), List.filter_append, List.map_append]
  congr 1
  simp only [List.getElem_range, List.filter_cons, List.filter_nil]
  split
  · simp [List.getD, hy]
  · rfl
theorem range_getD (l : List Int) : (List.range l.length).map (fun b => l.getD b 0) = l := by
  refine List.ext_getElem (by simp) fun i h1 h2 => ?_
  simp [List.getD, List.getElem?_eq_getElem h2]
theorem bits_len {l : List Int} {i j : Nat} : (bitsTo l i j).length ≤ l.length := by
  unfold bitsTo
  rw [List.length_map]
  refine Nat.le_trans (List.length_filter_le _ _) ?_
  rw [List.length_take, List.length_range]; omega
theorem bits_sub {l : List Int} {i : Nat} : (bitsL l i).Sublist l := by
  unfold bitsL
  have h : ((List.range l.length).filter fun b => i.testBit b).Sublist (List.range l.length) := List.filter_sublist
  have := h.map fun b => l.getD b 0
  rwa [range_getD] at this
theorem sub_bits {l m : List Int} (hn : l.Nodup) (h : m.Sublist l) : ∃ i, i < 2 ^ l.length ∧ bitsL l i = m := by
  obtain ⟨i, hi, hb⟩ := bits_of (fun b => decide (l.getD b 0 ∈ m)) l.length
  refine ⟨i, hi, ?_⟩
  unfold bitsL
  rw [List.filter_congr (q := (fun x => decide (x ∈ m)) ∘ fun b => l.getD b 0) fun b hbm => hb b (List.mem_range.1 hbm), ← List.filter_map, range_getD]
  exact filter_sub h hn
structure TAt (h : Cells) (a : Addr) (f : TC) (x : TF) : Prop where
  f0 : h.cell? (a.add 0) = some (.int .i64 x.items)
  f1 : h.cell? (a.add 1) = some (.int .i64 x.lands)
  f2 : h.cell? (a.add 2) = some (.int .i64 x.start)
  f3 : h.cell? (a.add 3) = some (.int .i64 x.depend)
  f4 : h.cell? (a.add 4) = some (.int .i64 x.refuse)
  f5 : h.cell? (a.add 5) = some (.int .i64 x.turn)
  f6 : h.cell? (a.add 6) = some (.slice f.p f.n f.c)
theorem TAt.rd {h h' : Cells} {a : Addr} {f : TC} {x : TF} (hl : Rd h h') (m : TAt h a f x) : TAt h' a f x := ⟨hl _ _ m.f0, hl _ _ m.f1, hl _ _ m.f2, hl _ _ m.f3, hl _ _ m.f4, hl _ _ m.f5, hl _ _ m.f6⟩
theorem TAt.le {h h' : Cells} {a : Addr} {f : TC} {x : TF} (hl : h.le h') (m : TAt h a f x) : TAt h' a f x := m.rd (Rd.of_le hl)
def Found (x : TF) (i : Nat) (v : Value) (hv : Cells) : Prop := ∃ a n c, v = .slice (some a) n c ∧ Sl IntE 1 hv (some a) n (bitsL (giving x) i) ∧ n ≤ c
def Done (v : Value) (_ : Cells) : Prop := v = .bool true
def okB (x : TF) (k it d : Int) (i : Nat) : Bool := holdsB x k it d (bitsL (giving x) i)
theorem giving_ten {x : TF} (rt : Right x) : (giving x).length ≤ 10 := by
  have := giving_len x.events 0
  have := rt.many
  unfold giving; omega
theorem c2073 {hc : Cells} {q1 q2 i : Nat} {z0 z1 z2 z3 z4 z5 z6 z7 : Addr} {f : TC} {x : TF} {k it d : Int} (hk : Kinds hc) (hx : TreatyR hc f x) (rt : Right x) (hkd : KindsOk x) (hat : TAt hc z2 f x) (hi : i < 2 ^ 32)
    {ap : Option Addr} {an ac : Nat} (h0 : hc.cell? z0 = some (.slice ap an ac)) (hal : Sl IntE 1 hc ap an (giving x)) (h1 : hc.cell? z1 = some (.int .i64 (i : Int))) (h3 : hc.cell? z3 = some (.int .i64 k)) (h4 : hc.cell? z4 = some (.int .i64 it)) (h5 : hc.cell? z5 = some (.int .i64 d))
    (h6 : hc.cell? z6 = some (.chan (some q1))) (h7 : hc.cell? z7 = some (.chan (some q2))) :
    FWK XW Tryd.prog .deferred 73 #[.pointer (some z0), .pointer (some z1), .pointer (some z2), .pointer (some z3), .pointer (some z4), .pointer (some z5), .pointer (some z6), .pointer (some z7)] ⟨hc, [], [], scr q1 q2 (Found x) Done (i, okB x k it d i)⟩ fun _ _ => False := by
  generalize htd : scr q1 q2 (Found x) Done (i, okB x k it d i) = td
  refine w2073 _ _ _ _ _ _ _ _ XW_ok ?_
  unfold n2073
  have hn := hal.1
  have h10 := giving_ten rt
  refine t_build0 und50 inf3 fun b0 hb0 => ?_
  have le0 : LH.le ⟨hc, [], [], td⟩ _ := LH.upd_le (x := (true, .cells #[] 3 (0, 0))) hb0
  have k0 := Cells.cell?_le le0.1 h0
  (repeat (first | (with_reducible first | apply gA | apply gB | apply gC | apply gD | apply gE | apply gF | apply gG | apply gH | apply gI | apply gJ | apply gK | apply gL | apply gM | apply gN | apply gO | apply gP | apply gQ | apply gR | apply gP2 | apply gP3) | ((with_reducible first | apply gT | apply gS2); first | exact rfl | assumption | omega | exact ⟨⟩) | ((with_reducible first | apply gL0 | apply gL1 | apply gL2 | apply gL3 | apply gL4); assumption)))
  refine t_loop (fun mm vs h' => LH.le ⟨hc, [], [], td⟩ h' ∧ ∃ (j : Nat) (a : Addr) (n c : Nat), vs = [.slice (some a) n c, .int .i64 j] ∧ j ≤ an ∧ mm = an - j ∧ Growing IntEnc 3 1 hc h'.get (some a) n c (bitsTo (giving x) i j))
    ⟨le0, 0, _, 0, 0, rfl, Nat.zero_le _, rfl, ⟨[], ⟨rfl, .inr ⟨b0, #[], rfl, Cells.upd_self _ _ _, rfl, Nat.le_refl _, fun j v hv => by simp at hv⟩⟩, by unfold bitsTo; exact .nil⟩, fun a ha => by cases ha; exact hb0⟩ ?_
  rintro Y mm vs h₁ hY ⟨hle, j, a, n, c, rfl, hj, rfl, g⟩
  have hng := g.count IntEnc.len (by omega)
  have hlen := bits_len (l := giving x) (i := i) (j := j)
  (repeat (first | (with_reducible first | apply gA | apply gB | apply gC | apply gD | apply gE | apply gF | apply gG | apply gH | apply gI | apply gJ | apply gK | apply gL | apply gM | apply gN | apply gO | apply gP | apply gQ | apply gR | apply gP2 | apply gP3) | ((with_reducible first | apply gT | apply gS2); first | exact rfl | assumption | omega | exact ⟨⟩) | ((with_reducible first | apply gL0 | apply gL1 | apply gL2 | apply gL3 | apply gL4); assumption)))
  refine t_if (fun e1 => ?_) (fun e1 => ?_)
  · obtain ⟨y, ya, hy, hya, e2⟩ := (hal.le IntE.grow hle.1).at (i := j) (by omega)
    unfold IntE at e2
    have k1 := Cells.cell?_le hle.1 h1
    (repeat (first | (with_reducible first | apply gA | apply gB | apply gC | apply gD | apply gE | apply gF | apply gG | apply gH | apply gI | apply gJ | apply gK | apply gL | apply gM | apply gN | apply gO | apply gP | apply gQ | apply gR | apply gP2 | apply gP3) | ((with_reducible first | apply gT | apply gS2); first | exact rfl | assumption | omega | exact ⟨⟩) | ((with_reducible first | apply gL0 | apply gL1 | apply gL2 | apply gL3 | apply gL4); assumption)))
    rw [bit_test hi]
    have hst := bits_take (i := i) hy
    refine t_cond (fun b => ?_) (fun b => ?_)
    · rw [if_pos b] at hst
      refine t_push (h₀ := ⟨hc, [], [], td⟩) y [.int .i64 y] rfl rfl und50 inf3 rfl (by omega) (by decide) (by kernel_rfl) rfl (by simp; rfl) (by omega) g hle rfl ?_
      intro p' c' h₂ hle2 _ g2
      (repeat (first | (with_reducible first | apply gA | apply gB | apply gC | apply gD | apply gE | apply gF | apply gG | apply gH | apply gI | apply gJ | apply gK | apply gL | apply gM | apply gN | apply gO | apply gP | apply gQ | apply gR | apply gP2 | apply gP3) | ((with_reducible first | apply gT | apply gS2); first | exact rfl | assumption | omega | exact ⟨⟩) | ((with_reducible first | apply gL0 | apply gL1 | apply gL2 | apply gL3 | apply gL4); assumption)))
      obtain ⟨a', rfl⟩ : ∃ a', p' = some a' := by
        obtain ⟨vs, ⟨_, h6⟩, _⟩ := g2.row
        rcases h6 with ⟨_, h7, _⟩ | ⟨r, cs, h7, _⟩
        · omega
        · exact ⟨_, h7⟩
      refine t_again (hY (an - (j + 1)) _ _ (by omega) ⟨hle2, j + 1, a', n + 1, c', ?_, by omega, rfl, by rw [hst]; exact g2⟩)
      rw [wrap_id (by omega) (by omega)]; rfl
    · rw [if_neg (by rw [b]; simp), List.append_nil] at hst
      refine t_again (hY (an - (j + 1)) _ _ (by omega) ⟨hle, j + 1, a, n, c, ?_, by omega, rfl, by rw [hst]; exact g⟩)
      rw [wrap_id (by omega) (by omega)]; rfl
  · (repeat (first | (with_reducible first | apply gA | apply gB | apply gC | apply gD | apply gE | apply gF | apply gG | apply gH | apply gI | apply gJ | apply gK | apply gL | apply gM | apply gN | apply gO | apply gP | apply gQ | apply gR | apply gP2 | apply gP3) | ((with_reducible first | apply gT | apply gS2); first | exact rfl | assumption | omega | exact ⟨⟩) | ((with_reducible first | apply gL0 | apply gL1 | apply gL2 | apply gL3 | apply gL4); assumption)))
    rw [bits_all (by omega)] at g
    rw [bits_all (by omega)] at hlen
    obtain ⟨g0, g1, g2, g3, g4, g5, g6⟩ := hat.le hle.1
    have k3 := Cells.cell?_le hle.1 h3
    have k4 := Cells.cell?_le hle.1 h4
    have k5 := Cells.cell?_le hle.1 h5
    (repeat (first | (with_reducible first | apply gA | apply gB | apply gC | apply gD | apply gE | apply gF | apply gG | apply gH | apply gI | apply gJ | apply gK | apply gL | apply gM | apply gN | apply gO | apply gP | apply gQ | apply gR | apply gP2 | apply gP3) | ((with_reducible first | apply gT | apply gS2); first | exact rfl | assumption | omega | exact ⟨⟩) | ((with_reducible first | apply gL0 | apply gL1 | apply gL2 | apply gL3 | apply gL4); assumption)))
    refine t_gr (c2069 (hk.le hle.1) (hx.le hle.1) rt hkd k it d (g.sl IntEnc.len (by omega) IntEnc.e (by omega))) ?_
    rintro _ h₂ le2 rfl
    have hle2 := LH.le_trans hle le2
    have k6 := Cells.cell?_le hle2.1 h6
    have k7 := Cells.cell?_le hle2.1 h7
    (repeat (first | (with_reducible first | apply gA | apply gB | apply gC | apply gD | apply gE | apply gF | apply gG | apply gH | apply gI | apply gJ | apply gK | apply gL | apply gM | apply gN | apply gO | apply gP | apply gQ | apply gR | apply gP2 | apply gP3) | ((with_reducible first | apply gT | apply gS2); first | exact rfl | assumption | omega | exact ⟨⟩) | ((with_reducible first | apply gL0 | apply gL1 | apply gL2 | apply gL3 | apply gL4); assumption)))
    refine t_cond (fun b => ?_) (fun b => ?_)
    · refine t_loadC k6 ?_
      refine t_comm ?_
      have b' : okB x k it d i = true := b
      have htd' : td = [(q1, Found x i), (q2, Done)] := by rw [← htd, b']; rfl
      have g7 := g.le le2.1
      obtain ⟨vs, ⟨o1, o2⟩, rows⟩ := g7.row
      rcases o2 with ⟨o3, _⟩ | ⟨r, cs, o3, o4, o5, o6, o7⟩
      · cases o3
      · cases o3
        have hnew : hc r = none := g.new _ rfl
        refine commW_send (z := .tuple #[]) (φ := Found x i) (s := [(q2, Done)]) (hv := fun b => if b = r then h₂.get b else none) (hr := fun b => if b = r then none else h₂.get b) (hle2.2.2.2.trans htd') ?_ (fun b => ?_) (fun b x hx => ?_) ?_ (fun h => by cases h) (fun _ => ?_)
        · funext b
          unfold Cells.add
          by_cases e : b = r
          · subst e; simp [o4]
          · simp [e]
        · by_cases e : b = r
          · right; simp [e]
          · left; simp [e]
        · have hx' : (if b = r then h₂.get b else none) = some x := hx
          split at hx'
          · rename_i e; subst e; rw [o4] at hx'; cases hx'; rfl
          · cases hx'
        · refine ⟨_, _, _, rfl, ?_, o6⟩
          refine rows.sl IntEnc.len (by omega) IntEnc.e (el := 3) ⟨o1, .inr ⟨r, cs, rfl, ?_, o5, o6, o7⟩⟩ (by omega)
          show (if r = r then h₂.get r else none) = _
          rw [if_pos rfl]; exact o4
        · have hz : z7.block ≠ r := by
            intro e
            unfold Cells.cell? at h7
            rw [e, hnew] at h7; cases h7
          have k7' : Cells.cell? (fun b => if b = r then none else h₂.get b) z7 = some (.chan (some q2)) := by
            have hb : (fun b => if b = r then none else h₂.get b) z7.block = h₂.get z7.block := if_neg hz
            unfold Cells.cell? at k7 ⊢
            rw [hb]; exact k7
          refine t_loadC k7' ?_
          refine t_comm ?_
          refine commW_send (z := .tuple #[]) (φ := Done) (s := []) (hv := fun _ => none) (hr := fun b => if b = r then none else h₂.get b) rfl ?_ (fun r => .inl rfl) (fun r x hx => by cases hx) rfl (fun _ => rfl) (fun h => absurd rfl h)
          funext r; rfl
    · refine t_loadC k7 ?_
      refine t_comm ?_
      have b' : okB x k it d i = false := b
      have htd' : td = [(q2, Done)] := by rw [← htd, b']; rfl
      refine commW_send (z := .tuple #[]) (φ := Done) (s := []) (hv := fun _ => none) (hr := h₂.get) (hle2.2.2.2.trans htd') ?_ (fun r => .inl rfl) (fun r x hx => by cases hx) rfl (fun _ => rfl) (fun h => absurd rfl h)
      funext r; rfl
end Go.Proofs.YtbmfimaomcnkfaaDoor
end

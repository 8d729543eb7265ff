/- Contracts and laws for the proof, joined by a program. No condition. -/
import Derived.Test.YtibibhojkfapnaaDoorM3
set_option linter.all false
section
namespace Go.TM
open Go Go.Conc
variable {P : Program} {E : Halt → Cells → Prop} {h : Cells}
def isI64 (P : Program) (t : TypeId) : Bool := match P.underlying t with
  | some (.int .i64) => true
  | _ => false
def twoInts (P : Program) (t : TypeId) : Bool := match P.underlying t with
  | some (.struct fs) => (match fs.toList with
    | [a, b] => a.name != "_" && b.name != "_" && isI64 P a.type && isI64 P b.type && Nat.beq a.offset 0 && Nat.beq b.offset 1
    | _ => false) && !P.stoodInHeld t
  | _ => false
theorem isI64_und {t : TypeId} (ht : isI64 P t = true) : P.underlying t = some (.int .i64) := by
  unfold isI64 at ht
  split at ht
  · assumption
  · cases ht
theorem isI64_agg {t : TypeId} (ht : isI64 P t = true) : isAggT P t = false := by
  unfold isAggT; rw [isI64_und ht]
theorem twoInts_spec {t : TypeId} (ht : twoInts P t = true) : ∃ a b : Field, P.underlying t = some (.struct #[a, b]) ∧ a.name ≠ "_" ∧ b.name ≠ "_" ∧ isI64 P a.type = true ∧ isI64 P b.type = true ∧ a.offset = 0 ∧ b.offset = 1 ∧ P.stoodInHeld t = false := by
  unfold twoInts at ht
  split at ht
  · rename_i fs hu
    simp only [Bool.and_eq_true, Bool.not_eq_true'] at ht
    obtain ⟨h1, h2⟩ := ht
    split at h1
    · rename_i a b hfs
      simp only [Bool.and_eq_true, bne_iff_ne] at h1
      obtain ⟨⟨⟨⟨⟨h3, h4⟩, h5⟩, h6⟩, h7⟩, h8⟩ := h1
      have : fs = #[a, b] := by rw [← hfs]
      exact ⟨a, b, by rw [hu, this], h3, h4, h5, h6, nbeq_true h7, nbeq_true h8, h2⟩
    · cases h1
  · cases ht
theorem lwp_partI {Q : Value → Cells → Prop} {t : TypeId} {cs : Array Value} {o : Nat} {v : Value} (ht : isI64 P t = true) (hv : cs[o]? = some v) (hq : Q v h) : Sem.lwp P (part t cs o) Q E h := by
  unfold part
  rw [lwp_bind, lwp_isAgg_false (isI64_und ht) (isI64_agg ht)]
  simp only [Bool.false_eq_true, if_false, hv]
  exact hq
theorem lwp_equalI {Q : Bool → Cells → Prop} {t : TypeId} {d : Nat} {a b : Int} (ht : isI64 P t = true) (hq : Q (a == b) h) : Sem.lwp P (Op.equalIn (d + 1) t (.int .i64 a) (.int .i64 b)) Q E h := by
  unfold Op.equalIn
  rw [lwp_bind, lwp_underlying (isI64_und ht)]
  exact hq
theorem lwp_equal2 {Q : Bool → Cells → Prop} {t : TypeId} {a b c d : Int} (ht : twoInts P t = true) (hq : Q (decide (a = c ∧ b = d)) h) : Sem.lwp P (Op.equal t (.agg #[.int .i64 a, .int .i64 b]) (.agg #[.int .i64 c, .int .i64 d])) Q E h := by
  obtain ⟨f, g, hu, n1, n2, i1, i2, o1, o2, hs⟩ := twoInts_spec ht
  unfold Op.equal
  have hmd : Op.maxDepth = 9998 + 1 + 1 := rfl
  rw [hmd, Op.equalIn]
  rw [lwp_bind, lwp_underlying hu]
  simp only [lwp_bind, lwp_program, hs, Bool.false_eq_true, if_false, List.forIn_toArray, List.forIn_cons, List.forIn_nil, n1, n2, ne_eq, not_false_eq_true, if_true]
  refine lwp_partI i1 (v := .int .i64 a) (by rw [o1]; rfl) ?_
  refine lwp_partI i1 (v := .int .i64 c) (by rw [o1]; rfl) ?_
  refine lwp_equalI i1 ?_
  by_cases e1 : a = c
  · subst e1
    simp only [beq_self_eq_true, Bool.not_true, Bool.false_eq_true, if_false, lwp_pure, lwp_bind]
    refine lwp_partI i2 (v := .int .i64 b) (by rw [o2]; rfl) ?_
    refine lwp_partI i2 (v := .int .i64 d) (by rw [o2]; rfl) ?_
    refine lwp_equalI i2 ?_
    by_cases e2 : b = d
    · subst e2
      simpa [lwp_pure] using hq
    · have e3 : (b == d) = false := by simpa using e2
      simpa [lwp_pure, e2, e3] using hq
  · have e3 : (a == c) = false := by simpa using e1
    simpa [lwp_pure, e1, e3] using hq
def IsKey (P : Program) (kt : TypeId) (v : Value) : Prop := (isI64 P kt = true ∧ ∃ n, v = .int .i64 n) ∨ (twoInts P kt = true ∧ ∃ a b, v = .agg #[.int .i64 a, .int .i64 b])
theorem lwp_checkKey {Q : Unit → Cells → Prop} {e : Bool} {kt : TypeId} {v : Value} (hk : IsKey P kt v) (hq : Q () h) : Sem.lwp P (Instr.checkKey e 10000 kt v) Q E h := by
  have one : ∀ {Q : Unit → Cells → Prop} {d : Nat} {t : TypeId} {n : Int}, isI64 P t = true → Q () h → Sem.lwp P (Instr.checkKey e (d + 1) t (.int .i64 n)) Q E h := by
    intro Q d t n ht hq
    unfold Instr.checkKey
    rw [lwp_bind, lwp_underlying (isI64_und ht)]
    exact hq
  rcases hk with ⟨ht, n, rfl⟩ | ⟨ht, a, b, rfl⟩
  · exact one (d := 9999) ht hq
  · obtain ⟨f, g, hu, n1, n2, i1, i2, o1, o2, hs⟩ := twoInts_spec ht
    rw [show (10000 : Nat) = 9998 + 1 + 1 from rfl, Instr.checkKey]
    rw [lwp_bind, lwp_underlying hu]
    simp only [lwp_bind, List.forIn_toArray, List.forIn_cons, List.forIn_nil, n1, n2, ne_eq, not_false_eq_true, if_true, lwp_pure]
    refine lwp_partI i1 (v := .int .i64 a) (by rw [o1]; rfl) ?_
    refine one i1 ?_
    refine lwp_partI i2 (v := .int .i64 b) (by rw [o2]; rfl) ?_
    exact one i2 hq
theorem findNow_int {t : TypeId} {n : Int} : ∀ (es : List MapEntry) (i : Nat), (∀ e ∈ es, ∃ m, e.key = .int .i64 m) →
    (∃ j e, es[j]? = some e ∧ e.key = .int .i64 n ∧ Instr.findNow (.int .i64) (.int .i64 n) es i = some (some (i + j, e.val))) ∨ ((∀ e ∈ es, e.key ≠ .int .i64 n) ∧ Instr.findNow (.int .i64) (.int .i64 n) es i = some none) := by
  intro es
  induction es with
  | nil => intro i _; exact .inr ⟨fun e he => by simp at he, rfl⟩
  | cons e es ih =>
    intro i hes
    obtain ⟨m, hm⟩ := hes e (by simp)
    unfold Instr.findNow
    rw [hm]
    simp only [Instr.sameNow, if_true]
    by_cases hnm : n = m
    · subst hnm
      left
      refine ⟨0, e, rfl, hm, ?_⟩
      simp
    · have hb : (n == m) = false := by simpa using hnm
      rw [hb]
      simp only []
      rcases ih (i + 1) (fun e' he' => hes e' (by simp [he'])) with ⟨j, e', h1, h2, h3⟩ | ⟨h1, h2⟩
      · left
        exact ⟨j + 1, e', by simpa using h1, h2, by rw [h3]; congr 3; omega⟩
      · right
        refine ⟨fun e' he' => ?_, h2⟩
        rcases List.mem_cons.1 he' with rfl | he'
        · rw [hm]; intro hc; cases hc; exact hnm rfl
        · exact h1 e' he'
theorem lwp_findAsking {Q : Option (Nat × Value) → Cells → Prop} {kt : TypeId} {a b : Int} (ht : twoInts P kt = true) : ∀ (es : List MapEntry) (i : Nat), (∀ e ∈ es, ∃ c d, e.key = .agg #[.int .i64 c, .int .i64 d]) →
    (∀ j e, es[j]? = some e → e.key = .agg #[.int .i64 a, .int .i64 b] → Q (some (i + j, e.val)) h) → ((∀ e ∈ es, e.key ≠ .agg #[.int .i64 a, .int .i64 b]) → Q none h) → Sem.lwp P (Instr.findAsking kt (.agg #[.int .i64 a, .int .i64 b]) es i) Q E h := by
  intro es
  induction es with
  | nil => intro i _ _ h2; exact h2 fun e he => by simp at he
  | cons e es ih =>
    intro i hes h1 h2
    obtain ⟨c, d, hm⟩ := hes e (by simp)
    unfold Instr.findAsking
    rw [lwp_bind, hm]
    refine lwp_equal2 ht ?_
    by_cases hab : a = c ∧ b = d
    · obtain ⟨rfl, rfl⟩ := hab
      simp only [and_self, decide_true, if_true, lwp_pure]
      have := h1 0 e rfl hm
      simpa using this
    · simp only [hab, decide_false, Bool.false_eq_true, if_false]
      refine ih (i + 1) (fun e' he' => hes e' (by simp [he'])) (fun j e' he' hk => ?_) fun hno => h2 fun e' he' => ?_
      · have := h1 (j + 1) e' (by simpa using he') hk
        rw [show i + 1 + j = i + (j + 1) by omega]; exact this
      · rcases List.mem_cons.1 he' with rfl | he'
        · rw [hm]; intro hc
          simp only [Value.agg.injEq, Array.mk.injEq, List.cons.injEq, Value.int.injEq, and_true, true_and] at hc
          exact hab ⟨hc.1.symm, hc.2.symm⟩
        · exact hno e' he'
theorem lwp_findKey {Q : Option (Nat × Value) → Cells → Prop} {kt : TypeId} {k : Value} {es : List MapEntry} (hk : IsKey P kt k) (hes : ∀ e ∈ es, IsKey P kt e.key) (h1 : ∀ j e, es[j]? = some e → e.key = k → Q (some (j, e.val)) h) (h2 : (∀ e ∈ es, e.key ≠ k) → Q none h) : Sem.lwp P (Instr.findKey kt k es) Q E h := by
  unfold Instr.findKey
  rcases hk with ⟨ht, n, rfl⟩ | ⟨ht, a, b, rfl⟩
  · rw [lwp_bind, lwp_underlying (isI64_und ht)]
    have hes' : ∀ e ∈ es, ∃ m, e.key = .int .i64 m := by
      intro e he
      rcases hes e he with ⟨_, m, hm⟩ | ⟨ht', _⟩
      · exact ⟨m, hm⟩
      · obtain ⟨f, g, hu, _⟩ := twoInts_spec ht'
        rw [isI64_und ht] at hu; cases hu
    rcases findNow_int (t := kt) (n := n) es 0 hes' with ⟨j, e, g1, g2, g3⟩ | ⟨g1, g2⟩
    · rw [g3]
      simp only [lwp_pure]
      have := h1 j e g1 g2
      simpa using this
    · rw [g2]; exact h2 g1
  · obtain ⟨f, g, hu, _⟩ := twoInts_spec ht
    rw [lwp_bind, lwp_underlying hu]
    have hes' : ∀ e ∈ es, ∃ c d, e.key = .agg #[.int .i64 c, .int .i64 d] := by
      intro e he
      rcases hes e he with ⟨ht', _⟩ | ⟨_, c, d, hm⟩
      · rw [isI64_und ht'] at hu; cases hu
      · exact ⟨c, d, hm⟩
    cases es with
    | nil => exact h2 fun e he => by simp at he
    | cons e es =>
      obtain ⟨c, d, hm⟩ := hes' e (by simp)
      have : Instr.findNow (.struct #[f, g]) (.agg #[.int .i64 a, .int .i64 b]) (e :: es) 0 = none := by
        unfold Instr.findNow; rw [hm]; rfl
      rw [this]
      refine lwp_findAsking ht (e :: es) 0 hes' (fun j e' he' hk => ?_) h2
      have := h1 j e' he' hk
      simpa using this
def MapAt (h : Cells) (m : Nat) (es : Array MapEntry) : Prop := ∃ c, h m = some (true, .map es c)
theorem lwp_lookup {Q : Value → Cells → Prop} {t kt et : TypeId} {s b : Nat} {z : Value} {m : Nat} {es : Array MapEntry} {k : Value} {ok : Bool} (hu : P.underlying t = some (.map kt et)) (hi : (P.info? et).map (fun i => (i.size, i.bytes, i.zero)) = some (s, b, some z)) (hm : MapAt h m es) (hk : IsKey P kt k) (hes : ∀ e ∈ es.toList, IsKey P kt e.key)
    (h1 : ∀ e ∈ es.toList, e.key = k → Q (if ok then .tuple #[e.val, .bool true] else e.val) h) (h2 : (∀ e ∈ es.toList, e.key ≠ k) → Q (if ok then .tuple #[z, .bool false] else z) h) : Sem.lwp P (Instr.lookup t (.map (some m)) k ok) Q E h := by
  obtain ⟨inf, g1, _, _, g4⟩ := info_of hi
  obtain ⟨c, hmc⟩ := hm
  unfold Instr.lookup
  rw [lwp_bind, lwp_underlying hu]
  simp only [lwp_bind]
  refine ⟨_, _, hmc, trivial, ?_⟩
  show Sem.lwp P (_ >>= _) Q E h
  rw [lwp_bind, lwp_pure, lwp_bind]
  refine lwp_checkKey hk ?_
  rw [lwp_bind]
  refine lwp_findKey hk hes (fun j e he hek => ?_) fun hno => ?_
  · simp only [lwp_pure, lwp_bind]
    have := h1 e (List.mem_of_getElem? he) hek
    cases ok <;> exact this
  · simp only [lwp_bind, lwp_zeroValue g1 g4, lwp_pure]
    have := h2 hno
    cases ok <;> exact this
theorem sameBits_key {kt : TypeId} {k : Value} (hk : IsKey P kt k) : Instr.sameBits 10000 k k = true := by
  rcases hk with ⟨_, n, rfl⟩ | ⟨_, a, b, rfl⟩
  · simp [Instr.sameBits]
  · rw [show (10000 : Nat) = 9999 + 1 from rfl]
    simp [Instr.sameBits]
theorem lwp_mapUpdate {Q : Unit → Cells → Prop} {t kt et : TypeId} {m : Nat} {es : Array MapEntry} {k v : Value} (hu : P.underlying t = some (.map kt et)) (hm : MapAt h m es) (hk : IsKey P kt k) (hes : ∀ e ∈ es.toList, IsKey P kt e.key)
    (hq : ∀ es' c, (∀ e ∈ es'.toList, (e.key = k ∧ e.val = v) ∨ e ∈ es.toList) → (∃ e ∈ es'.toList, e.key = k) → (∀ e ∈ es.toList, ∃ e' ∈ es'.toList, e'.key = e.key) → Q () (h.upd m (true, .map es' c))) : Sem.lwp P (Instr.mapUpdate t (.map (some m)) k v) Q E h := by
  obtain ⟨c, hmc⟩ := hm
  unfold Instr.mapUpdate
  rw [lwp_bind, lwp_underlying hu]
  simp only [lwp_bind]
  refine ⟨_, _, hmc, trivial, ?_⟩
  show Sem.lwp P (_ >>= _) _ E h
  rw [lwp_bind]
  refine lwp_checkKey hk ?_
  rw [lwp_bind]
  refine lwp_findKey hk hes (fun j e he hek => ?_) fun hno => ?_
  · have he' : es[j]? = some e := by rw [← Array.getElem?_toList]; exact he
    simp only [lwp_bind, Instr.keyThatStays, he', Option.map_some, Option.getD_some, hek, sameBits_key hk, if_true, lwp_pure]
    refine ⟨⟨_, hmc, trivial⟩, ?_⟩
    have hmem : ∀ i : Nat, (es.modify j fun e => { e with key := k, val := v })[i]? = if i = j then (es[i]?).map (fun e => { e with key := k, val := v }) else es[i]? := by
      intro i; rw [Array.getElem?_modify]; by_cases hij : j = i
      · subst hij; simp
      · rw [if_neg hij, if_neg (Ne.symm hij)]
    refine hq _ _ (fun e2 he2 => ?_) ⟨{ e with key := k, val := v }, ?_, rfl⟩ fun e2 he2 => ?_
    · obtain ⟨i, hi, hie⟩ := List.getElem_of_mem he2
      have h3 : (es.modify j fun e => { e with key := k, val := v })[i]? = some e2 := by rw [← Array.getElem?_toList, List.getElem?_eq_getElem hi, hie]
      rw [hmem] at h3
      by_cases hij : i = j
      · rw [if_pos hij] at h3
        cases h4 : es[i]? with
        | none => rw [h4] at h3; cases h3
        | some e0 => rw [h4] at h3; simp only [Option.map_some, Option.some.injEq] at h3; subst h3; exact .inl ⟨rfl, rfl⟩
      · rw [if_neg hij] at h3
        right
        exact List.mem_of_getElem? (i := i) (by rw [Array.getElem?_toList]; exact h3)
    · refine List.mem_of_getElem? (i := j) ?_
      rw [Array.getElem?_toList, hmem, if_pos rfl, he']; rfl
    · obtain ⟨i, hi, hie⟩ := List.getElem_of_mem he2
      have h3 : es[i]? = some e2 := by rw [← Array.getElem?_toList, List.getElem?_eq_getElem hi, hie]
      by_cases hij : i = j
      · refine ⟨{ e2 with key := k, val := v }, List.mem_of_getElem? (i := i) ?_, ?_⟩
        · rw [Array.getElem?_toList, hmem, if_pos hij, h3]; rfl
        · subst hij; rw [he'] at h3; cases h3; exact hek.symm
      · exact ⟨e2, List.mem_of_getElem? (i := i) (by rw [Array.getElem?_toList, hmem, if_neg hij, h3]), rfl⟩
  · refine ⟨⟨_, hmc, trivial⟩, ?_⟩
    refine hq _ _ (fun e2 he2 => ?_) ⟨{ key := k, val := v, born := c }, by simp, rfl⟩ fun e2 he2 => ⟨e2, by rw [Array.toList_push]; exact List.mem_append_left _ he2, rfl⟩
    simp only [Array.toList_push, List.mem_append, List.mem_singleton] at he2
    rcases he2 with he2 | rfl
    · exact .inr he2
    · exact .inl ⟨rfl, rfl⟩
variable {X : XP} {Q : Leaf → LH → Prop}
theorem t_makeMap {h : LH} {k : Value → T} {t : TypeId} (hk : ∀ r, h.get r = none → (k (.map (some r))).wp X P Q { h with get := h.get.upd r (true, .map #[] 0) }) : (T.sem false (Instr.makeMap t none) k).wp X P Q h := by
  refine t_sem (A := fun v h' => ∃ r, h.get r = none ∧ v = .map (some r) ∧ h' = h.get.upd r (true, .map #[] 0)) ?_ (by rintro v h' ⟨r, hr, rfl, rfl⟩; exact hk r hr)
  unfold Instr.makeMap
  rw [lwp_bind]
  intro r hr
  exact ⟨r, hr, rfl, rfl⟩
theorem t_lookup {h : LH} {K : Value → T} {t kt et : TypeId} {s b : Nat} {z : Value} {m : Nat} {es : Array MapEntry} {k : Value} {ok : Bool} (hu : P.underlying t = some (.map kt et)) (hi : (P.info? et).map (fun i => (i.size, i.bytes, i.zero)) = some (s, b, some z)) (hm : MapAt h.get m es) (hk : IsKey P kt k) (hes : ∀ e ∈ es.toList, IsKey P kt e.key)
    (h1 : ∀ e ∈ es.toList, e.key = k → (K (if ok then .tuple #[e.val, .bool true] else e.val)).wp X P Q h) (h2 : (∀ e ∈ es.toList, e.key ≠ k) → (K (if ok then .tuple #[z, .bool false] else z)).wp X P Q h) : (T.sem false (Instr.lookup t (.map (some m)) k ok) K).wp X P Q h :=
  t_sem (A := fun v h' => h' = h.get ∧ (K v).wp X P Q h) (lwp_lookup hu hi hm hk hes (fun e he hek => ⟨rfl, h1 e he hek⟩) fun hno => ⟨rfl, h2 hno⟩) (by rintro v h' ⟨rfl, hw⟩; exact hw)
theorem t_mapUpdate {h : LH} {K : Value → T} {t kt et : TypeId} {m : Nat} {es : Array MapEntry} {k v : Value} (hu : P.underlying t = some (.map kt et)) (hm : MapAt h.get m es) (hk : IsKey P kt k) (hes : ∀ e ∈ es.toList, IsKey P kt e.key)
    (hq : ∀ es' c, (∀ e ∈ es'.toList, (e.key = k ∧ e.val = v) ∨ e ∈ es.toList) → (∃ e ∈ es'.toList, e.key = k) → (∀ e ∈ es.toList, ∃ e' ∈ es'.toList, e'.key = e.key) → (K undef).wp X P Q { h with get := h.get.upd m (true, .map es' c) }) : (T.sem false (Sem.bind (Instr.mapUpdate t (.map (some m)) k v) fun _ => pure (.tuple #[])) K).wp X P Q h := by
  refine t_sem (A := fun v h' => v = undef ∧ (K undef).wp X P Q { h with get := h' }) (Sem.lwp_bind _ _ (lwp_mapUpdate hu hm hk hes fun es' c a b d => ⟨rfl, hq es' c a b d⟩)) (by rintro v h' ⟨rfl, hw⟩; exact hw)
theorem t_struct {h : LH} {K : Value → T} {t : TypeId} {l : List (Nat × Value)} {v : Value} (hb : buildV P t l = some v) (hk : (K v).wp X P Q h) : (T.sem false (Instr.build t l.toArray) K).wp X P Q h :=
  t_sem (A := fun w h' => w = v ∧ h' = h.get) (lwp_build hb ⟨rfl, rfl⟩) (by rintro w h' ⟨rfl, rfl⟩; exact hk)
theorem t_eq2 {h : LH} {K : Value → T} {t : TypeId} {x y : Operand} {a b c d : Int} (ht : twoInts P t = true) (hg : P.eqGuardType P.depth t = false) (hk : (K (.bool (decide (a = c ∧ b = d)))).wp X P Q h) :
    (T.sem false (Sem.bind (eqGuard .eql t x y (.agg #[.int .i64 a, .int .i64 b]) (.agg #[.int .i64 c, .int .i64 d])) fun _ => binOp .eql t (.agg #[.int .i64 a, .int .i64 b]) (.agg #[.int .i64 c, .int .i64 d])) K).wp X P Q h := by
  refine t_sem (A := fun w h' => w = .bool (decide (a = c ∧ b = d)) ∧ h' = h.get) (Sem.lwp_bind _ _ ?_) (by rintro w h' ⟨rfl, rfl⟩; exact hk)
  unfold eqGuard
  simp only [Bool.not_true, Bool.false_eq_true, if_false, lwp_bind, lwp_program, hg, Bool.not_false, if_true, lwp_pure]
  unfold binOp
  rw [lwp_bind]
  exact lwp_equal2 ht ⟨rfl, rfl⟩
theorem t_ne2 {h : LH} {K : Value → T} {t : TypeId} {x y : Operand} {a b c d : Int} (ht : twoInts P t = true) (hg : P.eqGuardType P.depth t = false) (hk : (K (.bool (!decide (a = c ∧ b = d)))).wp X P Q h) :
    (T.sem false (Sem.bind (eqGuard .neq t x y (.agg #[.int .i64 a, .int .i64 b]) (.agg #[.int .i64 c, .int .i64 d])) fun _ => binOp .neq t (.agg #[.int .i64 a, .int .i64 b]) (.agg #[.int .i64 c, .int .i64 d])) K).wp X P Q h := by
  refine t_sem (A := fun w h' => w = .bool (!decide (a = c ∧ b = d)) ∧ h' = h.get) (Sem.lwp_bind _ _ ?_) (by rintro w h' ⟨rfl, rfl⟩; exact hk)
  unfold eqGuard
  simp only [Bool.not_true, Bool.false_eq_true, if_false, lwp_bind, lwp_program, hg, Bool.not_false, if_true, lwp_pure]
  unfold binOp
  rw [lwp_bind]
  exact lwp_equal2 ht ⟨rfl, rfl⟩
theorem t_each {h h₀ : LH} {v : Value} {init : List Value} {body : List Value → List Value → T} {kf kb kr : List Value → T} {ko : Nat → List Value → T} {L : List (List Value)} (hle : h₀.le h) (hH : Hands X P v h₀ L) (I : Nat → List Value → LH → Prop) (h0 : I 0 init h)
    (hend : ∀ vs h', h₀.le h' → I L.length vs h' → (kf vs).wp X P Q h')
    (hb : ∀ i xs vs h', L[i]? = some xs → h₀.le h' → I i vs h' → ∀ Y : List Value → LH → Prop, (∀ vs' h'', h₀.le h'' → I (i + 1) vs' h'' → Y vs' h'') →
      (body xs vs).wp X P (fun l h'' => h₀.le h'' ∧ l.go h'' Y (fun vs h' => (kb vs).wp X P Q h') (fun vs h' => (kr vs).wp X P Q h') (fun j vs h' => (ko j vs).wp X P Q h')) h') : (T.each v init body kf kb kr ko).wp X P Q h := by
  refine ⟨L, h₀, hle, hH, fun Y hf hbody => ?_⟩
  have key : ∀ k, k ≤ L.length → ∀ vs h', h₀.le h' → I (L.length - k) vs h' → Y (L.length - k) vs h' := by
    intro k
    induction k with
    | zero => intro _ vs h' hl hi; exact hf vs h' hl (hend vs h' hl hi)
    | succ k ih =>
      intro hk vs h' hl hi
      have hlt : L.length - (k + 1) < L.length := by omega
      have hget : L[L.length - (k + 1)]? = some L[L.length - (k + 1)] := List.getElem?_eq_getElem hlt
      have e : L.length - (k + 1) + 1 = L.length - k := by omega
      refine hbody _ _ vs h' hget hl ?_
      refine hb _ _ vs h' hget hl hi _ fun vs' h'' hl'' hi'' => ?_
      rw [e] at hi'' ⊢
      exact ih (by omega) vs' h'' hl'' hi''
  have := key L.length (Nat.le_refl _) init h hle (by rw [Nat.sub_self]; exact h0)
  rw [Nat.sub_self] at this; exact this
end Go.TM
end
section
namespace Go.Proofs.YtibibhojkfapnaaDoor
open Go Go.TM Go.Proofs
attribute [local irreducible] T.wp CV FWK
def De (f : FuncId) (args : Array Value) (h : LH) (d m : Nat) (fc : FileC) (u : UseFile) (V : Value → LH → Prop) : Prop := FW X0 Tryd.prog f args h fun r h' => Mv m h h' ∧ Desk h'.get d m fc u ∧ V r h'
theorem t_de {X : XP} {Q : Leaf → LH → Prop} {h : LH} {f : FuncId} {args : Array Value} {d m : Nat} {fc : FileC} {u : UseFile} {k : Value → T} {V : Value → LH → Prop} (c : De f args h d m fc u V) (hk : ∀ v h', Mv m h h' → Desk h'.get d m fc u → V v h' → (k v).wp X Tryd.prog Q h') : (T.call false f args k).wp X Tryd.prog Q h :=
  t_call (FW.top c) fun v h' ha => hk v h' ha.1 ha.2.1 ha.2.2
theorem two119 : twoInts Tryd.prog 119 = true := by kernel_rfl
theorem two30 : twoInts Tryd.prog 30 = true := by kernel_rfl
theorem i64_3 : isI64 Tryd.prog 3 = true := by kernel_rfl
theorem Desk.updMap {h : Cells} {d m : Nat} {f : FileC} {u : UseFile} (k : Desk h d m f u) {es' : Array MapEntry} {c : Nat} (he : ∀ e ∈ es'.toList, ∃ day : Int, e.key = .agg #[.int .i64 day, .int .i64 u.idle] ∧ e.val = .agg #[.int .i64 (window u day).first, .int .i64 day]) : Rd h (h.upd m (true, .map es' c)) ∧ Desk (h.upd m (true, .map es' c)) d m f u := by
  have hr : Rd h (h.upd m (true, .map es' c)) := by
    intro a v hc
    have hne : a.block ≠ m := by
      intro e
      obtain ⟨es, c, hm⟩ := k.isMap
      unfold Cells.cell? at hc
      rw [e, hm] at hc; cases hc
    unfold Cells.cell? at hc ⊢
    rw [Cells.upd_ne _ _ hne]; exact hc
  exact ⟨hr, k.file.rd hr, k.rep.rd hr, fun j hj => hr _ _ (k.counts j hj), hr _ _ k.mapp, _, _, Cells.upd_self _ _ _, he⟩
theorem Mv.updMap {m : Nat} {h : LH} {es' : Array MapEntry} {c : Nat} : Mv m h { h with get := h.get.upd m (true, .map es' c) } :=
  ⟨fun r x hr hx => by show Cells.upd _ _ _ r = _; rw [Cells.upd_ne _ _ hr]; exact hx, fun _ _ _ => ⟨es', c, Cells.upd_self _ _ _⟩, rfl, rfl, rfl⟩
theorem c55 {h : LH} {d m : Nat} {f : FileC} {u : UseFile} (k : Desk h.get d m f u) (hid : 1 ≤ u.idle ∧ u.idle ≤ 2000) (day : Int) (hd : 0 ≤ day ∧ day ≤ 2000) :
    De 55 #[.pointer (some ⟨d, 0, none⟩), .int .i64 day] h d m f u fun r _ => r = .agg #[.int .i64 (window u day).first, .int .i64 day] := by
  refine w55 _ _ X0_ok ?_
  unfold n55
  obtain ⟨f0, f1, f2, f3, f4, f5, f6⟩ := k.file
  have hmp := k.mapp
  obtain ⟨es, c, hm, hes⟩ := k.map
  have hkey : ∀ e ∈ es.toList, IsKey Tryd.prog 119 e.key := fun e he => by obtain ⟨dy, h1, _⟩ := hes e he; exact .inr ⟨two119, dy, u.idle, h1⟩
  have hkey' : IsKey Tryd.prog 119 (.agg #[.int .i64 day, .int .i64 u.idle]) := .inr ⟨two119, _, _, rfl⟩
  have found : ∀ e ∈ es.toList, e.key = .agg #[.int .i64 day, .int .i64 u.idle] → e.val = .agg #[.int .i64 (window u day).first, .int .i64 day] := by
    intro e he hk
    obtain ⟨dy, h1, h2⟩ := hes e he
    rw [hk] at h1
    simp only [Value.agg.injEq, Array.mk.injEq, List.cons.injEq, Value.int.injEq, and_true, true_and] at h1
    rw [h2, h1]
  (repeat (first | (with_reducible first | apply gA | apply gB | apply gC | apply gD | apply gE | apply gF | apply gG | apply gH | apply gI | apply gJ | apply gK | apply gL | apply gM | apply gN | apply gO | apply gP | apply gQ | apply gR) | ((with_reducible apply gT); first | exact rfl | exact True.intro | omega | assumption) | ((with_reducible apply gS2); first | assumption | rfl) | ((with_reducible first | apply gL0 | apply gL1 | apply gL2 | apply gL3 | apply gL4); assumption)))
  refine t_blk (fun vs h' => vs = [.int .i64 0, .int .i64 0] ∧ h = h') ?_ ?_
  · (repeat (first | (with_reducible first | apply gA | apply gB | apply gC | apply gD | apply gE | apply gF | apply gG | apply gH | apply gI | apply gJ | apply gK | apply gL | apply gM | apply gN | apply gO | apply gP | apply gQ | apply gR) | ((with_reducible apply gT); first | exact rfl | exact True.intro | omega | assumption) | ((with_reducible apply gS2); first | assumption | rfl) | ((with_reducible first | apply gL0 | apply gL1 | apply gL2 | apply gL3 | apply gL4); assumption)))
    refine t_both ?_ ?_
    · refine t_lookup und111 inf30 ⟨c, hm⟩ hkey' hkey (fun e he hk => ?_) fun hno => ?_
      · rw [found e he hk]
        simp only [if_true]
        (repeat (first | (with_reducible first | apply gA | apply gB | apply gC | apply gD | apply gE | apply gF | apply gG | apply gH | apply gI | apply gJ | apply gK | apply gL | apply gM | apply gN | apply gO | apply gP | apply gQ | apply gR) | ((with_reducible apply gT); first | exact rfl | exact True.intro | omega | assumption) | ((with_reducible apply gS2); first | assumption | rfl) | ((with_reducible first | apply gL0 | apply gL1 | apply gL2 | apply gL3 | apply gL4); assumption)))
        refine t_cond (fun _ => ?_) (fun e => by cases e)
        (repeat (first | (with_reducible first | apply gA | apply gB | apply gC | apply gD | apply gE | apply gF | apply gG | apply gH | apply gI | apply gJ | apply gK | apply gL | apply gM | apply gN | apply gO | apply gP | apply gQ | apply gR) | ((with_reducible apply gT); first | exact rfl | exact True.intro | omega | assumption) | ((with_reducible apply gS2); first | assumption | rfl) | ((with_reducible first | apply gL0 | apply gL1 | apply gL2 | apply gL3 | apply gL4); assumption)))
        exact t_ret ⟨Mv.refl, k, rfl⟩
      · simp only [if_true]
        (repeat (first | (with_reducible first | apply gA | apply gB | apply gC | apply gD | apply gE | apply gF | apply gG | apply gH | apply gI | apply gJ | apply gK | apply gL | apply gM | apply gN | apply gO | apply gP | apply gQ | apply gR) | ((with_reducible apply gT); first | exact rfl | exact True.intro | omega | assumption) | ((with_reducible apply gS2); first | assumption | rfl) | ((with_reducible first | apply gL0 | apply gL1 | apply gL2 | apply gL3 | apply gL4); assumption)))
        refine t_cond (fun e => by cases e) (fun _ => ?_)
        exact t_again ⟨rfl, rfl⟩
    · (repeat (first | (with_reducible first | apply gA | apply gB | apply gC | apply gD | apply gE | apply gF | apply gG | apply gH | apply gI | apply gJ | apply gK | apply gL | apply gM | apply gN | apply gO | apply gP | apply gQ | apply gR) | ((with_reducible apply gT); first | exact rfl | exact True.intro | omega | assumption) | ((with_reducible apply gS2); first | assumption | rfl) | ((with_reducible first | apply gL0 | apply gL1 | apply gL2 | apply gL3 | apply gL4); assumption)))
      refine t_lookup und111 inf30 ⟨c, hm⟩ hkey' hkey (fun e he hk => ?_) fun hno => ?_
      · rw [found e he hk]
        simp only [if_true]
        (repeat (first | (with_reducible first | apply gA | apply gB | apply gC | apply gD | apply gE | apply gF | apply gG | apply gH | apply gI | apply gJ | apply gK | apply gL | apply gM | apply gN | apply gO | apply gP | apply gQ | apply gR) | ((with_reducible apply gT); first | exact rfl | exact True.intro | omega | assumption) | ((with_reducible apply gS2); first | assumption | rfl) | ((with_reducible first | apply gL0 | apply gL1 | apply gL2 | apply gL3 | apply gL4); assumption)))
        refine t_cond (fun _ => ?_) (fun e => by cases e)
        (repeat (first | (with_reducible first | apply gA | apply gB | apply gC | apply gD | apply gE | apply gF | apply gG | apply gH | apply gI | apply gJ | apply gK | apply gL | apply gM | apply gN | apply gO | apply gP | apply gQ | apply gR) | ((with_reducible apply gT); first | exact rfl | exact True.intro | omega | assumption) | ((with_reducible apply gS2); first | assumption | rfl) | ((with_reducible first | apply gL0 | apply gL1 | apply gL2 | apply gL3 | apply gL4); assumption)))
        exact t_ret ⟨Mv.refl, k, rfl⟩
      · simp only [if_true]
        (repeat (first | (with_reducible first | apply gA | apply gB | apply gC | apply gD | apply gE | apply gF | apply gG | apply gH | apply gI | apply gJ | apply gK | apply gL | apply gM | apply gN | apply gO | apply gP | apply gQ | apply gR) | ((with_reducible apply gT); first | exact rfl | exact True.intro | omega | assumption) | ((with_reducible apply gS2); first | assumption | rfl) | ((with_reducible first | apply gL0 | apply gL1 | apply gL2 | apply gL3 | apply gL4); assumption)))
        refine t_cond (fun e => by cases e) (fun _ => ?_)
        exact t_again ⟨rfl, rfl⟩
  · rintro vs _ ⟨rfl, rfl⟩
    (repeat (first | (with_reducible first | apply gA | apply gB | apply gC | apply gD | apply gE | apply gF | apply gG | apply gH | apply gI | apply gJ | apply gK | apply gL | apply gM | apply gN | apply gO | apply gP | apply gQ | apply gR) | ((with_reducible apply gT); first | exact rfl | exact True.intro | omega | assumption) | ((with_reducible apply gS2); first | assumption | rfl) | ((with_reducible first | apply gL0 | apply gL1 | apply gL2 | apply gL3 | apply gL4); assumption)))
    refine t_loop (fun mm vs h' => h = h' ∧ ∃ (x : Nat) (n : Int), vs = [.int .i64 (u.idle - n), .int .i64 x, .int .i64 day] ∧ x ≤ 2000 ∧ 0 ≤ n ∧ n < u.idle ∧ x = mm ∧ firstDay (counts u) u.idle day.toNat 0 = firstDay (counts u) u.idle x n)
      ⟨rfl, day.toNat, 0, by simp; omega, by omega, by omega, by omega, rfl, rfl⟩ ?_
    rintro Y mm vs _ hY ⟨rfl, x, n, rfl, hx, hn0, hn1, rfl, hc⟩
    have fin : ∀ (w : Int), w = (window u day).first → ∀ {K : Value → T} {Q : Leaf → LH → Prop}, (∀ h', Mv m h h' → Desk h'.get d m f u → (K undef).wp X0 Tryd.prog Q h') → (T.sem false (Sem.bind (Instr.mapUpdate 111 (.map (some m)) (.agg #[.int .i64 day, .int .i64 u.idle]) (.agg #[.int .i64 w, .int .i64 day])) fun _ => pure (.tuple #[])) K).wp X0 Tryd.prog Q h := by
      intro w hw K Q hK
      refine t_mapUpdate und111 ⟨c, hm⟩ hkey' hkey fun es' c' h1 _ _ => hK _ Mv.updMap (Desk.updMap k fun e he => ?_).2
      rcases h1 e he with ⟨h1, h2⟩ | h1
      · exact ⟨day, h1, by rw [h2, hw]⟩
      · exact hes e h1
    (repeat (first | (with_reducible first | apply gA | apply gB | apply gC | apply gD | apply gE | apply gF | apply gG | apply gH | apply gI | apply gJ | apply gK | apply gL | apply gM | apply gN | apply gO | apply gP | apply gQ | apply gR) | ((with_reducible apply gT); first | exact rfl | exact True.intro | omega | assumption) | ((with_reducible apply gS2); first | assumption | rfl) | ((with_reducible first | apply gL0 | apply gL1 | apply gL2 | apply gL3 | apply gL4); assumption)))
    refine t_if (fun e1 => ?_) (fun e1 => ?_)
    · have hcell : h.get.cell? ((Addr.add ⟨d, 0, none⟩ 7).add ((x : Int).toNat * 1)) = some (.bool (counts u x)) := by
        have h7 : 0 + 7 + (x : Int).toNat * 1 = 7 + x := by omega
        rw [add_plain, add_plain, h7]; exact k.counts x (by omega)
      obtain ⟨y, rfl⟩ : ∃ y, x = y + 1 := ⟨x - 1, by omega⟩
      (repeat (first | (with_reducible first | apply gA | apply gB | apply gC | apply gD | apply gE | apply gF | apply gG | apply gH | apply gI | apply gJ | apply gK | apply gL | apply gM | apply gN | apply gO | apply gP | apply gQ | apply gR) | ((with_reducible apply gT); first | exact rfl | exact True.intro | omega | assumption) | ((with_reducible apply gS2); first | assumption | rfl) | ((with_reducible first | apply gL0 | apply gL1 | apply gL2 | apply gL3 | apply gL4); assumption)))
      rw [firstDay] at hc
      refine t_cond (fun e2 => ?_) (fun e2 => ?_)
      · have hin : (if counts u ((y + 1 : Nat) : Int) = true then n + 1 else n) = n + 1 := if_pos e2
        simp only [hin] at hc
        rw [wrap_id (by omega) (by omega)]
        refine t_cond (fun e3 => ?_) (fun e3 => ?_)
        · (repeat (first | (with_reducible first | apply gA | apply gB | apply gC | apply gD | apply gE | apply gF | apply gG | apply gH | apply gI | apply gJ | apply gK | apply gL | apply gM | apply gN | apply gO | apply gP | apply gQ | apply gR) | ((with_reducible apply gT); first | exact rfl | exact True.intro | omega | assumption) | ((with_reducible apply gS2); first | assumption | rfl) | ((with_reducible first | apply gL0 | apply gL1 | apply gL2 | apply gL3 | apply gL4); assumption)))
          have e3' : u.idle - n - 1 = 0 := by simpa using e3
          rw [if_pos (by omega)] at hc
          refine fin _ (by rw [window]; exact hc.symm) fun h' hv hk => ?_
          exact t_ret ⟨hv, hk, by rw [window, hc]⟩
        · have e3' : u.idle - n - 1 ≠ 0 := by simpa using e3
          rw [if_neg (by omega)] at hc
          refine t_again (hY y _ _ (by omega) ⟨rfl, y, n + 1, ?_, by omega, by omega, by omega, rfl, hc⟩)
          have a1 : u.idle - n - 1 = u.idle - (n + 1) := by omega
          have a2 : ((y + 1 : Nat) : Int) - 1 = (y : Int) := by omega
          rw [wrap_id (by omega) (by omega), a1, a2]
      · have hin : (if counts u ((y + 1 : Nat) : Int) = true then n + 1 else n) = n := if_neg (by rw [e2]; simp)
        simp only [hin] at hc
        refine t_cond (fun e3 => ?_) (fun e3 => ?_)
        · exfalso
          have e3' : u.idle - n = 0 := by simpa using e3
          omega
        · rw [if_neg (by omega)] at hc
          refine t_again (hY y _ _ (by omega) ⟨rfl, y, n, ?_, by omega, by omega, by omega, rfl, hc⟩)
          have a2 : ((y + 1 : Nat) : Int) - 1 = (y : Int) := by omega
          rw [wrap_id (by omega) (by omega), a2]
    · (repeat (first | (with_reducible first | apply gA | apply gB | apply gC | apply gD | apply gE | apply gF | apply gG | apply gH | apply gI | apply gJ | apply gK | apply gL | apply gM | apply gN | apply gO | apply gP | apply gQ | apply gR) | ((with_reducible apply gT); first | exact rfl | exact True.intro | omega | assumption) | ((with_reducible apply gS2); first | assumption | rfl) | ((with_reducible first | apply gL0 | apply gL1 | apply gL2 | apply gL3 | apply gL4); assumption)))
      obtain rfl : x = 0 := by omega
      rw [firstDay] at hc
      refine fin _ (by rw [window]; exact hc.symm) fun h' hv hk => ?_
      exact t_ret ⟨hv, hk, by rw [window, hc]; rfl⟩
end Go.Proofs.YtibibhojkfapnaaDoor
end
section
namespace Go.Proofs.YtibibhojkfapnaaDoor
open Go Go.TM Go.Proofs
attribute [local irreducible] T.wp CV FWK
def AskSl (h : LH) (p : Option Addr) (n : Nat) (u : UseFile) (l : List Int) : Prop :=
  n = l.length ∧ l.length < 4611686018427387904 ∧ ∀ i g, l[i]? = some g → ∃ a v, p = some a ∧ h.get.cell? (a.add (i * 1)) = some v ∧ Asks v h u g
noncomputable def deskOf (f : FileC) (u : UseFile) (m : Nat) : Array Value := match buildV Tryd.prog 114 [(0, fileV f u), (2, .map (some m))] with
  | some (.agg cs) => cs
  | _ => #[]
set_option maxRecDepth 100000 in
theorem deskOf_build (f : FileC) (u : UseFile) (m : Nat) : buildV Tryd.prog 114 [(0, fileV f u), (2, .map (some m))] = some (.agg (deskOf f u m)) := by kernel_rfl
theorem deskOf_size (f : FileC) (u : UseFile) (m : Nat) : (deskOf f u m).size = 2009 := by kernel_rfl
theorem deskOf_0 (f : FileC) (u : UseFile) (m : Nat) : (deskOf f u m)[0]? = some (.int .i64 u.items) := by kernel_rfl
theorem deskOf_1 (f : FileC) (u : UseFile) (m : Nat) : (deskOf f u m)[1]? = some (.int .i64 u.lands) := by kernel_rfl
theorem deskOf_2 (f : FileC) (u : UseFile) (m : Nat) : (deskOf f u m)[2]? = some (.int .i64 u.from_) := by kernel_rfl
theorem deskOf_3 (f : FileC) (u : UseFile) (m : Nat) : (deskOf f u m)[3]? = some (.int .i64 u.idle) := by kernel_rfl
theorem deskOf_4 (f : FileC) (u : UseFile) (m : Nat) : (deskOf f u m)[4]? = some (.slice f.p4 f.n4 f.c4) := by kernel_rfl
theorem deskOf_5 (f : FileC) (u : UseFile) (m : Nat) : (deskOf f u m)[5]? = some (.slice f.p5 f.n5 f.c5) := by kernel_rfl
theorem deskOf_6 (f : FileC) (u : UseFile) (m : Nat) : (deskOf f u m)[6]? = some (.slice f.p6 f.n6 f.c6) := by kernel_rfl
theorem deskOf_m (f : FileC) (u : UseFile) (m : Nat) : (deskOf f u m)[2008]? = some (.map (some m)) := by kernel_rfl
attribute [irreducible] deskOf
def openF (u : UseFile) (l : List Int) : Int := if checkF u ≠ 0 then checkF u else firstF (fun _ x => x) 0 l
def Opened (h h' : LH) (f : FileC) (u : UseFile) (g : Int) (r : Value) : Prop :=
  h.le h' ∧ ((g ≠ 0 ∧ r = .tuple #[.pointer none, .int .i64 g]) ∨ (g = 0 ∧ ∃ d m, r = .tuple #[.pointer (some ⟨d, 0, none⟩), .int .i64 0] ∧ h.get d = none ∧ h.get m = none ∧ Desk h'.get d m f u))
theorem setCell_upd {h : Cells} {r i : Nat} {m : Bool} {cs : Array Value} {el : TypeId} {v : Value} (hr : h r = some (m, .cells cs el (0, 0))) : h.setCell ⟨r, i, none⟩ v = h.upd r (m, .cells (cs.setIfInBounds i v) el (0, 0)) := by
  funext b
  unfold Cells.setCell Cells.upd
  by_cases e : b = r
  · subst e; simp [hr]
  · simp [e]
theorem frozen_plain {h : Cells} {r i : Nat} {m : Bool} {cs : Array Value} {el : TypeId} (hr : h r = some (m, .cells cs el (0, 0))) : h.frozen? ⟨r, i, none⟩ = false := by
  simp [Cells.frozen?, hr]
theorem c53 {h : LH} {f : FileC} {u : UseFile} {p : Option Addr} {n c : Nat} {l : List Int} (hp : Parts h.get) (hu : FileR h.get f u) (hw : AskSl h p n u l) :
    FW X0 Tryd.prog 53 #[fileV f u, .slice p n c] h fun r h' => Opened h h' f u (openF u l) r := by
  refine w53 _ _ _ _ _ _ _ _ _ _ _ _ _ _ _ _ X0_ok ?_
  unfold n53
  refine t_gr (c26 hp hu) ?_
  rintro _ h₁ le1 rfl
  (repeat (first | (with_reducible first | apply gA | apply gB | apply gC | apply gD | apply gE | apply gF | apply gG | apply gH | apply gI | apply gJ | apply gK | apply gL | apply gM | apply gN | apply gO | apply gP | apply gQ | apply gR) | ((with_reducible apply gT); first | exact rfl | exact True.intro | omega | assumption) | ((with_reducible apply gS2); first | assumption | rfl) | ((with_reducible first | apply gL0 | apply gL1 | apply gL2 | apply gL3 | apply gL4); assumption)))
  refine t_cond (fun e0 => ?_) (fun e0 => ?_)
  · have e0' : checkF u ≠ 0 := by simpa using e0
    refine t_ret ⟨le1, .inl ⟨?_, ?_⟩⟩
    · rw [openF, if_pos e0']; exact e0'
    · rw [openF, if_pos e0']
  have e0' : checkF u = 0 := by simpa using e0
  have hn0 := check_num e0'
  have ho : openF u l = firstF (fun _ x => x) 0 l := by rw [openF, if_neg (by simp [e0'])]
  have hn := hw.1
  have hb := hw.2.1
  refine t_loop (fun mm vs h' => h.le h' ∧ ∃ i : Nat, vs = [.pointer none, .int .i64 0, .int .i64 i] ∧ i ≤ n ∧ mm = n - i ∧ openF u l = firstF (fun _ x => x) i (l.drop i)) ⟨le1, 0, rfl, Nat.zero_le _, rfl, ho⟩ ?_
  rintro Y mm vs h₂ hY ⟨hle, i, rfl, hi, rfl, hc⟩
  (repeat (first | (with_reducible first | apply gA | apply gB | apply gC | apply gD | apply gE | apply gF | apply gG | apply gH | apply gI | apply gJ | apply gK | apply gL | apply gM | apply gN | apply gO | apply gP | apply gQ | apply gR) | ((with_reducible apply gT); first | exact rfl | exact True.intro | omega | assumption) | ((with_reducible apply gS2); first | assumption | rfl) | ((with_reducible first | apply gL0 | apply gL1 | apply gL2 | apply gL3 | apply gL4); assumption)))
  refine t_if (fun e1 => ?_) (fun e1 => ?_)
  · obtain ⟨g, hg⟩ : ∃ g, l[i]? = some g := ⟨l[i]'(by omega), List.getElem?_eq_getElem (by omega)⟩
    obtain ⟨a, v, ha, hv, hask⟩ := hw.2.2 i g hg
    have hv2 := Cells.cell?_le hle.1 hv
    refine gT (by omega) (gS2 ha (t_loadV hv2 ?_))
    refine t_callv (hask hn0 f h₂ hle (hu.le hle.1)) ?_
    rintro _ h₃ ⟨le3, rfl⟩
    (repeat (first | (with_reducible first | apply gA | apply gB | apply gC | apply gD | apply gE | apply gF | apply gG | apply gH | apply gI | apply gJ | apply gK | apply gL | apply gM | apply gN | apply gO | apply gP | apply gQ | apply gR) | ((with_reducible apply gT); first | exact rfl | exact True.intro | omega | assumption) | ((with_reducible apply gS2); first | assumption | rfl) | ((with_reducible first | apply gL0 | apply gL1 | apply gL2 | apply gL3 | apply gL4); assumption)))
    rw [drop_of hg, firstF] at hc
    refine t_cond (fun e2 => ?_) (fun e2 => ?_)
    · have e2' : g ≠ 0 := by simpa using e2
      (repeat (first | (with_reducible first | apply gA | apply gB | apply gC | apply gD | apply gE | apply gF | apply gG | apply gH | apply gI | apply gJ | apply gK | apply gL | apply gM | apply gN | apply gO | apply gP | apply gQ | apply gR) | ((with_reducible apply gT); first | exact rfl | exact True.intro | omega | assumption) | ((with_reducible apply gS2); first | assumption | rfl) | ((with_reducible first | apply gL0 | apply gL1 | apply gL2 | apply gL3 | apply gL4); assumption)))
      rw [if_pos e2'] at hc
      exact t_ret ⟨LH.le_trans hle le3, .inl ⟨by rw [hc]; exact e2', by rw [hc]⟩⟩
    · have e2' : g = 0 := by simpa using e2
      rw [if_neg (by simp [e2'])] at hc
      refine t_again (hY (n - (i + 1)) _ _ (by omega) ⟨LH.le_trans hle le3, i + 1, ?_, by omega, rfl, hc⟩)
      rw [wrap_id (by omega) (by omega)]; rfl
  · (repeat (first | (with_reducible first | apply gA | apply gB | apply gC | apply gD | apply gE | apply gF | apply gG | apply gH | apply gI | apply gJ | apply gK | apply gL | apply gM | apply gN | apply gO | apply gP | apply gQ | apply gR) | ((with_reducible apply gT); first | exact rfl | exact True.intro | omega | assumption) | ((with_reducible apply gS2); first | assumption | rfl) | ((with_reducible first | apply gL0 | apply gL1 | apply gL2 | apply gL3 | apply gL4); assumption)))
    rw [List.drop_eq_nil_of_le (by omega), firstF] at hc
    refine t_makeMap fun m hm => ?_
    (repeat (first | (with_reducible first | apply gA | apply gB | apply gC | apply gD | apply gE | apply gF | apply gG | apply gH | apply gI | apply gJ | apply gK | apply gL | apply gM | apply gN | apply gO | apply gP | apply gQ | apply gR) | ((with_reducible apply gT); first | exact rfl | exact True.intro | omega | assumption) | ((with_reducible apply gS2); first | assumption | rfl) | ((with_reducible first | apply gL0 | apply gL1 | apply gL2 | apply gL3 | apply gL4); assumption)))
    have le4 : h₂.le _ := LH.upd_le (x := (true, .map #[] 0)) hm
    refine t_struct (deskOf_build f u m) ?_
    refine t_new fun d hd => ?_
    have le5 : LH.le _ _ := LH.upd_le (x := (true, .cells (deskOf f u m) 114 (0, 0))) hd
    have hdm : d ≠ m := by
      rintro rfl
      change Cells.upd _ _ _ d = none at hd
      rw [Cells.upd_self] at hd; cases hd
    have hd0 : h.get d = none := by
      cases hx : h.get d with
      | none => rfl
      | some x => rw [(LH.le_trans hle le4).1 _ _ hx] at hd; cases hd
    have hm0 : h.get m = none := by
      cases hx : h.get m with
      | none => rfl
      | some x => rw [hle.1 _ _ hx] at hm; cases hm
    refine t_loop (fun mm vs h' => ∃ (i : Nat) (cs : Array Value), vs = [.int .i64 i] ∧ i ≤ 2001 ∧ mm = 2001 - i ∧ h₂.le h' ∧ h'.get m = some (true, .map #[] 0) ∧ h'.get d = some (true, .cells cs 114 (0, 0)) ∧ cs.size = 2009 ∧ (∀ j, j < 7 ∨ j = 2008 → cs[j]? = (deskOf f u m)[j]?) ∧ ∀ j : Nat, j < i → cs[7 + j]? = some (.bool (counts u j)))
      (n := 2001) ⟨0, deskOf f u m, rfl, by omega, by omega, LH.le_trans le4 le5, ?_, Cells.upd_self _ _ _, deskOf_size _ _ _, fun _ _ => rfl, fun j hj => by omega⟩ ?_
    · show Cells.upd _ _ _ m = _
      rw [Cells.upd_ne _ _ (Ne.symm hdm)]; exact Cells.upd_self _ _ _
    rintro Y2 mm2 vs2 h₆ hY2 ⟨j, cs, rfl, hj, rfl, le6, hm6, hd6, hsz, hfix, hcnt⟩
    (repeat (first | (with_reducible first | apply gA | apply gB | apply gC | apply gD | apply gE | apply gF | apply gG | apply gH | apply gI | apply gJ | apply gK | apply gL | apply gM | apply gN | apply gO | apply gP | apply gQ | apply gR) | ((with_reducible apply gT); first | exact rfl | exact True.intro | omega | assumption) | ((with_reducible apply gS2); first | assumption | rfl) | ((with_reducible first | apply gL0 | apply gL1 | apply gL2 | apply gL3 | apply gL4); assumption)))
    refine t_if (fun e5 => ?_) (fun e5 => ?_)
    · refine t_new fun r1 hr1 => ?_
      have hr1d : r1 ≠ d := by rintro rfl; rw [hd6] at hr1; cases hr1
      have hr1m : r1 ≠ m := by rintro rfl; rw [hm6] at hr1; cases hr1
      have le7 : h₆.le _ := LH.upd_le (x := (true, .cells #[.int .i64 0] 3 (0, 0))) hr1
      have own1 : (h₆.get.upd r1 (true, .cells #[.int .i64 0] 3 (0, 0))) r1 = some (true, .cells #[.int .i64 0] 3 (0, 0)) := Cells.upd_self _ _ _
      refine t_store rfl ⟨_, own1⟩ (v₀ := .int .i64 0) (by show Cells.cell? _ _ = _; exact cell_upd rfl) (frozen_plain (i := 0) own1) ?_
      have hset : (h₆.get.upd r1 (true, .cells #[.int .i64 0] 3 (0, 0))).setCell ⟨r1, 0, none⟩ (.int .i64 j) = h₆.get.upd r1 (true, .cells #[.int .i64 j] 3 (0, 0)) := by
        rw [setCell_upd own1]
        funext b; unfold Cells.upd; by_cases e : b = r1 <;> simp [e]
      have hset' : (h₆.get.upd r1 (true, .cells #[.int .i64 0] 3 (0, 0))).setCell (Addr.add ⟨r1, 0, none⟩ 0) (.int .i64 j) = h₆.get.upd r1 (true, .cells #[.int .i64 j] 3 (0, 0)) := hset
      simp only [hset']
      have le8 : h₆.le { h₆ with get := h₆.get.upd r1 (true, .cells #[.int .i64 j] 3 (0, 0)) } := LH.upd_le hr1
      have hz : Cells.cell? (h₆.get.upd r1 (true, .cells #[.int .i64 j] 3 (0, 0))) ⟨r1, 0, none⟩ = some (.int .i64 j) := cell_upd rfl
      refine gL0 hz ?_
      refine gS2 rfl ?_
      refine t_gr (c79 (g := fun x => isIn j x.first x.last) (hu.le (LH.le_trans (LH.le_trans hle le6) le8).1).excuses fun x h' hl' => cv_fw X0_ok (by rfl) (pu_gr (c80 (Cells.cell?_le hl'.1 hz) _ _))) ?_
      rintro _ h₉ le9 rfl
      have hz9 := Cells.cell?_le le9.1 hz
      have hd9 := (LH.le_trans le8 le9).1 _ _ hd6
      (repeat (first | (with_reducible first | apply gA | apply gB | apply gC | apply gD | apply gE | apply gF | apply gG | apply gH | apply gI | apply gJ | apply gK | apply gL | apply gM | apply gN | apply gO | apply gP | apply gQ | apply gR) | ((with_reducible apply gT); first | exact rfl | exact True.intro | omega | assumption) | ((with_reducible apply gS2); first | assumption | rfl) | ((with_reducible first | apply gL0 | apply gL1 | apply gL2 | apply gL3 | apply gL4); assumption)))
      have hcl : h₉.get.cell? ⟨d, 7 + j, none⟩ = some (cs[7 + j]'(by omega)) := by
        simp only [Cells.cell?, hd9]
        simp [show 7 + j < cs.size by omega]
      have ha7 : Addr.add (Addr.add (Addr.add ⟨d, 0, none⟩ 7) ((j : Int).toNat * 1)) 0 = ⟨d, 7 + j, none⟩ := by
        have h7 : 0 + 7 + (j : Int).toNat * 1 + 0 = 7 + j := by omega
        rw [add_plain, add_plain, add_plain, h7]
      refine t_store rfl ?_ (v₀ := cs[7 + j]'(by omega)) ?_ ?_ ?_
      · rw [ha7]; exact ⟨_, hd9⟩
      · rw [ha7]; exact hcl
      · rw [ha7]; exact frozen_plain hd9
      rw [ha7, setCell_upd hd9]
      (repeat (first | (with_reducible first | apply gA | apply gB | apply gC | apply gD | apply gE | apply gF | apply gG | apply gH | apply gI | apply gJ | apply gK | apply gL | apply gM | apply gN | apply gO | apply gP | apply gQ | apply gR) | ((with_reducible apply gT); first | exact rfl | exact True.intro | omega | assumption) | ((with_reducible apply gS2); first | assumption | rfl) | ((with_reducible first | apply gL0 | apply gL1 | apply gL2 | apply gL3 | apply gL4); assumption)))
      refine t_again (hY2 (2001 - (j + 1)) _ _ (by omega) ⟨j + 1, _, ?_, by omega, rfl, ?_, ?_, Cells.upd_self _ _ _, by rw [Array.size_setIfInBounds]; exact hsz, ?_, ?_⟩)
      · rw [wrap_id (by omega) (by omega)]; rfl
      · have := LH.le_trans (LH.le_trans le6 le8) le9
        refine ⟨fun b x hb => ?_, this.2⟩
        have hbd : b ≠ d := by
          rintro rfl
          rw [le4.1 _ _ hb] at hd; cases hd
        show Cells.upd _ _ _ b = _
        rw [Cells.upd_ne _ _ hbd]; exact this.1 _ _ hb
      · show Cells.upd _ _ _ m = _
        rw [Cells.upd_ne _ _ (Ne.symm hdm)]; exact (LH.le_trans le8 le9).1 _ _ hm6
      · intro i hi
        rw [Array.getElem?_setIfInBounds_ne (by omega)]; exact hfix i hi
      · intro i hi
        by_cases e : i = j
        · subst e
          rw [Array.getElem?_setIfInBounds_self, if_pos (by omega)]
          congr 2
          simp only [counts, List.not_any_eq_all_not]
        · rw [Array.getElem?_setIfInBounds_ne (by omega)]; exact hcnt i (by omega)
    · (repeat (first | (with_reducible first | apply gA | apply gB | apply gC | apply gD | apply gE | apply gF | apply gG | apply gH | apply gI | apply gJ | apply gK | apply gL | apply gM | apply gN | apply gO | apply gP | apply gQ | apply gR) | ((with_reducible apply gT); first | exact rfl | exact True.intro | omega | assumption) | ((with_reducible apply gS2); first | assumption | rfl) | ((with_reducible first | apply gL0 | apply gL1 | apply gL2 | apply gL3 | apply gL4); assumption)))
      have hcell : ∀ i v, cs[i]? = some v → h₆.get.cell? (Addr.add ⟨d, 0, none⟩ i) = some v := by
        intro i v hv
        rw [add_plain, Nat.zero_add]
        simp only [Cells.cell?, hd6]
        simpa using hv
      have hcell' : ∀ i v, cs[i]? = some v → h₆.get.cell? ⟨d, i, none⟩ = some v := by
        intro i v hv
        simp only [Cells.cell?, hd6]
        simpa using hv
      refine t_ret ⟨LH.le_trans hle le6, .inr ⟨hc, d, m, rfl, hd0, hm0, ?_, hu.le (LH.le_trans hle le6).1, ?_, ?_, ?_⟩⟩
      · exact ⟨hcell _ _ ((hfix 0 (by omega)).trans (deskOf_0 _ _ _)), hcell _ _ ((hfix 1 (by omega)).trans (deskOf_1 _ _ _)), hcell _ _ ((hfix 2 (by omega)).trans (deskOf_2 _ _ _)), hcell _ _ ((hfix 3 (by omega)).trans (deskOf_3 _ _ _)),
          hcell _ _ ((hfix 4 (by omega)).trans (deskOf_4 _ _ _)), hcell _ _ ((hfix 5 (by omega)).trans (deskOf_5 _ _ _)), hcell _ _ ((hfix 6 (by omega)).trans (deskOf_6 _ _ _))⟩
      · intro i hi
        exact hcell' _ _ (hcnt i (by omega))
      · exact hcell' _ _ ((hfix 2008 (.inr rfl)).trans (deskOf_m _ _ _))
      · exact ⟨_, _, hm6, fun e he => by simp at he⟩
end Go.Proofs.YtibibhojkfapnaaDoor
end
section
namespace Go.Proofs.YtibibhojkfapnaaDoor
open Go Go.TM Go.Proofs
attribute [local irreducible] T.wp CV FWK
theorem Mv.le_of {m : Nat} {h h₁ h' : LH} (hle : h.le h₁) (hm : h.get m = none) (mv : Mv m h₁ h') : h.le h' := by
  refine ⟨fun r x hr => mv.keep r x ?_ (hle.1 r x hr), mv.same.1.trans hle.2.1, mv.same.2.1.trans hle.2.2.1, mv.same.2.2.trans hle.2.2.2⟩
  rintro rfl; rw [hm] at hr; cases hr
theorem asks1 {h : LH} {X : XP} {Q : Leaf → LH → Prop} {k : Value → T} {u : UseFile} {v0 : Value} {g0 : Int} (q0 : ∃ fn a b, v0 = Value.func fn a b) (a0 : Asks v0 h u g0) (hk : ∀ r h', h.le h' → AskSl h' (some ⟨r, 0, none⟩) 1 u [g0] → (k (.slice (some ⟨r, 0, none⟩) 1 1)).wp X Tryd.prog Q h') : (T.sem false (Instr.buildSlice 110 1 #[(0, v0)]) k).wp X Tryd.prog Q h := by
  obtain ⟨fn0, x0, y0, rfl⟩ := q0
  refine t_build und110 inf87 (by decide) (by decide) (cells := #[.func fn0 x0 y0]) (by kernel_rfl) fun r hr => ?_
  have le1 : h.le _ := LH.upd_le (x := (true, .cells #[.func fn0 x0 y0] 87 (0, 0))) hr
  refine hk r _ le1 ⟨rfl, by show 1 < _; omega, ?_⟩
  intro i g hg
  have hc : ∀ i v, (#[.func fn0 x0 y0] : Array Value)[i]? = some v → Cells.cell? (h.get.upd r (true, .cells #[.func fn0 x0 y0] 87 (0, 0))) (Addr.add ⟨r, 0, none⟩ (i * 1)) = some v := by
    intro i v hv
    rw [add_plain, Nat.zero_add, Nat.mul_one]
    exact cell_upd hv
  match i, hg with
  | 0, hg => simp at hg; subst hg; exact ⟨_, _, rfl, hc 0 _ rfl, a0.le le1⟩
  | i + 1, hg => simp at hg
theorem asks2 {h : LH} {X : XP} {Q : Leaf → LH → Prop} {k : Value → T} {u : UseFile} {v0 v1 : Value} {g0 g1 : Int} (q0 : ∃ fn a b, v0 = Value.func fn a b) (a0 : Asks v0 h u g0) (q1 : ∃ fn a b, v1 = Value.func fn a b) (a1 : Asks v1 h u g1) (hk : ∀ r h', h.le h' → AskSl h' (some ⟨r, 0, none⟩) 2 u [g0, g1] → (k (.slice (some ⟨r, 0, none⟩) 2 2)).wp X Tryd.prog Q h') : (T.sem false (Instr.buildSlice 110 2 #[(0, v0), (1, v1)]) k).wp X Tryd.prog Q h := by
  obtain ⟨fn0, x0, y0, rfl⟩ := q0
  obtain ⟨fn1, x1, y1, rfl⟩ := q1
  refine t_build und110 inf87 (by decide) (by decide) (cells := #[.func fn0 x0 y0, .func fn1 x1 y1]) (by kernel_rfl) fun r hr => ?_
  have le1 : h.le _ := LH.upd_le (x := (true, .cells #[.func fn0 x0 y0, .func fn1 x1 y1] 87 (0, 0))) hr
  refine hk r _ le1 ⟨rfl, by show 2 < _; omega, ?_⟩
  intro i g hg
  have hc : ∀ i v, (#[.func fn0 x0 y0, .func fn1 x1 y1] : Array Value)[i]? = some v → Cells.cell? (h.get.upd r (true, .cells #[.func fn0 x0 y0, .func fn1 x1 y1] 87 (0, 0))) (Addr.add ⟨r, 0, none⟩ (i * 1)) = some v := by
    intro i v hv
    rw [add_plain, Nat.zero_add, Nat.mul_one]
    exact cell_upd hv
  match i, hg with
  | 0, hg => simp at hg; subst hg; exact ⟨_, _, rfl, hc 0 _ rfl, a0.le le1⟩
  | 1, hg => simp at hg; subst hg; exact ⟨_, _, rfl, hc 1 _ rfl, a1.le le1⟩
  | i + 2, hg => simp at hg
theorem asks3 {h : LH} {X : XP} {Q : Leaf → LH → Prop} {k : Value → T} {u : UseFile} {v0 v1 v2 : Value} {g0 g1 g2 : Int} (q0 : ∃ fn a b, v0 = Value.func fn a b) (a0 : Asks v0 h u g0) (q1 : ∃ fn a b, v1 = Value.func fn a b) (a1 : Asks v1 h u g1) (q2 : ∃ fn a b, v2 = Value.func fn a b) (a2 : Asks v2 h u g2) (hk : ∀ r h', h.le h' → AskSl h' (some ⟨r, 0, none⟩) 3 u [g0, g1, g2] → (k (.slice (some ⟨r, 0, none⟩) 3 3)).wp X Tryd.prog Q h') : (T.sem false (Instr.buildSlice 110 3 #[(0, v0), (1, v1), (2, v2)]) k).wp X Tryd.prog Q h := by
  obtain ⟨fn0, x0, y0, rfl⟩ := q0
  obtain ⟨fn1, x1, y1, rfl⟩ := q1
  obtain ⟨fn2, x2, y2, rfl⟩ := q2
  refine t_build und110 inf87 (by decide) (by decide) (cells := #[.func fn0 x0 y0, .func fn1 x1 y1, .func fn2 x2 y2]) (by kernel_rfl) fun r hr => ?_
  have le1 : h.le _ := LH.upd_le (x := (true, .cells #[.func fn0 x0 y0, .func fn1 x1 y1, .func fn2 x2 y2] 87 (0, 0))) hr
  refine hk r _ le1 ⟨rfl, by show 3 < _; omega, ?_⟩
  intro i g hg
  have hc : ∀ i v, (#[.func fn0 x0 y0, .func fn1 x1 y1, .func fn2 x2 y2] : Array Value)[i]? = some v → Cells.cell? (h.get.upd r (true, .cells #[.func fn0 x0 y0, .func fn1 x1 y1, .func fn2 x2 y2] 87 (0, 0))) (Addr.add ⟨r, 0, none⟩ (i * 1)) = some v := by
    intro i v hv
    rw [add_plain, Nat.zero_add, Nat.mul_one]
    exact cell_upd hv
  match i, hg with
  | 0, hg => simp at hg; subst hg; exact ⟨_, _, rfl, hc 0 _ rfl, a0.le le1⟩
  | 1, hg => simp at hg; subst hg; exact ⟨_, _, rfl, hc 1 _ rfl, a1.le le1⟩
  | 2, hg => simp at hg; subst hg; exact ⟨_, _, rfl, hc 2 _ rfl, a2.le le1⟩
  | i + 3, hg => simp at hg
theorem open_num {u : UseFile} {l : List Int} (h : openF u l = 0) : numbersF u = 0 ∧ checkF u = 0 := by
  unfold openF at h
  split at h
  · rename_i h1; exact absurd h h1
  · rename_i h1
    have : checkF u = 0 := by simpa using h1
    exact ⟨check_num this, this⟩
theorem firstF_zero {l : List Int} : ∀ {i : Nat}, firstF (fun _ x => x) i l = 0 → ∀ x ∈ l, x = 0 := by
  induction l with
  | nil => intro i _ x hx; simp at hx
  | cons y l ih =>
    intro i h x hx
    unfold firstF at h
    split at h
    · rename_i h1; exact absurd h h1
    · rename_i h1
      have hy : y = 0 := by simpa using h1
      rcases List.mem_cons.1 hx with rfl | hx
      · exact hy
      · exact ih h x hx
theorem open_zero {u : UseFile} {l : List Int} (h : openF u l = 0) : ∀ x ∈ l, x = 0 := by
  have h0 := (open_num h).2
  unfold openF at h
  rw [if_neg (by simp [h0])] at h
  exact firstF_zero h
theorem dayQ_zero {d : Int} (h : dayQ d = 0) : 0 ≤ d ∧ d ≤ 2000 := by
  unfold dayQ at h
  split at h
  · rename_i h1; simpa [isDay, isIn] using h1
  · cases h
def windowR (u : UseFile) (day : Int) : Value := if openF u [dayQ day] ≠ 0 then .tuple #[.agg #[.int .i64 0, .int .i64 0], .int .i64 (openF u [dayQ day])] else .tuple #[.agg #[.int .i64 (window u day).first, .int .i64 day], .int .i64 0]
theorem c17 {h : LH} {f : FileC} {u : UseFile} (hp : Parts h.get) (hu : FileR h.get f u) (day : Int) : Gr Tryd.prog 17 #[fileV f u, .int .i64 day] h fun r _ => r = windowR u day := by
  refine w17 _ _ _ _ _ _ _ _ _ _ _ _ _ _ X0_ok ?_
  unfold n17
  refine t_gr (c54 u day) ?_
  rintro v h₁ le1 ⟨q, a⟩
  (repeat (first | (with_reducible first | apply gA | apply gB | apply gC | apply gD | apply gE | apply gF | apply gG | apply gH | apply gI | apply gJ | apply gK | apply gL | apply gM | apply gN | apply gO | apply gP | apply gQ | apply gR) | ((with_reducible apply gT); first | exact rfl | exact True.intro | omega | assumption) | ((with_reducible apply gS2); first | assumption | rfl) | ((with_reducible first | apply gL0 | apply gL1 | apply gL2 | apply gL3 | apply gL4); assumption)))
  refine asks1 q a fun r h₂ le2 hs => ?_
  (repeat (first | (with_reducible first | apply gA | apply gB | apply gC | apply gD | apply gE | apply gF | apply gG | apply gH | apply gI | apply gJ | apply gK | apply gL | apply gM | apply gN | apply gO | apply gP | apply gQ | apply gR) | ((with_reducible apply gT); first | exact rfl | exact True.intro | omega | assumption) | ((with_reducible apply gS2); first | assumption | rfl) | ((with_reducible first | apply gL0 | apply gL1 | apply gL2 | apply gL3 | apply gL4); assumption)))
  have le12 := LH.le_trans le1 le2
  refine t_call (c53 (f := f) (hp.le le12.1) (hu.le le12.1) hs) ?_
  rintro v h₃ ⟨le3, ⟨hne, rfl⟩ | ⟨h0, d, m, rfl, hd, hm, k⟩⟩
  · (repeat (first | (with_reducible first | apply gA | apply gB | apply gC | apply gD | apply gE | apply gF | apply gG | apply gH | apply gI | apply gJ | apply gK | apply gL | apply gM | apply gN | apply gO | apply gP | apply gQ | apply gR) | ((with_reducible apply gT); first | exact rfl | exact True.intro | omega | assumption) | ((with_reducible apply gS2); first | assumption | rfl) | ((with_reducible first | apply gL0 | apply gL1 | apply gL2 | apply gL3 | apply gL4); assumption)))
    refine t_cond (fun _ => ?_) (fun e => absurd (by simpa using e) hne)
    refine t_ret ⟨LH.le_trans le12 le3, ?_⟩
    show _ = windowR u day
    rw [windowR, if_pos hne]
  · (repeat (first | (with_reducible first | apply gA | apply gB | apply gC | apply gD | apply gE | apply gF | apply gG | apply gH | apply gI | apply gJ | apply gK | apply gL | apply gM | apply gN | apply gO | apply gP | apply gQ | apply gR) | ((with_reducible apply gT); first | exact rfl | exact True.intro | omega | assumption) | ((with_reducible apply gS2); first | assumption | rfl) | ((with_reducible first | apply gL0 | apply gL1 | apply gL2 | apply gL3 | apply gL4); assumption)))
    refine t_cond (fun e => by cases e) (fun _ => ?_)
    have hq := dayQ_zero (open_zero h0 _ (by simp; rfl))
    refine t_de (c55 k (num_ok (open_num h0).1).2.2.2 day hq) ?_
    rintro _ h₄ mv k4 rfl
    (repeat (first | (with_reducible first | apply gA | apply gB | apply gC | apply gD | apply gE | apply gF | apply gG | apply gH | apply gI | apply gJ | apply gK | apply gL | apply gM | apply gN | apply gO | apply gP | apply gQ | apply gR) | ((with_reducible apply gT); first | exact rfl | exact True.intro | omega | assumption) | ((with_reducible apply gS2); first | assumption | rfl) | ((with_reducible first | apply gL0 | apply gL1 | apply gL2 | apply gL3 | apply gL4); assumption)))
    refine t_ret ⟨LH.le_trans le12 (Mv.le_of le3 hm mv), ?_⟩
    show _ = windowR u day
    rw [windowR, if_neg (by simpa using h0)]
end Go.Proofs.YtibibhojkfapnaaDoor
end
section
namespace Go.Proofs.YtibibhojkfapnaaDoor
open Go Go.TM Go.Proofs
set_option linter.unusedVariables false
set_option maxRecDepth 100000
noncomputable def n15 (u_0 : Int) (u_1 : Int) (u_2 : Int) (u_3 : Int) (u_4p : Option Addr) (u_4n u_4c : Nat) (u_5p : Option Addr) (u_5n u_5c : Nat) (u_6p : Option Addr) (u_6n u_6c : Nat) : T := .blk (bif decide ((↑u_4n : Int) > 20) then .leaf (.retn [.bool true]) else bif decide ((↑u_5n : Int) > 20) then .leaf (.retn [.bool true]) else bif decide ((↑u_6n : Int) > 20) then .leaf (.retn [.bool true]) else .leaf (.again [.bool false])) (fun vs => .popB vs fun b vs => .unNil vs (.loop [.bool b, .int .i64 0] (fun vs => .popB vs fun b vs => .popI .i64 vs fun n vs => .unNil vs (bif decide (n < (↑u_5n : Int)) then .need (0 ≤ n ∧ n < (↑u_5n : Int)) (.someA u_5p fun a => .loadS (Addr.add (Addr.add a (Int.toNat n * 4)) 3) fun p n_1 c => bif decide ((↑n_1 : Int) > 20) then .leaf (.retn [.bool true, .int .i64 n]) else .leaf (.again [.bool b, .int .i64 (IntKind.wrap .i64 (n + 1))])) else .leaf (.brk [.bool b, .int .i64 n]))) (fun vs => .popB vs fun b vs => .popI .i64 vs fun n vs => .unNil vs (.loop [.bool b, .int .i64 0] (fun vs => .popB vs fun b vs => .popI .i64 vs fun n vs => .unNil vs (bif decide (n < (↑u_6n : Int)) then .need (0 ≤ n ∧ n < (↑u_6n : Int)) (.someA u_6p fun a => .loadS (Addr.add (Addr.add a (Int.toNat n * 3)) 2) fun p n_1 c => bif decide ((↑n_1 : Int) > 20) then .leaf (.retn [.bool true, .int .i64 n]) else .leaf (.again [.bool b, .int .i64 (IntKind.wrap .i64 (n + 1))])) else .leaf (.brk [.bool b, .int .i64 n]))) (fun vs => .popB vs fun b vs => .popI .i64 vs fun n vs => .unNil vs (.leaf (.ret (.bool false)))) (fun vs => .popB vs fun b vs => .popI .i64 vs fun n vs => .unNil vs (.leaf (.ret (.bool b)))) fun x x_1 => .fail)) (fun vs => .popB vs fun b vs => .popI .i64 vs fun n vs => .unNil vs (.leaf (.ret (.bool b)))) fun x x_1 => .fail)) (fun vs => .popB vs fun b vs => .unNil vs (.leaf (.ret (.bool b)))) fun x x_1 => .fail
theorem t15 (u_0 : Int) (u_1 : Int) (u_2 : Int) (u_3 : Int) (u_4p : Option Addr) (u_4n u_4c : Nat) (u_5p : Option Addr) (u_5n u_5c : Nat) (u_6p : Option Addr) (u_6n u_6c : Nat) : ftree ({ P := Tryd.prog, priv := [1], loops := [{ id := 0, slots := [(2, .bool), (3, .int .i64)], ro := [1], outs := [] }, { id := 2, slots := [(2, .bool), (4, .int .i64)], ro := [1], outs := [] }], joins := [{ id := 3, slots := [(2, .bool)], ro := [1], outs := [] }] }) Tryd.f15 [.agg #[.int .i64 u_0, .int .i64 u_1, .int .i64 u_2, .int .i64 u_3, .slice u_4p u_4n u_4c, .slice u_5p u_5n u_5c, .slice u_6p u_6n u_6c]] = n15 u_0 u_1 u_2 u_3 u_4p u_4n u_4c u_5p u_5n u_5c u_6p u_6n u_6c := by kernel_rfl
theorem w15 (u_0 : Int) (u_1 : Int) (u_2 : Int) (u_3 : Int) (u_4p : Option Addr) (u_4n u_4c : Nat) (u_5p : Option Addr) (u_5n u_5c : Nat) (u_6p : Option Addr) (u_6n u_6c : Nat) {X : XP} (hX : XOK X) {h : LH} {A : Value → LH → Prop} (hw : (n15 u_0 u_1 u_2 u_3 u_4p u_4n u_4c u_5p u_5n u_5c u_6p u_6n u_6c).wp X Tryd.prog (retQ A) h) : FWK X Tryd.prog .normal 15 #[.agg #[.int .i64 u_0, .int .i64 u_1, .int .i64 u_2, .int .i64 u_3, .slice u_4p u_4n u_4c, .slice u_5p u_5n u_5c, .slice u_6p u_6n u_6c]] h A := fwk_neat (t15 u_0 u_1 u_2 u_3 u_4p u_4n u_4c u_5p u_5n u_5c u_6p u_6n u_6c) (by simp) (by kernel_rfl) (by kernel_rfl) hX hw
noncomputable def n25 (ap : Option Addr) (an ac : Nat) (bp : Option Addr) (bn bc : Nat) : T := bif (↑an : Int) != (↑bn : Int) then .leaf (.ret (.bool false)) else .loop [.bool false, .int .i64 0] (fun vs => .popB vs fun b vs => .popI .i64 vs fun n vs => .unNil vs (bif decide (n < (↑an : Int)) then .need (0 ≤ n ∧ n < (↑an : Int)) (.someA ap fun a => .loadI .i64 (Addr.add a (Int.toNat n * 1)) fun n_1 => .need (0 ≤ n ∧ n < (↑bn : Int)) (.someA bp fun a => .loadI .i64 (Addr.add a (Int.toNat n * 1)) fun n_2 => bif n_1 != n_2 then .leaf (.retn [.bool false, .int .i64 n]) else .leaf (.again [.bool b, .int .i64 (IntKind.wrap .i64 (n + 1))]))) else .leaf (.brk [.bool b, .int .i64 n]))) (fun vs => .popB vs fun b vs => .popI .i64 vs fun n vs => .unNil vs (.leaf (.ret (.bool true)))) (fun vs => .popB vs fun b vs => .popI .i64 vs fun n vs => .unNil vs (.leaf (.ret (.bool b)))) fun x x_1 => .fail
theorem t25 (ap : Option Addr) (an ac : Nat) (bp : Option Addr) (bn bc : Nat) : ftree ({ P := Tryd.prog, priv := [], loops := [{ id := 0, slots := [(4, .bool), (5, .int .i64)], ro := [], outs := [] }], joins := [] }) Tryd.f25 [.slice ap an ac, .slice bp bn bc] = n25 ap an ac bp bn bc := by kernel_rfl
theorem w25 (ap : Option Addr) (an ac : Nat) (bp : Option Addr) (bn bc : Nat) {X : XP} (hX : XOK X) {h : LH} {A : Value → LH → Prop} (hw : (n25 ap an ac bp bn bc).wp X Tryd.prog (retQ A) h) : FWK X Tryd.prog .normal 25 #[.slice ap an ac, .slice bp bn bc] h A := fwk_neat (t25 ap an ac bp bn bc) (by simp) (by kernel_rfl) (by kernel_rfl) hX hw
noncomputable def n27 (u_0 : Int) (u_1 : Int) (u_2 : Int) (u_3 : Int) (u_4p : Option Addr) (u_4n u_4c : Nat) (u_5p : Option Addr) (u_5n u_5c : Nat) (u_6p : Option Addr) (u_6n u_6c : Nat) : T := .blk (.call false 49 #[.int .i64 u_0, .int .i64 0, .int .i64 6] fun v => .unB v fun b => bif !b then .leaf (.retn [.int .i64 1]) else .call false 49 #[.int .i64 u_1, .int .i64 1, .int .i64 3] fun v => .unB v fun b => bif !b then .leaf (.retn [.int .i64 1]) else .call false 56 #[.int .i64 u_2] fun v => .unB v fun b => bif !b then .leaf (.retn [.int .i64 1]) else .call false 49 #[.int .i64 u_3, .int .i64 1, .int .i64 2000] fun v => .unB v fun b => bif !b then .leaf (.retn [.int .i64 1]) else .leaf (.again [.int .i64 0])) (fun vs => .popI .i64 vs fun n vs => .unNil vs (.call false 66 #[.slice u_4p u_4n u_4c] fun v => .unI .i64 v fun n => bif n != 0 then .leaf (.ret (.int .i64 n)) else .call false 67 #[.agg #[.int .i64 u_0, .int .i64 u_1, .int .i64 u_2, .int .i64 u_3, .slice u_4p u_4n u_4c, .slice u_5p u_5n u_5c, .slice u_6p u_6n u_6c]] fun v => .unI .i64 v fun n => bif n != 0 then .leaf (.ret (.int .i64 n)) else .call false 68 #[.agg #[.int .i64 u_0, .int .i64 u_1, .int .i64 u_2, .int .i64 u_3, .slice u_4p u_4n u_4c, .slice u_5p u_5n u_5c, .slice u_6p u_6n u_6c]] fun v => .unI .i64 v fun n => .leaf (.ret (.int .i64 n)))) (fun vs => .popI .i64 vs fun n vs => .unNil vs (.leaf (.ret (.int .i64 n)))) fun x x_1 => .fail
theorem t27 (u_0 : Int) (u_1 : Int) (u_2 : Int) (u_3 : Int) (u_4p : Option Addr) (u_4n u_4c : Nat) (u_5p : Option Addr) (u_5n u_5c : Nat) (u_6p : Option Addr) (u_6n u_6c : Nat) : ftree ({ P := Tryd.prog, priv := [1], loops := [], joins := [{ id := 3, slots := [(2, .int .i64)], ro := [1], outs := [] }] }) Tryd.f27 [.agg #[.int .i64 u_0, .int .i64 u_1, .int .i64 u_2, .int .i64 u_3, .slice u_4p u_4n u_4c, .slice u_5p u_5n u_5c, .slice u_6p u_6n u_6c]] = n27 u_0 u_1 u_2 u_3 u_4p u_4n u_4c u_5p u_5n u_5c u_6p u_6n u_6c := by kernel_rfl
theorem w27 (u_0 : Int) (u_1 : Int) (u_2 : Int) (u_3 : Int) (u_4p : Option Addr) (u_4n u_4c : Nat) (u_5p : Option Addr) (u_5n u_5c : Nat) (u_6p : Option Addr) (u_6n u_6c : Nat) {X : XP} (hX : XOK X) {h : LH} {A : Value → LH → Prop} (hw : (n27 u_0 u_1 u_2 u_3 u_4p u_4n u_4c u_5p u_5n u_5c u_6p u_6n u_6c).wp X Tryd.prog (retQ A) h) : FWK X Tryd.prog .normal 27 #[.agg #[.int .i64 u_0, .int .i64 u_1, .int .i64 u_2, .int .i64 u_3, .slice u_4p u_4n u_4c, .slice u_5p u_5n u_5c, .slice u_6p u_6n u_6c]] h A := fwk_neat (t27 u_0 u_1 u_2 u_3 u_4p u_4n u_4c u_5p u_5n u_5c u_6p u_6n u_6c) (by simp) (by kernel_rfl) (by kernel_rfl) hX hw
noncomputable def n30 (ap : Option Addr) (an ac : Nat) (bp : Option Addr) (bn bc : Nat) : T := bif (↑an : Int) != (↑bn : Int) then .leaf (.ret (.bool false)) else .loop [.bool false, .int .i64 0] (fun vs => .popB vs fun b vs => .popI .i64 vs fun n vs => .unNil vs (bif decide (n < (↑an : Int)) then .need (0 ≤ n ∧ n < (↑an : Int)) (.someA ap fun a => .loadI .i64 (Addr.add (Addr.add a (Int.toNat n * 4)) 0) fun n_1 => .loadI .i64 (Addr.add (Addr.add a (Int.toNat n * 4)) 1) fun n_2 => .loadI .i64 (Addr.add (Addr.add a (Int.toNat n * 4)) 2) fun n_3 => .loadI .i64 (Addr.add (Addr.add a (Int.toNat n * 4)) 3) fun n_4 => .need (0 ≤ n ∧ n < (↑bn : Int)) (.someA bp fun a_1 => .loadI .i64 (Addr.add (Addr.add a_1 (Int.toNat n * 4)) 0) fun n_5 => .loadI .i64 (Addr.add (Addr.add a_1 (Int.toNat n * 4)) 1) fun n_6 => .loadI .i64 (Addr.add (Addr.add a_1 (Int.toNat n * 4)) 2) fun n_7 => .loadI .i64 (Addr.add (Addr.add a_1 (Int.toNat n * 4)) 3) fun n_8 => .sem false (Sem.bind (eqGuard BinOp.neq 79 (Operand.tmp 20) (Operand.tmp 24) (.agg #[.int .i64 n_1, .int .i64 n_2, .int .i64 n_3, .int .i64 n_4]) (.agg #[.int .i64 n_5, .int .i64 n_6, .int .i64 n_7, .int .i64 n_8])) fun __r => binOp BinOp.neq 79 (.agg #[.int .i64 n_1, .int .i64 n_2, .int .i64 n_3, .int .i64 n_4]) (.agg #[.int .i64 n_5, .int .i64 n_6, .int .i64 n_7, .int .i64 n_8])) fun v => .unB v fun b_1 => .need (0 ≤ n ∧ n < (↑bn : Int)) (.someA bp fun a_2 => .need (AV.val (.pointer (some (Addr.add a_2 (Int.toNat n * 4)))) = AV.val (.pointer (some (Addr.add a_1 (Int.toNat n * 4))))) (.nd (.int .i64 n) (.nd (.slice bp bn bc) (.need (0 ≤ n ∧ n < (↑an : Int)) (.someA ap fun a_3 => .need (AV.val (.pointer (some (Addr.add a_3 (Int.toNat n * 4)))) = AV.val (.pointer (some (Addr.add a (Int.toNat n * 4))))) (.nd (.int .i64 n) (.nd (.slice ap an ac) (bif b_1 then .leaf (.retn [.bool false, .int .i64 n]) else .leaf (.again [.bool b, .int .i64 (IntKind.wrap .i64 (n + 1))]))))))))))) else .leaf (.brk [.bool b, .int .i64 n]))) (fun vs => .popB vs fun b vs => .popI .i64 vs fun n vs => .unNil vs (.leaf (.ret (.bool true)))) (fun vs => .popB vs fun b vs => .popI .i64 vs fun n vs => .unNil vs (.leaf (.ret (.bool b)))) fun x x_1 => .fail
theorem t30 (ap : Option Addr) (an ac : Nat) (bp : Option Addr) (bn bc : Nat) : ftree ({ P := Tryd.prog, priv := [], loops := [{ id := 0, slots := [(4, .bool), (5, .int .i64)], ro := [], outs := [] }], joins := [] }) Tryd.f30 [.slice ap an ac, .slice bp bn bc] = n30 ap an ac bp bn bc := by kernel_rfl
theorem w30 (ap : Option Addr) (an ac : Nat) (bp : Option Addr) (bn bc : Nat) {X : XP} (hX : XOK X) {h : LH} {A : Value → LH → Prop} (hw : (n30 ap an ac bp bn bc).wp X Tryd.prog (retQ A) h) : FWK X Tryd.prog .normal 30 #[.slice ap an ac, .slice bp bn bc] h A := fwk_neat (t30 ap an ac bp bn bc) (by simp) (by kernel_rfl) (by kernel_rfl) hX hw
noncomputable def n32 (u_0 : Int) (u_1 : Int) (u_2 : Int) (u_3 : Int) (u_4p : Option Addr) (u_4n u_4c : Nat) (u_5p : Option Addr) (u_5n u_5c : Nat) (u_6p : Option Addr) (u_6n u_6c : Nat) (land : Int) (day : Int) (papersp : Option Addr) (papersn papersc : Nat) : T := .call false 64 #[.agg #[.int .i64 u_0, .int .i64 u_1, .int .i64 u_2, .int .i64 u_3, .slice u_4p u_4n u_4c, .slice u_5p u_5n u_5c, .slice u_6p u_6n u_6c], .int .i64 land, .int .i64 day] fun v => .unI .i64 v fun n => bif n != 0 then .leaf (.ret (.tuple #[.bool false, .int .i64 n])) else .call false 72 #[.slice papersp papersn papersc, .int .i64 (↑u_5n : Int)] fun v => .unI .i64 v fun n => bif n != 0 then .leaf (.ret (.tuple #[.bool false, .int .i64 n])) else .call false 73 #[.agg #[.int .i64 u_0, .int .i64 u_1, .int .i64 u_2, .int .i64 u_3, .slice u_4p u_4n u_4c, .slice u_5p u_5n u_5c, .slice u_6p u_6n u_6c], .int .i64 land, .int .i64 day, .slice papersp papersn papersc] fun v => .unB v fun b => .leaf (.ret (.tuple #[.bool b, .int .i64 0]))
theorem t32 (u_0 : Int) (u_1 : Int) (u_2 : Int) (u_3 : Int) (u_4p : Option Addr) (u_4n u_4c : Nat) (u_5p : Option Addr) (u_5n u_5c : Nat) (u_6p : Option Addr) (u_6n u_6c : Nat) (land : Int) (day : Int) (papersp : Option Addr) (papersn papersc : Nat) : ftree ({ P := Tryd.prog, priv := [4], loops := [], joins := [] }) Tryd.f32 [.agg #[.int .i64 u_0, .int .i64 u_1, .int .i64 u_2, .int .i64 u_3, .slice u_4p u_4n u_4c, .slice u_5p u_5n u_5c, .slice u_6p u_6n u_6c], .int .i64 land, .int .i64 day, .slice papersp papersn papersc] = n32 u_0 u_1 u_2 u_3 u_4p u_4n u_4c u_5p u_5n u_5c u_6p u_6n u_6c land day papersp papersn papersc := by kernel_rfl
theorem w32 (u_0 : Int) (u_1 : Int) (u_2 : Int) (u_3 : Int) (u_4p : Option Addr) (u_4n u_4c : Nat) (u_5p : Option Addr) (u_5n u_5c : Nat) (u_6p : Option Addr) (u_6n u_6c : Nat) (land : Int) (day : Int) (papersp : Option Addr) (papersn papersc : Nat) {X : XP} (hX : XOK X) {h : LH} {A : Value → LH → Prop} (hw : (n32 u_0 u_1 u_2 u_3 u_4p u_4n u_4c u_5p u_5n u_5c u_6p u_6n u_6c land day papersp papersn papersc).wp X Tryd.prog (retQ A) h) : FWK X Tryd.prog .normal 32 #[.agg #[.int .i64 u_0, .int .i64 u_1, .int .i64 u_2, .int .i64 u_3, .slice u_4p u_4n u_4c, .slice u_5p u_5n u_5c, .slice u_6p u_6n u_6c], .int .i64 land, .int .i64 day, .slice papersp papersn papersc] h A := fwk_neat (t32 u_0 u_1 u_2 u_3 u_4p u_4n u_4c u_5p u_5n u_5c u_6p u_6n u_6c land day papersp papersn papersc) (by simp) (by kernel_rfl) (by kernel_rfl) hX hw
noncomputable def n34 (u_0 : Int) (u_1 : Int) (u_2 : Int) (u_3 : Int) (u_4p : Option Addr) (u_4n u_4c : Nat) (u_5p : Option Addr) (u_5n u_5c : Nat) (u_6p : Option Addr) (u_6n u_6c : Nat) (land : Int) (day : Int) : T := .call false 64 #[.agg #[.int .i64 u_0, .int .i64 u_1, .int .i64 u_2, .int .i64 u_3, .slice u_4p u_4n u_4c, .slice u_5p u_5n u_5c, .slice u_6p u_6n u_6c], .int .i64 land, .int .i64 day] fun v => .unI .i64 v fun n => bif n != 0 then .leaf (.ret (.tuple #[.slice none 0 0, .int .i64 n])) else .loop [.slice none 0 0, .int .i64 0] (fun vs => .popS vs fun a n c vs => .popI .i64 vs fun n_1 vs => .unNil vs (bif decide (n_1 < (↑u_5n : Int)) then .sem false (Instr.buildSlice 50 1 #[(0, .int .i64 n_1)]) fun v => .unS v fun a_1 n_2 c_1 => .sem false (Builtin.append_ #[50, 50] 50 #[.slice a n c, .slice a_1 n_2 c_1]) fun v => .unS v fun a n c => .leaf (.again [.slice a n c, .int .i64 (IntKind.wrap .i64 (n_1 + 1))]) else .leaf (.brk [.slice a n c, .int .i64 n_1]))) (fun vs => .popS vs fun a n c vs => .popI .i64 vs fun n_1 vs => .unNil vs (.call false 76 #[.slice a n c] fun v => .unS v fun a_1 n_2 c_1 => .loop [.slice a n c, .int .i64 0] (fun vs => .popS vs fun a n c vs => .popI .i64 vs fun n_3 vs => .unNil vs (bif decide (n_3 < (↑n_2 : Int)) then .need (0 ≤ n_3 ∧ n_3 < (↑n_2 : Int)) (.someA a_1 fun a_2 => .loadS (Addr.add a_2 (Int.toNat n_3 * 1)) fun p n_4 c_2 => bif decide ((↑n_4 : Int) < (↑n : Int)) then .need (0 ≤ n_3 ∧ n_3 < (↑n_2 : Int)) (.someA a_1 fun a_3 => .loadS (Addr.add a_3 (Int.toNat n_3 * 1)) fun p_1 n_5 c_3 => .call false 73 #[.agg #[.int .i64 u_0, .int .i64 u_1, .int .i64 u_2, .int .i64 u_3, .slice u_4p u_4n u_4c, .slice u_5p u_5n u_5c, .slice u_6p u_6n u_6c], .int .i64 land, .int .i64 day, .slice p_1 n_5 c_3] fun v => .unB v fun b => .need (0 ≤ n_3 ∧ n_3 < (↑n_2 : Int)) (.someA a_1 fun a_4 => .need (AV.val (.pointer (some (Addr.add a_4 (Int.toNat n_3 * 1)))) = AV.val (.pointer (some (Addr.add a_3 (Int.toNat n_3 * 1))))) (.nd (.int .i64 n_3) (.nd (.slice a_1 n_2 c_1) (.nd (.bool (decide ((↑n_4 : Int) < (↑n : Int)))) (.nd (.int .i64 (↑n : Int)) (.nd (.slice a n c) (.nd (.int .i64 (↑n_4 : Int)) (.loadS (Addr.add a_2 (Int.toNat n_3 * 1)) fun p_2 n_6 c_4 => .need (AV.val (.slice p_2 n_6 c_4) = AV.val (.slice p n_4 c_2)) (.need (0 ≤ n_3 ∧ n_3 < (↑n_2 : Int)) (.someA a_1 fun a_5 => .need (AV.val (.pointer (some (Addr.add a_5 (Int.toNat n_3 * 1)))) = AV.val (.pointer (some (Addr.add a_2 (Int.toNat n_3 * 1))))) (.nd (.int .i64 n_3) (.nd (.slice a_1 n_2 c_1) (bif b then .need (0 ≤ n_3 ∧ n_3 < (↑n_2 : Int)) (.someA a_1 fun a => .loadS (Addr.add a (Int.toNat n_3 * 1)) fun p n c => .leaf (.again [.slice p n c, .int .i64 (IntKind.wrap .i64 (n_3 + 1))])) else .leaf (.again [.slice a n c, .int .i64 (IntKind.wrap .i64 (n_3 + 1))]))))))))))))))) else .nd (.tuple #[]) (.nd (.tuple #[]) (.nd (.tuple #[]) (.nd (.bool (decide ((↑n_4 : Int) < (↑n : Int)))) (.nd (.int .i64 (↑n : Int)) (.nd (.slice a n c) (.nd (.int .i64 (↑n_4 : Int)) (.loadS (Addr.add a_2 (Int.toNat n_3 * 1)) fun p_1 n_5 c_3 => .need (AV.val (.slice p_1 n_5 c_3) = AV.val (.slice p n_4 c_2)) (.need (0 ≤ n_3 ∧ n_3 < (↑n_2 : Int)) (.someA a_1 fun a_3 => .need (AV.val (.pointer (some (Addr.add a_3 (Int.toNat n_3 * 1)))) = AV.val (.pointer (some (Addr.add a_2 (Int.toNat n_3 * 1))))) (.nd (.int .i64 n_3) (.nd (.slice a_1 n_2 c_1) (.leaf (.again [.slice a n c, .int .i64 (IntKind.wrap .i64 (n_3 + 1))])))))))))))))) else .leaf (.brk [.slice a n c, .int .i64 n_3]))) (fun vs => .popS vs fun a n c vs => .popI .i64 vs fun n_3 vs => .unNil vs (.leaf (.ret (.tuple #[.slice a n c, .int .i64 0])))) (fun vs => .popS vs fun a n c vs => .popI .i64 vs fun n vs => .unNil vs (.leaf (.ret (.tuple #[.slice none 0 0, .int .i64 0])))) fun x x_1 => .fail)) (fun vs => .popS vs fun a n c vs => .popI .i64 vs fun n vs => .unNil vs (.leaf (.ret (.tuple #[.slice none 0 0, .int .i64 0])))) fun x x_1 => .fail
theorem t34 (u_0 : Int) (u_1 : Int) (u_2 : Int) (u_3 : Int) (u_4p : Option Addr) (u_4n u_4c : Nat) (u_5p : Option Addr) (u_5n u_5c : Nat) (u_6p : Option Addr) (u_6n u_6c : Nat) (land : Int) (day : Int) : ftree ({ P := Tryd.prog, priv := [3], loops := [{ id := 0, slots := [(9, .slice), (10, .int .i64)], ro := [3], outs := [] }, { id := 2, slots := [(11, .slice), (13, .int .i64)], ro := [3], outs := [] }], joins := [] }) Tryd.f34 [.agg #[.int .i64 u_0, .int .i64 u_1, .int .i64 u_2, .int .i64 u_3, .slice u_4p u_4n u_4c, .slice u_5p u_5n u_5c, .slice u_6p u_6n u_6c], .int .i64 land, .int .i64 day] = n34 u_0 u_1 u_2 u_3 u_4p u_4n u_4c u_5p u_5n u_5c u_6p u_6n u_6c land day := by kernel_rfl
theorem w34 (u_0 : Int) (u_1 : Int) (u_2 : Int) (u_3 : Int) (u_4p : Option Addr) (u_4n u_4c : Nat) (u_5p : Option Addr) (u_5n u_5c : Nat) (u_6p : Option Addr) (u_6n u_6c : Nat) (land : Int) (day : Int) {X : XP} (hX : XOK X) {h : LH} {A : Value → LH → Prop} (hw : (n34 u_0 u_1 u_2 u_3 u_4p u_4n u_4c u_5p u_5n u_5c u_6p u_6n u_6c land day).wp X Tryd.prog (retQ A) h) : FWK X Tryd.prog .normal 34 #[.agg #[.int .i64 u_0, .int .i64 u_1, .int .i64 u_2, .int .i64 u_3, .slice u_4p u_4n u_4c, .slice u_5p u_5n u_5c, .slice u_6p u_6n u_6c], .int .i64 land, .int .i64 day] h A := fwk_neat (t34 u_0 u_1 u_2 u_3 u_4p u_4n u_4c u_5p u_5n u_5c u_6p u_6n u_6c land day) (by simp) (by kernel_rfl) (by kernel_rfl) hX hw
noncomputable def n35 (ap : Option Addr) (an ac : Nat) (bp : Option Addr) (bn bc : Nat) : T := bif (↑an : Int) != (↑bn : Int) then .leaf (.ret (.bool false)) else .loop [.bool false, .int .i64 0] (fun vs => .popB vs fun b vs => .popI .i64 vs fun n vs => .unNil vs (bif decide (n < (↑an : Int)) then .need (0 ≤ n ∧ n < (↑an : Int)) (.someA ap fun a => .loadI .i64 (Addr.add a (Int.toNat n * 1)) fun n_1 => .need (0 ≤ n ∧ n < (↑bn : Int)) (.someA bp fun a => .loadI .i64 (Addr.add a (Int.toNat n * 1)) fun n_2 => bif n_1 != n_2 then .leaf (.retn [.bool false, .int .i64 n]) else .leaf (.again [.bool b, .int .i64 (IntKind.wrap .i64 (n + 1))]))) else .leaf (.brk [.bool b, .int .i64 n]))) (fun vs => .popB vs fun b vs => .popI .i64 vs fun n vs => .unNil vs (.leaf (.ret (.bool true)))) (fun vs => .popB vs fun b vs => .popI .i64 vs fun n vs => .unNil vs (.leaf (.ret (.bool b)))) fun x x_1 => .fail
theorem t35 (ap : Option Addr) (an ac : Nat) (bp : Option Addr) (bn bc : Nat) : ftree ({ P := Tryd.prog, priv := [], loops := [{ id := 0, slots := [(4, .bool), (5, .int .i64)], ro := [], outs := [] }], joins := [] }) Tryd.f35 [.slice ap an ac, .slice bp bn bc] = n35 ap an ac bp bn bc := by kernel_rfl
theorem w35 (ap : Option Addr) (an ac : Nat) (bp : Option Addr) (bn bc : Nat) {X : XP} (hX : XOK X) {h : LH} {A : Value → LH → Prop} (hw : (n35 ap an ac bp bn bc).wp X Tryd.prog (retQ A) h) : FWK X Tryd.prog .normal 35 #[.slice ap an ac, .slice bp bn bc] h A := fwk_neat (t35 ap an ac bp bn bc) (by simp) (by kernel_rfl) (by kernel_rfl) hX hw
noncomputable def n41 (lp : Option Addr) (ln lc : Nat) (n : Int) : T := .loop [.bool false, .int .i64 0] (fun vs => .popB vs fun b vs => .popI .i64 vs fun n_1 vs => .unNil vs (bif decide (n_1 < (↑ln : Int)) then .need (0 ≤ n_1 ∧ n_1 < (↑ln : Int)) (.someA lp fun a => .loadI .i64 (Addr.add a (Int.toNat n_1 * 1)) fun n_2 => bif n_2 == n then .leaf (.retn [.bool true, .int .i64 n_1]) else .leaf (.again [.bool b, .int .i64 (IntKind.wrap .i64 (n_1 + 1))])) else .leaf (.brk [.bool b, .int .i64 n_1]))) (fun vs => .popB vs fun b vs => .popI .i64 vs fun n vs => .unNil vs (.leaf (.ret (.bool false)))) (fun vs => .popB vs fun b vs => .popI .i64 vs fun n vs => .unNil vs (.leaf (.ret (.bool b)))) fun x x_1 => .fail
theorem t41 (lp : Option Addr) (ln lc : Nat) (n : Int) : ftree ({ P := Tryd.prog, priv := [], loops := [{ id := 0, slots := [(4, .bool), (5, .int .i64)], ro := [], outs := [] }], joins := [] }) Tryd.f41 [.slice lp ln lc, .int .i64 n] = n41 lp ln lc n := by kernel_rfl
theorem w41 (lp : Option Addr) (ln lc : Nat) (n : Int) {X : XP} (hX : XOK X) {h : LH} {A : Value → LH → Prop} (hw : (n41 lp ln lc n).wp X Tryd.prog (retQ A) h) : FWK X Tryd.prog .normal 41 #[.slice lp ln lc, .int .i64 n] h A := fwk_neat (t41 lp ln lc n) (by simp) (by kernel_rfl) (by kernel_rfl) hX hw
noncomputable def n42 (a : Int) (b : Int) : T := .leaf (.ret (.agg #[.int .i64 a, .int .i64 b]))
theorem t42 (a : Int) (b : Int) : ftree ({ P := Tryd.prog, priv := [4], loops := [], joins := [] }) Tryd.f42 [.int .i64 a, .int .i64 b] = n42 a b := by kernel_rfl
theorem w42 (a : Int) (b : Int) {X : XP} (hX : XOK X) {h : LH} {A : Value → LH → Prop} (hw : (n42 a b).wp X Tryd.prog (retQ A) h) : FWK X Tryd.prog .normal 42 #[.int .i64 a, .int .i64 b] h A := fwk_neat (t42 a b) (by simp) (by kernel_rfl) (by kernel_rfl) hX hw
noncomputable def n46 (u_0 : Int) (u_1 : Int) (u_2 : Int) (u_3 : Int) (u_4p : Option Addr) (u_4n u_4c : Nat) (u_5p : Option Addr) (u_5n u_5c : Nat) (u_6p : Option Addr) (u_6n u_6c : Nat) (papersp : Option Addr) (papersn papersc : Nat) : T := .loop [.int .i64 0, .int .i64 u_0, .int .i64 u_1, .int .i64 u_2, .int .i64 u_3, .slice u_4p u_4n u_4c, .slice none 0 0, .slice u_6p u_6n u_6c] (fun vs => .popI .i64 vs fun n vs => .popI .i64 vs fun n_1 vs => .popI .i64 vs fun n_2 vs => .popI .i64 vs fun n_3 vs => .popI .i64 vs fun n_4 vs => .popS vs fun a n_5 c vs => .popS vs fun a_1 n_6 c_1 vs => .popS vs fun a_2 n_7 c_2 vs => .unNil vs (bif decide (n < (↑papersn : Int)) then .need (0 ≤ n ∧ n < (↑papersn : Int)) (.someA papersp fun a_3 => .loadI .i64 (Addr.add a_3 (Int.toNat n * 1)) fun n_8 => .need (0 ≤ n_8 ∧ n_8 < (↑u_5n : Int)) (.someA u_5p fun a_4 => .loadI .i64 (Addr.add (Addr.add a_4 (Int.toNat n_8 * 4)) 0) fun n_9 => .loadI .i64 (Addr.add (Addr.add a_4 (Int.toNat n_8 * 4)) 1) fun n_10 => .loadI .i64 (Addr.add (Addr.add a_4 (Int.toNat n_8 * 4)) 2) fun n_11 => .loadS (Addr.add (Addr.add a_4 (Int.toNat n_8 * 4)) 3) fun p n_12 c_3 => .sem false (Instr.buildSlice 23 1 #[(0, .agg #[.int .i64 n_9, .int .i64 n_10, .int .i64 n_11, .slice p n_12 c_3])]) fun v => .unS v fun a_5 n_13 c_4 => .need (0 ≤ n_8 ∧ n_8 < (↑u_5n : Int)) (.someA u_5p fun a_6 => .need (AV.val (.pointer (some (Addr.add a_6 (Int.toNat n_8 * 4)))) = AV.val (.pointer (some (Addr.add a_4 (Int.toNat n_8 * 4))))) (.loadI .i64 (Addr.add a_3 (Int.toNat n * 1)) fun n_14 => .need (AV.val (.int .i64 n_14) = AV.val (.int .i64 n_8)) (.need (0 ≤ n ∧ n < (↑papersn : Int)) (.someA papersp fun a_7 => .need (AV.val (.pointer (some (Addr.add a_7 (Int.toNat n * 1)))) = AV.val (.pointer (some (Addr.add a_3 (Int.toNat n * 1))))) (.nd (.int .i64 n) (.nd (.slice papersp papersn papersc) (.nd (.slice u_5p u_5n u_5c) (.need (AV.pp 2 5 = AV.pp 2 5) (.nd (.slice a_1 n_6 c_1) (.need (AV.pp 5 5 = AV.pp 5 5) (.sem false (Builtin.append_ #[23, 23] 23 #[.slice a_1 n_6 c_1, .slice a_5 n_13 c_4]) fun v => .unS v fun a_8 n_15 c_5 => .need (0 ≤ n_8 ∧ n_8 < (↑u_5n : Int)) (.someA u_5p fun a_9 => .need (AV.val (.pointer (some (Addr.add a_9 (Int.toNat n_8 * 4)))) = AV.val (.pointer (some (Addr.add a_4 (Int.toNat n_8 * 4))))) (.loadI .i64 (Addr.add a_3 (Int.toNat n * 1)) fun n_16 => .need (AV.val (.int .i64 n_16) = AV.val (.int .i64 n_8)) (.need (0 ≤ n ∧ n < (↑papersn : Int)) (.someA papersp fun a_10 => .need (AV.val (.pointer (some (Addr.add a_10 (Int.toNat n * 1)))) = AV.val (.pointer (some (Addr.add a_3 (Int.toNat n * 1))))) (.nd (.int .i64 n) (.nd (.slice papersp papersn papersc) (.nd (.slice u_5p u_5n u_5c) (.need (AV.pp 2 5 = AV.pp 2 5) (.need (AV.pp 5 5 = AV.pp 5 5) (.leaf (.again [.int .i64 (IntKind.wrap .i64 (n + 1)), .int .i64 n_1, .int .i64 n_2, .int .i64 n_3, .int .i64 n_4, .slice a n_5 c, .slice a_8 n_15 c_5, .slice a_2 n_7 c_2])))))))))))))))))))))))) else .leaf (.brk [.int .i64 n, .int .i64 n_1, .int .i64 n_2, .int .i64 n_3, .int .i64 n_4, .slice a n_5 c, .slice a_1 n_6 c_1, .slice a_2 n_7 c_2]))) (fun vs => .popI .i64 vs fun n vs => .popI .i64 vs fun n vs => .popI .i64 vs fun n_1 vs => .popI .i64 vs fun n_2 vs => .popI .i64 vs fun n_3 vs => .popS vs fun a n_4 c vs => .popS vs fun a_1 n_5 c_1 vs => .popS vs fun a_2 n_6 c_2 vs => .unNil vs (.leaf (.ret (.agg #[.int .i64 n, .int .i64 n_1, .int .i64 n_2, .int .i64 n_3, .slice a n_4 c, .slice a_1 n_5 c_1, .slice a_2 n_6 c_2])))) (fun vs => .popI .i64 vs fun n vs => .popI .i64 vs fun n vs => .popI .i64 vs fun n vs => .popI .i64 vs fun n vs => .popI .i64 vs fun n vs => .popS vs fun a n c vs => .popS vs fun a n c vs => .popS vs fun a n c vs => .unNil vs (.leaf (.ret (.agg #[.int .i64 0, .int .i64 0, .int .i64 0, .int .i64 0, .slice none 0 0, .slice none 0 0, .slice none 0 0])))) fun x x_1 => .fail
theorem t46 (u_0 : Int) (u_1 : Int) (u_2 : Int) (u_3 : Int) (u_4p : Option Addr) (u_4n u_4c : Nat) (u_5p : Option Addr) (u_5n u_5c : Nat) (u_6p : Option Addr) (u_6n u_6c : Nat) (papersp : Option Addr) (papersn papersc : Nat) : ftree ({ P := Tryd.prog, priv := [2, 4, 5], loops := [{ id := 0, slots := [(6, .int .i64), (24576, .int .i64), (24577, .int .i64), (24578, .int .i64), (24579, .int .i64), (24580, .slice), (24581, .slice), (24582, .slice)], ro := [2, 4], outs := [] }], joins := [] }) Tryd.f46 [.agg #[.int .i64 u_0, .int .i64 u_1, .int .i64 u_2, .int .i64 u_3, .slice u_4p u_4n u_4c, .slice u_5p u_5n u_5c, .slice u_6p u_6n u_6c], .slice papersp papersn papersc] = n46 u_0 u_1 u_2 u_3 u_4p u_4n u_4c u_5p u_5n u_5c u_6p u_6n u_6c papersp papersn papersc := by kernel_rfl
theorem w46 (u_0 : Int) (u_1 : Int) (u_2 : Int) (u_3 : Int) (u_4p : Option Addr) (u_4n u_4c : Nat) (u_5p : Option Addr) (u_5n u_5c : Nat) (u_6p : Option Addr) (u_6n u_6c : Nat) (papersp : Option Addr) (papersn papersc : Nat) {X : XP} (hX : XOK X) {h : LH} {A : Value → LH → Prop} (hw : (n46 u_0 u_1 u_2 u_3 u_4p u_4n u_4c u_5p u_5n u_5c u_6p u_6n u_6c papersp papersn papersc).wp X Tryd.prog (retQ A) h) : FWK X Tryd.prog .normal 46 #[.agg #[.int .i64 u_0, .int .i64 u_1, .int .i64 u_2, .int .i64 u_3, .slice u_4p u_4n u_4c, .slice u_5p u_5n u_5c, .slice u_6p u_6n u_6c], .slice papersp papersn papersc] h A := fwk_neat (t46 u_0 u_1 u_2 u_3 u_4p u_4n u_4c u_5p u_5n u_5c u_6p u_6n u_6c papersp papersn papersc) (by simp) (by kernel_rfl) (by kernel_rfl) hX hw
noncomputable def n49 (n : Int) (first : Int) (last : Int) : T := bif decide (first ≤ n) then .leaf (.ret (.bool (decide (n ≤ last)))) else .leaf (.ret (.bool false))
theorem t49 (n : Int) (first : Int) (last : Int) : ftree ({ P := Tryd.prog, priv := [], loops := [], joins := [] }) Tryd.f49 [.int .i64 n, .int .i64 first, .int .i64 last] = n49 n first last := by kernel_rfl
theorem w49 (n : Int) (first : Int) (last : Int) {X : XP} (hX : XOK X) {h : LH} {A : Value → LH → Prop} (hw : (n49 n first last).wp X Tryd.prog (retQ A) h) : FWK X Tryd.prog .normal 49 #[.int .i64 n, .int .i64 first, .int .i64 last] h A := fwk_neat (t49 n first last) (by simp) (by kernel_rfl) (by kernel_rfl) hX hw
noncomputable def n52  : T := .call false 42 #[.int .i64 21, .int .i64 23] fun v => .unAgg v fun l => .popI .i64 l fun n vs => .popI .i64 vs fun n_1 vs => .unNil vs (.sem false (Instr.buildSlice 22 1 #[(0, .agg #[.int .i64 n, .int .i64 n_1])]) fun v => .unS v fun a n c => .call false 42 #[.int .i64 12, .int .i64 14] fun v => .unAgg v fun l => .popI .i64 l fun n_2 vs => .popI .i64 vs fun n_3 vs => .unNil vs (.sem false (Instr.buildSlice 50 2 #[(0, .int .i64 0), (1, .int .i64 1)]) fun v => .unS v fun a_1 n_4 c_1 => .call false 42 #[.int .i64 19, .int .i64 19] fun v => .unAgg v fun l => .popI .i64 l fun n_5 vs => .popI .i64 vs fun n_6 vs => .unNil vs (.sem false (Instr.buildSlice 50 1 #[(0, .int .i64 0)]) fun v => .unS v fun a_2 n_7 c_2 => .call false 42 #[.int .i64 17, .int .i64 26] fun v => .unAgg v fun l => .popI .i64 l fun n_8 vs => .popI .i64 vs fun n_9 vs => .unNil vs (.sem false (Instr.buildSlice 50 1 #[(0, .int .i64 2)]) fun v => .unS v fun a_3 n_10 c_3 => .call false 42 #[.int .i64 18, .int .i64 18] fun v => .unAgg v fun l => .popI .i64 l fun n_11 vs => .popI .i64 vs fun n_12 vs => .unNil vs (.sem false (Instr.buildSlice 50 2 #[(0, .int .i64 0), (1, .int .i64 1)]) fun v => .unS v fun a_4 n_13 c_4 => .sem false (Instr.buildSlice 23 4 #[(0, .agg #[.int .i64 n_2, .int .i64 n_3, .int .i64 0, .slice a_1 n_4 c_1]), (1, .agg #[.int .i64 n_5, .int .i64 n_6, .int .i64 0, .slice a_2 n_7 c_2]), (2, .agg #[.int .i64 n_8, .int .i64 n_9, .int .i64 0, .slice a_3 n_10 c_3]), (3, .agg #[.int .i64 n_11, .int .i64 n_12, .int .i64 1, .slice a_4 n_13 c_4])]) fun v => .unS v fun a_5 n_14 c_5 => .sem false (Instr.buildSlice 50 3 #[(0, .int .i64 0), (1, .int .i64 1), (2, .int .i64 2)]) fun v => .unS v fun a_6 n_15 c_6 => .sem false (Instr.buildSlice 50 2 #[(0, .int .i64 0), (1, .int .i64 2)]) fun v => .unS v fun a_7 n_16 c_7 => .sem false (Instr.buildSlice 24 2 #[(0, .agg #[.int .i64 20, .int .i64 0, .slice a_6 n_15 c_6]), (1, .agg #[.int .i64 25, .int .i64 0, .slice a_7 n_16 c_7])]) fun v => .unS v fun a_8 n_17 c_8 => .leaf (.ret (.agg #[.int .i64 3, .int .i64 2, .int .i64 10, .int .i64 5, .slice a n c, .slice a_5 n_14 c_5, .slice a_8 n_17 c_8])))))))
theorem t52  : ftree ({ P := Tryd.prog, priv := [0], loops := [], joins := [] }) Tryd.f52 [] = n52  := by kernel_rfl
theorem w52  {X : XP} (hX : XOK X) {h : LH} {A : Value → LH → Prop} (hw : (n52 ).wp X Tryd.prog (retQ A) h) : FWK X Tryd.prog .normal 52 #[] h A := fwk_neat (t52 ) (by simp) (by kernel_rfl) (by kernel_rfl) hX hw
noncomputable def n56 (n : Int) : T := .call false 49 #[.int .i64 n, .int .i64 0, .int .i64 2000] fun v => .unB v fun b => .leaf (.ret (.bool b))
theorem t56 (n : Int) : ftree ({ P := Tryd.prog, priv := [], loops := [], joins := [] }) Tryd.f56 [.int .i64 n] = n56 n := by kernel_rfl
theorem w56 (n : Int) {X : XP} (hX : XOK X) {h : LH} {A : Value → LH → Prop} (hw : (n56 n).wp X Tryd.prog (retQ A) h) : FWK X Tryd.prog .normal 56 #[.int .i64 n] h A := fwk_neat (t56 n) (by simp) (by kernel_rfl) (by kernel_rfl) hX hw
noncomputable def n57 (u_0 : Int) (u_1 : Int) (u_2 : Int) (u_3 : Int) (u_4p : Option Addr) (u_4n u_4c : Nat) (u_5p : Option Addr) (u_5n u_5c : Nat) (u_6p : Option Addr) (u_6n u_6c : Nat) (day : Int) : T := .loop [.int .i64 day, .int .i64 0, .int .i64 0, .int .i64 0] (fun vs => .popI .i64 vs fun n vs => .popI .i64 vs fun n_1 vs => .popI .i64 vs fun n_2 vs => .popI .i64 vs fun n_3 vs => .unNil vs (bif decide (n > 0) then .call false 78 #[.agg #[.int .i64 u_0, .int .i64 u_1, .int .i64 u_2, .int .i64 u_3, .slice u_4p u_4n u_4c, .slice u_5p u_5n u_5c, .slice u_6p u_6n u_6c], .int .i64 n] fun v => .unB v fun b => bif b then bif decide (IntKind.wrap .i64 (n_1 + 1) ≥ u_3) then .leaf (.retn [.int .i64 n, .int .i64 (IntKind.wrap .i64 (n_1 + 1)), .int .i64 n, .int .i64 day]) else .leaf (.again [.int .i64 (IntKind.wrap .i64 (n - 1)), .int .i64 (IntKind.wrap .i64 (n_1 + 1)), .int .i64 n_2, .int .i64 n_3]) else bif decide (n_1 ≥ u_3) then .leaf (.retn [.int .i64 n, .int .i64 n_1, .int .i64 n, .int .i64 day]) else .leaf (.again [.int .i64 (IntKind.wrap .i64 (n - 1)), .int .i64 n_1, .int .i64 n_2, .int .i64 n_3]) else .leaf (.brk [.int .i64 n, .int .i64 n_1, .int .i64 n_2, .int .i64 n_3]))) (fun vs => .popI .i64 vs fun n vs => .popI .i64 vs fun n vs => .popI .i64 vs fun n vs => .popI .i64 vs fun n vs => .unNil vs (.leaf (.ret (.agg #[.int .i64 0, .int .i64 day])))) (fun vs => .popI .i64 vs fun n vs => .popI .i64 vs fun n vs => .popI .i64 vs fun n vs => .popI .i64 vs fun n_1 vs => .unNil vs (.leaf (.ret (.agg #[.int .i64 n, .int .i64 n_1])))) fun x x_1 => .fail
theorem t57 (u_0 : Int) (u_1 : Int) (u_2 : Int) (u_3 : Int) (u_4p : Option Addr) (u_4n u_4c : Nat) (u_5p : Option Addr) (u_5n u_5c : Nat) (u_6p : Option Addr) (u_6n u_6c : Nat) (day : Int) : ftree ({ P := Tryd.prog, priv := [2, 4], loops := [{ id := 0, slots := [(5, .int .i64), (6, .int .i64), (20480, .int .i64), (20481, .int .i64)], ro := [2], outs := [] }], joins := [] }) Tryd.f57 [.agg #[.int .i64 u_0, .int .i64 u_1, .int .i64 u_2, .int .i64 u_3, .slice u_4p u_4n u_4c, .slice u_5p u_5n u_5c, .slice u_6p u_6n u_6c], .int .i64 day] = n57 u_0 u_1 u_2 u_3 u_4p u_4n u_4c u_5p u_5n u_5c u_6p u_6n u_6c day := by kernel_rfl
theorem w57 (u_0 : Int) (u_1 : Int) (u_2 : Int) (u_3 : Int) (u_4p : Option Addr) (u_4n u_4c : Nat) (u_5p : Option Addr) (u_5n u_5c : Nat) (u_6p : Option Addr) (u_6n u_6c : Nat) (day : Int) {X : XP} (hX : XOK X) {h : LH} {A : Value → LH → Prop} (hw : (n57 u_0 u_1 u_2 u_3 u_4p u_4n u_4c u_5p u_5n u_5c u_6p u_6n u_6c day).wp X Tryd.prog (retQ A) h) : FWK X Tryd.prog .normal 57 #[.agg #[.int .i64 u_0, .int .i64 u_1, .int .i64 u_2, .int .i64 u_3, .slice u_4p u_4n u_4c, .slice u_5p u_5n u_5c, .slice u_6p u_6n u_6c], .int .i64 day] h A := fwk_neat (t57 u_0 u_1 u_2 u_3 u_4p u_4n u_4c u_5p u_5n u_5c u_6p u_6n u_6c day) (by simp) (by kernel_rfl) (by kernel_rfl) hX hw
noncomputable def n61 (u_0 : Int) (u_1 : Int) (u_2 : Int) (u_3 : Int) (u_4p : Option Addr) (u_4n u_4c : Nat) (u_5p : Option Addr) (u_5n u_5c : Nat) (u_6p : Option Addr) (u_6n u_6c : Nat) (land : Int) : T := .call false 27 #[.agg #[.int .i64 u_0, .int .i64 u_1, .int .i64 u_2, .int .i64 u_3, .slice u_4p u_4n u_4c, .slice u_5p u_5n u_5c, .slice u_6p u_6n u_6c]] fun v => .unI .i64 v fun n => bif n != 0 then .leaf (.ret (.int .i64 n)) else .call false 49 #[.int .i64 land, .int .i64 0, .int .i64 (IntKind.wrap .i64 (u_1 - 1))] fun v => .unB v fun b => bif !b then .leaf (.ret (.int .i64 6)) else .leaf (.ret (.int .i64 0))
theorem t61 (u_0 : Int) (u_1 : Int) (u_2 : Int) (u_3 : Int) (u_4p : Option Addr) (u_4n u_4c : Nat) (u_5p : Option Addr) (u_5n u_5c : Nat) (u_6p : Option Addr) (u_6n u_6c : Nat) (land : Int) : ftree ({ P := Tryd.prog, priv := [2], loops := [], joins := [] }) Tryd.f61 [.agg #[.int .i64 u_0, .int .i64 u_1, .int .i64 u_2, .int .i64 u_3, .slice u_4p u_4n u_4c, .slice u_5p u_5n u_5c, .slice u_6p u_6n u_6c], .int .i64 land] = n61 u_0 u_1 u_2 u_3 u_4p u_4n u_4c u_5p u_5n u_5c u_6p u_6n u_6c land := by kernel_rfl
theorem w61 (u_0 : Int) (u_1 : Int) (u_2 : Int) (u_3 : Int) (u_4p : Option Addr) (u_4n u_4c : Nat) (u_5p : Option Addr) (u_5n u_5c : Nat) (u_6p : Option Addr) (u_6n u_6c : Nat) (land : Int) {X : XP} (hX : XOK X) {h : LH} {A : Value → LH → Prop} (hw : (n61 u_0 u_1 u_2 u_3 u_4p u_4n u_4c u_5p u_5n u_5c u_6p u_6n u_6c land).wp X Tryd.prog (retQ A) h) : FWK X Tryd.prog .normal 61 #[.agg #[.int .i64 u_0, .int .i64 u_1, .int .i64 u_2, .int .i64 u_3, .slice u_4p u_4n u_4c, .slice u_5p u_5n u_5c, .slice u_6p u_6n u_6c], .int .i64 land] h A := fwk_neat (t61 u_0 u_1 u_2 u_3 u_4p u_4n u_4c u_5p u_5n u_5c u_6p u_6n u_6c land) (by simp) (by kernel_rfl) (by kernel_rfl) hX hw
noncomputable def n62 (u_0 : Int) (u_1 : Int) (u_2 : Int) (u_3 : Int) (u_4p : Option Addr) (u_4n u_4c : Nat) (u_5p : Option Addr) (u_5n u_5c : Nat) (u_6p : Option Addr) (u_6n u_6c : Nat) (land : Int) (item : Int) (day : Int) : T := .call false 57 #[.agg #[.int .i64 u_0, .int .i64 u_1, .int .i64 u_2, .int .i64 u_3, .slice u_4p u_4n u_4c, .slice u_5p u_5n u_5c, .slice u_6p u_6n u_6c], .int .i64 day] fun v => .unAgg v fun l => .popI .i64 l fun n vs => .popI .i64 vs fun n_1 vs => .unNil vs (.call false 89 #[.agg #[.int .i64 n, .int .i64 n_1], .int .i64 u_2] fun v => .unB v fun b => bif b then .leaf (.ret (.int .i64 1)) else .loop [.int .i64 0, .int .i64 2, .int .i64 0] (fun vs => .popI .i64 vs fun n_2 vs => .popI .i64 vs fun n_3 vs => .popI .i64 vs fun n_4 vs => .unNil vs (bif decide (n_4 < (↑u_5n : Int)) then .need (0 ≤ n_4 ∧ n_4 < (↑u_5n : Int)) (.someA u_5p fun a => .loadI .i64 (Addr.add (Addr.add a (Int.toNat n_4 * 4)) 0) fun n_5 => .loadI .i64 (Addr.add (Addr.add a (Int.toNat n_4 * 4)) 1) fun n_6 => .loadI .i64 (Addr.add (Addr.add a (Int.toNat n_4 * 4)) 2) fun n_7 => .loadS (Addr.add (Addr.add a (Int.toNat n_4 * 4)) 3) fun p n_8 c => .call false 90 #[.agg #[.int .i64 n_5, .int .i64 n_6, .int .i64 n_7, .slice p n_8 c], .int .i64 land, .int .i64 item] fun v => .unB v fun b => bif !b then .leaf (.again [.int .i64 n_2, .int .i64 n_3, .int .i64 (IntKind.wrap .i64 (n_4 + 1))]) else .blk (bif decide (n ≤ n_5) then bif decide (n_6 ≤ n_1) then .leaf (.retn [.int .i64 1]) else .leaf (.again [.int .i64 n_2]) else .leaf (.again [.int .i64 n_2])) (fun vs => .popI .i64 vs fun n_9 vs => .unNil vs (bif decide (n_5 ≤ n_1) then bif decide (n ≤ n_6) then .leaf (.again [.int .i64 n_9, .int .i64 0, .int .i64 (IntKind.wrap .i64 (n_4 + 1))]) else .leaf (.again [.int .i64 n_9, .int .i64 n_3, .int .i64 (IntKind.wrap .i64 (n_4 + 1))]) else .leaf (.again [.int .i64 n_9, .int .i64 n_3, .int .i64 (IntKind.wrap .i64 (n_4 + 1))]))) (fun vs => .popI .i64 vs fun n vs => .unNil vs (.leaf (.retn [.int .i64 n, .int .i64 n_3, .int .i64 n_4]))) fun x x_1 => .fail) else .leaf (.brk [.int .i64 n_2, .int .i64 n_3, .int .i64 n_4]))) (fun vs => .popI .i64 vs fun n vs => .popI .i64 vs fun n vs => .popI .i64 vs fun n_2 vs => .unNil vs (.leaf (.ret (.int .i64 n)))) (fun vs => .popI .i64 vs fun n vs => .popI .i64 vs fun n_2 vs => .popI .i64 vs fun n_3 vs => .unNil vs (.leaf (.ret (.int .i64 n)))) fun x x_1 => .fail)
theorem t62 (u_0 : Int) (u_1 : Int) (u_2 : Int) (u_3 : Int) (u_4p : Option Addr) (u_4n u_4c : Nat) (u_5p : Option Addr) (u_5n u_5c : Nat) (u_6p : Option Addr) (u_6n u_6c : Nat) (land : Int) (item : Int) (day : Int) : ftree ({ P := Tryd.prog, priv := [4, 9, 12], loops := [{ id := 0, slots := [(8, .int .i64), (10, .int .i64), (11, .int .i64)], ro := [4, 9], outs := [] }], joins := [{ id := 12, slots := [(8, .int .i64)], ro := [4, 9, 12], outs := [] }] }) Tryd.f62 [.agg #[.int .i64 u_0, .int .i64 u_1, .int .i64 u_2, .int .i64 u_3, .slice u_4p u_4n u_4c, .slice u_5p u_5n u_5c, .slice u_6p u_6n u_6c], .int .i64 land, .int .i64 item, .int .i64 day] = n62 u_0 u_1 u_2 u_3 u_4p u_4n u_4c u_5p u_5n u_5c u_6p u_6n u_6c land item day := by kernel_rfl
theorem w62 (u_0 : Int) (u_1 : Int) (u_2 : Int) (u_3 : Int) (u_4p : Option Addr) (u_4n u_4c : Nat) (u_5p : Option Addr) (u_5n u_5c : Nat) (u_6p : Option Addr) (u_6n u_6c : Nat) (land : Int) (item : Int) (day : Int) {X : XP} (hX : XOK X) {h : LH} {A : Value → LH → Prop} (hw : (n62 u_0 u_1 u_2 u_3 u_4p u_4n u_4c u_5p u_5n u_5c u_6p u_6n u_6c land item day).wp X Tryd.prog (retQ A) h) : FWK X Tryd.prog .normal 62 #[.agg #[.int .i64 u_0, .int .i64 u_1, .int .i64 u_2, .int .i64 u_3, .slice u_4p u_4n u_4c, .slice u_5p u_5n u_5c, .slice u_6p u_6n u_6c], .int .i64 land, .int .i64 item, .int .i64 day] h A := fwk_neat (t62 u_0 u_1 u_2 u_3 u_4p u_4n u_4c u_5p u_5n u_5c u_6p u_6n u_6c land item day) (by simp) (by kernel_rfl) (by kernel_rfl) hX hw
noncomputable def n64 (u_0 : Int) (u_1 : Int) (u_2 : Int) (u_3 : Int) (u_4p : Option Addr) (u_4n u_4c : Nat) (u_5p : Option Addr) (u_5n u_5c : Nat) (u_6p : Option Addr) (u_6n u_6c : Nat) (land : Int) (day : Int) : T := .call false 61 #[.agg #[.int .i64 u_0, .int .i64 u_1, .int .i64 u_2, .int .i64 u_3, .slice u_4p u_4n u_4c, .slice u_5p u_5n u_5c, .slice u_6p u_6n u_6c], .int .i64 land] fun v => .unI .i64 v fun n => bif n != 0 then .leaf (.ret (.int .i64 n)) else .call false 56 #[.int .i64 day] fun v => .unB v fun b => bif !b then .leaf (.ret (.int .i64 1)) else .leaf (.ret (.int .i64 0))
theorem t64 (u_0 : Int) (u_1 : Int) (u_2 : Int) (u_3 : Int) (u_4p : Option Addr) (u_4n u_4c : Nat) (u_5p : Option Addr) (u_5n u_5c : Nat) (u_6p : Option Addr) (u_6n u_6c : Nat) (land : Int) (day : Int) : ftree ({ P := Tryd.prog, priv := [3], loops := [], joins := [] }) Tryd.f64 [.agg #[.int .i64 u_0, .int .i64 u_1, .int .i64 u_2, .int .i64 u_3, .slice u_4p u_4n u_4c, .slice u_5p u_5n u_5c, .slice u_6p u_6n u_6c], .int .i64 land, .int .i64 day] = n64 u_0 u_1 u_2 u_3 u_4p u_4n u_4c u_5p u_5n u_5c u_6p u_6n u_6c land day := by kernel_rfl
theorem w64 (u_0 : Int) (u_1 : Int) (u_2 : Int) (u_3 : Int) (u_4p : Option Addr) (u_4n u_4c : Nat) (u_5p : Option Addr) (u_5n u_5c : Nat) (u_6p : Option Addr) (u_6n u_6c : Nat) (land : Int) (day : Int) {X : XP} (hX : XOK X) {h : LH} {A : Value → LH → Prop} (hw : (n64 u_0 u_1 u_2 u_3 u_4p u_4n u_4c u_5p u_5n u_5c u_6p u_6n u_6c land day).wp X Tryd.prog (retQ A) h) : FWK X Tryd.prog .normal 64 #[.agg #[.int .i64 u_0, .int .i64 u_1, .int .i64 u_2, .int .i64 u_3, .slice u_4p u_4n u_4c, .slice u_5p u_5n u_5c, .slice u_6p u_6n u_6c], .int .i64 land, .int .i64 day] h A := fwk_neat (t64 u_0 u_1 u_2 u_3 u_4p u_4n u_4c u_5p u_5n u_5c u_6p u_6n u_6c land day) (by simp) (by kernel_rfl) (by kernel_rfl) hX hw
noncomputable def n65 (u_0 : Int) (u_1 : Int) (u_2 : Int) (u_3 : Int) (u_4p : Option Addr) (u_4n u_4c : Nat) (u_5p : Option Addr) (u_5n u_5c : Nat) (u_6p : Option Addr) (u_6n u_6c : Nat) (land : Int) (day : Int) : T := .loop [.slice none 0 0, .int .i64 0] (fun vs => .popS vs fun a n c vs => .popI .i64 vs fun n_1 vs => .unNil vs (bif decide (n_1 < u_0) then .call false 92 #[.agg #[.int .i64 u_0, .int .i64 u_1, .int .i64 u_2, .int .i64 u_3, .slice u_4p u_4n u_4c, .slice u_5p u_5n u_5c, .slice u_6p u_6n u_6c], .int .i64 land, .int .i64 n_1, .int .i64 day] fun v => .unI .i64 v fun n_2 => .sem false (Instr.buildSlice 40 1 #[(0, .int .i64 n_2)]) fun v => .unS v fun a_1 n_3 c_1 => .sem false (Builtin.append_ #[40, 40] 40 #[.slice a n c, .slice a_1 n_3 c_1]) fun v => .unS v fun a n c => .leaf (.again [.slice a n c, .int .i64 (IntKind.wrap .i64 (n_1 + 1))]) else .leaf (.brk [.slice a n c, .int .i64 n_1]))) (fun vs => .popS vs fun a n c vs => .popI .i64 vs fun n_1 vs => .unNil vs (.leaf (.ret (.slice a n c)))) (fun vs => .popS vs fun a n c vs => .popI .i64 vs fun n vs => .unNil vs (.leaf (.ret (.slice none 0 0)))) fun x x_1 => .fail
theorem t65 (u_0 : Int) (u_1 : Int) (u_2 : Int) (u_3 : Int) (u_4p : Option Addr) (u_4n u_4c : Nat) (u_5p : Option Addr) (u_5n u_5c : Nat) (u_6p : Option Addr) (u_6n u_6c : Nat) (land : Int) (day : Int) : ftree ({ P := Tryd.prog, priv := [3], loops := [{ id := 0, slots := [(7, .slice), (8, .int .i64)], ro := [3], outs := [] }], joins := [] }) Tryd.f65 [.agg #[.int .i64 u_0, .int .i64 u_1, .int .i64 u_2, .int .i64 u_3, .slice u_4p u_4n u_4c, .slice u_5p u_5n u_5c, .slice u_6p u_6n u_6c], .int .i64 land, .int .i64 day] = n65 u_0 u_1 u_2 u_3 u_4p u_4n u_4c u_5p u_5n u_5c u_6p u_6n u_6c land day := by kernel_rfl
theorem w65 (u_0 : Int) (u_1 : Int) (u_2 : Int) (u_3 : Int) (u_4p : Option Addr) (u_4n u_4c : Nat) (u_5p : Option Addr) (u_5n u_5c : Nat) (u_6p : Option Addr) (u_6n u_6c : Nat) (land : Int) (day : Int) {X : XP} (hX : XOK X) {h : LH} {A : Value → LH → Prop} (hw : (n65 u_0 u_1 u_2 u_3 u_4p u_4n u_4c u_5p u_5n u_5c u_6p u_6n u_6c land day).wp X Tryd.prog (retQ A) h) : FWK X Tryd.prog .normal 65 #[.agg #[.int .i64 u_0, .int .i64 u_1, .int .i64 u_2, .int .i64 u_3, .slice u_4p u_4n u_4c, .slice u_5p u_5n u_5c, .slice u_6p u_6n u_6c], .int .i64 land, .int .i64 day] h A := fwk_neat (t65 u_0 u_1 u_2 u_3 u_4p u_4n u_4c u_5p u_5n u_5c u_6p u_6n u_6c land day) (by simp) (by kernel_rfl) (by kernel_rfl) hX hw
noncomputable def n66 (lp : Option Addr) (ln lc : Nat) : T := bif decide ((↑ln : Int) > 4) then .leaf (.ret (.int .i64 2)) else .loop [.int .i64 0, .int .i64 0] (fun vs => .popI .i64 vs fun n vs => .popI .i64 vs fun n_1 vs => .unNil vs (bif decide (n_1 < (↑ln : Int)) then .need (0 ≤ n_1 ∧ n_1 < (↑ln : Int)) (.someA lp fun a => .loadI .i64 (Addr.add (Addr.add a (Int.toNat n_1 * 2)) 0) fun n_2 => .loadI .i64 (Addr.add (Addr.add a (Int.toNat n_1 * 2)) 1) fun n_3 => .call false 93 #[.agg #[.int .i64 n_2, .int .i64 n_3], .int .i64 0, .int .i64 2000] fun v => .unB v fun b => bif !b then .leaf (.retn [.int .i64 1, .int .i64 n_1]) else .leaf (.again [.int .i64 n, .int .i64 (IntKind.wrap .i64 (n_1 + 1))])) else .leaf (.brk [.int .i64 n, .int .i64 n_1]))) (fun vs => .popI .i64 vs fun n vs => .popI .i64 vs fun n vs => .unNil vs (.leaf (.ret (.int .i64 0)))) (fun vs => .popI .i64 vs fun n vs => .popI .i64 vs fun n_1 vs => .unNil vs (.leaf (.ret (.int .i64 n)))) fun x x_1 => .fail
theorem t66 (lp : Option Addr) (ln lc : Nat) : ftree ({ P := Tryd.prog, priv := [], loops := [{ id := 0, slots := [(2, .int .i64), (3, .int .i64)], ro := [], outs := [] }], joins := [] }) Tryd.f66 [.slice lp ln lc] = n66 lp ln lc := by kernel_rfl
theorem w66 (lp : Option Addr) (ln lc : Nat) {X : XP} (hX : XOK X) {h : LH} {A : Value → LH → Prop} (hw : (n66 lp ln lc).wp X Tryd.prog (retQ A) h) : FWK X Tryd.prog .normal 66 #[.slice lp ln lc] h A := fwk_neat (t66 lp ln lc) (by simp) (by kernel_rfl) (by kernel_rfl) hX hw
noncomputable def n67 (u_0 : Int) (u_1 : Int) (u_2 : Int) (u_3 : Int) (u_4p : Option Addr) (u_4n u_4c : Nat) (u_5p : Option Addr) (u_5n u_5c : Nat) (u_6p : Option Addr) (u_6n u_6c : Nat) : T := bif decide ((↑u_5n : Int) > 8) then .leaf (.ret (.int .i64 2)) else .loop [.int .i64 0, .int .i64 0] (fun vs => .popI .i64 vs fun n vs => .popI .i64 vs fun n_1 vs => .unNil vs (bif decide (n_1 < (↑u_5n : Int)) then .need (0 ≤ n_1 ∧ n_1 < (↑u_5n : Int)) (.someA u_5p fun a => .loadI .i64 (Addr.add (Addr.add a (Int.toNat n_1 * 4)) 0) fun n_2 => .loadI .i64 (Addr.add (Addr.add a (Int.toNat n_1 * 4)) 1) fun n_3 => .loadI .i64 (Addr.add (Addr.add a (Int.toNat n_1 * 4)) 2) fun n_4 => .loadS (Addr.add (Addr.add a (Int.toNat n_1 * 4)) 3) fun p n_5 c => .call false 93 #[.agg #[.int .i64 n_2, .int .i64 n_3], .int .i64 0, .int .i64 2000] fun v => .unB v fun b => bif !b then .leaf (.retn [.int .i64 1, .int .i64 n_1]) else .call false 49 #[.int .i64 n_4, .int .i64 0, .int .i64 (IntKind.wrap .i64 (u_1 - 1))] fun v => .unB v fun b => bif !b then .leaf (.retn [.int .i64 6, .int .i64 n_1]) else .call false 72 #[.slice p n_5 c, .int .i64 u_0] fun v => .unI .i64 v fun n_6 => bif n_6 != 0 then .leaf (.retn [.int .i64 n_6, .int .i64 n_1]) else .leaf (.again [.int .i64 n, .int .i64 (IntKind.wrap .i64 (n_1 + 1))])) else .leaf (.brk [.int .i64 n, .int .i64 n_1]))) (fun vs => .popI .i64 vs fun n vs => .popI .i64 vs fun n vs => .unNil vs (.leaf (.ret (.int .i64 0)))) (fun vs => .popI .i64 vs fun n vs => .popI .i64 vs fun n_1 vs => .unNil vs (.leaf (.ret (.int .i64 n)))) fun x x_1 => .fail
theorem t67 (u_0 : Int) (u_1 : Int) (u_2 : Int) (u_3 : Int) (u_4p : Option Addr) (u_4n u_4c : Nat) (u_5p : Option Addr) (u_5n u_5c : Nat) (u_6p : Option Addr) (u_6n u_6c : Nat) : ftree ({ P := Tryd.prog, priv := [1, 4], loops := [{ id := 0, slots := [(2, .int .i64), (3, .int .i64)], ro := [1], outs := [] }], joins := [] }) Tryd.f67 [.agg #[.int .i64 u_0, .int .i64 u_1, .int .i64 u_2, .int .i64 u_3, .slice u_4p u_4n u_4c, .slice u_5p u_5n u_5c, .slice u_6p u_6n u_6c]] = n67 u_0 u_1 u_2 u_3 u_4p u_4n u_4c u_5p u_5n u_5c u_6p u_6n u_6c := by kernel_rfl
theorem w67 (u_0 : Int) (u_1 : Int) (u_2 : Int) (u_3 : Int) (u_4p : Option Addr) (u_4n u_4c : Nat) (u_5p : Option Addr) (u_5n u_5c : Nat) (u_6p : Option Addr) (u_6n u_6c : Nat) {X : XP} (hX : XOK X) {h : LH} {A : Value → LH → Prop} (hw : (n67 u_0 u_1 u_2 u_3 u_4p u_4n u_4c u_5p u_5n u_5c u_6p u_6n u_6c).wp X Tryd.prog (retQ A) h) : FWK X Tryd.prog .normal 67 #[.agg #[.int .i64 u_0, .int .i64 u_1, .int .i64 u_2, .int .i64 u_3, .slice u_4p u_4n u_4c, .slice u_5p u_5n u_5c, .slice u_6p u_6n u_6c]] h A := fwk_neat (t67 u_0 u_1 u_2 u_3 u_4p u_4n u_4c u_5p u_5n u_5c u_6p u_6n u_6c) (by simp) (by kernel_rfl) (by kernel_rfl) hX hw
noncomputable def n68 (u_0 : Int) (u_1 : Int) (u_2 : Int) (u_3 : Int) (u_4p : Option Addr) (u_4n u_4c : Nat) (u_5p : Option Addr) (u_5n u_5c : Nat) (u_6p : Option Addr) (u_6n u_6c : Nat) : T := bif decide ((↑u_6n : Int) > 4) then .leaf (.ret (.int .i64 2)) else .loop [.int .i64 0, .int .i64 0] (fun vs => .popI .i64 vs fun n vs => .popI .i64 vs fun n_1 vs => .unNil vs (bif decide (n_1 < (↑u_6n : Int)) then .need (0 ≤ n_1 ∧ n_1 < (↑u_6n : Int)) (.someA u_6p fun a => .loadI .i64 (Addr.add (Addr.add a (Int.toNat n_1 * 3)) 0) fun n_2 => .loadI .i64 (Addr.add (Addr.add a (Int.toNat n_1 * 3)) 1) fun n_3 => .loadS (Addr.add (Addr.add a (Int.toNat n_1 * 3)) 2) fun p n_4 c => .call false 56 #[.int .i64 n_2] fun v => .unB v fun b => bif !b then .leaf (.retn [.int .i64 1, .int .i64 n_1]) else .blk (bif decide (n_2 < u_2) then .nd (.bool (decide (n_2 < u_2))) (.nd (.int .i64 u_2) (.need (AV.pp 1 2 = AV.pp 1 2) (.nd (.int .i64 n_2) (.need (AV.pp 4 0 = AV.pp 4 0) (.nd (.tuple #[]) (.nd (.tuple #[]) (.nd (.tuple #[]) (.nd (.tuple #[]) (.nd (.bool (decide (n_2 < u_2))) (.nd (.int .i64 u_2) (.need (AV.pp 1 2 = AV.pp 1 2) (.nd (.int .i64 n_2) (.need (AV.pp 4 0 = AV.pp 4 0) (.nd (.tuple #[]) (.nd (.tuple #[]) (.nd (.tuple #[]) (.nd (.tuple #[]) (.nd (.tuple #[]) (.nd (.bool (decide (n_2 < u_2))) (.nd (.int .i64 u_2) (.need (AV.pp 1 2 = AV.pp 1 2) (.nd (.int .i64 n_2) (.need (AV.pp 4 0 = AV.pp 4 0) (.leaf (.retn [.int .i64 7]))))))))))))))))))))))))) else bif decide (n_1 > 0) then .need (0 ≤ IntKind.wrap .i64 (n_1 - 1) ∧ IntKind.wrap .i64 (n_1 - 1) < (↑u_6n : Int)) (.someA u_6p fun a => .loadI .i64 (Addr.add (Addr.add a (Int.toNat (IntKind.wrap .i64 (n_1 - 1)) * 3)) 0) fun n_5 => bif decide (n_2 < n_5) then .leaf (.retn [.int .i64 7]) else .leaf (.again [.int .i64 n])) else .nd (.tuple #[]) (.nd (.tuple #[]) (.nd (.tuple #[]) (.nd (.tuple #[]) (.nd (.bool (decide (n_1 > 0))) (.nd (.int .i64 n_1) (.need (AV.val (.bool (decide (n_2 < u_2))) = AV.val (.bool false)) (.nd (.bool (decide (n_2 < u_2))) (.nd (.int .i64 u_2) (.need (AV.pp 1 2 = AV.pp 1 2) (.nd (.int .i64 n_2) (.need (AV.pp 4 0 = AV.pp 4 0) (.nd (.tuple #[]) (.nd (.tuple #[]) (.nd (.tuple #[]) (.nd (.tuple #[]) (.nd (.tuple #[]) (.nd (.bool (decide (n_1 > 0))) (.nd (.int .i64 n_1) (.need (AV.val (.bool (decide (n_2 < u_2))) = AV.val (.bool false)) (.nd (.bool (decide (n_2 < u_2))) (.nd (.int .i64 u_2) (.need (AV.pp 1 2 = AV.pp 1 2) (.nd (.int .i64 n_2) (.need (AV.pp 4 0 = AV.pp 4 0) (.leaf (.again [.int .i64 n]))))))))))))))))))))))))))) (fun vs => .popI .i64 vs fun n vs => .unNil vs (.call false 49 #[.int .i64 n_3, .int .i64 0, .int .i64 (IntKind.wrap .i64 (u_1 - 1))] fun v => .unB v fun b => bif !b then .leaf (.retn [.int .i64 6, .int .i64 n_1]) else .call false 72 #[.slice p n_4 c, .int .i64 u_0] fun v => .unI .i64 v fun n_5 => bif n_5 != 0 then .leaf (.retn [.int .i64 n_5, .int .i64 n_1]) else .leaf (.again [.int .i64 n, .int .i64 (IntKind.wrap .i64 (n_1 + 1))]))) (fun vs => .popI .i64 vs fun n vs => .unNil vs (.leaf (.retn [.int .i64 n, .int .i64 n_1]))) fun x x_1 => .fail) else .leaf (.brk [.int .i64 n, .int .i64 n_1]))) (fun vs => .popI .i64 vs fun n vs => .popI .i64 vs fun n vs => .unNil vs (.leaf (.ret (.int .i64 0)))) (fun vs => .popI .i64 vs fun n vs => .popI .i64 vs fun n_1 vs => .unNil vs (.leaf (.ret (.int .i64 n)))) fun x x_1 => .fail
theorem t68 (u_0 : Int) (u_1 : Int) (u_2 : Int) (u_3 : Int) (u_4p : Option Addr) (u_4n u_4c : Nat) (u_5p : Option Addr) (u_5n u_5c : Nat) (u_6p : Option Addr) (u_6n u_6c : Nat) : ftree ({ P := Tryd.prog, priv := [1, 4], loops := [{ id := 0, slots := [(2, .int .i64), (3, .int .i64)], ro := [1], outs := [] }], joins := [{ id := 11, slots := [(2, .int .i64)], ro := [1, 4], outs := [] }] }) Tryd.f68 [.agg #[.int .i64 u_0, .int .i64 u_1, .int .i64 u_2, .int .i64 u_3, .slice u_4p u_4n u_4c, .slice u_5p u_5n u_5c, .slice u_6p u_6n u_6c]] = n68 u_0 u_1 u_2 u_3 u_4p u_4n u_4c u_5p u_5n u_5c u_6p u_6n u_6c := by kernel_rfl
theorem w68 (u_0 : Int) (u_1 : Int) (u_2 : Int) (u_3 : Int) (u_4p : Option Addr) (u_4n u_4c : Nat) (u_5p : Option Addr) (u_5n u_5c : Nat) (u_6p : Option Addr) (u_6n u_6c : Nat) {X : XP} (hX : XOK X) {h : LH} {A : Value → LH → Prop} (hw : (n68 u_0 u_1 u_2 u_3 u_4p u_4n u_4c u_5p u_5n u_5c u_6p u_6n u_6c).wp X Tryd.prog (retQ A) h) : FWK X Tryd.prog .normal 68 #[.agg #[.int .i64 u_0, .int .i64 u_1, .int .i64 u_2, .int .i64 u_3, .slice u_4p u_4n u_4c, .slice u_5p u_5n u_5c, .slice u_6p u_6n u_6c]] h A := fwk_neat (t68 u_0 u_1 u_2 u_3 u_4p u_4n u_4c u_5p u_5n u_5c u_6p u_6n u_6c) (by simp) (by kernel_rfl) (by kernel_rfl) hX hw
noncomputable def n72 (lp : Option Addr) (ln lc : Nat) (below : Int) : T := .loop [.int .i64 0, .int .i64 0] (fun vs => .popI .i64 vs fun n vs => .popI .i64 vs fun n_1 vs => .unNil vs (bif decide (n_1 < (↑ln : Int)) then .need (0 ≤ n_1 ∧ n_1 < (↑ln : Int)) (.someA lp fun a => .loadI .i64 (Addr.add a (Int.toNat n_1 * 1)) fun n_2 => .call false 49 #[.int .i64 n_2, .int .i64 0, .int .i64 (IntKind.wrap .i64 (below - 1))] fun v => .unB v fun b => bif !b then .leaf (.retn [.int .i64 6, .int .i64 n_1]) else bif decide (n_1 > 0) then .need (0 ≤ n_1 ∧ n_1 < (↑ln : Int)) (.someA lp fun a => .loadI .i64 (Addr.add a (Int.toNat n_1 * 1)) fun n_3 => .need (0 ≤ IntKind.wrap .i64 (n_1 - 1) ∧ IntKind.wrap .i64 (n_1 - 1) < (↑ln : Int)) (.someA lp fun a => .loadI .i64 (Addr.add a (Int.toNat (IntKind.wrap .i64 (n_1 - 1)) * 1)) fun n_4 => bif decide (n_3 ≤ n_4) then .leaf (.retn [.int .i64 7, .int .i64 n_1]) else .leaf (.again [.int .i64 n, .int .i64 (IntKind.wrap .i64 (n_1 + 1))]))) else .nd (.tuple #[]) (.nd (.tuple #[]) (.nd (.tuple #[]) (.nd (.tuple #[]) (.nd (.tuple #[]) (.nd (.bool (decide (n_1 > 0))) (.nd (.int .i64 n_1) (.nd (.tuple #[]) (.nd (.tuple #[]) (.nd (.tuple #[]) (.nd (.tuple #[]) (.nd (.tuple #[]) (.nd (.bool (decide (n_1 > 0))) (.nd (.int .i64 n_1) (.leaf (.again [.int .i64 n, .int .i64 (IntKind.wrap .i64 (n_1 + 1))])))))))))))))))) else .leaf (.brk [.int .i64 n, .int .i64 n_1]))) (fun vs => .popI .i64 vs fun n vs => .popI .i64 vs fun n vs => .unNil vs (.leaf (.ret (.int .i64 0)))) (fun vs => .popI .i64 vs fun n vs => .popI .i64 vs fun n_1 vs => .unNil vs (.leaf (.ret (.int .i64 n)))) fun x x_1 => .fail
theorem t72 (lp : Option Addr) (ln lc : Nat) (below : Int) : ftree ({ P := Tryd.prog, priv := [], loops := [{ id := 0, slots := [(4, .int .i64), (5, .int .i64)], ro := [], outs := [] }], joins := [] }) Tryd.f72 [.slice lp ln lc, .int .i64 below] = n72 lp ln lc below := by kernel_rfl
theorem w72 (lp : Option Addr) (ln lc : Nat) (below : Int) {X : XP} (hX : XOK X) {h : LH} {A : Value → LH → Prop} (hw : (n72 lp ln lc below).wp X Tryd.prog (retQ A) h) : FWK X Tryd.prog .normal 72 #[.slice lp ln lc, .int .i64 below] h A := fwk_neat (t72 lp ln lc below) (by simp) (by kernel_rfl) (by kernel_rfl) hX hw
noncomputable def n73 (u_0 : Int) (u_1 : Int) (u_2 : Int) (u_3 : Int) (u_4p : Option Addr) (u_4n u_4c : Nat) (u_5p : Option Addr) (u_5n u_5c : Nat) (u_6p : Option Addr) (u_6n u_6c : Nat) (land : Int) (day : Int) (papersp : Option Addr) (papersn papersc : Nat) : T := .call false 65 #[.agg #[.int .i64 u_0, .int .i64 u_1, .int .i64 u_2, .int .i64 u_3, .slice u_4p u_4n u_4c, .slice u_5p u_5n u_5c, .slice u_6p u_6n u_6c], .int .i64 land, .int .i64 day] fun v => .unS v fun a n c => .nd (.int .i64 day) (.nd (.int .i64 land) (.nd (.slice papersp papersn papersc) (.nd (.agg #[.int .i64 u_0, .int .i64 u_1, .int .i64 u_2, .int .i64 u_3, .slice u_4p u_4n u_4c, .slice u_5p u_5n u_5c, .slice u_6p u_6n u_6c]) (.call false 46 #[.agg #[.int .i64 u_0, .int .i64 u_1, .int .i64 u_2, .int .i64 u_3, .slice u_4p u_4n u_4c, .slice u_5p u_5n u_5c, .slice u_6p u_6n u_6c], .slice papersp papersn papersc] fun v => .unAgg v fun l => .popI .i64 l fun n_1 vs => .popI .i64 vs fun n_2 vs => .popI .i64 vs fun n_3 vs => .popI .i64 vs fun n_4 vs => .popS vs fun a_1 n_5 c vs => .popS vs fun a_2 n_6 c_1 vs => .popS vs fun a_3 n_7 c_2 vs => .unNil vs (.nd (.int .i64 day) (.nd (.int .i64 land) (.call false 65 #[.agg #[.int .i64 n_1, .int .i64 n_2, .int .i64 n_3, .int .i64 n_4, .slice a_1 n_5 c, .slice a_2 n_6 c_1, .slice a_3 n_7 c_2], .int .i64 land, .int .i64 day] fun v => .unS v fun a_4 n_8 c => .loop [.bool false, .int .i64 0] (fun vs => .popB vs fun b vs => .popI .i64 vs fun n_9 vs => .unNil vs (bif decide (n_9 < (↑n : Int)) then .need (0 ≤ n_9 ∧ n_9 < (↑n : Int)) (.someA a fun a => .loadI .i64 (Addr.add a (Int.toNat n_9 * 1)) fun n => bif n == 1 then .need (0 ≤ n_9 ∧ n_9 < (↑n_8 : Int)) (.someA a_4 fun a => .loadI .i64 (Addr.add a (Int.toNat n_9 * 1)) fun n => bif n != 1 then .leaf (.retn [.bool false, .int .i64 n_9]) else .leaf (.again [.bool b, .int .i64 (IntKind.wrap .i64 (n_9 + 1))])) else .leaf (.again [.bool b, .int .i64 (IntKind.wrap .i64 (n_9 + 1))])) else .leaf (.brk [.bool b, .int .i64 n_9]))) (fun vs => .popB vs fun b vs => .popI .i64 vs fun n vs => .unNil vs (.leaf (.ret (.bool true)))) (fun vs => .popB vs fun b vs => .popI .i64 vs fun n vs => .unNil vs (.leaf (.ret (.bool b)))) fun x x_1 => .fail)))))))
theorem t73 (u_0 : Int) (u_1 : Int) (u_2 : Int) (u_3 : Int) (u_4p : Option Addr) (u_4n u_4c : Nat) (u_5p : Option Addr) (u_5n u_5c : Nat) (u_6p : Option Addr) (u_6n u_6c : Nat) (land : Int) (day : Int) (papersp : Option Addr) (papersn papersc : Nat) : ftree ({ P := Tryd.prog, priv := [4], loops := [{ id := 0, slots := [(8, .bool), (11, .int .i64)], ro := [4], outs := [] }], joins := [] }) Tryd.f73 [.agg #[.int .i64 u_0, .int .i64 u_1, .int .i64 u_2, .int .i64 u_3, .slice u_4p u_4n u_4c, .slice u_5p u_5n u_5c, .slice u_6p u_6n u_6c], .int .i64 land, .int .i64 day, .slice papersp papersn papersc] = n73 u_0 u_1 u_2 u_3 u_4p u_4n u_4c u_5p u_5n u_5c u_6p u_6n u_6c land day papersp papersn papersc := by kernel_rfl
theorem w73 (u_0 : Int) (u_1 : Int) (u_2 : Int) (u_3 : Int) (u_4p : Option Addr) (u_4n u_4c : Nat) (u_5p : Option Addr) (u_5n u_5c : Nat) (u_6p : Option Addr) (u_6n u_6c : Nat) (land : Int) (day : Int) (papersp : Option Addr) (papersn papersc : Nat) {X : XP} (hX : XOK X) {h : LH} {A : Value → LH → Prop} (hw : (n73 u_0 u_1 u_2 u_3 u_4p u_4n u_4c u_5p u_5n u_5c u_6p u_6n u_6c land day papersp papersn papersc).wp X Tryd.prog (retQ A) h) : FWK X Tryd.prog .normal 73 #[.agg #[.int .i64 u_0, .int .i64 u_1, .int .i64 u_2, .int .i64 u_3, .slice u_4p u_4n u_4c, .slice u_5p u_5n u_5c, .slice u_6p u_6n u_6c], .int .i64 land, .int .i64 day, .slice papersp papersn papersc] h A := fwk_neat (t73 u_0 u_1 u_2 u_3 u_4p u_4n u_4c u_5p u_5n u_5c u_6p u_6n u_6c land day papersp papersn papersc) (by simp) (by kernel_rfl) (by kernel_rfl) hX hw
noncomputable def n76 (lp : Option Addr) (ln lc : Nat) : T := .sem false (Instr.buildSlice 106 1 #[(0, .slice none 0 0)]) fun v => .unS v fun a n c => .loop [.slice a n c, .int .i64 0] (fun vs => .popS vs fun a n c vs => .popI .i64 vs fun n_1 vs => .unNil vs (bif decide (n_1 < (↑ln : Int)) then .sem false (Instr.sliceAt 50 (.slice lp ln lc) (some (.int .i64 (IntKind.wrap .i64 (n_1 + 1)))) none none) fun w => .unS w fun a_1 n_2 c_1 => .call false 76 #[.slice a_1 n_2 c_1] fun v => .unS v fun a_2 n_3 c_2 => .loop [.slice a n c, .int .i64 0] (fun vs => .popS vs fun a n c vs => .popI .i64 vs fun n_4 vs => .unNil vs (bif decide (n_4 < (↑n_3 : Int)) then .need (0 ≤ n_1 ∧ n_1 < (↑ln : Int)) (.someA lp fun a_3 => .loadI .i64 (Addr.add a_3 (Int.toNat n_1 * 1)) fun n_5 => .need (0 ≤ n_4 ∧ n_4 < (↑n_3 : Int)) (.someA a_2 fun a_4 => .loadS (Addr.add a_4 (Int.toNat n_4 * 1)) fun p n_6 c_3 => .sem false (Instr.buildSlice 50 1 #[(0, .int .i64 n_5)]) fun v => .unS v fun a_5 n_7 c_4 => .loadS (Addr.add a_4 (Int.toNat n_4 * 1)) fun p_1 n_8 c_5 => .need (AV.val (.slice p_1 n_8 c_5) = AV.val (.slice p n_6 c_3)) (.need (0 ≤ n_4 ∧ n_4 < (↑n_3 : Int)) (.someA a_2 fun a_6 => .need (AV.val (.pointer (some (Addr.add a_6 (Int.toNat n_4 * 1)))) = AV.val (.pointer (some (Addr.add a_4 (Int.toNat n_4 * 1))))) (.nd (.int .i64 n_4) (.nd (.slice a_2 n_3 c_2) (.need (0 ≤ n_1 ∧ n_1 < (↑ln : Int)) (.someA lp fun a_7 => .need (AV.val (.pointer (some (Addr.add a_7 (Int.toNat n_1 * 1)))) = AV.val (.pointer (some (Addr.add a_3 (Int.toNat n_1 * 1))))) (.nd (.int .i64 n_1) (.nd (.slice lp ln lc) (.nd (.slice a n c) (.sem false (Builtin.append_ #[50, 50] 50 #[.slice a_5 n_7 c_4, .slice p n_6 c_3]) fun v => .unS v fun a_8 n_9 c_6 => .need (0 ≤ n_4 ∧ n_4 < (↑n_3 : Int)) (.someA a_2 fun a_9 => .need (AV.val (.pointer (some (Addr.add a_9 (Int.toNat n_4 * 1)))) = AV.val (.pointer (some (Addr.add a_4 (Int.toNat n_4 * 1))))) (.nd (.int .i64 n_4) (.nd (.slice a_2 n_3 c_2) (.need (0 ≤ n_1 ∧ n_1 < (↑ln : Int)) (.someA lp fun a_10 => .need (AV.val (.pointer (some (Addr.add a_10 (Int.toNat n_1 * 1)))) = AV.val (.pointer (some (Addr.add a_3 (Int.toNat n_1 * 1))))) (.nd (.int .i64 n_1) (.nd (.slice lp ln lc) (.nd (.slice a n c) (.sem false (Instr.buildSlice 106 1 #[(0, .slice a_8 n_9 c_6)]) fun v => .unS v fun a_11 n_10 c_7 => .need (0 ≤ n_4 ∧ n_4 < (↑n_3 : Int)) (.someA a_2 fun a_12 => .need (AV.val (.pointer (some (Addr.add a_12 (Int.toNat n_4 * 1)))) = AV.val (.pointer (some (Addr.add a_4 (Int.toNat n_4 * 1))))) (.nd (.int .i64 n_4) (.nd (.slice a_2 n_3 c_2) (.need (0 ≤ n_1 ∧ n_1 < (↑ln : Int)) (.someA lp fun a_13 => .need (AV.val (.pointer (some (Addr.add a_13 (Int.toNat n_1 * 1)))) = AV.val (.pointer (some (Addr.add a_3 (Int.toNat n_1 * 1))))) (.nd (.int .i64 n_1) (.nd (.slice lp ln lc) (.nd (.slice a n c) (.sem false (Builtin.append_ #[106, 106] 106 #[.slice a n c, .slice a_11 n_10 c_7]) fun v => .unS v fun a n c => .need (0 ≤ n_4 ∧ n_4 < (↑n_3 : Int)) (.someA a_2 fun a_14 => .need (AV.val (.pointer (some (Addr.add a_14 (Int.toNat n_4 * 1)))) = AV.val (.pointer (some (Addr.add a_4 (Int.toNat n_4 * 1))))) (.nd (.int .i64 n_4) (.nd (.slice a_2 n_3 c_2) (.need (0 ≤ n_1 ∧ n_1 < (↑ln : Int)) (.someA lp fun a_15 => .need (AV.val (.pointer (some (Addr.add a_15 (Int.toNat n_1 * 1)))) = AV.val (.pointer (some (Addr.add a_3 (Int.toNat n_1 * 1))))) (.nd (.int .i64 n_1) (.nd (.slice lp ln lc) (.leaf (.again [.slice a n c, .int .i64 (IntKind.wrap .i64 (n_4 + 1))]))))))))))))))))))))))))))))))))))))))) else .leaf (.brk [.slice a n c, .int .i64 n_4]))) (fun vs => .popS vs fun a n c vs => .popI .i64 vs fun n_4 vs => .unNil vs (.leaf (.again [.slice a n c, .int .i64 (IntKind.wrap .i64 (n_1 + 1))]))) (fun vs => .popS vs fun a n c vs => .popI .i64 vs fun n_4 vs => .unNil vs (.leaf (.retn [.slice a n c, .int .i64 n_1]))) fun x x_1 => .fail else .leaf (.brk [.slice a n c, .int .i64 n_1]))) (fun vs => .popS vs fun a n c vs => .popI .i64 vs fun n_1 vs => .unNil vs (.leaf (.ret (.slice a n c)))) (fun vs => .popS vs fun a n c vs => .popI .i64 vs fun n vs => .unNil vs (.leaf (.ret (.slice none 0 0)))) fun x x_1 => .fail
theorem t76 (lp : Option Addr) (ln lc : Nat) : ftree ({ P := Tryd.prog, priv := [], loops := [{ id := 2, slots := [(3, .slice), (6, .int .i64)], ro := [], outs := [] }, { id := 0, slots := [(3, .slice), (4, .int .i64)], ro := [], outs := [] }], joins := [] }) Tryd.f76 [.slice lp ln lc] = n76 lp ln lc := by kernel_rfl
theorem w76 (lp : Option Addr) (ln lc : Nat) {X : XP} (hX : XOK X) {h : LH} {A : Value → LH → Prop} (hw : (n76 lp ln lc).wp X Tryd.prog (retQ A) h) : FWK X Tryd.prog .normal 76 #[.slice lp ln lc] h A := fwk_neat (t76 lp ln lc) (by simp) (by kernel_rfl) (by kernel_rfl) hX hw
noncomputable def n78 (u_0 : Int) (u_1 : Int) (u_2 : Int) (u_3 : Int) (u_4p : Option Addr) (u_4n u_4c : Nat) (u_5p : Option Addr) (u_5n u_5c : Nat) (u_6p : Option Addr) (u_6n u_6c : Nat) (day : Int) : T := .loop [.bool false, .int .i64 0] (fun vs => .popB vs fun b vs => .popI .i64 vs fun n vs => .unNil vs (bif decide (n < (↑u_4n : Int)) then .need (0 ≤ n ∧ n < (↑u_4n : Int)) (.someA u_4p fun a => .loadI .i64 (Addr.add (Addr.add a (Int.toNat n * 2)) 0) fun n_1 => .need (0 ≤ n ∧ n < (↑u_4n : Int)) (.someA u_4p fun a_1 => .loadI .i64 (Addr.add (Addr.add a_1 (Int.toNat n * 2)) 1) fun n_2 => .call false 49 #[.int .i64 day, .int .i64 n_1, .int .i64 n_2] fun v => .unB v fun b_1 => .nd (.pointer (some (Addr.add (Addr.add a_1 (Int.toNat n * 2)) 1))) (.need (0 ≤ n ∧ n < (↑u_4n : Int)) (.someA u_4p fun a_2 => .need (AV.val (.pointer (some (Addr.add a_2 (Int.toNat n * 2)))) = AV.val (.pointer (some (Addr.add a_1 (Int.toNat n * 2))))) (.nd (.int .i64 n) (.nd (.slice u_4p u_4n u_4c) (.need (AV.pp 2 4 = AV.pp 2 4) (.nd (.pointer (some (Addr.add (Addr.add a (Int.toNat n * 2)) 0))) (.need (0 ≤ n ∧ n < (↑u_4n : Int)) (.someA u_4p fun a_3 => .need (AV.val (.pointer (some (Addr.add a_3 (Int.toNat n * 2)))) = AV.val (.pointer (some (Addr.add a (Int.toNat n * 2))))) (.nd (.int .i64 n) (.nd (.slice u_4p u_4n u_4c) (.need (AV.pp 2 4 = AV.pp 2 4) (bif b_1 then .leaf (.retn [.bool false, .int .i64 n]) else .leaf (.again [.bool b, .int .i64 (IntKind.wrap .i64 (n + 1))]))))))))))))))) else .leaf (.brk [.bool b, .int .i64 n]))) (fun vs => .popB vs fun b vs => .popI .i64 vs fun n vs => .unNil vs (.leaf (.ret (.bool true)))) (fun vs => .popB vs fun b vs => .popI .i64 vs fun n vs => .unNil vs (.leaf (.ret (.bool b)))) fun x x_1 => .fail
theorem t78 (u_0 : Int) (u_1 : Int) (u_2 : Int) (u_3 : Int) (u_4p : Option Addr) (u_4n u_4c : Nat) (u_5p : Option Addr) (u_5n u_5c : Nat) (u_6p : Option Addr) (u_6n u_6c : Nat) (day : Int) : ftree ({ P := Tryd.prog, priv := [2], loops := [{ id := 0, slots := [(4, .bool), (5, .int .i64)], ro := [2], outs := [] }], joins := [] }) Tryd.f78 [.agg #[.int .i64 u_0, .int .i64 u_1, .int .i64 u_2, .int .i64 u_3, .slice u_4p u_4n u_4c, .slice u_5p u_5n u_5c, .slice u_6p u_6n u_6c], .int .i64 day] = n78 u_0 u_1 u_2 u_3 u_4p u_4n u_4c u_5p u_5n u_5c u_6p u_6n u_6c day := by kernel_rfl
theorem w78 (u_0 : Int) (u_1 : Int) (u_2 : Int) (u_3 : Int) (u_4p : Option Addr) (u_4n u_4c : Nat) (u_5p : Option Addr) (u_5n u_5c : Nat) (u_6p : Option Addr) (u_6n u_6c : Nat) (day : Int) {X : XP} (hX : XOK X) {h : LH} {A : Value → LH → Prop} (hw : (n78 u_0 u_1 u_2 u_3 u_4p u_4n u_4c u_5p u_5n u_5c u_6p u_6n u_6c day).wp X Tryd.prog (retQ A) h) : FWK X Tryd.prog .normal 78 #[.agg #[.int .i64 u_0, .int .i64 u_1, .int .i64 u_2, .int .i64 u_3, .slice u_4p u_4n u_4c, .slice u_5p u_5n u_5c, .slice u_6p u_6n u_6c], .int .i64 day] h A := fwk_neat (t78 u_0 u_1 u_2 u_3 u_4p u_4n u_4c u_5p u_5n u_5c u_6p u_6n u_6c day) (by simp) (by kernel_rfl) (by kernel_rfl) hX hw
noncomputable def n89 (x_0 : Int) (x_1 : Int) (day : Int) : T := bif decide (x_0 ≤ day) then .leaf (.ret (.bool (decide (day ≤ x_1)))) else .leaf (.ret (.bool false))
theorem t89 (x_0 : Int) (x_1 : Int) (day : Int) : ftree ({ P := Tryd.prog, priv := [2], loops := [], joins := [] }) Tryd.f89 [.agg #[.int .i64 x_0, .int .i64 x_1], .int .i64 day] = n89 x_0 x_1 day := by kernel_rfl
theorem w89 (x_0 : Int) (x_1 : Int) (day : Int) {X : XP} (hX : XOK X) {h : LH} {A : Value → LH → Prop} (hw : (n89 x_0 x_1 day).wp X Tryd.prog (retQ A) h) : FWK X Tryd.prog .normal 89 #[.agg #[.int .i64 x_0, .int .i64 x_1], .int .i64 day] h A := fwk_neat (t89 x_0 x_1 day) (by simp) (by kernel_rfl) (by kernel_rfl) hX hw
noncomputable def n90 (p_0 : Int) (p_1 : Int) (p_2 : Int) (p_3p : Option Addr) (p_3n p_3c : Nat) (land : Int) (item : Int) : T := bif p_2 == land then .call false 41 #[.slice p_3p p_3n p_3c, .int .i64 item] fun v => .unB v fun b => .leaf (.ret (.bool b)) else .leaf (.ret (.bool false))
theorem t90 (p_0 : Int) (p_1 : Int) (p_2 : Int) (p_3p : Option Addr) (p_3n p_3c : Nat) (land : Int) (item : Int) : ftree ({ P := Tryd.prog, priv := [3], loops := [], joins := [] }) Tryd.f90 [.agg #[.int .i64 p_0, .int .i64 p_1, .int .i64 p_2, .slice p_3p p_3n p_3c], .int .i64 land, .int .i64 item] = n90 p_0 p_1 p_2 p_3p p_3n p_3c land item := by kernel_rfl
theorem w90 (p_0 : Int) (p_1 : Int) (p_2 : Int) (p_3p : Option Addr) (p_3n p_3c : Nat) (land : Int) (item : Int) {X : XP} (hX : XOK X) {h : LH} {A : Value → LH → Prop} (hw : (n90 p_0 p_1 p_2 p_3p p_3n p_3c land item).wp X Tryd.prog (retQ A) h) : FWK X Tryd.prog .normal 90 #[.agg #[.int .i64 p_0, .int .i64 p_1, .int .i64 p_2, .slice p_3p p_3n p_3c], .int .i64 land, .int .i64 item] h A := fwk_neat (t90 p_0 p_1 p_2 p_3p p_3n p_3c land item) (by simp) (by kernel_rfl) (by kernel_rfl) hX hw
noncomputable def n92 (u_0 : Int) (u_1 : Int) (u_2 : Int) (u_3 : Int) (u_4p : Option Addr) (u_4n u_4c : Nat) (u_5p : Option Addr) (u_5n u_5c : Nat) (u_6p : Option Addr) (u_6n u_6c : Nat) (land : Int) (item : Int) (day : Int) : T := .call false 103 #[.agg #[.int .i64 u_0, .int .i64 u_1, .int .i64 u_2, .int .i64 u_3, .slice u_4p u_4n u_4c, .slice u_5p u_5n u_5c, .slice u_6p u_6n u_6c], .int .i64 land, .int .i64 item, .int .i64 day] fun v => .unS v fun a n c => .loop [.bool true, .int .i64 0] (fun vs => .popB vs fun b vs => .popI .i64 vs fun n_1 vs => .unNil vs (bif decide (n_1 < (↑n : Int)) then bif b then .need (0 ≤ n_1 ∧ n_1 < (↑n : Int)) (.someA a fun a_1 => .loadI .i64 (Addr.add a_1 (Int.toNat n_1 * 1)) fun n_2 => .need (0 ≤ n_2 ∧ n_2 < (↑u_6n : Int)) (.someA u_6p fun a_2 => .loadI .i64 (Addr.add (Addr.add a_2 (Int.toNat n_2 * 3)) 0) fun n_3 => .call false 62 #[.agg #[.int .i64 u_0, .int .i64 u_1, .int .i64 u_2, .int .i64 u_3, .slice u_4p u_4n u_4c, .slice u_5p u_5n u_5c, .slice u_6p u_6n u_6c], .int .i64 land, .int .i64 item, .int .i64 n_3] fun v => .unI .i64 v fun n_4 => .nd (.pointer (some (Addr.add (Addr.add a_2 (Int.toNat n_2 * 3)) 0))) (.need (0 ≤ n_2 ∧ n_2 < (↑u_6n : Int)) (.someA u_6p fun a_3 => .need (AV.val (.pointer (some (Addr.add a_3 (Int.toNat n_2 * 3)))) = AV.val (.pointer (some (Addr.add a_2 (Int.toNat n_2 * 3))))) (.loadI .i64 (Addr.add a_1 (Int.toNat n_1 * 1)) fun n_5 => .need (AV.val (.int .i64 n_5) = AV.val (.int .i64 n_2)) (.need (0 ≤ n_1 ∧ n_1 < (↑n : Int)) (.someA a fun a_4 => .need (AV.val (.pointer (some (Addr.add a_4 (Int.toNat n_1 * 1)))) = AV.val (.pointer (some (Addr.add a_1 (Int.toNat n_1 * 1))))) (.nd (.int .i64 n_1) (.nd (.slice a n c) (.nd (.slice u_6p u_6n u_6c) (.need (AV.pp 4 6 = AV.pp 4 6) (.nd (.bool b) (.leaf (.again [.bool (n_4 == 1), .int .i64 (IntKind.wrap .i64 (n_1 + 1))])))))))))))))) else .nd (.tuple #[]) (.nd (.tuple #[]) (.nd (.tuple #[]) (.nd (.tuple #[]) (.nd (.tuple #[]) (.nd (.tuple #[]) (.nd (.tuple #[]) (.nd (.tuple #[]) (.nd (.bool b) (.nd (.tuple #[]) (.nd (.tuple #[]) (.nd (.tuple #[]) (.nd (.tuple #[]) (.nd (.tuple #[]) (.nd (.tuple #[]) (.nd (.tuple #[]) (.nd (.tuple #[]) (.nd (.bool b) (.leaf (.again [.bool false, .int .i64 (IntKind.wrap .i64 (n_1 + 1))]))))))))))))))))))) else .leaf (.brk [.bool b, .int .i64 n_1]))) (fun vs => .popB vs fun b vs => .popI .i64 vs fun n_1 vs => .unNil vs (bif b then .leaf (.ret (.int .i64 1)) else .call false 104 #[.agg #[.int .i64 u_0, .int .i64 u_1, .int .i64 u_2, .int .i64 u_3, .slice u_4p u_4n u_4c, .slice u_5p u_5n u_5c, .slice u_6p u_6n u_6c], .int .i64 land, .int .i64 item, .slice a n c] fun v => .unB v fun b => bif b then .leaf (.ret (.int .i64 0)) else .leaf (.ret (.int .i64 2)))) (fun vs => .popB vs fun b vs => .popI .i64 vs fun n vs => .unNil vs (.leaf (.ret (.int .i64 0)))) fun x x_1 => .fail
theorem t92 (u_0 : Int) (u_1 : Int) (u_2 : Int) (u_3 : Int) (u_4p : Option Addr) (u_4n u_4c : Nat) (u_5p : Option Addr) (u_5n u_5c : Nat) (u_6p : Option Addr) (u_6n u_6c : Nat) (land : Int) (item : Int) (day : Int) : ftree ({ P := Tryd.prog, priv := [4], loops := [{ id := 0, slots := [(10, .bool), (11, .int .i64)], ro := [4], outs := [] }], joins := [] }) Tryd.f92 [.agg #[.int .i64 u_0, .int .i64 u_1, .int .i64 u_2, .int .i64 u_3, .slice u_4p u_4n u_4c, .slice u_5p u_5n u_5c, .slice u_6p u_6n u_6c], .int .i64 land, .int .i64 item, .int .i64 day] = n92 u_0 u_1 u_2 u_3 u_4p u_4n u_4c u_5p u_5n u_5c u_6p u_6n u_6c land item day := by kernel_rfl
theorem w92 (u_0 : Int) (u_1 : Int) (u_2 : Int) (u_3 : Int) (u_4p : Option Addr) (u_4n u_4c : Nat) (u_5p : Option Addr) (u_5n u_5c : Nat) (u_6p : Option Addr) (u_6n u_6c : Nat) (land : Int) (item : Int) (day : Int) {X : XP} (hX : XOK X) {h : LH} {A : Value → LH → Prop} (hw : (n92 u_0 u_1 u_2 u_3 u_4p u_4n u_4c u_5p u_5n u_5c u_6p u_6n u_6c land item day).wp X Tryd.prog (retQ A) h) : FWK X Tryd.prog .normal 92 #[.agg #[.int .i64 u_0, .int .i64 u_1, .int .i64 u_2, .int .i64 u_3, .slice u_4p u_4n u_4c, .slice u_5p u_5n u_5c, .slice u_6p u_6n u_6c], .int .i64 land, .int .i64 item, .int .i64 day] h A := fwk_neat (t92 u_0 u_1 u_2 u_3 u_4p u_4n u_4c u_5p u_5n u_5c u_6p u_6n u_6c land item day) (by simp) (by kernel_rfl) (by kernel_rfl) hX hw
noncomputable def n93 (x_0 : Int) (x_1 : Int) (first : Int) (last : Int) : T := bif decide (first ≤ x_0) then bif decide (x_0 ≤ x_1) then .leaf (.ret (.bool (decide (x_1 ≤ last)))) else .leaf (.ret (.bool false)) else .leaf (.ret (.bool false))
theorem t93 (x_0 : Int) (x_1 : Int) (first : Int) (last : Int) : ftree ({ P := Tryd.prog, priv := [3], loops := [], joins := [] }) Tryd.f93 [.agg #[.int .i64 x_0, .int .i64 x_1], .int .i64 first, .int .i64 last] = n93 x_0 x_1 first last := by kernel_rfl
theorem w93 (x_0 : Int) (x_1 : Int) (first : Int) (last : Int) {X : XP} (hX : XOK X) {h : LH} {A : Value → LH → Prop} (hw : (n93 x_0 x_1 first last).wp X Tryd.prog (retQ A) h) : FWK X Tryd.prog .normal 93 #[.agg #[.int .i64 x_0, .int .i64 x_1], .int .i64 first, .int .i64 last] h A := fwk_neat (t93 x_0 x_1 first last) (by simp) (by kernel_rfl) (by kernel_rfl) hX hw
noncomputable def n103 (u_0 : Int) (u_1 : Int) (u_2 : Int) (u_3 : Int) (u_4p : Option Addr) (u_4n u_4c : Nat) (u_5p : Option Addr) (u_5n u_5c : Nat) (u_6p : Option Addr) (u_6n u_6c : Nat) (land : Int) (item : Int) (day : Int) : T := .loop [.slice none 0 0, .int .i64 0] (fun vs => .popS vs fun a n c vs => .popI .i64 vs fun n_1 vs => .unNil vs (bif decide (n_1 < (↑u_6n : Int)) then .need (0 ≤ n_1 ∧ n_1 < (↑u_6n : Int)) (.someA u_6p fun a_1 => .loadI .i64 (Addr.add (Addr.add a_1 (Int.toNat n_1 * 3)) 0) fun n_2 => .loadI .i64 (Addr.add (Addr.add a_1 (Int.toNat n_1 * 3)) 1) fun n_3 => .loadS (Addr.add (Addr.add a_1 (Int.toNat n_1 * 3)) 2) fun p n_4 c_1 => bif n_3 == land then bif decide (n_2 ≤ day) then .call false 41 #[.slice p n_4 c_1, .int .i64 item] fun v => .unB v fun b => bif b then .sem false (Instr.buildSlice 50 1 #[(0, .int .i64 n_1)]) fun v => .unS v fun a_2 n_5 c_2 => .sem false (Builtin.append_ #[50, 50] 50 #[.slice a n c, .slice a_2 n_5 c_2]) fun v => .unS v fun a n c => .leaf (.again [.slice a n c, .int .i64 (IntKind.wrap .i64 (n_1 + 1))]) else .leaf (.again [.slice a n c, .int .i64 (IntKind.wrap .i64 (n_1 + 1))]) else .leaf (.again [.slice a n c, .int .i64 (IntKind.wrap .i64 (n_1 + 1))]) else .leaf (.again [.slice a n c, .int .i64 (IntKind.wrap .i64 (n_1 + 1))])) else .leaf (.brk [.slice a n c, .int .i64 n_1]))) (fun vs => .popS vs fun a n c vs => .popI .i64 vs fun n_1 vs => .unNil vs (.leaf (.ret (.slice a n c)))) (fun vs => .popS vs fun a n c vs => .popI .i64 vs fun n vs => .unNil vs (.leaf (.ret (.slice none 0 0)))) fun x x_1 => .fail
theorem t103 (u_0 : Int) (u_1 : Int) (u_2 : Int) (u_3 : Int) (u_4p : Option Addr) (u_4n u_4c : Nat) (u_5p : Option Addr) (u_5n u_5c : Nat) (u_6p : Option Addr) (u_6n u_6c : Nat) (land : Int) (item : Int) (day : Int) : ftree ({ P := Tryd.prog, priv := [4, 11], loops := [{ id := 0, slots := [(9, .slice), (10, .int .i64)], ro := [4], outs := [] }], joins := [] }) Tryd.f103 [.agg #[.int .i64 u_0, .int .i64 u_1, .int .i64 u_2, .int .i64 u_3, .slice u_4p u_4n u_4c, .slice u_5p u_5n u_5c, .slice u_6p u_6n u_6c], .int .i64 land, .int .i64 item, .int .i64 day] = n103 u_0 u_1 u_2 u_3 u_4p u_4n u_4c u_5p u_5n u_5c u_6p u_6n u_6c land item day := by kernel_rfl
theorem w103 (u_0 : Int) (u_1 : Int) (u_2 : Int) (u_3 : Int) (u_4p : Option Addr) (u_4n u_4c : Nat) (u_5p : Option Addr) (u_5n u_5c : Nat) (u_6p : Option Addr) (u_6n u_6c : Nat) (land : Int) (item : Int) (day : Int) {X : XP} (hX : XOK X) {h : LH} {A : Value → LH → Prop} (hw : (n103 u_0 u_1 u_2 u_3 u_4p u_4n u_4c u_5p u_5n u_5c u_6p u_6n u_6c land item day).wp X Tryd.prog (retQ A) h) : FWK X Tryd.prog .normal 103 #[.agg #[.int .i64 u_0, .int .i64 u_1, .int .i64 u_2, .int .i64 u_3, .slice u_4p u_4n u_4c, .slice u_5p u_5n u_5c, .slice u_6p u_6n u_6c], .int .i64 land, .int .i64 item, .int .i64 day] h A := fwk_neat (t103 u_0 u_1 u_2 u_3 u_4p u_4n u_4c u_5p u_5n u_5c u_6p u_6n u_6c land item day) (by simp) (by kernel_rfl) (by kernel_rfl) hX hw
noncomputable def n104 (u_0 : Int) (u_1 : Int) (u_2 : Int) (u_3 : Int) (u_4p : Option Addr) (u_4n u_4c : Nat) (u_5p : Option Addr) (u_5n u_5c : Nat) (u_6p : Option Addr) (u_6n u_6c : Nat) (land : Int) (item : Int) (lp : Option Addr) (ln lc : Nat) : T := .sem false (Instr.buildSlice 50 1 #[(0, .int .i64 0)]) fun v => .unS v fun a n c => .loop [.int .i64 0] (fun vs => .popI .i64 vs fun n_1 vs => .unNil vs (bif decide (n_1 < (↑ln : Int)) then .need (0 ≤ n_1 ∧ n_1 < (↑ln : Int)) (.someA lp fun a_1 => .loadI .i64 (Addr.add a_1 (Int.toNat n_1 * 1)) fun n_2 => .need (0 ≤ n_2 ∧ n_2 < (↑u_6n : Int)) (.someA u_6p fun a_2 => .loadI .i64 (Addr.add (Addr.add a_2 (Int.toNat n_2 * 3)) 0) fun n_3 => .call false 57 #[.agg #[.int .i64 u_0, .int .i64 u_1, .int .i64 u_2, .int .i64 u_3, .slice u_4p u_4n u_4c, .slice u_5p u_5n u_5c, .slice u_6p u_6n u_6c], .int .i64 n_3] fun v => .unAgg v fun l => .popI .i64 l fun n_4 vs => .popI .i64 vs fun n_5 vs => .unNil vs (.nd (.int .i64 u_2) (.need (AV.pp 4 2 = AV.pp 4 2) (.nd (.pointer (some (Addr.add (Addr.add a_2 (Int.toNat n_2 * 3)) 0))) (.need (0 ≤ n_2 ∧ n_2 < (↑u_6n : Int)) (.someA u_6p fun a_3 => .need (AV.val (.pointer (some (Addr.add a_3 (Int.toNat n_2 * 3)))) = AV.val (.pointer (some (Addr.add a_2 (Int.toNat n_2 * 3))))) (.loadI .i64 (Addr.add a_1 (Int.toNat n_1 * 1)) fun n_6 => .need (AV.val (.int .i64 n_6) = AV.val (.int .i64 n_2)) (.need (0 ≤ n_1 ∧ n_1 < (↑ln : Int)) (.someA lp fun a_4 => .need (AV.val (.pointer (some (Addr.add a_4 (Int.toNat n_1 * 1)))) = AV.val (.pointer (some (Addr.add a_1 (Int.toNat n_1 * 1))))) (.nd (.int .i64 n_1) (.nd (.slice lp ln lc) (.nd (.slice u_6p u_6n u_6c) (.need (AV.pp 4 6 = AV.pp 4 6) (.call false 89 #[.agg #[.int .i64 n_4, .int .i64 n_5], .int .i64 u_2] fun v => .unB v fun b => .need (AV.pp 4 2 = AV.pp 4 2) (.nd (.pointer (some (Addr.add (Addr.add a_2 (Int.toNat n_2 * 3)) 0))) (.need (0 ≤ n_2 ∧ n_2 < (↑u_6n : Int)) (.someA u_6p fun a_5 => .need (AV.val (.pointer (some (Addr.add a_5 (Int.toNat n_2 * 3)))) = AV.val (.pointer (some (Addr.add a_2 (Int.toNat n_2 * 3))))) (.loadI .i64 (Addr.add a_1 (Int.toNat n_1 * 1)) fun n_7 => .need (AV.val (.int .i64 n_7) = AV.val (.int .i64 n_2)) (.need (0 ≤ n_1 ∧ n_1 < (↑ln : Int)) (.someA lp fun a_6 => .need (AV.val (.pointer (some (Addr.add a_6 (Int.toNat n_1 * 1)))) = AV.val (.pointer (some (Addr.add a_1 (Int.toNat n_1 * 1))))) (.nd (.int .i64 n_1) (.nd (.slice lp ln lc) (.nd (.slice u_6p u_6n u_6c) (.need (AV.pp 4 6 = AV.pp 4 6) (bif b then .need ((0 : Int) ≤ 0 ∧ 0 < (↑n : Int)) (.someA a fun a_7 => .loadI .i64 (Addr.add a_7 0) fun n_8 => .need (0 ≤ n_1) (.need ((0 : Int) ≤ 0 ∧ 0 < (↑n : Int)) (.someA a fun a => .store (Addr.add (Addr.add a 0) 0) (.int .i64 (IntKind.wrap .i64 (↑(BitVec.toNat (BitVec.ofInt 64 n_8 ||| BitVec.ofInt 64 (IntKind.wrap .i64 (1 * 2 ^ min (Int.toNat n_1) 64)))) : Int))) (.leaf (.again [.int .i64 (IntKind.wrap .i64 (n_1 + 1))]))))) else .leaf (.again [.int .i64 (IntKind.wrap .i64 (n_1 + 1))]))))))))))))))))))))))))))) else .leaf (.brk [.int .i64 n_1]))) (fun vs => .popI .i64 vs fun n_1 vs => .unNil vs (.loop [.slice a n c, .int .i64 0] (fun vs => .popS vs fun a n c vs => .popI .i64 vs fun n_2 vs => .unNil vs (bif decide (n_2 < (↑u_5n : Int)) then .need (0 ≤ n_2 ∧ n_2 < (↑u_5n : Int)) (.someA u_5p fun a_1 => .loadI .i64 (Addr.add (Addr.add a_1 (Int.toNat n_2 * 4)) 0) fun n_3 => .loadI .i64 (Addr.add (Addr.add a_1 (Int.toNat n_2 * 4)) 1) fun n_4 => .loadI .i64 (Addr.add (Addr.add a_1 (Int.toNat n_2 * 4)) 2) fun n_5 => .loadS (Addr.add (Addr.add a_1 (Int.toNat n_2 * 4)) 3) fun p n_6 c_1 => .call false 90 #[.agg #[.int .i64 n_3, .int .i64 n_4, .int .i64 n_5, .slice p n_6 c_1], .int .i64 land, .int .i64 item] fun v => .unB v fun b => bif !b then .leaf (.again [.slice a n c, .int .i64 (IntKind.wrap .i64 (n_2 + 1))]) else .need (0 ≤ n_2 ∧ n_2 < (↑u_5n : Int)) (.someA u_5p fun a_2 => .loadI .i64 (Addr.add (Addr.add a_2 (Int.toNat n_2 * 4)) 0) fun n_7 => .loadI .i64 (Addr.add (Addr.add a_2 (Int.toNat n_2 * 4)) 1) fun n_8 => .loadI .i64 (Addr.add (Addr.add a_2 (Int.toNat n_2 * 4)) 2) fun n_9 => .loadS (Addr.add (Addr.add a_2 (Int.toNat n_2 * 4)) 3) fun p n_10 c_2 => .call false 108 #[.agg #[.int .i64 u_0, .int .i64 u_1, .int .i64 u_2, .int .i64 u_3, .slice u_4p u_4n u_4c, .slice u_5p u_5n u_5c, .slice u_6p u_6n u_6c], .agg #[.int .i64 n_7, .int .i64 n_8, .int .i64 n_9, .slice p n_10 c_2], .slice lp ln lc] fun v => .unS v fun a_3 n_11 c_3 => .need (0 ≤ n_2 ∧ n_2 < (↑u_5n : Int)) (.someA u_5p fun a_4 => .need (AV.val (.pointer (some (Addr.add a_4 (Int.toNat n_2 * 4)))) = AV.val (.pointer (some (Addr.add a_2 (Int.toNat n_2 * 4))))) (.nd (.int .i64 n_2) (.nd (.slice u_5p u_5n u_5c) (.need (AV.pp 4 5 = AV.pp 4 5) (.loop [.slice none 0 0, .int .i64 0] (fun vs => .popS vs fun a_5 n_12 c vs => .popI .i64 vs fun n_13 vs => .unNil vs (bif decide (n_13 < (↑n : Int)) then .loop [.slice a_5 n_12 c, .int .i64 0] (fun vs => .popS vs fun a_6 n_14 c vs => .popI .i64 vs fun n_15 vs => .unNil vs (bif decide (n_15 < (↑n_11 : Int)) then .need (0 ≤ n_13 ∧ n_13 < (↑n : Int)) (.someA a fun a => .loadI .i64 (Addr.add a (Int.toNat n_13 * 1)) fun n => .need (0 ≤ n_15 ∧ n_15 < (↑n_11 : Int)) (.someA a_3 fun a => .loadI .i64 (Addr.add a (Int.toNat n_15 * 1)) fun n_16 => .call false 41 #[.slice a_6 n_14 c, .int .i64 (IntKind.wrap .i64 (↑(BitVec.toNat (BitVec.ofInt 64 n ||| BitVec.ofInt 64 n_16)) : Int))] fun v => .unB v fun b => bif !b then .sem false (Instr.buildSlice 50 1 #[(0, .int .i64 (IntKind.wrap .i64 (↑(BitVec.toNat (BitVec.ofInt 64 n ||| BitVec.ofInt 64 n_16)) : Int)))]) fun v => .unS v fun a n c_4 => .sem false (Builtin.append_ #[50, 50] 50 #[.slice a_6 n_14 c, .slice a n c_4]) fun v => .unS v fun a n c => .leaf (.again [.slice a n c, .int .i64 (IntKind.wrap .i64 (n_15 + 1))]) else .leaf (.again [.slice a_6 n_14 c, .int .i64 (IntKind.wrap .i64 (n_15 + 1))]))) else .leaf (.brk [.slice a_6 n_14 c, .int .i64 n_15]))) (fun vs => .popS vs fun a n c vs => .popI .i64 vs fun n_14 vs => .unNil vs (.leaf (.again [.slice a n c, .int .i64 (IntKind.wrap .i64 (n_13 + 1))]))) (fun vs => .popS vs fun a n c vs => .popI .i64 vs fun n_14 vs => .unNil vs (.leaf (.retn [.slice a n c, .int .i64 n_13]))) fun x x_1 => .fail else .leaf (.brk [.slice a_5 n_12 c, .int .i64 n_13]))) (fun vs => .popS vs fun a n c vs => .popI .i64 vs fun n_12 vs => .unNil vs (.leaf (.again [.slice a n c, .int .i64 (IntKind.wrap .i64 (n_2 + 1))]))) (fun vs => .popS vs fun a_5 n_12 c_4 vs => .popI .i64 vs fun n_13 vs => .unNil vs (.leaf (.retn [.slice a n c, .int .i64 n_2]))) fun x x_1 => .fail))))))) else .leaf (.brk [.slice a n c, .int .i64 n_2]))) (fun vs => .popS vs fun a n c vs => .popI .i64 vs fun n_2 vs => .unNil vs (.need (0 ≤ (↑ln : Int)) (.call false 41 #[.slice a n c, .int .i64 (IntKind.wrap .i64 (IntKind.wrap .i64 (1 * 2 ^ min (Int.toNat (↑ln : Int)) 64) - 1))] fun v => .unB v fun b => .leaf (.ret (.bool b))))) (fun vs => .popS vs fun a n c vs => .popI .i64 vs fun n vs => .unNil vs (.leaf (.ret (.bool false)))) fun x x_1 => .fail)) (fun vs => .popI .i64 vs fun n vs => .unNil vs (.leaf (.ret (.bool false)))) fun x x_1 => .fail
theorem t104 (u_0 : Int) (u_1 : Int) (u_2 : Int) (u_3 : Int) (u_4p : Option Addr) (u_4n u_4c : Nat) (u_5p : Option Addr) (u_5n u_5c : Nat) (u_6p : Option Addr) (u_6n u_6c : Nat) (land : Int) (item : Int) (lp : Option Addr) (ln lc : Nat) : ftree ({ P := Tryd.prog, priv := [4], loops := [{ id := 0, slots := [(10, .int .i64)], ro := [4], outs := [] }, { id := 6, slots := [(13, .slice), (15, .int .i64)], ro := [4], outs := [] }, { id := 4, slots := [(13, .slice), (14, .int .i64)], ro := [4], outs := [] }, { id := 2, slots := [(9, .slice), (11, .int .i64)], ro := [4], outs := [] }], joins := [] }) Tryd.f104 [.agg #[.int .i64 u_0, .int .i64 u_1, .int .i64 u_2, .int .i64 u_3, .slice u_4p u_4n u_4c, .slice u_5p u_5n u_5c, .slice u_6p u_6n u_6c], .int .i64 land, .int .i64 item, .slice lp ln lc] = n104 u_0 u_1 u_2 u_3 u_4p u_4n u_4c u_5p u_5n u_5c u_6p u_6n u_6c land item lp ln lc := by kernel_rfl
theorem w104 (u_0 : Int) (u_1 : Int) (u_2 : Int) (u_3 : Int) (u_4p : Option Addr) (u_4n u_4c : Nat) (u_5p : Option Addr) (u_5n u_5c : Nat) (u_6p : Option Addr) (u_6n u_6c : Nat) (land : Int) (item : Int) (lp : Option Addr) (ln lc : Nat) {X : XP} (hX : XOK X) {h : LH} {A : Value → LH → Prop} (hw : (n104 u_0 u_1 u_2 u_3 u_4p u_4n u_4c u_5p u_5n u_5c u_6p u_6n u_6c land item lp ln lc).wp X Tryd.prog (retQ A) h) : FWK X Tryd.prog .normal 104 #[.agg #[.int .i64 u_0, .int .i64 u_1, .int .i64 u_2, .int .i64 u_3, .slice u_4p u_4n u_4c, .slice u_5p u_5n u_5c, .slice u_6p u_6n u_6c], .int .i64 land, .int .i64 item, .slice lp ln lc] h A := fwk_neat (t104 u_0 u_1 u_2 u_3 u_4p u_4n u_4c u_5p u_5n u_5c u_6p u_6n u_6c land item lp ln lc) (by simp) (by kernel_rfl) (by kernel_rfl) hX hw
noncomputable def n108 (u_0 : Int) (u_1 : Int) (u_2 : Int) (u_3 : Int) (u_4p : Option Addr) (u_4n u_4c : Nat) (u_5p : Option Addr) (u_5n u_5c : Nat) (u_6p : Option Addr) (u_6n u_6c : Nat) (p_0 : Int) (p_1 : Int) (p_2 : Int) (p_3p : Option Addr) (p_3n p_3c : Nat) (lp : Option Addr) (ln lc : Nat) : T := .loop [.slice none 0 0, .int .i64 p_0] (fun vs => .popS vs fun a n c vs => .popI .i64 vs fun n_1 vs => .unNil vs (bif decide (n_1 ≤ p_1) then .loop [.int .i64 0, .int .i64 0] (fun vs => .popI .i64 vs fun n vs => .popI .i64 vs fun n_2 vs => .unNil vs (bif decide (n_2 < (↑ln : Int)) then .need (0 ≤ n_2 ∧ n_2 < (↑ln : Int)) (.someA lp fun a => .loadI .i64 (Addr.add a (Int.toNat n_2 * 1)) fun n_3 => .need (0 ≤ n_3 ∧ n_3 < (↑u_6n : Int)) (.someA u_6p fun a_1 => .loadI .i64 (Addr.add (Addr.add a_1 (Int.toNat n_3 * 3)) 0) fun n_4 => .call false 57 #[.agg #[.int .i64 u_0, .int .i64 u_1, .int .i64 u_2, .int .i64 u_3, .slice u_4p u_4n u_4c, .slice u_5p u_5n u_5c, .slice u_6p u_6n u_6c], .int .i64 n_4] fun v => .unAgg v fun l => .popI .i64 l fun n_5 vs => .popI .i64 vs fun n_6 vs => .unNil vs (.nd (.int .i64 n_1) (.nd (.pointer (some (Addr.add (Addr.add a_1 (Int.toNat n_3 * 3)) 0))) (.need (0 ≤ n_3 ∧ n_3 < (↑u_6n : Int)) (.someA u_6p fun a_2 => .need (AV.val (.pointer (some (Addr.add a_2 (Int.toNat n_3 * 3)))) = AV.val (.pointer (some (Addr.add a_1 (Int.toNat n_3 * 3))))) (.loadI .i64 (Addr.add a (Int.toNat n_2 * 1)) fun n_7 => .need (AV.val (.int .i64 n_7) = AV.val (.int .i64 n_3)) (.need (0 ≤ n_2 ∧ n_2 < (↑ln : Int)) (.someA lp fun a_3 => .need (AV.val (.pointer (some (Addr.add a_3 (Int.toNat n_2 * 1)))) = AV.val (.pointer (some (Addr.add a (Int.toNat n_2 * 1))))) (.nd (.int .i64 n_2) (.nd (.slice lp ln lc) (.nd (.slice u_6p u_6n u_6c) (.need (AV.pp 3 6 = AV.pp 3 6) (.call false 89 #[.agg #[.int .i64 n_5, .int .i64 n_6], .int .i64 n_1] fun v => .unB v fun b => .nd (.pointer (some (Addr.add (Addr.add a_1 (Int.toNat n_3 * 3)) 0))) (.need (0 ≤ n_3 ∧ n_3 < (↑u_6n : Int)) (.someA u_6p fun a_4 => .need (AV.val (.pointer (some (Addr.add a_4 (Int.toNat n_3 * 3)))) = AV.val (.pointer (some (Addr.add a_1 (Int.toNat n_3 * 3))))) (.loadI .i64 (Addr.add a (Int.toNat n_2 * 1)) fun n_8 => .need (AV.val (.int .i64 n_8) = AV.val (.int .i64 n_3)) (.need (0 ≤ n_2 ∧ n_2 < (↑ln : Int)) (.someA lp fun a_5 => .need (AV.val (.pointer (some (Addr.add a_5 (Int.toNat n_2 * 1)))) = AV.val (.pointer (some (Addr.add a (Int.toNat n_2 * 1))))) (.nd (.int .i64 n_2) (.nd (.slice lp ln lc) (.nd (.slice u_6p u_6n u_6c) (.need (AV.pp 3 6 = AV.pp 3 6) (bif b then .need (0 ≤ n_2) (.leaf (.again [.int .i64 (IntKind.wrap .i64 (↑(BitVec.toNat (BitVec.ofInt 64 n ||| BitVec.ofInt 64 (IntKind.wrap .i64 (1 * 2 ^ min (Int.toNat n_2) 64)))) : Int)), .int .i64 (IntKind.wrap .i64 (n_2 + 1))])) else .leaf (.again [.int .i64 n, .int .i64 (IntKind.wrap .i64 (n_2 + 1))]))))))))))))))))))))))))) else .leaf (.brk [.int .i64 n, .int .i64 n_2]))) (fun vs => .popI .i64 vs fun n_2 vs => .popI .i64 vs fun n_3 vs => .unNil vs (.call false 41 #[.slice a n c, .int .i64 n_2] fun v => .unB v fun b => bif !b then .sem false (Instr.buildSlice 50 1 #[(0, .int .i64 n_2)]) fun v => .unS v fun a_1 n_4 c_1 => .sem false (Builtin.append_ #[50, 50] 50 #[.slice a n c, .slice a_1 n_4 c_1]) fun v => .unS v fun a n c => .leaf (.again [.slice a n c, .int .i64 (IntKind.wrap .i64 (n_1 + 1))]) else .leaf (.again [.slice a n c, .int .i64 (IntKind.wrap .i64 (n_1 + 1))]))) (fun vs => .popI .i64 vs fun n_2 vs => .popI .i64 vs fun n_3 vs => .unNil vs (.leaf (.retn [.slice a n c, .int .i64 n_1]))) fun x x_1 => .fail else .leaf (.brk [.slice a n c, .int .i64 n_1]))) (fun vs => .popS vs fun a n c vs => .popI .i64 vs fun n_1 vs => .unNil vs (.leaf (.ret (.slice a n c)))) (fun vs => .popS vs fun a n c vs => .popI .i64 vs fun n vs => .unNil vs (.leaf (.ret (.slice none 0 0)))) fun x x_1 => .fail
theorem t108 (u_0 : Int) (u_1 : Int) (u_2 : Int) (u_3 : Int) (u_4p : Option Addr) (u_4n u_4c : Nat) (u_5p : Option Addr) (u_5n u_5c : Nat) (u_6p : Option Addr) (u_6n u_6c : Nat) (p_0 : Int) (p_1 : Int) (p_2 : Int) (p_3p : Option Addr) (p_3n p_3c : Nat) (lp : Option Addr) (ln lc : Nat) : ftree ({ P := Tryd.prog, priv := [3, 4], loops := [{ id := 2, slots := [(9, .int .i64), (10, .int .i64)], ro := [3, 4], outs := [] }, { id := 0, slots := [(7, .slice), (8, .int .i64)], ro := [3, 4], outs := [] }], joins := [] }) Tryd.f108 [.agg #[.int .i64 u_0, .int .i64 u_1, .int .i64 u_2, .int .i64 u_3, .slice u_4p u_4n u_4c, .slice u_5p u_5n u_5c, .slice u_6p u_6n u_6c], .agg #[.int .i64 p_0, .int .i64 p_1, .int .i64 p_2, .slice p_3p p_3n p_3c], .slice lp ln lc] = n108 u_0 u_1 u_2 u_3 u_4p u_4n u_4c u_5p u_5n u_5c u_6p u_6n u_6c p_0 p_1 p_2 p_3p p_3n p_3c lp ln lc := by kernel_rfl
theorem w108 (u_0 : Int) (u_1 : Int) (u_2 : Int) (u_3 : Int) (u_4p : Option Addr) (u_4n u_4c : Nat) (u_5p : Option Addr) (u_5n u_5c : Nat) (u_6p : Option Addr) (u_6n u_6c : Nat) (p_0 : Int) (p_1 : Int) (p_2 : Int) (p_3p : Option Addr) (p_3n p_3c : Nat) (lp : Option Addr) (ln lc : Nat) {X : XP} (hX : XOK X) {h : LH} {A : Value → LH → Prop} (hw : (n108 u_0 u_1 u_2 u_3 u_4p u_4n u_4c u_5p u_5n u_5c u_6p u_6n u_6c p_0 p_1 p_2 p_3p p_3n p_3c lp ln lc).wp X Tryd.prog (retQ A) h) : FWK X Tryd.prog .normal 108 #[.agg #[.int .i64 u_0, .int .i64 u_1, .int .i64 u_2, .int .i64 u_3, .slice u_4p u_4n u_4c, .slice u_5p u_5n u_5c, .slice u_6p u_6n u_6c], .agg #[.int .i64 p_0, .int .i64 p_1, .int .i64 p_2, .slice p_3p p_3n p_3c], .slice lp ln lc] h A := fwk_neat (t108 u_0 u_1 u_2 u_3 u_4p u_4n u_4c u_5p u_5n u_5c u_6p u_6n u_6c p_0 p_1 p_2 p_3p p_3n p_3c lp ln lc) (by simp) (by kernel_rfl) (by kernel_rfl) hX hw
end Go.Proofs.YtibibhojkfapnaaDoor
end
section
namespace Go.Proofs.YtibibhojkfapnaaDoor
open Go Go.TM Go.Proofs
attribute [local irreducible] T.wp CV FWK
theorem c49 {h : LH} (n a b : Int) : Pu Tryd.prog 49 #[.int .i64 n, .int .i64 a, .int .i64 b] h (.bool (isIn n a b)) := by
  refine w49 _ _ _ X0_ok ?_
  unfold n49
  refine t_if (fun e => ?_) (fun e => ?_) <;> refine t_ret ⟨?_, rfl⟩ <;> simp [isIn, e]
theorem c56 {h : LH} (n : Int) : Pu Tryd.prog 56 #[.int .i64 n] h (.bool (isDay n)) := by
  refine w56 _ X0_ok ?_
  unfold n56
  refine t_pu (c49 _ _ _) ?_
  (repeat (first | (with_reducible first | apply gA | apply gB | apply gC | apply gD | apply gE | apply gF | apply gG | apply gH | apply gI | apply gJ | apply gK | apply gL | apply gM | apply gN | apply gO | apply gP | apply gQ | apply gR) | ((with_reducible apply gT); first | exact rfl | exact True.intro | omega | assumption) | ((with_reducible apply gS2); first | assumption | rfl) | ((with_reducible first | apply gL0 | apply gL1 | apply gL2 | apply gL3 | apply gL4); assumption)))
  exact t_ret ⟨rfl, rfl⟩
theorem c89 {h : LH} (a b d : Int) : Pu Tryd.prog 89 #[.agg #[.int .i64 a, .int .i64 b], .int .i64 d] h (.bool (isIn d a b)) := by
  refine w89 _ _ _ X0_ok ?_
  unfold n89
  refine t_if (fun e => ?_) (fun e => ?_) <;> refine t_ret ⟨?_, rfl⟩ <;> simp [isIn, e]
theorem c93 {h : LH} (a b x y : Int) : Pu Tryd.prog 93 #[.agg #[.int .i64 a, .int .i64 b], .int .i64 x, .int .i64 y] h (.bool (decide (x ≤ a) && (decide (a ≤ b) && decide (b ≤ y)))) := by
  refine w93 _ _ _ _ X0_ok ?_
  unfold n93
  refine t_if (fun e => ?_) (fun e => ?_)
  · refine t_if (fun e' => ?_) (fun e' => ?_) <;> refine t_ret ⟨?_, rfl⟩ <;> simp [e, e']
  · refine t_ret ⟨?_, rfl⟩; simp [e]
theorem inside_span (x : Span) : (decide ((0 : Int) ≤ x.first) && (decide (x.first ≤ x.last) && decide (x.last ≤ 2000))) = isSpan x := by
  unfold isSpan isDay isIn
  rw [Bool.eq_iff_iff]
  simp only [Bool.and_eq_true, decide_eq_true_eq]
  omega
theorem c78 {h : LH} {f : FileC} {u : UseFile} (hu : FileR h.get f u) (day : Int) : Pu Tryd.prog 78 #[fileV f u, .int .i64 day] h (.bool (counts u day)) := by
  refine w78 _ _ _ _ _ _ _ _ _ _ _ _ _ _ X0_ok ?_
  unfold n78
  obtain ⟨hn, hb, _⟩ := hu.excuses
  refine t_loop (fun mm vs h' => h = h' ∧ ∃ i : Nat, vs = [.bool false, .int .i64 i] ∧ i ≤ f.n4 ∧ mm = f.n4 - i ∧ counts u day = (u.excuses.drop i).all fun x => !isIn day x.first x.last) ⟨rfl, 0, rfl, Nat.zero_le _, rfl, rfl⟩ ?_
  rintro Y mm vs _ hY ⟨rfl, i, rfl, hi, rfl, hc⟩
  (repeat (first | (with_reducible first | apply gA | apply gB | apply gC | apply gD | apply gE | apply gF | apply gG | apply gH | apply gI | apply gJ | apply gK | apply gL | apply gM | apply gN | apply gO | apply gP | apply gQ | apply gR) | ((with_reducible apply gT); first | exact rfl | exact True.intro | omega | assumption) | ((with_reducible apply gS2); first | assumption | rfl) | ((with_reducible first | apply gL0 | apply gL1 | apply gL2 | apply gL3 | apply gL4); assumption)))
  refine t_if (fun e => ?_) (fun e => ?_)
  · obtain ⟨x, a, hx, ha, e1, e2⟩ := hu.excuses.at (i := i) (by omega)
    rw [drop_of hx, List.all_cons] at hc
    (repeat (first | (with_reducible first | apply gA | apply gB | apply gC | apply gD | apply gE | apply gF | apply gG | apply gH | apply gI | apply gJ | apply gK | apply gL | apply gM | apply gN | apply gO | apply gP | apply gQ | apply gR) | ((with_reducible apply gT); first | exact rfl | exact True.intro | omega | assumption) | ((with_reducible apply gS2); first | assumption | rfl) | ((with_reducible first | apply gL0 | apply gL1 | apply gL2 | apply gL3 | apply gL4); assumption)))
    refine t_pu (c49 _ _ _) ?_
    (repeat (first | (with_reducible first | apply gA | apply gB | apply gC | apply gD | apply gE | apply gF | apply gG | apply gH | apply gI | apply gJ | apply gK | apply gL | apply gM | apply gN | apply gO | apply gP | apply gQ | apply gR) | ((with_reducible apply gT); first | exact rfl | exact True.intro | omega | assumption) | ((with_reducible apply gS2); first | assumption | rfl) | ((with_reducible first | apply gL0 | apply gL1 | apply gL2 | apply gL3 | apply gL4); assumption)))
    refine t_cond (fun e => ?_) (fun e => ?_)
    · (repeat (first | (with_reducible first | apply gA | apply gB | apply gC | apply gD | apply gE | apply gF | apply gG | apply gH | apply gI | apply gJ | apply gK | apply gL | apply gM | apply gN | apply gO | apply gP | apply gQ | apply gR) | ((with_reducible apply gT); first | exact rfl | exact True.intro | omega | assumption) | ((with_reducible apply gS2); first | assumption | rfl) | ((with_reducible first | apply gL0 | apply gL1 | apply gL2 | apply gL3 | apply gL4); assumption)))
      rw [e] at hc
      exact t_ret ⟨by rw [hc]; rfl, rfl⟩
    · rw [e] at hc
      refine t_again (hY (f.n4 - (i + 1)) _ _ (by omega) ⟨rfl, i + 1, ?_, by omega, rfl, by simpa using hc⟩)
      rw [wrap_id (by omega) (by omega)]; rfl
  · (repeat (first | (with_reducible first | apply gA | apply gB | apply gC | apply gD | apply gE | apply gF | apply gG | apply gH | apply gI | apply gJ | apply gK | apply gL | apply gM | apply gN | apply gO | apply gP | apply gQ | apply gR) | ((with_reducible apply gT); first | exact rfl | exact True.intro | omega | assumption) | ((with_reducible apply gS2); first | assumption | rfl) | ((with_reducible first | apply gL0 | apply gL1 | apply gL2 | apply gL3 | apply gL4); assumption)))
    rw [List.drop_eq_nil_of_le (by omega)] at hc
    exact t_ret ⟨by rw [hc]; rfl, rfl⟩
theorem firstDay_stop {c : Int → Bool} {idle : Int} {d : Nat} {n m : Int} (h1 : (if c ((d + 1 : Nat) : Int) then n + 1 else n) = m) (h2 : m ≥ idle) : firstDay c idle (d + 1) n = ((d + 1 : Nat) : Int) := by
  subst h1; rw [firstDay]; exact if_pos h2
theorem firstDay_go {c : Int → Bool} {idle : Int} {d : Nat} {n m : Int} (h1 : (if c ((d + 1 : Nat) : Int) then n + 1 else n) = m) (h2 : ¬ m ≥ idle) : firstDay c idle (d + 1) n = firstDay c idle d m := by
  subst h1; rw [firstDay]; exact if_neg h2
theorem c57 {h : LH} {f : FileC} {u : UseFile} (hu : FileR h.get f u) (day : Int) (hd : day ≤ 2000) : Pu Tryd.prog 57 #[fileV f u, .int .i64 day] h (.agg #[.int .i64 (window u day).first, .int .i64 day]) := by
  refine w57 _ _ _ _ _ _ _ _ _ _ _ _ _ _ X0_ok ?_
  unfold n57
  refine t_loop (fun mm vs h' => h = h' ∧ ∃ (d n : Int), vs = [.int .i64 d, .int .i64 n, .int .i64 0, .int .i64 0] ∧ d ≤ 2000 ∧ (0 < d → 0 ≤ n ∧ n + d ≤ 2000) ∧ mm = d.toNat ∧ (window u day).first = firstDay (counts u) u.idle d.toNat n)
    ⟨rfl, day, 0, rfl, hd, by omega, rfl, rfl⟩ ?_
  rintro Y mm vs _ hY ⟨rfl, d, n, rfl, hd2, hnd, rfl, hc⟩
  (repeat (first | (with_reducible first | apply gA | apply gB | apply gC | apply gD | apply gE | apply gF | apply gG | apply gH | apply gI | apply gJ | apply gK | apply gL | apply gM | apply gN | apply gO | apply gP | apply gQ | apply gR) | ((with_reducible apply gT); first | exact rfl | exact True.intro | omega | assumption) | ((with_reducible apply gS2); first | assumption | rfl) | ((with_reducible first | apply gL0 | apply gL1 | apply gL2 | apply gL3 | apply gL4); assumption)))
  refine t_if (fun e => ?_) (fun e => ?_)
  · obtain ⟨d, rfl⟩ : ∃ d' : Nat, d = ((d' + 1 : Nat) : Int) := ⟨d.toNat - 1, by omega⟩
    have hnd := hnd (by omega)
    rw [Int.toNat_natCast] at hc
    refine t_pu (c78 hu _) ?_
    (repeat (first | (with_reducible first | apply gA | apply gB | apply gC | apply gD | apply gE | apply gF | apply gG | apply gH | apply gI | apply gJ | apply gK | apply gL | apply gM | apply gN | apply gO | apply gP | apply gQ | apply gR) | ((with_reducible apply gT); first | exact rfl | exact True.intro | omega | assumption) | ((with_reducible apply gS2); first | assumption | rfl) | ((with_reducible first | apply gL0 | apply gL1 | apply gL2 | apply gL3 | apply gL4); assumption)))
    have hdd : IntKind.wrap .i64 (((d + 1 : Nat) : Int) - 1) = (d : Int) := by rw [wrap_id (by omega) (by omega)]; omega
    refine t_cond (fun b => ?_) (fun b => ?_)
    · rw [wrap_id (by omega) (by omega)]
      refine t_if (fun e' => ?_) (fun e' => ?_)
      · (repeat (first | (with_reducible first | apply gA | apply gB | apply gC | apply gD | apply gE | apply gF | apply gG | apply gH | apply gI | apply gJ | apply gK | apply gL | apply gM | apply gN | apply gO | apply gP | apply gQ | apply gR) | ((with_reducible apply gT); first | exact rfl | exact True.intro | omega | assumption) | ((with_reducible apply gS2); first | assumption | rfl) | ((with_reducible first | apply gL0 | apply gL1 | apply gL2 | apply gL3 | apply gL4); assumption)))
        rw [firstDay_stop (if_pos b) e'] at hc
        exact t_ret ⟨by rw [hc], rfl⟩
      · rw [firstDay_go (if_pos b) e'] at hc
        exact t_again (hY d _ _ (by omega) ⟨rfl, d, n + 1, by rw [hdd], by omega, by omega, rfl, hc⟩)
    · refine t_if (fun e' => ?_) (fun e' => ?_)
      · (repeat (first | (with_reducible first | apply gA | apply gB | apply gC | apply gD | apply gE | apply gF | apply gG | apply gH | apply gI | apply gJ | apply gK | apply gL | apply gM | apply gN | apply gO | apply gP | apply gQ | apply gR) | ((with_reducible apply gT); first | exact rfl | exact True.intro | omega | assumption) | ((with_reducible apply gS2); first | assumption | rfl) | ((with_reducible first | apply gL0 | apply gL1 | apply gL2 | apply gL3 | apply gL4); assumption)))
        rw [firstDay_stop (if_neg (by rw [b]; simp)) e'] at hc
        exact t_ret ⟨by rw [hc], rfl⟩
      · rw [firstDay_go (if_neg (by rw [b]; simp)) e'] at hc
        exact t_again (hY d _ _ (by omega) ⟨rfl, d, n, by rw [hdd], by omega, by omega, rfl, hc⟩)
  · (repeat (first | (with_reducible first | apply gA | apply gB | apply gC | apply gD | apply gE | apply gF | apply gG | apply gH | apply gI | apply gJ | apply gK | apply gL | apply gM | apply gN | apply gO | apply gP | apply gQ | apply gR) | ((with_reducible apply gT); first | exact rfl | exact True.intro | omega | assumption) | ((with_reducible apply gS2); first | assumption | rfl) | ((with_reducible first | apply gL0 | apply gL1 | apply gL2 | apply gL3 | apply gL4); assumption)))
    rw [show d.toNat = 0 by omega] at hc
    exact t_ret ⟨by rw [hc]; rfl, rfl⟩
theorem c72 {h : LH} {below : Int} {p : Option Addr} {n c : Nat} {l : List Int} (hl : Sl IntE 1 h.get p n l) (hb : IsI (below - 1)) : Pu Tryd.prog 72 #[.slice p n c, .int .i64 below] h (.int .i64 (risesF l below)) := by
  refine w72 _ _ _ _ X0_ok ?_
  unfold n72
  have hn := hl.1
  have hbn := hl.2.1
  have hw : IntKind.wrap .i64 (below - 1) = below - 1 := wrap_id hb.1 hb.2
  refine t_loop (fun mm vs h' => h = h' ∧ ∃ i : Nat, vs = [.int .i64 0, .int .i64 i] ∧ i ≤ n ∧ mm = n - i ∧ risesF l below = firstF (riseF l below) i (l.drop i)) ⟨rfl, 0, rfl, Nat.zero_le _, rfl, rfl⟩ ?_
  rintro Y mm vs _ hY ⟨rfl, i, rfl, hi, rfl, hc⟩
  (repeat (first | (with_reducible first | apply gA | apply gB | apply gC | apply gD | apply gE | apply gF | apply gG | apply gH | apply gI | apply gJ | apply gK | apply gL | apply gM | apply gN | apply gO | apply gP | apply gQ | apply gR) | ((with_reducible apply gT); first | exact rfl | exact True.intro | omega | assumption) | ((with_reducible apply gS2); first | assumption | rfl) | ((with_reducible first | apply gL0 | apply gL1 | apply gL2 | apply gL3 | apply gL4); assumption)))
  refine t_if (fun e => ?_) (fun e => ?_)
  · obtain ⟨x, a, hx, ha, e1⟩ := hl.at (i := i) (by omega)
    unfold IntE at e1
    rw [drop_of hx, firstF] at hc
    (repeat (first | (with_reducible first | apply gA | apply gB | apply gC | apply gD | apply gE | apply gF | apply gG | apply gH | apply gI | apply gJ | apply gK | apply gL | apply gM | apply gN | apply gO | apply gP | apply gQ | apply gR) | ((with_reducible apply gT); first | exact rfl | exact True.intro | omega | assumption) | ((with_reducible apply gS2); first | assumption | rfl) | ((with_reducible first | apply gL0 | apply gL1 | apply gL2 | apply gL3 | apply gL4); assumption)))
    refine t_pu (c49 _ _ _) ?_
    (repeat (first | (with_reducible first | apply gA | apply gB | apply gC | apply gD | apply gE | apply gF | apply gG | apply gH | apply gI | apply gJ | apply gK | apply gL | apply gM | apply gN | apply gO | apply gP | apply gQ | apply gR) | ((with_reducible apply gT); first | exact rfl | exact True.intro | omega | assumption) | ((with_reducible apply gS2); first | assumption | rfl) | ((with_reducible first | apply gL0 | apply gL1 | apply gL2 | apply gL3 | apply gL4); assumption)))
    rw [hw]
    have next : riseF l below i x = 0 → Y [.int .i64 0, .int .i64 (IntKind.wrap .i64 ((i : Int) + 1))] h := by
      intro hz
      rw [if_neg (by simp [hz])] at hc
      refine hY (n - (i + 1)) _ _ (by omega) ⟨rfl, i + 1, ?_, by omega, rfl, hc⟩
      rw [wrap_id (by omega) (by omega)]; rfl
    have stop : ∀ z : Int, z ≠ 0 → riseF l below i x = z → risesF l below = z := by
      intro z hz hr
      rw [if_pos (by rw [hr]; exact hz), hr] at hc; exact hc
    refine t_cond (fun b => ?_) (fun b => ?_)
    · (repeat (first | (with_reducible first | apply gA | apply gB | apply gC | apply gD | apply gE | apply gF | apply gG | apply gH | apply gI | apply gJ | apply gK | apply gL | apply gM | apply gN | apply gO | apply gP | apply gQ | apply gR) | ((with_reducible apply gT); first | exact rfl | exact True.intro | omega | assumption) | ((with_reducible apply gS2); first | assumption | rfl) | ((with_reducible first | apply gL0 | apply gL1 | apply gL2 | apply gL3 | apply gL4); assumption)))
      have b' : isIn x 0 (below - 1) = false := by simpa using b
      exact t_ret ⟨by rw [stop 6 (by omega) (by rw [riseF, if_pos b'])], rfl⟩
    · have b' : ¬ isIn x 0 (below - 1) = false := by simp at b; simp [b]
      refine t_if (fun e2 => ?_) (fun e2 => ?_)
      · obtain ⟨y, a2, hy, ha2, e3⟩ := hl.at (i := i - 1) (by omega)
        unfold IntE at e3
        rw [ha] at ha2; cases ha2
        have hwi : IntKind.wrap .i64 ((i : Int) - 1) = ((i - 1 : Nat) : Int) := by rw [wrap_id (by omega) (by omega)]; omega
        have hg : l.getD (i - 1) 0 = y := by simp [List.getD, hy]
        rw [hwi]
        (repeat (first | (with_reducible first | apply gA | apply gB | apply gC | apply gD | apply gE | apply gF | apply gG | apply gH | apply gI | apply gJ | apply gK | apply gL | apply gM | apply gN | apply gO | apply gP | apply gQ | apply gR) | ((with_reducible apply gT); first | exact rfl | exact True.intro | omega | assumption) | ((with_reducible apply gS2); first | assumption | rfl) | ((with_reducible first | apply gL0 | apply gL1 | apply gL2 | apply gL3 | apply gL4); assumption)))
        refine t_if (fun e4 => ?_) (fun e4 => ?_)
        · (repeat (first | (with_reducible first | apply gA | apply gB | apply gC | apply gD | apply gE | apply gF | apply gG | apply gH | apply gI | apply gJ | apply gK | apply gL | apply gM | apply gN | apply gO | apply gP | apply gQ | apply gR) | ((with_reducible apply gT); first | exact rfl | exact True.intro | omega | assumption) | ((with_reducible apply gS2); first | assumption | rfl) | ((with_reducible first | apply gL0 | apply gL1 | apply gL2 | apply gL3 | apply gL4); assumption)))
          exact t_ret ⟨by rw [stop 7 (by omega) (by rw [riseF, if_neg b', if_pos ⟨by omega, by rw [hg]; exact e4⟩])], rfl⟩
        · exact t_again (next (by rw [riseF, if_neg b', if_neg (by rw [hg]; omega)]))
      · (repeat (first | (with_reducible first | apply gA | apply gB | apply gC | apply gD | apply gE | apply gF | apply gG | apply gH | apply gI | apply gJ | apply gK | apply gL | apply gM | apply gN | apply gO | apply gP | apply gQ | apply gR) | ((with_reducible apply gT); first | exact rfl | exact True.intro | omega | assumption) | ((with_reducible apply gS2); first | assumption | rfl) | ((with_reducible first | apply gL0 | apply gL1 | apply gL2 | apply gL3 | apply gL4); assumption)))
        exact t_again (next (by rw [riseF, if_neg b', if_neg (by omega)]))
  · (repeat (first | (with_reducible first | apply gA | apply gB | apply gC | apply gD | apply gE | apply gF | apply gG | apply gH | apply gI | apply gJ | apply gK | apply gL | apply gM | apply gN | apply gO | apply gP | apply gQ | apply gR) | ((with_reducible apply gT); first | exact rfl | exact True.intro | omega | assumption) | ((with_reducible apply gS2); first | assumption | rfl) | ((with_reducible first | apply gL0 | apply gL1 | apply gL2 | apply gL3 | apply gL4); assumption)))
    rw [List.drop_eq_nil_of_le (by omega)] at hc
    exact t_ret ⟨by rw [hc]; rfl, rfl⟩
theorem c66 {h : LH} {p : Option Addr} {n c : Nat} {l : List Span} (hl : Sl SpanE 2 h.get p n l) : Pu Tryd.prog 66 #[.slice p n c] h (.int .i64 (eachF 4 (fun _ x => if isSpan x then 0 else 1) l)) := by
  refine w66 _ _ _ X0_ok ?_
  unfold n66
  have hn := hl.1
  have hbn := hl.2.1
  refine t_if (fun e => ?_) (fun e => ?_)
  · exact t_ret ⟨by rw [eachF, if_pos (by omega)], rfl⟩
  have he : eachF 4 (fun _ x => if isSpan x then 0 else 1) l = firstF (fun _ x => if isSpan x then 0 else 1) 0 l := by rw [eachF, if_neg (by omega)]
  refine t_loop (fun mm vs h' => h = h' ∧ ∃ i : Nat, vs = [.int .i64 0, .int .i64 i] ∧ i ≤ n ∧ mm = n - i ∧ eachF 4 (fun _ x => if isSpan x then 0 else 1) l = firstF (fun _ x => if isSpan x then 0 else 1) i (l.drop i)) ⟨rfl, 0, rfl, Nat.zero_le _, rfl, he⟩ ?_
  rintro Y mm vs _ hY ⟨rfl, i, rfl, hi, rfl, hc⟩
  (repeat (first | (with_reducible first | apply gA | apply gB | apply gC | apply gD | apply gE | apply gF | apply gG | apply gH | apply gI | apply gJ | apply gK | apply gL | apply gM | apply gN | apply gO | apply gP | apply gQ | apply gR) | ((with_reducible apply gT); first | exact rfl | exact True.intro | omega | assumption) | ((with_reducible apply gS2); first | assumption | rfl) | ((with_reducible first | apply gL0 | apply gL1 | apply gL2 | apply gL3 | apply gL4); assumption)))
  refine t_if (fun e => ?_) (fun e => ?_)
  · obtain ⟨x, a, hx, ha, e1, e2⟩ := hl.at (i := i) (by omega)
    rw [drop_of hx, firstF] at hc
    (repeat (first | (with_reducible first | apply gA | apply gB | apply gC | apply gD | apply gE | apply gF | apply gG | apply gH | apply gI | apply gJ | apply gK | apply gL | apply gM | apply gN | apply gO | apply gP | apply gQ | apply gR) | ((with_reducible apply gT); first | exact rfl | exact True.intro | omega | assumption) | ((with_reducible apply gS2); first | assumption | rfl) | ((with_reducible first | apply gL0 | apply gL1 | apply gL2 | apply gL3 | apply gL4); assumption)))
    refine t_pu (c93 _ _ _ _) ?_
    rw [inside_span]
    (repeat (first | (with_reducible first | apply gA | apply gB | apply gC | apply gD | apply gE | apply gF | apply gG | apply gH | apply gI | apply gJ | apply gK | apply gL | apply gM | apply gN | apply gO | apply gP | apply gQ | apply gR) | ((with_reducible apply gT); first | exact rfl | exact True.intro | omega | assumption) | ((with_reducible apply gS2); first | assumption | rfl) | ((with_reducible first | apply gL0 | apply gL1 | apply gL2 | apply gL3 | apply gL4); assumption)))
    refine t_cond (fun b => ?_) (fun b => ?_)
    · (repeat (first | (with_reducible first | apply gA | apply gB | apply gC | apply gD | apply gE | apply gF | apply gG | apply gH | apply gI | apply gJ | apply gK | apply gL | apply gM | apply gN | apply gO | apply gP | apply gQ | apply gR) | ((with_reducible apply gT); first | exact rfl | exact True.intro | omega | assumption) | ((with_reducible apply gS2); first | assumption | rfl) | ((with_reducible first | apply gL0 | apply gL1 | apply gL2 | apply gL3 | apply gL4); assumption)))
      have b' : isSpan x = false := by simpa using b
      rw [b'] at hc
      exact t_ret ⟨by rw [hc]; rfl, rfl⟩
    · have b' : isSpan x = true := by simpa using b
      rw [b'] at hc
      refine t_again (hY (n - (i + 1)) _ _ (by omega) ⟨rfl, i + 1, ?_, by omega, rfl, by simpa using hc⟩)
      rw [wrap_id (by omega) (by omega)]; rfl
  · (repeat (first | (with_reducible first | apply gA | apply gB | apply gC | apply gD | apply gE | apply gF | apply gG | apply gH | apply gI | apply gJ | apply gK | apply gL | apply gM | apply gN | apply gO | apply gP | apply gQ | apply gR) | ((with_reducible apply gT); first | exact rfl | exact True.intro | omega | assumption) | ((with_reducible apply gS2); first | assumption | rfl) | ((with_reducible first | apply gL0 | apply gL1 | apply gL2 | apply gL3 | apply gL4); assumption)))
    rw [List.drop_eq_nil_of_le (by omega)] at hc
    exact t_ret ⟨by rw [hc]; rfl, rfl⟩
theorem c67 {h : LH} {f : FileC} {u : UseFile} (hu : FileR h.get f u) (hnum : numbersF u = 0) : Pu Tryd.prog 67 #[fileV f u] h (.int .i64 (papersF u)) := by
  refine w67 _ _ _ _ _ _ _ _ _ _ _ _ _ X0_ok ?_
  unfold n67
  have hp := hu.papers
  have hn := hp.1
  have hbn := hp.2.1
  have hw : IntKind.wrap .i64 (u.lands - 1) = u.lands - 1 := wrap_id (num_lands hnum).1 (num_lands hnum).2
  refine t_if (fun e => ?_) (fun e => ?_)
  · exact t_ret ⟨by rw [papersF, eachF, if_pos (by omega)], rfl⟩
  have he : papersF u = firstF (fun _ p => paperF u p) 0 u.papers := by rw [papersF, eachF, if_neg (by omega)]
  refine t_loop (fun mm vs h' => h = h' ∧ ∃ i : Nat, vs = [.int .i64 0, .int .i64 i] ∧ i ≤ f.n5 ∧ mm = f.n5 - i ∧ papersF u = firstF (fun _ p => paperF u p) i (u.papers.drop i)) ⟨rfl, 0, rfl, Nat.zero_le _, rfl, he⟩ ?_
  rintro Y mm vs _ hY ⟨rfl, i, rfl, hi, rfl, hc⟩
  (repeat (first | (with_reducible first | apply gA | apply gB | apply gC | apply gD | apply gE | apply gF | apply gG | apply gH | apply gI | apply gJ | apply gK | apply gL | apply gM | apply gN | apply gO | apply gP | apply gQ | apply gR) | ((with_reducible apply gT); first | exact rfl | exact True.intro | omega | assumption) | ((with_reducible apply gS2); first | assumption | rfl) | ((with_reducible first | apply gL0 | apply gL1 | apply gL2 | apply gL3 | apply gL4); assumption)))
  refine t_if (fun e => ?_) (fun e => ?_)
  · obtain ⟨x, a, hx, ha, e1, e2, e3, q, m, c, e4, e5⟩ := hp.at (i := i) (by omega)
    rw [drop_of hx, firstF] at hc
    (repeat (first | (with_reducible first | apply gA | apply gB | apply gC | apply gD | apply gE | apply gF | apply gG | apply gH | apply gI | apply gJ | apply gK | apply gL | apply gM | apply gN | apply gO | apply gP | apply gQ | apply gR) | ((with_reducible apply gT); first | exact rfl | exact True.intro | omega | assumption) | ((with_reducible apply gS2); first | assumption | rfl) | ((with_reducible first | apply gL0 | apply gL1 | apply gL2 | apply gL3 | apply gL4); assumption)))
    have next : paperF u x = 0 → Y [.int .i64 0, .int .i64 (IntKind.wrap .i64 ((i : Int) + 1))] h := by
      intro hz
      rw [if_neg (by simp [hz])] at hc
      refine hY (f.n5 - (i + 1)) _ _ (by omega) ⟨rfl, i + 1, ?_, by omega, rfl, hc⟩
      rw [wrap_id (by omega) (by omega)]; rfl
    have stop : ∀ z : Int, z ≠ 0 → paperF u x = z → papersF u = z := by
      intro z hz hr
      rw [if_pos (by rw [hr]; exact hz), hr] at hc; exact hc
    refine t_pu (c93 _ _ _ _) ?_
    rw [inside_span x.days]
    (repeat (first | (with_reducible first | apply gA | apply gB | apply gC | apply gD | apply gE | apply gF | apply gG | apply gH | apply gI | apply gJ | apply gK | apply gL | apply gM | apply gN | apply gO | apply gP | apply gQ | apply gR) | ((with_reducible apply gT); first | exact rfl | exact True.intro | omega | assumption) | ((with_reducible apply gS2); first | assumption | rfl) | ((with_reducible first | apply gL0 | apply gL1 | apply gL2 | apply gL3 | apply gL4); assumption)))
    refine t_cond (fun b => ?_) (fun b => ?_)
    · (repeat (first | (with_reducible first | apply gA | apply gB | apply gC | apply gD | apply gE | apply gF | apply gG | apply gH | apply gI | apply gJ | apply gK | apply gL | apply gM | apply gN | apply gO | apply gP | apply gQ | apply gR) | ((with_reducible apply gT); first | exact rfl | exact True.intro | omega | assumption) | ((with_reducible apply gS2); first | assumption | rfl) | ((with_reducible first | apply gL0 | apply gL1 | apply gL2 | apply gL3 | apply gL4); assumption)))
      have b' : isSpan x.days = false := by simpa using b
      exact t_ret ⟨by rw [stop 1 (by omega) (by rw [paperF, if_pos b'])], rfl⟩
    have b1 : ¬ isSpan x.days = false := by simp at b; simp [b]
    refine t_pu (c49 _ _ _) ?_
    rw [hw]
    (repeat (first | (with_reducible first | apply gA | apply gB | apply gC | apply gD | apply gE | apply gF | apply gG | apply gH | apply gI | apply gJ | apply gK | apply gL | apply gM | apply gN | apply gO | apply gP | apply gQ | apply gR) | ((with_reducible apply gT); first | exact rfl | exact True.intro | omega | assumption) | ((with_reducible apply gS2); first | assumption | rfl) | ((with_reducible first | apply gL0 | apply gL1 | apply gL2 | apply gL3 | apply gL4); assumption)))
    refine t_cond (fun b => ?_) (fun b => ?_)
    · (repeat (first | (with_reducible first | apply gA | apply gB | apply gC | apply gD | apply gE | apply gF | apply gG | apply gH | apply gI | apply gJ | apply gK | apply gL | apply gM | apply gN | apply gO | apply gP | apply gQ | apply gR) | ((with_reducible apply gT); first | exact rfl | exact True.intro | omega | assumption) | ((with_reducible apply gS2); first | assumption | rfl) | ((with_reducible first | apply gL0 | apply gL1 | apply gL2 | apply gL3 | apply gL4); assumption)))
      have b' : isIn x.land 0 (u.lands - 1) = false := by simpa using b
      exact t_ret ⟨by rw [stop 6 (by omega) (by rw [paperF, if_neg b1, if_pos b'])], rfl⟩
    have b2 : ¬ isIn x.land 0 (u.lands - 1) = false := by simp at b; simp [b]
    refine t_pu (c72 e5 (num_items hnum)) ?_
    (repeat (first | (with_reducible first | apply gA | apply gB | apply gC | apply gD | apply gE | apply gF | apply gG | apply gH | apply gI | apply gJ | apply gK | apply gL | apply gM | apply gN | apply gO | apply gP | apply gQ | apply gR) | ((with_reducible apply gT); first | exact rfl | exact True.intro | omega | assumption) | ((with_reducible apply gS2); first | assumption | rfl) | ((with_reducible first | apply gL0 | apply gL1 | apply gL2 | apply gL3 | apply gL4); assumption)))
    have hr : paperF u x = risesF x.items u.items := by rw [paperF, if_neg b1, if_neg b2]
    refine t_cond (fun b => ?_) (fun b => ?_)
    · (repeat (first | (with_reducible first | apply gA | apply gB | apply gC | apply gD | apply gE | apply gF | apply gG | apply gH | apply gI | apply gJ | apply gK | apply gL | apply gM | apply gN | apply gO | apply gP | apply gQ | apply gR) | ((with_reducible apply gT); first | exact rfl | exact True.intro | omega | assumption) | ((with_reducible apply gS2); first | assumption | rfl) | ((with_reducible first | apply gL0 | apply gL1 | apply gL2 | apply gL3 | apply gL4); assumption)))
      exact t_ret ⟨by rw [stop _ (by simpa using b) hr], rfl⟩
    · exact t_again (next (by rw [hr]; simpa using b))
  · (repeat (first | (with_reducible first | apply gA | apply gB | apply gC | apply gD | apply gE | apply gF | apply gG | apply gH | apply gI | apply gJ | apply gK | apply gL | apply gM | apply gN | apply gO | apply gP | apply gQ | apply gR) | ((with_reducible apply gT); first | exact rfl | exact True.intro | omega | assumption) | ((with_reducible apply gS2); first | assumption | rfl) | ((with_reducible first | apply gL0 | apply gL1 | apply gL2 | apply gL3 | apply gL4); assumption)))
    rw [List.drop_eq_nil_of_le (by omega)] at hc
    exact t_ret ⟨by rw [hc]; rfl, rfl⟩
def lateB (u : UseFile) (i : Nat) (x : Request) : Bool := decide (x.day < u.from_) || (decide (0 < i) && (match u.requests[i - 1]? with | some q => decide (x.day < q.day) | none => false))
theorem requestF_eq (u : UseFile) (i : Nat) (x : Request) : requestF u i x = if isDay x.day = false then 1 else if lateB u i x = true then 7 else if isIn x.land 0 (u.lands - 1) = false then 6 else risesF x.items u.items := rfl
theorem lateB_prev {u : UseFile} {i : Nat} {x y : Request} (hy : u.requests[i - 1]? = some y) : lateB u i x = (decide (x.day < u.from_) || (decide (0 < i) && decide (x.day < y.day))) := by
  unfold lateB; rw [hy]
theorem c68 {h : LH} {f : FileC} {u : UseFile} (hu : FileR h.get f u) (hnum : numbersF u = 0) : Pu Tryd.prog 68 #[fileV f u] h (.int .i64 (requestsF u)) := by
  refine w68 _ _ _ _ _ _ _ _ _ _ _ _ _ X0_ok ?_
  unfold n68
  have hp := hu.requests
  have hn := hp.1
  have hbn := hp.2.1
  have hw : IntKind.wrap .i64 (u.lands - 1) = u.lands - 1 := wrap_id (num_lands hnum).1 (num_lands hnum).2
  refine t_if (fun e => ?_) (fun e => ?_)
  · exact t_ret ⟨by rw [requestsF, eachF, if_pos (by omega)], rfl⟩
  have he : requestsF u = firstF (requestF u) 0 u.requests := by rw [requestsF, eachF, if_neg (by omega)]
  refine t_loop (fun mm vs h' => h = h' ∧ ∃ i : Nat, vs = [.int .i64 0, .int .i64 i] ∧ i ≤ f.n6 ∧ mm = f.n6 - i ∧ requestsF u = firstF (requestF u) i (u.requests.drop i)) ⟨rfl, 0, rfl, Nat.zero_le _, rfl, he⟩ ?_
  rintro Y mm vs _ hY ⟨rfl, i, rfl, hi, rfl, hc⟩
  (repeat (first | (with_reducible first | apply gA | apply gB | apply gC | apply gD | apply gE | apply gF | apply gG | apply gH | apply gI | apply gJ | apply gK | apply gL | apply gM | apply gN | apply gO | apply gP | apply gQ | apply gR) | ((with_reducible apply gT); first | exact rfl | exact True.intro | omega | assumption) | ((with_reducible apply gS2); first | assumption | rfl) | ((with_reducible first | apply gL0 | apply gL1 | apply gL2 | apply gL3 | apply gL4); assumption)))
  refine t_if (fun e => ?_) (fun e => ?_)
  · obtain ⟨x, a, hx, ha, e1, e2, q, m, c, e4, e5⟩ := hp.at (i := i) (by omega)
    rw [drop_of hx, firstF] at hc
    (repeat (first | (with_reducible first | apply gA | apply gB | apply gC | apply gD | apply gE | apply gF | apply gG | apply gH | apply gI | apply gJ | apply gK | apply gL | apply gM | apply gN | apply gO | apply gP | apply gQ | apply gR) | ((with_reducible apply gT); first | exact rfl | exact True.intro | omega | assumption) | ((with_reducible apply gS2); first | assumption | rfl) | ((with_reducible first | apply gL0 | apply gL1 | apply gL2 | apply gL3 | apply gL4); assumption)))
    have next : requestF u i x = 0 → Y [.int .i64 0, .int .i64 (IntKind.wrap .i64 ((i : Int) + 1))] h := by
      intro hz
      rw [if_neg (by simp [hz])] at hc
      refine hY (f.n6 - (i + 1)) _ _ (by omega) ⟨rfl, i + 1, ?_, by omega, rfl, hc⟩
      rw [wrap_id (by omega) (by omega)]; rfl
    have stop : ∀ z : Int, z ≠ 0 → requestF u i x = z → requestsF u = z := by
      intro z hz hr
      rw [if_pos (by rw [hr]; exact hz), hr] at hc; exact hc
    refine t_pu (c56 _) ?_
    (repeat (first | (with_reducible first | apply gA | apply gB | apply gC | apply gD | apply gE | apply gF | apply gG | apply gH | apply gI | apply gJ | apply gK | apply gL | apply gM | apply gN | apply gO | apply gP | apply gQ | apply gR) | ((with_reducible apply gT); first | exact rfl | exact True.intro | omega | assumption) | ((with_reducible apply gS2); first | assumption | rfl) | ((with_reducible first | apply gL0 | apply gL1 | apply gL2 | apply gL3 | apply gL4); assumption)))
    refine t_cond (fun b => ?_) (fun b => ?_)
    · (repeat (first | (with_reducible first | apply gA | apply gB | apply gC | apply gD | apply gE | apply gF | apply gG | apply gH | apply gI | apply gJ | apply gK | apply gL | apply gM | apply gN | apply gO | apply gP | apply gQ | apply gR) | ((with_reducible apply gT); first | exact rfl | exact True.intro | omega | assumption) | ((with_reducible apply gS2); first | assumption | rfl) | ((with_reducible first | apply gL0 | apply gL1 | apply gL2 | apply gL3 | apply gL4); assumption)))
      have b' : isDay x.day = false := by simpa using b
      exact t_ret ⟨by rw [stop 1 (by omega) (by rw [requestF_eq, if_pos b'])], rfl⟩
    have b1 : ¬ isDay x.day = false := by simp at b; simp [b]
    refine t_blk (fun vs h' => vs = [.int .i64 0] ∧ h = h' ∧ lateB u i x = false) ?_ ?_
    · refine t_if (fun e3 => ?_) (fun e3 => ?_)
      · (repeat (first | (with_reducible first | apply gA | apply gB | apply gC | apply gD | apply gE | apply gF | apply gG | apply gH | apply gI | apply gJ | apply gK | apply gL | apply gM | apply gN | apply gO | apply gP | apply gQ | apply gR) | ((with_reducible apply gT); first | exact rfl | exact True.intro | omega | assumption) | ((with_reducible apply gS2); first | assumption | rfl) | ((with_reducible first | apply gL0 | apply gL1 | apply gL2 | apply gL3 | apply gL4); assumption)))
        exact t_ret ⟨by rw [stop 7 (by omega) (by rw [requestF_eq, if_neg b1, if_pos (by simp [lateB, e3])])], rfl⟩
      · refine t_if (fun e6 => ?_) (fun e6 => ?_)
        · obtain ⟨y, a2, hy, ha2, f1, f2, _⟩ := hp.at (i := i - 1) (by omega)
          have hwi : IntKind.wrap .i64 ((i : Int) - 1) = ((i - 1 : Nat) : Int) := by rw [wrap_id (by omega) (by omega)]; omega
          rw [hwi]
          (repeat (first | (with_reducible first | apply gA | apply gB | apply gC | apply gD | apply gE | apply gF | apply gG | apply gH | apply gI | apply gJ | apply gK | apply gL | apply gM | apply gN | apply gO | apply gP | apply gQ | apply gR) | ((with_reducible apply gT); first | exact rfl | exact True.intro | omega | assumption) | ((with_reducible apply gS2); first | assumption | rfl) | ((with_reducible first | apply gL0 | apply gL1 | apply gL2 | apply gL3 | apply gL4); assumption)))
          refine t_if (fun e7 => ?_) (fun e7 => ?_)
          · (repeat (first | (with_reducible first | apply gA | apply gB | apply gC | apply gD | apply gE | apply gF | apply gG | apply gH | apply gI | apply gJ | apply gK | apply gL | apply gM | apply gN | apply gO | apply gP | apply gQ | apply gR) | ((with_reducible apply gT); first | exact rfl | exact True.intro | omega | assumption) | ((with_reducible apply gS2); first | assumption | rfl) | ((with_reducible first | apply gL0 | apply gL1 | apply gL2 | apply gL3 | apply gL4); assumption)))
            exact t_ret ⟨by rw [stop 7 (by omega) (by rw [requestF_eq, if_neg b1, if_pos (by rw [lateB_prev hy]; simp [e7]; omega)])], rfl⟩
          · refine t_again ⟨rfl, rfl, ?_⟩
            rw [lateB_prev hy]; simp; omega
        · have e3' : decide (x.day < u.from_) = false := by simpa using e3
          have e3'' : AV.val (.bool (decide (x.day < u.from_))) = AV.val (.bool false) := by rw [e3']
          (repeat (first | (with_reducible first | apply gA | apply gB | apply gC | apply gD | apply gE | apply gF | apply gG | apply gH | apply gI | apply gJ | apply gK | apply gL | apply gM | apply gN | apply gO | apply gP | apply gQ | apply gR) | ((with_reducible apply gT); first | exact rfl | exact True.intro | omega | assumption) | ((with_reducible apply gS2); first | assumption | rfl) | ((with_reducible first | apply gL0 | apply gL1 | apply gL2 | apply gL3 | apply gL4); assumption)))
          refine t_again ⟨rfl, rfl, ?_⟩
          have hi0 : i = 0 := by omega
          subst hi0
          unfold lateB; rw [e3']; rfl
    rintro vs _ ⟨rfl, rfl, hq⟩
    (repeat (first | (with_reducible first | apply gA | apply gB | apply gC | apply gD | apply gE | apply gF | apply gG | apply gH | apply gI | apply gJ | apply gK | apply gL | apply gM | apply gN | apply gO | apply gP | apply gQ | apply gR) | ((with_reducible apply gT); first | exact rfl | exact True.intro | omega | assumption) | ((with_reducible apply gS2); first | assumption | rfl) | ((with_reducible first | apply gL0 | apply gL1 | apply gL2 | apply gL3 | apply gL4); assumption)))
    refine t_pu (c49 _ _ _) ?_
    rw [hw]
    (repeat (first | (with_reducible first | apply gA | apply gB | apply gC | apply gD | apply gE | apply gF | apply gG | apply gH | apply gI | apply gJ | apply gK | apply gL | apply gM | apply gN | apply gO | apply gP | apply gQ | apply gR) | ((with_reducible apply gT); first | exact rfl | exact True.intro | omega | assumption) | ((with_reducible apply gS2); first | assumption | rfl) | ((with_reducible first | apply gL0 | apply gL1 | apply gL2 | apply gL3 | apply gL4); assumption)))
    refine t_cond (fun b => ?_) (fun b => ?_)
    · (repeat (first | (with_reducible first | apply gA | apply gB | apply gC | apply gD | apply gE | apply gF | apply gG | apply gH | apply gI | apply gJ | apply gK | apply gL | apply gM | apply gN | apply gO | apply gP | apply gQ | apply gR) | ((with_reducible apply gT); first | exact rfl | exact True.intro | omega | assumption) | ((with_reducible apply gS2); first | assumption | rfl) | ((with_reducible first | apply gL0 | apply gL1 | apply gL2 | apply gL3 | apply gL4); assumption)))
      have b' : isIn x.land 0 (u.lands - 1) = false := by simpa using b
      exact t_ret ⟨by rw [stop 6 (by omega) (by rw [requestF_eq, if_neg b1, hq, if_neg (by simp), if_pos b'])], rfl⟩
    have b2 : ¬ isIn x.land 0 (u.lands - 1) = false := by simp at b; simp [b]
    refine t_pu (c72 e5 (num_items hnum)) ?_
    (repeat (first | (with_reducible first | apply gA | apply gB | apply gC | apply gD | apply gE | apply gF | apply gG | apply gH | apply gI | apply gJ | apply gK | apply gL | apply gM | apply gN | apply gO | apply gP | apply gQ | apply gR) | ((with_reducible apply gT); first | exact rfl | exact True.intro | omega | assumption) | ((with_reducible apply gS2); first | assumption | rfl) | ((with_reducible first | apply gL0 | apply gL1 | apply gL2 | apply gL3 | apply gL4); assumption)))
    have hr : requestF u i x = risesF x.items u.items := by rw [requestF_eq, if_neg b1, hq, if_neg (by simp), if_neg b2]
    refine t_cond (fun b => ?_) (fun b => ?_)
    · (repeat (first | (with_reducible first | apply gA | apply gB | apply gC | apply gD | apply gE | apply gF | apply gG | apply gH | apply gI | apply gJ | apply gK | apply gL | apply gM | apply gN | apply gO | apply gP | apply gQ | apply gR) | ((with_reducible apply gT); first | exact rfl | exact True.intro | omega | assumption) | ((with_reducible apply gS2); first | assumption | rfl) | ((with_reducible first | apply gL0 | apply gL1 | apply gL2 | apply gL3 | apply gL4); assumption)))
      exact t_ret ⟨by rw [stop _ (by simpa using b) hr], rfl⟩
    · exact t_again (next (by rw [hr]; simpa using b))
  · (repeat (first | (with_reducible first | apply gA | apply gB | apply gC | apply gD | apply gE | apply gF | apply gG | apply gH | apply gI | apply gJ | apply gK | apply gL | apply gM | apply gN | apply gO | apply gP | apply gQ | apply gR) | ((with_reducible apply gT); first | exact rfl | exact True.intro | omega | assumption) | ((with_reducible apply gS2); first | assumption | rfl) | ((with_reducible first | apply gL0 | apply gL1 | apply gL2 | apply gL3 | apply gL4); assumption)))
    rw [List.drop_eq_nil_of_le (by omega)] at hc
    exact t_ret ⟨by rw [hc]; rfl, rfl⟩
theorem c27 {h : LH} {f : FileC} {u : UseFile} (hu : FileR h.get f u) : Pu Tryd.prog 27 #[fileV f u] h (.int .i64 (checkF u)) := by
  refine w27 _ _ _ _ _ _ _ _ _ _ _ _ _ X0_ok ?_
  unfold n27
  have bad : numbersF u ≠ 0 → checkF u = 1 := by
    intro hz
    have : numbersF u = 1 := by unfold numbersF at hz ⊢; split at hz <;> simp_all
    unfold checkF firstF
    rw [if_pos hz, this]
  refine t_blk (fun vs h' => vs = [.int .i64 0] ∧ h = h' ∧ numbersF u = 0) ?_ ?_
  · refine t_pu (c49 _ _ _) ?_
    (repeat (first | (with_reducible first | apply gA | apply gB | apply gC | apply gD | apply gE | apply gF | apply gG | apply gH | apply gI | apply gJ | apply gK | apply gL | apply gM | apply gN | apply gO | apply gP | apply gQ | apply gR) | ((with_reducible apply gT); first | exact rfl | exact True.intro | omega | assumption) | ((with_reducible apply gS2); first | assumption | rfl) | ((with_reducible first | apply gL0 | apply gL1 | apply gL2 | apply gL3 | apply gL4); assumption)))
    refine t_cond (fun b1 => ?_) (fun b1 => ?_)
    · (repeat (first | (with_reducible first | apply gA | apply gB | apply gC | apply gD | apply gE | apply gF | apply gG | apply gH | apply gI | apply gJ | apply gK | apply gL | apply gM | apply gN | apply gO | apply gP | apply gQ | apply gR) | ((with_reducible apply gT); first | exact rfl | exact True.intro | omega | assumption) | ((with_reducible apply gS2); first | assumption | rfl) | ((with_reducible first | apply gL0 | apply gL1 | apply gL2 | apply gL3 | apply gL4); assumption)))
      exact t_ret ⟨by rw [bad (by simp at b1; simp [numbersF, b1])], rfl⟩
    refine t_pu (c49 _ _ _) ?_
    (repeat (first | (with_reducible first | apply gA | apply gB | apply gC | apply gD | apply gE | apply gF | apply gG | apply gH | apply gI | apply gJ | apply gK | apply gL | apply gM | apply gN | apply gO | apply gP | apply gQ | apply gR) | ((with_reducible apply gT); first | exact rfl | exact True.intro | omega | assumption) | ((with_reducible apply gS2); first | assumption | rfl) | ((with_reducible first | apply gL0 | apply gL1 | apply gL2 | apply gL3 | apply gL4); assumption)))
    refine t_cond (fun b2 => ?_) (fun b2 => ?_)
    · (repeat (first | (with_reducible first | apply gA | apply gB | apply gC | apply gD | apply gE | apply gF | apply gG | apply gH | apply gI | apply gJ | apply gK | apply gL | apply gM | apply gN | apply gO | apply gP | apply gQ | apply gR) | ((with_reducible apply gT); first | exact rfl | exact True.intro | omega | assumption) | ((with_reducible apply gS2); first | assumption | rfl) | ((with_reducible first | apply gL0 | apply gL1 | apply gL2 | apply gL3 | apply gL4); assumption)))
      exact t_ret ⟨by rw [bad (by simp at b2; simp [numbersF, b2])], rfl⟩
    refine t_pu (c56 _) ?_
    (repeat (first | (with_reducible first | apply gA | apply gB | apply gC | apply gD | apply gE | apply gF | apply gG | apply gH | apply gI | apply gJ | apply gK | apply gL | apply gM | apply gN | apply gO | apply gP | apply gQ | apply gR) | ((with_reducible apply gT); first | exact rfl | exact True.intro | omega | assumption) | ((with_reducible apply gS2); first | assumption | rfl) | ((with_reducible first | apply gL0 | apply gL1 | apply gL2 | apply gL3 | apply gL4); assumption)))
    refine t_cond (fun b3 => ?_) (fun b3 => ?_)
    · (repeat (first | (with_reducible first | apply gA | apply gB | apply gC | apply gD | apply gE | apply gF | apply gG | apply gH | apply gI | apply gJ | apply gK | apply gL | apply gM | apply gN | apply gO | apply gP | apply gQ | apply gR) | ((with_reducible apply gT); first | exact rfl | exact True.intro | omega | assumption) | ((with_reducible apply gS2); first | assumption | rfl) | ((with_reducible first | apply gL0 | apply gL1 | apply gL2 | apply gL3 | apply gL4); assumption)))
      exact t_ret ⟨by rw [bad (by simp at b3; simp [numbersF, b3])], rfl⟩
    refine t_pu (c49 _ _ _) ?_
    (repeat (first | (with_reducible first | apply gA | apply gB | apply gC | apply gD | apply gE | apply gF | apply gG | apply gH | apply gI | apply gJ | apply gK | apply gL | apply gM | apply gN | apply gO | apply gP | apply gQ | apply gR) | ((with_reducible apply gT); first | exact rfl | exact True.intro | omega | assumption) | ((with_reducible apply gS2); first | assumption | rfl) | ((with_reducible first | apply gL0 | apply gL1 | apply gL2 | apply gL3 | apply gL4); assumption)))
    refine t_cond (fun b4 => ?_) (fun b4 => ?_)
    · (repeat (first | (with_reducible first | apply gA | apply gB | apply gC | apply gD | apply gE | apply gF | apply gG | apply gH | apply gI | apply gJ | apply gK | apply gL | apply gM | apply gN | apply gO | apply gP | apply gQ | apply gR) | ((with_reducible apply gT); first | exact rfl | exact True.intro | omega | assumption) | ((with_reducible apply gS2); first | assumption | rfl) | ((with_reducible first | apply gL0 | apply gL1 | apply gL2 | apply gL3 | apply gL4); assumption)))
      exact t_ret ⟨by rw [bad (by simp at b4; simp [numbersF, b4])], rfl⟩
    exact t_again ⟨rfl, rfl, by simp at b1 b2 b3 b4; simp [numbersF, b1, b2, b3, b4]⟩
  rintro vs _ ⟨rfl, rfl, hnum⟩
  (repeat (first | (with_reducible first | apply gA | apply gB | apply gC | apply gD | apply gE | apply gF | apply gG | apply gH | apply gI | apply gJ | apply gK | apply gL | apply gM | apply gN | apply gO | apply gP | apply gQ | apply gR) | ((with_reducible apply gT); first | exact rfl | exact True.intro | omega | assumption) | ((with_reducible apply gS2); first | assumption | rfl) | ((with_reducible first | apply gL0 | apply gL1 | apply gL2 | apply gL3 | apply gL4); assumption)))
  refine t_pu (c66 hu.excuses) ?_
  (repeat (first | (with_reducible first | apply gA | apply gB | apply gC | apply gD | apply gE | apply gF | apply gG | apply gH | apply gI | apply gJ | apply gK | apply gL | apply gM | apply gN | apply gO | apply gP | apply gQ | apply gR) | ((with_reducible apply gT); first | exact rfl | exact True.intro | omega | assumption) | ((with_reducible apply gS2); first | assumption | rfl) | ((with_reducible first | apply gL0 | apply gL1 | apply gL2 | apply gL3 | apply gL4); assumption)))
  have h0 : checkF u = firstF (fun _ x => x) 1 [excusesF u, papersF u, requestsF u] := by
    unfold checkF; rw [firstF, if_neg (by simp [hnum])]
  rw [firstF] at h0
  refine t_cond (fun b => ?_) (fun b => ?_)
  · rw [if_pos (show excusesF u ≠ 0 by simpa [excusesF] using b)] at h0
    exact t_ret ⟨by rw [h0]; rfl, rfl⟩
  rw [if_neg (show ¬ excusesF u ≠ 0 by simpa [excusesF] using b), firstF] at h0
  refine t_pu (c67 hu hnum) ?_
  (repeat (first | (with_reducible first | apply gA | apply gB | apply gC | apply gD | apply gE | apply gF | apply gG | apply gH | apply gI | apply gJ | apply gK | apply gL | apply gM | apply gN | apply gO | apply gP | apply gQ | apply gR) | ((with_reducible apply gT); first | exact rfl | exact True.intro | omega | assumption) | ((with_reducible apply gS2); first | assumption | rfl) | ((with_reducible first | apply gL0 | apply gL1 | apply gL2 | apply gL3 | apply gL4); assumption)))
  refine t_cond (fun b => ?_) (fun b => ?_)
  · rw [if_pos (by simpa using b)] at h0
    exact t_ret ⟨by rw [h0], rfl⟩
  rw [if_neg (by simpa using b), firstF] at h0
  refine t_pu (c68 hu hnum) ?_
  (repeat (first | (with_reducible first | apply gA | apply gB | apply gC | apply gD | apply gE | apply gF | apply gG | apply gH | apply gI | apply gJ | apply gK | apply gL | apply gM | apply gN | apply gO | apply gP | apply gQ | apply gR) | ((with_reducible apply gT); first | exact rfl | exact True.intro | omega | assumption) | ((with_reducible apply gS2); first | assumption | rfl) | ((with_reducible first | apply gL0 | apply gL1 | apply gL2 | apply gL3 | apply gL4); assumption)))
  refine t_ret ⟨?_, rfl⟩
  rw [h0]
  by_cases e : requestsF u = 0
  · rw [if_neg (by simp [e]), e]; rfl
  · rw [if_pos e]
theorem c61 {h : LH} {f : FileC} {u : UseFile} (hu : FileR h.get f u) (land : Int) : Pu Tryd.prog 61 #[fileV f u, .int .i64 land] h (.int .i64 (openF u [landQ u land])) := by
  refine w61 _ _ _ _ _ _ _ _ _ _ _ _ _ _ X0_ok ?_
  unfold n61
  refine t_pu (c27 hu) ?_
  (repeat (first | (with_reducible first | apply gA | apply gB | apply gC | apply gD | apply gE | apply gF | apply gG | apply gH | apply gI | apply gJ | apply gK | apply gL | apply gM | apply gN | apply gO | apply gP | apply gQ | apply gR) | ((with_reducible apply gT); first | exact rfl | exact True.intro | omega | assumption) | ((with_reducible apply gS2); first | assumption | rfl) | ((with_reducible first | apply gL0 | apply gL1 | apply gL2 | apply gL3 | apply gL4); assumption)))
  refine t_cond (fun b => ?_) (fun b => ?_)
  · exact t_ret ⟨by rw [openF, if_pos (by simpa using b)], rfl⟩
  have hck : checkF u = 0 := by simpa using b
  rw [wrap_id (num_lands (check_num hck)).1 (num_lands (check_num hck)).2]
  refine t_pu (c49 _ _ _) ?_
  (repeat (first | (with_reducible first | apply gA | apply gB | apply gC | apply gD | apply gE | apply gF | apply gG | apply gH | apply gI | apply gJ | apply gK | apply gL | apply gM | apply gN | apply gO | apply gP | apply gQ | apply gR) | ((with_reducible apply gT); first | exact rfl | exact True.intro | omega | assumption) | ((with_reducible apply gS2); first | assumption | rfl) | ((with_reducible first | apply gL0 | apply gL1 | apply gL2 | apply gL3 | apply gL4); assumption)))
  refine t_cond (fun b => ?_) (fun b => ?_)
  · refine t_ret ⟨?_, rfl⟩
    simp at b; simp [openF, hck, firstF, landQ, b]
  · refine t_ret ⟨?_, rfl⟩
    simp at b; simp [openF, hck, firstF, landQ, b]
theorem c64 {h : LH} {f : FileC} {u : UseFile} (hu : FileR h.get f u) (land day : Int) : Pu Tryd.prog 64 #[fileV f u, .int .i64 land, .int .i64 day] h (.int .i64 (openF u [landQ u land, dayQ day])) := by
  refine w64 _ _ _ _ _ _ _ _ _ _ _ _ _ _ _ X0_ok ?_
  unfold n64
  refine t_pu (c61 hu land) ?_
  (repeat (first | (with_reducible first | apply gA | apply gB | apply gC | apply gD | apply gE | apply gF | apply gG | apply gH | apply gI | apply gJ | apply gK | apply gL | apply gM | apply gN | apply gO | apply gP | apply gQ | apply gR) | ((with_reducible apply gT); first | exact rfl | exact True.intro | omega | assumption) | ((with_reducible apply gS2); first | assumption | rfl) | ((with_reducible first | apply gL0 | apply gL1 | apply gL2 | apply gL3 | apply gL4); assumption)))
  refine t_cond (fun b => ?_) (fun b => ?_)
  · refine t_ret ⟨?_, rfl⟩
    have b' : openF u [landQ u land] ≠ 0 := by simpa using b
    unfold openF at b' ⊢
    by_cases e : checkF u = 0
    · simp [e, firstF] at b' ⊢; simp [b']
    · rw [if_pos e, if_pos e]
  have b' : openF u [landQ u land] = 0 := by simpa using b
  have hck := (open_num b').2
  have hl := open_zero b' (landQ u land) (by simp)
  refine t_pu (c56 _) ?_
  (repeat (first | (with_reducible first | apply gA | apply gB | apply gC | apply gD | apply gE | apply gF | apply gG | apply gH | apply gI | apply gJ | apply gK | apply gL | apply gM | apply gN | apply gO | apply gP | apply gQ | apply gR) | ((with_reducible apply gT); first | exact rfl | exact True.intro | omega | assumption) | ((with_reducible apply gS2); first | assumption | rfl) | ((with_reducible first | apply gL0 | apply gL1 | apply gL2 | apply gL3 | apply gL4); assumption)))
  refine t_cond (fun b => ?_) (fun b => ?_)
  · refine t_ret ⟨?_, rfl⟩
    simp at b; simp [openF, hck, firstF, hl, dayQ, b]
  · refine t_ret ⟨?_, rfl⟩
    simp at b; simp [openF, hck, firstF, hl, dayQ, b]
end Go.Proofs.YtibibhojkfapnaaDoor
end
section
namespace Go.Proofs.YtibibhojkfapnaaDoor
open Go Go.TM Go.Proofs
attribute [local irreducible] T.wp CV FWK
theorem c88 {h : LH} (p : Option Addr) (land item : Int) : Gr Tryd.prog 88 #[.pointer p, .int .i64 land, .int .i64 item] h fun r h' => ∃ z0 z1 z2, r = .func (.func 99) #[] #[.pointer (some z0), .pointer (some z1), .pointer (some z2)] ∧
    h'.get.cell? z0 = some (.pointer p) ∧ h'.get.cell? z1 = some (.int .i64 land) ∧ h'.get.cell? z2 = some (.int .i64 item) := by
  refine w88 _ _ _ X0_ok ?_
  unfold n88
  refine t_new fun r hr => ?_
  refine t_new fun r1 hr1 => ?_
  refine t_new fun r2 hr2 => ?_
  have l1 : h.le _ := LH.upd_le (x := (true, .cells #[.pointer p] 84 (0, 0))) hr
  have l2 := LH.upd_le (x := (true, .cells #[.int .i64 land] 3 (0, 0))) hr1
  have l3 := LH.upd_le (x := (true, .cells #[.int .i64 item] 3 (0, 0))) hr2
  have c1 : Cells.cell? (h.get.upd r (true, .cells #[.pointer p] 84 (0, 0))) ⟨r, 0, none⟩ = some (.pointer p) := cell_upd rfl
  have c2 : Cells.cell? ((h.get.upd r (true, .cells #[.pointer p] 84 (0, 0))).upd r1 (true, .cells #[.int .i64 land] 3 (0, 0))) ⟨r1, 0, none⟩ = some (.int .i64 land) := cell_upd rfl
  have c3 : Cells.cell? (((h.get.upd r (true, .cells #[.pointer p] 84 (0, 0))).upd r1 (true, .cells #[.int .i64 land] 3 (0, 0))).upd r2 (true, .cells #[.int .i64 item] 3 (0, 0))) ⟨r2, 0, none⟩ = some (.int .i64 item) := cell_upd rfl
  exact t_ret ⟨LH.le_trans (LH.le_trans l1 l2) l3, _, _, _, rfl, Cells.cell?_le l3.1 (Cells.cell?_le l2.1 c1), Cells.cell?_le l3.1 c2, c3⟩
def handed (V : Nat → Value) (s : Paper → Bool) : List Paper → Nat → List (List Value)
  | [], _ => []
  | x :: l, i => if s x then [V i] :: handed V s l (i + 1) else handed V s l (i + 1)
theorem handed_len (V : Nat → Value) (s : Paper → Bool) : ∀ (l : List Paper) (i : Nat), (handed V s l i).length = (l.filter s).length := by
  intro l
  induction l with
  | nil => intro i; rfl
  | cons x l ih => intro i; rw [handed, List.filter_cons]; split <;> simp [ih]
theorem handed_get (V : Nat → Value) (s : Paper → Bool) : ∀ (l : List Paper) (i k : Nat) xs, (handed V s l i)[k]? = some xs → ∃ x j, (l.filter s)[k]? = some x ∧ l[j]? = some x ∧ xs = [V (i + j)] := by
  intro l
  induction l with
  | nil => intro i k xs h; simp [handed] at h
  | cons x l ih =>
    intro i k xs h
    rw [handed] at h
    rw [List.filter_cons]
    split at h
    · rename_i hs
      rw [if_pos hs]
      cases k with
      | zero => simp at h; exact ⟨x, 0, rfl, rfl, by simp [← h]⟩
      | succ k =>
        obtain ⟨y, j, h1, h2, h3⟩ := ih (i + 1) k xs (by simpa using h)
        exact ⟨y, j + 1, by simpa using h1, by simpa using h2, by rw [h3, show i + 1 + j = i + (j + 1) by omega]⟩
    · rename_i hs
      rw [if_neg hs]
      obtain ⟨y, j, h1, h2, h3⟩ := ih (i + 1) k xs h
      exact ⟨y, j + 1, h1, by simpa using h2, by rw [h3, show i + 1 + j = i + (j + 1) by omega]⟩
theorem hands99 {X : XP} (hX : XOK X) {h₀ : LH} {d : Nat} {z0 z1 z2 : Addr} {land item : Int} {p : Option Addr} {n c : Nat} {ps : List Paper} (hz0 : h₀.get.cell? z0 = some (.pointer (some ⟨d, 0, none⟩))) (hz1 : h₀.get.cell? z1 = some (.int .i64 land)) (hz2 : h₀.get.cell? z2 = some (.int .i64 item))
    (h5 : h₀.get.cell? (Addr.add ⟨d, 0, none⟩ 5) = some (.slice p n c)) (hs : Sl PaperE 4 h₀.get p n ps) :
    ∃ L, L.length = (ps.filter (showsB land item)).length ∧ (∀ (i : Nat) xs, L[i]? = some xs → ∃ x q m c, (ps.filter (showsB land item))[i]? = some x ∧ xs = [paperV x q m c] ∧ Sl IntE 1 h₀.get q m x.items) ∧
      Hands X Tryd.prog (.func (.func 99) #[] #[.pointer (some z0), .pointer (some z1), .pointer (some z2)]) h₀ L := by
  let R : Nat → Value → Prop := fun i v => ∃ x a q m c, ps[i]? = some x ∧ p = some a ∧ v = paperV x q m c ∧ h₀.get.cell? ((a.add (i * 4)).add 0) = some (.int .i64 x.days.first) ∧ h₀.get.cell? ((a.add (i * 4)).add 1) = some (.int .i64 x.days.last) ∧ h₀.get.cell? ((a.add (i * 4)).add 2) = some (.int .i64 x.land) ∧ h₀.get.cell? ((a.add (i * 4)).add 3) = some (.slice q m c) ∧ Sl IntE 1 h₀.get q m x.items
  have hR : ∀ i x, ps[i]? = some x → ∃ v, R i v := by
    intro i x hx
    obtain ⟨a, ha, e1, e2, e3, q, m, k, e4, e5⟩ := hs.2.2 i x hx
    exact ⟨_, x, a, q, m, k, hx, ha, rfl, e1, e2, e3, e4, e5⟩
  let V : Nat → Value := fun i => Classical.epsilon (R i)
  have hV : ∀ i x, ps[i]? = some x → R i (V i) := fun i x hx => Classical.epsilon_spec (hR i x hx)
  refine ⟨handed V (showsB land item) ps 0, handed_len _ _ _ _, ?_, ?_⟩
  · intro i xs hi
    obtain ⟨x, j, h1, h2, h3⟩ := handed_get _ _ _ _ _ _ hi
    rw [Nat.zero_add] at h3
    obtain ⟨x', a, q, m, k, g1, _, g3, _, _, _, _, g8⟩ := hV j x h2
    rw [h2] at g1; cases g1
    exact ⟨x, q, m, k, h1, by rw [h3, g3], g8⟩
  · intro y J E _ _ hyield h hle hJ
    generalize hL : handed V (showsB land item) ps 0 = L at hyield ⊢
    refine cv_fw hX (by rfl) (?_ : FW X Tryd.prog 99 #[y, .pointer (some z0), .pointer (some z1), .pointer (some z2)] h _)
    refine w99 _ _ _ _ hX ?_
    unfold n99
    have hn := hs.1
    have hb := hs.2.1
    have y0 := Cells.cell?_le hle.1 hz0
    have y5 := Cells.cell?_le hle.1 h5
    refine gL3 y0 ?_
    refine gS2 rfl ?_
    refine gL1 y5 ?_
    refine t_loop (fun mm vs h' => h₀.le h' ∧ ∃ (j cnt : Nat), vs = [.int .i64 j] ∧ j ≤ n ∧ mm = n - j ∧ J cnt h' ∧ cnt ≤ L.length ∧ L.drop cnt = handed V (showsB land item) (ps.drop j) j) (n := n) ⟨hle, 0, 0, rfl, Nat.zero_le _, by omega, hJ, Nat.zero_le _, by rw [← hL]; rfl⟩ ?_
    rintro Y mm vs h₁ hY ⟨le1, j, cnt, rfl, hj, rfl, hJ1, hcl, hdrop⟩
    (repeat (first | (with_reducible first | apply gA | apply gB | apply gC | apply gD | apply gE | apply gF | apply gG | apply gH | apply gI | apply gJ | apply gK | apply gL | apply gM | apply gN | apply gO | apply gP | apply gQ | apply gR) | ((with_reducible apply gT); first | exact rfl | exact True.intro | omega | assumption) | ((with_reducible apply gS2); first | assumption | rfl) | ((with_reducible first | apply gL0 | apply gL1 | apply gL2 | apply gL3 | apply gL4); assumption)))
    refine t_if (fun e1 => ?_) (fun e1 => ?_)
    · obtain ⟨x, hx⟩ : ∃ x, ps[j]? = some x := ⟨ps[j]'(by omega), List.getElem?_eq_getElem (by omega)⟩
      obtain ⟨x', a, q, m, k, g1, ha, hVj, c0, c1, c2, c3, hit⟩ := hV j x hx
      rw [hx] at g1; cases g1
      have d0 := Cells.cell?_le le1.1 c0
      have d1 := Cells.cell?_le le1.1 c1
      have d2 := Cells.cell?_le le1.1 c2
      have d3 := Cells.cell?_le le1.1 c3
      have w1 := Cells.cell?_le le1.1 hz1
      have w2 := Cells.cell?_le le1.1 hz2
      rw [drop_of hx, handed] at hdrop
      (repeat (first | (with_reducible first | apply gA | apply gB | apply gC | apply gD | apply gE | apply gF | apply gG | apply gH | apply gI | apply gJ | apply gK | apply gL | apply gM | apply gN | apply gO | apply gP | apply gQ | apply gR) | ((with_reducible apply gT); first | exact rfl | exact True.intro | omega | assumption) | ((with_reducible apply gS2); first | assumption | rfl) | ((with_reducible first | apply gL0 | apply gL1 | apply gL2 | apply gL3 | apply gL4); assumption)))
      have skip : showsB land item x = false → (T.leaf (.again [.int .i64 (IntKind.wrap .i64 ((j : Int) + 1))])).wp X Tryd.prog (fun l h' => l.go h' Y (fun vs h' => T.wp X Tryd.prog (T.popI .i64 vs fun n vs => T.unNil vs (T.leaf (.ret (.tuple #[])))) (retQ fun _ h' => h₀.le h' ∧ (J L.length h' ∨ E h')) h') (fun vs h' => T.wp X Tryd.prog (T.popI .i64 vs fun n vs => T.unNil vs (T.leaf (.ret (.tuple #[])))) (retQ fun _ h' => h₀.le h' ∧ (J L.length h' ∨ E h')) h') (fun _ _ h' => T.wp X Tryd.prog .fail (retQ fun _ h' => h₀.le h' ∧ (J L.length h' ∨ E h')) h')) h₁ := by
        intro hno
        rw [if_neg (by rw [hno]; simp)] at hdrop
        refine t_again (hY (n - (j + 1)) _ _ (by omega) ⟨le1, j + 1, cnt, ?_, by omega, rfl, hJ1, hcl, hdrop⟩)
        rw [wrap_id (by omega) (by omega)]; rfl
      refine t_cond (fun e2 => ?_) (fun e2 => ?_)
      · (repeat (first | (with_reducible first | apply gA | apply gB | apply gC | apply gD | apply gE | apply gF | apply gG | apply gH | apply gI | apply gJ | apply gK | apply gL | apply gM | apply gN | apply gO | apply gP | apply gQ | apply gR) | ((with_reducible apply gT); first | exact rfl | exact True.intro | omega | assumption) | ((with_reducible apply gS2); first | assumption | rfl) | ((with_reducible first | apply gL0 | apply gL1 | apply gL2 | apply gL3 | apply gL4); assumption)))
        refine t_pu (c100 (hit.le IntE.grow le1.1) item) ?_
        (repeat (first | (with_reducible first | apply gA | apply gB | apply gC | apply gD | apply gE | apply gF | apply gG | apply gH | apply gI | apply gJ | apply gK | apply gL | apply gM | apply gN | apply gO | apply gP | apply gQ | apply gR) | ((with_reducible apply gT); first | exact rfl | exact True.intro | omega | assumption) | ((with_reducible apply gS2); first | assumption | rfl) | ((with_reducible first | apply gL0 | apply gL1 | apply gL2 | apply gL3 | apply gL4); assumption)))
        refine t_cond (fun e3 => ?_) (fun e3 => ?_)
        · have hsh : showsB land item x = true := by unfold showsB; rw [e2, e3]; rfl
          rw [if_pos hsh] at hdrop
          have hget : L[cnt]? = some [V j] := by
            have : (L.drop cnt)[0]? = some [V j] := by rw [hdrop]; rfl
            simpa using this
          have hlt : cnt < L.length := (List.getElem?_eq_some_iff.1 hget).1
          have hcv := hyield cnt h₁ [V j] le1 hget hJ1
          rw [hVj] at hcv
          refine t_callv hcv ?_
          rintro b h₂ ⟨le2, ⟨rfl, hJ2⟩ | ⟨rfl, hE⟩⟩
          · (repeat (first | (with_reducible first | apply gA | apply gB | apply gC | apply gD | apply gE | apply gF | apply gG | apply gH | apply gI | apply gJ | apply gK | apply gL | apply gM | apply gN | apply gO | apply gP | apply gQ | apply gR) | ((with_reducible apply gT); first | exact rfl | exact True.intro | omega | assumption) | ((with_reducible apply gS2); first | assumption | rfl) | ((with_reducible first | apply gL0 | apply gL1 | apply gL2 | apply gL3 | apply gL4); assumption)))
            refine t_cond (fun e => by cases e) (fun _ => ?_)
            refine t_again (hY (n - (j + 1)) _ _ (by omega) ⟨le2, j + 1, cnt + 1, ?_, by omega, rfl, hJ2, by omega, ?_⟩)
            · rw [wrap_id (by omega) (by omega)]; rfl
            · rw [← List.drop_drop, hdrop]; rfl
          · (repeat (first | (with_reducible first | apply gA | apply gB | apply gC | apply gD | apply gE | apply gF | apply gG | apply gH | apply gI | apply gJ | apply gK | apply gL | apply gM | apply gN | apply gO | apply gP | apply gQ | apply gR) | ((with_reducible apply gT); first | exact rfl | exact True.intro | omega | assumption) | ((with_reducible apply gS2); first | assumption | rfl) | ((with_reducible first | apply gL0 | apply gL1 | apply gL2 | apply gL3 | apply gL4); assumption)))
            refine t_cond (fun _ => ?_) (fun e => by cases e)
            (repeat (first | (with_reducible first | apply gA | apply gB | apply gC | apply gD | apply gE | apply gF | apply gG | apply gH | apply gI | apply gJ | apply gK | apply gL | apply gM | apply gN | apply gO | apply gP | apply gQ | apply gR) | ((with_reducible apply gT); first | exact rfl | exact True.intro | omega | assumption) | ((with_reducible apply gS2); first | assumption | rfl) | ((with_reducible first | apply gL0 | apply gL1 | apply gL2 | apply gL3 | apply gL4); assumption)))
            exact t_ret ⟨le2, .inr hE⟩
        · exact skip (by unfold showsB; rw [e2, e3]; rfl)
      · exact skip (by unfold showsB; rw [e2]; rfl)
    · (repeat (first | (with_reducible first | apply gA | apply gB | apply gC | apply gD | apply gE | apply gF | apply gG | apply gH | apply gI | apply gJ | apply gK | apply gL | apply gM | apply gN | apply gO | apply gP | apply gQ | apply gR) | ((with_reducible apply gT); first | exact rfl | exact True.intro | omega | assumption) | ((with_reducible apply gS2); first | assumption | rfl) | ((with_reducible first | apply gL0 | apply gL1 | apply gL2 | apply gL3 | apply gL4); assumption)))
      refine t_ret ⟨le1, .inl ?_⟩
      rw [List.drop_eq_nil_of_le (by omega : ps.length ≤ j), handed] at hdrop
      have : L.length ≤ cnt := List.drop_eq_nil_iff.1 hdrop
      obtain rfl : cnt = L.length := by omega
      exact hJ1
end Go.Proofs.YtibibhojkfapnaaDoor
end
section
namespace Go.Proofs.YtibibhojkfapnaaDoor
open Go Go.TM Go.Proofs
attribute [local irreducible] T.wp CV FWK
theorem g30 : Tryd.prog.eqGuardType Tryd.prog.depth 30 = false := by kernel_rfl
theorem c60 {h : LH} {d m : Nat} {f : FileC} {u : UseFile} (k : Desk h.get d m f u) (hnum : numbersF u = 0) (land item day : Int) (hd : 0 ≤ day ∧ day ≤ 2000) :
    De 60 #[.pointer (some ⟨d, 0, none⟩), .int .i64 land, .int .i64 item, .int .i64 day] h d m f u fun r _ => r = .int .i64 (safe u land item day) := by
  refine w60 _ _ _ _ X0_ok ?_
  unfold n60
  refine t_de (c55 k (num_ok hnum).2.2.2 day hd) ?_
  rintro _ h₁ mv k1 rfl
  obtain ⟨f0, f1, f2, f3, f4, f5, f6⟩ := k1.file
  (repeat (first | (with_reducible first | apply gA | apply gB | apply gC | apply gD | apply gE | apply gF | apply gG | apply gH | apply gI | apply gJ | apply gK | apply gL | apply gM | apply gN | apply gO | apply gP | apply gQ | apply gR) | ((with_reducible apply gT); first | exact rfl | exact True.intro | omega | assumption) | ((with_reducible apply gS2); first | assumption | rfl) | ((with_reducible first | apply gL0 | apply gL1 | apply gL2 | apply gL3 | apply gL4); assumption)))
  refine t_pu (c81 _ _ _) ?_
  (repeat (first | (with_reducible first | apply gA | apply gB | apply gC | apply gD | apply gE | apply gF | apply gG | apply gH | apply gI | apply gJ | apply gK | apply gL | apply gM | apply gN | apply gO | apply gP | apply gQ | apply gR) | ((with_reducible apply gT); first | exact rfl | exact True.intro | omega | assumption) | ((with_reducible apply gS2); first | assumption | rfl) | ((with_reducible first | apply gL0 | apply gL1 | apply gL2 | apply gL3 | apply gL4); assumption)))
  refine t_cond (fun e => ?_) (fun e => ?_)
  · exact t_ret ⟨mv, k1, by rw [safe, if_pos e]⟩
  refine t_gr (c88 _ _ _) ?_
  rintro _ h₂ le2 ⟨z0, z1, z2, rfl, hz0, hz1, hz2⟩
  have k2 := k1.le le2.1
  obtain ⟨L, hL1, hL2, hH⟩ := hands99 X0_ok hz0 hz1 hz2 k2.file.f5 k2.rep.papers
  refine t_each (LH.le_refl h₂) hH (fun i vs h' => ∃ out, vs = [.int .i64 0, .int .i64 out] ∧ safe u land item day = safeGo (window u day) ((shown u land item).drop i) out) ⟨2, rfl, by rw [safe, if_neg (by rw [e]; simp)]; rfl⟩ ?_ ?_
  · rintro vs h' hle ⟨out, rfl, hc⟩
    rw [List.drop_eq_nil_of_le (by rw [hL1]; exact Nat.le_refl _), safeGo] at hc
    (repeat (first | (with_reducible first | apply gA | apply gB | apply gC | apply gD | apply gE | apply gF | apply gG | apply gH | apply gI | apply gJ | apply gK | apply gL | apply gM | apply gN | apply gO | apply gP | apply gQ | apply gR) | ((with_reducible apply gT); first | exact rfl | exact True.intro | omega | assumption) | ((with_reducible apply gS2); first | assumption | rfl) | ((with_reducible first | apply gL0 | apply gL1 | apply gL2 | apply gL3 | apply gL4); assumption)))
    exact t_ret ⟨mv.trans (Mv.of_le (LH.le_trans le2 hle)), k2.le hle.1, by rw [hc]⟩
  · rintro i xs vs h' hi hle ⟨out, rfl, hc⟩ Y hY
    obtain ⟨x, q, n, c, hx, rfl, hit⟩ := hL2 i xs hi
    have hx' : (shown u land item)[i]? = some x := hx
    rw [drop_of hx', safeGo] at hc
    unfold paperV
    (repeat (first | (with_reducible first | apply gA | apply gB | apply gC | apply gD | apply gE | apply gF | apply gG | apply gH | apply gI | apply gJ | apply gK | apply gL | apply gM | apply gN | apply gO | apply gP | apply gQ | apply gR) | ((with_reducible apply gT); first | exact rfl | exact True.intro | omega | assumption) | ((with_reducible apply gS2); first | assumption | rfl) | ((with_reducible first | apply gL0 | apply gL1 | apply gL2 | apply gL3 | apply gL4); assumption)))
    refine t_eq2 two30 g30 ?_
    (repeat (first | (with_reducible first | apply gA | apply gB | apply gC | apply gD | apply gE | apply gF | apply gG | apply gH | apply gI | apply gJ | apply gK | apply gL | apply gM | apply gN | apply gO | apply gP | apply gQ | apply gR) | ((with_reducible apply gT); first | exact rfl | exact True.intro | omega | assumption) | ((with_reducible apply gS2); first | assumption | rfl) | ((with_reducible first | apply gL0 | apply gL1 | apply gL2 | apply gL3 | apply gL4); assumption)))
    refine t_cond (fun e2 => ?_) (fun e2 => ?_)
    · refine t_retnE hle ?_
      have e2' : insideB (window u day) x.days = true := e2
      rw [if_pos e2'] at hc
      (repeat (first | (with_reducible first | apply gA | apply gB | apply gC | apply gD | apply gE | apply gF | apply gG | apply gH | apply gI | apply gJ | apply gK | apply gL | apply gM | apply gN | apply gO | apply gP | apply gQ | apply gR) | ((with_reducible apply gT); first | exact rfl | exact True.intro | omega | assumption) | ((with_reducible apply gS2); first | assumption | rfl) | ((with_reducible first | apply gL0 | apply gL1 | apply gL2 | apply gL3 | apply gL4); assumption)))
      exact t_ret ⟨mv.trans (Mv.of_le (LH.le_trans le2 hle)), k2.le hle.1, by rw [hc]⟩
    · have e2' : insideB (window u day) x.days = false := e2
      rw [if_neg (by rw [e2']; simp)] at hc
      refine t_cond (fun e3 => ?_) (fun e3 => ?_)
      · have e3' : meetsB (window u day) x.days = true := e3
        rw [if_pos e3'] at hc
        exact t_againE hle (hY _ _ hle ⟨0, rfl, hc⟩)
      · have e3' : meetsB (window u day) x.days = false := e3
        rw [if_neg (by rw [e3']; simp)] at hc
        exact t_againE hle (hY _ _ hle ⟨out, rfl, hc⟩)
def safeR (u : UseFile) (land item day : Int) : Value :=
  if openF u [landQ u land, itemQ u item, dayQ day] ≠ 0 then .tuple #[.int .i64 0, .int .i64 (openF u [landQ u land, itemQ u item, dayQ day])] else .tuple #[.int .i64 (safe u land item day), .int .i64 0]
theorem c19 {h : LH} {f : FileC} {u : UseFile} (hp : Parts h.get) (hu : FileR h.get f u) (land item day : Int) : Gr Tryd.prog 19 #[fileV f u, .int .i64 land, .int .i64 item, .int .i64 day] h fun r _ => r = safeR u land item day := by
  refine w19 _ _ _ _ _ _ _ _ _ _ _ _ _ _ _ _ X0_ok ?_
  unfold n19
  refine t_gr (c58 u land) ?_
  rintro v0 h₁ le1 ⟨q0, a0⟩
  (repeat (first | (with_reducible first | apply gA | apply gB | apply gC | apply gD | apply gE | apply gF | apply gG | apply gH | apply gI | apply gJ | apply gK | apply gL | apply gM | apply gN | apply gO | apply gP | apply gQ | apply gR) | ((with_reducible apply gT); first | exact rfl | exact True.intro | omega | assumption) | ((with_reducible apply gS2); first | assumption | rfl) | ((with_reducible first | apply gL0 | apply gL1 | apply gL2 | apply gL3 | apply gL4); assumption)))
  refine t_gr (c59 u item) ?_
  rintro v1 h₂ le2 ⟨q1, a1⟩
  (repeat (first | (with_reducible first | apply gA | apply gB | apply gC | apply gD | apply gE | apply gF | apply gG | apply gH | apply gI | apply gJ | apply gK | apply gL | apply gM | apply gN | apply gO | apply gP | apply gQ | apply gR) | ((with_reducible apply gT); first | exact rfl | exact True.intro | omega | assumption) | ((with_reducible apply gS2); first | assumption | rfl) | ((with_reducible first | apply gL0 | apply gL1 | apply gL2 | apply gL3 | apply gL4); assumption)))
  refine t_gr (c54 u day) ?_
  rintro v2 h₃ le3 ⟨q2, a2⟩
  (repeat (first | (with_reducible first | apply gA | apply gB | apply gC | apply gD | apply gE | apply gF | apply gG | apply gH | apply gI | apply gJ | apply gK | apply gL | apply gM | apply gN | apply gO | apply gP | apply gQ | apply gR) | ((with_reducible apply gT); first | exact rfl | exact True.intro | omega | assumption) | ((with_reducible apply gS2); first | assumption | rfl) | ((with_reducible first | apply gL0 | apply gL1 | apply gL2 | apply gL3 | apply gL4); assumption)))
  refine asks3 q0 (a0.le (LH.le_trans le2 le3)) q1 (a1.le le3) q2 a2 fun r h₄ le4 hs => ?_
  (repeat (first | (with_reducible first | apply gA | apply gB | apply gC | apply gD | apply gE | apply gF | apply gG | apply gH | apply gI | apply gJ | apply gK | apply gL | apply gM | apply gN | apply gO | apply gP | apply gQ | apply gR) | ((with_reducible apply gT); first | exact rfl | exact True.intro | omega | assumption) | ((with_reducible apply gS2); first | assumption | rfl) | ((with_reducible first | apply gL0 | apply gL1 | apply gL2 | apply gL3 | apply gL4); assumption)))
  have le14 := LH.le_trans (LH.le_trans (LH.le_trans le1 le2) le3) le4
  refine t_call (c53 (f := f) (hp.le le14.1) (hu.le le14.1) hs) ?_
  rintro v h₅ ⟨le5, ⟨hne, rfl⟩ | ⟨h0, d, m, rfl, hd, hm, k⟩⟩
  · (repeat (first | (with_reducible first | apply gA | apply gB | apply gC | apply gD | apply gE | apply gF | apply gG | apply gH | apply gI | apply gJ | apply gK | apply gL | apply gM | apply gN | apply gO | apply gP | apply gQ | apply gR) | ((with_reducible apply gT); first | exact rfl | exact True.intro | omega | assumption) | ((with_reducible apply gS2); first | assumption | rfl) | ((with_reducible first | apply gL0 | apply gL1 | apply gL2 | apply gL3 | apply gL4); assumption)))
    refine t_cond (fun _ => ?_) (fun e => absurd (by simpa using e) hne)
    refine t_ret ⟨LH.le_trans le14 le5, ?_⟩
    show _ = safeR u land item day
    rw [safeR, if_pos hne]
  · (repeat (first | (with_reducible first | apply gA | apply gB | apply gC | apply gD | apply gE | apply gF | apply gG | apply gH | apply gI | apply gJ | apply gK | apply gL | apply gM | apply gN | apply gO | apply gP | apply gQ | apply gR) | ((with_reducible apply gT); first | exact rfl | exact True.intro | omega | assumption) | ((with_reducible apply gS2); first | assumption | rfl) | ((with_reducible first | apply gL0 | apply gL1 | apply gL2 | apply gL3 | apply gL4); assumption)))
    refine t_cond (fun e => by cases e) (fun _ => ?_)
    have hq := dayQ_zero (open_zero h0 _ (by simp; exact .inr (.inr rfl)))
    refine t_de (c60 k (open_num h0).1 land item day hq) ?_
    rintro _ h₆ mv k6 rfl
    (repeat (first | (with_reducible first | apply gA | apply gB | apply gC | apply gD | apply gE | apply gF | apply gG | apply gH | apply gI | apply gJ | apply gK | apply gL | apply gM | apply gN | apply gO | apply gP | apply gQ | apply gR) | ((with_reducible apply gT); first | exact rfl | exact True.intro | omega | assumption) | ((with_reducible apply gS2); first | assumption | rfl) | ((with_reducible first | apply gL0 | apply gL1 | apply gL2 | apply gL3 | apply gL4); assumption)))
    refine t_ret ⟨LH.le_trans le14 (Mv.le_of le5 hm mv), ?_⟩
    show _ = safeR u land item day
    rw [safeR, if_neg (by simpa using h0)]
def weakR (u : UseFile) (land item : Int) : Value :=
  if openF u [landQ u land, itemQ u item] ≠ 0 then .tuple #[.int .i64 0, .int .i64 (openF u [landQ u land, itemQ u item])] else .tuple #[.int .i64 (weak u land item), .int .i64 0]
theorem c21 {h : LH} {f : FileC} {u : UseFile} (hp : Parts h.get) (hu : FileR h.get f u) (land item : Int) : Gr Tryd.prog 21 #[fileV f u, .int .i64 land, .int .i64 item] h fun r _ => r = weakR u land item := by
  refine w21 _ _ _ _ _ _ _ _ _ _ _ _ _ _ _ X0_ok ?_
  unfold n21
  refine t_gr (c58 u land) ?_
  rintro v0 h₁ le1 ⟨q0, a0⟩
  (repeat (first | (with_reducible first | apply gA | apply gB | apply gC | apply gD | apply gE | apply gF | apply gG | apply gH | apply gI | apply gJ | apply gK | apply gL | apply gM | apply gN | apply gO | apply gP | apply gQ | apply gR) | ((with_reducible apply gT); first | exact rfl | exact True.intro | omega | assumption) | ((with_reducible apply gS2); first | assumption | rfl) | ((with_reducible first | apply gL0 | apply gL1 | apply gL2 | apply gL3 | apply gL4); assumption)))
  refine t_gr (c59 u item) ?_
  rintro v1 h₂ le2 ⟨q1, a1⟩
  (repeat (first | (with_reducible first | apply gA | apply gB | apply gC | apply gD | apply gE | apply gF | apply gG | apply gH | apply gI | apply gJ | apply gK | apply gL | apply gM | apply gN | apply gO | apply gP | apply gQ | apply gR) | ((with_reducible apply gT); first | exact rfl | exact True.intro | omega | assumption) | ((with_reducible apply gS2); first | assumption | rfl) | ((with_reducible first | apply gL0 | apply gL1 | apply gL2 | apply gL3 | apply gL4); assumption)))
  refine asks2 q0 (a0.le le2) q1 a1 fun r h₄ le4 hs => ?_
  (repeat (first | (with_reducible first | apply gA | apply gB | apply gC | apply gD | apply gE | apply gF | apply gG | apply gH | apply gI | apply gJ | apply gK | apply gL | apply gM | apply gN | apply gO | apply gP | apply gQ | apply gR) | ((with_reducible apply gT); first | exact rfl | exact True.intro | omega | assumption) | ((with_reducible apply gS2); first | assumption | rfl) | ((with_reducible first | apply gL0 | apply gL1 | apply gL2 | apply gL3 | apply gL4); assumption)))
  have le14 := LH.le_trans (LH.le_trans le1 le2) le4
  refine t_call (c53 (f := f) (hp.le le14.1) (hu.le le14.1) hs) ?_
  rintro v h₅ ⟨le5, ⟨hne, rfl⟩ | ⟨h0, d, m, rfl, hd, hm, k⟩⟩
  · (repeat (first | (with_reducible first | apply gA | apply gB | apply gC | apply gD | apply gE | apply gF | apply gG | apply gH | apply gI | apply gJ | apply gK | apply gL | apply gM | apply gN | apply gO | apply gP | apply gQ | apply gR) | ((with_reducible apply gT); first | exact rfl | exact True.intro | omega | assumption) | ((with_reducible apply gS2); first | assumption | rfl) | ((with_reducible first | apply gL0 | apply gL1 | apply gL2 | apply gL3 | apply gL4); assumption)))
    refine t_cond (fun _ => ?_) (fun e => absurd (by simpa using e) hne)
    refine t_ret ⟨LH.le_trans le14 le5, ?_⟩
    show _ = weakR u land item
    rw [weakR, if_pos hne]
  · (repeat (first | (with_reducible first | apply gA | apply gB | apply gC | apply gD | apply gE | apply gF | apply gG | apply gH | apply gI | apply gJ | apply gK | apply gL | apply gM | apply gN | apply gO | apply gP | apply gQ | apply gR) | ((with_reducible apply gT); first | exact rfl | exact True.intro | omega | assumption) | ((with_reducible apply gS2); first | assumption | rfl) | ((with_reducible first | apply gL0 | apply gL1 | apply gL2 | apply gL3 | apply gL4); assumption)))
    refine t_cond (fun e => by cases e) (fun _ => ?_)
    have hnum := (open_num h0).1
    have hfrom := (num_ok hnum).2.2.1
    refine t_loop (fun mm vs h' => Mv m h₅ h' ∧ Desk h'.get d m f u ∧ ∃ x : Int, vs = [.int .i64 0, .int .i64 0, .int .i64 x] ∧ 0 ≤ x ∧ x ≤ 2001 ∧ mm = (2001 - x).toNat ∧ weak u land item = weakGo (fun d => decide (safe u land item d ≠ 1)) (2001 - x).toNat x)
      ⟨Mv.refl, k, u.from_, rfl, by omega, by omega, rfl, rfl⟩ ?_
    rintro Y mm vs h₆ hY ⟨mv, k6, x, rfl, hx0, hx1, rfl, hc⟩
    (repeat (first | (with_reducible first | apply gA | apply gB | apply gC | apply gD | apply gE | apply gF | apply gG | apply gH | apply gI | apply gJ | apply gK | apply gL | apply gM | apply gN | apply gO | apply gP | apply gQ | apply gR) | ((with_reducible apply gT); first | exact rfl | exact True.intro | omega | assumption) | ((with_reducible apply gS2); first | assumption | rfl) | ((with_reducible first | apply gL0 | apply gL1 | apply gL2 | apply gL3 | apply gL4); assumption)))
    refine t_if (fun e1 => ?_) (fun e1 => ?_)
    · refine t_de (c60 k6 hnum land item x ⟨hx0, e1⟩) ?_
      rintro _ h₇ mv7 k7 rfl
      (repeat (first | (with_reducible first | apply gA | apply gB | apply gC | apply gD | apply gE | apply gF | apply gG | apply gH | apply gI | apply gJ | apply gK | apply gL | apply gM | apply gN | apply gO | apply gP | apply gQ | apply gR) | ((with_reducible apply gT); first | exact rfl | exact True.intro | omega | assumption) | ((with_reducible apply gS2); first | assumption | rfl) | ((with_reducible first | apply gL0 | apply gL1 | apply gL2 | apply gL3 | apply gL4); assumption)))
      obtain ⟨y, hy⟩ : ∃ y, (2001 - x).toNat = y + 1 := ⟨(2000 - x).toNat, by omega⟩
      have hy' : (2001 - (x + 1)).toNat = y := by omega
      rw [hy, weakGo] at hc
      refine t_cond (fun e2 => ?_) (fun e2 => ?_)
      · (repeat (first | (with_reducible first | apply gA | apply gB | apply gC | apply gD | apply gE | apply gF | apply gG | apply gH | apply gI | apply gJ | apply gK | apply gL | apply gM | apply gN | apply gO | apply gP | apply gQ | apply gR) | ((with_reducible apply gT); first | exact rfl | exact True.intro | omega | assumption) | ((with_reducible apply gS2); first | assumption | rfl) | ((with_reducible first | apply gL0 | apply gL1 | apply gL2 | apply gL3 | apply gL4); assumption)))
        refine t_ret ⟨LH.le_trans le14 (Mv.le_of le5 hm (mv.trans mv7)), ?_⟩
        show _ = weakR u land item
        rw [weakR, if_neg (by simpa using h0), hc, if_pos (by simpa using e2)]
      · rw [if_neg (by simpa using e2)] at hc
        refine t_again (hY (2001 - (x + 1)).toNat _ _ (by omega) ⟨mv.trans mv7, k7, x + 1, ?_, by omega, by omega, rfl, by rw [hy']; exact hc⟩)
        rw [wrap_id (by omega) (by omega)]
    · (repeat (first | (with_reducible first | apply gA | apply gB | apply gC | apply gD | apply gE | apply gF | apply gG | apply gH | apply gI | apply gJ | apply gK | apply gL | apply gM | apply gN | apply gO | apply gP | apply gQ | apply gR) | ((with_reducible apply gT); first | exact rfl | exact True.intro | omega | assumption) | ((with_reducible apply gS2); first | assumption | rfl) | ((with_reducible first | apply gL0 | apply gL1 | apply gL2 | apply gL3 | apply gL4); assumption)))
      have h01 : (2001 - x).toNat = 0 := by omega
      rw [h01, weakGo] at hc
      refine t_ret ⟨LH.le_trans le14 (Mv.le_of le5 hm mv), ?_⟩
      show _ = weakR u land item
      rw [weakR, if_neg (by simpa using h0), hc]
end Go.Proofs.YtibibhojkfapnaaDoor
end
section
namespace Go.Proofs.YtibibhojkfapnaaDoor
open Go Go.TM Go.Proofs
attribute [local irreducible] T.wp CV FWK
theorem c41 {h : LH} {p : Option Addr} {n c : Nat} {l : List Int} (hl : Sl IntE 1 h.get p n l) (v : Int) : Pu Tryd.prog 41 #[.slice p n c, .int .i64 v] h (.bool (l.contains v)) := by
  refine w41 _ _ _ _ X0_ok ?_
  unfold n41
  have hn := hl.1
  have hbn := hl.2.1
  refine t_loop (fun mm vs h' => h = h' ∧ ∃ i : Nat, vs = [.bool false, .int .i64 i] ∧ i ≤ n ∧ mm = n - i ∧ l.contains v = (l.drop i).contains v) ⟨rfl, 0, rfl, Nat.zero_le _, rfl, rfl⟩ ?_
  rintro Y mm vs _ hY ⟨rfl, i, rfl, hi, rfl, hc⟩
  (repeat (first | (with_reducible first | apply gA | apply gB | apply gC | apply gD | apply gE | apply gF | apply gG | apply gH | apply gI | apply gJ | apply gK | apply gL | apply gM | apply gN | apply gO | apply gP | apply gQ | apply gR) | ((with_reducible apply gT); first | exact rfl | exact True.intro | omega | assumption) | ((with_reducible apply gS2); first | assumption | rfl) | ((with_reducible first | apply gL0 | apply gL1 | apply gL2 | apply gL3 | apply gL4); assumption)))
  refine t_if (fun e => ?_) (fun e => ?_)
  · obtain ⟨x, a, hx, ha, e1⟩ := hl.at (i := i) (by omega)
    unfold IntE at e1
    rw [drop_of hx, List.contains_cons] at hc
    (repeat (first | (with_reducible first | apply gA | apply gB | apply gC | apply gD | apply gE | apply gF | apply gG | apply gH | apply gI | apply gJ | apply gK | apply gL | apply gM | apply gN | apply gO | apply gP | apply gQ | apply gR) | ((with_reducible apply gT); first | exact rfl | exact True.intro | omega | assumption) | ((with_reducible apply gS2); first | assumption | rfl) | ((with_reducible first | apply gL0 | apply gL1 | apply gL2 | apply gL3 | apply gL4); assumption)))
    refine t_cond (fun b => ?_) (fun b => ?_)
    · (repeat (first | (with_reducible first | apply gA | apply gB | apply gC | apply gD | apply gE | apply gF | apply gG | apply gH | apply gI | apply gJ | apply gK | apply gL | apply gM | apply gN | apply gO | apply gP | apply gQ | apply gR) | ((with_reducible apply gT); first | exact rfl | exact True.intro | omega | assumption) | ((with_reducible apply gS2); first | assumption | rfl) | ((with_reducible first | apply gL0 | apply gL1 | apply gL2 | apply gL3 | apply gL4); assumption)))
      have b' : x = v := by simpa using b
      exact t_ret ⟨by rw [hc, b']; simp, rfl⟩
    · have b' : (v == x) = false := by simp at b ⊢; omega
      refine t_again (hY (n - (i + 1)) _ _ (by omega) ⟨rfl, i + 1, ?_, by omega, rfl, by rw [hc, b', Bool.false_or]⟩)
      rw [wrap_id (by omega) (by omega)]; rfl
  · (repeat (first | (with_reducible first | apply gA | apply gB | apply gC | apply gD | apply gE | apply gF | apply gG | apply gH | apply gI | apply gJ | apply gK | apply gL | apply gM | apply gN | apply gO | apply gP | apply gQ | apply gR) | ((with_reducible apply gT); first | exact rfl | exact True.intro | omega | assumption) | ((with_reducible apply gS2); first | assumption | rfl) | ((with_reducible first | apply gL0 | apply gL1 | apply gL2 | apply gL3 | apply gL4); assumption)))
    rw [List.drop_eq_nil_of_le (by omega)] at hc
    exact t_ret ⟨by rw [hc]; rfl, rfl⟩
theorem c90 {h : LH} {q : Option Addr} {m c : Nat} {x : Paper} (hx : Sl IntE 1 h.get q m x.items) (land item : Int) : Pu Tryd.prog 90 #[paperV x q m c, .int .i64 land, .int .i64 item] h (.bool (showsB land item x)) := by
  refine w90 _ _ _ _ _ _ _ _ X0_ok ?_
  unfold n90
  refine t_cond (fun b => ?_) (fun b => ?_)
  · refine t_pu (c41 hx _) ?_
    (repeat (first | (with_reducible first | apply gA | apply gB | apply gC | apply gD | apply gE | apply gF | apply gG | apply gH | apply gI | apply gJ | apply gK | apply gL | apply gM | apply gN | apply gO | apply gP | apply gQ | apply gR) | ((with_reducible apply gT); first | exact rfl | exact True.intro | omega | assumption) | ((with_reducible apply gS2); first | assumption | rfl) | ((with_reducible first | apply gL0 | apply gL1 | apply gL2 | apply gL3 | apply gL4); assumption)))
    exact t_ret ⟨by rw [showsB, b]; rfl, rfl⟩
  · exact t_ret ⟨by rw [showsB, b]; rfl, rfl⟩
theorem firstDay_le (c : Int → Bool) (idle : Int) : ∀ (d : Nat) (n : Int), 0 ≤ firstDay c idle d n ∧ firstDay c idle d n ≤ d := by
  intro d
  induction d with
  | zero => intro n; simp [firstDay]
  | succ d ih =>
    intro n
    by_cases e : (if c ((d + 1 : Nat) : Int) then n + 1 else n) ≥ idle
    · rw [firstDay_stop rfl e]; omega
    · rw [firstDay_go rfl e]
      have := ih (if c ((d + 1 : Nat) : Int) then n + 1 else n)
      omega
theorem window_le {u : UseFile} {day : Int} (hd : 0 ≤ day) : 0 ≤ (window u day).first ∧ (window u day).first ≤ day := by
  have := firstDay_le (counts u) u.idle day.toNat 0
  unfold window
  simp only
  omega
theorem mx_le (a b c : Int) : (mx a b ≤ c) ↔ a ≤ c ∧ b ≤ c := by unfold mx; split <;> omega
theorem le_mn (a b c : Int) : (c ≤ mn a b) ↔ c ≤ a ∧ c ≤ b := by unfold mn; split <;> omega
theorem inside_iff (w x : Span) : insideB w x = true ↔ w.first ≤ x.first ∧ x.last ≤ w.last := by
  unfold insideB mx mn
  rw [decide_eq_true_eq]
  constructor
  · rintro ⟨h1, h2⟩; split at h1 <;> split at h2 <;> omega
  · rintro ⟨h1, h2⟩; constructor
    · split <;> omega
    · split <;> omega
theorem meets_iff {w x : Span} (hw : w.first ≤ w.last) (hx : x.first ≤ x.last) : meetsB w x = true ↔ x.first ≤ w.last ∧ w.first ≤ x.last := by
  unfold meetsB
  rw [decide_eq_true_eq, mx_le, le_mn, le_mn]
  omega
theorem c62 {h : LH} {f : FileC} {u : UseFile} (hu : FileR h.get f u) (hck : checkF u = 0) (land item day : Int) (hd : 0 ≤ day ∧ day ≤ 2000) : Pu Tryd.prog 62 #[fileV f u, .int .i64 land, .int .i64 item, .int .i64 day] h (.int .i64 (safe u land item day)) := by
  refine w62 _ _ _ _ _ _ _ _ _ _ _ _ _ _ _ _ X0_ok ?_
  unfold n62
  refine t_pu (c57 hu day hd.2) ?_
  (repeat (first | (with_reducible first | apply gA | apply gB | apply gC | apply gD | apply gE | apply gF | apply gG | apply gH | apply gI | apply gJ | apply gK | apply gL | apply gM | apply gN | apply gO | apply gP | apply gQ | apply gR) | ((with_reducible apply gT); first | exact rfl | exact True.intro | omega | assumption) | ((with_reducible apply gS2); first | assumption | rfl) | ((with_reducible first | apply gL0 | apply gL1 | apply gL2 | apply gL3 | apply gL4); assumption)))
  refine t_pu (c89 _ _ _) ?_
  (repeat (first | (with_reducible first | apply gA | apply gB | apply gC | apply gD | apply gE | apply gF | apply gG | apply gH | apply gI | apply gJ | apply gK | apply gL | apply gM | apply gN | apply gO | apply gP | apply gQ | apply gR) | ((with_reducible apply gT); first | exact rfl | exact True.intro | omega | assumption) | ((with_reducible apply gS2); first | assumption | rfl) | ((with_reducible first | apply gL0 | apply gL1 | apply gL2 | apply gL3 | apply gL4); assumption)))
  refine t_cond (fun b => ?_) (fun b => ?_)
  · exact t_ret ⟨by rw [safe, if_pos b], rfl⟩
  have hs : safe u land item day = safeGo (window u day) (shown u land item) 2 := by rw [safe, if_neg (by rw [b]; simp)]
  have hp := hu.papers
  have hn := hp.1
  have hbn := hp.2.1
  have hpp := (check_papers hck).2
  have hwd : (window u day).last = day := rfl
  have hwl : (window u day).first ≤ (window u day).last := (window_le hd.1).2
  refine t_loop (fun mm vs h' => h = h' ∧ ∃ (i : Nat) (out : Int), vs = [.int .i64 0, .int .i64 out, .int .i64 i] ∧ i ≤ f.n5 ∧ mm = f.n5 - i ∧ safe u land item day = safeGo (window u day) ((u.papers.drop i).filter (showsB land item)) out) ⟨rfl, 0, 2, rfl, Nat.zero_le _, rfl, hs⟩ ?_
  rintro Y mm vs _ hY ⟨rfl, i, out, rfl, hi, rfl, hc⟩
  (repeat (first | (with_reducible first | apply gA | apply gB | apply gC | apply gD | apply gE | apply gF | apply gG | apply gH | apply gI | apply gJ | apply gK | apply gL | apply gM | apply gN | apply gO | apply gP | apply gQ | apply gR) | ((with_reducible apply gT); first | exact rfl | exact True.intro | omega | assumption) | ((with_reducible apply gS2); first | assumption | rfl) | ((with_reducible first | apply gL0 | apply gL1 | apply gL2 | apply gL3 | apply gL4); assumption)))
  refine t_if (fun e => ?_) (fun e => ?_)
  · obtain ⟨x, a, hx, ha, e1, e2, e3, q, m, c, e4, e5⟩ := hp.at (i := i) (by omega)
    have hxs := (hpp x (List.mem_of_getElem? hx)).2.1
    rw [drop_of hx, List.filter_cons] at hc
    (repeat (first | (with_reducible first | apply gA | apply gB | apply gC | apply gD | apply gE | apply gF | apply gG | apply gH | apply gI | apply gJ | apply gK | apply gL | apply gM | apply gN | apply gO | apply gP | apply gQ | apply gR) | ((with_reducible apply gT); first | exact rfl | exact True.intro | omega | assumption) | ((with_reducible apply gS2); first | assumption | rfl) | ((with_reducible first | apply gL0 | apply gL1 | apply gL2 | apply gL3 | apply gL4); assumption)))
    refine t_pu (c90 (x := x) e5 land item) ?_
    (repeat (first | (with_reducible first | apply gA | apply gB | apply gC | apply gD | apply gE | apply gF | apply gG | apply gH | apply gI | apply gJ | apply gK | apply gL | apply gM | apply gN | apply gO | apply gP | apply gQ | apply gR) | ((with_reducible apply gT); first | exact rfl | exact True.intro | omega | assumption) | ((with_reducible apply gS2); first | assumption | rfl) | ((with_reducible first | apply gL0 | apply gL1 | apply gL2 | apply gL3 | apply gL4); assumption)))
    have next : ∀ out', safe u land item day = safeGo (window u day) ((u.papers.drop (i + 1)).filter (showsB land item)) out' → Y [.int .i64 0, .int .i64 out', .int .i64 (IntKind.wrap .i64 ((i : Int) + 1))] h := by
      intro out' hs'
      refine hY (f.n5 - (i + 1)) _ _ (by omega) ⟨rfl, i + 1, out', ?_, by omega, rfl, hs'⟩
      rw [wrap_id (by omega) (by omega)]; rfl
    refine t_cond (fun b => ?_) (fun b => ?_)
    · have b' : showsB land item x = false := by simpa using b
      rw [if_neg (by rw [b']; simp)] at hc
      exact t_again (next out hc)
    have b' : showsB land item x = true := by simpa using b
    rw [if_pos b', safeGo] at hc
    refine t_blk (fun vs h' => vs = [.int .i64 0] ∧ h = h' ∧ insideB (window u day) x.days = false) ?_ ?_
    · have no : ¬ ((window u day).first ≤ x.days.first ∧ x.days.last ≤ day) → insideB (window u day) x.days = false := by
        intro hh
        cases hi : insideB (window u day) x.days with
        | false => rfl
        | true => exact absurd ((inside_iff _ _).1 hi) (by rw [hwd]; exact hh)
      refine t_if (fun e6 => ?_) (fun e6 => ?_)
      · refine t_if (fun e7 => ?_) (fun e7 => ?_)
        · (repeat (first | (with_reducible first | apply gA | apply gB | apply gC | apply gD | apply gE | apply gF | apply gG | apply gH | apply gI | apply gJ | apply gK | apply gL | apply gM | apply gN | apply gO | apply gP | apply gQ | apply gR) | ((with_reducible apply gT); first | exact rfl | exact True.intro | omega | assumption) | ((with_reducible apply gS2); first | assumption | rfl) | ((with_reducible first | apply gL0 | apply gL1 | apply gL2 | apply gL3 | apply gL4); assumption)))
          rw [if_pos ((inside_iff _ _).2 ⟨e6, by rw [hwd]; exact e7⟩)] at hc
          exact t_ret ⟨by rw [hc], rfl⟩
        · exact t_again ⟨rfl, rfl, no (by omega)⟩
      · exact t_again ⟨rfl, rfl, no (by omega)⟩
    rintro vs _ ⟨rfl, rfl, hin⟩
    rw [if_neg (by rw [hin]; simp)] at hc
    (repeat (first | (with_reducible first | apply gA | apply gB | apply gC | apply gD | apply gE | apply gF | apply gG | apply gH | apply gI | apply gJ | apply gK | apply gL | apply gM | apply gN | apply gO | apply gP | apply gQ | apply gR) | ((with_reducible apply gT); first | exact rfl | exact True.intro | omega | assumption) | ((with_reducible apply gS2); first | assumption | rfl) | ((with_reducible first | apply gL0 | apply gL1 | apply gL2 | apply gL3 | apply gL4); assumption)))
    have no : ¬ (x.days.first ≤ day ∧ (window u day).first ≤ x.days.last) → safe u land item day = safeGo (window u day) ((u.papers.drop (i + 1)).filter (showsB land item)) out := by
      intro hh
      rw [if_neg (by rw [meets_iff hwl hxs, hwd]; exact hh)] at hc
      exact hc
    refine t_if (fun e6 => ?_) (fun e6 => ?_)
    · refine t_if (fun e7 => ?_) (fun e7 => ?_)
      · rw [if_pos ((meets_iff hwl hxs).2 ⟨e6, e7⟩)] at hc
        exact t_again (next 0 hc)
      · exact t_again (next out (no (by omega)))
    · exact t_again (next out (no (by omega)))
  · (repeat (first | (with_reducible first | apply gA | apply gB | apply gC | apply gD | apply gE | apply gF | apply gG | apply gH | apply gI | apply gJ | apply gK | apply gL | apply gM | apply gN | apply gO | apply gP | apply gQ | apply gR) | ((with_reducible apply gT); first | exact rfl | exact True.intro | omega | assumption) | ((with_reducible apply gS2); first | assumption | rfl) | ((with_reducible first | apply gL0 | apply gL1 | apply gL2 | apply gL3 | apply gL4); assumption)))
    rw [List.drop_eq_nil_of_le (by omega)] at hc
    exact t_ret ⟨by rw [hc]; rfl, rfl⟩
end Go.Proofs.YtibibhojkfapnaaDoor
end
section
namespace Go.TM
open Go Go.Conc
theorem OwnRow.le {el : TypeId} {k : Nat} {h h' : Cells} {p : Option Addr} {n c : Nat} {vs : List Value} (hl : h.le h') (o : OwnRow el k h p n c vs) : OwnRow el k h' p n c vs := by
  obtain ⟨h1, h2 | ⟨r, cs, e1, e2, e3, e4, e5⟩⟩ := o
  · exact ⟨h1, .inl h2⟩
  · exact ⟨h1, .inr ⟨r, cs, e1, hl _ _ e2, e3, e4, e5⟩⟩
def NewIn (h₀ : Cells) (p : Option Addr) : Prop := ∀ a, p = some a → h₀ a.block = none
theorem NewIn.none {h₀ : Cells} : NewIn h₀ none := fun a h => by cases h
theorem after_append {h₀ h h' : Cells} {p p' : Option Addr} (hle : h₀.le h) (hp : NewIn h₀ p) (hk : KeptBut p h h') (hp' : p' = p ∨ ∃ r, p' = some ⟨r, 0, none⟩ ∧ h r = none) : h₀.le h' ∧ NewIn h₀ p' := by
  refine ⟨fun r x hr => hk r x (hle r x hr) fun a ha e => ?_, ?_⟩
  · have := hp a ha; rw [e, hr] at this; cases this
  · rcases hp' with rfl | ⟨r, rfl, hr⟩
    · exact hp
    · intro a ha
      cases ha
      cases hx : h₀ r with
      | none => rfl
      | some x => rw [hle _ _ hx] at hr; cases hr
inductive Rows {α : Type} (Enc : α → List Value → Prop) : List Value → List α → Prop
  | nil : Rows Enc [] []
  | snoc {vs : List Value} {l : List α} {x : α} {ws : List Value} : Rows Enc vs l → Enc x ws → Rows Enc (vs ++ ws) (l ++ [x])
theorem Rows.len {α : Type} {Enc : α → List Value → Prop} {k : Nat} (hk : ∀ x ws, Enc x ws → ws.length = k) {vs : List Value} {l : List α} (r : Rows Enc vs l) : vs.length = l.length * k := by
  induction r with
  | nil => simp
  | snoc r he ih => simp [ih, hk _ _ he, Nat.add_mul]
theorem Rows.at {α : Type} {Enc : α → List Value → Prop} {k : Nat} (hk : ∀ x ws, Enc x ws → ws.length = k) {vs : List Value} {l : List α} (r : Rows Enc vs l) : ∀ (i : Nat) x, l[i]? = some x → ∃ ws, Enc x ws ∧ ∀ (j : Nat) w, ws[j]? = some w → vs[i * k + j]? = some w := by
  induction r with
  | nil => intro i x h; simp at h
  | snoc r he ih =>
    rename_i vs l y ws
    intro i x hi
    have hlen := r.len hk
    by_cases hlt : i < l.length
    · rw [List.getElem?_append_left hlt] at hi
      obtain ⟨us, h1, h2⟩ := ih i x hi
      refine ⟨us, h1, fun j w hj => ?_⟩
      have hjl : j < us.length := (List.getElem?_eq_some_iff.1 hj).1
      rw [hk _ _ h1] at hjl
      have : i * k + j < vs.length := by
        rw [hlen]
        calc i * k + j < i * k + k := by omega
          _ = (i + 1) * k := by rw [Nat.add_mul]; omega
          _ ≤ l.length * k := Nat.mul_le_mul_right _ hlt
      rw [List.getElem?_append_left this]; exact h2 j w hj
    · have hil : i = l.length := by
        have := (List.getElem?_eq_some_iff.1 hi).1
        simp at this; omega
      subst hil
      rw [List.getElem?_append_right (Nat.le_refl _), Nat.sub_self] at hi
      simp at hi; subst hi
      refine ⟨ws, he, fun j w hj => ?_⟩
      rw [List.getElem?_append_right (by omega), hlen]
      rw [show l.length * k + j - l.length * k = j by omega]; exact hj
theorem Rows.sl {α : Type} {E : Cells → Addr → α → Prop} {Enc : α → List Value → Prop} {el : TypeId} {k : Nat} {h' : Cells} {p : Option Addr} {n c : Nat} {vs : List Value} {l : List α} (hk : ∀ x ws, Enc x ws → ws.length = k) (hpos : 0 < k) (hE : ∀ a x ws, Enc x ws → (∀ (j : Nat) w, ws[j]? = some w → h'.cell? (a.add j) = some w) → E h' a x)
    (own : OwnRow el k h' p n c vs) (r : Rows Enc vs l) (hb : l.length < 4611686018427387904) : Sl E k h' p n l := by
  have hlen := r.len hk
  obtain ⟨h1, h2⟩ := own
  have hn : n = l.length := Nat.eq_of_mul_eq_mul_right hpos (h1.symm.trans hlen)
  refine ⟨hn, hb, fun i x hx => ?_⟩
  obtain ⟨ws, e1, e2⟩ := r.at hk i x hx
  rcases h2 with ⟨rfl, rfl, rfl⟩ | ⟨b, cs, rfl, hr, hcs, hnc, hv⟩
  · have : l = [] := List.eq_nil_of_length_eq_zero hn.symm
    subst this; simp at hx
  · refine ⟨_, rfl, hE _ _ _ e1 fun j w hj => ?_⟩
    rw [add_plain, add_plain, Nat.zero_add]
    simp only [Cells.cell?, hr, Option.isSome_none, Bool.false_eq_true, if_false]
    exact hv _ _ (e2 j w hj)
def IntEnc (x : Int) (ws : List Value) : Prop := ws = [.int .i64 x]
theorem IntEnc.len : ∀ x ws, IntEnc x ws → ws.length = 1 := by rintro x _ rfl; rfl
theorem IntEnc.e {h' : Cells} : ∀ a x ws, IntEnc x ws → (∀ (j : Nat) w, ws[j]? = some w → h'.cell? (a.add j) = some w) → IntE h' a x := by
  rintro a x _ rfl hc
  exact hc 0 _ rfl
structure Growing {α : Type} (Enc : α → List Value → Prop) (el : TypeId) (k : Nat) (h₀ h : Cells) (p : Option Addr) (n c : Nat) (l : List α) : Prop where
  row : ∃ vs, OwnRow el k h p n c vs ∧ Rows Enc vs l
  new : NewIn h₀ p
theorem Growing.nil {α : Type} {Enc : α → List Value → Prop} {el : TypeId} {k : Nat} {h₀ h : Cells} : Growing Enc el k h₀ h none 0 0 [] := ⟨⟨[], OwnRow.nil, .nil⟩, NewIn.none⟩
theorem Growing.le {α : Type} {Enc : α → List Value → Prop} {el : TypeId} {k : Nat} {h₀ h h' : Cells} {p : Option Addr} {n c : Nat} {l : List α} (hl : h.le h') (g : Growing Enc el k h₀ h p n c l) : Growing Enc el k h₀ h' p n c l := by
  obtain ⟨vs, h1, h2⟩ := g.row
  exact ⟨⟨vs, h1.le hl, h2⟩, g.new⟩
theorem Growing.mv {α : Type} {Enc : α → List Value → Prop} {el : TypeId} {k m : Nat} {h₀ : Cells} {h h' : LH} {p : Option Addr} {n c : Nat} {l : List α} (hm : ∃ es c, h.get m = some (true, .map es c)) (hl : Mv m h h') (g : Growing Enc el k h₀ h.get p n c l) : Growing Enc el k h₀ h'.get p n c l := by
  obtain ⟨vs, ⟨h1, h2⟩, h3⟩ := g.row
  refine ⟨⟨vs, ⟨h1, ?_⟩, h3⟩, g.new⟩
  rcases h2 with h2 | ⟨r, cs, e1, e2, e3⟩
  · exact .inl h2
  · refine .inr ⟨r, cs, e1, hl.keep _ _ ?_ e2, e3⟩
    rintro rfl
    obtain ⟨es, c', hm⟩ := hm
    rw [hm] at e2; cases e2
theorem Growing.count {α : Type} {Enc : α → List Value → Prop} {el : TypeId} {k : Nat} {h₀ h : Cells} {p : Option Addr} {n c : Nat} {l : List α} (hk : ∀ x ws, Enc x ws → ws.length = k) (hpos : 0 < k) (g : Growing Enc el k h₀ h p n c l) : n = l.length := by
  obtain ⟨vs, h1, h2⟩ := g.row
  exact Nat.eq_of_mul_eq_mul_right hpos (h1.1.symm.trans (h2.len hk))
theorem Growing.sl {α : Type} {E : Cells → Addr → α → Prop} {Enc : α → List Value → Prop} {el : TypeId} {k : Nat} {h₀ h : Cells} {p : Option Addr} {n c : Nat} {l : List α} (hk : ∀ x ws, Enc x ws → ws.length = k) (hpos : 0 < k) (hE : ∀ a x ws, Enc x ws → (∀ (j : Nat) w, ws[j]? = some w → h.cell? (a.add j) = some w) → E h a x)
    (g : Growing Enc el k h₀ h p n c l) (hb : l.length < 4611686018427387904) : Sl E k h p n l := by
  obtain ⟨vs, h1, h2⟩ := g.row
  exact h2.sl hk hpos hE h1 hb
section
variable {P : Program} {X : XP} {Q : Leaf → LH → Prop}
theorem t_grow {α : Type} {Enc : α → List Value → Prop} {h h₀ : LH} {k : Value → T} {ts : Array TypeId} {ty sT xT el xe : TypeId} {s by_ : Nat} {z : Value} {p : Option Addr} {n c mc : Nat} {b : Addr} {l : List α} {x : α} {ws : List Value} (h0 : ts[0]? = some sT) (h1 : ts[1]? = some xT) (hu : P.underlying sT = some (.slice el)) (hx : P.underlying xT = some (.slice xe))
    (hi : (P.info? el).map (fun i => (i.size, i.bytes, i.zero)) = some (s, by_, some z)) (hsz : z.cells.size = s) (hb : by_ ≤ 1024) (hn : n + 1 ≤ 2 ^ 30) (g : Growing Enc el s h₀.get h.get p n c l) (hle : h₀.le h) (he : Enc x ws) (hl : ws.length = s) (hc : ∀ (j : Nat) v, ws[j]? = some v → h.get.cell? (b.add j) = some v) (one : ∀ v ∈ ws, isOne v = true)
    (hk : ∀ p' c' h', h₀.le h' → (∀ r y, (∀ a, p = some a → a.block ≠ r) → h.get r = some y → h'.get r = some y) → Growing Enc el s h₀.get h'.get p' (n + 1) c' (l ++ [x]) → (k (.slice p' (n + 1) c')).wp X P Q h') : (T.sem false (Builtin.append_ ts ty #[.slice p n c, .slice (some b) 1 mc]) k).wp X P Q h := by
  obtain ⟨vs, o, r⟩ := g.row
  refine t_append h0 h1 hu hx hi hsz hb hn o (by rw [hl, Nat.one_mul]) hc one (by omega) fun p' c' h' a b c => ?_
  obtain ⟨l1, l2⟩ := after_append hle.1 g.new b c
  refine hk p' c' _ ⟨l1, hle.2⟩ (fun r y hr hy => b r y hy hr) ⟨⟨vs ++ ws, a, .snoc r he⟩, l2⟩
end
end Go.TM
end
section
namespace Go.Proofs.YtibibhojkfapnaaDoor
open Go Go.TM Go.Proofs
attribute [local irreducible] T.wp CV FWK
def ReqEnc (h₀ : Cells) (x : Request) (ws : List Value) : Prop := ∃ q m c, ws = [.int .i64 x.day, .int .i64 x.land, .slice q m c] ∧ Sl IntE 1 h₀ q m x.items
theorem ReqEnc.len {h₀ : Cells} : ∀ x ws, ReqEnc h₀ x ws → ws.length = 3 := by rintro x _ ⟨q, m, c, rfl, _⟩; rfl
theorem ReqEnc.e {h₀ h' : Cells} (hr : Rd h₀ h') : ∀ a x ws, ReqEnc h₀ x ws → (∀ (j : Nat) w, ws[j]? = some w → h'.cell? (a.add j) = some w) → RequestE h' a x := by
  rintro a x _ ⟨q, m, c, rfl, hs⟩ hc
  exact ⟨hc 0 _ rfl, hc 1 _ rfl, q, m, c, hc 2 _ rfl, hs.rd IntE.grow hr⟩
theorem c101 {h : LH} {d m : Nat} {f : FileC} {u : UseFile} (k : Desk h.get d m f u) (hck : checkF u = 0) (land item day : Int) :
    Gr Tryd.prog 101 #[.pointer (some ⟨d, 0, none⟩), .int .i64 land, .int .i64 item, .int .i64 day] h fun r h' => ∃ p n c, r = .slice p n c ∧ Sl RequestE 3 h'.get p n (against u land item day) := by
  refine w101 _ _ _ _ X0_ok ?_
  unfold n101
  obtain ⟨f0, f1, f2, f3, f4, f5, f6⟩ := k.file
  have hlen := (check_requests hck).1
  have hn6 := k.rep.requests.1
  (repeat (first | (with_reducible first | apply gA | apply gB | apply gC | apply gD | apply gE | apply gF | apply gG | apply gH | apply gI | apply gJ | apply gK | apply gL | apply gM | apply gN | apply gO | apply gP | apply gQ | apply gR) | ((with_reducible apply gT); first | exact rfl | exact True.intro | omega | assumption) | ((with_reducible apply gS2); first | assumption | rfl) | ((with_reducible first | apply gL0 | apply gL1 | apply gL2 | apply gL3 | apply gL4); assumption)))
  refine t_loop (fun mm vs h' => h.le h' ∧ ∃ (i : Nat) (p : Option Addr) (n c : Nat) (rs : List Request), vs = [.slice p n c, .int .i64 i] ∧ i ≤ f.n6 ∧ mm = f.n6 - i ∧ Growing (ReqEnc h.get) 64 3 h.get h'.get p n c rs ∧ rs.length ≤ i ∧ against u land item day = rs ++ (u.requests.drop i).filter (agB land item day))
    ⟨LH.le_refl _, 0, none, 0, 0, [], rfl, Nat.zero_le _, rfl, Growing.nil, Nat.le_refl _, rfl⟩ ?_
  rintro Y mm vs h₁ hY ⟨hle, i, p, n, c, rs, rfl, hi, rfl, g, hrl, hc⟩
  (repeat (first | (with_reducible first | apply gA | apply gB | apply gC | apply gD | apply gE | apply gF | apply gG | apply gH | apply gI | apply gJ | apply gK | apply gL | apply gM | apply gN | apply gO | apply gP | apply gQ | apply gR) | ((with_reducible apply gT); first | exact rfl | exact True.intro | omega | assumption) | ((with_reducible apply gS2); first | assumption | rfl) | ((with_reducible first | apply gL0 | apply gL1 | apply gL2 | apply gL3 | apply gL4); assumption)))
  refine t_if (fun e1 => ?_) (fun e1 => ?_)
  · obtain ⟨x, a, hx, ha, e2, e3, q, mq, cq, e4, e5⟩ := k.rep.requests.at (i := i) (by omega)
    have e2 := Cells.cell?_le hle.1 e2
    have e3 := Cells.cell?_le hle.1 e3
    have e4 := Cells.cell?_le hle.1 e4
    rw [drop_of hx, List.filter_cons] at hc
    have skip : agB land item day x = false → Y [.slice p n c, .int .i64 (IntKind.wrap .i64 ((i : Int) + 1))] h₁ := by
      intro hno
      rw [if_neg (by rw [hno]; simp)] at hc
      refine hY (f.n6 - (i + 1)) _ _ (by omega) ⟨hle, i + 1, p, n, c, rs, ?_, by omega, rfl, g, by omega, hc⟩
      rw [wrap_id (by omega) (by omega)]; rfl
    (repeat (first | (with_reducible first | apply gA | apply gB | apply gC | apply gD | apply gE | apply gF | apply gG | apply gH | apply gI | apply gJ | apply gK | apply gL | apply gM | apply gN | apply gO | apply gP | apply gQ | apply gR) | ((with_reducible apply gT); first | exact rfl | exact True.intro | omega | assumption) | ((with_reducible apply gS2); first | assumption | rfl) | ((with_reducible first | apply gL0 | apply gL1 | apply gL2 | apply gL3 | apply gL4); assumption)))
    refine t_cond (fun b1 => ?_) (fun b1 => ?_)
    · refine t_if (fun b2 => ?_) (fun b2 => ?_)
      · refine t_pu (c100 (e5.le IntE.grow hle.1) item) ?_
        (repeat (first | (with_reducible first | apply gA | apply gB | apply gC | apply gD | apply gE | apply gF | apply gG | apply gH | apply gI | apply gJ | apply gK | apply gL | apply gM | apply gN | apply gO | apply gP | apply gQ | apply gR) | ((with_reducible apply gT); first | exact rfl | exact True.intro | omega | assumption) | ((with_reducible apply gS2); first | assumption | rfl) | ((with_reducible first | apply gL0 | apply gL1 | apply gL2 | apply gL3 | apply gL4); assumption)))
        refine t_cond (fun b3 => ?_) (fun b3 => ?_)
        · have hag : agB land item day x = true := by unfold agB; rw [b1, b3]; simp [b2]
          rw [if_pos hag] at hc
          refine t_build und24 inf64 (by decide) (by decide) (cells := #[.int .i64 x.day, .int .i64 x.land, .slice q mq cq]) (by kernel_rfl) fun r hr => ?_
          have le1 : h₁.le _ := LH.upd_le (x := (true, .cells #[.int .i64 x.day, .int .i64 x.land, .slice q mq cq] 64 (0, 0))) hr
          have hng := g.count ReqEnc.len (by omega)
          (repeat (first | (with_reducible first | apply gA | apply gB | apply gC | apply gD | apply gE | apply gF | apply gG | apply gH | apply gI | apply gJ | apply gK | apply gL | apply gM | apply gN | apply gO | apply gP | apply gQ | apply gR) | ((with_reducible apply gT); first | exact rfl | exact True.intro | omega | assumption) | ((with_reducible apply gS2); first | assumption | rfl) | ((with_reducible first | apply gL0 | apply gL1 | apply gL2 | apply gL3 | apply gL4); assumption)))
          refine t_grow (x := x) (ws := [.int .i64 x.day, .int .i64 x.land, .slice q mq cq]) rfl rfl und24 und24 inf64 rfl (by omega) (by omega) (g.le le1.1) (LH.le_trans hle le1) ⟨q, mq, cq, rfl, e5⟩ rfl ?_ ?_ ?_
          · intro j w hj
            rw [add_plain, Nat.zero_add]
            exact cell_upd (by simpa using hj)
          · intro w hw
            simp at hw
            rcases hw with rfl | rfl | rfl <;> rfl
          · intro p' c' h₂ hle2 _ g2
            (repeat (first | (with_reducible first | apply gA | apply gB | apply gC | apply gD | apply gE | apply gF | apply gG | apply gH | apply gI | apply gJ | apply gK | apply gL | apply gM | apply gN | apply gO | apply gP | apply gQ | apply gR) | ((with_reducible apply gT); first | exact rfl | exact True.intro | omega | assumption) | ((with_reducible apply gS2); first | assumption | rfl) | ((with_reducible first | apply gL0 | apply gL1 | apply gL2 | apply gL3 | apply gL4); assumption)))
            refine t_again (hY (f.n6 - (i + 1)) _ _ (by omega) ⟨hle2, i + 1, p', n + 1, c', rs ++ [x], ?_, by omega, rfl, g2, by simp; omega, by rw [hc]; simp⟩)
            rw [wrap_id (by omega) (by omega)]; rfl
        · exact t_again (skip (by unfold agB; rw [b1, b3]; simp))
      · exact t_again (skip (by unfold agB; rw [b1]; simp [b2]))
    · exact t_again (skip (by unfold agB; rw [b1]; rfl))
  · (repeat (first | (with_reducible first | apply gA | apply gB | apply gC | apply gD | apply gE | apply gF | apply gG | apply gH | apply gI | apply gJ | apply gK | apply gL | apply gM | apply gN | apply gO | apply gP | apply gQ | apply gR) | ((with_reducible apply gT); first | exact rfl | exact True.intro | omega | assumption) | ((with_reducible apply gS2); first | assumption | rfl) | ((with_reducible first | apply gL0 | apply gL1 | apply gL2 | apply gL3 | apply gL4); assumption)))
    rw [List.drop_eq_nil_of_le (by omega)] at hc
    simp at hc
    refine t_ret ⟨hle, p, n, c, rfl, ?_⟩
    rw [hc]
    exact g.sl ReqEnc.len (by omega) (ReqEnc.e (Rd.of_le hle.1)) (by omega)
theorem or_bits {a k : Nat} (ha : a < 2 ^ 32) (hk : k < 32) : IntKind.wrap .i64 (((BitVec.ofInt 64 (a : Int) ||| BitVec.ofInt 64 (IntKind.wrap .i64 (1 * 2 ^ min (k : Int).toNat 64))).toNat : Nat) : Int) = ((a ||| 2 ^ k : Nat) : Int) := by
  have hm : min (k : Int).toNat 64 = k := by simp; omega
  have hp : (2 : Nat) ^ k < 2 ^ 32 := Nat.pow_lt_pow_right (by omega) hk
  have hp' : (1 * 2 ^ k : Int) = ((2 ^ k : Nat) : Int) := by simp
  rw [hm, hp']
  generalize hq : (2 : Nat) ^ k = q at hp
  have hw : IntKind.wrap .i64 ((q : Nat) : Int) = (q : Int) := wrap_id (by omega) (by omega)
  rw [hw]
  have h1 : (BitVec.ofInt 64 (a : Int)).toNat = a := by rw [BitVec.toNat_ofInt]; omega
  have h2 : (BitVec.ofInt 64 (q : Int)).toNat = q := by rw [BitVec.toNat_ofInt]; omega
  rw [BitVec.toNat_or, h1, h2]
  have h3 : a ||| q < 2 ^ 32 := Nat.or_lt_two_pow ha hp
  exact wrap_id (by omega) (by omega)
theorem c107 {h : LH} {d m : Nat} {f : FileC} {u : UseFile} (k : Desk h.get d m f u) (hck : checkF u = 0) {p : Option Addr} {n c : Nat} {l : List Request} (hl : Sl RequestE 3 h.get p n l) (hl4 : l.length ≤ 4) (hdays : ∀ r ∈ l, 0 ≤ r.day ∧ r.day ≤ 2000) (day : Int) :
    De 107 #[.pointer (some ⟨d, 0, none⟩), .slice p n c, .int .i64 day] h d m f u fun r _ => r = .int .i64 (meets u l day) := by
  refine w107 _ _ _ _ _ X0_ok ?_
  unfold n107
  have hn := hl.1
  refine t_loop (fun mm vs h' => Mv m h h' ∧ Desk h'.get d m f u ∧ ∃ (i acc : Nat), vs = [.int .i64 acc, .int .i64 i] ∧ i ≤ n ∧ mm = n - i ∧ acc < 2 ^ 32 ∧ meets u l day = meetsGo u day (l.drop i) i acc)
    ⟨Mv.refl, k, 0, 0, rfl, Nat.zero_le _, rfl, by omega, rfl⟩ ?_
  rintro Y mm vs h₁ hY ⟨mv, k1, i, acc, rfl, hi, rfl, hacc, hc⟩
  (repeat (first | (with_reducible first | apply gA | apply gB | apply gC | apply gD | apply gE | apply gF | apply gG | apply gH | apply gI | apply gJ | apply gK | apply gL | apply gM | apply gN | apply gO | apply gP | apply gQ | apply gR) | ((with_reducible apply gT); first | exact rfl | exact True.intro | omega | assumption) | ((with_reducible apply gS2); first | assumption | rfl) | ((with_reducible first | apply gL0 | apply gL1 | apply gL2 | apply gL3 | apply gL4); assumption)))
  refine t_if (fun e1 => ?_) (fun e1 => ?_)
  · obtain ⟨x, a, hx, ha, e2, e3, q, mq, cq, e4, e5⟩ := (hl.rd RequestE.grow (mv.rd k.isMap)).at (i := i) (by omega)
    rw [drop_of hx, meetsGo] at hc
    (repeat (first | (with_reducible first | apply gA | apply gB | apply gC | apply gD | apply gE | apply gF | apply gG | apply gH | apply gI | apply gJ | apply gK | apply gL | apply gM | apply gN | apply gO | apply gP | apply gQ | apply gR) | ((with_reducible apply gT); first | exact rfl | exact True.intro | omega | assumption) | ((with_reducible apply gS2); first | assumption | rfl) | ((with_reducible first | apply gL0 | apply gL1 | apply gL2 | apply gL3 | apply gL4); assumption)))
    have hxd := hdays x (List.mem_of_getElem? hx)
    refine t_de (c55 k1 (num_ok (check_num hck)).2.2.2 x.day hxd) ?_
    rintro _ h₂ mv2 k2 rfl
    (repeat (first | (with_reducible first | apply gA | apply gB | apply gC | apply gD | apply gE | apply gF | apply gG | apply gH | apply gI | apply gJ | apply gK | apply gL | apply gM | apply gN | apply gO | apply gP | apply gQ | apply gR) | ((with_reducible apply gT); first | exact rfl | exact True.intro | omega | assumption) | ((with_reducible apply gS2); first | assumption | rfl) | ((with_reducible first | apply gL0 | apply gL1 | apply gL2 | apply gL3 | apply gL4); assumption)))
    refine t_pu (c81 _ _ _) ?_
    (repeat (first | (with_reducible first | apply gA | apply gB | apply gC | apply gD | apply gE | apply gF | apply gG | apply gH | apply gI | apply gJ | apply gK | apply gL | apply gM | apply gN | apply gO | apply gP | apply gQ | apply gR) | ((with_reducible apply gT); first | exact rfl | exact True.intro | omega | assumption) | ((with_reducible apply gS2); first | assumption | rfl) | ((with_reducible first | apply gL0 | apply gL1 | apply gL2 | apply gL3 | apply gL4); assumption)))
    refine t_cond (fun b => ?_) (fun b => ?_)
    · rw [if_pos b] at hc
      (repeat (first | (with_reducible first | apply gA | apply gB | apply gC | apply gD | apply gE | apply gF | apply gG | apply gH | apply gI | apply gJ | apply gK | apply gL | apply gM | apply gN | apply gO | apply gP | apply gQ | apply gR) | ((with_reducible apply gT); first | exact rfl | exact True.intro | omega | assumption) | ((with_reducible apply gS2); first | assumption | rfl) | ((with_reducible first | apply gL0 | apply gL1 | apply gL2 | apply gL3 | apply gL4); assumption)))
      rw [or_bits hacc (by omega)]
      refine t_again (hY (n - (i + 1)) _ _ (by omega) ⟨mv.trans mv2, k2, i + 1, acc ||| 2 ^ i, ?_, by omega, rfl, Nat.or_lt_two_pow hacc (Nat.pow_lt_pow_right (by omega) (by omega)), hc⟩)
      rw [wrap_id (by omega) (by omega)]; rfl
    · rw [if_neg (by rw [b]; simp)] at hc
      refine t_again (hY (n - (i + 1)) _ _ (by omega) ⟨mv.trans mv2, k2, i + 1, acc, ?_, by omega, rfl, hacc, hc⟩)
      rw [wrap_id (by omega) (by omega)]; rfl
  · (repeat (first | (with_reducible first | apply gA | apply gB | apply gC | apply gD | apply gE | apply gF | apply gG | apply gH | apply gI | apply gJ | apply gK | apply gL | apply gM | apply gN | apply gO | apply gP | apply gQ | apply gR) | ((with_reducible apply gT); first | exact rfl | exact True.intro | omega | assumption) | ((with_reducible apply gS2); first | assumption | rfl) | ((with_reducible first | apply gL0 | apply gL1 | apply gL2 | apply gL3 | apply gL4); assumption)))
    rw [List.drop_eq_nil_of_le (by omega), meetsGo] at hc
    exact t_ret ⟨mv, k1, by rw [hc]⟩
end Go.Proofs.YtibibhojkfapnaaDoor
end

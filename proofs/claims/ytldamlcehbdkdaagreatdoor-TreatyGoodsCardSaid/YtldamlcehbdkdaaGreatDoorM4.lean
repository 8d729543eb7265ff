/- Contracts and laws for the proof, joined by a program. No condition. -/
import Derived.Test.YtldamlcehbdkdaaGreatDoorM3
set_option linter.all false
section
namespace Go.TM
open Go Go.Conc
variable {P : Program} {E : Halt → Cells → Prop}
theorem lwp_pure' {α : Type} {a : α} {Q : α → Cells → Prop} {h : Cells} : Sem.lwp P (Sem.pure a) Q E h = Q a h := rfl
structure Keys (es : Array MapEntry) (c : Nat) (l : List Int) : Prop where
 keys : es.toList.map (·.key) = l.map (Value.int .i64)
 nodup : l.Nodup
 born : (es.toList.map (·.born)).Nodup
 lt : ∀ e ∈ es.toList, e.born < c
def MapOf (h : Cells) (m : Nat) (l : List Int) : Prop := ∃ es c, h m = some (true, .map es c) ∧ Keys es c l
theorem Keys.nil : Keys #[] 0 [] := ⟨rfl, List.nodup_nil, List.nodup_nil, fun e he => by simp at he⟩
theorem Keys.isKey {es : Array MapEntry} {c : Nat} {l : List Int} (k : Keys es c l) {kt : TypeId} (ht : isI64 P kt = true) : ∀ e ∈ es.toList, IsKey P kt e.key := by
 intro e he
 have : e.key ∈ es.toList.map (·.key) := List.mem_map.2 ⟨e, he, rfl⟩
 rw [k.keys] at this
 obtain ⟨n, _, hn⟩ := List.mem_map.1 this
 exact .inl ⟨ht, n, hn.symm⟩
variable {X : XP} {Q : Leaf → LH → Prop}
theorem t_putKey {h : LH} {K : Value → T} {t kt et : TypeId} {m : Nat} {l : List Int} {k : Int} {v : Value} (hu : P.underlying t = some (.map kt et)) (ht : isI64 P kt = true) (hm : MapOf h.get m l)
  (hq : ∀ es c l', (h.get.upd m (true, .map es c)) m = some (true, .map es c) → Keys es c l' → (∀ x, x ∈ l' ↔ x = k ∨ x ∈ l) → (K undef).wp X P Q { h with get := h.get.upd m (true, .map es c) }) : (T.sem false (Sem.bind (Instr.mapUpdate t (.map (some m)) (.int .i64 k) v) fun _ => pure (.tuple #[])) K).wp X P Q h := by
 obtain ⟨es, c, hmc, hK⟩ := hm
 refine t_sem (A := fun v h' => v = undef ∧ (K undef).wp X P Q { h with get := h' }) (Sem.lwp_bind _ _ ?_) (by rintro v h' ⟨rfl, hw⟩; exact hw)
 unfold Instr.mapUpdate
 rw [lwp_bind, lwp_underlying hu]
 simp only [lwp_bind]
 refine ⟨_, _, hmc, trivial, ?_⟩
 show Sem.lwp P (_ >>= _) _ _ _
 rw [lwp_bind]
 have hkey : IsKey P kt (.int .i64 k) := .inl ⟨ht, k, rfl⟩
 refine lwp_checkKey hkey ?_
 rw [lwp_bind]
 refine lwp_findKey hkey (hK.isKey ht) (fun j e he hek => ?_) fun hno => ?_
 ·have he' : es[j]? = some e := by rw [← Array.getElem?_toList]; exact he
  simp only [lwp_bind, Instr.keyThatStays, he', Option.map_some, Option.getD_some, hek, sameBits_key hkey, if_true, lwp_pure]
  refine ⟨⟨_, hmc, trivial⟩, ?_⟩
  have hlist : (es.modify j fun e => { e with key := .int .i64 k, val := v }).toList = es.toList.modify j fun e => { e with key := .int .i64 k, val := v } := by simp
  have hjl : j < es.toList.length := (List.getElem?_eq_some_iff.1 he).1
  have keys' : ((es.modify j fun e => { e with key := .int .i64 k, val := v }).toList).map (·.key) = es.toList.map (·.key) := by
   rw [hlist]
   refine List.ext_getElem? fun i => ?_
   rw [List.getElem?_map, List.getElem?_map, List.getElem?_modify]
   by_cases hij : j = i
   ·subst hij; simp [he, hek]
   ·simp [hij]
  have born' : ((es.modify j fun e => { e with key := .int .i64 k, val := v }).toList).map (·.born) = es.toList.map (·.born) := by
   rw [hlist]
   refine List.ext_getElem? fun i => ?_
   rw [List.getElem?_map, List.getElem?_map, List.getElem?_modify]
   by_cases hij : j = i
   ·subst hij; simp [he]
   ·simp [hij]
  refine ⟨rfl, hq _ _ l (Cells.upd_self _ _ _) ⟨keys'.trans hK.keys, hK.nodup, by rw [born']; exact hK.born, fun e2 he2 => ?_⟩ fun x => ?_⟩
  ·have : e2.born ∈ es.toList.map (·.born) := by rw [← born']; exact List.mem_map.2 ⟨e2, he2, rfl⟩
   obtain ⟨e3, h3, h4⟩ := List.mem_map.1 this
   rw [← h4]; exact hK.lt e3 h3
  ·have : Value.int .i64 k ∈ l.map (Value.int .i64) := by rw [← hK.keys]; exact List.mem_map.2 ⟨e, List.mem_of_getElem? he, hek⟩
   obtain ⟨n, h1, h2⟩ := List.mem_map.1 this
   cases h2
   exact ⟨.inr, fun h => h.elim (fun e => e ▸ h1) id⟩
 ·refine ⟨⟨_, hmc, trivial⟩, rfl, hq _ _ (l ++ [k]) (Cells.upd_self _ _ _) ⟨?_, ?_, ?_, ?_⟩ fun x => ?_⟩
  ·simp [hK.keys]
  ·refine List.nodup_append.2 ⟨hK.nodup, by simp, fun a ha b hb e => ?_⟩
   simp at hb; subst hb; subst e
   have : Value.int .i64 a ∈ es.toList.map (·.key) := by rw [hK.keys]; exact List.mem_map.2 ⟨a, ha, rfl⟩
   obtain ⟨e, h1, h2⟩ := List.mem_map.1 this
   exact hno e h1 h2
  ·simp only [Array.toList_push, List.map_append, List.map_cons, List.map_nil]
   refine List.nodup_append.2 ⟨hK.born, by simp, fun a ha b hb e => ?_⟩
   simp at hb; subst hb; subst e
   obtain ⟨e, h1, h2⟩ := List.mem_map.1 ha
   have := hK.lt e h1
   omega
  ·intro e he
   simp only [Array.toList_push, List.mem_append, List.mem_singleton] at he
   rcases he with he | rfl
   ·have := hK.lt e he; omega
   ·exact Nat.lt_succ_self _
  ·simp [or_comm]
def NextKey (es : Array MapEntry) (seen : Array Nat) (xs : List Value) (seen' : Array Nat) : Prop := ∃ e ∈ es.toList, e.born ∉ seen.toList ∧ xs = [e.key] ∧ seen' = seen.push e.born
def AllSeen (es : Array MapEntry) (seen : Array Nat) : Prop := ∀ e ∈ es.toList, e.born ∈ seen.toList
theorem t_range {h : LH} {K : Value → T} {t kt et : TypeId} {m c : Nat} {es : Array MapEntry} {b : Bool} (hu : P.underlying t = some (.map kt et)) (hm : h.get m = some (b, .map es c))
  (hk : ∀ r, h.get r = none → (K (.pointer (some ⟨r, 0, none⟩))).wp X P Q { h with get := h.get.upd r (true, .mapIter (some m) c #[] c) }) : (T.sem false (Instr.range t (.map (some m))) K).wp X P Q h := by
 refine t_sem (A := fun v h' => ∃ r, h.get r = none ∧ v = .pointer (some ⟨r, 0, none⟩) ∧ h' = h.get.upd r (true, .mapIter (some m) c #[] c)) ?_ (by rintro v h' ⟨r, hr, rfl, rfl⟩; exact hk r hr)
 unfold Instr.range
 simp only [lwp_bind, lwp_underlying hu]
 refine ⟨_, _, hm, trivial, ?_⟩
 show Sem.lwp P (pure _) _ _ _
 rw [lwp_pure]
 intro r hr
 exact ⟨r, hr, rfl, rfl⟩
theorem t_next {h : LH} {K : Value → T} {ty : TypeId} {m r c : Nat} {es : Array MapEntry} {seen : Array Nat} {b : Bool} (hr : h.get r = some (true, .mapIter (some m) c seen c)) (hm : h.get m = some (b, .map es c)) (hlt : ∀ e ∈ es.toList, e.born < c)
  (hend : AllSeen es seen → (K (.tuple #[.bool false])).wp X P Q h)
  (hk : ∀ e ∈ es.toList, e.born ∉ seen.toList → (K (.tuple #[.bool true, e.key, e.val])).wp X P Q { h with get := h.get.upd r (true, .mapIter (some m) c (seen.push e.born) c) }) : (T.sem false (Instr.next (.pointer (some ⟨r, 0, none⟩)) false ty) K).wp X P Q h := by
 refine t_sem (A := fun v h' => (K v).wp X P Q { h with get := h' }) ?_ (fun v h' hw => hw)
 unfold Instr.next
 simp only [lwp_bind]
 refine ⟨_, _, hr, trivial, ?_⟩
 show Sem.lwp P (_ >>= _) _ _ _
 rw [lwp_bind]
 refine ⟨_, _, hm, trivial, ?_⟩
 have hall : (!seen.isEmpty && !es.isEmpty && es.all fun x => decide (x.born ≥ c)) = false := by
  cases he : es.toList with
  | nil =>
   have : es = #[] := by rw [← Array.toList_inj, he]
   simp [this]
  | cons e l =>
   have h1 := hlt e (by rw [he]; simp)
   have h2 : (es.all fun x => decide (x.born ≥ c)) = false := by
    rw [← Array.all_toList, he]
    simp; omega
   simp [h2]
 simp only [lwp_pure', hall, Bool.false_eq_true, if_false, lwp_bind, lwp_pure]
 have hold : ((es.filter fun e => !seen.contains e.born).filter fun x => decide (x.born < c)) = es.filter fun e => !seen.contains e.born := by
  rw [Array.filter_eq_self]
  intro e he
  have := hlt e (Array.mem_toList_iff.2 (Array.mem_filter.1 he).1)
  simp [this]
 have hnew : ((es.filter fun e => !seen.contains e.born).filter fun x => decide (x.born ≥ c)) = #[] := by
  rw [Array.filter_filter]
  refine Array.filter_eq_empty_iff.2 fun e he => ?_
  have := hlt e (Array.mem_toList_iff.2 he)
  simp; omega
 rw [hold, hnew, Array.append_empty]
 by_cases hL : (es.filter fun e => !seen.contains e.born).isEmpty = true
 ·have hL' : (es.filter fun e => !seen.contains e.born) = #[] := Array.isEmpty_iff.1 hL
  rw [hL']
  simp only [Array.isEmpty_empty, if_true, Array.map_empty, Array.append_empty]
  show Sem.lwp P (choose (Question.mapNext 1)) _ _ _
  show (if _ then _ else _)
  rw [if_pos (by rfl)]
  refine hend fun e he => ?_
  have := Array.filter_eq_empty_iff.1 hL' e (Array.mem_toList_iff.1 he)
  simpa using this
 ·rw [Bool.not_eq_true] at hL
  simp only [hL, Bool.false_eq_true, if_false, Array.empty_append, Array.size_map]
  have hpos : 0 < (es.filter fun e => !seen.contains e.born).size := by
   rcases Nat.eq_zero_or_pos (es.filter fun e => !seen.contains e.born).size with h0 | h0
   ·rw [Array.size_eq_zero_iff] at h0; rw [h0] at hL; cases hL
   ·exact h0
  have fin : ∀ i, i < (es.filter fun e => !seen.contains e.born).size → Sem.lwp P (match (Array.map some (es.filter fun e => !seen.contains e.born))[i]? with
   | some (some e) => do
    setObj r (.mapIter (some m) c (seen.push e.born) c)
    pure (.tuple #[.bool true, e.key, e.val])
   | some none => pure (.tuple #[.bool false])
   | none => stuck "Next: no such candidate" : Sem Value) (fun v h' => (K v).wp X P Q { h with get := h' }) (fun _ _ => False) h.get := by
   intro i hi
   have hmem : (es.filter fun e => !seen.contains e.born)[i] ∈ es.filter fun e => !seen.contains e.born := Array.getElem_mem hi
   rw [Array.mem_filter] at hmem
   have hget : (Array.map some (es.filter fun e => !seen.contains e.born))[i]? = some (some (es.filter fun e => !seen.contains e.born)[i]) := by simp [hi]
   rw [hget]
   simp only [lwp_bind]
   refine ⟨⟨_, hr, trivial⟩, ?_⟩
   simp only [lwp_pure', lwp_pure]
   refine hk _ (Array.mem_toList_iff.2 hmem.1) ?_
   have := hmem.2
   simpa using this
  show (if _ then _ else _)
  split
  ·exact fin 0 hpos
  ·exact fun t => fin _ (Nat.mod_lt _ hpos)
theorem t_entry {h : LH} {K : Value → T} {m r c : Nat} {es : Array MapEntry} {seen : Array Nat} {e : MapEntry} {b : Bool} (hr : h.get r = some (true, .mapIter (some m) c (seen.push e.born) c)) (hm : h.get m = some (b, .map es c)) (he : e ∈ es.toList) (hb : (es.toList.map (·.born)).Nodup)
  (hk : (K (.tuple #[e.key, e.val])).wp X P Q h) : (T.sem false (Instr.entry (.pointer (some ⟨r, 0, none⟩))) K).wp X P Q h := by
 refine t_sem (A := fun v h' => v = .tuple #[e.key, e.val] ∧ h' = h.get) ?_ (by rintro v h' ⟨rfl, rfl⟩; exact hk)
 unfold Instr.entry
 simp only [lwp_bind]
 refine ⟨_, _, hr, trivial, ?_⟩
 simp only [lwp_pure', Array.back?_push, lwp_bind]
 refine ⟨_, _, hm, trivial, ?_⟩
 have hf : es.find? (fun x => x.born == e.born) = some e := by
  rw [← Array.find?_toList]
  have : ∀ l : List MapEntry, e ∈ l → (l.map (·.born)).Nodup → l.find? (fun x => x.born == e.born) = some e := by
   intro l
   induction l with
   | nil => intro h; simp at h
   | cons a l ih =>
    intro h1 h2
    simp only [List.map_cons, List.nodup_cons] at h2
    rw [List.find?_cons]
    rcases List.mem_cons.1 h1 with rfl | h1
    ·simp
    ·have hne : (a.born == e.born) = false := by
      cases hb : (a.born == e.born) with
      | false => rfl
      | true => exact absurd (List.mem_map.2 ⟨e, h1, (eq_of_beq hb).symm⟩) h2.1
     rw [hne]; exact ih h1 h2.2
  exact this _ he hb
 simp only [lwp_pure', bne_self_eq_false, Bool.false_eq_true, if_false, lwp_bind, lwp_pure, hf]
 exact ⟨trivial, trivial⟩
end Go.TM
end
section
namespace Go.TM
open Go Go.Conc
variable {P : Program} {E : Halt → Cells → Prop} {h : Cells}
theorem str_beq (a b : ByteArray) : (a == b) = true ↔ a = b := by
 obtain ⟨x⟩ := a
 obtain ⟨y⟩ := b
 show (x == y) = true ↔ _
 rw [beq_iff_eq]
 constructor
 ·rintro rfl; rfl
 ·intro e; cases e; rfl
def isBas (P : Program) (t : TypeId) (v : Value) : Prop := (P.underlying t = some (.int .i64) ∧ ∃ n, v = .int .i64 n) ∨ (P.underlying t = some .bool ∧ ∃ b, v = .bool b) ∨ (P.underlying t = some .string ∧ ∃ s, v = .string s)
theorem isBas.agg {t : TypeId} {v : Value} (b : isBas P t v) : ∃ d, P.underlying t = some d ∧ isAggT P t = false := by
 rcases b with ⟨hu, _⟩ | ⟨hu, _⟩ | ⟨hu, _⟩ <;> exact ⟨_, hu, by unfold isAggT; rw [hu]⟩
theorem lwp_partF {Q : Value → Cells → Prop} {t : TypeId} {cs : Array Value} {o : Nat} {v : Value} (b : isBas P t v) (hv : cs[o]? = some v) (hq : Q v h) : Sem.lwp P (part t cs o) Q E h := by
 obtain ⟨d, hu, ha⟩ := b.agg
 unfold part
 rw [lwp_bind, lwp_isAgg_false hu ha]
 simp only [Bool.false_eq_true, if_false, hv]
 exact hq
theorem lwp_equalF {Q : Bool → Cells → Prop} {t : TypeId} {d : Nat} {a b : Value} (ha : isBas P t a) (hb : isBas P t b) (hq : ∀ c : Bool, (c = true ↔ a = b) → Q c h) : Sem.lwp P (Op.equalIn (d + 1) t a b) Q E h := by
 unfold Op.equalIn
 rcases ha with ⟨hu, n, rfl⟩ | ⟨hu, n, rfl⟩ | ⟨hu, n, rfl⟩ <;> rcases hb with ⟨hu', m, rfl⟩ | ⟨hu', m, rfl⟩ | ⟨hu', m, rfl⟩ <;> (rw [hu] at hu'; first | cases hu' | skip)
 ·rw [lwp_bind, lwp_underlying hu]; exact hq _ (by simp)
 ·rw [lwp_bind, lwp_underlying hu]; exact hq _ (by simp)
 ·rw [lwp_bind, lwp_underlying hu]; exact hq _ (by rw [str_beq]; simp)
theorem lwp_all {α σ : Type} {s0 s1 : σ} {body : α → σ → Sem (ForInStep σ)} {c : α → Bool} : ∀ {l : List α} {Q : σ → Cells → Prop}, (∀ f ∈ l, ∀ {Q : ForInStep σ → Cells → Prop}, Q (if c f then .yield s0 else .done s1) h → Sem.lwp P (body f s0) Q E h) → Q (if l.all c then s0 else s1) h → Sem.lwp P (forIn l s0 body) Q E h
 | [], Q, _, hq => by
  rw [List.forIn_nil]
  exact hq
 | f :: l, Q, hb, hq => by
  rw [List.forIn_cons, lwp_bind]
  refine hb f (by simp) ?_
  cases hc : c f with
  | true =>
   simp only [if_true]
   refine lwp_all (fun g hg => hb g (by simp [hg])) ?_
   simpa [hc] using hq
  | false =>
   simp only [Bool.false_eq_true, if_false, lwp_pure]
   simpa [hc] using hq
inductive FlatAgg (P : Program) (t : TypeId) (vs : List Value) : Prop where
 | str (fs : Array Field) (hu : P.underlying t = some (.struct fs)) (hs : P.stoodInHeld t = false) (hl : fs.toList.length = vs.length) (hf : ∀ (i : Nat) f v, fs.toList[i]? = some f → vs[i]? = some v → f.name ≠ "_" ∧ f.offset = i ∧ isBas P f.type v)
 | arr (n : Nat) (el : TypeId) (inf : TypeInfo) (hu : P.underlying t = some (.array n el)) (hi : P.info? el = some inf) (h1 : inf.size = 1) (hl : vs.length = n) (hf : ∀ v ∈ vs, isBas P el v)
def FKey (P : Program) (t : TypeId) (v : Value) : Prop := isBas P t v ∨ ∃ vs, v = .agg vs.toArray ∧ FlatAgg P t vs
theorem list_all_eq {α : Type} {a b : List α} (hl : a.length = b.length) (h : ∀ (i : Nat) x y, a[i]? = some x → b[i]? = some y → x = y) : a = b := by
 refine List.ext_getElem? fun i => ?_
 by_cases hi : i < a.length
 ·have ha := List.getElem?_eq_getElem hi
  have hb := List.getElem?_eq_getElem (l := b) (i := i) (by omega)
  rw [ha, hb, h i _ _ ha hb]
 ·rw [List.getElem?_eq_none (by omega), List.getElem?_eq_none (by omega)]
open Classical in
theorem lwp_equalA {Q : Bool → Cells → Prop} {t : TypeId} {d : Nat} {ys bs : List Value} (ha : FlatAgg P t ys) (hb : FlatAgg P t bs) (hq : ∀ c : Bool, (c = true ↔ ys = bs) → Q c h) : Sem.lwp P (Op.equalIn (d + 1 + 1) t (.agg ys.toArray) (.agg bs.toArray)) Q E h := by
 cases ha with
 | str fs hu hs hl hf =>
  cases hb with
  | arr n el inf hu' => rw [hu] at hu'; cases hu'
  | str fs' hu' hs' hl' hf' =>
   rw [hu] at hu'; cases hu'
   have key : (fs.toList.all fun f => decide (ys[f.offset]? = bs[f.offset]?)) = true ↔ ys = bs := by
    rw [List.all_eq_true]
    constructor
    ·intro hall
     refine list_all_eq (by omega) fun i x y hx hy => ?_
     have hi : i < fs.toList.length := by rw [hl]; exact (List.getElem?_eq_some_iff.1 hx).1
     have hfi := List.getElem?_eq_getElem hi
     have h1 := of_decide_eq_true (hall _ (List.mem_of_getElem? hfi))
     rw [(hf i _ x hfi hx).2.1, hx, hy] at h1
     exact Option.some.inj h1
    ·rintro rfl f _
     simp
   unfold Op.equalIn
   rw [lwp_bind, lwp_underlying hu]
   simp only [lwp_bind, lwp_program, hs, Bool.false_eq_true, if_false, ← Array.forIn_toList]
   refine lwp_all (s1 := ⟨some false, ()⟩) (c := fun f => decide (ys[f.offset]? = bs[f.offset]?)) ?_ ?_
   ·intro f hfm Q hQ
    obtain ⟨i, hi⟩ := List.mem_iff_getElem?.1 hfm
    have hil : i < fs.toList.length := (List.getElem?_eq_some_iff.1 hi).1
    have hx := List.getElem?_eq_getElem (l := ys) (i := i) (by omega)
    have hy := List.getElem?_eq_getElem (l := bs) (i := i) (by omega)
    obtain ⟨n1, o1, b1⟩ := hf i f _ hi hx
    obtain ⟨_, _, b2⟩ := hf' i f _ hi hy
    rw [if_pos n1]
    simp only [lwp_bind]
    refine lwp_partF b1 (by rw [o1]; simpa using hx) (lwp_partF b2 (by rw [o1]; simpa using hy) (lwp_equalF b1 b2 fun c hc => ?_))
    rw [o1, hx, hy] at hQ
    cases c with
    | true =>
     have : ys[i] = bs[i] := hc.1 rfl
     simp only [this, decide_true, if_true] at hQ
     simpa [lwp_pure] using hQ
    | false =>
     have : ¬ ys[i] = bs[i] := fun e => by cases hc.2 e
     have h2 : ¬ some ys[i] = some bs[i] := fun e => this (Option.some.inj e)
     simp only [h2, decide_false, Bool.false_eq_true, if_false] at hQ
     simpa [lwp_pure] using hQ
   ·cases hall : (fs.toList.all fun f => decide (ys[f.offset]? = bs[f.offset]?)) with
    | true => simpa [lwp_pure] using hq true (by simpa [hall] using key)
    | false => simpa [lwp_pure] using hq false (by simpa [hall] using key)
 | arr n el inf hu hi h1 hl hf =>
  cases hb with
  | str fs' hu' => rw [hu] at hu'; cases hu'
  | arr n' el' inf' hu' hi' h1' hl' hf' =>
   rw [hu] at hu'; cases hu'
   rw [hi] at hi'; cases hi'
   have key : ((List.range' 0 n).all fun i => decide (ys[i]? = bs[i]?)) = true ↔ ys = bs := by
    rw [List.all_eq_true]
    constructor
    ·intro hall
     refine list_all_eq (by omega) fun i x y hx hy => ?_
     have hi : i < n := by rw [← hl]; exact (List.getElem?_eq_some_iff.1 hx).1
     have h1 := of_decide_eq_true (hall i (by simp [hi]))
     rw [hx, hy] at h1
     exact Option.some.inj h1
    ·rintro rfl f _
     simp
   unfold Op.equalIn
   rw [lwp_bind, lwp_underlying hu]
   simp only [lwp_bind, lwp_sizeOf hi, h1, Nat.mul_one, Std.Legacy.Range.forIn_eq_forIn_range']
   have hr : List.range' 0 ([:n] : Std.Legacy.Range).size = List.range' 0 n := by simp [Std.Legacy.Range.size]
   have hr' : ([:n] : Std.Legacy.Range).start = 0 ∧ ([:n] : Std.Legacy.Range).step = 1 := ⟨rfl, rfl⟩
   refine lwp_all (s1 := ⟨some false, ()⟩) (c := fun i => decide (ys[i]? = bs[i]?)) ?_ ?_
   ·intro i him Q hQ
    have hin : i < n := by
     have := him
     simp [Std.Legacy.Range.size] at this
     omega
    have hx := List.getElem?_eq_getElem (l := ys) (i := i) (by omega)
    have hy := List.getElem?_eq_getElem (l := bs) (i := i) (by omega)
    have b1 := hf _ (List.mem_of_getElem? hx)
    have b2 := hf' _ (List.mem_of_getElem? hy)
    simp only [lwp_bind]
    refine lwp_partF (v := ys[i]) b1 ?_ ?_
    ·rw [List.getElem?_toArray]; exact hx
    refine lwp_partF (v := bs[i]) b2 ?_ ?_
    ·rw [List.getElem?_toArray]; exact hy
    refine lwp_equalF b1 b2 fun c hc => ?_
    rw [hx, hy] at hQ
    cases c with
    | true =>
     have : ys[i] = bs[i] := hc.1 rfl
     simp only [this, decide_true, if_true] at hQ
     simpa [lwp_pure] using hQ
    | false =>
     have : ¬ ys[i] = bs[i] := fun e => by cases hc.2 e
     have h2 : ¬ some ys[i] = some bs[i] := fun e => this (Option.some.inj e)
     simp only [h2, decide_false, Bool.false_eq_true, if_false] at hQ
     simpa [lwp_pure] using hQ
   ·have hall' : (List.range' ([:n] : Std.Legacy.Range).start ([:n] : Std.Legacy.Range).size ([:n] : Std.Legacy.Range).step) = List.range' 0 n := by simp [Std.Legacy.Range.size]
    rw [hall']
    cases hall : ((List.range' 0 n).all fun i => decide (ys[i]? = bs[i]?)) with
    | true => simpa [lwp_pure] using hq true (by simpa [hall] using key)
    | false => simpa [lwp_pure] using hq false (by simpa [hall] using key)
theorem agg_inj {ys bs : List Value} : Value.agg ys.toArray = .agg bs.toArray ↔ ys = bs := by
 constructor
 ·intro e
  injection e with e
  simpa using e
 ·rintro rfl; rfl
theorem lwp_equalK {Q : Bool → Cells → Prop} {t : TypeId} {a b : Value} (ha : FKey P t a) (hb : FKey P t b) (hq : ∀ c : Bool, (c = true ↔ a = b) → Q c h) : Sem.lwp P (Op.equal t a b) Q E h := by
 have hmd : Op.maxDepth = 9998 + 1 + 1 := rfl
 unfold Op.equal
 rw [hmd]
 rcases ha with ha | ⟨ys, rfl, ha⟩ <;> rcases hb with hb | ⟨bs, rfl, hb⟩
 ·exact lwp_equalF ha hb hq
 ·obtain ⟨d, hu, hn⟩ := ha.agg
  cases hb <;> (unfold isAggT at hn; rename_i hu'; first | (rw [‹P.underlying t = some (.struct _)›] at hn; cases hn) | (rw [‹P.underlying t = some (.array _ _)›] at hn; cases hn))
 ·obtain ⟨d, hu, hn⟩ := hb.agg
  cases ha <;> (unfold isAggT at hn; first | (rw [‹P.underlying t = some (.struct _)›] at hn; cases hn) | (rw [‹P.underlying t = some (.array _ _)›] at hn; cases hn))
 ·exact lwp_equalA ha hb fun c hc => hq c (by rw [agg_inj]; exact hc)
theorem lwp_checkKeyK {Q : Unit → Cells → Prop} {e : Bool} {kt : TypeId} {v : Value} (hk : FKey P kt v) (hq : Q () h) : Sem.lwp P (Instr.checkKey e 10000 kt v) Q E h := by
 have one : ∀ {Q : Unit → Cells → Prop} {d : Nat} {t : TypeId} {v : Value}, isBas P t v → Q () h → Sem.lwp P (Instr.checkKey e (d + 1) t v) Q E h := by
  intro Q d t v hb hq
  unfold Instr.checkKey
  rcases hb with ⟨hu, n, rfl⟩ | ⟨hu, n, rfl⟩ | ⟨hu, n, rfl⟩ <;> (rw [lwp_bind, lwp_underlying hu]; exact hq)
 rcases hk with hb | ⟨vs, rfl, hf⟩
 ·exact one (d := 9999) hb hq
 ·rw [show (10000 : Nat) = 9998 + 1 + 1 from rfl, Instr.checkKey]
  cases hf with
  | str fs hu hs hl hf =>
   rw [lwp_bind, lwp_underlying hu]
   simp only [lwp_bind, ← Array.forIn_toList]
   refine lwp_all (s1 := ()) (c := fun _ => true) ?_ (by simpa [lwp_pure] using hq)
   intro f hfm Q hQ
   obtain ⟨i, hi⟩ := List.mem_iff_getElem?.1 hfm
   have hil : i < fs.toList.length := (List.getElem?_eq_some_iff.1 hi).1
   have hx := List.getElem?_eq_getElem (l := vs) (i := i) (by omega)
   obtain ⟨n1, o1, b1⟩ := hf i f _ hi hx
   rw [if_pos n1]
   simp only [lwp_bind]
   refine lwp_partF (v := vs[i]) b1 (by rw [o1]; simpa using hx) (one b1 ?_)
   simpa [lwp_pure] using hQ
  | arr n el inf hu hi h1 hl hf =>
   rw [lwp_bind, lwp_underlying hu]
   simp only [lwp_bind, Std.Legacy.Range.forIn_eq_forIn_range']
   refine lwp_all (s1 := ()) (c := fun _ => true) ?_ (by simpa [lwp_pure] using hq)
   intro i him Q hQ
   have hin : i < n := by
    have := him
    simp [Std.Legacy.Range.size] at this
    omega
   have hx := List.getElem?_eq_getElem (l := vs) (i := i) (by omega)
   have b1 := hf _ (List.mem_of_getElem? hx)
   simp only [lwp_bind, lwp_sizeOf hi, h1, Nat.mul_one]
   refine lwp_partF (v := vs[i]) b1 ?_ ?_
   ·rw [List.getElem?_toArray]; exact hx
   refine one b1 ?_
   simpa [lwp_pure] using hQ
theorem sameNow_iff {kd : TypeDesc} {a b : Value} {c : Bool} (h : Instr.sameNow kd a b = some c) : c = true ↔ a = b := by
 unfold Instr.sameNow at h
 split at h
 ·split at h
  ·rename_i e; cases h; subst e; simp
  ·cases h
 ·cases h; simp [str_beq]
 ·cases h; simp
 ·cases h
theorem findNow_spec {kd : TypeDesc} {k : Value} : ∀ (es : List MapEntry) (i : Nat) (r : Option (Nat × Value)), Instr.findNow kd k es i = some r →
  (∃ j e, es[j]? = some e ∧ e.key = k ∧ r = some (i + j, e.val)) ∨ ((∀ e ∈ es, e.key ≠ k) ∧ r = none)
 | [], i, r, h => by cases h; exact .inr ⟨fun e he => by simp at he, rfl⟩
 | e :: es, i, r, h => by
  unfold Instr.findNow at h
  split at h
  ·rename_i hs
   cases h
   exact .inl ⟨0, e, rfl, ((sameNow_iff hs).1 rfl).symm, rfl⟩
  ·rename_i hs
   have hne : e.key ≠ k := fun hh => by have := (sameNow_iff hs).2 hh.symm; cases this
   rcases findNow_spec es (i + 1) r h with ⟨j, e', h1, h2, h3⟩ | ⟨h1, h2⟩
   ·exact .inl ⟨j + 1, e', by simpa using h1, h2, by rw [h3]; congr 2; omega⟩
   ·refine .inr ⟨fun e' he' => ?_, h2⟩
    rcases List.mem_cons.1 he' with rfl | he'
    ·exact hne
    ·exact h1 e' he'
  ·cases h
theorem lwp_findAskingK {Q : Option (Nat × Value) → Cells → Prop} {kt : TypeId} {k : Value} (hk : FKey P kt k) : ∀ (es : List MapEntry) (i : Nat), (∀ e ∈ es, FKey P kt e.key) →
  (∀ j e, es[j]? = some e → e.key = k → Q (some (i + j, e.val)) h) → ((∀ e ∈ es, e.key ≠ k) → Q none h) → Sem.lwp P (Instr.findAsking kt k es i) Q E h
 | [], i, _, _, h2 => h2 fun e he => by simp at he
 | e :: es, i, hes, h1, h2 => by
  unfold Instr.findAsking
  rw [lwp_bind]
  refine lwp_equalK hk (hes e (by simp)) fun c hc => ?_
  cases c with
  | true =>
   simp only [if_true, lwp_pure]
   have := h1 0 e rfl (hc.1 rfl).symm
   simpa using this
  | false =>
   have hne : e.key ≠ k := fun hh => by have := hc.2 hh.symm; cases this
   simp only [Bool.false_eq_true, if_false]
   refine lwp_findAskingK hk es (i + 1) (fun e' he' => hes e' (by simp [he'])) (fun j e' he' hk' => ?_) fun hno => h2 fun e' he' => ?_
   ·have := h1 (j + 1) e' (by simpa using he') hk'
    rw [show i + 1 + j = i + (j + 1) by omega]; exact this
   ·rcases List.mem_cons.1 he' with rfl | he'
    ·exact hne
    ·exact hno e' he'
theorem FKey.und {kt : TypeId} {k : Value} (hk : FKey P kt k) : ∃ d, P.underlying kt = some d := by
 rcases hk with hb | ⟨vs, rfl, hf⟩
 ·obtain ⟨d, hu, _⟩ := hb.agg; exact ⟨d, hu⟩
 ·cases hf <;> exact ⟨_, ‹P.underlying kt = some _›⟩
theorem lwp_findKeyK {Q : Option (Nat × Value) → Cells → Prop} {kt : TypeId} {k : Value} {es : List MapEntry} (hk : FKey P kt k) (hes : ∀ e ∈ es, FKey P kt e.key) (h1 : ∀ j e, es[j]? = some e → e.key = k → Q (some (j, e.val)) h) (h2 : (∀ e ∈ es, e.key ≠ k) → Q none h) : Sem.lwp P (Instr.findKey kt k es) Q E h := by
 unfold Instr.findKey
 obtain ⟨d, hu⟩ := hk.und
 rw [lwp_bind, lwp_underlying hu]
 cases hr : Instr.findNow d k es 0 with
 | some r =>
  simp only [lwp_pure]
  rcases findNow_spec es 0 r hr with ⟨j, e, g1, g2, g3⟩ | ⟨g1, g2⟩
  ·rw [g3]
   have := h1 j e g1 g2
   simpa using this
  ·rw [g2]; exact h2 g1
 | none =>
  exact lwp_findAskingK hk es 0 hes (fun j e he hke => by have := h1 j e he hke; simpa using this) h2
theorem sameBits_bas {t : TypeId} {v : Value} (b : isBas P t v) (d : Nat) : Instr.sameBits d v v = true := by
 rcases b with ⟨_, n, rfl⟩ | ⟨_, n, rfl⟩ | ⟨_, n, rfl⟩ <;> unfold Instr.sameBits <;> simp [str_beq]
theorem sameBits_all : ∀ {l : List Value}, (∀ v ∈ l, Instr.sameBits 9999 v v = true) → ((l.zip l).all fun (x, y) => Instr.sameBits 9999 x y) = true
 | [], _ => rfl
 | v :: l, hl => by
  simp only [List.zip_cons_cons, List.all_cons, Bool.and_eq_true]
  exact ⟨hl v (by simp), sameBits_all fun w hw => hl w (by simp [hw])⟩
theorem sameBits_flat {kt : TypeId} {k : Value} (hk : FKey P kt k) : Instr.sameBits 10000 k k = true := by
 rcases hk with hb | ⟨vs, rfl, hf⟩
 ·exact sameBits_bas hb _
 ·rw [show (10000 : Nat) = 9999 + 1 from rfl]
  unfold Instr.sameBits
  simp only [beq_self_eq_true, Bool.true_and]
  refine sameBits_all fun v hv => ?_
  cases hf with
  | str fs hu hs hl hf =>
   obtain ⟨i, hi⟩ := List.mem_iff_getElem?.1 (show v ∈ vs by simpa using hv)
   have hil : i < vs.length := (List.getElem?_eq_some_iff.1 hi).1
   exact sameBits_bas (hf i _ v (List.getElem?_eq_getElem (by omega)) hi).2.2 _
  | arr n el inf hu hi h1 hl hf => exact sameBits_bas (hf v (by simpa using hv)) _
theorem lwp_lookupK {Q : Value → Cells → Prop} {t kt et : TypeId} {s b : Nat} {z : Value} {m : Nat} {es : Array MapEntry} {k : Value} {ok : Bool} (hu : P.underlying t = some (.map kt et)) (hi : (P.info? et).map (fun i => (i.size, i.bytes, i.zero)) = some (s, b, some z)) (hm : MapAt h m es) (hk : FKey P kt k) (hes : ∀ e ∈ es.toList, FKey P kt e.key)
  (h1 : ∀ e ∈ es.toList, e.key = k → Q (if ok then .tuple #[e.val, .bool true] else e.val) h) (h2 : (∀ e ∈ es.toList, e.key ≠ k) → Q (if ok then .tuple #[z, .bool false] else z) h) : Sem.lwp P (Instr.lookup t (.map (some m)) k ok) Q E h := by
 obtain ⟨inf, g1, _, _, g4⟩ := info_of hi
 obtain ⟨c, hmc⟩ := hm
 unfold Instr.lookup
 rw [lwp_bind, lwp_underlying hu]
 simp only [lwp_bind]
 refine ⟨_, _, hmc, trivial, ?_⟩
 show Sem.lwp P (_ >>= _) Q E h
 rw [lwp_bind, lwp_pure, lwp_bind]
 refine lwp_checkKeyK hk ?_
 rw [lwp_bind]
 refine lwp_findKeyK hk hes (fun j e he hek => ?_) fun hno => ?_
 ·simp only [lwp_pure, lwp_bind]
  have := h1 e (List.mem_of_getElem? he) hek
  cases ok <;> exact this
 ·simp only [lwp_bind, lwp_zeroValue g1 g4, lwp_pure]
  have := h2 hno
  cases ok <;> exact this
theorem lwp_mapUpdateK {Q : Unit → Cells → Prop} {t kt et : TypeId} {m : Nat} {es : Array MapEntry} {k v : Value} (hu : P.underlying t = some (.map kt et)) (hm : MapAt h m es) (hk : FKey P kt k) (hes : ∀ e ∈ es.toList, FKey P kt e.key)
  (hq : ∀ es' c, (∀ e ∈ es'.toList, (e.key = k ∧ e.val = v) ∨ e ∈ es.toList) → Q () (h.upd m (true, .map es' c))) : Sem.lwp P (Instr.mapUpdate t (.map (some m)) k v) Q E h := by
 obtain ⟨c, hmc⟩ := hm
 unfold Instr.mapUpdate
 rw [lwp_bind, lwp_underlying hu]
 simp only [lwp_bind]
 refine ⟨_, _, hmc, trivial, ?_⟩
 show Sem.lwp P (_ >>= _) _ E h
 rw [lwp_bind]
 refine lwp_checkKeyK hk ?_
 rw [lwp_bind]
 refine lwp_findKeyK hk hes (fun j e he hek => ?_) fun hno => ?_
 ·have he' : es[j]? = some e := by rw [← Array.getElem?_toList]; exact he
  simp only [lwp_bind, Instr.keyThatStays, he', Option.map_some, Option.getD_some, hek, sameBits_flat hk, if_true, lwp_pure]
  refine ⟨⟨_, hmc, trivial⟩, ?_⟩
  have hmem : ∀ i : Nat, (es.modify j fun e => { e with key := k, val := v })[i]? = if i = j then (es[i]?).map (fun e => { e with key := k, val := v }) else es[i]? := by
   intro i; rw [Array.getElem?_modify]; by_cases hij : j = i
   ·subst hij; simp
   ·rw [if_neg hij, if_neg (Ne.symm hij)]
  refine hq _ _ (fun e2 he2 => ?_)
  obtain ⟨i, hi, hie⟩ := List.getElem_of_mem he2
  have h3 : (es.modify j fun e => { e with key := k, val := v })[i]? = some e2 := by rw [← Array.getElem?_toList, List.getElem?_eq_getElem hi, hie]
  rw [hmem] at h3
  by_cases hij : i = j
  ·rw [if_pos hij] at h3
   cases h4 : es[i]? with
   | none => rw [h4] at h3; cases h3
   | some e0 => rw [h4] at h3; simp only [Option.map_some, Option.some.injEq] at h3; subst h3; exact .inl ⟨rfl, rfl⟩
  ·rw [if_neg hij] at h3
   right
   exact List.mem_of_getElem? (i := i) (by rw [Array.getElem?_toList]; exact h3)
 ·refine ⟨⟨_, hmc, trivial⟩, ?_⟩
  refine hq _ _ (fun e2 he2 => ?_)
  simp only [Array.toList_push, List.mem_append, List.mem_singleton] at he2
  rcases he2 with he2 | rfl
  ·exact .inr he2
  ·exact .inl ⟨rfl, rfl⟩
variable {X : XP} {Q : Leaf → LH → Prop}
theorem t_lookupK {h : LH} {K : Value → T} {t kt et : TypeId} {s b : Nat} {z : Value} {m : Nat} {es : Array MapEntry} {k : Value} {ok : Bool} (hu : P.underlying t = some (.map kt et)) (hi : (P.info? et).map (fun i => (i.size, i.bytes, i.zero)) = some (s, b, some z)) (hm : MapAt h.get m es) (hk : FKey P kt k) (hes : ∀ e ∈ es.toList, FKey P kt e.key)
  (h1 : ∀ e ∈ es.toList, e.key = k → (K (if ok then .tuple #[e.val, .bool true] else e.val)).wp X P Q h) (h2 : (∀ e ∈ es.toList, e.key ≠ k) → (K (if ok then .tuple #[z, .bool false] else z)).wp X P Q h) : (T.sem false (Instr.lookup t (.map (some m)) k ok) K).wp X P Q h :=
 t_sem (A := fun v h' => h' = h.get ∧ (K v).wp X P Q h) (lwp_lookupK hu hi hm hk hes (fun e he hek => ⟨rfl, h1 e he hek⟩) fun hno => ⟨rfl, h2 hno⟩) (by rintro v h' ⟨rfl, hw⟩; exact hw)
theorem t_mapUpdateK {h : LH} {K : Value → T} {t kt et : TypeId} {m : Nat} {es : Array MapEntry} {k v : Value} (hu : P.underlying t = some (.map kt et)) (hm : MapAt h.get m es) (hk : FKey P kt k) (hes : ∀ e ∈ es.toList, FKey P kt e.key)
  (hq : ∀ es' c, (∀ e ∈ es'.toList, (e.key = k ∧ e.val = v) ∨ e ∈ es.toList) → (K (.tuple #[])).wp X P Q { h with get := h.get.upd m (true, .map es' c) }) : (T.sem false (Sem.bind (Instr.mapUpdate t (.map (some m)) k v) fun _ => pure (.tuple #[])) K).wp X P Q h :=
 t_sem (A := fun w h' => w = .tuple #[] ∧ ∃ es' c, (∀ e ∈ es'.toList, (e.key = k ∧ e.val = v) ∨ e ∈ es.toList) ∧ h' = h.get.upd m (true, .map es' c))
  (Sem.lwp_bind _ _ (lwp_mapUpdateK hu hm hk hes fun es' c he => by rw [lwp_pure]; exact ⟨rfl, es', c, he, rfl⟩)) (by rintro w h' ⟨rfl, es', c, he, rfl⟩; exact hq es' c he)
theorem t_eqK {h : LH} {K : Value → T} {t : TypeId} {x y : Operand} {ys bs : List Value} (ha : FlatAgg P t ys) (hb : FlatAgg P t bs) (hg : P.eqGuardType P.depth t = false) (hk : ∀ c : Bool, (c = true ↔ ys = bs) → (K (.bool c)).wp X P Q h) :
  (T.sem false (Sem.bind (eqGuard .eql t x y (.agg ys.toArray) (.agg bs.toArray)) fun _ => binOp .eql t (.agg ys.toArray) (.agg bs.toArray)) K).wp X P Q h := by
 refine t_sem (A := fun w h' => h' = h.get ∧ (K w).wp X P Q h) (Sem.lwp_bind _ _ ?_) (by rintro w h' ⟨rfl, hw⟩; exact hw)
 unfold eqGuard
 simp only [Bool.not_true, Bool.false_eq_true, if_false, lwp_bind, lwp_program, hg, Bool.not_false, if_true, lwp_pure]
 unfold binOp
 rw [lwp_bind]
 refine lwp_equalK (.inr ⟨_, rfl, ha⟩) (.inr ⟨_, rfl, hb⟩) fun c hc => ⟨rfl, hk c (by rw [hc, agg_inj])⟩
theorem str_list (a b : ByteArray) : (a.toList == b.toList) = true ↔ a = b := by
 rw [beq_iff_eq, ByteArray.toList_eq, ByteArray.toList_eq]
 obtain ⟨x⟩ := a
 obtain ⟨y⟩ := b
 constructor
 ·intro e
  have : x = y := by apply Array.ext'; simpa using e
  rw [this]
 ·intro e; cases e; rfl
theorem t_eqStr {h : LH} {K : Value → T} {t : TypeId} {x y : Operand} {a b : ByteArray} (hu : P.underlying t = some .string) (hk : ∀ c : Bool, (c = true ↔ a = b) → (K (.bool c)).wp X P Q h) :
  (T.sem false (Sem.bind (eqGuard .eql t x y (.string a) (.string b)) fun _ => binOp .eql t (.string a) (.string b)) K).wp X P Q h := by
 refine t_sem (A := fun w h' => h' = h.get ∧ (K w).wp X P Q h) (Sem.lwp_bind _ _ ?_) (by rintro w h' ⟨rfl, hw⟩; exact hw)
 unfold eqGuard
 simp only [Bool.not_true, Bool.false_eq_true, if_false, lwp_pure]
 unfold binOp
 show Sem.lwp P (Op.stringOp .eql a b) _ _ _
 unfold Op.stringOp
 rw [lwp_pure]
 exact ⟨rfl, hk _ (str_list a b)⟩
theorem t_lenStr {h : LH} {K : Value → T} {t t' : TypeId} {s : ByteArray} (hu : P.underlying t = some .string) (hk : (K (.int .i64 (s.size : Int))).wp X P Q h) : (T.sem false (Builtin.len_ #[t] t' #[.string s]) K).wp X P Q h := by
 refine t_sem (A := fun w h' => h' = h.get ∧ (K w).wp X P Q h) ?_ (by rintro w h' ⟨rfl, hw⟩; exact hw)
 unfold Builtin.len_
 change Sem.lwp P (underlying t >>= _) _ _ _
 rw [lwp_bind, lwp_underlying hu]
 exact ⟨rfl, hk⟩
/-! ### Flat types, told by a look -/
inductive Bk where
 | i | b | s
def basB (P : Program) (t : TypeId) (k : Bk) : Bool := match P.underlying t, k with
 | some (.int .i64), .i => true
 | some .bool, .b => true
 | some .string, .s => true
 | _, _ => false
def BasV : Bk → Value → Prop
 | .i, v => ∃ n, v = .int .i64 n
 | .b, v => ∃ n, v = .bool n
 | .s, v => ∃ n, v = .string n
theorem basB_is {t : TypeId} {k : Bk} {v : Value} (h : basB P t k = true) (hv : BasV k v) : isBas P t v := by
 unfold basB at h
 split at h
 ·rename_i hu; exact .inl ⟨hu, hv⟩
 ·rename_i hu; exact .inr (.inl ⟨hu, hv⟩)
 ·rename_i hu; exact .inr (.inr ⟨hu, hv⟩)
 ·cases h
def flatGo (P : Program) : List Field → List Bk → Nat → Bool
 | [], [], _ => true
 | f :: fs, k :: ks, i => f.name != "_" && Nat.beq f.offset i && basB P f.type k && flatGo P fs ks (i + 1)
 | _, _, _ => false
def flatB (P : Program) (t : TypeId) (ks : List Bk) : Bool := match P.underlying t with
 | some (.struct fs) => flatGo P fs.toList ks 0 && !P.stoodInHeld t
 | _ => false
theorem flatGo_at : ∀ {fs : List Field} {ks : List Bk} {i : Nat}, flatGo P fs ks i = true → fs.length = ks.length ∧ ∀ (j : Nat) f k, fs[j]? = some f → ks[j]? = some k → f.name ≠ "_" ∧ f.offset = i + j ∧ basB P f.type k = true
 | [], [], i, _ => ⟨rfl, fun j f k h => by simp at h⟩
 | f :: fs, k :: ks, i, h => by
  unfold flatGo at h
  simp only [Bool.and_eq_true, bne_iff_ne] at h
  obtain ⟨⟨⟨h1, h2⟩, h3⟩, h4⟩ := h
  obtain ⟨g1, g2⟩ := flatGo_at h4
  refine ⟨by simp [g1], fun j f' k' hf hk => ?_⟩
  cases j with
  | zero => simp at hf hk; subst hf; subst hk; exact ⟨h1, nbeq_true h2, h3⟩
  | succ j =>
   obtain ⟨a, b, c⟩ := g2 j f' k' (by simpa using hf) (by simpa using hk)
   exact ⟨a, by omega, c⟩
 | [], k :: ks, i, h => by cases h
 | f :: fs, [], i, h => by cases h
theorem flat_of {t : TypeId} {ks : List Bk} (h : flatB P t ks = true) {vs : List Value} (hl : vs.length = ks.length) (hv : ∀ (i : Nat) k v, ks[i]? = some k → vs[i]? = some v → BasV k v) : FlatAgg P t vs := by
 unfold flatB at h
 split at h
 ·rename_i fs hu
  simp only [Bool.and_eq_true, Bool.not_eq_true'] at h
  obtain ⟨h1, h2⟩ := h
  obtain ⟨g1, g2⟩ := flatGo_at h1
  refine .str fs hu h2 (by omega) fun i f v hf hvi => ?_
  have hik : i < ks.length := by have := (List.getElem?_eq_some_iff.1 hf).1; omega
  have hk := List.getElem?_eq_getElem hik
  obtain ⟨a, b, c⟩ := g2 i f _ hf hk
  exact ⟨a, by omega, basB_is c (hv i _ v hk hvi)⟩
 ·cases h
theorem flat_ints {t : TypeId} {vs : List Int} (h : flatB P t (vs.map fun _ => Bk.i) = true) : FlatAgg P t (vs.map fun n => Value.int .i64 n) := by
 refine flat_of h (by simp) fun i k v hk hv => ?_
 rw [List.getElem?_map] at hk hv
 cases hx : vs[i]? with
 | none => rw [hx] at hk; cases hk
 | some n => rw [hx] at hk hv; cases hk; cases hv; exact ⟨n, rfl⟩
end Go.TM
end
section
namespace Go.TM
open Go Go.Conc
variable {P : Program} {E : Halt → Cells → Prop} {h : Cells}
def ByteE (h : Cells) (a : Addr) (c : UInt8) : Prop := h.cell? (a.add 0) = some (.int .u8 (c.toNat : Int))
theorem freeze_upd {h : Cells} {r : Nat} {cs : Array Value} {el : TypeId} {k : Nat} : (h.upd r (true, .cells cs el (0, 0))).freeze { block := r, off := k } 1 = h.upd r (true, .cells cs el (k, k + 1)) := by
 funext r'
 unfold Cells.freeze Cells.upd
 by_cases e : r' = r
 ·subst e; simp [frzO]
 ·simp [e]
theorem lwp_bytes {Q : Value → Cells → Prop} {el : TypeId} {s : ByteArray} (hq : ∀ r cap, h r = none → s.size ≤ cap → ∀ cs : Array Value, (∀ (i : Nat) c, s.data[i]? = some c → cs[i]? = some (.int .u8 (c.toNat : Int))) → Q (.slice (some ⟨r, 0, none⟩) s.size cap) (h.upd r (true, .cells cs el (cs.size, cs.size + 1)))) : Sem.lwp P (Conv.stringToBytes el s) Q E h := by
 unfold Conv.stringToBytes
 rw [lwp_bind]
 show (if _ then _ else _)
 split
 ·rename_i hf; simp [Question.forced] at hf
 ·intro t
  simp only [lwp_bind]
  refine lwp_newRow fun r hr => ?_
  unfold markStringish
  rw [lwp_bind]
  refine ⟨⟨_, Cells.upd_self _ _ _⟩, ?_⟩
  have hs : ∀ (cs : Array Value), (h.upd r (true, .cells cs el (0, 0))).shape? r = some (el, cs.size) := by
   intro cs; unfold Cells.shape?; rw [Cells.upd_self]
  simp only [hs]
  refine ⟨by decide, ⟨_, Cells.upd_self _ _ _⟩, ?_⟩
  rw [freeze_upd]
  refine hq r _ hr (Nat.le_add_right _ _) _ fun i c hc => ?_
  have hi : i < s.data.size := (Array.getElem?_eq_some_iff.1 hc).1
  rw [Array.getElem?_append_left (by simpa using hi), Array.getElem?_map, hc]; rfl
variable {X : XP} {Q : Leaf → LH → Prop}
theorem t_bytes {h : LH} {K : Value → T} {src dst el : TypeId} {s : ByteArray} (h1 : P.underlying src = some .string) (h2 : P.underlying dst = some (.slice el)) (h3 : P.underlying el = some (.int .u8)) (hs : s.size < 4611686018427387904)
  (hk : ∀ r cap h', h.le h' → Sl ByteE 1 h'.get (some ⟨r, 0, none⟩) s.size s.data.toList → (K (.slice (some ⟨r, 0, none⟩) s.size cap)).wp X P Q h') : (T.sem false (convert src dst (.string s)) K).wp X P Q h := by
 refine t_sem (A := fun w h' => ∃ r cap, w = .slice (some ⟨r, 0, none⟩) s.size cap ∧ h.get.le h' ∧ Sl ByteE 1 h' (some ⟨r, 0, none⟩) s.size s.data.toList) ?_ (by rintro w h' ⟨r, cap, rfl, hl, hsl⟩; exact hk r cap _ ⟨hl, rfl, rfl, rfl⟩ hsl)
 unfold convert
 simp only [lwp_bind, lwp_underlying h1, lwp_underlying h2, lwp_underlying h3]
 refine lwp_bytes fun r cap hr hcap cs hcs => ⟨r, cap, rfl, Cells.le_upd _ hr, ?_⟩
 refine ⟨by rw [Array.length_toList]; rfl, by rw [Array.length_toList]; exact hs, fun i c hc => ⟨_, rfl, ?_⟩⟩
 unfold ByteE
 rw [add_plain, add_plain]
 simp only [Nat.zero_add, Nat.mul_one, Nat.add_zero]
 unfold Cells.cell?
 rw [Cells.upd_self]
 exact hcs i c (by simpa using hc)
theorem t_indexS {h : LH} {K : Value → T} {t : TypeId} {s : ByteArray} {i : Nat} {c : UInt8} (hu : P.underlying t = some .string) (hc : s.data[i]? = some c) (hk : (K (.int .u8 (c.toNat : Int))).wp X P Q h) : (T.sem false (Instr.index t (.string s) (.int .i64 (i : Int))) K).wp X P Q h := by
 refine t_sem (A := fun w h' => h' = h.get ∧ w = .int .u8 (c.toNat : Int)) ?_ (by rintro w h' ⟨rfl, rfl⟩; exact hk)
 unfold Instr.index
 simp only [asIntOf, lwp_bind, lwp_pure, lwp_underlying hu]
 have hi : i < s.size := (Array.getElem?_eq_some_iff.1 hc).1
 have h1 : s[(i : Int).toNat]? = some c := by
  rw [Int.toNat_natCast, getElem?_pos s i hi]
  have := Array.getElem?_eq_getElem (xs := s.data) (i := i) hi
  rw [this] at hc
  exact hc
 rw [if_pos (by omega), h1]
 exact ⟨rfl, rfl⟩
end Go.TM
end
section
namespace Go.Proofs.YtldamlcehbdkdaaGreatDoor
open Go Go.TM Go.Proofs
attribute [local irreducible] T.wp CV FWK
def indexF (x : Int) : Nat → List Int → Int
 | _, [] => -1
 | i, y :: l => if x == y then i else indexF x (i + 1) l
theorem indexF_ge (x : Int) : ∀ (l : List Int) (i : Nat), decide (indexF x i l ≥ 0) = l.contains x := by
 intro l
 induction l with
 | nil => intro i; rfl
 | cons y l ih =>
  intro i
  rw [indexF, List.contains_cons]
  split
  ·rename_i h; rw [h]; simp
  ·rename_i h
   have h' : (x == y) = false := by simpa using h
   rw [ih, h', Bool.false_or]
theorem c106 {h : LH} {p : Option Addr} {n c : Nat} {l : List Int} (hl : Sl IntE 1 h.get p n l) (x : Int) : Pu Tryz.prog 126 #[.slice p n c, .int .i64 x] h (.int .i64 (indexF x 0 l)) := by
 refine w106 _ _ _ _ X0_ok ?_
 unfold n106
 have hn := hl.1
 have hb := hl.2.1
 refine t_loop (fun m vs h' => h' = h ∧ ∃ i : Nat, vs = [.int .i64 0, .int .i64 i] ∧ i ≤ n ∧ m = n - i ∧ indexF x 0 l = indexF x i (l.drop i)) ⟨rfl, 0, rfl, Nat.zero_le _, rfl, rfl⟩ ?_
 rintro Y m vs _ hY ⟨rfl, i, rfl, hi, rfl, hc⟩
 refine gZ ?_
 refine t_if (fun e1 => ?_) (fun e1 => ?_)
 ·obtain ⟨y, a, hx, ha, e2⟩ := hl.at (i := i) (by omega)
  unfold IntE at e2
  refine gZ ?_
  rw [drop_of hx, indexF] at hc
  refine t_cond (fun e3 => ?_) (fun e3 => ?_)
  ·refine gZ ?_
   refine t_ret ⟨?_, rfl⟩
   rw [hc, if_pos e3]
  ·refine t_again (hY (n - (i + 1)) _ _ (by omega) ⟨rfl, i + 1, ?_, by omega, rfl, ?_⟩)
   ·rw [wrap_id (by omega) (by omega)]; rfl
   ·rw [hc, if_neg (by simp [e3])]
 ·refine gZ ?_
  refine t_ret ⟨?_, rfl⟩
  rw [hc, List.drop_eq_nil_of_le (by omega)]; rfl
theorem c100 {h : LH} {p : Option Addr} {n c : Nat} {l : List Int} (hl : Sl IntE 1 h.get p n l) (x : Int) : Pu Tryz.prog 66 #[.slice p n c, .int .i64 x] h (.bool (l.contains x)) := by
 refine w100 _ _ _ _ X0_ok ?_
 unfold n100
 refine t_pu (c106 hl x) ?_
 refine gZ ?_
 refine t_ret ⟨?_, rfl⟩
 rw [indexF_ge]
def placeF {α : Type} (f : α → Bool) : Nat → List α → Int
 | _, [] => -1
 | i, y :: l => if f y then i else placeF f (i + 1) l
theorem placeF_ge {α : Type} (f : α → Bool) : ∀ (l : List α) (i : Nat), decide (placeF f i l ≥ 0) = l.any f := by
 intro l
 induction l with
 | nil => intro i; rfl
 | cons y l ih =>
  intro i
  rw [placeF, List.any_cons]
  split
  ·rename_i h; rw [h]; simp
  ·rename_i h
   have h' : f y = false := by simpa using h
   rw [ih, h', Bool.false_or]
end Go.Proofs.YtldamlcehbdkdaaGreatDoor
end
section
namespace Go.Proofs.YtldamlcehbdkdaaGreatDoor
open Go Go.TM Go.Proofs
attribute [local irreducible] T.wp CV FWK
theorem c49 {h : LH} (n a b : Int) : Pu Tryz.prog 96 #[.int .i64 n, .int .i64 a, .int .i64 b] h (.bool (isIn n a b)) := by
 refine w49 _ _ _ X0_ok ?_
 unfold n49
 refine t_if (fun e => ?_) (fun e => ?_) <;> refine t_ret ⟨?_, rfl⟩ <;> simp [isIn, e]
end Go.Proofs.YtldamlcehbdkdaaGreatDoor
end
section
namespace Go.Proofs.YtldamlcehbdkdaaGreatDoor
open Go Go.TM Go.Proofs
set_option linter.unusedVariables false
set_option maxRecDepth 100000
variable {X : XP} {h : LH} {A : Value → LH → Prop}
noncomputable def n3131 (t_0p : Option Addr) (t_0n t_0c : Nat) (t_1p : Option Addr) (t_1n t_1c : Nat) (t_2p : Option Addr) (t_2n t_2c : Nat) : T := .blk (bif decide ((↑t_0n : Int) > 20) then .leaf (.retn [.bool true]) else bif decide ((↑t_1n : Int) > 20) then .leaf (.retn [.bool true]) else bif decide ((↑t_2n : Int) > 20) then .leaf (.retn [.bool true]) else .leaf (.again [.bool false])) (fun vs => .popB vs fun b vs => .unNil vs (.loop [.bool b, .int .i64 0] (fun vs => .popB vs fun b vs => .popI .i64 vs fun n vs => .unNil vs (bif decide (n < (↑t_0n : Int)) then .need (0 ≤ n ∧ n < (↑t_0n : Int)) (.someA t_0p fun a => .loadS ((a.add (n.toNat * 1)).add 0) fun p n_1 c => bif decide ((↑n_1 : Int) > 20) then .leaf (.retn [.bool true, .int .i64 n]) else .loop [.bool b, .int .i64 0] (fun vs => .popB vs fun b vs => .popI .i64 vs fun n_2 vs => .unNil vs (.need (0 ≤ n ∧ n < (↑t_0n : Int)) (.someA t_0p fun a => .loadS ((a.add (n.toNat * 1)).add 0) fun p n_3 c => bif decide (n_2 < (↑n_3 : Int)) then .need (0 ≤ n ∧ n < (↑t_0n : Int)) (.someA t_0p fun a => .loadS ((a.add (n.toNat * 1)).add 0) fun p n c => .need (0 ≤ n_2 ∧ n_2 < (↑n : Int)) (.someA p fun a => .loadStr ((a.add (n_2.toNat * 2)).add 0) fun s => .sem false (Builtin.len_ #[9] 3 #[.string s]) fun v => .unI .i64 v fun n => bif decide (n > 100) then .leaf (.retn [.bool true, .int .i64 n_2]) else .leaf (.again [.bool b, .int .i64 (IntKind.wrap .i64 (n_2 + 1))]))) else .leaf (.brk [.bool b, .int .i64 n_2])))) (fun vs => .popB vs fun b vs => .popI .i64 vs fun n_2 vs => .unNil vs (.leaf (.again [.bool b, .int .i64 (IntKind.wrap .i64 (n + 1))]))) (fun vs => .popB vs fun b vs => .popI .i64 vs fun n_2 vs => .unNil vs (.leaf (.retn [.bool b, .int .i64 n]))) fun x x_1 => .fail) else .leaf (.brk [.bool b, .int .i64 n]))) (fun vs => .popB vs fun b vs => .popI .i64 vs fun n vs => .unNil vs (.leaf (.ret (.bool false)))) (fun vs => .popB vs fun b vs => .popI .i64 vs fun n vs => .unNil vs (.leaf (.ret (.bool b)))) fun x x_1 => .fail)) (fun vs => .popB vs fun b vs => .unNil vs (.leaf (.ret (.bool b)))) fun x x_1 => .fail
theorem w3131 (t_0p : Option Addr) (t_0n t_0c : Nat) (t_1p : Option Addr) (t_1n t_1c : Nat) (t_2p : Option Addr) (t_2n t_2c : Nat) (hX : XOK X) (hw : (n3131 t_0p t_0n t_0c t_1p t_1n t_1c t_2p t_2n t_2c).wp X Tryz.prog (retQ A) h) : FWK X Tryz.prog .normal 50 #[.agg #[.slice t_0p t_0n t_0c, .slice t_1p t_1n t_1c, .slice t_2p t_2n t_2c]] h A := fwk_neat (show ftree ({ P := Tryz.prog, priv := [1], loops := [{ id := 2, slots := [(2, .bool), (4, .int .i64)], ro := [1], outs := [] }, { id := 0, slots := [(2, .bool), (3, .int .i64)], ro := [1], outs := [] }], joins := [{ id := 3, slots := [(2, .bool)], ro := [1], outs := [] }] }) Tryz.f50 [.agg #[.slice t_0p t_0n t_0c, .slice t_1p t_1n t_1c, .slice t_2p t_2n t_2c]] = n3131 t_0p t_0n t_0c t_1p t_1n t_1c t_2p t_2n t_2c by kernel_rfl) (by simp) (by kernel_rfl) (by kernel_rfl) hX hw
noncomputable def n3132 (t_0p : Option Addr) (t_0n t_0c : Nat) (t_1p : Option Addr) (t_1n t_1c : Nat) (t_2p : Option Addr) (t_2n t_2c : Nat) : T := .call false 96 #[.int .i64 (↑t_0n : Int), .int .i64 1, .int .i64 3] fun v => .unB v fun b => bif !b then .leaf (.ret (.int .i64 2)) else .loop [.int .i64 0, .int .i64 0] (fun vs => .popI .i64 vs fun n vs => .popI .i64 vs fun n_1 vs => .unNil vs (bif decide (n_1 < (↑t_0n : Int)) then .need (0 ≤ n_1 ∧ n_1 < (↑t_0n : Int)) (.someA t_0p fun a => .loadS ((a.add (n_1.toNat * 1)).add 0) fun p n_2 c => .call false 111 #[.agg #[.slice p n_2 c]] fun v => .unI .i64 v fun n_3 => bif n_3 != 0 then .leaf (.retn [.int .i64 n_3, .int .i64 n_1]) else .leaf (.again [.int .i64 n, .int .i64 (IntKind.wrap .i64 (n_1 + 1))])) else .leaf (.brk [.int .i64 n, .int .i64 n_1]))) (fun vs => .popI .i64 vs fun n vs => .popI .i64 vs fun n_1 vs => .unNil vs (bif decide ((↑t_1n : Int) > 16) then .leaf (.ret (.int .i64 2)) else .loop [.int .i64 n, .int .i64 0] (fun vs => .popI .i64 vs fun n vs => .popI .i64 vs fun n_2 vs => .unNil vs (bif decide (n_2 < (↑t_1n : Int)) then .call false 112 #[.agg #[.slice t_0p t_0n t_0c, .slice t_1p t_1n t_1c, .slice t_2p t_2n t_2c], .int .i64 n_2] fun v => .unI .i64 v fun n_3 => bif n_3 != 0 then .leaf (.retn [.int .i64 n_3, .int .i64 n_2]) else .leaf (.again [.int .i64 n, .int .i64 (IntKind.wrap .i64 (n_2 + 1))]) else .leaf (.brk [.int .i64 n, .int .i64 n_2]))) (fun vs => .popI .i64 vs fun n vs => .popI .i64 vs fun n_2 vs => .unNil vs (bif decide ((↑t_2n : Int) > 10) then .leaf (.ret (.int .i64 2)) else .loop [.int .i64 n, .int .i64 0] (fun vs => .popI .i64 vs fun n vs => .popI .i64 vs fun n_3 vs => .unNil vs (bif decide (n_3 < (↑t_2n : Int)) then .call false 113 #[.agg #[.slice t_0p t_0n t_0c, .slice t_1p t_1n t_1c, .slice t_2p t_2n t_2c], .int .i64 n_3] fun v => .unI .i64 v fun n_4 => bif n_4 != 0 then .leaf (.retn [.int .i64 n_4, .int .i64 n_3]) else .leaf (.again [.int .i64 n, .int .i64 (IntKind.wrap .i64 (n_3 + 1))]) else .leaf (.brk [.int .i64 n, .int .i64 n_3]))) (fun vs => .popI .i64 vs fun n vs => .popI .i64 vs fun n vs => .unNil vs (.leaf (.ret (.int .i64 0)))) (fun vs => .popI .i64 vs fun n vs => .popI .i64 vs fun n_3 vs => .unNil vs (.leaf (.ret (.int .i64 n)))) fun x x_1 => .fail)) (fun vs => .popI .i64 vs fun n vs => .popI .i64 vs fun n_2 vs => .unNil vs (.leaf (.ret (.int .i64 n)))) fun x x_1 => .fail)) (fun vs => .popI .i64 vs fun n vs => .popI .i64 vs fun n_1 vs => .unNil vs (.leaf (.ret (.int .i64 n)))) fun x x_1 => .fail
theorem w3132 (t_0p : Option Addr) (t_0n t_0c : Nat) (t_1p : Option Addr) (t_1n t_1c : Nat) (t_2p : Option Addr) (t_2n t_2c : Nat) (hX : XOK X) (hw : (n3132 t_0p t_0n t_0c t_1p t_1n t_1c t_2p t_2n t_2c).wp X Tryz.prog (retQ A) h) : FWK X Tryz.prog .normal 51 #[.agg #[.slice t_0p t_0n t_0c, .slice t_1p t_1n t_1c, .slice t_2p t_2n t_2c]] h A := fwk_neat (show ftree ({ P := Tryz.prog, priv := [1], loops := [{ id := 0, slots := [(2, .int .i64), (3, .int .i64)], ro := [1], outs := [] }, { id := 2, slots := [(2, .int .i64), (5, .int .i64)], ro := [1], outs := [] }, { id := 4, slots := [(2, .int .i64), (7, .int .i64)], ro := [1], outs := [] }], joins := [] }) Tryz.f51 [.agg #[.slice t_0p t_0n t_0c, .slice t_1p t_1n t_1c, .slice t_2p t_2n t_2c]] = n3132 t_0p t_0n t_0c t_1p t_1n t_1c t_2p t_2n t_2c by kernel_rfl) (by simp) (by kernel_rfl) (by kernel_rfl) hX hw
noncomputable def n3136 (t_0p : Option Addr) (t_0n t_0c : Nat) (t_1p : Option Addr) (t_1n t_1c : Nat) (t_2p : Option Addr) (t_2n t_2c : Nat) (edition : Int) (listp : Option Addr) (listn listc : Nat) : T := .loop [.int .i64 0, .int .i64 0] (fun vs => .popI .i64 vs fun n vs => .popI .i64 vs fun n_1 vs => .unNil vs (bif decide (n_1 < (↑listn : Int)) then .need (0 ≤ n_1 ∧ n_1 < (↑listn : Int)) (.someA listp fun a => .loadI .i64 (a.add (n_1.toNat * 1)) fun n_2 => .call false 127 #[.agg #[.slice t_0p t_0n t_0c, .slice t_1p t_1n t_1c, .slice t_2p t_2n t_2c], .int .i64 edition, .int .i64 n_2] fun v => .unB v fun b => bif !b then .leaf (.retn [.int .i64 6, .int .i64 n_1]) else bif decide (n_1 > 0) then .need (0 ≤ IntKind.wrap .i64 (n_1 - 1) ∧ IntKind.wrap .i64 (n_1 - 1) < (↑listn : Int)) (.someA listp fun a => .loadI .i64 (a.add ((IntKind.wrap .i64 (n_1 - 1)).toNat * 1)) fun n_3 => bif decide (n_2 ≤ n_3) then .leaf (.retn [.int .i64 7, .int .i64 n_1]) else .leaf (.again [.int .i64 n, .int .i64 (IntKind.wrap .i64 (n_1 + 1))])) else .leaf (.again [.int .i64 n, .int .i64 (IntKind.wrap .i64 (n_1 + 1))])) else .leaf (.brk [.int .i64 n, .int .i64 n_1]))) (fun vs => .popI .i64 vs fun n vs => .popI .i64 vs fun n vs => .unNil vs (.leaf (.ret (.int .i64 0)))) (fun vs => .popI .i64 vs fun n vs => .popI .i64 vs fun n_1 vs => .unNil vs (.leaf (.ret (.int .i64 n)))) fun x x_1 => .fail
theorem w3136 (t_0p : Option Addr) (t_0n t_0c : Nat) (t_1p : Option Addr) (t_1n t_1c : Nat) (t_2p : Option Addr) (t_2n t_2c : Nat) (edition : Int) (listp : Option Addr) (listn listc : Nat) (hX : XOK X) (hw : (n3136 t_0p t_0n t_0c t_1p t_1n t_1c t_2p t_2n t_2c edition listp listn listc).wp X Tryz.prog (retQ A) h) : FWK X Tryz.prog .normal 67 #[.agg #[.slice t_0p t_0n t_0c, .slice t_1p t_1n t_1c, .slice t_2p t_2n t_2c], .int .i64 edition, .slice listp listn listc] h A := fwk_neat (show ftree ({ P := Tryz.prog, priv := [3], loops := [{ id := 0, slots := [(6, .int .i64), (11, .int .i64)], ro := [3], outs := [] }], joins := [] }) Tryz.f67 [.agg #[.slice t_0p t_0n t_0c, .slice t_1p t_1n t_1c, .slice t_2p t_2n t_2c], .int .i64 edition, .slice listp listn listc] = n3136 t_0p t_0n t_0c t_1p t_1n t_1c t_2p t_2n t_2c edition listp listn listc by kernel_rfl) (by simp) (by kernel_rfl) (by kernel_rfl) hX hw
noncomputable def n3140 (s : ByteArray) : T := .blk (.sem false (Builtin.len_ #[9] 3 #[.string s]) fun v => .unI .i64 v fun n => bif n == 0 then .leaf (.retn [.bool false]) else .sem false (Builtin.len_ #[9] 3 #[.string s]) fun v => .unI .i64 v fun n => bif decide (n > 10) then .leaf (.retn [.bool false]) else .leaf (.again [.bool false])) (fun vs => .popB vs fun b vs => .unNil vs (.loop [.bool b, .int .i64 0] (fun vs => .popB vs fun b vs => .popI .i64 vs fun n vs => .unNil vs (.sem false (Builtin.len_ #[9] 3 #[.string s]) fun v => .unI .i64 v fun n_1 => bif decide (n < n_1) then .blk (.both (.sem false (Instr.index 9 (.string s) (.int .i64 n)) fun v => .unI .u8 v fun n_2 => .nd (.int .i64 n) (.nd (.string s) (.both (.call false 96 #[.int .i64 (IntKind.wrap .i64 n_2), .int .i64 97, .int .i64 122] fun v => .unB v fun b => .nd (.int .i64 n) (.nd (.string s) (.sem false (Instr.index 9 (.string s) (.int .i64 n)) fun v => .unI .u8 v fun n => .call false 96 #[.int .i64 (IntKind.wrap .i64 n), .int .i64 48, .int .i64 57] fun v => .unB v fun b_1 => .leaf (.again [.bool b, .bool b_1])))) (.sem false (Instr.index 9 (.string s) (.int .i64 n)) fun v => .unI .u8 v fun n => .nd (.int .i64 (IntKind.wrap .i64 n_2)) (.call false 96 #[.int .i64 (IntKind.wrap .i64 n_2), .int .i64 97, .int .i64 122] fun v => .unB v fun b => .nd (.int .i64 (IntKind.wrap .i64 n)) (.call false 96 #[.int .i64 (IntKind.wrap .i64 n), .int .i64 48, .int .i64 57] fun v => .unB v fun b_1 => .leaf (.again [.bool b, .bool b_1]))))))) (.sem false (Instr.index 9 (.string s) (.int .i64 n)) fun v => .unI .u8 v fun n_2 => .nd (.int .i64 n) (.nd (.string s) (.sem false (Instr.index 9 (.string s) (.int .i64 n)) fun v => .unI .u8 v fun n => .nd (.int .i64 (IntKind.wrap .i64 n_2)) (.call false 96 #[.int .i64 (IntKind.wrap .i64 n), .int .i64 97, .int .i64 122] fun v => .unB v fun b => .nd (.int .i64 (IntKind.wrap .i64 n_2)) (.call false 96 #[.int .i64 (IntKind.wrap .i64 n_2), .int .i64 48, .int .i64 57] fun v => .unB v fun b_1 => .leaf (.again [.bool b, .bool b_1]))))))) (fun vs => .popB vs fun b_1 vs => .popB vs fun b_2 vs => .unNil vs (bif !b_1 then bif !b_2 then .leaf (.retn [.bool false, .int .i64 n]) else bif n == 0 then .leaf (.retn [.bool false, .int .i64 n]) else .leaf (.again [.bool b, .int .i64 (IntKind.wrap .i64 (n + 1))]) else .leaf (.again [.bool b, .int .i64 (IntKind.wrap .i64 (n + 1))]))) (fun vs => .popB vs fun b_1 vs => .popB vs fun b_2 vs => .unNil vs (.leaf (.retn [.bool b, .int .i64 n]))) fun x x_1 => .fail else .leaf (.brk [.bool b, .int .i64 n]))) (fun vs => .popB vs fun b vs => .popI .i64 vs fun n vs => .unNil vs (.leaf (.ret (.bool true)))) (fun vs => .popB vs fun b vs => .popI .i64 vs fun n vs => .unNil vs (.leaf (.ret (.bool b)))) fun x x_1 => .fail)) (fun vs => .popB vs fun b vs => .unNil vs (.leaf (.ret (.bool b)))) fun x x_1 => .fail
theorem w3140 (s : ByteArray) (hX : XOK X) (hw : (n3140 s).wp X Tryz.prog (retQ A) h) : FWK X Tryz.prog .normal 71 #[.string s] h A := fwk_neat (show ftree ({ P := Tryz.prog, priv := [], loops := [{ id := 0, slots := [(2, .bool), (3, .int .i64)], ro := [], outs := [] }], joins := [{ id := 7, slots := [(4, .bool), (5, .bool)], ro := [], outs := [] }, { id := 3, slots := [(2, .bool)], ro := [], outs := [] }] }) Tryz.f71 [.string s] = n3140 s by kernel_rfl) (by simp) (by kernel_rfl) (by kernel_rfl) hX hw
noncomputable def n3160 (t_0p : Option Addr) (t_0n t_0c : Nat) (t_1p : Option Addr) (t_1n t_1c : Nat) (t_2p : Option Addr) (t_2n t_2c : Nat) : T := .sem false (Instr.buildSlice 243 3 #[(0, .func (Fn.func 153) #[.agg #[.slice t_0p t_0n t_0c, .slice t_1p t_1n t_1c, .slice t_2p t_2n t_2c]] #[]), (1, .func (Fn.func 154) #[.agg #[.slice t_0p t_0n t_0c, .slice t_1p t_1n t_1c, .slice t_2p t_2n t_2c]] #[]), (2, .func (Fn.func 155) #[.agg #[.slice t_0p t_0n t_0c, .slice t_1p t_1n t_1c, .slice t_2p t_2n t_2c]] #[])]) fun v => .unS v fun a n c => .loop [.int .i64 0, .int .i64 0] (fun vs => .popI .i64 vs fun n_1 vs => .popI .i64 vs fun n_2 vs => .unNil vs (bif decide (n_2 < (↑n : Int)) then .need (0 ≤ n_2 ∧ n_2 < (↑n : Int)) (.someA a fun a => .loadV (a.add (n_2.toNat * 1)) fun v => .callv false v #[] fun v => .unI .i64 v fun n => bif n != 0 then .leaf (.retn [.int .i64 n, .int .i64 n_2]) else .leaf (.again [.int .i64 n_1, .int .i64 (IntKind.wrap .i64 (n_2 + 1))])) else .leaf (.brk [.int .i64 n_1, .int .i64 n_2]))) (fun vs => .popI .i64 vs fun n vs => .popI .i64 vs fun n vs => .unNil vs (.leaf (.ret (.int .i64 0)))) (fun vs => .popI .i64 vs fun n vs => .popI .i64 vs fun n_1 vs => .unNil vs (.leaf (.ret (.int .i64 n)))) fun x x_1 => .fail
theorem w3160 (t_0p : Option Addr) (t_0n t_0c : Nat) (t_1p : Option Addr) (t_1n t_1c : Nat) (t_2p : Option Addr) (t_2n t_2c : Nat) (hX : XOK X) (hw : (n3160 t_0p t_0n t_0c t_1p t_1n t_1c t_2p t_2n t_2c).wp X Tryz.prog (retQ A) h) : FWK X Tryz.prog .normal 106 #[.agg #[.slice t_0p t_0n t_0c, .slice t_1p t_1n t_1c, .slice t_2p t_2n t_2c]] h A := fwk_neat (show ftree ({ P := Tryz.prog, priv := [1, 3], loops := [{ id := 0, slots := [(2, .int .i64), (17, .int .i64)], ro := [1, 3], outs := [] }], joins := [] }) Tryz.f106 [.agg #[.slice t_0p t_0n t_0c, .slice t_1p t_1n t_1c, .slice t_2p t_2n t_2c]] = n3160 t_0p t_0n t_0c t_1p t_1n t_1c t_2p t_2n t_2c by kernel_rfl) (by simp) (by kernel_rfl) (by kernel_rfl) hX hw
noncomputable def n3161 (t_0p : Option Addr) (t_0n t_0c : Nat) (t_1p : Option Addr) (t_1n t_1c : Nat) (t_2p : Option Addr) (t_2n t_2c : Nat) (n : Int) : T := .call false 156 #[.int .i64 n, .int .i64 0, .int .i64 (IntKind.wrap .i64 ((↑t_0n : Int) - 1))] fun v => .unB v fun b => .leaf (.ret (.bool b))
theorem w3161 (t_0p : Option Addr) (t_0n t_0c : Nat) (t_1p : Option Addr) (t_1n t_1c : Nat) (t_2p : Option Addr) (t_2n t_2c : Nat) (n : Int) (hX : XOK X) (hw : (n3161 t_0p t_0n t_0c t_1p t_1n t_1c t_2p t_2n t_2c n).wp X Tryz.prog (retQ A) h) : FWK X Tryz.prog .normal 107 #[.agg #[.slice t_0p t_0n t_0c, .slice t_1p t_1n t_1c, .slice t_2p t_2n t_2c], .int .i64 n] h A := fwk_neat (show ftree ({ P := Tryz.prog, priv := [2], loops := [], joins := [] }) Tryz.f107 [.agg #[.slice t_0p t_0n t_0c, .slice t_1p t_1n t_1c, .slice t_2p t_2n t_2c], .int .i64 n] = n3161 t_0p t_0n t_0c t_1p t_1n t_1c t_2p t_2n t_2c n by kernel_rfl) (by simp) (by kernel_rfl) (by kernel_rfl) hX hw
noncomputable def n3165 (ep : Option Addr) (en ec : Nat) : T := bif decide ((↑en : Int) > 8) then .leaf (.ret (.int .i64 2)) else .loop [.int .i64 0, .int .i64 0] (fun vs => .popI .i64 vs fun n vs => .popI .i64 vs fun n_1 vs => .unNil vs (bif decide (n_1 < (↑en : Int)) then .need (0 ≤ n_1 ∧ n_1 < (↑en : Int)) (.someA ep fun a => .loadStr ((a.add (n_1.toNat * 2)).add 0) fun s => .call false 71 #[.string s] fun v => .unB v fun b => bif !b then .leaf (.retn [.int .i64 4, .int .i64 n_1]) else .loop [.int .i64 n, .int .i64 0] (fun vs => .popI .i64 vs fun n vs => .popI .i64 vs fun n_2 vs => .unNil vs (bif decide (n_2 < n_1) then .need (0 ≤ n_2 ∧ n_2 < (↑en : Int)) (.someA ep fun a => .loadStr ((a.add (n_2.toNat * 2)).add 0) fun s => .need (0 ≤ n_1 ∧ n_1 < (↑en : Int)) (.someA ep fun a_1 => .loadStr ((a_1.add (n_1.toNat * 2)).add 0) fun s_1 => .sem false (Sem.bind (eqGuard BinOp.eql 9 (Operand.tmp 34) (Operand.tmp 40) (.string s) (.string s_1)) fun __r => binOp BinOp.eql 9 (.string s) (.string s_1)) fun v => .unB v fun b => .nd (.pointer (some ((a_1.add (n_1.toNat * 2)).add 0))) (.need (0 ≤ n_1 ∧ n_1 < (↑en : Int)) (.someA ep fun a_2 => .need (AV.val (.pointer (some (a_2.add (n_1.toNat * 2)))) = AV.val (.pointer (some (a_1.add (n_1.toNat * 2))))) (.nd (.int .i64 n_1) (.nd (.slice ep en ec) (.need (AV.pp 1 0 = AV.pp 1 0) (.nd (.pointer (some ((a.add (n_2.toNat * 2)).add 0))) (.need (0 ≤ n_2 ∧ n_2 < (↑en : Int)) (.someA ep fun a_3 => .need (AV.val (.pointer (some (a_3.add (n_2.toNat * 2)))) = AV.val (.pointer (some (a.add (n_2.toNat * 2))))) (.nd (.int .i64 n_2) (.nd (.slice ep en ec) (.need (AV.pp 1 0 = AV.pp 1 0) (bif b then .leaf (.retn [.int .i64 5, .int .i64 n_2]) else .leaf (.again [.int .i64 n, .int .i64 (IntKind.wrap .i64 (n_2 + 1))]))))))))))))))) else .leaf (.brk [.int .i64 n, .int .i64 n_2]))) (fun vs => .popI .i64 vs fun n vs => .popI .i64 vs fun n_2 vs => .unNil vs (.need (0 ≤ n_1 ∧ n_1 < (↑en : Int)) (.someA ep fun a => .loadI .i64 ((a.add (n_1.toNat * 2)).add 1) fun n_3 => .call false 96 #[.int .i64 n_3, .int .i64 1, .int .i64 45] fun v => .unB v fun b => bif !b then .leaf (.retn [.int .i64 1, .int .i64 n_1]) else .leaf (.again [.int .i64 n, .int .i64 (IntKind.wrap .i64 (n_1 + 1))])))) (fun vs => .popI .i64 vs fun n vs => .popI .i64 vs fun n_2 vs => .unNil vs (.leaf (.retn [.int .i64 n, .int .i64 n_1]))) fun x x_1 => .fail) else .leaf (.brk [.int .i64 n, .int .i64 n_1]))) (fun vs => .popI .i64 vs fun n vs => .popI .i64 vs fun n vs => .unNil vs (.leaf (.ret (.int .i64 0)))) (fun vs => .popI .i64 vs fun n vs => .popI .i64 vs fun n_1 vs => .unNil vs (.leaf (.ret (.int .i64 n)))) fun x x_1 => .fail
theorem w3165 (ep : Option Addr) (en ec : Nat) (hX : XOK X) (hw : (n3165 ep en ec).wp X Tryz.prog (retQ A) h) : FWK X Tryz.prog .normal 111 #[.agg #[.slice ep en ec]] h A := fwk_neat (show ftree ({ P := Tryz.prog, priv := [1], loops := [{ id := 2, slots := [(2, .int .i64), (4, .int .i64)], ro := [1], outs := [] }, { id := 0, slots := [(2, .int .i64), (3, .int .i64)], ro := [1], outs := [] }], joins := [] }) Tryz.f111 [.agg #[.slice ep en ec]] = n3165 ep en ec by kernel_rfl) (by simp) (by kernel_rfl) (by kernel_rfl) hX hw
noncomputable def n3166 (t_0p : Option Addr) (t_0n t_0c : Nat) (t_1p : Option Addr) (t_1n t_1c : Nat) (t_2p : Option Addr) (t_2n t_2c : Nat) (i : Int) : T := .need (0 ≤ i ∧ i < (↑t_1n : Int)) (.someA t_1p fun a => .loadI .i64 ((a.add (i.toNat * 3)).add 0) fun n => .loadI .i64 ((a.add (i.toNat * 3)).add 1) fun n_1 => .loadI .i64 ((a.add (i.toNat * 3)).add 2) fun n_2 => .blk (.call false 96 #[.int .i64 n, .int .i64 0, .int .i64 (IntKind.wrap .i64 ((↑t_0n : Int) - 2))] fun v => .unB v fun b => .nd (.int .i64 (↑t_0n : Int)) (.nd (.slice t_0p t_0n t_0c) (.need (AV.pp 2 0 = AV.pp 2 0) (.need (AV.pp 5 0 = AV.pp 5 0) (bif !b then .nd (.tuple #[]) (.nd (.tuple #[]) (.nd (.tuple #[]) (.nd (.tuple #[]) (.nd (.tuple #[]) (.nd (.tuple #[]) (.nd (.tuple #[]) (.nd (.tuple #[]) (.nd (.bool !b) (.nd (.int .i64 (↑t_0n : Int)) (.nd (.slice t_0p t_0n t_0c) (.need (AV.pp 2 0 = AV.pp 2 0) (.need (AV.pp 5 0 = AV.pp 5 0) (.nd (.tuple #[]) (.nd (.tuple #[]) (.nd (.tuple #[]) (.nd (.tuple #[]) (.nd (.tuple #[]) (.nd (.tuple #[]) (.nd (.tuple #[]) (.nd (.tuple #[]) (.nd (.bool !b) (.nd (.int .i64 (↑t_0n : Int)) (.nd (.slice t_0p t_0n t_0c) (.need (AV.pp 2 0 = AV.pp 2 0) (.need (AV.pp 5 0 = AV.pp 5 0) (.nd (.tuple #[]) (.nd (.tuple #[]) (.nd (.tuple #[]) (.nd (.tuple #[]) (.nd (.tuple #[]) (.nd (.tuple #[]) (.nd (.tuple #[]) (.nd (.bool !b) (.nd (.int .i64 (↑t_0n : Int)) (.nd (.slice t_0p t_0n t_0c) (.need (AV.pp 2 0 = AV.pp 2 0) (.need (AV.pp 5 0 = AV.pp 5 0) (.nd (.tuple #[]) (.nd (.tuple #[]) (.nd (.tuple #[]) (.nd (.tuple #[]) (.nd (.tuple #[]) (.nd (.tuple #[]) (.nd (.tuple #[]) (.nd (.bool !b) (.nd (.int .i64 (↑t_0n : Int)) (.nd (.slice t_0p t_0n t_0c) (.need (AV.pp 2 0 = AV.pp 2 0) (.need (AV.pp 5 0 = AV.pp 5 0) (.nd (.tuple #[]) (.nd (.tuple #[]) (.nd (.tuple #[]) (.nd (.tuple #[]) (.nd (.tuple #[]) (.nd (.bool true) (.nd (.tuple #[]) (.nd (.tuple #[]) (.nd (.tuple #[]) (.nd (.tuple #[]) (.nd (.tuple #[]) (.nd (.tuple #[]) (.nd (.tuple #[]) (.nd (.bool !b) (.nd (.int .i64 (↑t_0n : Int)) (.nd (.slice t_0p t_0n t_0c) (.need (AV.pp 2 0 = AV.pp 2 0) (.need (AV.pp 5 0 = AV.pp 5 0) (.nd (.tuple #[]) (.nd (.tuple #[]) (.nd (.tuple #[]) (.nd (.tuple #[]) (.nd (.tuple #[]) (.nd (.tuple #[]) (.nd (.tuple #[]) (.nd (.bool true) (.nd (.tuple #[]) (.nd (.tuple #[]) (.nd (.tuple #[]) (.nd (.tuple #[]) (.nd (.tuple #[]) (.nd (.tuple #[]) (.nd (.tuple #[]) (.nd (.bool !b) (.nd (.int .i64 (↑t_0n : Int)) (.nd (.slice t_0p t_0n t_0c) (.need (AV.pp 2 0 = AV.pp 2 0) (.need (AV.pp 5 0 = AV.pp 5 0) (.nd (.tuple #[]) (.nd (.tuple #[]) (.nd (.tuple #[]) (.nd (.tuple #[]) (.nd (.tuple #[]) (.nd (.tuple #[]) (.nd (.tuple #[]) (.nd (.bool true) (.nd (.tuple #[]) (.nd (.tuple #[]) (.nd (.tuple #[]) (.nd (.tuple #[]) (.nd (.tuple #[]) (.nd (.tuple #[]) (.nd (.tuple #[]) (.nd (.bool !b) (.nd (.int .i64 (↑t_0n : Int)) (.nd (.slice t_0p t_0n t_0c) (.need (AV.pp 2 0 = AV.pp 2 0) (.need (AV.pp 5 0 = AV.pp 5 0) (.nd (.tuple #[]) (.nd (.tuple #[]) (.nd (.tuple #[]) (.nd (.tuple #[]) (.nd (.tuple #[]) (.nd (.tuple #[]) (.nd (.bool true) (.nd (.tuple #[]) (.nd (.tuple #[]) (.nd (.tuple #[]) (.nd (.tuple #[]) (.nd (.tuple #[]) (.nd (.tuple #[]) (.nd (.tuple #[]) (.nd (.bool !b) (.nd (.int .i64 (↑t_0n : Int)) (.nd (.slice t_0p t_0n t_0c) (.need (AV.pp 2 0 = AV.pp 2 0) (.need (AV.pp 5 0 = AV.pp 5 0) (.nd (.tuple #[]) (.nd (.tuple #[]) (.nd (.tuple #[]) (.nd (.tuple #[]) (.nd (.tuple #[]) (.nd (.tuple #[]) (.nd (.bool true) (.nd (.tuple #[]) (.nd (.tuple #[]) (.nd (.tuple #[]) (.nd (.tuple #[]) (.nd (.tuple #[]) (.nd (.tuple #[]) (.nd (.tuple #[]) (.nd (.bool !b) (.nd (.int .i64 (↑t_0n : Int)) (.nd (.slice t_0p t_0n t_0c) (.need (AV.pp 2 0 = AV.pp 2 0) (.need (AV.pp 5 0 = AV.pp 5 0) (.leaf (.retn [.int .i64 6]))))))))))))))))))))))))))))))))))))))))))))))))))))))))))))))))))))))))))))))))))))))))))))))))))))))))))))))))))))))))))))))))))))))))))))))))))) else .need (0 ≤ n ∧ n < (↑t_0n : Int)) (.someA t_0p fun a => .loadS ((a.add (n.toNat * 1)).add 0) fun p n_3 c => .call false 96 #[.int .i64 n_1, .int .i64 0, .int .i64 (IntKind.wrap .i64 ((↑n_3 : Int) - 1))] fun v => .unB v fun b_1 => .nd (.int .i64 (↑n_3 : Int)) (.loadS ((a.add (n.toNat * 1)).add 0) fun p_1 n_4 c_1 => .need (AV.val (.slice p_1 n_4 c_1) = AV.val (.slice p n_3 c)) (.nd (.pointer (some ((a.add (n.toNat * 1)).add 0))) (.need (0 ≤ n ∧ n < (↑t_0n : Int)) (.someA t_0p fun a_1 => .need (AV.val (.pointer (some (a_1.add (n.toNat * 1)))) = AV.val (.pointer (some (a.add (n.toNat * 1))))) (.nd (.int .i64 n) (.need (AV.pp 5 0 = AV.pp 5 0) (.nd (.slice t_0p t_0n t_0c) (.need (AV.pp 2 0 = AV.pp 2 0) (.need (AV.pp 5 1 = AV.pp 5 1) (.nd (.bool !b) (.nd (.int .i64 (↑t_0n : Int)) (.nd (.slice t_0p t_0n t_0c) (.need (AV.pp 2 0 = AV.pp 2 0) (.need (AV.pp 5 0 = AV.pp 5 0) (bif !b_1 then .nd (.tuple #[]) (.nd (.tuple #[]) (.nd (.tuple #[]) (.nd (.tuple #[]) (.nd (.tuple #[]) (.nd (.bool !b_1) (.nd (.bool !b_1) (.nd (.int .i64 (↑n_3 : Int)) (.loadS ((a.add (n.toNat * 1)).add 0) fun p_2 n_5 c_2 => .need (AV.val (.slice p_2 n_5 c_2) = AV.val (.slice p n_3 c)) (.nd (.pointer (some ((a.add (n.toNat * 1)).add 0))) (.need (0 ≤ n ∧ n < (↑t_0n : Int)) (.someA t_0p fun a_2 => .need (AV.val (.pointer (some (a_2.add (n.toNat * 1)))) = AV.val (.pointer (some (a.add (n.toNat * 1))))) (.nd (.int .i64 n) (.need (AV.pp 5 0 = AV.pp 5 0) (.nd (.slice t_0p t_0n t_0c) (.need (AV.pp 2 0 = AV.pp 2 0) (.need (AV.pp 5 1 = AV.pp 5 1) (.nd (.bool !b) (.nd (.int .i64 (↑t_0n : Int)) (.nd (.slice t_0p t_0n t_0c) (.need (AV.pp 2 0 = AV.pp 2 0) (.need (AV.pp 5 0 = AV.pp 5 0) (.nd (.tuple #[]) (.nd (.tuple #[]) (.nd (.tuple #[]) (.nd (.tuple #[]) (.nd (.tuple #[]) (.nd (.tuple #[]) (.nd (.tuple #[]) (.nd (.bool !b_1) (.nd (.bool !b_1) (.nd (.int .i64 (↑n_3 : Int)) (.loadS ((a.add (n.toNat * 1)).add 0) fun p_3 n_6 c_3 => .need (AV.val (.slice p_3 n_6 c_3) = AV.val (.slice p n_3 c)) (.nd (.pointer (some ((a.add (n.toNat * 1)).add 0))) (.need (0 ≤ n ∧ n < (↑t_0n : Int)) (.someA t_0p fun a_3 => .need (AV.val (.pointer (some (a_3.add (n.toNat * 1)))) = AV.val (.pointer (some (a.add (n.toNat * 1))))) (.nd (.int .i64 n) (.need (AV.pp 5 0 = AV.pp 5 0) (.nd (.slice t_0p t_0n t_0c) (.need (AV.pp 2 0 = AV.pp 2 0) (.need (AV.pp 5 1 = AV.pp 5 1) (.nd (.bool !b) (.nd (.int .i64 (↑t_0n : Int)) (.nd (.slice t_0p t_0n t_0c) (.need (AV.pp 2 0 = AV.pp 2 0) (.need (AV.pp 5 0 = AV.pp 5 0) (.nd (.tuple #[]) (.nd (.tuple #[]) (.nd (.tuple #[]) (.nd (.tuple #[]) (.nd (.tuple #[]) (.nd (.tuple #[]) (.nd (.tuple #[]) (.nd (.bool !b_1) (.nd (.bool !b_1) (.nd (.int .i64 (↑n_3 : Int)) (.loadS ((a.add (n.toNat * 1)).add 0) fun p_4 n_7 c_4 => .need (AV.val (.slice p_4 n_7 c_4) = AV.val (.slice p n_3 c)) (.nd (.pointer (some ((a.add (n.toNat * 1)).add 0))) (.need (0 ≤ n ∧ n < (↑t_0n : Int)) (.someA t_0p fun a_4 => .need (AV.val (.pointer (some (a_4.add (n.toNat * 1)))) = AV.val (.pointer (some (a.add (n.toNat * 1))))) (.nd (.int .i64 n) (.need (AV.pp 5 0 = AV.pp 5 0) (.nd (.slice t_0p t_0n t_0c) (.need (AV.pp 2 0 = AV.pp 2 0) (.need (AV.pp 5 1 = AV.pp 5 1) (.nd (.bool !b) (.nd (.int .i64 (↑t_0n : Int)) (.nd (.slice t_0p t_0n t_0c) (.need (AV.pp 2 0 = AV.pp 2 0) (.need (AV.pp 5 0 = AV.pp 5 0) (.nd (.tuple #[]) (.nd (.tuple #[]) (.nd (.tuple #[]) (.nd (.tuple #[]) (.nd (.tuple #[]) (.nd (.tuple #[]) (.nd (.bool !b_1) (.nd (.bool !b_1) (.nd (.int .i64 (↑n_3 : Int)) (.loadS ((a.add (n.toNat * 1)).add 0) fun p_5 n_8 c_5 => .need (AV.val (.slice p_5 n_8 c_5) = AV.val (.slice p n_3 c)) (.nd (.pointer (some ((a.add (n.toNat * 1)).add 0))) (.need (0 ≤ n ∧ n < (↑t_0n : Int)) (.someA t_0p fun a_5 => .need (AV.val (.pointer (some (a_5.add (n.toNat * 1)))) = AV.val (.pointer (some (a.add (n.toNat * 1))))) (.nd (.int .i64 n) (.need (AV.pp 5 0 = AV.pp 5 0) (.nd (.slice t_0p t_0n t_0c) (.need (AV.pp 2 0 = AV.pp 2 0) (.need (AV.pp 5 1 = AV.pp 5 1) (.nd (.bool !b) (.nd (.int .i64 (↑t_0n : Int)) (.nd (.slice t_0p t_0n t_0c) (.need (AV.pp 2 0 = AV.pp 2 0) (.need (AV.pp 5 0 = AV.pp 5 0) (.nd (.tuple #[]) (.nd (.tuple #[]) (.nd (.tuple #[]) (.nd (.tuple #[]) (.nd (.tuple #[]) (.nd (.tuple #[]) (.nd (.bool !b_1) (.nd (.bool !b_1) (.nd (.int .i64 (↑n_3 : Int)) (.loadS ((a.add (n.toNat * 1)).add 0) fun p_6 n_9 c_6 => .need (AV.val (.slice p_6 n_9 c_6) = AV.val (.slice p n_3 c)) (.nd (.pointer (some ((a.add (n.toNat * 1)).add 0))) (.need (0 ≤ n ∧ n < (↑t_0n : Int)) (.someA t_0p fun a_6 => .need (AV.val (.pointer (some (a_6.add (n.toNat * 1)))) = AV.val (.pointer (some (a.add (n.toNat * 1))))) (.nd (.int .i64 n) (.need (AV.pp 5 0 = AV.pp 5 0) (.nd (.slice t_0p t_0n t_0c) (.need (AV.pp 2 0 = AV.pp 2 0) (.need (AV.pp 5 1 = AV.pp 5 1) (.nd (.bool !b) (.nd (.int .i64 (↑t_0n : Int)) (.nd (.slice t_0p t_0n t_0c) (.need (AV.pp 2 0 = AV.pp 2 0) (.need (AV.pp 5 0 = AV.pp 5 0) (.leaf (.retn [.int .i64 6]))))))))))))))))))))))))))))))))))))))))))))))))))))))))))))))))))))))))))))))))))))))))))))))))))))))))))))))))))))) else .need (0 ≤ IntKind.wrap .i64 (n + 1) ∧ IntKind.wrap .i64 (n + 1) < (↑t_0n : Int)) (.someA t_0p fun a_2 => .loadS ((a_2.add ((IntKind.wrap .i64 (n + 1)).toNat * 1)).add 0) fun p_2 n_5 c_2 => .call false 96 #[.int .i64 n_2, .int .i64 0, .int .i64 (IntKind.wrap .i64 ((↑n_5 : Int) - 1))] fun v => .unB v fun b_2 => .nd (.int .i64 (↑n_5 : Int)) (.loadS ((a_2.add ((IntKind.wrap .i64 (n + 1)).toNat * 1)).add 0) fun p_3 n_6 c_3 => .need (AV.val (.slice p_3 n_6 c_3) = AV.val (.slice p_2 n_5 c_2)) (.nd (.pointer (some ((a_2.add ((IntKind.wrap .i64 (n + 1)).toNat * 1)).add 0))) (.need (0 ≤ IntKind.wrap .i64 (n + 1) ∧ IntKind.wrap .i64 (n + 1) < (↑t_0n : Int)) (.someA t_0p fun a_3 => .need (AV.val (.pointer (some (a_3.add ((IntKind.wrap .i64 (n + 1)).toNat * 1)))) = AV.val (.pointer (some (a_2.add ((IntKind.wrap .i64 (n + 1)).toNat * 1))))) (.nd (.int .i64 (IntKind.wrap .i64 (n + 1))) (.nd (.int .i64 n) (.need (AV.pp 5 0 = AV.pp 5 0) (.nd (.slice t_0p t_0n t_0c) (.need (AV.pp 2 0 = AV.pp 2 0) (.need (AV.pp 5 2 = AV.pp 5 2) (.nd (.bool !b_1) (.nd (.bool !b_1) (.nd (.int .i64 (↑n_3 : Int)) (.loadS ((a.add (n.toNat * 1)).add 0) fun p_4 n_7 c_4 => .need (AV.val (.slice p_4 n_7 c_4) = AV.val (.slice p n_3 c)) (.nd (.pointer (some ((a.add (n.toNat * 1)).add 0))) (.need (0 ≤ n ∧ n < (↑t_0n : Int)) (.someA t_0p fun a_4 => .need (AV.val (.pointer (some (a_4.add (n.toNat * 1)))) = AV.val (.pointer (some (a.add (n.toNat * 1))))) (.nd (.int .i64 n) (.need (AV.pp 5 0 = AV.pp 5 0) (.nd (.slice t_0p t_0n t_0c) (.need (AV.pp 2 0 = AV.pp 2 0) (.need (AV.pp 5 1 = AV.pp 5 1) (.nd (.bool !b) (.nd (.int .i64 (↑t_0n : Int)) (.nd (.slice t_0p t_0n t_0c) (.need (AV.pp 2 0 = AV.pp 2 0) (.need (AV.pp 5 0 = AV.pp 5 0) (bif !b_2 then .leaf (.retn [.int .i64 6]) else .leaf (.again [.int .i64 0]))))))))))))))))))))))))))))))))))))))))))))))))))) (fun vs => .popI .i64 vs fun n_3 vs => .unNil vs (.loop [.int .i64 n_3, .int .i64 0] (fun vs => .popI .i64 vs fun n_4 vs => .popI .i64 vs fun n_5 vs => .unNil vs (bif decide (n_5 < i) then .need (0 ≤ n_5 ∧ n_5 < (↑t_1n : Int)) (.someA t_1p fun a => .loadI .i64 ((a.add (n_5.toNat * 3)).add 0) fun n_6 => .loadI .i64 ((a.add (n_5.toNat * 3)).add 1) fun n_7 => .loadI .i64 ((a.add (n_5.toNat * 3)).add 2) fun n_8 => .sem false (Sem.bind (eqGuard BinOp.eql 260 (Operand.tmp 60) (Operand.tmp 61) (.agg #[.int .i64 n_6, .int .i64 n_7, .int .i64 n_8]) (.agg #[.int .i64 n, .int .i64 n_1, .int .i64 n_2])) fun __r => binOp BinOp.eql 260 (.agg #[.int .i64 n_6, .int .i64 n_7, .int .i64 n_8]) (.agg #[.int .i64 n, .int .i64 n_1, .int .i64 n_2])) fun v => .unB v fun b => .need (0 ≤ n_5 ∧ n_5 < (↑t_1n : Int)) (.someA t_1p fun a_1 => .need (AV.val (.pointer (some (a_1.add (n_5.toNat * 3)))) = AV.val (.pointer (some (a.add (n_5.toNat * 3))))) (.nd (.int .i64 n_5) (.nd (.slice t_1p t_1n t_1c) (.need (AV.pp 2 1 = AV.pp 2 1) (bif b then .leaf (.retn [.int .i64 5, .int .i64 n_5]) else .leaf (.again [.int .i64 n_4, .int .i64 (IntKind.wrap .i64 (n_5 + 1))]))))))) else .leaf (.brk [.int .i64 n_4, .int .i64 n_5]))) (fun vs => .popI .i64 vs fun n vs => .popI .i64 vs fun n vs => .unNil vs (.leaf (.ret (.int .i64 0)))) (fun vs => .popI .i64 vs fun n vs => .popI .i64 vs fun n_4 vs => .unNil vs (.leaf (.ret (.int .i64 n)))) fun x x_1 => .fail)) (fun vs => .popI .i64 vs fun n vs => .unNil vs (.leaf (.ret (.int .i64 n)))) fun x x_1 => .fail)
theorem w3166 (t_0p : Option Addr) (t_0n t_0c : Nat) (t_1p : Option Addr) (t_1n t_1c : Nat) (t_2p : Option Addr) (t_2n t_2c : Nat) (i : Int) (hX : XOK X) (hw : (n3166 t_0p t_0n t_0c t_1p t_1n t_1c t_2p t_2n t_2c i).wp X Tryz.prog (retQ A) h) : FWK X Tryz.prog .normal 112 #[.agg #[.slice t_0p t_0n t_0c, .slice t_1p t_1n t_1c, .slice t_2p t_2n t_2c], .int .i64 i] h A := fwk_neat (show ftree ({ P := Tryz.prog, priv := [2, 5], loops := [{ id := 0, slots := [(4, .int .i64), (6, .int .i64)], ro := [2, 5], outs := [] }], joins := [{ id := 4, slots := [(4, .int .i64)], ro := [2, 5], outs := [] }] }) Tryz.f112 [.agg #[.slice t_0p t_0n t_0c, .slice t_1p t_1n t_1c, .slice t_2p t_2n t_2c], .int .i64 i] = n3166 t_0p t_0n t_0c t_1p t_1n t_1c t_2p t_2n t_2c i by kernel_rfl) (by simp) (by kernel_rfl) (by kernel_rfl) hX hw
noncomputable def n3167 (t_0p : Option Addr) (t_0n t_0c : Nat) (t_1p : Option Addr) (t_1n t_1c : Nat) (t_2p : Option Addr) (t_2n t_2c : Nat) (i : Int) : T := .need (0 ≤ i ∧ i < (↑t_2n : Int)) (.someA t_2p fun a => .loadI .i64 ((a.add (i.toNat * 4)).add 0) fun n => .loadI .i64 ((a.add (i.toNat * 4)).add 1) fun n_1 => .loadI .i64 ((a.add (i.toNat * 4)).add 2) fun n_2 => .loadI .i64 ((a.add (i.toNat * 4)).add 3) fun n_3 => .blk (.call false 96 #[.int .i64 n, .int .i64 0, .int .i64 (IntKind.wrap .i64 ((↑t_0n : Int) - 1))] fun v => .unB v fun b => .nd (.int .i64 (↑t_0n : Int)) (.nd (.slice t_0p t_0n t_0c) (.need (AV.pp 2 0 = AV.pp 2 0) (.need (AV.pp 5 0 = AV.pp 5 0) (bif !b then .nd (.tuple #[]) (.nd (.tuple #[]) (.nd (.tuple #[]) (.nd (.tuple #[]) (.nd (.tuple #[]) (.nd (.tuple #[]) (.nd (.tuple #[]) (.nd (.tuple #[]) (.nd (.bool !b) (.nd (.int .i64 (↑t_0n : Int)) (.nd (.slice t_0p t_0n t_0c) (.need (AV.pp 2 0 = AV.pp 2 0) (.need (AV.pp 5 0 = AV.pp 5 0) (.nd (.tuple #[]) (.nd (.tuple #[]) (.nd (.tuple #[]) (.nd (.tuple #[]) (.nd (.tuple #[]) (.nd (.tuple #[]) (.nd (.tuple #[]) (.nd (.tuple #[]) (.nd (.bool !b) (.nd (.int .i64 (↑t_0n : Int)) (.nd (.slice t_0p t_0n t_0c) (.need (AV.pp 2 0 = AV.pp 2 0) (.need (AV.pp 5 0 = AV.pp 5 0) (.nd (.tuple #[]) (.nd (.tuple #[]) (.nd (.tuple #[]) (.nd (.tuple #[]) (.nd (.tuple #[]) (.nd (.tuple #[]) (.nd (.tuple #[]) (.nd (.bool !b) (.nd (.int .i64 (↑t_0n : Int)) (.nd (.slice t_0p t_0n t_0c) (.need (AV.pp 2 0 = AV.pp 2 0) (.need (AV.pp 5 0 = AV.pp 5 0) (.nd (.tuple #[]) (.nd (.tuple #[]) (.nd (.tuple #[]) (.nd (.tuple #[]) (.nd (.tuple #[]) (.nd (.tuple #[]) (.nd (.tuple #[]) (.nd (.bool !b) (.nd (.int .i64 (↑t_0n : Int)) (.nd (.slice t_0p t_0n t_0c) (.need (AV.pp 2 0 = AV.pp 2 0) (.need (AV.pp 5 0 = AV.pp 5 0) (.nd (.tuple #[]) (.nd (.tuple #[]) (.nd (.tuple #[]) (.nd (.tuple #[]) (.nd (.tuple #[]) (.nd (.tuple #[]) (.nd (.tuple #[]) (.nd (.tuple #[]) (.nd (.bool true) (.nd (.tuple #[]) (.nd (.tuple #[]) (.nd (.tuple #[]) (.nd (.tuple #[]) (.nd (.tuple #[]) (.nd (.tuple #[]) (.nd (.tuple #[]) (.nd (.bool !b) (.nd (.int .i64 (↑t_0n : Int)) (.nd (.slice t_0p t_0n t_0c) (.need (AV.pp 2 0 = AV.pp 2 0) (.need (AV.pp 5 0 = AV.pp 5 0) (.nd (.tuple #[]) (.nd (.tuple #[]) (.nd (.tuple #[]) (.nd (.tuple #[]) (.nd (.tuple #[]) (.nd (.tuple #[]) (.nd (.tuple #[]) (.nd (.tuple #[]) (.nd (.bool true) (.nd (.tuple #[]) (.nd (.tuple #[]) (.nd (.tuple #[]) (.nd (.tuple #[]) (.nd (.tuple #[]) (.nd (.tuple #[]) (.nd (.tuple #[]) (.nd (.bool !b) (.nd (.int .i64 (↑t_0n : Int)) (.nd (.slice t_0p t_0n t_0c) (.need (AV.pp 2 0 = AV.pp 2 0) (.need (AV.pp 5 0 = AV.pp 5 0) (.nd (.tuple #[]) (.nd (.tuple #[]) (.nd (.tuple #[]) (.nd (.tuple #[]) (.nd (.tuple #[]) (.nd (.tuple #[]) (.nd (.tuple #[]) (.nd (.bool true) (.nd (.tuple #[]) (.nd (.tuple #[]) (.nd (.tuple #[]) (.nd (.tuple #[]) (.nd (.tuple #[]) (.nd (.tuple #[]) (.nd (.tuple #[]) (.nd (.bool !b) (.nd (.int .i64 (↑t_0n : Int)) (.nd (.slice t_0p t_0n t_0c) (.need (AV.pp 2 0 = AV.pp 2 0) (.need (AV.pp 5 0 = AV.pp 5 0) (.nd (.tuple #[]) (.nd (.tuple #[]) (.nd (.tuple #[]) (.nd (.tuple #[]) (.nd (.tuple #[]) (.nd (.tuple #[]) (.nd (.tuple #[]) (.nd (.bool true) (.nd (.tuple #[]) (.nd (.tuple #[]) (.nd (.tuple #[]) (.nd (.tuple #[]) (.nd (.tuple #[]) (.nd (.tuple #[]) (.nd (.tuple #[]) (.nd (.bool !b) (.nd (.int .i64 (↑t_0n : Int)) (.nd (.slice t_0p t_0n t_0c) (.need (AV.pp 2 0 = AV.pp 2 0) (.need (AV.pp 5 0 = AV.pp 5 0) (.leaf (.retn [.int .i64 6]))))))))))))))))))))))))))))))))))))))))))))))))))))))))))))))))))))))))))))))))))))))))))))))))))))))))))))))))))))))))))))))))))))) else .need (0 ≤ n ∧ n < (↑t_0n : Int)) (.someA t_0p fun a => .loadS ((a.add (n.toNat * 1)).add 0) fun p n_4 c => .call false 96 #[.int .i64 n_1, .int .i64 0, .int .i64 (IntKind.wrap .i64 ((↑n_4 : Int) - 1))] fun v => .unB v fun b_1 => .nd (.int .i64 (↑n_4 : Int)) (.loadS ((a.add (n.toNat * 1)).add 0) fun p_1 n_5 c_1 => .need (AV.val (.slice p_1 n_5 c_1) = AV.val (.slice p n_4 c)) (.nd (.pointer (some ((a.add (n.toNat * 1)).add 0))) (.need (0 ≤ n ∧ n < (↑t_0n : Int)) (.someA t_0p fun a_1 => .need (AV.val (.pointer (some (a_1.add (n.toNat * 1)))) = AV.val (.pointer (some (a.add (n.toNat * 1))))) (.nd (.int .i64 n) (.need (AV.pp 5 0 = AV.pp 5 0) (.nd (.slice t_0p t_0n t_0c) (.need (AV.pp 2 0 = AV.pp 2 0) (.need (AV.pp 5 1 = AV.pp 5 1) (.nd (.bool !b) (.nd (.int .i64 (↑t_0n : Int)) (.nd (.slice t_0p t_0n t_0c) (.need (AV.pp 2 0 = AV.pp 2 0) (.need (AV.pp 5 0 = AV.pp 5 0) (bif !b_1 then .nd (.tuple #[]) (.nd (.tuple #[]) (.nd (.tuple #[]) (.nd (.tuple #[]) (.nd (.tuple #[]) (.nd (.tuple #[]) (.nd (.tuple #[]) (.nd (.tuple #[]) (.nd (.bool !b_1) (.nd (.bool !b_1) (.nd (.int .i64 (↑n_4 : Int)) (.loadS ((a.add (n.toNat * 1)).add 0) fun p_2 n_6 c_2 => .need (AV.val (.slice p_2 n_6 c_2) = AV.val (.slice p n_4 c)) (.nd (.pointer (some ((a.add (n.toNat * 1)).add 0))) (.need (0 ≤ n ∧ n < (↑t_0n : Int)) (.someA t_0p fun a_2 => .need (AV.val (.pointer (some (a_2.add (n.toNat * 1)))) = AV.val (.pointer (some (a.add (n.toNat * 1))))) (.nd (.int .i64 n) (.need (AV.pp 5 0 = AV.pp 5 0) (.nd (.slice t_0p t_0n t_0c) (.need (AV.pp 2 0 = AV.pp 2 0) (.need (AV.pp 5 1 = AV.pp 5 1) (.nd (.bool !b) (.nd (.int .i64 (↑t_0n : Int)) (.nd (.slice t_0p t_0n t_0c) (.need (AV.pp 2 0 = AV.pp 2 0) (.need (AV.pp 5 0 = AV.pp 5 0) (.nd (.tuple #[]) (.nd (.tuple #[]) (.nd (.tuple #[]) (.nd (.tuple #[]) (.nd (.tuple #[]) (.nd (.tuple #[]) (.nd (.tuple #[]) (.nd (.tuple #[]) (.nd (.bool !b_1) (.nd (.bool !b_1) (.nd (.int .i64 (↑n_4 : Int)) (.loadS ((a.add (n.toNat * 1)).add 0) fun p_3 n_7 c_3 => .need (AV.val (.slice p_3 n_7 c_3) = AV.val (.slice p n_4 c)) (.nd (.pointer (some ((a.add (n.toNat * 1)).add 0))) (.need (0 ≤ n ∧ n < (↑t_0n : Int)) (.someA t_0p fun a_3 => .need (AV.val (.pointer (some (a_3.add (n.toNat * 1)))) = AV.val (.pointer (some (a.add (n.toNat * 1))))) (.nd (.int .i64 n) (.need (AV.pp 5 0 = AV.pp 5 0) (.nd (.slice t_0p t_0n t_0c) (.need (AV.pp 2 0 = AV.pp 2 0) (.need (AV.pp 5 1 = AV.pp 5 1) (.nd (.bool !b) (.nd (.int .i64 (↑t_0n : Int)) (.nd (.slice t_0p t_0n t_0c) (.need (AV.pp 2 0 = AV.pp 2 0) (.need (AV.pp 5 0 = AV.pp 5 0) (.nd (.tuple #[]) (.nd (.tuple #[]) (.nd (.tuple #[]) (.nd (.tuple #[]) (.nd (.tuple #[]) (.nd (.tuple #[]) (.nd (.tuple #[]) (.nd (.bool !b_1) (.nd (.bool !b_1) (.nd (.int .i64 (↑n_4 : Int)) (.loadS ((a.add (n.toNat * 1)).add 0) fun p_4 n_8 c_4 => .need (AV.val (.slice p_4 n_8 c_4) = AV.val (.slice p n_4 c)) (.nd (.pointer (some ((a.add (n.toNat * 1)).add 0))) (.need (0 ≤ n ∧ n < (↑t_0n : Int)) (.someA t_0p fun a_4 => .need (AV.val (.pointer (some (a_4.add (n.toNat * 1)))) = AV.val (.pointer (some (a.add (n.toNat * 1))))) (.nd (.int .i64 n) (.need (AV.pp 5 0 = AV.pp 5 0) (.nd (.slice t_0p t_0n t_0c) (.need (AV.pp 2 0 = AV.pp 2 0) (.need (AV.pp 5 1 = AV.pp 5 1) (.nd (.bool !b) (.nd (.int .i64 (↑t_0n : Int)) (.nd (.slice t_0p t_0n t_0c) (.need (AV.pp 2 0 = AV.pp 2 0) (.need (AV.pp 5 0 = AV.pp 5 0) (.nd (.tuple #[]) (.nd (.tuple #[]) (.nd (.tuple #[]) (.nd (.tuple #[]) (.nd (.tuple #[]) (.nd (.tuple #[]) (.nd (.tuple #[]) (.nd (.bool !b_1) (.nd (.bool !b_1) (.nd (.int .i64 (↑n_4 : Int)) (.loadS ((a.add (n.toNat * 1)).add 0) fun p_5 n_9 c_5 => .need (AV.val (.slice p_5 n_9 c_5) = AV.val (.slice p n_4 c)) (.nd (.pointer (some ((a.add (n.toNat * 1)).add 0))) (.need (0 ≤ n ∧ n < (↑t_0n : Int)) (.someA t_0p fun a_5 => .need (AV.val (.pointer (some (a_5.add (n.toNat * 1)))) = AV.val (.pointer (some (a.add (n.toNat * 1))))) (.nd (.int .i64 n) (.need (AV.pp 5 0 = AV.pp 5 0) (.nd (.slice t_0p t_0n t_0c) (.need (AV.pp 2 0 = AV.pp 2 0) (.need (AV.pp 5 1 = AV.pp 5 1) (.nd (.bool !b) (.nd (.int .i64 (↑t_0n : Int)) (.nd (.slice t_0p t_0n t_0c) (.need (AV.pp 2 0 = AV.pp 2 0) (.need (AV.pp 5 0 = AV.pp 5 0) (.leaf (.retn [.int .i64 6]))))))))))))))))))))))))))))))))))))))))))))))))))))))))))))))))))))))))))))))))))))))))))))))))))) else .need (0 ≤ n ∧ n < (↑t_0n : Int)) (.someA t_0p fun a_2 => .loadS ((a_2.add (n.toNat * 1)).add 0) fun p_2 n_6 c_2 => .call false 96 #[.int .i64 n_2, .int .i64 0, .int .i64 (IntKind.wrap .i64 ((↑n_6 : Int) - 1))] fun v => .unB v fun b_2 => .nd (.int .i64 (↑n_6 : Int)) (.loadS ((a_2.add (n.toNat * 1)).add 0) fun p_3 n_7 c_3 => .need (AV.val (.slice p_3 n_7 c_3) = AV.val (.slice p_2 n_6 c_2)) (.nd (.pointer (some ((a_2.add (n.toNat * 1)).add 0))) (.need (0 ≤ n ∧ n < (↑t_0n : Int)) (.someA t_0p fun a_3 => .need (AV.val (.pointer (some (a_3.add (n.toNat * 1)))) = AV.val (.pointer (some (a_2.add (n.toNat * 1))))) (.nd (.int .i64 n) (.need (AV.pp 5 0 = AV.pp 5 0) (.nd (.slice t_0p t_0n t_0c) (.need (AV.pp 2 0 = AV.pp 2 0) (.need (AV.pp 5 2 = AV.pp 5 2) (.nd (.bool !b_1) (.nd (.bool !b_1) (.nd (.int .i64 (↑n_4 : Int)) (.loadS ((a.add (n.toNat * 1)).add 0) fun p_4 n_8 c_4 => .need (AV.val (.slice p_4 n_8 c_4) = AV.val (.slice p n_4 c)) (.nd (.pointer (some ((a.add (n.toNat * 1)).add 0))) (.need (0 ≤ n ∧ n < (↑t_0n : Int)) (.someA t_0p fun a_4 => .need (AV.val (.pointer (some (a_4.add (n.toNat * 1)))) = AV.val (.pointer (some (a.add (n.toNat * 1))))) (.nd (.int .i64 n) (.need (AV.pp 5 0 = AV.pp 5 0) (.nd (.slice t_0p t_0n t_0c) (.need (AV.pp 2 0 = AV.pp 2 0) (.need (AV.pp 5 1 = AV.pp 5 1) (.nd (.bool !b) (.nd (.int .i64 (↑t_0n : Int)) (.nd (.slice t_0p t_0n t_0c) (.need (AV.pp 2 0 = AV.pp 2 0) (.need (AV.pp 5 0 = AV.pp 5 0) (bif !b_2 then .leaf (.retn [.int .i64 6]) else .leaf (.again [.int .i64 0])))))))))))))))))))))))))))))))))))))))))))))))))) (fun vs => .popI .i64 vs fun n_4 vs => .unNil vs (bif decide (n_1 ≥ n_2) then .leaf (.ret (.int .i64 7)) else .call false 96 #[.int .i64 n_3, .int .i64 1, .int .i64 5] fun v => .unB v fun b => bif !b then .leaf (.ret (.int .i64 1)) else .loop [.int .i64 n_4, .int .i64 0] (fun vs => .popI .i64 vs fun n_5 vs => .popI .i64 vs fun n_6 vs => .unNil vs (bif decide (n_6 < i) then .need (0 ≤ n_6 ∧ n_6 < (↑t_2n : Int)) (.someA t_2p fun a => .loadI .i64 ((a.add (n_6.toNat * 4)).add 0) fun n_7 => bif n_7 == n then .need (0 ≤ n_6 ∧ n_6 < (↑t_2n : Int)) (.someA t_2p fun a_1 => .loadI .i64 ((a_1.add (n_6.toNat * 4)).add 1) fun n_8 => bif n_8 == n_1 then .need (0 ≤ n_6 ∧ n_6 < (↑t_2n : Int)) (.someA t_2p fun a => .loadI .i64 ((a.add (n_6.toNat * 4)).add 2) fun n => bif n == n_2 then .leaf (.retn [.int .i64 5, .int .i64 n_6]) else .leaf (.again [.int .i64 n_5, .int .i64 (IntKind.wrap .i64 (n_6 + 1))])) else .nd (.tuple #[]) (.nd (.tuple #[]) (.nd (.tuple #[]) (.nd (.tuple #[]) (.nd (.tuple #[]) (.nd (.tuple #[]) (.nd (.bool (n_8 == n_1)) (.nd (.bool (n_8 == n_1)) (.nd (.int .i64 n_1) (.need (AV.pp 5 1 = AV.pp 5 1) (.loadI .i64 ((a_1.add (n_6.toNat * 4)).add 1) fun n_9 => .need (AV.val (.int .i64 n_9) = AV.val (.int .i64 n_8)) (.nd (.pointer (some ((a_1.add (n_6.toNat * 4)).add 1))) (.need (0 ≤ n_6 ∧ n_6 < (↑t_2n : Int)) (.someA t_2p fun a_2 => .need (AV.val (.pointer (some (a_2.add (n_6.toNat * 4)))) = AV.val (.pointer (some (a_1.add (n_6.toNat * 4))))) (.nd (.int .i64 n_6) (.nd (.slice t_2p t_2n t_2c) (.need (AV.pp 2 2 = AV.pp 2 2) (.need (AV.val (.bool (n_7 == n)) = AV.val (.bool true)) (.nd (.bool (n_7 == n)) (.nd (.int .i64 n) (.need (AV.pp 5 0 = AV.pp 5 0) (.loadI .i64 ((a.add (n_6.toNat * 4)).add 0) fun n => .need (AV.val (.int .i64 n) = AV.val (.int .i64 n_7)) (.nd (.pointer (some ((a.add (n_6.toNat * 4)).add 0))) (.need (0 ≤ n_6 ∧ n_6 < (↑t_2n : Int)) (.someA t_2p fun a_3 => .need (AV.val (.pointer (some (a_3.add (n_6.toNat * 4)))) = AV.val (.pointer (some (a.add (n_6.toNat * 4))))) (.nd (.int .i64 n_6) (.nd (.slice t_2p t_2n t_2c) (.need (AV.pp 2 2 = AV.pp 2 2) (.leaf (.again [.int .i64 n_5, .int .i64 (IntKind.wrap .i64 (n_6 + 1))])))))))))))))))))))))))))))))) else .nd (.tuple #[]) (.nd (.tuple #[]) (.nd (.tuple #[]) (.nd (.tuple #[]) (.nd (.tuple #[]) (.nd (.tuple #[]) (.nd (.bool (n_7 == n)) (.nd (.int .i64 n) (.need (AV.pp 5 0 = AV.pp 5 0) (.loadI .i64 ((a.add (n_6.toNat * 4)).add 0) fun n_8 => .need (AV.val (.int .i64 n_8) = AV.val (.int .i64 n_7)) (.nd (.pointer (some ((a.add (n_6.toNat * 4)).add 0))) (.need (0 ≤ n_6 ∧ n_6 < (↑t_2n : Int)) (.someA t_2p fun a_1 => .need (AV.val (.pointer (some (a_1.add (n_6.toNat * 4)))) = AV.val (.pointer (some (a.add (n_6.toNat * 4))))) (.nd (.int .i64 n_6) (.nd (.slice t_2p t_2n t_2c) (.need (AV.pp 2 2 = AV.pp 2 2) (.nd (.tuple #[]) (.nd (.tuple #[]) (.nd (.tuple #[]) (.nd (.tuple #[]) (.nd (.tuple #[]) (.nd (.tuple #[]) (.nd (.bool false) (.nd (.tuple #[]) (.nd (.tuple #[]) (.nd (.tuple #[]) (.nd (.tuple #[]) (.nd (.tuple #[]) (.nd (.tuple #[]) (.nd (.bool (n_7 == n)) (.nd (.int .i64 n) (.need (AV.pp 5 0 = AV.pp 5 0) (.loadI .i64 ((a.add (n_6.toNat * 4)).add 0) fun n => .need (AV.val (.int .i64 n) = AV.val (.int .i64 n_7)) (.nd (.pointer (some ((a.add (n_6.toNat * 4)).add 0))) (.need (0 ≤ n_6 ∧ n_6 < (↑t_2n : Int)) (.someA t_2p fun a_2 => .need (AV.val (.pointer (some (a_2.add (n_6.toNat * 4)))) = AV.val (.pointer (some (a.add (n_6.toNat * 4))))) (.nd (.int .i64 n_6) (.nd (.slice t_2p t_2n t_2c) (.need (AV.pp 2 2 = AV.pp 2 2) (.leaf (.again [.int .i64 n_5, .int .i64 (IntKind.wrap .i64 (n_6 + 1))]))))))))))))))))))))))))))))))))))))))))) else .leaf (.brk [.int .i64 n_5, .int .i64 n_6]))) (fun vs => .popI .i64 vs fun n vs => .popI .i64 vs fun n vs => .unNil vs (.leaf (.ret (.int .i64 0)))) (fun vs => .popI .i64 vs fun n vs => .popI .i64 vs fun n_5 vs => .unNil vs (.leaf (.ret (.int .i64 n)))) fun x x_1 => .fail)) (fun vs => .popI .i64 vs fun n vs => .unNil vs (.leaf (.ret (.int .i64 n)))) fun x x_1 => .fail)
theorem w3167 (t_0p : Option Addr) (t_0n t_0c : Nat) (t_1p : Option Addr) (t_1n t_1c : Nat) (t_2p : Option Addr) (t_2n t_2c : Nat) (i : Int) (hX : XOK X) (hw : (n3167 t_0p t_0n t_0c t_1p t_1n t_1c t_2p t_2n t_2c i).wp X Tryz.prog (retQ A) h) : FWK X Tryz.prog .normal 113 #[.agg #[.slice t_0p t_0n t_0c, .slice t_1p t_1n t_1c, .slice t_2p t_2n t_2c], .int .i64 i] h A := fwk_neat (show ftree ({ P := Tryz.prog, priv := [2, 5], loops := [{ id := 0, slots := [(4, .int .i64), (6, .int .i64)], ro := [2, 5], outs := [] }], joins := [{ id := 4, slots := [(4, .int .i64)], ro := [2, 5], outs := [] }] }) Tryz.f113 [.agg #[.slice t_0p t_0n t_0c, .slice t_1p t_1n t_1c, .slice t_2p t_2n t_2c], .int .i64 i] = n3167 t_0p t_0n t_0c t_1p t_1n t_1c t_2p t_2n t_2c i by kernel_rfl) (by simp) (by kernel_rfl) (by kernel_rfl) hX hw
noncomputable def n3168 (t_0p : Option Addr) (t_0n t_0c : Nat) (t_1p : Option Addr) (t_1n t_1c : Nat) (t_2p : Option Addr) (t_2n t_2c : Nat) (edition n : Int) : T := .call false 183 #[.agg #[.slice t_0p t_0n t_0c, .slice t_1p t_1n t_1c, .slice t_2p t_2n t_2c], .int .i64 edition] fun v => .unS v fun a n_1 c => .call false 156 #[.int .i64 n, .int .i64 0, .int .i64 (IntKind.wrap .i64 ((↑n_1 : Int) - 1))] fun v => .unB v fun b => .leaf (.ret (.bool b))
theorem w3168 (t_0p : Option Addr) (t_0n t_0c : Nat) (t_1p : Option Addr) (t_1n t_1c : Nat) (t_2p : Option Addr) (t_2n t_2c : Nat) (edition n : Int) (hX : XOK X) (hw : (n3168 t_0p t_0n t_0c t_1p t_1n t_1c t_2p t_2n t_2c edition n).wp X Tryz.prog (retQ A) h) : FWK X Tryz.prog .normal 127 #[.agg #[.slice t_0p t_0n t_0c, .slice t_1p t_1n t_1c, .slice t_2p t_2n t_2c], .int .i64 edition, .int .i64 n] h A := fwk_neat (show ftree ({ P := Tryz.prog, priv := [3], loops := [], joins := [] }) Tryz.f127 [.agg #[.slice t_0p t_0n t_0c, .slice t_1p t_1n t_1c, .slice t_2p t_2n t_2c], .int .i64 edition, .int .i64 n] = n3168 t_0p t_0n t_0c t_1p t_1n t_1c t_2p t_2n t_2c edition n by kernel_rfl) (by simp) (by kernel_rfl) (by kernel_rfl) hX hw
noncomputable def n3180 (t_0p : Option Addr) (t_0n t_0c : Nat) (t_1p : Option Addr) (t_1n t_1c : Nat) (t_2p : Option Addr) (t_2n t_2c : Nat) : T := .call false 156 #[.int .i64 (↑t_0n : Int), .int .i64 1, .int .i64 3] fun v => .unB v fun b => bif !b then .leaf (.ret (.int .i64 2)) else .sem false (Instr.makeMap 314 none) fun v => .unM v fun a => .loop [.int .i64 0, .int .i64 0] (fun vs => .popI .i64 vs fun n vs => .popI .i64 vs fun n_1 vs => .unNil vs (bif decide (n_1 < (↑t_0n : Int)) then .need (0 ≤ n_1 ∧ n_1 < (↑t_0n : Int)) (.someA t_0p fun a_1 => .loadS ((a_1.add (n_1.toNat * 1)).add 0) fun p n_2 c => bif decide ((↑n_2 : Int) > 8) then .leaf (.retn [.int .i64 2, .int .i64 n_1]) else .loop [.int .i64 n, .int .i64 0] (fun vs => .popI .i64 vs fun n vs => .popI .i64 vs fun n_3 vs => .unNil vs (bif decide (n_3 < (↑n_2 : Int)) then .need (0 ≤ n_3 ∧ n_3 < (↑n_2 : Int)) (.someA p fun a_2 => .loadStr ((a_2.add (n_3.toNat * 2)).add 0) fun s => .loadI .i64 ((a_2.add (n_3.toNat * 2)).add 1) fun n_4 => .call false 206 #[.string s] fun v => .unB v fun b => bif !b then .leaf (.retn [.int .i64 4, .int .i64 n_3]) else .sem false (Instr.lookup 314 (.map a) (.agg #[.int .i64 n_1, .string s]) false) fun v => .unB v fun b => bif b then .leaf (.retn [.int .i64 5, .int .i64 n_3]) else .call false 156 #[.int .i64 n_4, .int .i64 1, .int .i64 45] fun v => .unB v fun b => bif !b then .leaf (.retn [.int .i64 1, .int .i64 n_3]) else .sem false (Sem.bind (Instr.mapUpdate 314 (.map a) (.agg #[.int .i64 n_1, .string s]) (.bool true)) fun __r => pure (.tuple #[])) fun x => .leaf (.again [.int .i64 n, .int .i64 (IntKind.wrap .i64 (n_3 + 1))])) else .leaf (.brk [.int .i64 n, .int .i64 n_3]))) (fun vs => .popI .i64 vs fun n vs => .popI .i64 vs fun n_3 vs => .unNil vs (.leaf (.again [.int .i64 n, .int .i64 (IntKind.wrap .i64 (n_1 + 1))]))) (fun vs => .popI .i64 vs fun n vs => .popI .i64 vs fun n_3 vs => .unNil vs (.leaf (.retn [.int .i64 n, .int .i64 n_1]))) fun x x_1 => .fail) else .leaf (.brk [.int .i64 n, .int .i64 n_1]))) (fun vs => .popI .i64 vs fun n vs => .popI .i64 vs fun n vs => .unNil vs (.leaf (.ret (.int .i64 0)))) (fun vs => .popI .i64 vs fun n vs => .popI .i64 vs fun n_1 vs => .unNil vs (.leaf (.ret (.int .i64 n)))) fun x x_1 => .fail
theorem w3180 (t_0p : Option Addr) (t_0n t_0c : Nat) (t_1p : Option Addr) (t_1n t_1c : Nat) (t_2p : Option Addr) (t_2n t_2c : Nat) (hX : XOK X) (hw : (n3180 t_0p t_0n t_0c t_1p t_1n t_1c t_2p t_2n t_2c).wp X Tryz.prog (retQ A) h) : FWK X Tryz.prog .normal 153 #[.agg #[.slice t_0p t_0n t_0c, .slice t_1p t_1n t_1c, .slice t_2p t_2n t_2c]] h A := fwk_neat (show ftree ({ P := Tryz.prog, priv := [1, 5, 7, 8], loops := [{ id := 2, slots := [(2, .int .i64), (32, .int .i64)], ro := [1, 5], outs := [] }, { id := 0, slots := [(2, .int .i64), (20, .int .i64)], ro := [1], outs := [] }], joins := [] }) Tryz.f153 [.agg #[.slice t_0p t_0n t_0c, .slice t_1p t_1n t_1c, .slice t_2p t_2n t_2c]] = n3180 t_0p t_0n t_0c t_1p t_1n t_1c t_2p t_2n t_2c by kernel_rfl) (by simp) (by kernel_rfl) (by kernel_rfl) hX hw
noncomputable def n3181 (t_0p : Option Addr) (t_0n t_0c : Nat) (t_1p : Option Addr) (t_1n t_1c : Nat) (t_2p : Option Addr) (t_2n t_2c : Nat) : T := bif decide ((↑t_1n : Int) > 16) then .leaf (.ret (.int .i64 2)) else .sem false (Instr.makeMap 317 none) fun v => .unM v fun a => .loop [.int .i64 0, .int .i64 0] (fun vs => .popI .i64 vs fun n vs => .popI .i64 vs fun n_1 vs => .unNil vs (bif decide (n_1 < (↑t_1n : Int)) then .need (0 ≤ n_1 ∧ n_1 < (↑t_1n : Int)) (.someA t_1p fun a_1 => .loadI .i64 ((a_1.add (n_1.toNat * 3)).add 0) fun n_2 => .loadI .i64 ((a_1.add (n_1.toNat * 3)).add 1) fun n_3 => .loadI .i64 ((a_1.add (n_1.toNat * 3)).add 2) fun n_4 => .call false 107 #[.agg #[.slice t_0p t_0n t_0c, .slice t_1p t_1n t_1c, .slice t_2p t_2n t_2c], .int .i64 n_2] fun v => .unB v fun b => bif !b then .leaf (.retn [.int .i64 6, .int .i64 n_1]) else .call false 107 #[.agg #[.slice t_0p t_0n t_0c, .slice t_1p t_1n t_1c, .slice t_2p t_2n t_2c], .int .i64 (IntKind.wrap .i64 (n_2 + 1))] fun v => .unB v fun b => bif !b then .leaf (.retn [.int .i64 6, .int .i64 n_1]) else .call false 127 #[.agg #[.slice t_0p t_0n t_0c, .slice t_1p t_1n t_1c, .slice t_2p t_2n t_2c], .int .i64 n_2, .int .i64 n_3] fun v => .unB v fun b => bif !b then .leaf (.retn [.int .i64 6, .int .i64 n_1]) else .call false 127 #[.agg #[.slice t_0p t_0n t_0c, .slice t_1p t_1n t_1c, .slice t_2p t_2n t_2c], .int .i64 (IntKind.wrap .i64 (n_2 + 1)), .int .i64 n_4] fun v => .unB v fun b => bif !b then .leaf (.retn [.int .i64 6, .int .i64 n_1]) else .sem false (Instr.lookup 317 (.map a) (.agg #[.int .i64 n_2, .int .i64 n_3, .int .i64 n_4]) false) fun v => .unB v fun b => bif b then .leaf (.retn [.int .i64 5, .int .i64 n_1]) else .sem false (Sem.bind (Instr.mapUpdate 317 (.map a) (.agg #[.int .i64 n_2, .int .i64 n_3, .int .i64 n_4]) (.bool true)) fun __r => pure (.tuple #[])) fun x => .leaf (.again [.int .i64 n, .int .i64 (IntKind.wrap .i64 (n_1 + 1))])) else .leaf (.brk [.int .i64 n, .int .i64 n_1]))) (fun vs => .popI .i64 vs fun n vs => .popI .i64 vs fun n vs => .unNil vs (.leaf (.ret (.int .i64 0)))) (fun vs => .popI .i64 vs fun n vs => .popI .i64 vs fun n_1 vs => .unNil vs (.leaf (.ret (.int .i64 n)))) fun x x_1 => .fail
theorem w3181 (t_0p : Option Addr) (t_0n t_0c : Nat) (t_1p : Option Addr) (t_1n t_1c : Nat) (t_2p : Option Addr) (t_2n t_2c : Nat) (hX : XOK X) (hw : (n3181 t_0p t_0n t_0c t_1p t_1n t_1c t_2p t_2n t_2c).wp X Tryz.prog (retQ A) h) : FWK X Tryz.prog .normal 154 #[.agg #[.slice t_0p t_0n t_0c, .slice t_1p t_1n t_1c, .slice t_2p t_2n t_2c]] h A := fwk_neat (show ftree ({ P := Tryz.prog, priv := [1, 5], loops := [{ id := 0, slots := [(2, .int .i64), (16, .int .i64)], ro := [1], outs := [] }], joins := [] }) Tryz.f154 [.agg #[.slice t_0p t_0n t_0c, .slice t_1p t_1n t_1c, .slice t_2p t_2n t_2c]] = n3181 t_0p t_0n t_0c t_1p t_1n t_1c t_2p t_2n t_2c by kernel_rfl) (by simp) (by kernel_rfl) (by kernel_rfl) hX hw
noncomputable def n3182 (t_0p : Option Addr) (t_0n t_0c : Nat) (t_1p : Option Addr) (t_1n t_1c : Nat) (t_2p : Option Addr) (t_2n t_2c : Nat) : T := bif decide ((↑t_2n : Int) > 10) then .leaf (.ret (.int .i64 2)) else .sem false (Instr.makeMap 318 none) fun v => .unM v fun a => .loop [.int .i64 0, .int .i64 0] (fun vs => .popI .i64 vs fun n vs => .popI .i64 vs fun n_1 vs => .unNil vs (bif decide (n_1 < (↑t_2n : Int)) then .need (0 ≤ n_1 ∧ n_1 < (↑t_2n : Int)) (.someA t_2p fun a_1 => .loadI .i64 ((a_1.add (n_1.toNat * 4)).add 0) fun n_2 => .loadI .i64 ((a_1.add (n_1.toNat * 4)).add 1) fun n_3 => .loadI .i64 ((a_1.add (n_1.toNat * 4)).add 2) fun n_4 => .loadI .i64 ((a_1.add (n_1.toNat * 4)).add 3) fun n_5 => .blk (.call false 107 #[.agg #[.slice t_0p t_0n t_0c, .slice t_1p t_1n t_1c, .slice t_2p t_2n t_2c], .int .i64 n_2] fun v => .unB v fun b => bif !b then .leaf (.again [.bool true]) else .call false 127 #[.agg #[.slice t_0p t_0n t_0c, .slice t_1p t_1n t_1c, .slice t_2p t_2n t_2c], .int .i64 n_2, .int .i64 n_3] fun v => .unB v fun b => bif !b then .leaf (.again [.bool true]) else .call false 127 #[.agg #[.slice t_0p t_0n t_0c, .slice t_1p t_1n t_1c, .slice t_2p t_2n t_2c], .int .i64 n_2, .int .i64 n_4] fun v => .unB v fun b => .leaf (.again [.bool !b])) (fun vs => .popB vs fun b vs => .unNil vs (bif b then .leaf (.retn [.int .i64 6, .int .i64 n_1]) else bif decide (n_3 ≥ n_4) then .leaf (.retn [.int .i64 7, .int .i64 n_1]) else .call false 156 #[.int .i64 n_5, .int .i64 1, .int .i64 5] fun v => .unB v fun b => bif !b then .leaf (.retn [.int .i64 1, .int .i64 n_1]) else .sem false (Instr.lookup 318 (.map a) (.agg #[.int .i64 n_2, .int .i64 n_3, .int .i64 n_4, .int .i64 0]) false) fun v => .unB v fun b => bif b then .leaf (.retn [.int .i64 5, .int .i64 n_1]) else .sem false (Sem.bind (Instr.mapUpdate 318 (.map a) (.agg #[.int .i64 n_2, .int .i64 n_3, .int .i64 n_4, .int .i64 0]) (.bool true)) fun __r => pure (.tuple #[])) fun x => .leaf (.again [.int .i64 n, .int .i64 (IntKind.wrap .i64 (n_1 + 1))]))) (fun vs => .popB vs fun b vs => .unNil vs (.leaf (.retn [.int .i64 n, .int .i64 n_1]))) fun x x_1 => .fail) else .leaf (.brk [.int .i64 n, .int .i64 n_1]))) (fun vs => .popI .i64 vs fun n vs => .popI .i64 vs fun n vs => .unNil vs (.leaf (.ret (.int .i64 0)))) (fun vs => .popI .i64 vs fun n vs => .popI .i64 vs fun n_1 vs => .unNil vs (.leaf (.ret (.int .i64 n)))) fun x x_1 => .fail
theorem w3182 (t_0p : Option Addr) (t_0n t_0c : Nat) (t_1p : Option Addr) (t_1n t_1c : Nat) (t_2p : Option Addr) (t_2n t_2c : Nat) (hX : XOK X) (hw : (n3182 t_0p t_0n t_0c t_1p t_1n t_1c t_2p t_2n t_2c).wp X Tryz.prog (retQ A) h) : FWK X Tryz.prog .normal 155 #[.agg #[.slice t_0p t_0n t_0c, .slice t_1p t_1n t_1c, .slice t_2p t_2n t_2c]] h A := fwk_neat (show ftree ({ P := Tryz.prog, priv := [1, 5, 6], loops := [{ id := 0, slots := [(2, .int .i64), (17, .int .i64)], ro := [1], outs := [] }], joins := [{ id := 2000023, slots := [(23, .bool)], ro := [1, 5, 6], outs := [] }] }) Tryz.f155 [.agg #[.slice t_0p t_0n t_0c, .slice t_1p t_1n t_1c, .slice t_2p t_2n t_2c]] = n3182 t_0p t_0n t_0c t_1p t_1n t_1c t_2p t_2n t_2c by kernel_rfl) (by simp) (by kernel_rfl) (by kernel_rfl) hX hw
noncomputable def n3183 (n first last : Int) : T := bif decide (first ≤ n) then .leaf (.ret (.bool (decide (n ≤ last)))) else .leaf (.ret (.bool false))
theorem w3183 (n first last : Int) (hX : XOK X) (hw : (n3183 n first last).wp X Tryz.prog (retQ A) h) : FWK X Tryz.prog .normal 156 #[.int .i64 n, .int .i64 first, .int .i64 last] h A := fwk_neat (show ftree ({ P := Tryz.prog, priv := [], loops := [], joins := [] }) Tryz.f156 [.int .i64 n, .int .i64 first, .int .i64 last] = n3183 n first last by kernel_rfl) (by simp) (by kernel_rfl) (by kernel_rfl) hX hw
noncomputable def n3194 (t_0p : Option Addr) (t_0n t_0c : Nat) (t_1p : Option Addr) (t_1n t_1c : Nat) (t_2p : Option Addr) (t_2n t_2c : Nat) (edition : Int) : T := .call false 156 #[.int .i64 edition, .int .i64 0, .int .i64 (IntKind.wrap .i64 ((↑t_0n : Int) - 1))] fun v => .unB v fun b => bif !b then .leaf (.ret (.slice none 0 0)) else .need (0 ≤ edition ∧ edition < (↑t_0n : Int)) (.someA t_0p fun a => .loadS ((a.add (edition.toNat * 1)).add 0) fun p n c => .leaf (.ret (.slice p n c)))
theorem w3194 (t_0p : Option Addr) (t_0n t_0c : Nat) (t_1p : Option Addr) (t_1n t_1c : Nat) (t_2p : Option Addr) (t_2n t_2c : Nat) (edition : Int) (hX : XOK X) (hw : (n3194 t_0p t_0n t_0c t_1p t_1n t_1c t_2p t_2n t_2c edition).wp X Tryz.prog (retQ A) h) : FWK X Tryz.prog .normal 183 #[.agg #[.slice t_0p t_0n t_0c, .slice t_1p t_1n t_1c, .slice t_2p t_2n t_2c], .int .i64 edition] h A := fwk_neat (show ftree ({ P := Tryz.prog, priv := [2], loops := [], joins := [] }) Tryz.f183 [.agg #[.slice t_0p t_0n t_0c, .slice t_1p t_1n t_1c, .slice t_2p t_2n t_2c], .int .i64 edition] = n3194 t_0p t_0n t_0c t_1p t_1n t_1c t_2p t_2n t_2c edition by kernel_rfl) (by simp) (by kernel_rfl) (by kernel_rfl) hX hw
noncomputable def n3208 (s : ByteArray) : T := .sem false (Builtin.len_ #[9] 3 #[.string s]) fun v => .unI .i64 v fun n => .call false 156 #[.int .i64 n, .int .i64 1, .int .i64 10] fun v => .unB v fun b => bif !b then .leaf (.ret (.bool false)) else .sem false (Instr.index 9 (.string s) (.int .i64 0)) fun v => .unI .u8 v fun n => bif decide (n < 97) then .leaf (.ret (.bool false)) else .sem false (Instr.index 9 (.string s) (.int .i64 0)) fun v => .unI .u8 v fun n => bif decide (n > 122) then .leaf (.ret (.bool false)) else .sem false (convert 9 355 (.string s)) fun v => .unS v fun a n c => .call false 250 #[.slice a n c, .func (Fn.func 251) #[] #[]] fun v => .unB v fun b => .leaf (.ret (.bool !b))
theorem w3208 (s : ByteArray) (hX : XOK X) (hw : (n3208 s).wp X Tryz.prog (retQ A) h) : FWK X Tryz.prog .normal 206 #[.string s] h A := fwk_neat (show ftree ({ P := Tryz.prog, priv := [], loops := [], joins := [] }) Tryz.f206 [.string s] = n3208 s by kernel_rfl) (by simp) (by kernel_rfl) (by kernel_rfl) hX hw
noncomputable def n3239 (sp : Option Addr) (sn sc : Nat) (f : Value) : T := .call false 264 #[.slice sp sn sc, f] fun v => .unI .i64 v fun n => .leaf (.ret (.bool (decide (n ≥ 0))))
theorem w3239 (sp : Option Addr) (sn sc : Nat) (f : Value) (hX : XOK X) (hw : (n3239 sp sn sc f).wp X Tryz.prog (retQ A) h) : FWK X Tryz.prog .normal 250 #[.slice sp sn sc, f] h A := fwk_neat (show ftree ({ P := Tryz.prog, priv := [], loops := [], joins := [] }) Tryz.f250 [.slice sp sn sc, f] = n3239 sp sn sc f by kernel_rfl) (by simp) (by kernel_rfl) (by kernel_rfl) hX hw
noncomputable def n3240 (c : Int) : T := bif decide (c < 97) then bif decide (c < 48) then .leaf (.ret (.bool true)) else .leaf (.ret (.bool (decide (c > 57)))) else bif decide (c > 122) then bif decide (c < 48) then .leaf (.ret (.bool true)) else .leaf (.ret (.bool (decide (c > 57)))) else .leaf (.ret (.bool false))
theorem w3240 (c : Int) (hX : XOK X) (hw : (n3240 c).wp X Tryz.prog (retQ A) h) : FWK X Tryz.prog .normal 251 #[.int .u8 c] h A := fwk_neat (show ftree ({ P := Tryz.prog, priv := [], loops := [], joins := [] }) Tryz.f251 [.int .u8 c] = n3240 c by kernel_rfl) (by simp) (by kernel_rfl) (by kernel_rfl) hX hw
noncomputable def n3247 (sp : Option Addr) (sn sc : Nat) (f : Value) : T := .loop [.int .i64 0, .int .i64 0] (fun vs => .popI .i64 vs fun n vs => .popI .i64 vs fun n_1 vs => .unNil vs (bif decide (n_1 < (↑sn : Int)) then .need (0 ≤ n_1 ∧ n_1 < (↑sn : Int)) (.someA sp fun a => .loadI .u8 (a.add (n_1.toNat * 1)) fun n_2 => .callv false f #[.int .u8 n_2] fun v => .unB v fun b => bif b then .leaf (.retn [.int .i64 n_1, .int .i64 n_1]) else .leaf (.again [.int .i64 n, .int .i64 (IntKind.wrap .i64 (n_1 + 1))])) else .leaf (.brk [.int .i64 n, .int .i64 n_1]))) (fun vs => .popI .i64 vs fun n vs => .popI .i64 vs fun n vs => .unNil vs (.leaf (.ret (.int .i64 (-1))))) (fun vs => .popI .i64 vs fun n vs => .popI .i64 vs fun n_1 vs => .unNil vs (.leaf (.ret (.int .i64 n)))) fun x x_1 => .fail
theorem w3247 (sp : Option Addr) (sn sc : Nat) (f : Value) (hX : XOK X) (hw : (n3247 sp sn sc f).wp X Tryz.prog (retQ A) h) : FWK X Tryz.prog .normal 264 #[.slice sp sn sc, f] h A := fwk_neat (show ftree ({ P := Tryz.prog, priv := [], loops := [{ id := 0, slots := [(4, .int .i64), (8, .int .i64)], ro := [], outs := [] }], joins := [] }) Tryz.f264 [.slice sp sn sc, f] = n3247 sp sn sc f by kernel_rfl) (by simp) (by kernel_rfl) (by kernel_rfl) hX hw
end Go.Proofs.YtldamlcehbdkdaaGreatDoor
end
section
namespace Go.Proofs.YtldamlcehbdkdaaGreatDoor
open Go Go.TM Go.Proofs
attribute [local irreducible] T.wp CV FWK
theorem und9 : Tryz.prog.underlying 9 = some .string := by kernel_rfl
theorem und1275 : Tryz.prog.underlying 355 = some (.slice 5) := by kernel_rfl
theorem undU8 : Tryz.prog.underlying 5 = some (.int .u8) := by kernel_rfl
theorem c3183 {h : LH} (n a b : Int) : Pu Tryz.prog 156 #[.int .i64 n, .int .i64 a, .int .i64 b] h (.bool (isIn n a b)) := by
 refine w3183 _ _ _ X0_ok ?_
 unfold n3183
 refine t_if (fun e => ?_) (fun e => ?_) <;> refine t_ret ⟨?_, rfl⟩ <;> simp [isIn, e]
theorem c3161 {h : LH} {f : TabC} {t : GTab} (hr : TabR h.get f t) (n : Int) : Pu Tryz.prog 107 #[tabV f, .int .i64 n] h (.bool (isIn n 0 ((t.eds.length : Int) - 1))) := by
 refine w3161 _ _ _ _ _ _ _ _ _ _ X0_ok ?_
 unfold n3161
 have hn := hr.eds.1
 have hb := hr.eds.2.1
 rw [wrap_id (n := (f.n0 : Int) - 1) (by omega) (by omega), hn]
 refine t_pu (c3183 _ _ _) ?_
 refine gZ ?_
 exact t_ret ⟨rfl, rfl⟩
def itemsIn (t : GTab) (e : Int) : List GItem := if isIn e 0 ((t.eds.length : Int) - 1) then t.items e else []
theorem c3194 {h : LH} {f : TabC} {t : GTab} (hr : TabR h.get f t) (e : Int) : FW X0 Tryz.prog 183 #[tabV f, .int .i64 e] h fun r h' => h = h' ∧ ∃ p n c, r = .slice p n c ∧ Sl ItemE 2 h.get p n (itemsIn t e) := by
 refine w3194 _ _ _ _ _ _ _ _ _ _ X0_ok ?_
 unfold n3194
 have hn := hr.eds.1
 have hb := hr.eds.2.1
 rw [wrap_id (n := (f.n0 : Int) - 1) (by omega) (by omega), hn]
 refine t_pu (c3183 _ _ _) ?_
 refine gZ ?_
 refine t_cond (fun b => ?_) (fun b => ?_)
 ·have b' : isIn e 0 ((t.eds.length : Int) - 1) = false := by simpa using b
  refine t_ret ⟨rfl, none, 0, 0, rfl, ?_⟩
  unfold itemsIn
  rw [b']
  exact Sl.nil
 ·have b' : isIn e 0 ((t.eds.length : Int) - 1) = true := by simpa using b
  have hin : 0 ≤ e ∧ e < (t.eds.length : Int) := by
   unfold isIn at b'
   simp only [Bool.and_eq_true, decide_eq_true_eq] at b'
   omega
  obtain ⟨l, a, hl, ha, q, n, c, e1, e2⟩ := hr.eds.at (i := e.toNat) (by omega)
  refine gZ ?_
  refine t_ret ⟨rfl, q, n, c, rfl, ?_⟩
  unfold itemsIn GTab.items
  rw [if_pos b', List.getD_eq_getElem?_getD, hl]
  exact e2
theorem c3168 {h : LH} {f : TabC} {t : GTab} (hr : TabR h.get f t) (e n : Int) : Pu Tryz.prog 127 #[tabV f, .int .i64 e, .int .i64 n] h (.bool (isIn n 0 (((itemsIn t e).length : Int) - 1))) := by
 refine w3168 _ _ _ _ _ _ _ _ _ _ _ X0_ok ?_
 unfold n3168
 refine t_call (FW.top (c3194 hr e)) ?_
 rintro _ _ ⟨rfl, p, k, c, rfl, hs⟩
 have hn := hs.1
 have hb := hs.2.1
 refine gZ ?_
 rw [wrap_id (n := (k : Int) - 1) (by omega) (by omega), hn]
 refine t_pu (c3183 _ _ _) ?_
 refine gZ ?_
 exact t_ret ⟨rfl, rfl⟩
theorem item_is {t : GTab} {e n : Int} : isIn n 0 (((itemsIn t e).length : Int) - 1) = true ↔ itemB t e n := by
 unfold itemsIn itemB isIn
 constructor
 ·intro hh
  split at hh
  ·rename_i h1
   simp only [Bool.and_eq_true, decide_eq_true_eq] at h1 hh
   omega
  ·simp at hh; omega
 ·rintro ⟨h1, h2, h3, h4⟩
  rw [if_pos (by simp; omega)]
  simp; omega
/-! ### Names -/
theorem letter_in (c : UInt8) : isIn (c.toNat : Int) 97 122 = letterB c := by
 unfold isIn letterB
 congr 1 <;> rw [decide_eq_decide] <;> omega
theorem digit_in (c : UInt8) : isIn (c.toNat : Int) 48 57 = digitB c := by
 unfold isIn digitB
 congr 1 <;> rw [decide_eq_decide] <;> omega
theorem byte_lt (c : UInt8) : c.toNat < 256 := c.toNat_lt
theorem c3240 {h : LH} (c : UInt8) : Pu Tryz.prog 251 #[.int .u8 (c.toNat : Int)] h (.bool (!(letterB c || digitB c))) := by
 refine w3240 _ X0_ok ?_
 unfold n3240
 unfold letterB digitB
 refine t_if (fun e1 => ?_) (fun e1 => ?_)
 ·refine t_if (fun e2 => ?_) (fun e2 => ?_) <;> refine t_ret ⟨?_, rfl⟩
  ·have h1 : ¬ 97 ≤ c.toNat := by omega
   have h2 : ¬ 48 ≤ c.toNat := by omega
   simp [h1, h2]
  ·have h1 : ¬ 97 ≤ c.toNat := by omega
   have h2 : 48 ≤ c.toNat := by omega
   by_cases h3 : c.toNat ≤ 57
   ·have : ¬ (c.toNat : Int) > 57 := by omega
    simp [h1, h2, h3, this]
   ·have : (c.toNat : Int) > 57 := by omega
    simp [h1, h2, h3, this]
 ·have h1 : 97 ≤ c.toNat := by omega
  refine t_if (fun e2 => ?_) (fun e2 => ?_)
  ·refine t_if (fun e3 => by omega) (fun e3 => ?_)
   refine t_ret ⟨?_, rfl⟩
   have h2 : ¬ c.toNat ≤ 122 := by omega
   have h3 : ¬ c.toNat ≤ 57 := by omega
   have : (c.toNat : Int) > 57 := by omega
   simp [h2, h3, this]
  ·refine t_ret ⟨?_, rfl⟩
   have h2 : c.toNat ≤ 122 := by omega
   simp [h1, h2]
theorem c3247 {h : LH} {p : Option Addr} {n c : Nat} {l : List UInt8} {fv : Value} {g : UInt8 → Bool} (hl : Sl ByteE 1 h.get p n l) (hf : ∀ x : UInt8, CV X0 Tryz.prog fv #[.int .u8 (x.toNat : Int)] h fun r h' => r = .bool (g x) ∧ h' = h) :
  Pu Tryz.prog 264 #[.slice p n c, fv] h (.int .i64 (placeF g 0 l)) := by
 refine w3247 _ _ _ _ X0_ok ?_
 unfold n3247
 have hn := hl.1
 have hb := hl.2.1
 refine t_loop (fun m vs h' => h' = h ∧ ∃ i : Nat, vs = [.int .i64 0, .int .i64 i] ∧ i ≤ n ∧ m = n - i ∧ placeF g 0 l = placeF g i (l.drop i)) ⟨rfl, 0, rfl, Nat.zero_le _, rfl, rfl⟩ ?_
 rintro Y m vs _ hY ⟨rfl, i, rfl, hi, rfl, hc⟩
 refine gZ ?_
 refine t_if (fun e1 => ?_) (fun e1 => ?_)
 ·obtain ⟨x, a, hx, ha, e2⟩ := hl.at (i := i) (by omega)
  unfold ByteE at e2
  refine gZ ?_
  refine t_callv (hf x) ?_
  rintro _ _ ⟨rfl, rfl⟩
  refine gZ ?_
  rw [drop_of hx, placeF] at hc
  refine t_cond (fun e3 => ?_) (fun e3 => ?_)
  ·refine gZ ?_
   refine t_ret ⟨?_, rfl⟩
   rw [hc, if_pos e3]
  ·refine t_again (hY (n - (i + 1)) _ _ (by omega) ⟨rfl, i + 1, ?_, by omega, rfl, ?_⟩)
   ·rw [wrap_id (by omega) (by omega)]; rfl
   ·rw [hc, if_neg (by simp [e3])]
 ·refine gZ ?_
  refine t_ret ⟨?_, rfl⟩
  rw [hc, List.drop_eq_nil_of_le (by omega)]; rfl
theorem c3239 {h : LH} {p : Option Addr} {n c : Nat} {l : List UInt8} {fv : Value} {g : UInt8 → Bool} (hl : Sl ByteE 1 h.get p n l) (hf : ∀ x : UInt8, CV X0 Tryz.prog fv #[.int .u8 (x.toNat : Int)] h fun r h' => r = .bool (g x) ∧ h' = h) :
  Pu Tryz.prog 250 #[.slice p n c, fv] h (.bool (l.any g)) := by
 refine w3239 _ _ _ _ X0_ok ?_
 unfold n3239
 refine t_pu (c3247 hl hf) ?_
 refine gZ ?_
 refine t_ret ⟨?_, rfl⟩
 rw [placeF_ge]
theorem c3208 {h : LH} {s : ByteArray} (hs : NameOk s) : Gr Tryz.prog 206 #[.string s] h fun r _ => r = .bool true := by
 refine w3208 _ X0_ok ?_
 unfold n3208
 have hsz := hs.size
 have h0 : 0 < s.data.size := hsz.1
 have hc := Array.getElem?_eq_getElem (xs := s.data) (i := 0) h0
 generalize s.data[0] = c at hc
 have hl : letterB c = true := (hs.all 0 c hc).resolve_right (fun hh => hh.2 rfl)
 unfold letterB at hl
 simp only [Bool.and_eq_true, decide_eq_true_eq] at hl
 refine t_lenStr und9 ?_
 refine gZ ?_
 refine t_pu (c3183 _ _ _) ?_
 have e1 : isIn (s.size : Int) 1 10 = true := by unfold isIn; simp; omega
 rw [e1]
 refine gZ ?_
 refine t_cond (fun e => by cases e) (fun _ => ?_)
 refine t_indexS (i := 0) und9 hc ?_
 refine gZ ?_
 refine t_if (fun e => by omega) (fun _ => ?_)
 refine t_indexS (i := 0) und9 hc ?_
 refine gZ ?_
 refine t_if (fun e => by omega) (fun _ => ?_)
 refine t_bytes und9 und1275 undU8 (by omega) fun r cap h1 le1 hsl => ?_
 refine gZ ?_
 refine t_pu (c3239 hsl (g := fun c => !(letterB c || digitB c)) (fun x => ?_)) ?_
 ·exact CV.mono (cv_fw X0_ok (by rfl) (c3240 x)) (by rintro v h' ⟨rfl, rfl⟩; exact ⟨rfl, rfl⟩)
 have hany : (s.data.toList.any fun c => !(letterB c || digitB c)) = false := by
  rw [List.any_eq_false]
  intro c hc
  obtain ⟨i, hi⟩ := List.mem_iff_getElem?.1 hc
  rcases hs.all i c (by simpa using hi) with h1 | ⟨h1, _⟩ <;> simp [h1]
 rw [hany]
 refine gZ ?_
 exact t_ret ⟨le1, rfl⟩
theorem c3140 {h : LH} (s : ByteArray) : FW X0 Tryz.prog 71 #[.string s] h fun r h' => h = h' ∧ ∃ b, r = .bool b ∧ (b = true → NameOk s) := by
 refine w3140 _ X0_ok ?_
 unfold n3140
 refine t_blk (fun vs h' => vs = [.bool false] ∧ h = h' ∧ 1 ≤ s.size ∧ s.size ≤ 10) ?_ ?_
 ·refine t_lenStr und9 ?_
  refine gZ ?_
  refine t_cond (fun _ => ?_) (fun e1 => ?_)
  ·refine gI ?_
   refine gZ ?_
   exact t_ret ⟨rfl, false, rfl, fun e => by cases e⟩
  refine t_lenStr und9 ?_
  refine gZ ?_
  refine t_if (fun _ => ?_) (fun e2 => ?_)
  ·refine gI ?_
   refine gZ ?_
   exact t_ret ⟨rfl, false, rfl, fun e => by cases e⟩
  ·refine t_again ⟨rfl, rfl, ?_, by omega⟩
   have : ¬ s.size = 0 := by simpa using e1
   omega
 rintro vs _ ⟨rfl, rfl, hs1, hs2⟩
 refine gZ ?_
 refine t_loop (fun mm vs h' => h = h' ∧ ∃ i : Nat, vs = [.bool false, .int .i64 i] ∧ i ≤ s.size ∧ mm = s.size - i ∧ ∀ (j : Nat) c, j < i → s.data[j]? = some c → letterB c = true ∨ (digitB c = true ∧ j ≠ 0)) ⟨rfl, 0, rfl, Nat.zero_le _, rfl, fun j c hj => absurd hj (Nat.not_lt_zero _)⟩ ?_
 rintro Y mm vs _ hY ⟨rfl, i, rfl, hi, rfl, hall⟩
 refine gZ ?_
 refine t_lenStr und9 ?_
 refine gZ ?_
 refine t_if (fun e1 => ?_) (fun e1 => ?_)
 ·have hlt : i < s.data.size := by show i < s.size; omega
  have hc := Array.getElem?_eq_getElem (xs := s.data) (i := i) hlt
  generalize s.data[i] = c at hc
  have hw : IntKind.wrap .i64 (c.toNat : Int) = (c.toNat : Int) := wrap_id (by omega) (by have := byte_lt c; omega)
  have i1 := letter_in c
  have i2 := digit_in c
  have next : (letterB c = true ∨ (digitB c = true ∧ i ≠ 0)) → Y [.bool false, .int .i64 (IntKind.wrap .i64 ((i : Int) + 1))] h := fun hok => by
   refine hY (s.size - (i + 1)) _ _ (by omega) ⟨rfl, i + 1, ?_, by omega, rfl, fun j c' hj hc' => ?_⟩
   ·rw [wrap_id (by omega) (by omega)]; rfl
   ·by_cases e : j = i
    ·subst e; rw [hc] at hc'; cases hc'; exact hok
    ·exact hall j c' (by omega) hc'
  refine t_blk (fun vs h' => vs = [.bool (letterB c), .bool (digitB c)] ∧ h = h') ?_ ?_
  ·refine t_both ?_ ?_
   ·refine t_indexS und9 hc ?_
    refine gZ ?_
    refine t_both ?_ ?_
    ·rw [hw]
     refine t_pu (c49 _ _ _) ?_
     rw [i1]
     refine gZ ?_
     refine t_indexS und9 hc ?_
     refine gZ ?_
     rw [hw]
     refine t_pu (c49 _ _ _) ?_
     rw [i2]
     refine gZ ?_
     exact t_again ⟨rfl, rfl⟩
    ·refine t_indexS und9 hc ?_
     refine gZ ?_
     rw [hw]
     refine t_pu (c49 _ _ _) ?_
     rw [i1]
     refine gZ ?_
     refine t_pu (c49 _ _ _) ?_
     rw [i2]
     refine gZ ?_
     exact t_again ⟨rfl, rfl⟩
   ·refine t_indexS und9 hc ?_
    refine gZ ?_
    refine t_indexS und9 hc ?_
    refine gZ ?_
    rw [hw]
    refine t_pu (c49 _ _ _) ?_
    rw [i1]
    refine gZ ?_
    refine t_pu (c49 _ _ _) ?_
    rw [i2]
    refine gZ ?_
    exact t_again ⟨rfl, rfl⟩
  rintro vs _ ⟨rfl, rfl⟩
  refine gZ ?_
  refine t_cond (fun b1 => ?_) (fun b1 => ?_)
  ·refine t_cond (fun _ => ?_) (fun b2 => ?_)
   ·refine gI ?_
    refine gZ ?_
    exact t_ret ⟨rfl, false, rfl, fun e => by cases e⟩
   refine t_cond (fun _ => ?_) (fun b3 => ?_)
   ·refine gI ?_
    refine gZ ?_
    exact t_ret ⟨rfl, false, rfl, fun e => by cases e⟩
   ·refine t_again (next (.inr ⟨by simpa using b2, ?_⟩))
    intro e0
    subst e0
    simp at b3
  ·exact t_again (next (.inl (by simpa using b1)))
 ·refine gZ ?_
  refine t_ret ⟨rfl, true, rfl, fun _ => ⟨⟨hs1, hs2⟩, fun j c hc => hall j c ?_ hc⟩⟩
  have : j < s.data.size := (Array.getElem?_eq_some_iff.1 hc).1
  have h2 : s.data.size = s.size := rfl
  omega
end Go.Proofs.YtldamlcehbdkdaaGreatDoor
end
section
namespace Go.Proofs.YtldamlcehbdkdaaGreatDoor
open Go Go.TM Go.Proofs
attribute [local irreducible] T.wp CV FWK
theorem c3131 {h : LH} {f : TabC} {t : GTab} (hr : TabR h.get f t) : FW X0 Tryz.prog 50 #[tabV f] h fun r h' => h = h' ∧ ∃ b, r = .bool b := by
 refine w3131 _ _ _ _ _ _ _ _ _ X0_ok ?_
 unfold n3131
 have hn := hr.eds.1
 have hb := hr.eds.2.1
 refine t_blk (fun vs h' => vs = [.bool false] ∧ h = h') ?_ ?_
 ·refine t_if (fun _ => ?_) (fun _ => ?_)
  ·refine gI ?_
   refine gZ ?_
   exact t_ret ⟨rfl, _, rfl⟩
  refine t_if (fun _ => ?_) (fun _ => ?_)
  ·refine gI ?_
   refine gZ ?_
   exact t_ret ⟨rfl, _, rfl⟩
  refine t_if (fun _ => ?_) (fun _ => ?_)
  ·refine gI ?_
   refine gZ ?_
   exact t_ret ⟨rfl, _, rfl⟩
  ·exact t_again ⟨rfl, rfl⟩
 rintro vs _ ⟨rfl, rfl⟩
 refine gZ ?_
 refine t_loop (fun mm vs h' => h = h' ∧ ∃ i : Nat, vs = [.bool false, .int .i64 i] ∧ i ≤ f.n0 ∧ mm = f.n0 - i) ⟨rfl, 0, rfl, Nat.zero_le _, rfl⟩ ?_
 rintro Y mm vs _ hY ⟨rfl, i, rfl, hi, rfl⟩
 refine gZ ?_
 refine t_if (fun e1 => ?_) (fun e1 => ?_)
 ·obtain ⟨l, a, hl, ha, q, n, c, e2, e3⟩ := hr.eds.at (i := i) (by omega)
  have hq := e3.1
  have hq2 := e3.2.1
  have hin : 0 ≤ (i : Int) ∧ (i : Int) < (f.n0 : Int) := by omega
  refine gZ ?_
  refine t_if (fun _ => ?_) (fun _ => ?_)
  ·refine gI ?_
   refine gZ ?_
   exact t_ret ⟨rfl, _, rfl⟩
  refine t_loop (fun mm vs h' => h = h' ∧ ∃ j : Nat, vs = [.bool false, .int .i64 j] ∧ j ≤ n ∧ mm = n - j) ⟨rfl, 0, rfl, Nat.zero_le _, rfl⟩ ?_
  rintro Y2 mm vs _ hY2 ⟨rfl, j, rfl, hj, rfl⟩
  refine gZ ?_
  refine t_if (fun e4 => ?_) (fun e4 => ?_)
  ·obtain ⟨x, b, hx, hb', g1, g2⟩ := e3.at (i := j) (by omega)
   have hjn : 0 ≤ (j : Int) ∧ (j : Int) < (n : Int) := by omega
   refine gZ ?_
   repeat ((first | refine t_loadStr (by assumption) ?_ | refine t_loadV (by assumption) ?_ | refine gL0 (by assumption) ?_); refine gZ ?_)
   refine t_lenStr und9 ?_
   refine gZ ?_
   refine t_if (fun _ => ?_) (fun _ => ?_)
   ·refine gI ?_
    refine gZ ?_
    exact t_ret ⟨rfl, _, rfl⟩
   ·refine t_again (hY2 (n - (j + 1)) _ _ (by omega) ⟨rfl, j + 1, ?_, by omega, rfl⟩)
    rw [wrap_id (by omega) (by omega)]; rfl
  ·refine gZ ?_
   refine t_again (hY (f.n0 - (i + 1)) _ _ (by omega) ⟨rfl, i + 1, ?_, by omega, rfl⟩)
   rw [wrap_id (by omega) (by omega)]; rfl
 ·refine gZ ?_
  exact t_ret ⟨rfl, _, rfl⟩
set_option maxRecDepth 10000 in
theorem c3165 {h : LH} {p : Option Addr} {n c : Nat} {l : List GItem} (hl : Sl ItemE 2 h.get p n l) : FW X0 Tryz.prog 111 #[.agg #[.slice p n c]] h fun r h' => h = h' ∧ ∃ g : Int, r = .int .i64 g ∧ (g = 0 → EdOk l) := by
 refine w3165 _ _ _ X0_ok ?_
 unfold n3165
 have hn := hl.1
 have hb := hl.2.1
 refine t_if (fun _ => t_ret ⟨rfl, 2, rfl, fun e => by cases e⟩) (fun e8 => ?_)
 refine t_loop (fun mm vs h' => h = h' ∧ ∃ i : Nat, vs = [.int .i64 0, .int .i64 i] ∧ i ≤ n ∧ mm = n - i ∧ (∀ (j : Nat) x, j < i → l[j]? = some x → NameOk x.name ∧ 1 ≤ x.cls ∧ x.cls ≤ 45) ∧ ∀ (j k : Nat) x y, j < k → k < i → l[j]? = some x → l[k]? = some y → x.name ≠ y.name)
  ⟨rfl, 0, rfl, Nat.zero_le _, rfl, fun j x hj => absurd hj (Nat.not_lt_zero _), fun j k x y _ hk => absurd hk (Nat.not_lt_zero _)⟩ ?_
 rintro Y mm vs _ hY ⟨rfl, i, rfl, hi, rfl, hall, honce⟩
 refine gZ ?_
 refine t_if (fun e1 => ?_) (fun e1 => ?_)
 ·obtain ⟨x, a, hx, ha, g1, g2⟩ := hl.at (i := i) (by omega)
  have hin : 0 ≤ (i : Int) ∧ (i : Int) < (n : Int) := by omega
  refine gZ ?_
  repeat ((first | refine t_loadStr (by assumption) ?_ | refine t_loadV (by assumption) ?_ | refine gL0 (by assumption) ?_); refine gZ ?_)
  refine t_call (FW.top (c3140 x.name)) ?_
  rintro _ _ ⟨rfl, b, rfl, hbn⟩
  refine gZ ?_
  refine t_cond (fun _ => ?_) (fun b1 => ?_)
  ·refine gI ?_
   refine gZ ?_
   exact t_ret ⟨rfl, 4, rfl, fun e => by cases e⟩
  have hname := hbn (by simpa using b1)
  refine t_loop (fun mm vs h' => h = h' ∧ ∃ k : Nat, vs = [.int .i64 0, .int .i64 k] ∧ k ≤ i ∧ mm = i - k ∧ ∀ (j : Nat) y, j < k → l[j]? = some y → y.name ≠ x.name) ⟨rfl, 0, rfl, Nat.zero_le _, rfl, fun j y hj => absurd hj (Nat.not_lt_zero _)⟩ ?_
  rintro Y2 mm vs _ hY2 ⟨rfl, k, rfl, hk, rfl, hne⟩
  refine gZ ?_
  refine t_if (fun e2 => ?_) (fun e2 => ?_)
  ·obtain ⟨y, a', hy, ha', g3, g4⟩ := hl.at (i := k) (by omega)
   obtain rfl : a = a' := Option.some.inj (ha.symm.trans ha')
   have hkn : 0 ≤ (k : Int) ∧ (k : Int) < (n : Int) := by omega
   refine gZ ?_
   repeat ((first | refine t_loadStr (by assumption) ?_ | refine t_loadV (by assumption) ?_ | refine gL0 (by assumption) ?_); refine gZ ?_)
   refine t_eqStr und9 fun cb hcb => ?_
   refine gZ ?_
   refine t_cond (fun _ => ?_) (fun b2 => ?_)
   ·refine gI ?_
    refine gZ ?_
    exact t_ret ⟨rfl, 5, rfl, fun e => by cases e⟩
   ·refine t_again (hY2 (i - (k + 1)) _ _ (by omega) ⟨rfl, k + 1, ?_, by omega, rfl, fun j z hj hz => ?_⟩)
    ·rw [wrap_id (by omega) (by omega)]; rfl
    ·by_cases e : j = k
     ·subst e; rw [hy] at hz; cases hz
      intro hh
      rw [hcb.2 hh] at b2; cases b2
     ·exact hne j z (by omega) hz
  ·refine gZ ?_
   refine t_pu (c49 _ _ _) ?_
   refine gZ ?_
   refine t_cond (fun _ => ?_) (fun b3 => ?_)
   ·refine gI ?_
    refine gZ ?_
    exact t_ret ⟨rfl, 1, rfl, fun e => by cases e⟩
   ·have hcls : 1 ≤ x.cls ∧ x.cls ≤ 45 := by
     unfold isIn at b3
     simpa using b3
    refine t_again (hY (n - (i + 1)) _ _ (by omega) ⟨rfl, i + 1, ?_, by omega, rfl, fun j y hj hy => ?_, fun j k' y z hjk hk' hy hz => ?_⟩)
    ·rw [wrap_id (by omega) (by omega)]; rfl
    ·by_cases e : j = i
     ·subst e; rw [hx] at hy; cases hy; exact ⟨hname, hcls⟩
     ·exact hall j y (by omega) hy
    ·by_cases e : k' = i
     ·subst e; rw [hx] at hz; cases hz
      exact hne j y (by omega) hy
     ·exact honce j k' y z hjk (by omega) hy hz
 ·refine gZ ?_
  refine t_ret ⟨rfl, 0, rfl, fun _ => ⟨by omega, fun x hx => ?_, fun x hx => ?_, fun j k x y hjk hx hy => ?_⟩⟩
  ·obtain ⟨j, hj⟩ := List.mem_iff_getElem?.1 hx
   exact (hall j x (by have := (List.getElem?_eq_some_iff.1 hj).1; omega) hj).1
  ·obtain ⟨j, hj⟩ := List.mem_iff_getElem?.1 hx
   exact (hall j x (by have := (List.getElem?_eq_some_iff.1 hj).1; omega) hj).2
  ·exact honce j k x y hjk (by have := (List.getElem?_eq_some_iff.1 hy).1; omega) hx hy
end Go.Proofs.YtldamlcehbdkdaaGreatDoor
end
section
namespace Go.Proofs.YtldamlcehbdkdaaGreatDoor
open Go Go.TM Go.Proofs
set_option linter.unusedVariables false
set_option maxRecDepth 100000
variable {X : XP} {h : LH} {A : Value → LH → Prop}
noncomputable def n3108 (t_0p : Option Addr) (t_0n t_0c : Nat) (t_1p : Option Addr) (t_1n t_1c : Nat) (t_2p : Option Addr) (t_2n t_2c : Nat) : T := .call false 50 #[.agg #[.slice t_0p t_0n t_0c, .slice t_1p t_1n t_1c, .slice t_2p t_2n t_2c]] fun v => .unB v fun b => bif !b then .call false 51 #[.agg #[.slice t_0p t_0n t_0c, .slice t_1p t_1n t_1c, .slice t_2p t_2n t_2c]] fun v => .unI .i64 v fun n => .leaf (.ret (.bool (n == 0))) else .leaf (.ret (.bool false))
theorem w3108 (t_0p : Option Addr) (t_0n t_0c : Nat) (t_1p : Option Addr) (t_1n t_1c : Nat) (t_2p : Option Addr) (t_2n t_2c : Nat) (hX : XOK X) (hw : (n3108 t_0p t_0n t_0c t_1p t_1n t_1c t_2p t_2n t_2c).wp X Tryz.prog (retQ A) h) : FWK X Tryz.prog .normal 12 #[.agg #[.slice t_0p t_0n t_0c, .slice t_1p t_1n t_1c, .slice t_2p t_2n t_2c]] h A := fwk_neat (show ftree ({ P := Tryz.prog, priv := [1], loops := [], joins := [] }) Tryz.f12 [.agg #[.slice t_0p t_0n t_0c, .slice t_1p t_1n t_1c, .slice t_2p t_2n t_2c]] = n3108 t_0p t_0n t_0c t_1p t_1n t_1c t_2p t_2n t_2c by kernel_rfl) (by simp) (by kernel_rfl) (by kernel_rfl) hX hw
noncomputable def n3118 (lp : Option Addr) (ln lc : Nat) (in0p : Option Addr) (in0n in0c : Nat) : T := .loop [.bool false, .int .i64 0] (fun vs => .popB vs fun b vs => .popI .i64 vs fun n vs => .unNil vs (bif decide (n < (↑ln : Int)) then .need (0 ≤ n ∧ n < (↑ln : Int)) (.someA lp fun a => .loadI .i64 (a.add (n.toNat * 1)) fun n_1 => .call false 20 #[.slice in0p in0n in0c, .int .i64 n_1] fun v => .unB v fun b_1 => bif !b_1 then .leaf (.retn [.bool false, .int .i64 n]) else .leaf (.again [.bool b, .int .i64 (IntKind.wrap .i64 (n + 1))])) else .leaf (.brk [.bool b, .int .i64 n]))) (fun vs => .popB vs fun b vs => .popI .i64 vs fun n vs => .unNil vs (.leaf (.ret (.bool true)))) (fun vs => .popB vs fun b vs => .popI .i64 vs fun n vs => .unNil vs (.leaf (.ret (.bool b)))) fun x x_1 => .fail
theorem w3118 (lp : Option Addr) (ln lc : Nat) (in0p : Option Addr) (in0n in0c : Nat) (hX : XOK X) (hw : (n3118 lp ln lc in0p in0n in0c).wp X Tryz.prog (retQ A) h) : FWK X Tryz.prog .normal 26 #[.slice lp ln lc, .slice in0p in0n in0c] h A := fwk_neat (show ftree ({ P := Tryz.prog, priv := [], loops := [{ id := 0, slots := [(4, .bool), (5, .int .i64)], ro := [], outs := [] }], joins := [] }) Tryz.f26 [.slice lp ln lc, .slice in0p in0n in0c] = n3118 lp ln lc in0p in0n in0c by kernel_rfl) (by simp) (by kernel_rfl) (by kernel_rfl) hX hw
noncomputable def n3127 (x_0 x_1 x_2 x_3 x_4 x_5 : Int) (x_6p : Option Addr) (x_6n x_6c : Nat) (land day : Int) (t_0p : Option Addr) (t_0n t_0c : Nat) (t_1p : Option Addr) (t_1n t_1c : Nat) (t_2p : Option Addr) (t_2n t_2c : Nat) (edition : Int) : T := .call false 88 #[.agg #[.int .i64 x_0, .int .i64 x_1, .int .i64 x_2, .int .i64 x_3, .int .i64 x_4, .int .i64 x_5, .slice x_6p x_6n x_6c], .int .i64 land, .int .i64 day] fun v => .unTup v fun l => .unCons l fun v vs => .unS v fun a n c => .unCons vs fun v vs => .unI .i64 v fun n_1 => .unNil vs (.loop [.slice none 0 0, .int .i64 0] (fun vs => .popS vs fun a_1 n_2 c vs => .popI .i64 vs fun n_3 vs => .unNil vs (bif decide (n_3 < (↑n : Int)) then .need (0 ≤ edition ∧ edition < (↑t_0n : Int)) (.someA t_0p fun a_2 => .loadS ((a_2.add (edition.toNat * 1)).add 0) fun p n_4 c_1 => bif decide (n_3 < (↑n_4 : Int)) then .need (0 ≤ n_3 ∧ n_3 < (↑n : Int)) (.someA a fun a => .loadB (a.add (n_3.toNat * 1)) fun b => bif b then .sem false (Instr.buildSlice 30 1 #[(0, .int .i64 n_3)]) fun v => .unS v fun a n c_2 => .sem false (Builtin.append_ #[30, 30] 30 #[.slice a_1 n_2 c, .slice a n c_2]) fun v => .unS v fun a n c => .leaf (.again [.slice a n c, .int .i64 (IntKind.wrap .i64 (n_3 + 1))]) else .leaf (.again [.slice a_1 n_2 c, .int .i64 (IntKind.wrap .i64 (n_3 + 1))])) else .leaf (.brk [.slice a_1 n_2 c, .int .i64 n_3])) else .leaf (.brk [.slice a_1 n_2 c, .int .i64 n_3]))) (fun vs => .popS vs fun a_1 n_2 c_1 vs => .popI .i64 vs fun n_3 vs => .unNil vs (bif n_1 == 0 then .nd (.bool ((↑n : Int) == x_0)) (.nd (.bool ((↑n : Int) == x_0)) (.nd (.int .i64 x_0) (.need (AV.pp 5 0 = AV.pp 5 0) (.nd (.int .i64 (↑n : Int)) (.nd (.slice a n c) (.nd (.bool (n_1 == 0)) (.nd (.int .i64 n_1) (.leaf (.ret (.tuple #[.slice a_1 n_2 c_1, .bool ((↑n : Int) == x_0)])))))))))) else .both (.nd (.tuple #[]) (.nd (.tuple #[]) (.nd (.bool (n_1 == 0)) (.nd (.int .i64 n_1) (.nd (.slice a_1 n_2 c_1) (.both (.nd (.tuple #[]) (.nd (.bool (n_1 == 0)) (.nd (.int .i64 n_1) (.nd (.slice a_1 n_2 c_1) (.nd (.bool false) (.nd (.tuple #[]) (.nd (.bool (n_1 == 0)) (.nd (.int .i64 n_1) (.leaf (.ret (.tuple #[.slice a_1 n_2 c_1, .bool false]))))))))))) (.nd (.tuple #[]) (.nd (.tuple #[]) (.nd (.bool (n_1 == 0)) (.nd (.int .i64 n_1) (.nd (.tuple #[]) (.nd (.bool (n_1 == 0)) (.nd (.int .i64 n_1) (.leaf (.ret (.tuple #[.slice a_1 n_2 c_1, .bool false])))))))))))))))) (.nd (.tuple #[]) (.nd (.tuple #[]) (.nd (.tuple #[]) (.nd (.bool (n_1 == 0)) (.nd (.int .i64 n_1) (.nd (.tuple #[]) (.nd (.tuple #[]) (.nd (.bool (n_1 == 0)) (.nd (.int .i64 n_1) (.nd (.tuple #[]) (.nd (.bool (n_1 == 0)) (.nd (.int .i64 n_1) (.leaf (.ret (.tuple #[.slice a_1 n_2 c_1, .bool false]))))))))))))))))) (fun vs => .popS vs fun a n c vs => .popI .i64 vs fun n vs => .unNil vs (.leaf (.ret (.tuple #[.slice none 0 0, .bool false])))) fun x x_6 => .fail)
theorem w3127 (x_0 x_1 x_2 x_3 x_4 x_5 : Int) (x_6p : Option Addr) (x_6n x_6c : Nat) (land day : Int) (t_0p : Option Addr) (t_0n t_0c : Nat) (t_1p : Option Addr) (t_1n t_1c : Nat) (t_2p : Option Addr) (t_2n t_2c : Nat) (edition : Int) (hX : XOK X) (hw : (n3127 x_0 x_1 x_2 x_3 x_4 x_5 x_6p x_6n x_6c land day t_0p t_0n t_0c t_1p t_1n t_1c t_2p t_2n t_2c edition).wp X Tryz.prog (retQ A) h) : FWK X Tryz.prog .normal 45 #[.agg #[.int .i64 x_0, .int .i64 x_1, .int .i64 x_2, .int .i64 x_3, .int .i64 x_4, .int .i64 x_5, .slice x_6p x_6n x_6c], .int .i64 land, .int .i64 day, .agg #[.slice t_0p t_0n t_0c, .slice t_1p t_1n t_1c, .slice t_2p t_2n t_2c], .int .i64 edition] h A := fwk_neat (show ftree ({ P := Tryz.prog, priv := [5, 8], loops := [{ id := 0, slots := [(14, .slice), (15, .int .i64)], ro := [5, 8], outs := [] }], joins := [] }) Tryz.f45 [.agg #[.int .i64 x_0, .int .i64 x_1, .int .i64 x_2, .int .i64 x_3, .int .i64 x_4, .int .i64 x_5, .slice x_6p x_6n x_6c], .int .i64 land, .int .i64 day, .agg #[.slice t_0p t_0n t_0c, .slice t_1p t_1n t_1c, .slice t_2p t_2n t_2c], .int .i64 edition] = n3127 x_0 x_1 x_2 x_3 x_4 x_5 x_6p x_6n x_6c land day t_0p t_0n t_0c t_1p t_1n t_1c t_2p t_2n t_2c edition by kernel_rfl) (by simp) (by kernel_rfl) (by kernel_rfl) hX hw
end Go.Proofs.YtldamlcehbdkdaaGreatDoor
end
section
namespace Go.Proofs.YtldamlcehbdkdaaGreatDoor
open Go Go.TM Go.Proofs
attribute [local irreducible] T.wp CV FWK
theorem flatMv (a b c : Int) : FlatAgg Tryz.prog 260 [.int .i64 a, .int .i64 b, .int .i64 c] := flat_ints (vs := [a, b, c]) (by kernel_rfl)
theorem egMv : Tryz.prog.eqGuardType Tryz.prog.depth 260 = false := by kernel_rfl
theorem in_iff {n a b : Int} : isIn n a b = true ↔ a ≤ n ∧ n ≤ b := by unfold isIn; simp
set_option maxRecDepth 10000 in
theorem c3166 {h : LH} {f : TabC} {t : GTab} (hr : TabR h.get f t) {i : Nat} (hi : i < f.n1) : FW X0 Tryz.prog 112 #[tabV f, .int .i64 i] h fun r h' => h = h' ∧ ∃ g : Int, r = .int .i64 g ∧
  (g = 0 → ∀ m, t.moves[i]? = some m → (itemB t m.ed m.src ∧ itemB t (m.ed + 1) m.dst) ∧ ∀ (k : Nat) y, k < i → t.moves[k]? = some y → ¬ (y.ed = m.ed ∧ y.src = m.src ∧ y.dst = m.dst)) := by
 refine w3166 _ _ _ _ _ _ _ _ _ _ X0_ok ?_
 unfold n3166
 have hn0 := hr.eds.1
 have hb0 := hr.eds.2.1
 have hn1 := hr.moves.1
 have hb1 := hr.moves.2.1
 obtain ⟨m, a, hm, ha, g1, g2, g3⟩ := hr.moves.at (i := i) (by omega)
 have hin : 0 ≤ (i : Int) ∧ (i : Int) < (f.n1 : Int) := by omega
 refine gZ ?_
 have w2 : IntKind.wrap .i64 ((f.n0 : Int) - 2) = (f.n0 : Int) - 2 := wrap_id (by omega) (by omega)
 rw [w2]
 refine t_blk (fun vs h' => vs = [.int .i64 0] ∧ h = h' ∧ itemB t m.ed m.src ∧ itemB t (m.ed + 1) m.dst) ?_ ?_
 ·refine t_pu (c49 _ _ _) ?_
  refine gZ ?_
  refine t_cond (fun _ => ?_) (fun e1 => ?_)
  ·refine gZ ?_
   exact t_ret ⟨rfl, 6, rfl, fun e => by cases e⟩
  have hed : 0 ≤ m.ed ∧ m.ed ≤ (f.n0 : Int) - 2 := in_iff.1 (by simpa using e1)
  have hedn : 0 ≤ m.ed ∧ m.ed < (f.n0 : Int) := by omega
  have ew : IntKind.wrap .i64 (m.ed + 1) = m.ed + 1 := wrap_id (by omega) (by omega)
  rw [ew]
  have hed1 : 0 ≤ m.ed + 1 ∧ m.ed + 1 < (f.n0 : Int) := by omega
  obtain ⟨l, a0, hl, ha0, q, k, c, e2, e3⟩ := hr.eds.at (i := m.ed.toNat) (by omega)
  obtain ⟨l', a0', hl', ha0', q', k', c', e4, e5⟩ := hr.eds.at (i := (m.ed + 1).toNat) (by omega)
  obtain rfl : a0 = a0' := Option.some.inj (ha0.symm.trans ha0')
  have hk := e3.1
  have hk2 := e3.2.1
  have hk' := e5.1
  have hk2' := e5.2.1
  have wk : IntKind.wrap .i64 ((k : Int) - 1) = (k : Int) - 1 := wrap_id (by omega) (by omega)
  have wk' : IntKind.wrap .i64 ((k' : Int) - 1) = (k' : Int) - 1 := wrap_id (by omega) (by omega)
  refine gZ ?_
  rw [wk]
  refine t_pu (c49 _ _ _) ?_
  refine gZ ?_
  refine t_cond (fun _ => ?_) (fun e6 => ?_)
  ·refine gZ ?_
   exact t_ret ⟨rfl, 6, rfl, fun e => by cases e⟩
  have hsrc := in_iff.1 (show isIn m.src 0 ((k : Int) - 1) = true by simpa using e6)
  refine gZ ?_
  rw [wk']
  refine t_pu (c49 _ _ _) ?_
  refine gZ ?_
  refine t_cond (fun _ => ?_) (fun e7 => ?_)
  ·refine gZ ?_
   exact t_ret ⟨rfl, 6, rfl, fun e => by cases e⟩
  have hdst := in_iff.1 (show isIn m.dst 0 ((k' : Int) - 1) = true by simpa using e7)
  refine t_again ⟨rfl, rfl, ⟨hed.1, by omega, hsrc.1, ?_⟩, ⟨by omega, by omega, hdst.1, ?_⟩⟩
  ·unfold GTab.items
   rw [List.getD_eq_getElem?_getD, hl]
   show m.src < (l.length : Int)
   omega
  ·unfold GTab.items
   rw [List.getD_eq_getElem?_getD, hl']
   show m.dst < (l'.length : Int)
   omega
 rintro vs _ ⟨rfl, rfl, ho1, ho2⟩
 refine gZ ?_
 refine t_loop (fun mm vs h' => h = h' ∧ ∃ k : Nat, vs = [.int .i64 0, .int .i64 k] ∧ k ≤ i ∧ mm = i - k ∧ ∀ (j : Nat) y, j < k → t.moves[j]? = some y → ¬ (y.ed = m.ed ∧ y.src = m.src ∧ y.dst = m.dst)) ⟨rfl, 0, rfl, Nat.zero_le _, rfl, fun j y hj => absurd hj (Nat.not_lt_zero _)⟩ ?_
 rintro Y mm vs _ hY ⟨rfl, k, rfl, hk, rfl, hall⟩
 refine gZ ?_
 refine t_if (fun e1 => ?_) (fun e1 => ?_)
 ·obtain ⟨y, a', hy, ha', g4, g5, g6⟩ := hr.moves.at (i := k) (by omega)
  obtain rfl : a = a' := Option.some.inj (ha.symm.trans ha')
  have hkn : 0 ≤ (k : Int) ∧ (k : Int) < (f.n1 : Int) := by omega
  refine gZ ?_
  refine t_eqK (flatMv _ _ _) (flatMv _ _ _) egMv fun cb hcb => ?_
  refine gZ ?_
  refine t_cond (fun _ => ?_) (fun b2 => ?_)
  ·refine gI ?_
   refine gZ ?_
   exact t_ret ⟨rfl, 5, rfl, fun e => by cases e⟩
  ·refine t_again (hY (i - (k + 1)) _ _ (by omega) ⟨rfl, k + 1, ?_, by omega, rfl, fun j z hj hz => ?_⟩)
   ·rw [wrap_id (by omega) (by omega)]; rfl
   ·by_cases e : j = k
    ·subst e; rw [hy] at hz; cases hz
     rintro ⟨h1, h2, h3⟩
     rw [hcb.2 (by rw [h1, h2, h3])] at b2; cases b2
    ·exact hall j z (by omega) hz
 ·refine gZ ?_
  refine t_ret ⟨rfl, 0, rfl, fun _ m' hm' => ?_⟩
  rw [hm] at hm'; cases hm'
  exact ⟨⟨ho1, ho2⟩, fun j y hj hy => hall j y (by omega) hy⟩
set_option maxRecDepth 10000 in
theorem c3167 {h : LH} {f : TabC} {t : GTab} (hr : TabR h.get f t) {i : Nat} (hi : i < f.n2) : FW X0 Tryz.prog 113 #[tabV f, .int .i64 i] h fun r h' => h = h' ∧ ∃ g : Int, r = .int .i64 g ∧
  (g = 0 → ∀ m, t.kins[i]? = some m → (itemB t m.ed m.one ∧ itemB t m.ed m.two ∧ m.one < m.two ∧ 1 ≤ m.lev ∧ m.lev ≤ 5) ∧ ∀ (k : Nat) y, k < i → t.kins[k]? = some y → ¬ (y.ed = m.ed ∧ y.one = m.one ∧ y.two = m.two)) := by
 refine w3167 _ _ _ _ _ _ _ _ _ _ X0_ok ?_
 unfold n3167
 have hn0 := hr.eds.1
 have hb0 := hr.eds.2.1
 have hn1 := hr.kins.1
 have hb1 := hr.kins.2.1
 obtain ⟨m, a, hm, ha, g1, g2, g3, g4⟩ := hr.kins.at (i := i) (by omega)
 have hin : 0 ≤ (i : Int) ∧ (i : Int) < (f.n2 : Int) := by omega
 refine gZ ?_
 have w2 : IntKind.wrap .i64 ((f.n0 : Int) - 1) = (f.n0 : Int) - 1 := wrap_id (by omega) (by omega)
 rw [w2]
 refine t_blk (fun vs h' => vs = [.int .i64 0] ∧ h = h' ∧ itemB t m.ed m.one ∧ itemB t m.ed m.two) ?_ ?_
 ·refine t_pu (c49 _ _ _) ?_
  refine gZ ?_
  refine t_cond (fun _ => ?_) (fun e1 => ?_)
  ·refine gZ ?_
   exact t_ret ⟨rfl, 6, rfl, fun e => by cases e⟩
  have hed : 0 ≤ m.ed ∧ m.ed ≤ (f.n0 : Int) - 1 := in_iff.1 (by simpa using e1)
  have hedn : 0 ≤ m.ed ∧ m.ed < (f.n0 : Int) := by omega
  obtain ⟨l, a0, hl, ha0, q, k, c, e2, e3⟩ := hr.eds.at (i := m.ed.toNat) (by omega)
  have hk := e3.1
  have hk2 := e3.2.1
  have wk : IntKind.wrap .i64 ((k : Int) - 1) = (k : Int) - 1 := wrap_id (by omega) (by omega)
  refine gZ ?_
  rw [wk]
  refine t_pu (c49 _ _ _) ?_
  refine gZ ?_
  refine t_cond (fun _ => ?_) (fun e6 => ?_)
  ·refine gZ ?_
   exact t_ret ⟨rfl, 6, rfl, fun e => by cases e⟩
  have hsrc := in_iff.1 (show isIn m.one 0 ((k : Int) - 1) = true by simpa using e6)
  refine gZ ?_
  rw [wk]
  refine t_pu (c49 _ _ _) ?_
  refine gZ ?_
  refine t_cond (fun _ => ?_) (fun e7 => ?_)
  ·refine gZ ?_
   exact t_ret ⟨rfl, 6, rfl, fun e => by cases e⟩
  have hdst := in_iff.1 (show isIn m.two 0 ((k : Int) - 1) = true by simpa using e7)
  have hit : (t.items m.ed).length = l.length := by
   unfold GTab.items
   rw [List.getD_eq_getElem?_getD, hl]; rfl
  exact t_again ⟨rfl, rfl, ⟨hed.1, by omega, hsrc.1, by omega⟩, ⟨hed.1, by omega, hdst.1, by omega⟩⟩
 rintro vs _ ⟨rfl, rfl, ho1, ho2⟩
 refine gZ ?_
 refine t_if (fun _ => t_ret ⟨rfl, 7, rfl, fun e => by cases e⟩) (fun e1 => ?_)
 refine t_pu (c49 _ _ _) ?_
 refine gZ ?_
 refine t_cond (fun _ => t_ret ⟨rfl, 1, rfl, fun e => by cases e⟩) (fun e2 => ?_)
 have hlev := in_iff.1 (show isIn m.lev 1 5 = true by simpa using e2)
 refine t_loop (fun mm vs h' => h = h' ∧ ∃ k : Nat, vs = [.int .i64 0, .int .i64 k] ∧ k ≤ i ∧ mm = i - k ∧ ∀ (j : Nat) y, j < k → t.kins[j]? = some y → ¬ (y.ed = m.ed ∧ y.one = m.one ∧ y.two = m.two)) ⟨rfl, 0, rfl, Nat.zero_le _, rfl, fun j y hj => absurd hj (Nat.not_lt_zero _)⟩ ?_
 rintro Y mm vs _ hY ⟨rfl, k, rfl, hk, rfl, hall⟩
 refine gZ ?_
 refine t_if (fun e3 => ?_) (fun e3 => ?_)
 ·obtain ⟨y, a', hy, ha', k1, k2, k3, k4⟩ := hr.kins.at (i := k) (by omega)
  obtain rfl : a = a' := Option.some.inj (ha.symm.trans ha')
  have hkn : 0 ≤ (k : Int) ∧ (k : Int) < (f.n2 : Int) := by omega
  have next : ¬ (y.ed = m.ed ∧ y.one = m.one ∧ y.two = m.two) → Y [.int .i64 0, .int .i64 (IntKind.wrap .i64 ((k : Int) + 1))] h := fun hno => by
   refine hY (i - (k + 1)) _ _ (by omega) ⟨rfl, k + 1, ?_, by omega, rfl, fun j z hj hz => ?_⟩
   ·rw [wrap_id (by omega) (by omega)]; rfl
   ·by_cases e : j = k
    ·subst e; rw [hy] at hz; cases hz; exact hno
    ·exact hall j z (by omega) hz
  refine gZ ?_
  refine t_cond (fun b1 => ?_) (fun b1 => ?_)
  ·refine gZ ?_
   refine t_cond (fun b2 => ?_) (fun b2 => ?_)
   ·refine gZ ?_
    refine t_cond (fun b3 => ?_) (fun b3 => ?_)
    ·refine gI ?_
     refine gZ ?_
     exact t_ret ⟨rfl, 5, rfl, fun e => by cases e⟩
    ·exact t_again (next fun hh => by simp [hh.2.2] at b3)
   ·refine gZ ?_
    refine gT (by rw [b1]) ?_
    refine gZ ?_
    exact t_again (next fun hh => by simp [hh.2.1] at b2)
  ·refine gZ ?_
   exact t_again (next fun hh => by simp [hh.1] at b1)
 ·refine gZ ?_
  refine t_ret ⟨rfl, 0, rfl, fun _ m' hm' => ?_⟩
  rw [hm] at hm'; cases hm'
  exact ⟨⟨ho1, ho2, by omega, hlev.1, hlev.2⟩, fun j y hj hy => hall j y (by omega) hy⟩
theorem c3132 {h : LH} {f : TabC} {t : GTab} (hr : TabR h.get f t) : FW X0 Tryz.prog 51 #[tabV f] h fun r h' => h = h' ∧ ∃ g : Int, r = .int .i64 g ∧ (g = 0 → TabOk t) := by
 refine w3132 _ _ _ _ _ _ _ _ _ X0_ok ?_
 unfold n3132
 have hn0 := hr.eds.1
 have hb0 := hr.eds.2.1
 have hn1 := hr.moves.1
 have hb1 := hr.moves.2.1
 have hn2 := hr.kins.1
 have hb2 := hr.kins.2.1
 refine t_pu (c49 _ _ _) ?_
 refine gZ ?_
 refine t_cond (fun _ => t_ret ⟨rfl, 2, rfl, fun e => by cases e⟩) (fun e0 => ?_)
 have hmany := in_iff.1 (show isIn (f.n0 : Int) 1 3 = true by simpa using e0)
 refine t_loopB (fun mm vs h' => h = h' ∧ ∃ i : Nat, vs = [.int .i64 0, .int .i64 i] ∧ i ≤ f.n0 ∧ mm = f.n0 - i ∧ ∀ (j : Nat) l, j < i → t.eds[j]? = some l → EdOk l) (fun vs h' => h = h' ∧ (∃ i : Nat, vs = [.int .i64 0, .int .i64 i]) ∧ ∀ l ∈ t.eds, EdOk l) ⟨rfl, 0, rfl, Nat.zero_le _, rfl, fun j y hj => absurd hj (Nat.not_lt_zero _)⟩ ?_ ?_
 ·rintro Y mm vs _ hY ⟨rfl, i, rfl, hi, rfl, hall⟩
  refine gZ ?_
  refine t_if (fun e1 => ?_) (fun e1 => ?_)
  ·obtain ⟨l, a, hl, ha, q, n, c, e2, e3⟩ := hr.eds.at (i := i) (by omega)
   have hin : 0 ≤ (i : Int) ∧ (i : Int) < (f.n0 : Int) := by omega
   refine gZ ?_
   refine t_call (FW.top (c3165 e3)) ?_
   rintro _ _ ⟨rfl, g, rfl, hg⟩
   refine gZ ?_
   refine t_cond (fun e4 => ?_) (fun e4 => ?_)
   ·refine gI ?_
    refine gZ ?_
    exact t_ret ⟨rfl, g, rfl, fun e => by subst e; cases e4⟩
   ·refine t_again (hY (f.n0 - (i + 1)) _ _ (by omega) ⟨rfl, i + 1, ?_, by omega, rfl, fun j z hj hz => ?_⟩)
    ·rw [wrap_id (by omega) (by omega)]; rfl
    ·by_cases e : j = i
     ·subst e; rw [hl] at hz; cases hz; exact hg (by simpa using e4)
     ·exact hall j z (by omega) hz
  ·refine gH ⟨rfl, ⟨i, rfl⟩, fun l hl => ?_⟩
   obtain ⟨j, hj⟩ := List.mem_iff_getElem?.1 hl
   exact hall j l (by have := (List.getElem?_eq_some_iff.1 hj).1; omega) hj
 rintro vs _ ⟨rfl, ⟨i0, rfl⟩, heds⟩
 refine gZ ?_
 refine t_if (fun _ => t_ret ⟨rfl, 2, rfl, fun e => by cases e⟩) (fun e1 => ?_)
 refine t_loopB (fun mm vs h' => h = h' ∧ ∃ i : Nat, vs = [.int .i64 0, .int .i64 i] ∧ i ≤ f.n1 ∧ mm = f.n1 - i ∧ ∀ (j : Nat) m, j < i → t.moves[j]? = some m → (itemB t m.ed m.src ∧ itemB t (m.ed + 1) m.dst) ∧ ∀ (k : Nat) y, k < j → t.moves[k]? = some y → ¬ (y.ed = m.ed ∧ y.src = m.src ∧ y.dst = m.dst))
  (fun vs h' => h = h' ∧ (∃ i : Nat, vs = [.int .i64 0, .int .i64 i]) ∧ ∀ (j : Nat) m, t.moves[j]? = some m → (itemB t m.ed m.src ∧ itemB t (m.ed + 1) m.dst) ∧ ∀ (k : Nat) y, k < j → t.moves[k]? = some y → ¬ (y.ed = m.ed ∧ y.src = m.src ∧ y.dst = m.dst)) ⟨rfl, 0, rfl, Nat.zero_le _, rfl, fun j y hj => absurd hj (Nat.not_lt_zero _)⟩ ?_ ?_
 ·rintro Y mm vs _ hY ⟨rfl, i, rfl, hi, rfl, hall⟩
  refine gZ ?_
  refine t_if (fun e2 => ?_) (fun e2 => ?_)
  ·refine t_call (FW.top (c3166 hr (i := i) (by omega))) ?_
   rintro _ _ ⟨rfl, g, rfl, hg⟩
   refine gZ ?_
   refine t_cond (fun e4 => ?_) (fun e4 => ?_)
   ·refine gI ?_
    refine gZ ?_
    exact t_ret ⟨rfl, g, rfl, fun e => by subst e; cases e4⟩
   ·refine t_again (hY (f.n1 - (i + 1)) _ _ (by omega) ⟨rfl, i + 1, ?_, by omega, rfl, fun j z hj hz => ?_⟩)
    ·rw [wrap_id (by omega) (by omega)]; rfl
    ·by_cases e : j = i
     ·subst e; exact hg (by simpa using e4) z hz
     ·exact hall j z (by omega) hz
  ·refine gH ⟨rfl, ⟨i, rfl⟩, fun j m hj => ?_⟩
   exact hall j m (by have := (List.getElem?_eq_some_iff.1 hj).1; omega) hj
 rintro vs _ ⟨rfl, ⟨i1, rfl⟩, hmvs⟩
 refine gZ ?_
 refine t_if (fun _ => t_ret ⟨rfl, 2, rfl, fun e => by cases e⟩) (fun e2 => ?_)
 refine t_loop (fun mm vs h' => h = h' ∧ ∃ i : Nat, vs = [.int .i64 0, .int .i64 i] ∧ i ≤ f.n2 ∧ mm = f.n2 - i ∧ ∀ (j : Nat) m, j < i → t.kins[j]? = some m → (itemB t m.ed m.one ∧ itemB t m.ed m.two ∧ m.one < m.two ∧ 1 ≤ m.lev ∧ m.lev ≤ 5) ∧ ∀ (k : Nat) y, k < j → t.kins[k]? = some y → ¬ (y.ed = m.ed ∧ y.one = m.one ∧ y.two = m.two)) ⟨rfl, 0, rfl, Nat.zero_le _, rfl, fun j y hj => absurd hj (Nat.not_lt_zero _)⟩ ?_
 rintro Y mm vs _ hY ⟨rfl, i, rfl, hi, rfl, hall⟩
 refine gZ ?_
 refine t_if (fun e3 => ?_) (fun e3 => ?_)
 ·refine t_call (FW.top (c3167 hr (i := i) (by omega))) ?_
  rintro _ _ ⟨rfl, g, rfl, hg⟩
  refine gZ ?_
  refine t_cond (fun e4 => ?_) (fun e4 => ?_)
  ·refine gI ?_
   refine gZ ?_
   exact t_ret ⟨rfl, g, rfl, fun e => by subst e; cases e4⟩
  ·refine t_again (hY (f.n2 - (i + 1)) _ _ (by omega) ⟨rfl, i + 1, ?_, by omega, rfl, fun j z hj hz => ?_⟩)
   ·rw [wrap_id (by omega) (by omega)]; rfl
   ·by_cases e : j = i
    ·subst e; exact hg (by simpa using e4) z hz
    ·exact hall j z (by omega) hz
 ·refine gZ ?_
  have hks : ∀ (j : Nat) m, t.kins[j]? = some m → _ := fun j m hj => hall j m (by have := (List.getElem?_eq_some_iff.1 hj).1; omega) hj
  refine t_ret ⟨rfl, 0, rfl, fun _ => ⟨by omega, heds, by omega, fun m hm => ?_, fun j k x y hjk hx hy => (hmvs k y hy).2 j x hjk hx, by omega, fun m hm => ?_, fun j k x y hjk hx hy => (hks k y hy).2 j x hjk hx⟩⟩
  ·obtain ⟨j, hj⟩ := List.mem_iff_getElem?.1 hm
   exact (hmvs j m hj).1
  ·obtain ⟨j, hj⟩ := List.mem_iff_getElem?.1 hm
   exact (hks j m hj).1
theorem c3108 {h : LH} {f : TabC} {t : GTab} (hr : TabR h.get f t) : FW X0 Tryz.prog 12 #[tabV f] h fun r h' => h = h' ∧ ∃ b, r = .bool b ∧ (b = true → TabOk t) := by
 refine w3108 _ _ _ _ _ _ _ _ _ X0_ok ?_
 unfold n3108
 refine t_call (FW.top (c3131 hr)) ?_
 rintro _ _ ⟨rfl, b, rfl⟩
 refine gZ ?_
 refine t_cond (fun _ => ?_) (fun _ => ?_)
 ·refine t_call (FW.top (c3132 hr)) ?_
  rintro _ _ ⟨rfl, g, rfl, hg⟩
  refine gZ ?_
  exact t_ret ⟨rfl, _, rfl, fun e => hg (by simpa using e)⟩
 ·exact t_ret ⟨rfl, _, rfl, fun e => by cases e⟩
end Go.Proofs.YtldamlcehbdkdaaGreatDoor
end
section
namespace Go.Proofs.YtldamlcehbdkdaaGreatDoor
open Go Go.TM Go.Proofs
attribute [local irreducible] T.wp CV FWK
theorem c41 {h : LH} {p : Option Addr} {n c : Nat} {l : List Int} (hl : Sl IntE 1 h.get p n l) (v : Int) : Pu Tryz.prog 20 #[.slice p n c, .int .i64 v] h (.bool (l.contains v)) := by
 refine w41 _ _ _ _ X0_ok ?_
 unfold n41
 have hn := hl.1
 have hbn := hl.2.1
 refine t_loop (fun mm vs h' => h = h' ∧ ∃ i : Nat, vs = [.bool false, .int .i64 i] ∧ i ≤ n ∧ mm = n - i ∧ l.contains v = (l.drop i).contains v) ⟨rfl, 0, rfl, Nat.zero_le _, rfl, rfl⟩ ?_
 rintro Y mm vs _ hY ⟨rfl, i, rfl, hi, rfl, hc⟩
 refine gZ ?_
 refine t_if (fun e => ?_) (fun e => ?_)
 ·obtain ⟨x, a, hx, ha, e1⟩ := hl.at (i := i) (by omega)
  unfold IntE at e1
  rw [drop_of hx, List.contains_cons] at hc
  refine gZ ?_
  refine t_cond (fun b => ?_) (fun b => ?_)
  ·refine gZ ?_
   have b' : x = v := by simpa using b
   exact t_ret ⟨by rw [hc, b']; simp, rfl⟩
  ·have b' : (v == x) = false := by simp at b ⊢; omega
   refine t_again (hY (n - (i + 1)) _ _ (by omega) ⟨rfl, i + 1, ?_, by omega, rfl, by rw [hc, b', Bool.false_or]⟩)
   rw [wrap_id (by omega) (by omega)]; rfl
 ·refine gZ ?_
  rw [List.drop_eq_nil_of_le (by omega)] at hc
  exact t_ret ⟨by rw [hc]; rfl, rfl⟩
end Go.Proofs.YtldamlcehbdkdaaGreatDoor
end
section
namespace Go.Proofs.YtldamlcehbdkdaaGreatDoor
open Go Go.TM Go.Proofs
attribute [local irreducible] T.wp CV FWK
theorem t_buildG {X : XP} {Q : Leaf → LH → Prop} {h : LH} {k : Value → T} {t el : TypeId} {n s b : Nat} {parts : Array (Nat × Value)} {z : Value} {cells : Array Value} (hu : Tryz.prog.underlying t = some (.slice el)) (hi : (Tryz.prog.info? el).map (fun i => (i.size, i.bytes, i.zero)) = some (s, b, some z)) (hn : n * s ≤ 2 ^ 24) (hpos : n * s ≠ 0)
  (hf : Instr.fill (fun i => some (i * s, s)) ((Array.range (n * s)).map (z.cells[· % z.cells.size]!)) parts.toList = some cells)
  (hk : ∀ r h', h.le h' → h.get r = none → h'.get r = some (true, .cells cells el (0, 0)) → (k (.slice (some ⟨r, 0, none⟩) n n)).wp X Tryz.prog Q h') : (T.sem false (Instr.buildSlice t n parts) k).wp X Tryz.prog Q h :=
 t_build hu hi hn hpos hf fun r hr => hk r _ (LH.upd_le hr) hr (Cells.upd_self _ _ _)
end Go.Proofs.YtldamlcehbdkdaaGreatDoor
end
section
namespace Go.Proofs.YtldamlcehbdkdaaGreatDoor
open Go Go.TM Go.Proofs
attribute [local irreducible] T.wp CV FWK
theorem le_updNew {h h' : LH} {m : Nat} {x : Bool × Obj} (hl : h.le h') (hm : h.get m = none) : h.le { h' with get := h'.get.upd m x } := ⟨fun b y hb => by
 have : b ≠ m := by rintro rfl; rw [hm] at hb; cases hb
 show h'.get.upd m x b = _
 rw [Cells.upd_ne _ _ this]; exact hl.1 b y hb, hl.2⟩
theorem mapAt_le {h h' : Cells} {m : Nat} {es : Array MapEntry} (hl : h.le h') (hm : MapAt h m es) : MapAt h' m es := by
 obtain ⟨c, hc⟩ := hm
 exact ⟨c, hl _ _ hc⟩
theorem und1248 : Tryz.prog.underlying 314 = some (.map 316 4) := by kernel_rfl
theorem und1251 : Tryz.prog.underlying 317 = some (.map 260 4) := by kernel_rfl
theorem und1252 : Tryz.prog.underlying 318 = some (.map 262 4) := by kernel_rfl
theorem und1215 : Tryz.prog.underlying 243 = some (.slice 242) := by kernel_rfl
theorem inf157 : (Tryz.prog.info? 242).map (fun i => (i.size, i.bytes, i.zero)) = some (1, 8, some .nilFunc) := by kernel_rfl
theorem keyPl (e : Int) (s : ByteArray) : FKey Tryz.prog 316 (.agg #[.int .i64 e, .string s]) := .inr ⟨[.int .i64 e, .string s], rfl, flat_of (ks := [.i, .s]) (by kernel_rfl) rfl (fun i k v hk hv => by
 match i, hk, hv with
 | 0, hk, hv => cases hk; cases hv; exact ⟨_, rfl⟩
 | 1, hk, hv => cases hk; cases hv; exact ⟨_, rfl⟩)⟩
theorem keyMv (a b c : Int) : FKey Tryz.prog 260 (.agg #[.int .i64 a, .int .i64 b, .int .i64 c]) := .inr ⟨_, rfl, flatMv a b c⟩
theorem keyKn (a b c d : Int) : FKey Tryz.prog 262 (.agg #[.int .i64 a, .int .i64 b, .int .i64 c, .int .i64 d]) := .inr ⟨[.int .i64 a, .int .i64 b, .int .i64 c, .int .i64 d], rfl, flat_ints (vs := [a, b, c, d]) (by kernel_rfl)⟩
def SeenI (t : GTab) (i j : Nat) (e : MapEntry) : Prop := ∃ (a b : Nat) (l : List GItem) (x : GItem), (a < i ∨ (a = i ∧ b < j)) ∧ t.eds[a]? = some l ∧ l[b]? = some x ∧ e.key = .agg #[.int .i64 a, .string x.name]
set_option maxRecDepth 10000 in
theorem c3180 {h : LH} {f : TabC} {t : GTab} (hr : TabR h.get f t) (ok : TabOk t) : Gr Tryz.prog 153 #[tabV f] h fun r _ => r = .int .i64 0 := by
 refine w3180 _ _ _ _ _ _ _ _ _ X0_ok ?_
 unfold n3180
 have hn0 := hr.eds.1
 have hb0 := hr.eds.2.1
 have hmany := ok.many
 refine t_pu (c3183 _ _ _) ?_
 rw [in_iff.2 (show (1 : Int) ≤ (f.n0 : Int) ∧ (f.n0 : Int) ≤ 3 by omega)]
 refine gZ ?_
 refine t_cond (fun e => by cases e) (fun _ => ?_)
 refine t_makeMap fun m hm => ?_
 refine gZ ?_
 refine t_loop (fun mm vs h' => h.le h' ∧ ∃ (i : Nat) (es : Array MapEntry), vs = [.int .i64 0, .int .i64 i] ∧ i ≤ f.n0 ∧ mm = f.n0 - i ∧ MapAt h'.get m es ∧ ∀ e ∈ es.toList, SeenI t i 0 e)
  ⟨LH.upd_le hm, 0, #[], rfl, Nat.zero_le _, rfl, ⟨0, Cells.upd_self _ _ _⟩, fun e he => by simp at he⟩ ?_
 rintro Y mm vs h1 hY ⟨le1, i, es, rfl, hi, rfl, hme, hseen⟩
 refine gZ ?_
 refine t_if (fun e1 => ?_) (fun e1 => ?_)
 ·obtain ⟨l, a, hl, ha, q, n, c, e2, e3⟩ := hr.eds.at (i := i) (by omega)
  have hin : 0 ≤ (i : Int) ∧ (i : Int) < (f.n0 : Int) := by omega
  have e2' := Cells.cell?_le le1.1 e2
  have hn := e3.1
  have ol := ok.eds l (List.mem_of_getElem? hl)
  have h8 := ol.many
  refine gZ ?_
  refine t_if (fun e => by omega) (fun _ => ?_)
  refine t_loop (fun mm vs h' => h.le h' ∧ ∃ (j : Nat) (es : Array MapEntry), vs = [.int .i64 0, .int .i64 j] ∧ j ≤ n ∧ mm = n - j ∧ MapAt h'.get m es ∧ ∀ e ∈ es.toList, SeenI t i j e)
   ⟨le1, 0, es, rfl, Nat.zero_le _, rfl, hme, hseen⟩ ?_
  rintro Y2 mm vs h2 hY2 ⟨le2, j, es2, rfl, hj, rfl, hme2, hseen2⟩
  refine gZ ?_
  refine t_if (fun e4 => ?_) (fun e4 => ?_)
  ·obtain ⟨x, b, hx, hb', g1, g2⟩ := e3.at (i := j) (by omega)
   have hjn : 0 ≤ (j : Int) ∧ (j : Int) < (n : Int) := by omega
   have g1' := Cells.cell?_le le2.1 g1
   have g2' := Cells.cell?_le le2.1 g2
   have hxm := List.mem_of_getElem? hx
   have hcls := ol.cls x hxm
   refine gZ ?_
   repeat ((first | refine t_loadStr (by assumption) ?_ | refine t_loadV (by assumption) ?_ | refine gL0 (by assumption) ?_); refine gZ ?_)
   refine t_gr (c3208 (ol.name x hxm)) ?_
   rintro _ h3 le3 rfl
   have le03 := LH.le_trans le2 le3
   have hme3 := mapAt_le le3.1 hme2
   have hkeys : ∀ e ∈ es2.toList, FKey Tryz.prog 316 e.key := fun e he => by
    obtain ⟨a', b', l', x', _, _, _, hk⟩ := hseen2 e he
    rw [hk]; exact keyPl _ _
   refine gZ ?_
   refine t_cond (fun e => by cases e) (fun _ => ?_)
   refine t_lookupK und1248 inf4 hme3 (keyPl _ _) hkeys (fun e he hk => ?_) fun _ => ?_
   ·exfalso
    obtain ⟨a', b', l', x', hlt, hl', hx', hk'⟩ := hseen2 e he
    rw [hk'] at hk
    have heq : [Value.int .i64 (a' : Int), .string x'.name] = [.int .i64 (i : Int), .string x.name] := agg_inj.1 hk
    simp only [List.cons.injEq, Value.int.injEq, Value.string.injEq, true_and, and_true] at heq
    have hai : a' = i := by omega
    subst hai
    rw [hl] at hl'; cases hl'
    exact ol.once b' j x' x (by omega) hx' hx heq.2
   simp only [Bool.false_eq_true, if_false]
   refine gZ ?_
   refine t_cond (fun e => by cases e) (fun _ => ?_)
   refine t_pu (c3183 _ _ _) ?_
   rw [in_iff.2 hcls]
   refine gZ ?_
   refine t_cond (fun e => by cases e) (fun _ => ?_)
   refine t_mapUpdateK und1248 hme3 (keyPl _ _) hkeys fun es3 c3 hes3 => ?_
   refine t_again (hY2 (n - (j + 1)) _ _ (by omega) ⟨le_updNew le03 hm, j + 1, es3, ?_, by omega, rfl, ⟨c3, Cells.upd_self _ _ _⟩, fun e he => ?_⟩)
   ·rw [wrap_id (by omega) (by omega)]; rfl
   ·rcases hes3 e he with ⟨hk, _⟩ | he'
    ·exact ⟨i, j, l, x, .inr ⟨rfl, by omega⟩, hl, hx, hk⟩
    ·obtain ⟨a', b', l', x', hlt, hl', hx', hk'⟩ := hseen2 e he'
     exact ⟨a', b', l', x', by omega, hl', hx', hk'⟩
  ·refine gZ ?_
   refine t_again (hY (f.n0 - (i + 1)) _ _ (by omega) ⟨le2, i + 1, es2, ?_, by omega, rfl, hme2, fun e he => ?_⟩)
   ·rw [wrap_id (by omega) (by omega)]; rfl
   ·obtain ⟨a', b', l', x', hlt, hl', hx', hk'⟩ := hseen2 e he
    exact ⟨a', b', l', x', .inl (by omega), hl', hx', hk'⟩
 ·refine gZ ?_
  exact t_ret ⟨le1, rfl⟩
theorem edition_in {t : GTab} {e n : Int} (h : itemB t e n) : isIn e 0 ((t.eds.length : Int) - 1) = true := in_iff.2 ⟨h.1, by have := h.2.1; omega⟩
def SeenM (t : GTab) (i : Nat) (e : MapEntry) : Prop := ∃ (a : Nat) (x : GMv), a < i ∧ t.moves[a]? = some x ∧ e.key = .agg #[.int .i64 x.ed, .int .i64 x.src, .int .i64 x.dst]
set_option maxRecDepth 10000 in
theorem c3181 {h : LH} {f : TabC} {t : GTab} (hr : TabR h.get f t) (ok : TabOk t) : Gr Tryz.prog 154 #[tabV f] h fun r _ => r = .int .i64 0 := by
 refine w3181 _ _ _ _ _ _ _ _ _ X0_ok ?_
 unfold n3181
 have hn1 := hr.moves.1
 have hb1 := hr.moves.2.1
 have hmv := ok.moves
 have hmany := ok.many
 refine t_if (fun e => by omega) (fun _ => ?_)
 refine t_makeMap fun m hm => ?_
 refine gZ ?_
 refine t_loop (fun mm vs h' => h.le h' ∧ ∃ (i : Nat) (es : Array MapEntry), vs = [.int .i64 0, .int .i64 i] ∧ i ≤ f.n1 ∧ mm = f.n1 - i ∧ MapAt h'.get m es ∧ ∀ e ∈ es.toList, SeenM t i e)
  ⟨LH.upd_le hm, 0, #[], rfl, Nat.zero_le _, rfl, ⟨0, Cells.upd_self _ _ _⟩, fun e he => by simp at he⟩ ?_
 rintro Y mm vs h1 hY ⟨le1, i, es, rfl, hi, rfl, hme, hseen⟩
 refine gZ ?_
 refine t_if (fun e1 => ?_) (fun e1 => ?_)
 ·obtain ⟨x, a, hx, ha, g1, g2, g3⟩ := hr.moves.at (i := i) (by omega)
  have hin : 0 ≤ (i : Int) ∧ (i : Int) < (f.n1 : Int) := by omega
  have g1 := Cells.cell?_le le1.1 g1
  have g2 := Cells.cell?_le le1.1 g2
  have g3 := Cells.cell?_le le1.1 g3
  obtain ⟨o1, o2⟩ := ok.move x (List.mem_of_getElem? hx)
  have hr1 := hr.le le1.1
  have h01 := o1.1
  have h02 := o1.2.1
  have ew : IntKind.wrap .i64 (x.ed + 1) = x.ed + 1 := wrap_id (by omega) (by omega)
  have hkeys : ∀ e ∈ es.toList, FKey Tryz.prog 260 e.key := fun e he => by
   obtain ⟨a', x', _, _, hk⟩ := hseen e he
   rw [hk]; exact keyMv _ _ _
  refine gZ ?_
  rw [ew]
  refine t_pu (c3161 hr1 _) ?_
  rw [edition_in o1]
  refine gZ ?_
  refine t_cond (fun e => by cases e) (fun _ => ?_)
  refine t_pu (c3161 hr1 _) ?_
  rw [edition_in o2]
  refine gZ ?_
  refine t_cond (fun e => by cases e) (fun _ => ?_)
  refine t_pu (c3168 hr1 _ _) ?_
  rw [item_is.2 o1]
  refine gZ ?_
  refine t_cond (fun e => by cases e) (fun _ => ?_)
  refine t_pu (c3168 hr1 _ _) ?_
  rw [item_is.2 o2]
  refine gZ ?_
  refine t_cond (fun e => by cases e) (fun _ => ?_)
  refine t_lookupK und1251 inf4 hme (keyMv _ _ _) hkeys (fun e he hk => ?_) fun _ => ?_
  ·exfalso
   obtain ⟨a', x', hlt, hx', hk'⟩ := hseen e he
   rw [hk'] at hk
   have heq : [Value.int .i64 x'.ed, .int .i64 x'.src, .int .i64 x'.dst] = [.int .i64 x.ed, .int .i64 x.src, .int .i64 x.dst] := agg_inj.1 hk
   simp only [List.cons.injEq, Value.int.injEq, true_and, and_true] at heq
   exact ok.moveOnce a' i x' x hlt hx' hx heq
  simp only [Bool.false_eq_true, if_false]
  refine gZ ?_
  refine t_cond (fun e => by cases e) (fun _ => ?_)
  refine t_mapUpdateK und1251 hme (keyMv _ _ _) hkeys fun es3 c3 hes3 => ?_
  refine t_again (hY (f.n1 - (i + 1)) _ _ (by omega) ⟨le_updNew le1 hm, i + 1, es3, ?_, by omega, rfl, ⟨c3, Cells.upd_self _ _ _⟩, fun e he => ?_⟩)
  ·rw [wrap_id (by omega) (by omega)]; rfl
  ·rcases hes3 e he with ⟨hk, _⟩ | he'
   ·exact ⟨i, x, by omega, hx, hk⟩
   ·obtain ⟨a', x', hlt, hx', hk'⟩ := hseen e he'
    exact ⟨a', x', by omega, hx', hk'⟩
 ·refine gZ ?_
  exact t_ret ⟨le1, rfl⟩
def SeenK (t : GTab) (i : Nat) (e : MapEntry) : Prop := ∃ (a : Nat) (x : GKn), a < i ∧ t.kins[a]? = some x ∧ e.key = .agg #[.int .i64 x.ed, .int .i64 x.one, .int .i64 x.two, .int .i64 0]
set_option maxRecDepth 10000 in
theorem c3182 {h : LH} {f : TabC} {t : GTab} (hr : TabR h.get f t) (ok : TabOk t) : Gr Tryz.prog 155 #[tabV f] h fun r _ => r = .int .i64 0 := by
 refine w3182 _ _ _ _ _ _ _ _ _ X0_ok ?_
 unfold n3182
 have hn1 := hr.kins.1
 have hb1 := hr.kins.2.1
 have hmv := ok.kins
 refine t_if (fun e => by omega) (fun _ => ?_)
 refine t_makeMap fun m hm => ?_
 refine gZ ?_
 refine t_loop (fun mm vs h' => h.le h' ∧ ∃ (i : Nat) (es : Array MapEntry), vs = [.int .i64 0, .int .i64 i] ∧ i ≤ f.n2 ∧ mm = f.n2 - i ∧ MapAt h'.get m es ∧ ∀ e ∈ es.toList, SeenK t i e)
  ⟨LH.upd_le hm, 0, #[], rfl, Nat.zero_le _, rfl, ⟨0, Cells.upd_self _ _ _⟩, fun e he => by simp at he⟩ ?_
 rintro Y mm vs h1 hY ⟨le1, i, es, rfl, hi, rfl, hme, hseen⟩
 refine gZ ?_
 refine t_if (fun e1 => ?_) (fun e1 => ?_)
 ·obtain ⟨x, a, hx, ha, g1, g2, g3, g4⟩ := hr.kins.at (i := i) (by omega)
  have hin : 0 ≤ (i : Int) ∧ (i : Int) < (f.n2 : Int) := by omega
  have g1 := Cells.cell?_le le1.1 g1
  have g2 := Cells.cell?_le le1.1 g2
  have g3 := Cells.cell?_le le1.1 g3
  have g4 := Cells.cell?_le le1.1 g4
  obtain ⟨o1, o2, o3, o4, o5⟩ := ok.kin x (List.mem_of_getElem? hx)
  have hr1 := hr.le le1.1
  have hkeys : ∀ e ∈ es.toList, FKey Tryz.prog 262 e.key := fun e he => by
   obtain ⟨a', x', _, _, hk⟩ := hseen e he
   rw [hk]; exact keyKn _ _ _ _
  refine gZ ?_
  refine t_blk (fun vs h' => vs = [.bool false] ∧ h1 = h') ?_ ?_
  ·refine t_pu (c3161 hr1 _) ?_
   rw [edition_in o1]
   refine gZ ?_
   refine t_cond (fun e => by cases e) (fun _ => ?_)
   refine t_pu (c3168 hr1 _ _) ?_
   rw [item_is.2 o1]
   refine gZ ?_
   refine t_cond (fun e => by cases e) (fun _ => ?_)
   refine t_pu (c3168 hr1 _ _) ?_
   rw [item_is.2 o2]
   refine gZ ?_
   exact t_again ⟨rfl, rfl⟩
  rintro vs _ ⟨rfl, rfl⟩
  refine gZ ?_
  refine t_cond (fun e => by cases e) (fun _ => ?_)
  refine t_if (fun e => by omega) (fun _ => ?_)
  refine t_pu (c3183 _ _ _) ?_
  rw [in_iff.2 ⟨o4, o5⟩]
  refine gZ ?_
  refine t_cond (fun e => by cases e) (fun _ => ?_)
  refine t_lookupK und1252 inf4 hme (keyKn _ _ _ _) hkeys (fun e he hk => ?_) fun _ => ?_
  ·exfalso
   obtain ⟨a', x', hlt, hx', hk'⟩ := hseen e he
   rw [hk'] at hk
   have heq : [Value.int .i64 x'.ed, .int .i64 x'.one, .int .i64 x'.two, .int .i64 0] = [.int .i64 x.ed, .int .i64 x.one, .int .i64 x.two, .int .i64 0] := agg_inj.1 hk
   simp only [List.cons.injEq, Value.int.injEq, true_and, and_true] at heq
   exact ok.kinOnce a' i x' x hlt hx' hx heq
  simp only [Bool.false_eq_true, if_false]
  refine gZ ?_
  refine t_cond (fun e => by cases e) (fun _ => ?_)
  refine t_mapUpdateK und1252 hme (keyKn _ _ _ _) hkeys fun es3 c3 hes3 => ?_
  refine t_again (hY (f.n2 - (i + 1)) _ _ (by omega) ⟨le_updNew le1 hm, i + 1, es3, ?_, by omega, rfl, ⟨c3, Cells.upd_self _ _ _⟩, fun e he => ?_⟩)
  ·rw [wrap_id (by omega) (by omega)]; rfl
  ·rcases hes3 e he with ⟨hk, _⟩ | he'
   ·exact ⟨i, x, by omega, hx, hk⟩
   ·obtain ⟨a', x', hlt, hx', hk'⟩ := hseen e he'
    exact ⟨a', x', by omega, hx', hk'⟩
 ·refine gZ ?_
  exact t_ret ⟨le1, rfl⟩
set_option maxRecDepth 10000 in
theorem c3160 {h : LH} {f : TabC} {t : GTab} (hr : TabR h.get f t) (ok : TabOk t) : Gr Tryz.prog 106 #[tabV f] h fun r _ => r = .int .i64 0 := by
 refine w3160 _ _ _ _ _ _ _ _ _ X0_ok ?_
 unfold n3160
 refine t_buildG und1215 inf157 (by decide) (by decide) (cells := #[.func (.func 153) #[tabV f] #[], .func (.func 154) #[tabV f] #[], .func (.func 155) #[tabV f] #[]]) (by kernel_rfl) fun r h1 le1 hr0 e1 => ?_
 refine gZ ?_
 refine t_loop (fun mm vs h' => h1.le h' ∧ ∃ i : Nat, vs = [.int .i64 0, .int .i64 i] ∧ i ≤ 3 ∧ mm = 3 - i) ⟨LH.le_refl _, 0, rfl, by omega, rfl⟩ ?_
 rintro Y mm vs h2 hY ⟨le2, i, rfl, hi, rfl⟩
 have le02 := LH.le_trans le1 le2
 have hr2 := hr.le le02.1
 refine gZ ?_
 refine t_if (fun e2 => ?_) (fun e2 => ?_)
 ·have hin : 0 ≤ (i : Int) ∧ (i : Int) < ((3 : Nat) : Int) := by omega
  have next : ∀ h3 : LH, h2.le h3 → Y [.int .i64 0, .int .i64 (IntKind.wrap .i64 ((i : Int) + 1))] h3 := fun h3 le3 => by
   refine hY (3 - (i + 1)) _ _ (by omega) ⟨LH.le_trans le2 le3, i + 1, ?_, by omega, rfl⟩
   rw [wrap_id (by omega) (by omega)]; rfl
  have hcell : ∀ v, (#[Value.func (.func 153) #[tabV f] #[], .func (.func 154) #[tabV f] #[], .func (.func 155) #[tabV f] #[]])[i]? = some v → h2.get.cell? (Addr.add ⟨r, 0, none⟩ (i * 1)) = some v := fun v hv => by
   refine Cells.cell?_le le2.1 ?_
   rw [add_plain, Nat.zero_add, Nat.mul_one]
   unfold Cells.cell?
   rw [e1]
   exact hv
  have run : ∀ (fid : FuncId), Gr Tryz.prog fid #[tabV f] h2 (fun r _ => r = .int .i64 0) → CV X0 Tryz.prog (.func (.func fid) #[tabV f] #[]) #[] h2 fun r h' => h2.le h' ∧ r = .int .i64 0 := fun fid hg => cv_fw X0_ok (by rfl) hg
  match i, e2, hcell, run, next with
  | 0, _, hcell, run, next =>
   have hc := hcell _ rfl
   refine gZ ?_
   repeat ((first | refine t_loadStr (by assumption) ?_ | refine t_loadV (by assumption) ?_ | refine gL0 (by assumption) ?_); refine gZ ?_)
   refine t_callv (run _ (c3180 hr2 ok)) ?_
   rintro _ h3 ⟨le3, rfl⟩
   refine gZ ?_
   refine t_cond (fun e => by cases e) (fun _ => ?_)
   exact t_again (next h3 le3)
  | 1, _, hcell, run, next =>
   have hc := hcell _ rfl
   refine gZ ?_
   repeat ((first | refine t_loadStr (by assumption) ?_ | refine t_loadV (by assumption) ?_ | refine gL0 (by assumption) ?_); refine gZ ?_)
   refine t_callv (run _ (c3181 hr2 ok)) ?_
   rintro _ h3 ⟨le3, rfl⟩
   refine gZ ?_
   refine t_cond (fun e => by cases e) (fun _ => ?_)
   exact t_again (next h3 le3)
  | 2, _, hcell, run, next =>
   have hc := hcell _ rfl
   refine gZ ?_
   repeat ((first | refine t_loadStr (by assumption) ?_ | refine t_loadV (by assumption) ?_ | refine gL0 (by assumption) ?_); refine gZ ?_)
   refine t_callv (run _ (c3182 hr2 ok)) ?_
   rintro _ h3 ⟨le3, rfl⟩
   refine gZ ?_
   refine t_cond (fun e => by cases e) (fun _ => ?_)
   exact t_again (next h3 le3)
  | i + 3, e2, _, _, _ => omega
 ·refine gZ ?_
  exact t_ret ⟨le02, rfl⟩
end Go.Proofs.YtldamlcehbdkdaaGreatDoor
end
section
namespace Go.Proofs.YtldamlcehbdkdaaGreatDoor
open Go Go.TM Go.Proofs
attribute [local irreducible] T.wp CV FWK
theorem t_pushI {X : XP} {Q : Leaf → LH → Prop} {h h₀ : LH} {k : Value → T} {p : Option Addr} {n c : Nat} {l : List Int} {x : Int} (g : Growing IntEnc 3 1 h₀.get h.get p n c l) (hle : h₀.le h) (hn : n + 1 ≤ 2 ^ 30)
  (hk : ∀ p' c' h', h₀.le h' → Growing IntEnc 3 1 h₀.get h'.get p' (n + 1) c' (l ++ [x]) → (k (.slice p' (n + 1) c')).wp X Tryz.prog Q h') :
  (T.sem false (Instr.buildSlice 30 1 #[(0, .int .i64 x)]) fun v => T.unS v fun a m c2 => T.sem false (Builtin.append_ #[30, 30] 30 #[.slice p n c, .slice a m c2]) k).wp X Tryz.prog Q h := by
 refine t_build und50 inf3 (by decide) (by decide) (cells := #[.int .i64 x]) (by kernel_rfl) fun r hr => ?_
 have le2 : h.le _ := LH.upd_le (x := (true, .cells #[.int .i64 x] 3 (0, 0))) hr
 refine gG ?_
 refine t_grow (h₀ := h₀) (x := x) (ws := [.int .i64 x]) rfl rfl und50 und50 inf3 rfl (by omega) hn (g.le le2.1) (LH.le_trans hle le2) rfl rfl ?_ ?_ ?_
 ·intro j w hj
  rw [add_plain, Nat.zero_add]
  exact cell_upd (by simpa using hj)
 ·intro w hw; simp at hw; subst hw; rfl
 ·intro p' c' h₂ hle2 _ g2
  exact hk p' c' h₂ hle2 g2
end Go.Proofs.YtldamlcehbdkdaaGreatDoor
end
section
namespace Go.Proofs.YtldamlcehbdkdaaGreatDoor
open Go Go.TM Go.Proofs
set_option linter.unusedVariables false
set_option maxRecDepth 100000
variable {X : XP} {h : LH} {A : Value → LH → Prop}
noncomputable def n3133 (t_0p : Option Addr) (t_0n t_0c : Nat) (t_1p : Option Addr) (t_1n t_1c : Nat) (t_2p : Option Addr) (t_2n t_2c : Nat) (edition : Int) (listsp : Option Addr) (listsn listsc : Nat) : T := .call false 106 #[.agg #[.slice t_0p t_0n t_0c, .slice t_1p t_1n t_1c, .slice t_2p t_2n t_2c]] fun v => .unI .i64 v fun n => bif n != 0 then .leaf (.ret (.tuple #[.agg #[.slice t_0p t_0n t_0c, .slice t_1p t_1n t_1c, .slice t_2p t_2n t_2c], .int .i64 n])) else .call false 107 #[.agg #[.slice t_0p t_0n t_0c, .slice t_1p t_1n t_1c, .slice t_2p t_2n t_2c], .int .i64 edition] fun v => .unB v fun b => bif !b then .leaf (.ret (.tuple #[.agg #[.slice t_0p t_0n t_0c, .slice t_1p t_1n t_1c, .slice t_2p t_2n t_2c], .int .i64 6])) else .loop [.int .i64 0, .int .i64 0, .slice none 0 0, .slice none 0 0, .slice none 0 0] (fun vs => .popI .i64 vs fun n vs => .popI .i64 vs fun n_1 vs => .popS vs fun a n_2 c vs => .popS vs fun a_1 n_3 c_1 vs => .popS vs fun a_2 n_4 c_2 vs => .unNil vs (bif decide (n_1 < (↑listsn : Int)) then .need (0 ≤ n_1 ∧ n_1 < (↑listsn : Int)) (.someA listsp fun a_3 => .loadS (a_3.add (n_1.toNat * 1)) fun p n_5 c_3 => .call false 67 #[.agg #[.slice t_0p t_0n t_0c, .slice t_1p t_1n t_1c, .slice t_2p t_2n t_2c], .int .i64 edition, .slice p n_5 c_3] fun v => .unI .i64 v fun n_6 => bif n_6 != 0 then .leaf (.retn [.int .i64 n_6, .int .i64 n_1, .slice t_0p t_0n t_0c, .slice t_1p t_1n t_1c, .slice t_2p t_2n t_2c]) else .leaf (.again [.int .i64 n, .int .i64 (IntKind.wrap .i64 (n_1 + 1)), .slice a n_2 c, .slice a_1 n_3 c_1, .slice a_2 n_4 c_2])) else .leaf (.brk [.int .i64 n, .int .i64 n_1, .slice a n_2 c, .slice a_1 n_3 c_1, .slice a_2 n_4 c_2]))) (fun vs => .popI .i64 vs fun n vs => .popI .i64 vs fun n vs => .popS vs fun a n c vs => .popS vs fun a n c vs => .popS vs fun a n c vs => .unNil vs (.leaf (.ret (.tuple #[.agg #[.slice t_0p t_0n t_0c, .slice t_1p t_1n t_1c, .slice t_2p t_2n t_2c], .int .i64 0])))) (fun vs => .popI .i64 vs fun n vs => .popI .i64 vs fun n_1 vs => .popS vs fun a n_2 c vs => .popS vs fun a_1 n_3 c_1 vs => .popS vs fun a_2 n_4 c_2 vs => .unNil vs (.leaf (.ret (.tuple #[.agg #[.slice a n_2 c, .slice a_1 n_3 c_1, .slice a_2 n_4 c_2], .int .i64 n])))) fun x x_1 => .fail
theorem w3133 (t_0p : Option Addr) (t_0n t_0c : Nat) (t_1p : Option Addr) (t_1n t_1c : Nat) (t_2p : Option Addr) (t_2n t_2c : Nat) (edition : Int) (listsp : Option Addr) (listsn listsc : Nat) (hX : XOK X) (hw : (n3133 t_0p t_0n t_0c t_1p t_1n t_1c t_2p t_2n t_2c edition listsp listsn listsc).wp X Tryz.prog (retQ A) h) : FWK X Tryz.prog .normal 63 #[.agg #[.slice t_0p t_0n t_0c, .slice t_1p t_1n t_1c, .slice t_2p t_2n t_2c], .int .i64 edition, .slice listsp listsn listsc] h A := fwk_neat (show ftree ({ P := Tryz.prog, priv := [3, 6, 8], loops := [{ id := 0, slots := [(7, .int .i64), (28, .int .i64), (28672, .slice), (28673, .slice), (28674, .slice)], ro := [3, 8], outs := [] }], joins := [] }) Tryz.f63 [.agg #[.slice t_0p t_0n t_0c, .slice t_1p t_1n t_1c, .slice t_2p t_2n t_2c], .int .i64 edition, .slice listsp listsn listsc] = n3133 t_0p t_0n t_0c t_1p t_1n t_1c t_2p t_2n t_2c edition listsp listsn listsc by kernel_rfl) (by simp) (by kernel_rfl) (by kernel_rfl) hX hw
noncomputable def n3113 (t_0p : Option Addr) (t_0n t_0c : Nat) (t_1p : Option Addr) (t_1n t_1c : Nat) (t_2p : Option Addr) (t_2n t_2c : Nat) (edition : Int) (oldp : Option Addr) (oldn oldc : Nat) (nowp : Option Addr) (nown nowc : Nat) : T := .new 30 #[.slice oldp oldn oldc] fun r => .loadS { block := r, off := 0 } fun p n c => .sem false (Instr.buildSlice 141 2 #[(0, .slice p n c), (1, .slice nowp nown nowc)]) fun v => .unS v fun a n c => .call false 63 #[.agg #[.slice t_0p t_0n t_0c, .slice t_1p t_1n t_1c, .slice t_2p t_2n t_2c], .int .i64 edition, .slice a n c] fun v => .unTup v fun l => .unCons l fun v vs => .unAgg v fun l => .popS l fun a n c vs_1 => .popS vs_1 fun a n c vs_2 => .popS vs_2 fun a n c vs_3 => .unNil vs_3 (.unCons vs fun v vs => .unI .i64 v fun n => .unNil vs (bif n != 0 then .leaf (.ret (.tuple #[.int .i64 0, .int .i64 n])) else .call false 64 #[.slice nowp nown nowc, .func (Fn.func 65) #[] #[.pointer (some { block := r, off := 0 })]] fun v => .unI .i64 v fun n => bif decide (n ≥ 0) then .need (0 ≤ n ∧ n < (↑nown : Int)) (.someA nowp fun a => .loadI .i64 (a.add (n.toNat * 1)) fun n => .leaf (.ret (.tuple #[.int .i64 n, .int .i64 0]))) else .leaf (.ret (.tuple #[.int .i64 (-1), .int .i64 0]))))
theorem w3113 (t_0p : Option Addr) (t_0n t_0c : Nat) (t_1p : Option Addr) (t_1n t_1c : Nat) (t_2p : Option Addr) (t_2n t_2c : Nat) (edition : Int) (oldp : Option Addr) (oldn oldc : Nat) (nowp : Option Addr) (nown nowc : Nat) (hX : XOK X) (hw : (n3113 t_0p t_0n t_0c t_1p t_1n t_1c t_2p t_2n t_2c edition oldp oldn oldc nowp nown nowc).wp X Tryz.prog (retQ A) h) : FWK X Tryz.prog .normal 19 #[.agg #[.slice t_0p t_0n t_0c, .slice t_1p t_1n t_1c, .slice t_2p t_2n t_2c], .int .i64 edition, .slice oldp oldn oldc, .slice nowp nown nowc] h A := fwk_neat (show ftree ({ P := Tryz.prog, priv := [4, 10], loops := [], joins := [] }) Tryz.f19 [.agg #[.slice t_0p t_0n t_0c, .slice t_1p t_1n t_1c, .slice t_2p t_2n t_2c], .int .i64 edition, .slice oldp oldn oldc, .slice nowp nown nowc] = n3113 t_0p t_0n t_0c t_1p t_1n t_1c t_2p t_2n t_2c edition oldp oldn oldc nowp nown nowc by kernel_rfl) (by simp) (by kernel_rfl) (by kernel_rfl) hX hw
noncomputable def n3114 (t_0p : Option Addr) (t_0n t_0c : Nat) (t_1p : Option Addr) (t_1n t_1c : Nat) (t_2p : Option Addr) (t_2n t_2c : Nat) (edition : Int) (listp : Option Addr) (listn listc : Nat) (cutsp : Option Addr) (cutsn cutsc : Nat) : T := .sem false (Instr.buildSlice 141 1 #[(0, .slice listp listn listc)]) fun v => .unS v fun a n c => .call false 63 #[.agg #[.slice t_0p t_0n t_0c, .slice t_1p t_1n t_1c, .slice t_2p t_2n t_2c], .int .i64 edition, .slice a n c] fun v => .unTup v fun l => .unCons l fun v vs => .unAgg v fun l => .popS l fun a n c vs_1 => .popS vs_1 fun a_1 n_1 c_1 vs_2 => .popS vs_2 fun a_2 n_2 c_2 vs_3 => .unNil vs_3 (.unCons vs fun v vs => .unI .i64 v fun n_3 => .unNil vs (bif n_3 != 0 then .leaf (.ret (.tuple #[.slice none 0 0, .int .i64 n_3])) else bif decide ((↑cutsn : Int) > 4) then .leaf (.ret (.tuple #[.slice none 0 0, .int .i64 2])) else .loop [.slice none 0 0, .int .i64 0, .int .i64 0] (fun vs => .popS vs fun a_3 n_4 c_3 vs => .popI .i64 vs fun n_5 vs => .popI .i64 vs fun n_6 vs => .unNil vs (bif decide (n_6 < (↑cutsn : Int)) then .need (0 ≤ n_6 ∧ n_6 < (↑cutsn : Int)) (.someA cutsp fun a_4 => .loadS ((a_4.add (n_6.toNat * 2)).add 0) fun p n_7 c_4 => .loadB ((a_4.add (n_6.toNat * 2)).add 1) fun b => .call false 67 #[.agg #[.slice a n c, .slice a_1 n_1 c_1, .slice a_2 n_2 c_2], .int .i64 edition, .slice p n_7 c_4] fun v => .unI .i64 v fun n => bif n != 0 then .leaf (.retn [.slice none 0 0, .int .i64 n, .int .i64 n_6]) else .leaf (.again [.slice a_3 n_4 c_3, .int .i64 n_5, .int .i64 (IntKind.wrap .i64 (n_6 + 1))])) else .leaf (.brk [.slice a_3 n_4 c_3, .int .i64 n_5, .int .i64 n_6]))) (fun vs => .popS vs fun a n c vs => .popI .i64 vs fun n_4 vs => .popI .i64 vs fun n_5 vs => .unNil vs (.call false 68 #[.slice listp listn listc] fun v => .unS v fun a_3 n_6 c_3 => .loop [.slice a_3 n_6 c_3, .int .i64 0] (fun vs => .popS vs fun a n c vs => .popI .i64 vs fun n_7 vs => .unNil vs (bif decide (n_7 < (↑cutsn : Int)) then .need (0 ≤ n_7 ∧ n_7 < (↑cutsn : Int)) (.someA cutsp fun a_4 => .loadS ((a_4.add (n_7.toNat * 2)).add 0) fun p n_8 c_4 => .loadB ((a_4.add (n_7.toNat * 2)).add 1) fun b => .new 57 #[.slice none 0 0, .bool false] fun r => .store (Addr.add { block := r, off := 0 } 0) (.slice p n_8 c_4) (.store (Addr.add { block := r, off := 0 } 1) (.bool b) (.call false 69 #[.slice a n c, .func (Fn.func 70) #[] #[.pointer (some { block := r, off := 0 })]] fun v => .unS v fun a n c => .leaf (.again [.slice a n c, .int .i64 (IntKind.wrap .i64 (n_7 + 1))])))) else .leaf (.brk [.slice a n c, .int .i64 n_7]))) (fun vs => .popS vs fun a n c vs => .popI .i64 vs fun n_7 vs => .unNil vs (.leaf (.ret (.tuple #[.slice a n c, .int .i64 0])))) (fun vs => .popS vs fun a_4 n_7 c_4 vs => .popI .i64 vs fun n_8 vs => .unNil vs (.leaf (.ret (.tuple #[.slice a n c, .int .i64 n_4])))) fun x x_1 => .fail)) (fun vs => .popS vs fun a n c vs => .popI .i64 vs fun n_4 vs => .popI .i64 vs fun n_5 vs => .unNil vs (.leaf (.ret (.tuple #[.slice a n c, .int .i64 n_4])))) fun x x_1 => .fail))
theorem w3114 (t_0p : Option Addr) (t_0n t_0c : Nat) (t_1p : Option Addr) (t_1n t_1c : Nat) (t_2p : Option Addr) (t_2n t_2c : Nat) (edition : Int) (listp : Option Addr) (listn listc : Nat) (cutsp : Option Addr) (cutsn cutsc : Nat) (hX : XOK X) (hw : (n3114 t_0p t_0n t_0c t_1p t_1n t_1c t_2p t_2n t_2c edition listp listn listc cutsp cutsn cutsc).wp X Tryz.prog (retQ A) h) : FWK X Tryz.prog .normal 21 #[.agg #[.slice t_0p t_0n t_0c, .slice t_1p t_1n t_1c, .slice t_2p t_2n t_2c], .int .i64 edition, .slice listp listn listc, .slice cutsp cutsn cutsc] h A := fwk_neat (show ftree ({ P := Tryz.prog, priv := [4, 10, 13], loops := [{ id := 0, slots := [(8, .slice), (9, .int .i64), (34, .int .i64)], ro := [4, 10], outs := [] }, { id := 2, slots := [(15, .slice), (51, .int .i64)], ro := [4, 10], outs := [] }], joins := [] }) Tryz.f21 [.agg #[.slice t_0p t_0n t_0c, .slice t_1p t_1n t_1c, .slice t_2p t_2n t_2c], .int .i64 edition, .slice listp listn listc, .slice cutsp cutsn cutsc] = n3114 t_0p t_0n t_0c t_1p t_1n t_1c t_2p t_2n t_2c edition listp listn listc cutsp cutsn cutsc by kernel_rfl) (by simp) (by kernel_rfl) (by kernel_rfl) hX hw
noncomputable def n3134 (sp : Option Addr) (sn sc : Nat) (f : Value) : T := .loop [.int .i64 0, .int .i64 0] (fun vs => .popI .i64 vs fun n vs => .popI .i64 vs fun n_1 vs => .unNil vs (bif decide (n_1 < (↑sn : Int)) then .need (0 ≤ n_1 ∧ n_1 < (↑sn : Int)) (.someA sp fun a => .loadI .i64 (a.add (n_1.toNat * 1)) fun n_2 => .callv false f #[.int .i64 n_2] fun v => .unB v fun b => bif b then .leaf (.retn [.int .i64 n_1, .int .i64 n_1]) else .leaf (.again [.int .i64 n, .int .i64 (IntKind.wrap .i64 (n_1 + 1))])) else .leaf (.brk [.int .i64 n, .int .i64 n_1]))) (fun vs => .popI .i64 vs fun n vs => .popI .i64 vs fun n vs => .unNil vs (.leaf (.ret (.int .i64 (-1))))) (fun vs => .popI .i64 vs fun n vs => .popI .i64 vs fun n_1 vs => .unNil vs (.leaf (.ret (.int .i64 n)))) fun x x_1 => .fail
theorem w3134 (sp : Option Addr) (sn sc : Nat) (f : Value) (hX : XOK X) (hw : (n3134 sp sn sc f).wp X Tryz.prog (retQ A) h) : FWK X Tryz.prog .normal 64 #[.slice sp sn sc, f] h A := fwk_neat (show ftree ({ P := Tryz.prog, priv := [], loops := [{ id := 0, slots := [(4, .int .i64), (8, .int .i64)], ro := [], outs := [] }], joins := [] }) Tryz.f64 [.slice sp sn sc, f] = n3134 sp sn sc f by kernel_rfl) (by simp) (by kernel_rfl) (by kernel_rfl) hX hw
noncomputable def n3135 (n : Int) (z0 : Addr) : T := .loadS z0 fun p n_1 c => .call false 66 #[.slice p n_1 c, .int .i64 n] fun v => .unB v fun b => .leaf (.ret (.bool !b))
theorem w3135 (n : Int) (z0 : Addr) (hX : XOK X) (hw : (n3135 n z0).wp X Tryz.prog (retQ A) h) : FWK X Tryz.prog .normal 65 #[.int .i64 n, .pointer (some z0)] h A := fwk_neat (show ftree ({ P := Tryz.prog, priv := [], loops := [], joins := [] }) Tryz.f65 [.int .i64 n, .pointer (some z0)] = n3135 n z0 by kernel_rfl) (by simp) (by kernel_rfl) (by kernel_rfl) hX hw
noncomputable def n3137 (sp : Option Addr) (sn sc : Nat) : T := .sem false (Sem.bind (eqGuard BinOp.eql 30 (Operand.tmp 3) (Operand.const (.slice none 0 0)) (.slice sp sn sc) (.slice none 0 0)) fun __r => binOp BinOp.eql 30 (.slice sp sn sc) (.slice none 0 0)) fun v => .unB v fun b => bif b then .leaf (.ret (.slice none 0 0)) else .sem false (Instr.buildSlice 30 0 #[]) fun v => .unS v fun a n c => .sem false (Builtin.append_ #[30, 30] 30 #[.slice a n c, .slice sp sn sc]) fun v => .unS v fun a n c => .leaf (.ret (.slice a n c))
theorem w3137 (sp : Option Addr) (sn sc : Nat) (hX : XOK X) (hw : (n3137 sp sn sc).wp X Tryz.prog (retQ A) h) : FWK X Tryz.prog .normal 68 #[.slice sp sn sc] h A := fwk_neat (show ftree ({ P := Tryz.prog, priv := [], loops := [], joins := [] }) Tryz.f68 [.slice sp sn sc] = n3137 sp sn sc by kernel_rfl) (by simp) (by kernel_rfl) (by kernel_rfl) hX hw
noncomputable def n3138 (sp : Option Addr) (sn sc : Nat) (del : Value) : T := .call false 64 #[.slice sp sn sc, del] fun v => .unI .i64 v fun n => bif n == -1 then .leaf (.ret (.slice sp sn sc)) else .loop [.int .i64 n, .int .i64 (IntKind.wrap .i64 (n + 1))] (fun vs => .popI .i64 vs fun n vs => .popI .i64 vs fun n_1 vs => .unNil vs (bif decide (n_1 < (↑sn : Int)) then .need (0 ≤ n_1 ∧ n_1 < (↑sn : Int)) (.someA sp fun a => .loadI .i64 (a.add (n_1.toNat * 1)) fun n_2 => .callv false del #[.int .i64 n_2] fun v => .unB v fun b => bif !b then .need (0 ≤ n ∧ n < (↑sn : Int)) (.someA sp fun a => .store ((a.add (n.toNat * 1)).add 0) (.int .i64 n_2) (.leaf (.again [.int .i64 (IntKind.wrap .i64 (n + 1)), .int .i64 (IntKind.wrap .i64 (n_1 + 1))]))) else .leaf (.again [.int .i64 n, .int .i64 (IntKind.wrap .i64 (n_1 + 1))])) else .leaf (.brk [.int .i64 n, .int .i64 n_1]))) (fun vs => .popI .i64 vs fun n vs => .popI .i64 vs fun n_1 vs => .unNil vs (.sem false (Instr.sliceAt 30 (.slice sp sn sc) (some (.int .i64 n)) none none) fun w => .unS w fun a n_2 c => .sem false (Builtin.clear_ #[30] 0 #[.slice a n_2 c]) fun v => .sem false (Instr.sliceAt 30 (.slice sp sn sc) none (some (.int .i64 n)) none) fun w => .unS w fun a n c => .leaf (.ret (.slice a n c)))) (fun vs => .popI .i64 vs fun n vs => .popI .i64 vs fun n vs => .unNil vs (.leaf (.ret (.slice none 0 0)))) fun x x_1 => .fail
theorem w3138 (sp : Option Addr) (sn sc : Nat) (del : Value) (hX : XOK X) (hw : (n3138 sp sn sc del).wp X Tryz.prog (retQ A) h) : FWK X Tryz.prog .normal 69 #[.slice sp sn sc, del] h A := fwk_neat (show ftree ({ P := Tryz.prog, priv := [], loops := [{ id := 0, slots := [(5, .int .i64), (6, .int .i64)], ro := [], outs := [] }], joins := [] }) Tryz.f69 [.slice sp sn sc, del] = n3138 sp sn sc del by kernel_rfl) (by simp) (by kernel_rfl) (by kernel_rfl) hX hw
noncomputable def n3139 (n : Int) (z0 : Addr) : T := .loadS (z0.add 0) fun p n_1 c => .loadB (z0.add 1) fun b => .call false 66 #[.slice p n_1 c, .int .i64 n] fun v => .unB v fun b_1 => .loadB (z0.add 1) fun b_2 => .need (AV.val (.bool b_2) = AV.val (.bool b)) (.nd (.pointer (some (z0.add 1))) (.nd (.pointer (some (z0.add 0))) (.leaf (.ret (.bool !b_1 == b)))))
theorem w3139 (n : Int) (z0 : Addr) (hX : XOK X) (hw : (n3139 n z0).wp X Tryz.prog (retQ A) h) : FWK X Tryz.prog .normal 70 #[.int .i64 n, .pointer (some z0)] h A := fwk_neat (show ftree ({ P := Tryz.prog, priv := [], loops := [], joins := [] }) Tryz.f70 [.int .i64 n, .pointer (some z0)] = n3139 n z0 by kernel_rfl) (by simp) (by kernel_rfl) (by kernel_rfl) hX hw
noncomputable def n3162 (t_0p : Option Addr) (t_0n t_0c : Nat) (t_1p : Option Addr) (t_1n t_1c : Nat) (t_2p : Option Addr) (t_2n t_2c : Nat) (from0 to : Int) (listp : Option Addr) (listn listc : Nat) : T := .call false 157 #[.slice listp listn listc] fun v => .unAgg v fun l => .popB l fun b vs => .popB vs fun b_1 vs => .popB vs fun b_2 vs => .popB vs fun b_3 vs => .popB vs fun b_4 vs => .popB vs fun b_5 vs => .popB vs fun b_6 vs => .popB vs fun b_7 vs => .unNil vs (.call false 157 #[.slice listp listn listc] fun v => .unAgg v fun l => .popB l fun b_8 vs => .popB vs fun b_9 vs => .popB vs fun b_10 vs => .popB vs fun b_11 vs => .popB vs fun b_12 vs => .popB vs fun b_13 vs => .popB vs fun b_14 vs => .popB vs fun b_15 vs => .unNil vs (.blk (bif decide (to < from0) then .leaf (.again [.func (Fn.func 159) #[.agg #[.slice t_0p t_0n t_0c, .slice t_1p t_1n t_1c, .slice t_2p t_2n t_2c]] #[], .int .i64 (-1)]) else .leaf (.again [.func (Fn.func 158) #[.agg #[.slice t_0p t_0n t_0c, .slice t_1p t_1n t_1c, .slice t_2p t_2n t_2c]] #[], .int .i64 1])) (fun vs => .popV vs fun v vs => .popI .i64 vs fun n vs => .unNil vs (.loop [.int .i64 from0, .bool b, .bool b_1, .bool b_2, .bool b_3, .bool b_4, .bool b_5, .bool b_6, .bool b_7, .bool b_8, .bool b_9, .bool b_10, .bool b_11, .bool b_12, .bool b_13, .bool b_14, .bool b_15] (fun vs => .popI .i64 vs fun n_1 vs => .popB vs fun b vs => .popB vs fun b_16 vs => .popB vs fun b_17 vs => .popB vs fun b_18 vs => .popB vs fun b_19 vs => .popB vs fun b_20 vs => .popB vs fun b_21 vs => .popB vs fun b_22 vs => .popB vs fun b_23 vs => .popB vs fun b_24 vs => .popB vs fun b_25 vs => .popB vs fun b_26 vs => .popB vs fun b_27 vs => .popB vs fun b_28 vs => .popB vs fun b_29 vs => .popB vs fun b_30 vs => .unNil vs (bif n_1 != to then .callv false v #[.int .i64 n_1] fun v => .nd (.agg #[.bool b_23, .bool b_24, .bool b_25, .bool b_26, .bool b_27, .bool b_28, .bool b_29, .bool b_30]) (.nd (.agg #[.bool b, .bool b_16, .bool b_17, .bool b_18, .bool b_19, .bool b_20, .bool b_21, .bool b_22]) (.call false 160 #[v, .agg #[.bool b, .bool b_16, .bool b_17, .bool b_18, .bool b_19, .bool b_20, .bool b_21, .bool b_22], .agg #[.bool b_23, .bool b_24, .bool b_25, .bool b_26, .bool b_27, .bool b_28, .bool b_29, .bool b_30]] fun v => .unTup v fun l => .unCons l fun v vs => .unAgg v fun l => .popB l fun b vs_1 => .popB vs_1 fun b_31 vs_2 => .popB vs_2 fun b_32 vs_3 => .popB vs_3 fun b_33 vs_4 => .popB vs_4 fun b_34 vs_5 => .popB vs_5 fun b_35 vs_6 => .popB vs_6 fun b_36 vs_7 => .popB vs_7 fun b_37 vs_8 => .unNil vs_8 (.unCons vs fun v vs => .unAgg v fun l => .popB l fun b_38 vs_9 => .popB vs_9 fun b_39 vs_10 => .popB vs_10 fun b_40 vs_11 => .popB vs_11 fun b_41 vs_12 => .popB vs_12 fun b_42 vs_13 => .popB vs_13 fun b_43 vs_14 => .popB vs_14 fun b_44 vs_15 => .popB vs_15 fun b_45 vs_16 => .unNil vs_16 (.unNil vs (.nd (.agg #[.bool b_38, .bool b_39, .bool b_40, .bool b_41, .bool b_42, .bool b_43, .bool b_44, .bool b_45]) (.leaf (.again [.int .i64 (IntKind.wrap .i64 (n_1 + n)), .bool b, .bool b_31, .bool b_32, .bool b_33, .bool b_34, .bool b_35, .bool b_36, .bool b_37, .bool b_38, .bool b_39, .bool b_40, .bool b_41, .bool b_42, .bool b_43, .bool b_44, .bool b_45]))))))) else .leaf (.brk [.int .i64 n_1, .bool b, .bool b_16, .bool b_17, .bool b_18, .bool b_19, .bool b_20, .bool b_21, .bool b_22, .bool b_23, .bool b_24, .bool b_25, .bool b_26, .bool b_27, .bool b_28, .bool b_29, .bool b_30]))) (fun vs => .popI .i64 vs fun n vs => .popB vs fun b vs => .popB vs fun b_16 vs => .popB vs fun b_17 vs => .popB vs fun b_18 vs => .popB vs fun b_19 vs => .popB vs fun b_20 vs => .popB vs fun b_21 vs => .popB vs fun b_22 vs => .popB vs fun b_23 vs => .popB vs fun b_24 vs => .popB vs fun b_25 vs => .popB vs fun b_26 vs => .popB vs fun b_27 vs => .popB vs fun b_28 vs => .popB vs fun b_29 vs => .popB vs fun b_30 vs => .unNil vs (.nd (.agg #[.bool b_23, .bool b_24, .bool b_25, .bool b_26, .bool b_27, .bool b_28, .bool b_29, .bool b_30]) (.leaf (.ret (.tuple #[.agg #[.bool b, .bool b_16, .bool b_17, .bool b_18, .bool b_19, .bool b_20, .bool b_21, .bool b_22], .agg #[.bool b_23, .bool b_24, .bool b_25, .bool b_26, .bool b_27, .bool b_28, .bool b_29, .bool b_30]]))))) (fun vs => .popI .i64 vs fun n vs => .popB vs fun b vs => .popB vs fun b_16 vs => .popB vs fun b_17 vs => .popB vs fun b_18 vs => .popB vs fun b_19 vs => .popB vs fun b_20 vs => .popB vs fun b_21 vs => .popB vs fun b_22 vs => .popB vs fun b_23 vs => .popB vs fun b_24 vs => .popB vs fun b_25 vs => .popB vs fun b_26 vs => .popB vs fun b_27 vs => .popB vs fun b_28 vs => .popB vs fun b_29 vs => .popB vs fun b_30 vs => .unNil vs (.leaf (.ret (.tuple #[.agg #[.bool b, .bool b_16, .bool b_17, .bool b_18, .bool b_19, .bool b_20, .bool b_21, .bool b_22], .agg #[.bool b_23, .bool b_24, .bool b_25, .bool b_26, .bool b_27, .bool b_28, .bool b_29, .bool b_30]])))) fun x x_1 => .fail)) (fun vs => .popV vs fun v vs => .popI .i64 vs fun n vs => .unNil vs (.leaf (.ret (.tuple #[.agg #[.bool b, .bool b_1, .bool b_2, .bool b_3, .bool b_4, .bool b_5, .bool b_6, .bool b_7], .agg #[.bool b_8, .bool b_9, .bool b_10, .bool b_11, .bool b_12, .bool b_13, .bool b_14, .bool b_15]])))) fun x x_1 => .fail))
theorem w3162 (t_0p : Option Addr) (t_0n t_0c : Nat) (t_1p : Option Addr) (t_1n t_1c : Nat) (t_2p : Option Addr) (t_2n t_2c : Nat) (from0 to : Int) (listp : Option Addr) (listn listc : Nat) (hX : XOK X) (hw : (n3162 t_0p t_0n t_0c t_1p t_1n t_1c t_2p t_2n t_2c from0 to listp listn listc).wp X Tryz.prog (retQ A) h) : FWK X Tryz.prog .normal 108 #[.agg #[.slice t_0p t_0n t_0c, .slice t_1p t_1n t_1c, .slice t_2p t_2n t_2c], .int .i64 from0, .int .i64 to, .slice listp listn listc] h A := fwk_neat (show ftree ({ P := Tryz.prog, priv := [4, 8, 9], loops := [{ id := 0, slots := [(12, .int .i64), (36864, .bool), (36865, .bool), (36866, .bool), (36867, .bool), (36868, .bool), (36869, .bool), (36870, .bool), (36871, .bool), (40960, .bool), (40961, .bool), (40962, .bool), (40963, .bool), (40964, .bool), (40965, .bool), (40966, .bool), (40967, .bool)], ro := [4], outs := [] }], joins := [{ id := 5, slots := [(10, .any), (11, .int .i64)], ro := [4, 8, 9], outs := [] }] }) Tryz.f108 [.agg #[.slice t_0p t_0n t_0c, .slice t_1p t_1n t_1c, .slice t_2p t_2n t_2c], .int .i64 from0, .int .i64 to, .slice listp listn listc] = n3162 t_0p t_0n t_0c t_1p t_1n t_1c t_2p t_2n t_2c from0 to listp listn listc by kernel_rfl) (by simp) (by kernel_rfl) (by kernel_rfl) hX hw
noncomputable def n3163 (s_0 s_1 s_2 s_3 s_4 s_5 s_6 s_7 : Bool) : T := .loop [.slice none 0 0, .int .i64 0] (fun vs => .popS vs fun a n c vs => .popI .i64 vs fun n_1 vs => .unNil vs (bif decide (n_1 < 8) then .sem false (Instr.index 183 (.agg #[.bool s_0, .bool s_1, .bool s_2, .bool s_3, .bool s_4, .bool s_5, .bool s_6, .bool s_7]) (.int .i64 n_1)) fun v => .unB v fun t => bif t then .sem false (Instr.buildSlice 30 1 #[(0, .int .i64 n_1)]) fun v => .unS v fun a_1 n_2 c_1 => .sem false (Builtin.append_ #[30, 30] 30 #[.slice a n c, .slice a_1 n_2 c_1]) fun v => .unS v fun a n c => .leaf (.again [.slice a n c, .int .i64 (IntKind.wrap .i64 (n_1 + 1))]) else .leaf (.again [.slice a n c, .int .i64 (IntKind.wrap .i64 (n_1 + 1))]) else .leaf (.brk [.slice a n c, .int .i64 n_1]))) (fun vs => .popS vs fun a n c vs => .popI .i64 vs fun n_1 vs => .unNil vs (.leaf (.ret (.slice a n c)))) (fun vs => .popS vs fun a n c vs => .popI .i64 vs fun n vs => .unNil vs (.leaf (.ret (.slice none 0 0)))) fun x x_1 => .fail
theorem w3163 (s_0 s_1 s_2 s_3 s_4 s_5 s_6 s_7 : Bool) (hX : XOK X) (hw : (n3163 s_0 s_1 s_2 s_3 s_4 s_5 s_6 s_7).wp X Tryz.prog (retQ A) h) : FWK X Tryz.prog .normal 109 #[.agg #[.bool s_0, .bool s_1, .bool s_2, .bool s_3, .bool s_4, .bool s_5, .bool s_6, .bool s_7]] h A := fwk_neat (show ftree ({ P := Tryz.prog, priv := [1], loops := [{ id := 0, slots := [(3, .slice), (7, .int .i64)], ro := [1], outs := [] }], joins := [] }) Tryz.f109 [.agg #[.bool s_0, .bool s_1, .bool s_2, .bool s_3, .bool s_4, .bool s_5, .bool s_6, .bool s_7]] = n3163 s_0 s_1 s_2 s_3 s_4 s_5 s_6 s_7 by kernel_rfl) (by simp) (by kernel_rfl) (by kernel_rfl) hX hw
noncomputable def n3184 (listp : Option Addr) (listn listc : Nat) : T := .new 183 #[.bool false, .bool false, .bool false, .bool false, .bool false, .bool false, .bool false, .bool false] fun r => .loop [.int .i64 0] (fun vs => .popI .i64 vs fun n vs => .unNil vs (bif decide (n < (↑listn : Int)) then .need (0 ≤ n ∧ n < (↑listn : Int)) (.someA listp fun a => .loadI .i64 (a.add (n.toNat * 1)) fun n_1 => .need (0 ≤ n_1 ∧ n_1 < (↑8 : Int)) (.store ((Addr.add { block := r, off := 0 } (n_1.toNat * 1)).add 0) (.bool true) (.leaf (.again [.int .i64 (IntKind.wrap .i64 (n + 1))])))) else .leaf (.brk [.int .i64 n]))) (fun vs => .popI .i64 vs fun n vs => .unNil vs (.loadB (Addr.add { block := r, off := 0 } 0) fun b => .loadB (Addr.add { block := r, off := 0 } 1) fun b_1 => .loadB (Addr.add { block := r, off := 0 } 2) fun b_2 => .loadB (Addr.add { block := r, off := 0 } 3) fun b_3 => .loadB (Addr.add { block := r, off := 0 } 4) fun b_4 => .loadB (Addr.add { block := r, off := 0 } 5) fun b_5 => .loadB (Addr.add { block := r, off := 0 } 6) fun b_6 => .loadB (Addr.add { block := r, off := 0 } 7) fun b_7 => .leaf (.ret (.agg #[.bool b, .bool b_1, .bool b_2, .bool b_3, .bool b_4, .bool b_5, .bool b_6, .bool b_7])))) (fun vs => .popI .i64 vs fun n vs => .unNil vs (.leaf (.ret (.agg #[.bool false, .bool false, .bool false, .bool false, .bool false, .bool false, .bool false, .bool false])))) fun x x_1 => .fail
theorem w3184 (listp : Option Addr) (listn listc : Nat) (hX : XOK X) (hw : (n3184 listp listn listc).wp X Tryz.prog (retQ A) h) : FWK X Tryz.prog .normal 157 #[.slice listp listn listc] h A := fwk_neat (show ftree ({ P := Tryz.prog, priv := [2], loops := [{ id := 0, slots := [(8, .int .i64)], ro := [2], outs := [] }], joins := [] }) Tryz.f157 [.slice listp listn listc] = n3184 listp listn listc by kernel_rfl) (by simp) (by kernel_rfl) (by kernel_rfl) hX hw
noncomputable def n3185 (t_0p : Option Addr) (t_0n t_0c : Nat) (t_1p : Option Addr) (t_1n t_1c : Nat) (t_2p : Option Addr) (t_2n t_2c : Nat) (edition : Int) : T := .new 133 #[.slice t_0p t_0n t_0c, .slice t_1p t_1n t_1c, .slice t_2p t_2n t_2c] fun r => .new 3 #[.int .i64 edition] fun r_1 => .leaf (.ret (.func (Fn.func 207) #[] #[.pointer (some { block := r, off := 0 }), .pointer (some { block := r_1, off := 0 })]))
theorem w3185 (t_0p : Option Addr) (t_0n t_0c : Nat) (t_1p : Option Addr) (t_1n t_1c : Nat) (t_2p : Option Addr) (t_2n t_2c : Nat) (edition : Int) (hX : XOK X) (hw : (n3185 t_0p t_0n t_0c t_1p t_1n t_1c t_2p t_2n t_2c edition).wp X Tryz.prog (retQ A) h) : FWK X Tryz.prog .normal 158 #[.agg #[.slice t_0p t_0n t_0c, .slice t_1p t_1n t_1c, .slice t_2p t_2n t_2c], .int .i64 edition] h A := fwk_neat (show ftree ({ P := Tryz.prog, priv := [], loops := [], joins := [] }) Tryz.f158 [.agg #[.slice t_0p t_0n t_0c, .slice t_1p t_1n t_1c, .slice t_2p t_2n t_2c], .int .i64 edition] = n3185 t_0p t_0n t_0c t_1p t_1n t_1c t_2p t_2n t_2c edition by kernel_rfl) (by simp) (by kernel_rfl) (by kernel_rfl) hX hw
noncomputable def n3186 (t_0p : Option Addr) (t_0n t_0c : Nat) (t_1p : Option Addr) (t_1n t_1c : Nat) (t_2p : Option Addr) (t_2n t_2c : Nat) (edition : Int) : T := .new 133 #[.slice t_0p t_0n t_0c, .slice t_1p t_1n t_1c, .slice t_2p t_2n t_2c] fun r => .new 3 #[.int .i64 edition] fun r_1 => .leaf (.ret (.func (Fn.func 208) #[] #[.pointer (some { block := r, off := 0 }), .pointer (some { block := r_1, off := 0 })]))
theorem w3186 (t_0p : Option Addr) (t_0n t_0c : Nat) (t_1p : Option Addr) (t_1n t_1c : Nat) (t_2p : Option Addr) (t_2n t_2c : Nat) (edition : Int) (hX : XOK X) (hw : (n3186 t_0p t_0n t_0c t_1p t_1n t_1c t_2p t_2n t_2c edition).wp X Tryz.prog (retQ A) h) : FWK X Tryz.prog .normal 159 #[.agg #[.slice t_0p t_0n t_0c, .slice t_1p t_1n t_1c, .slice t_2p t_2n t_2c], .int .i64 edition] h A := fwk_neat (show ftree ({ P := Tryz.prog, priv := [], loops := [], joins := [] }) Tryz.f159 [.agg #[.slice t_0p t_0n t_0c, .slice t_1p t_1n t_1c, .slice t_2p t_2n t_2c], .int .i64 edition] = n3186 t_0p t_0n t_0c t_1p t_1n t_1c t_2p t_2n t_2c edition by kernel_rfl) (by simp) (by kernel_rfl) (by kernel_rfl) hX hw
noncomputable def n3187 (moves : Value) (sure_0 sure_1 sure_2 sure_3 sure_4 sure_5 sure_6 sure_7 can_0 can_1 can_2 can_3 can_4 can_5 can_6 can_7 : Bool) : T := .new 183 #[.bool sure_0, .bool sure_1, .bool sure_2, .bool sure_3, .bool sure_4, .bool sure_5, .bool sure_6, .bool sure_7] fun r => .new 183 #[.bool can_0, .bool can_1, .bool can_2, .bool can_3, .bool can_4, .bool can_5, .bool can_6, .bool can_7] fun r_1 => .new 183 #[.bool false, .bool false, .bool false, .bool false, .bool false, .bool false, .bool false, .bool false] fun r_2 => .new 183 #[.bool false, .bool false, .bool false, .bool false, .bool false, .bool false, .bool false, .bool false] fun r_3 => .new 183 #[.bool false, .bool false, .bool false, .bool false, .bool false, .bool false, .bool false, .bool false] fun r_4 => .each moves [] (fun xs vs => .unCons xs fun v vs_1 => .unI .i64 v fun n => .unCons vs_1 fun v vs_2 => .unI .i64 v fun n_1 => .unNil vs_2 (.unNil vs (.need (0 ≤ n_1 ∧ n_1 < (↑8 : Int)) (.store ((Addr.add { block := r_2, off := 0 } (n_1.toNat * 1)).add 0) (.bool true) (.need (0 ≤ n_1 ∧ n_1 < (↑8 : Int)) (.loadB (Addr.add { block := r_3, off := 0 } (n_1.toNat * 1)) fun b => bif b then .need (0 ≤ n_1 ∧ n_1 < (↑8 : Int)) (.store ((Addr.add { block := r_3, off := 0 } (n_1.toNat * 1)).add 0) (.bool true) (.need (0 ≤ n_1 ∧ n_1 < (↑8 : Int)) (.loadB (Addr.add { block := r_4, off := 0 } (n_1.toNat * 1)) fun b => bif b then .need (0 ≤ n_1 ∧ n_1 < (↑8 : Int)) (.store ((Addr.add { block := r_4, off := 0 } (n_1.toNat * 1)).add 0) (.bool true) (.leaf (.again []))) else .need (0 ≤ n ∧ n < (↑8 : Int)) (.loadB (Addr.add { block := r_1, off := 0 } (n.toNat * 1)) fun b => .need (0 ≤ n_1 ∧ n_1 < (↑8 : Int)) (.store ((Addr.add { block := r_4, off := 0 } (n_1.toNat * 1)).add 0) (.bool b) (.leaf (.again []))))))) else .need (0 ≤ n ∧ n < (↑8 : Int)) (.loadB (Addr.add { block := r, off := 0 } (n.toNat * 1)) fun b => .need (0 ≤ n_1 ∧ n_1 < (↑8 : Int)) (.store ((Addr.add { block := r_3, off := 0 } (n_1.toNat * 1)).add 0) (.bool !b) (.need (0 ≤ n_1 ∧ n_1 < (↑8 : Int)) (.loadB (Addr.add { block := r_4, off := 0 } (n_1.toNat * 1)) fun b => bif b then .need (0 ≤ n_1 ∧ n_1 < (↑8 : Int)) (.store ((Addr.add { block := r_4, off := 0 } (n_1.toNat * 1)).add 0) (.bool true) (.leaf (.again []))) else .need (0 ≤ n ∧ n < (↑8 : Int)) (.loadB (Addr.add { block := r_1, off := 0 } (n.toNat * 1)) fun b => .need (0 ≤ n_1 ∧ n_1 < (↑8 : Int)) (.store ((Addr.add { block := r_4, off := 0 } (n_1.toNat * 1)).add 0) (.bool b) (.leaf (.again [])))))))))))))) (fun vs => .unNil vs (.loop [.int .i64 0] (fun vs => .popI .i64 vs fun n vs => .unNil vs (bif decide (n < 8) then .need (0 ≤ n ∧ n < (↑8 : Int)) (.loadB (Addr.add { block := r_2, off := 0 } (n.toNat * 1)) fun b => bif b then .need (0 ≤ n ∧ n < (↑8 : Int)) (.loadB (Addr.add { block := r_3, off := 0 } (n.toNat * 1)) fun b => .need (0 ≤ n ∧ n < (↑8 : Int)) (.store ((Addr.add { block := r_2, off := 0 } (n.toNat * 1)).add 0) (.bool !b) (.leaf (.again [.int .i64 (IntKind.wrap .i64 (n + 1))])))) else .need (0 ≤ n ∧ n < (↑8 : Int)) (.store ((Addr.add { block := r_2, off := 0 } (n.toNat * 1)).add 0) (.bool false) (.leaf (.again [.int .i64 (IntKind.wrap .i64 (n + 1))])))) else .leaf (.brk [.int .i64 n]))) (fun vs => .popI .i64 vs fun n vs => .unNil vs (.loadB (Addr.add { block := r_2, off := 0 } 0) fun b => .loadB (Addr.add { block := r_2, off := 0 } 1) fun b_1 => .loadB (Addr.add { block := r_2, off := 0 } 2) fun b_2 => .loadB (Addr.add { block := r_2, off := 0 } 3) fun b_3 => .loadB (Addr.add { block := r_2, off := 0 } 4) fun b_4 => .loadB (Addr.add { block := r_2, off := 0 } 5) fun b_5 => .loadB (Addr.add { block := r_2, off := 0 } 6) fun b_6 => .loadB (Addr.add { block := r_2, off := 0 } 7) fun b_7 => .loadB (Addr.add { block := r_4, off := 0 } 0) fun b_8 => .loadB (Addr.add { block := r_4, off := 0 } 1) fun b_9 => .loadB (Addr.add { block := r_4, off := 0 } 2) fun b_10 => .loadB (Addr.add { block := r_4, off := 0 } 3) fun b_11 => .loadB (Addr.add { block := r_4, off := 0 } 4) fun b_12 => .loadB (Addr.add { block := r_4, off := 0 } 5) fun b_13 => .loadB (Addr.add { block := r_4, off := 0 } 6) fun b_14 => .loadB (Addr.add { block := r_4, off := 0 } 7) fun b_15 => .loadB (Addr.add { block := r_4, off := 0 } 0) fun b_16 => .loadB (Addr.add { block := r_4, off := 0 } 1) fun b_17 => .loadB (Addr.add { block := r_4, off := 0 } 2) fun b_18 => .loadB (Addr.add { block := r_4, off := 0 } 3) fun b_19 => .loadB (Addr.add { block := r_4, off := 0 } 4) fun b_20 => .loadB (Addr.add { block := r_4, off := 0 } 5) fun b_21 => .loadB (Addr.add { block := r_4, off := 0 } 6) fun b_22 => .loadB (Addr.add { block := r_4, off := 0 } 7) fun b_23 => .need (AV.val (.agg #[.bool b_16, .bool b_17, .bool b_18, .bool b_19, .bool b_20, .bool b_21, .bool b_22, .bool b_23]) = AV.val (.agg #[.bool b_8, .bool b_9, .bool b_10, .bool b_11, .bool b_12, .bool b_13, .bool b_14, .bool b_15])) (.leaf (.ret (.tuple #[.agg #[.bool b, .bool b_1, .bool b_2, .bool b_3, .bool b_4, .bool b_5, .bool b_6, .bool b_7], .agg #[.bool b_8, .bool b_9, .bool b_10, .bool b_11, .bool b_12, .bool b_13, .bool b_14, .bool b_15]]))))) (fun vs => .popI .i64 vs fun n vs => .unNil vs (.leaf (.ret (.tuple #[.agg #[.bool false, .bool false, .bool false, .bool false, .bool false, .bool false, .bool false, .bool false], .agg #[.bool false, .bool false, .bool false, .bool false, .bool false, .bool false, .bool false, .bool false]])))) fun x x_1 => .fail)) (fun vs => .unNil vs (.loop [.int .i64 0] (fun vs => .popI .i64 vs fun n vs => .unNil vs (bif decide (n < 8) then .need (0 ≤ n ∧ n < (↑8 : Int)) (.loadB (Addr.add { block := r_2, off := 0 } (n.toNat * 1)) fun b => bif b then .need (0 ≤ n ∧ n < (↑8 : Int)) (.loadB (Addr.add { block := r_3, off := 0 } (n.toNat * 1)) fun b => .need (0 ≤ n ∧ n < (↑8 : Int)) (.store ((Addr.add { block := r_2, off := 0 } (n.toNat * 1)).add 0) (.bool !b) (.leaf (.again [.int .i64 (IntKind.wrap .i64 (n + 1))])))) else .need (0 ≤ n ∧ n < (↑8 : Int)) (.store ((Addr.add { block := r_2, off := 0 } (n.toNat * 1)).add 0) (.bool false) (.leaf (.again [.int .i64 (IntKind.wrap .i64 (n + 1))])))) else .leaf (.brk [.int .i64 n]))) (fun vs => .popI .i64 vs fun n vs => .unNil vs (.loadB (Addr.add { block := r_2, off := 0 } 0) fun b => .loadB (Addr.add { block := r_2, off := 0 } 1) fun b_1 => .loadB (Addr.add { block := r_2, off := 0 } 2) fun b_2 => .loadB (Addr.add { block := r_2, off := 0 } 3) fun b_3 => .loadB (Addr.add { block := r_2, off := 0 } 4) fun b_4 => .loadB (Addr.add { block := r_2, off := 0 } 5) fun b_5 => .loadB (Addr.add { block := r_2, off := 0 } 6) fun b_6 => .loadB (Addr.add { block := r_2, off := 0 } 7) fun b_7 => .loadB (Addr.add { block := r_4, off := 0 } 0) fun b_8 => .loadB (Addr.add { block := r_4, off := 0 } 1) fun b_9 => .loadB (Addr.add { block := r_4, off := 0 } 2) fun b_10 => .loadB (Addr.add { block := r_4, off := 0 } 3) fun b_11 => .loadB (Addr.add { block := r_4, off := 0 } 4) fun b_12 => .loadB (Addr.add { block := r_4, off := 0 } 5) fun b_13 => .loadB (Addr.add { block := r_4, off := 0 } 6) fun b_14 => .loadB (Addr.add { block := r_4, off := 0 } 7) fun b_15 => .loadB (Addr.add { block := r_4, off := 0 } 0) fun b_16 => .loadB (Addr.add { block := r_4, off := 0 } 1) fun b_17 => .loadB (Addr.add { block := r_4, off := 0 } 2) fun b_18 => .loadB (Addr.add { block := r_4, off := 0 } 3) fun b_19 => .loadB (Addr.add { block := r_4, off := 0 } 4) fun b_20 => .loadB (Addr.add { block := r_4, off := 0 } 5) fun b_21 => .loadB (Addr.add { block := r_4, off := 0 } 6) fun b_22 => .loadB (Addr.add { block := r_4, off := 0 } 7) fun b_23 => .need (AV.val (.agg #[.bool b_16, .bool b_17, .bool b_18, .bool b_19, .bool b_20, .bool b_21, .bool b_22, .bool b_23]) = AV.val (.agg #[.bool b_8, .bool b_9, .bool b_10, .bool b_11, .bool b_12, .bool b_13, .bool b_14, .bool b_15])) (.leaf (.ret (.tuple #[.agg #[.bool b, .bool b_1, .bool b_2, .bool b_3, .bool b_4, .bool b_5, .bool b_6, .bool b_7], .agg #[.bool b_8, .bool b_9, .bool b_10, .bool b_11, .bool b_12, .bool b_13, .bool b_14, .bool b_15]]))))) (fun vs => .popI .i64 vs fun n vs => .unNil vs (.leaf (.ret (.tuple #[.agg #[.bool false, .bool false, .bool false, .bool false, .bool false, .bool false, .bool false, .bool false], .agg #[.bool false, .bool false, .bool false, .bool false, .bool false, .bool false, .bool false, .bool false]])))) fun x x_1 => .fail)) (fun vs => .unNil vs (.leaf (.ret (.tuple #[.agg #[.bool false, .bool false, .bool false, .bool false, .bool false, .bool false, .bool false, .bool false], .agg #[.bool false, .bool false, .bool false, .bool false, .bool false, .bool false, .bool false, .bool false]])))) fun x x_1 => .fail
theorem w3187 (moves : Value) (sure_0 sure_1 sure_2 sure_3 sure_4 sure_5 sure_6 sure_7 can_0 can_1 can_2 can_3 can_4 can_5 can_6 can_7 : Bool) (hX : XOK X) (hw : (n3187 moves sure_0 sure_1 sure_2 sure_3 sure_4 sure_5 sure_6 sure_7 can_0 can_1 can_2 can_3 can_4 can_5 can_6 can_7).wp X Tryz.prog (retQ A) h) : FWK X Tryz.prog .normal 160 #[moves, .agg #[.bool sure_0, .bool sure_1, .bool sure_2, .bool sure_3, .bool sure_4, .bool sure_5, .bool sure_6, .bool sure_7], .agg #[.bool can_0, .bool can_1, .bool can_2, .bool can_3, .bool can_4, .bool can_5, .bool can_6, .bool can_7]] h A := fwk_neat (show ftree ({ P := Tryz.prog, priv := [6, 7], loops := [{ id := 0, slots := [], ro := [6, 7], outs := [], ps := [.cell (.int .i64), .cell (.int .i64)] }, { id := 2, slots := [(40, .int .i64)], ro := [6, 7], outs := [] }], joins := [] }) Tryz.f160 [moves, .agg #[.bool sure_0, .bool sure_1, .bool sure_2, .bool sure_3, .bool sure_4, .bool sure_5, .bool sure_6, .bool sure_7], .agg #[.bool can_0, .bool can_1, .bool can_2, .bool can_3, .bool can_4, .bool can_5, .bool can_6, .bool can_7]] = n3187 moves sure_0 sure_1 sure_2 sure_3 sure_4 sure_5 sure_6 sure_7 can_0 can_1 can_2 can_3 can_4 can_5 can_6 can_7 by kernel_rfl) (by simp) (by kernel_rfl) (by kernel_rfl) hX hw
noncomputable def n3209 (yield : Value) (z0 z1 : Addr) : T := .loadS ((z0.add 0).add 1) fun p n c => .loop [.int .i64 0] (fun vs => .popI .i64 vs fun n_1 vs => .unNil vs (bif decide (n_1 < (↑n : Int)) then .need (0 ≤ n_1 ∧ n_1 < (↑n : Int)) (.someA p fun a => .loadI .i64 ((a.add (n_1.toNat * 3)).add 0) fun n => .loadI .i64 ((a.add (n_1.toNat * 3)).add 1) fun n_2 => .loadI .i64 ((a.add (n_1.toNat * 3)).add 2) fun n_3 => .loadI .i64 z1 fun n_4 => bif n == n_4 then .callv false yield #[.int .i64 n_2, .int .i64 n_3] fun v => .unB v fun b => bif !b then .leaf (.retn [.int .i64 n_1]) else .leaf (.again [.int .i64 (IntKind.wrap .i64 (n_1 + 1))]) else .leaf (.again [.int .i64 (IntKind.wrap .i64 (n_1 + 1))])) else .leaf (.brk [.int .i64 n_1]))) (fun vs => .popI .i64 vs fun n vs => .unNil vs (.leaf (.ret (.tuple #[])))) (fun vs => .popI .i64 vs fun n vs => .unNil vs (.leaf (.ret (.tuple #[])))) fun x x_1 => .fail
theorem w3209 (yield : Value) (z0 z1 : Addr) (hX : XOK X) (hw : (n3209 yield z0 z1).wp X Tryz.prog (retQ A) h) : FWK X Tryz.prog .normal 207 #[yield, .pointer (some z0), .pointer (some z1)] h A := fwk_neat (show ftree ({ P := Tryz.prog, priv := [5], loops := [{ id := 0, slots := [(10, .int .i64)], ro := [], outs := [] }], joins := [] }) Tryz.f207 [yield, .pointer (some z0), .pointer (some z1)] = n3209 yield z0 z1 by kernel_rfl) (by simp) (by kernel_rfl) (by kernel_rfl) hX hw
noncomputable def n3210 (yield : Value) (z0 z1 : Addr) : T := .loadS ((z0.add 0).add 1) fun p n c => .loop [.int .i64 0] (fun vs => .popI .i64 vs fun n_1 vs => .unNil vs (bif decide (n_1 < (↑n : Int)) then .need (0 ≤ n_1 ∧ n_1 < (↑n : Int)) (.someA p fun a => .loadI .i64 ((a.add (n_1.toNat * 3)).add 0) fun n => .loadI .i64 ((a.add (n_1.toNat * 3)).add 1) fun n_2 => .loadI .i64 ((a.add (n_1.toNat * 3)).add 2) fun n_3 => .loadI .i64 z1 fun n_4 => bif n == IntKind.wrap .i64 (n_4 - 1) then .callv false yield #[.int .i64 n_3, .int .i64 n_2] fun v => .unB v fun b => bif !b then .leaf (.retn [.int .i64 n_1]) else .leaf (.again [.int .i64 (IntKind.wrap .i64 (n_1 + 1))]) else .leaf (.again [.int .i64 (IntKind.wrap .i64 (n_1 + 1))])) else .leaf (.brk [.int .i64 n_1]))) (fun vs => .popI .i64 vs fun n vs => .unNil vs (.leaf (.ret (.tuple #[])))) (fun vs => .popI .i64 vs fun n vs => .unNil vs (.leaf (.ret (.tuple #[])))) fun x x_1 => .fail
theorem w3210 (yield : Value) (z0 z1 : Addr) (hX : XOK X) (hw : (n3210 yield z0 z1).wp X Tryz.prog (retQ A) h) : FWK X Tryz.prog .normal 208 #[yield, .pointer (some z0), .pointer (some z1)] h A := fwk_neat (show ftree ({ P := Tryz.prog, priv := [5], loops := [{ id := 0, slots := [(10, .int .i64)], ro := [], outs := [] }], joins := [] }) Tryz.f208 [yield, .pointer (some z0), .pointer (some z1)] = n3210 yield z0 z1 by kernel_rfl) (by simp) (by kernel_rfl) (by kernel_rfl) hX hw
noncomputable def n3128 (t_0p : Option Addr) (t_0n t_0c : Nat) (t_1p : Option Addr) (t_1n t_1c : Nat) (t_2p : Option Addr) (t_2n t_2c : Nat) (from0 to : Int) (listp : Option Addr) (listn listc : Nat) : T := .call false 106 #[.agg #[.slice t_0p t_0n t_0c, .slice t_1p t_1n t_1c, .slice t_2p t_2n t_2c]] fun v => .unI .i64 v fun n => bif n != 0 then .leaf (.ret (.tuple #[.slice none 0 0, .slice none 0 0, .int .i64 n])) else .blk (.call false 107 #[.agg #[.slice t_0p t_0n t_0c, .slice t_1p t_1n t_1c, .slice t_2p t_2n t_2c], .int .i64 from0] fun v => .unB v fun b => bif !b then .leaf (.retn [.slice none 0 0, .slice none 0 0, .int .i64 6]) else .call false 107 #[.agg #[.slice t_0p t_0n t_0c, .slice t_1p t_1n t_1c, .slice t_2p t_2n t_2c], .int .i64 to] fun v => .unB v fun b => bif !b then .leaf (.retn [.slice none 0 0, .slice none 0 0, .int .i64 6]) else .leaf (.again [.slice none 0 0, .slice none 0 0, .int .i64 0])) (fun vs => .popS vs fun a n c vs => .popS vs fun a n c vs => .popI .i64 vs fun n vs => .unNil vs (.call false 67 #[.agg #[.slice t_0p t_0n t_0c, .slice t_1p t_1n t_1c, .slice t_2p t_2n t_2c], .int .i64 from0, .slice listp listn listc] fun v => .unI .i64 v fun n => bif n != 0 then .leaf (.ret (.tuple #[.slice none 0 0, .slice none 0 0, .int .i64 n])) else .call false 108 #[.agg #[.slice t_0p t_0n t_0c, .slice t_1p t_1n t_1c, .slice t_2p t_2n t_2c], .int .i64 from0, .int .i64 to, .slice listp listn listc] fun v => .unTup v fun l => .unCons l fun v vs => .unAgg v fun l => .popB l fun b vs_1 => .popB vs_1 fun b_1 vs_2 => .popB vs_2 fun b_2 vs_3 => .popB vs_3 fun b_3 vs_4 => .popB vs_4 fun b_4 vs_5 => .popB vs_5 fun b_5 vs_6 => .popB vs_6 fun b_6 vs_7 => .popB vs_7 fun b_7 vs_8 => .unNil vs_8 (.unCons vs fun v vs => .unAgg v fun l => .popB l fun b_8 vs_9 => .popB vs_9 fun b_9 vs_10 => .popB vs_10 fun b_10 vs_11 => .popB vs_11 fun b_11 vs_12 => .popB vs_12 fun b_12 vs_13 => .popB vs_13 fun b_13 vs_14 => .popB vs_14 fun b_14 vs_15 => .popB vs_15 fun b_15 vs_16 => .unNil vs_16 (.unNil vs (.sem false (Sem.bind (eqGuard BinOp.eql 183 (Operand.tmp 48) (Operand.tmp 49) (.agg #[.bool b, .bool b_1, .bool b_2, .bool b_3, .bool b_4, .bool b_5, .bool b_6, .bool b_7]) (.agg #[.bool b_8, .bool b_9, .bool b_10, .bool b_11, .bool b_12, .bool b_13, .bool b_14, .bool b_15])) fun __r => binOp BinOp.eql 183 (.agg #[.bool b, .bool b_1, .bool b_2, .bool b_3, .bool b_4, .bool b_5, .bool b_6, .bool b_7]) (.agg #[.bool b_8, .bool b_9, .bool b_10, .bool b_11, .bool b_12, .bool b_13, .bool b_14, .bool b_15])) fun v => .unB v fun b_16 => bif b_16 then .call false 109 #[.agg #[.bool b, .bool b_1, .bool b_2, .bool b_3, .bool b_4, .bool b_5, .bool b_6, .bool b_7]] fun v => .unS v fun a n c => .nd (.agg #[.bool b, .bool b_1, .bool b_2, .bool b_3, .bool b_4, .bool b_5, .bool b_6, .bool b_7]) (.call false 109 #[.agg #[.bool b, .bool b_1, .bool b_2, .bool b_3, .bool b_4, .bool b_5, .bool b_6, .bool b_7]] fun v => .unS v fun a_1 n_1 c_1 => .leaf (.ret (.tuple #[.slice a n c, .slice a_1 n_1 c_1, .int .i64 0]))) else .call false 109 #[.agg #[.bool b, .bool b_1, .bool b_2, .bool b_3, .bool b_4, .bool b_5, .bool b_6, .bool b_7]] fun v => .unS v fun a n c => .nd (.agg #[.bool b_8, .bool b_9, .bool b_10, .bool b_11, .bool b_12, .bool b_13, .bool b_14, .bool b_15]) (.call false 109 #[.agg #[.bool b_8, .bool b_9, .bool b_10, .bool b_11, .bool b_12, .bool b_13, .bool b_14, .bool b_15]] fun v => .unS v fun a_1 n_1 c_1 => .leaf (.ret (.tuple #[.slice a n c, .slice a_1 n_1 c_1, .int .i64 0])))))))) (fun vs => .popS vs fun a n c vs => .popS vs fun a_1 n_1 c_1 vs => .popI .i64 vs fun n_2 vs => .unNil vs (.leaf (.ret (.tuple #[.slice a n c, .slice a_1 n_1 c_1, .int .i64 n_2])))) fun x x_1 => .fail
theorem w3128 (t_0p : Option Addr) (t_0n t_0c : Nat) (t_1p : Option Addr) (t_1n t_1c : Nat) (t_2p : Option Addr) (t_2n t_2c : Nat) (from0 to : Int) (listp : Option Addr) (listn listc : Nat) (hX : XOK X) (hw : (n3128 t_0p t_0n t_0c t_1p t_1n t_1c t_2p t_2n t_2c from0 to listp listn listc).wp X Tryz.prog (retQ A) h) : FWK X Tryz.prog .normal 46 #[.agg #[.slice t_0p t_0n t_0c, .slice t_1p t_1n t_1c, .slice t_2p t_2n t_2c], .int .i64 from0, .int .i64 to, .slice listp listn listc] h A := fwk_neat (show ftree ({ P := Tryz.prog, priv := [4, 12, 14, 15], loops := [], joins := [{ id := 7, slots := [(8, .slice), (9, .slice), (10, .int .i64)], ro := [4, 12], outs := [] }] }) Tryz.f46 [.agg #[.slice t_0p t_0n t_0c, .slice t_1p t_1n t_1c, .slice t_2p t_2n t_2c], .int .i64 from0, .int .i64 to, .slice listp listn listc] = n3128 t_0p t_0n t_0c t_1p t_1n t_1c t_2p t_2n t_2c from0 to listp listn listc by kernel_rfl) (by simp) (by kernel_rfl) (by kernel_rfl) hX hw
end Go.Proofs.YtldamlcehbdkdaaGreatDoor
end
section
namespace Go.TM
open Go Go.Conc
variable {P : Program} {X : XP} {Q : Leaf → LH → Prop}
open Te in
def Arr8 (h : Cells) (r : Nat) (el : TypeId) (s : Items) : Prop := ∃ cs, h r = some (true, .cells cs el (0, 0)) ∧ cs.size = 8 ∧ ∀ j, j < 8 → cs[j]? = some (.bool (s j))
theorem Arr8.le {h h' : Cells} {r : Nat} {el : TypeId} {s : Te.Items} (hl : h.le h') (a : Arr8 h r el s) : Arr8 h' r el s := by
 obtain ⟨cs, h1, h2⟩ := a
 exact ⟨cs, hl _ _ h1, h2⟩
theorem Arr8.cell {h : Cells} {r : Nat} {el : TypeId} {s : Te.Items} (a : Arr8 h r el s) {j : Nat} (hj : j < 8) : h.cell? (Addr.add ⟨r, 0, none⟩ j) = some (.bool (s j)) := by
 obtain ⟨cs, h1, h2, h3⟩ := a
 rw [add_plain, Nat.zero_add]
 unfold Cells.cell?
 rw [h1]
 exact h3 j hj
theorem Arr8.new {h : Cells} {r : Nat} {el : TypeId} (s : Te.Items) : Arr8 (h.upd r (true, .cells #[.bool (s 0), .bool (s 1), .bool (s 2), .bool (s 3), .bool (s 4), .bool (s 5), .bool (s 6), .bool (s 7)] el (0, 0))) r el s := by
 refine ⟨_, Cells.upd_self _ _ _, rfl, fun j hj => ?_⟩
 match j, hj with
 | 0, _ => rfl
 | 1, _ => rfl
 | 2, _ => rfl
 | 3, _ => rfl
 | 4, _ => rfl
 | 5, _ => rfl
 | 6, _ => rfl
 | 7, _ => rfl
structure Turn1 (r : Nat) (h h' : LH) : Prop where
 keep : ∀ b, b ≠ r → h'.get b = h.get b
 rest : h'.chans = h.chans ∧ h'.pend = h.pend ∧ h'.todo = h.todo
theorem Turn1.le {r : Nat} {h₀ h h' : LH} (t : Turn1 r h h') (hl : h₀.le h) (hr : h₀.get r = none) : h₀.le h' :=
 ⟨fun b y hb => by
  have : b ≠ r := by rintro rfl; rw [hr] at hb; cases hb
  rw [t.keep b this]; exact hl.1 b y hb, by rw [t.rest.1]; exact hl.2.1, by rw [t.rest.2.1]; exact hl.2.2.1, by rw [t.rest.2.2]; exact hl.2.2.2⟩
theorem Turn1.arr {r b : Nat} {h h' : LH} {el : TypeId} {s : Te.Items} (t : Turn1 r h h') (hb : b ≠ r) (a : Arr8 h.get b el s) : Arr8 h'.get b el s := by
 obtain ⟨cs, h1, h2⟩ := a
 exact ⟨cs, by rw [t.keep b hb]; exact h1, h2⟩
def setA (s : Te.Items) (j : Nat) (b : Bool) : Te.Items := fun i => if i = j then b else s i
theorem t_storeA {h : LH} {r j : Nat} {el : TypeId} {s : Te.Items} {a : Addr} {b : Bool} {k : T} (ha : a = ⟨r, j, none⟩) (hs : Arr8 h.get r el s) (hj : j < 8) (hk : ∀ h', Turn1 r h h' → Arr8 h'.get r el (setA s j b) → k.wp X P Q h') : (T.store a (.bool b) k).wp X P Q h := by
 subst ha
 obtain ⟨cs, h1, h2, h3⟩ := hs
 refine t_store (v₀ := .bool (s j)) rfl ⟨_, h1⟩ ?_ (by simp [Cells.frozen?, h1]) (hk _ ⟨fun b' hb => ?_, rfl, rfl, rfl⟩ ⟨cs.setIfInBounds j (.bool b), ?_, by simp [h2], fun i hi => ?_⟩)
 ·unfold Cells.cell?
  simp only [h1]
  exact h3 j hj
 ·show h.get.setCell _ _ b' = _
  unfold Cells.setCell
  rw [if_neg hb]
 ·show h.get.setCell _ _ r = _
  unfold Cells.setCell
  rw [if_pos rfl, h1]
  rfl
 ·rw [Array.getElem?_setIfInBounds]
  unfold setA
  by_cases e : j = i
  ·subst e; rw [if_pos rfl, if_pos (by omega), if_pos rfl]
  ·rw [if_neg e, if_neg (Ne.symm e)]; exact h3 i hi
abbrev boolsV (s : Te.Items) : Value := .agg #[.bool (s 0), .bool (s 1), .bool (s 2), .bool (s 3), .bool (s 4), .bool (s 5), .bool (s 6), .bool (s 7)]
def setL (l : List Int) : Te.Items := fun i => l.contains (i : Int)
def listT (s : Te.Items) : List Int := ((List.range 8).filter s).map fun i : Nat => (i : Int)
end Go.TM
namespace Go.Proofs.YtldamlcehbdkdaaGreatDoor
open Go Go.TM Go.Proofs
attribute [local irreducible] T.wp CV FWK
theorem und1189 : Tryz.prog.underlying 183 = some (.array 8 4) := by kernel_rfl
theorem und4 : Tryz.prog.underlying 4 = some .bool := by kernel_rfl
theorem agg4 : isAggT Tryz.prog 4 = false := by kernel_rfl
theorem c3184 {h : LH} {p : Option Addr} {n c : Nat} {l : List Int} (hl : Sl IntE 1 h.get p n l) (hin : ∀ v ∈ l, 0 ≤ v ∧ v < 8) : Gr Tryz.prog 157 #[.slice p n c] h fun r _ => r = boolsV (setL l) := by
 refine w3184 _ _ _ X0_ok ?_
 unfold n3184
 have hn := hl.1
 have hb := hl.2.1
 refine t_new fun r hr => ?_
 refine t_loop (fun mm vs h' => h.le h' ∧ ∃ i : Nat, vs = [.int .i64 i] ∧ i ≤ n ∧ mm = n - i ∧ Arr8 h'.get r 183 (setL (l.take i))) ⟨LH.upd_le hr, 0, rfl, Nat.zero_le _, rfl, Arr8.new (setL [])⟩ ?_
 rintro Y mm vs h1 hY ⟨le1, i, rfl, hi, rfl, ha⟩
 refine gZ ?_
 refine t_if (fun e1 => ?_) (fun e1 => ?_)
 ·obtain ⟨x, a, hx, ha', e2⟩ := (hl.le IntE.grow le1.1).at (i := i) (by omega)
  unfold IntE at e2
  have hxr := hin x (List.mem_of_getElem? hx)
  have hin' : 0 ≤ (i : Int) ∧ (i : Int) < (n : Int) := by omega
  have hx8 : 0 ≤ x ∧ x < ((8 : Nat) : Int) := by omega
  refine gZ ?_
  refine t_storeA (j := x.toNat) (by rw [add_plain, add_plain]; simp) ha (by omega) fun h2 t2 a2 => ?_
  refine t_again (hY (n - (i + 1)) _ _ (by omega) ⟨t2.le le1 hr, i + 1, ?_, by omega, rfl, ?_⟩)
  ·rw [wrap_id (by omega) (by omega)]; rfl
  ·have : setA (setL (l.take i)) x.toNat true = setL (l.take (i + 1)) := by
    funext j
    unfold setA setL
    rw [List.take_add_one, hx]
    by_cases e : j = x.toNat
    ·subst e
     rw [if_pos rfl]
     have : ((x.toNat : Nat) : Int) = x := by omega
     simp [this]
    ·rw [if_neg e]
     have : ¬ (j : Int) = x := by omega
     simp [this]
   rw [← this]; exact a2
 ·have htake : l.take i = l := List.take_of_length_le (by omega)
  rw [htake] at ha
  have k0 := ha.cell (j := 0) (by decide)
  have k1 := ha.cell (j := 1) (by decide)
  have k2 := ha.cell (j := 2) (by decide)
  have k3 := ha.cell (j := 3) (by decide)
  have k4 := ha.cell (j := 4) (by decide)
  have k5 := ha.cell (j := 5) (by decide)
  have k6 := ha.cell (j := 6) (by decide)
  have k7 := ha.cell (j := 7) (by decide)
  refine gZ ?_
  exact t_ret ⟨le1, rfl⟩
theorem list_take {s : Te.Items} {i : Nat} (hi : i < 8) : ((List.range 8).take (i + 1)).filter s = ((List.range 8).take i).filter s ++ (if s i then [i] else []) := by
 rw [List.take_add_one, List.getElem?_range hi, List.filter_append]
 congr 1
 simp only [Option.toList_some, List.filter_cons, List.filter_nil]
theorem c3163 {h : LH} (s : Te.Items) : Gr Tryz.prog 109 #[boolsV s] h fun r h' => ∃ p n c, r = .slice p n c ∧ n ≤ c ∧ Sl IntE 1 h'.get p n (listT s) := by
 refine w3163 _ _ _ _ _ _ _ _ X0_ok ?_
 unfold n3163
 refine t_loop (fun mm vs h' => h.le h' ∧ ∃ (i : Nat) (p : Option Addr) (n c : Nat), vs = [.slice p n c, .int .i64 i] ∧ i ≤ 8 ∧ mm = 8 - i ∧ Growing IntEnc 3 1 h.get h'.get p n c ((((List.range 8).take i).filter s).map fun j : Nat => (j : Int)))
  ⟨LH.le_refl _, 0, none, 0, 0, rfl, Nat.zero_le _, rfl, Growing.nil⟩ ?_
 rintro Y mm vs h₁ hY ⟨hle, i, p, n, c, rfl, hi, rfl, g⟩
 refine gZ ?_
 refine t_if (fun e1 => ?_) (fun e1 => ?_)
 ·have hi8 : i < 8 := by omega
  have hst := list_take (s := s) hi8
  have hlen : (((List.range 8).take i).filter s).length ≤ 8 := Nat.le_trans (List.length_filter_le _ _) (by rw [List.length_take, List.length_range]; omega)
  have hng := g.count IntEnc.len (by omega)
  rw [List.length_map] at hng
  refine t_index (v := .bool (s i)) und1189 inf4 und4 agg4 hi8 ?_ ?_
  ·match i, hi8 with
   | 0, _ => rfl
   | 1, _ => rfl
   | 2, _ => rfl
   | 3, _ => rfl
   | 4, _ => rfl
   | 5, _ => rfl
   | 6, _ => rfl
   | 7, _ => rfl
  refine gZ ?_
  refine t_cond (fun b1 => ?_) (fun b1 => ?_)
  ·rw [if_pos b1] at hst
   refine t_pushI g hle (by omega) fun p' c' h₂ hle2 g2 => ?_
   refine gZ ?_
   refine t_again (hY (8 - (i + 1)) _ _ (by omega) ⟨hle2, i + 1, p', n + 1, c', ?_, by omega, rfl, by rw [hst, List.map_append]; exact g2⟩)
   rw [wrap_id (by omega) (by omega)]; rfl
  ·rw [if_neg (by rw [b1]; simp), List.append_nil] at hst
   refine t_again (hY (8 - (i + 1)) _ _ (by omega) ⟨hle, i + 1, p, n, c, ?_, by omega, rfl, by rw [hst]; exact g⟩)
   rw [wrap_id (by omega) (by omega)]; rfl
 ·refine gZ ?_
  have htake : ((List.range 8).take i) = List.range 8 := List.take_of_length_le (by simp; omega)
  rw [htake] at g
  have hlen : (listT s).length ≤ 8 := by unfold listT; rw [List.length_map]; exact Nat.le_trans (List.length_filter_le _ _) (by simp)
  have hng := g.count IntEnc.len (by omega)
  obtain ⟨_, o2, _⟩ := g.row
  have hcap : n ≤ c := by rcases o2.2 with ⟨_, e, e'⟩ | ⟨_, _, _, _, _, hc, _⟩ <;> omega
  exact t_ret ⟨hle, p, n, c, rfl, hcap, g.sl IntEnc.len (by omega) IntEnc.e (by show (listT s).length < _; omega)⟩
/-! ### The moves out of an edition -/
def mvPair (back : Bool) (m : GMv) : List Value := if back then [.int .i64 m.dst, .int .i64 m.src] else [.int .i64 m.src, .int .i64 m.dst]
def mvSel (back : Bool) (e : Int) (m : GMv) : Bool := if back then m.ed == e - 1 else m.ed == e
def mvL (back : Bool) (e : Int) (l : List GMv) : List (List Value) := (l.filter (mvSel back e)).map (mvPair back)
theorem mvL_cons (back : Bool) (e : Int) (m : GMv) (l : List GMv) : mvL back e (m :: l) = (if mvSel back e m then [mvPair back m] else []) ++ mvL back e l := by
 unfold mvL
 rw [List.filter_cons]
 split <;> rfl
theorem hands3209 {h₀ : LH} {f : TabC} {t : GTab} {z0 z1 : Addr} {e : Int} (he : IsI (e - 1)) (hz0 : h₀.get.cell? (Addr.add (Addr.add z0 0) 1) = some (.slice f.p1 f.n1 f.c1)) (hz1 : h₀.get.cell? z1 = some (.int .i64 e)) (hr : TabR h₀.get f t) :
  Hands X0 Tryz.prog (.func (.func 207) #[] #[.pointer (some z0), .pointer (some z1)]) h₀ (mvL false e t.moves) := by
 intro y J E _ _ hyield h hle hJ
 refine cv_fw X0_ok (by rfl) (?_ : FW X0 Tryz.prog 207 #[y, .pointer (some z0), .pointer (some z1)] h _)
 refine w3209 _ _ _ X0_ok ?_
 unfold n3209
 have hn := hr.moves.1
 have hb := hr.moves.2.1
 have y0 := Cells.cell?_le hle.1 hz0
 refine gZ ?_
 refine t_loop (fun mm vs h' => h₀.le h' ∧ ∃ (j cnt : Nat), vs = [.int .i64 j] ∧ j ≤ f.n1 ∧ mm = f.n1 - j ∧ J cnt h' ∧ cnt ≤ (mvL false e t.moves).length ∧ (mvL false e t.moves).drop cnt = mvL false e (t.moves.drop j)) (n := f.n1) ⟨hle, 0, 0, rfl, Nat.zero_le _, by omega, hJ, Nat.zero_le _, rfl⟩ ?_
 rintro Y mm vs h₁ hY ⟨le1, j, cnt, rfl, hj, rfl, hJ1, hcl, hdrop⟩
 refine gZ ?_
 refine t_if (fun e1 => ?_) (fun e1 => ?_)
 ·obtain ⟨m, a, hm, ha, g1, g2, g3⟩ := (hr.moves.le MvE.grow le1.1).at (i := j) (by omega)
  have hin : 0 ≤ (j : Int) ∧ (j : Int) < (f.n1 : Int) := by omega
  have w1 := Cells.cell?_le le1.1 hz1
  rw [drop_of hm, mvL_cons] at hdrop
  refine gZ ?_
  refine t_cond (fun b1 => ?_) (fun b1 => ?_)
  ·have hs : mvSel false e m = true := b1
   rw [if_pos hs] at hdrop
   have hget : (mvL false e t.moves)[cnt]? = some (mvPair false m) := by
    have : ((mvL false e t.moves).drop cnt)[0]? = some (mvPair false m) := by rw [hdrop]; rfl
    simpa using this
   have hlt : cnt < (mvL false e t.moves).length := (List.getElem?_eq_some_iff.1 hget).1
   have hcv := hyield cnt h₁ _ le1 hget hJ1
   refine t_callv hcv ?_
   rintro b h₂ ⟨le2, ⟨rfl, hJ2⟩ | ⟨rfl, hE⟩⟩
   ·refine gZ ?_
    refine t_cond (fun e => by cases e) (fun _ => ?_)
    refine t_again (hY (f.n1 - (j + 1)) _ _ (by omega) ⟨le2, j + 1, cnt + 1, ?_, by omega, rfl, hJ2, by omega, ?_⟩)
    ·rw [wrap_id (by omega) (by omega)]; rfl
    ·rw [← List.drop_drop, hdrop]; rfl
   ·refine gZ ?_
    refine t_cond (fun _ => ?_) (fun e => by cases e)
    refine gI ?_
    refine gZ ?_
    exact t_ret ⟨le2, .inr hE⟩
  ·have hs : mvSel false e m = false := b1
   rw [if_neg (by rw [hs]; simp), List.nil_append] at hdrop
   refine t_again (hY (f.n1 - (j + 1)) _ _ (by omega) ⟨le1, j + 1, cnt, ?_, by omega, rfl, hJ1, hcl, hdrop⟩)
   rw [wrap_id (by omega) (by omega)]; rfl
 ·refine gZ ?_
  refine t_ret ⟨le1, .inl ?_⟩
  rw [List.drop_eq_nil_of_le (by omega : t.moves.length ≤ j)] at hdrop
  have hd := congrArg List.length hdrop
  rw [List.length_drop] at hd
  have h0 : (mvL false e ([] : List GMv)).length = 0 := rfl
  have : cnt = (mvL false e t.moves).length := by omega
  rw [← this]; exact hJ1
theorem hands3210 {h₀ : LH} {f : TabC} {t : GTab} {z0 z1 : Addr} {e : Int} (he : IsI (e - 1)) (hz0 : h₀.get.cell? (Addr.add (Addr.add z0 0) 1) = some (.slice f.p1 f.n1 f.c1)) (hz1 : h₀.get.cell? z1 = some (.int .i64 e)) (hr : TabR h₀.get f t) :
  Hands X0 Tryz.prog (.func (.func 208) #[] #[.pointer (some z0), .pointer (some z1)]) h₀ (mvL true e t.moves) := by
 intro y J E _ _ hyield h hle hJ
 refine cv_fw X0_ok (by rfl) (?_ : FW X0 Tryz.prog 208 #[y, .pointer (some z0), .pointer (some z1)] h _)
 refine w3210 _ _ _ X0_ok ?_
 unfold n3210
 have hn := hr.moves.1
 have hb := hr.moves.2.1
 have y0 := Cells.cell?_le hle.1 hz0
 refine gZ ?_
 refine t_loop (fun mm vs h' => h₀.le h' ∧ ∃ (j cnt : Nat), vs = [.int .i64 j] ∧ j ≤ f.n1 ∧ mm = f.n1 - j ∧ J cnt h' ∧ cnt ≤ (mvL true e t.moves).length ∧ (mvL true e t.moves).drop cnt = mvL true e (t.moves.drop j)) (n := f.n1) ⟨hle, 0, 0, rfl, Nat.zero_le _, by omega, hJ, Nat.zero_le _, rfl⟩ ?_
 rintro Y mm vs h₁ hY ⟨le1, j, cnt, rfl, hj, rfl, hJ1, hcl, hdrop⟩
 refine gZ ?_
 refine t_if (fun e1 => ?_) (fun e1 => ?_)
 ·obtain ⟨m, a, hm, ha, g1, g2, g3⟩ := (hr.moves.le MvE.grow le1.1).at (i := j) (by omega)
  have hin : 0 ≤ (j : Int) ∧ (j : Int) < (f.n1 : Int) := by omega
  have w1 := Cells.cell?_le le1.1 hz1
  rw [drop_of hm, mvL_cons] at hdrop
  refine gZ ?_
  rw [wrap_id he.1 he.2]
  refine t_cond (fun b1 => ?_) (fun b1 => ?_)
  ·have hs : mvSel true e m = true := b1
   rw [if_pos hs] at hdrop
   have hget : (mvL true e t.moves)[cnt]? = some (mvPair true m) := by
    have : ((mvL true e t.moves).drop cnt)[0]? = some (mvPair true m) := by rw [hdrop]; rfl
    simpa using this
   have hlt : cnt < (mvL true e t.moves).length := (List.getElem?_eq_some_iff.1 hget).1
   have hcv := hyield cnt h₁ _ le1 hget hJ1
   refine t_callv hcv ?_
   rintro b h₂ ⟨le2, ⟨rfl, hJ2⟩ | ⟨rfl, hE⟩⟩
   ·refine gZ ?_
    refine t_cond (fun e => by cases e) (fun _ => ?_)
    refine t_again (hY (f.n1 - (j + 1)) _ _ (by omega) ⟨le2, j + 1, cnt + 1, ?_, by omega, rfl, hJ2, by omega, ?_⟩)
    ·rw [wrap_id (by omega) (by omega)]; rfl
    ·rw [← List.drop_drop, hdrop]; rfl
   ·refine gZ ?_
    refine t_cond (fun _ => ?_) (fun e => by cases e)
    refine gI ?_
    refine gZ ?_
    exact t_ret ⟨le2, .inr hE⟩
  ·have hs : mvSel true e m = false := b1
   rw [if_neg (by rw [hs]; simp), List.nil_append] at hdrop
   refine t_again (hY (f.n1 - (j + 1)) _ _ (by omega) ⟨le1, j + 1, cnt, ?_, by omega, rfl, hJ1, hcl, hdrop⟩)
   rw [wrap_id (by omega) (by omega)]; rfl
 ·refine gZ ?_
  refine t_ret ⟨le1, .inl ?_⟩
  rw [List.drop_eq_nil_of_le (by omega : t.moves.length ≤ j)] at hdrop
  have hd := congrArg List.length hdrop
  rw [List.length_drop] at hd
  have h0 : (mvL true e ([] : List GMv)).length = 0 := rfl
  have : cnt = (mvL true e t.moves).length := by omega
  rw [← this]; exact hJ1
theorem c3185 {h : LH} {f : TabC} {t : GTab} (hr : TabR h.get f t) {e : Int} (he : IsI (e - 1)) : Gr Tryz.prog 158 #[tabV f, .int .i64 e] h fun r h' => Hands X0 Tryz.prog r h' (mvL false e t.moves) := by
 refine w3185 _ _ _ _ _ _ _ _ _ _ X0_ok ?_
 unfold n3185
 refine t_new fun r hr0 => ?_
 refine t_new fun r1 hr1 => ?_
 have le1 := LH.upd_le (x := (true, .cells #[.slice f.p0 f.n0 f.c0, .slice f.p1 f.n1 f.c1, .slice f.p2 f.n2 f.c2] 133 (0, 0))) hr0
 have le2 := LH.le_trans le1 (LH.upd_le (x := (true, .cells #[.int .i64 e] 3 (0, 0))) hr1)
 refine t_ret ⟨le2, hands3209 he ?_ ?_ (hr.le le2.1)⟩
 ·rw [add_plain, add_plain]
  refine Cells.cell?_le (LH.upd_le hr1).1 (cell_upd rfl)
 ·exact cell_upd rfl
theorem c3186 {h : LH} {f : TabC} {t : GTab} (hr : TabR h.get f t) {e : Int} (he : IsI (e - 1)) : Gr Tryz.prog 159 #[tabV f, .int .i64 e] h fun r h' => Hands X0 Tryz.prog r h' (mvL true e t.moves) := by
 refine w3186 _ _ _ _ _ _ _ _ _ _ X0_ok ?_
 unfold n3186
 refine t_new fun r hr0 => ?_
 refine t_new fun r1 hr1 => ?_
 have le1 := LH.upd_le (x := (true, .cells #[.slice f.p0 f.n0 f.c0, .slice f.p1 f.n1 f.c1, .slice f.p2 f.n2 f.c2] 133 (0, 0))) hr0
 have le2 := LH.le_trans le1 (LH.upd_le (x := (true, .cells #[.int .i64 e] 3 (0, 0))) hr1)
 refine t_ret ⟨le2, hands3210 he ?_ ?_ (hr.le le2.1)⟩
 ·rw [add_plain, add_plain]
  refine Cells.cell?_le (LH.upd_le hr1).1 (cell_upd rfl)
 ·exact cell_upd rfl
end Go.Proofs.YtldamlcehbdkdaaGreatDoor
end
section
namespace Go.TM
open Go Go.Conc
variable {P : Program} {X : XP} {Q : Leaf → LH → Prop}
theorem none_of_le {h h' : LH} (hl : h.le h') {b : Nat} (hb : h'.get b = none) : h.get b = none := by
 cases hh : h.get b with
 | none => rfl
 | some y => rw [hl.1 b y hh] at hb; cases hb
theorem Arr8.ne {h : Cells} {r b : Nat} {el : TypeId} {s : Te.Items} (a : Arr8 h r el s) (hb : h b = none) : r ≠ b := by
 rintro rfl
 obtain ⟨cs, h1, _⟩ := a
 rw [h1] at hb; cases hb
theorem Arr8.congr {h : Cells} {r : Nat} {el : TypeId} {s t : Te.Items} (a : Arr8 h r el s) (hst : ∀ j, j < 8 → s j = t j) : Arr8 h r el t := by
 obtain ⟨cs, h1, h2, h3⟩ := a
 exact ⟨cs, h1, h2, fun j hj => by rw [h3 j hj, hst j hj]⟩
theorem t_newA {h : LH} {el : TypeId} (s : Te.Items) {k : Nat → T} (hk : ∀ r h', h.get r = none → h.le h' → Arr8 h'.get r el s → (k r).wp X P Q h') : (T.new el #[.bool (s 0), .bool (s 1), .bool (s 2), .bool (s 3), .bool (s 4), .bool (s 5), .bool (s 6), .bool (s 7)] k).wp X P Q h :=
 t_new fun r hr => hk r _ hr (LH.upd_le hr) (Arr8.new s)
namespace Te
def anyT (mv : List (Nat × Nat)) (f : Nat × Nat → Bool) : Items := fun y => mv.any fun m => m.2 == y && f m
theorem anyT_step {mv : List (Nat × Nat)} {f : Nat × Nat → Bool} {i : Nat} {m : Nat × Nat} (hm : mv[i]? = some m) : anyT (mv.take (i + 1)) f = setA (anyT (mv.take i) f) m.2 (anyT (mv.take i) f m.2 || f m) := by
 funext y
 unfold anyT setA
 rw [List.take_add_one, hm, List.any_append]
 simp only [Option.toList_some, List.any_cons, List.any_nil, Bool.or_false]
 by_cases e : y = m.2
 ·subst e; simp
 ·rw [if_neg e]
  have : (m.2 == y) = false := by simpa using fun h => e h.symm
  simp [this]
theorem sure_is (mv : List (Nat × Nat)) (s : Items) (y : Nat) : coverSure mv s y = (anyT mv (fun _ => true) y && !anyT mv (fun m => !s m.1) y) := by
 unfold coverSure anyT
 rw [List.not_any_eq_all_not]
 congr 1
 ·simp
 ·congr 1
  funext m
  cases h : m.2 == y <;> cases h2 : s m.1 <;> simp [bne, h, h2]
theorem cov_step (a b : Items) (i : Nat) : setA (fun y => a y && (decide (i ≤ y) || !b y)) i (a i && !b i) = fun y => a y && (decide (i + 1 ≤ y) || !b y) := by
 funext y
 unfold setA
 by_cases e : y = i
 ·subst e
  rw [if_pos rfl, show decide (y + 1 ≤ y) = false by rw [decide_eq_false_iff_not]; omega, Bool.false_or]
 ·rw [if_neg e]
  have : decide (i ≤ y) = decide (i + 1 ≤ y) := by
   rw [decide_eq_decide]; omega
  simp only [this]
end Te
end Go.TM
namespace Go.Proofs.YtldamlcehbdkdaaGreatDoor
open Go Go.TM Go.Proofs
attribute [local irreducible] T.wp CV FWK
set_option maxRecDepth 10000 in
theorem c3187 {h : LH} {v : Value} {mv : List (Nat × Nat)} (hH : Hands X0 Tryz.prog v h (mv.map fun m => [.int .i64 (m.1 : Int), .int .i64 (m.2 : Int)])) (h8 : ∀ m ∈ mv, m.1 < 8 ∧ m.2 < 8) (s c : Te.Items) :
  Gr Tryz.prog 160 #[v, boolsV s, boolsV c] h fun r _ => r = .tuple #[boolsV (Te.coverSure mv s), boolsV (Te.coverCan mv c)] := by
 refine w3187 _ _ _ _ _ _ _ _ _ _ _ _ _ _ _ _ _ X0_ok ?_
 unfold n3187
 refine t_newA s fun r g0 hr0 l0 a0 => ?_
 refine t_newA c fun r1 g1 hr1 l1 a1 => ?_
 refine t_newA (fun _ => false) fun r2 g2 hr2 l2 a2 => ?_
 refine t_newA (fun _ => false) fun r3 g3 hr3 l3 a3 => ?_
 refine t_newA (fun _ => false) fun r4 g4 hr4 l4 a4 => ?_
 have l12 := LH.le_trans l1 l2
 have l23 := LH.le_trans l2 l3
 have l34 := LH.le_trans l3 l4
 have l234 := LH.le_trans l2 l34
 have l1234 := LH.le_trans l1 l234
 have l01 := LH.le_trans l0 l1
 have l012 := LH.le_trans l01 l2
 have l0123 := LH.le_trans l012 l3
 have l01234 := LH.le_trans l0123 l4
 have n02 := (a0.le l1.1).ne hr2
 have n03 := (a0.le l12.1).ne hr3
 have n04 := (a0.le (LH.le_trans l12 l3).1).ne hr4
 have n12 := a1.ne hr2
 have n13 := (a1.le l2.1).ne hr3
 have n14 := (a1.le l23.1).ne hr4
 have n23 := a2.ne hr3
 have n24 := (a2.le l3.1).ne hr4
 have n34 := a3.ne hr4
 replace hr2 := none_of_le l01 hr2
 replace hr3 := none_of_le l012 hr3
 replace hr4 := none_of_le l0123 hr4
 refine t_each (h₀ := h) l01234 hH (fun i vs h' => vs = [] ∧ Arr8 h'.get r 183 s ∧ Arr8 h'.get r1 183 c ∧ Arr8 h'.get r2 183 (Te.anyT (mv.take i) fun _ => true) ∧ Arr8 h'.get r3 183 (Te.anyT (mv.take i) fun m => !s m.1) ∧ Arr8 h'.get r4 183 (Te.anyT (mv.take i) fun m => c m.1))
  ⟨rfl, a0.le l1234.1, a1.le l234.1, a2.le l34.1, a3.le l4.1, a4⟩ ?_ ?_
 ·rintro vs h' hle ⟨rfl, A, B, C, D, E⟩
  rw [List.length_map, List.take_length] at C D E
  refine gZ ?_
  refine t_loop (fun mm vs h' => h.le h' ∧ ∃ i : Nat, vs = [.int .i64 i] ∧ i ≤ 8 ∧ mm = 8 - i ∧ Arr8 h'.get r2 183 (fun y => Te.anyT mv (fun _ => true) y && (decide (i ≤ y) || !Te.anyT mv (fun m => !s m.1) y)) ∧ Arr8 h'.get r3 183 (Te.anyT mv fun m => !s m.1) ∧ Arr8 h'.get r4 183 (Te.anyT mv fun m => c m.1))
   ⟨hle, 0, rfl, by omega, rfl, C.congr fun j _ => by simp, D, E⟩ ?_
  rintro Y mm vs h1 hY ⟨le1, i, rfl, hi, rfl, C1, D1, E1⟩
  refine gZ ?_
  refine t_if (fun e1 => ?_) (fun e1 => ?_)
  ·have hi8 : i < 8 := by omega
   have hin : 0 ≤ (i : Int) ∧ (i : Int) < ((8 : Nat) : Int) := by omega
   have k1 : h1.get.cell? (Addr.add ⟨r2, 0, none⟩ (Int.toNat (i : Int) * 1)) = some (.bool (Te.anyT mv (fun _ => true) i)) := by
    rw [Int.toNat_natCast, Nat.mul_one]
    have := C1.cell hi8
    simpa using this
   have k2 : h1.get.cell? (Addr.add ⟨r3, 0, none⟩ (Int.toNat (i : Int) * 1)) = some (.bool (Te.anyT mv (fun m => !s m.1) i)) := by rw [Int.toNat_natCast, Nat.mul_one]; exact D1.cell hi8
   have next : ∀ h2, Turn1 r2 h1 h2 → Arr8 h2.get r2 183 (setA (fun y => Te.anyT mv (fun _ => true) y && (decide (i ≤ y) || !Te.anyT mv (fun m => !s m.1) y)) i (Te.anyT mv (fun _ => true) i && !Te.anyT mv (fun m => !s m.1) i)) → Y [.int .i64 (IntKind.wrap .i64 ((i : Int) + 1))] h2 := fun h2 t2 a2 => by
    rw [Te.cov_step] at a2
    refine hY (8 - (i + 1)) _ _ (by omega) ⟨t2.le le1 hr2, i + 1, ?_, by omega, rfl, a2, t2.arr n23.symm D1, t2.arr n24.symm E1⟩
    rw [wrap_id (by omega) (by omega)]; rfl
   refine gZ ?_
   refine t_cond (fun b1 => ?_) (fun b1 => ?_)
   ·refine gZ ?_
    refine t_storeA (j := i) (by rw [add_plain, add_plain]; simp) C1 hi8 fun h2 t2 a2 => ?_
    refine t_again (next h2 t2 ?_)
    rw [b1, Bool.true_and]; exact a2
   ·refine gZ ?_
    refine t_storeA (j := i) (by rw [add_plain, add_plain]; simp) C1 hi8 fun h2 t2 a2 => ?_
    refine t_again (next h2 t2 ?_)
    rw [b1, Bool.false_and]; exact a2
  ·have C2 : Arr8 h1.get r2 183 (Te.coverSure mv s) := C1.congr fun j hj => by
    rw [Te.sure_is]
    have : decide (i ≤ j) = false := by rw [decide_eq_false_iff_not]; omega
    rw [this, Bool.false_or]
   have E2 : Arr8 h1.get r4 183 (Te.coverCan mv c) := E1
   have k0 := C2.cell (j := 0) (by decide)
   have k1 := C2.cell (j := 1) (by decide)
   have k2 := C2.cell (j := 2) (by decide)
   have k3 := C2.cell (j := 3) (by decide)
   have k4 := C2.cell (j := 4) (by decide)
   have k5 := C2.cell (j := 5) (by decide)
   have k6 := C2.cell (j := 6) (by decide)
   have k7 := C2.cell (j := 7) (by decide)
   have m0 := E2.cell (j := 0) (by decide)
   have m1 := E2.cell (j := 1) (by decide)
   have m2 := E2.cell (j := 2) (by decide)
   have m3 := E2.cell (j := 3) (by decide)
   have m4 := E2.cell (j := 4) (by decide)
   have m5 := E2.cell (j := 5) (by decide)
   have m6 := E2.cell (j := 6) (by decide)
   have m7 := E2.cell (j := 7) (by decide)
   refine gZ ?_
   exact t_ret ⟨le1, rfl⟩
 ·rintro i xs vs h' hxs hle ⟨rfl, A, B, C, D, E⟩ Y hY
  rw [List.getElem?_map] at hxs
  obtain ⟨m, hm, rfl⟩ := Option.map_eq_some_iff.1 hxs
  obtain ⟨m1, m2⟩ := h8 m (List.mem_of_getElem? hm)
  have i1 : 0 ≤ (m.1 : Int) ∧ (m.1 : Int) < ((8 : Nat) : Int) := by omega
  have i2 : 0 ≤ (m.2 : Int) ∧ (m.2 : Int) < ((8 : Nat) : Int) := by omega
  refine gZ ?_
  refine t_storeA (j := m.2) (by rw [add_plain, add_plain]; simp) C m2 fun h2 t2 C2 => ?_
  have le2 := t2.le hle hr2
  have A2 := t2.arr n02 A
  have B2 := t2.arr n12 B
  have D2 := t2.arr n23.symm D
  have E2 := t2.arr n24.symm E
  replace C2 : Arr8 h2.get r2 183 (Te.anyT (mv.take (i + 1)) fun _ => true) := by
   rw [Te.anyT_step hm, Bool.or_true]; exact C2
  have d' : h2.get.cell? (Addr.add ⟨r3, 0, none⟩ (Int.toNat (m.2 : Int) * 1)) = some (.bool (Te.anyT (mv.take i) (fun m => !s m.1) m.2)) := by rw [Int.toNat_natCast, Nat.mul_one]; exact D2.cell m2
  refine gZ ?_
  refine t_cond (fun e1 => ?_) (fun e1 => ?_)
  ·refine gZ ?_
   refine t_storeA (j := m.2) (by rw [add_plain, add_plain]; simp) D2 m2 fun h3 t3 D3 => ?_
   have le3 := t3.le le2 hr3
   have A3 := t3.arr n03 A2
   have B3 := t3.arr n13 B2
   have C3 := t3.arr n23 C2
   have E3 := t3.arr n34.symm E2
   replace D3 : Arr8 h3.get r3 183 (Te.anyT (mv.take (i + 1)) fun m => !s m.1) := by
    rw [Te.anyT_step hm, e1, Bool.true_or]; exact D3
   have e' : h3.get.cell? (Addr.add ⟨r4, 0, none⟩ (Int.toNat (m.2 : Int) * 1)) = some (.bool (Te.anyT (mv.take i) (fun m => c m.1) m.2)) := by rw [Int.toNat_natCast, Nat.mul_one]; exact E3.cell m2
   refine gZ ?_
   refine t_cond (fun e2 => ?_) (fun e2 => ?_)
   ·refine gZ ?_
    refine t_storeA (j := m.2) (by rw [add_plain, add_plain]; simp) E3 m2 fun h4 t4 E4 => ?_
    refine t_againE (t4.le le3 hr4) (hY _ _ (t4.le le3 hr4) ⟨rfl, t4.arr n04 A3, t4.arr n14 B3, t4.arr n24 C3, t4.arr n34 D3, ?_⟩)
    rw [Te.anyT_step hm, e2, Bool.true_or]; exact E4
   ·have b' : h3.get.cell? (Addr.add ⟨r1, 0, none⟩ (Int.toNat (m.1 : Int) * 1)) = some (.bool (c m.1)) := by rw [Int.toNat_natCast, Nat.mul_one]; exact B3.cell m1
    refine gZ ?_
    refine t_storeA (j := m.2) (by rw [add_plain, add_plain]; simp) E3 m2 fun h4 t4 E4 => ?_
    refine t_againE (t4.le le3 hr4) (hY _ _ (t4.le le3 hr4) ⟨rfl, t4.arr n04 A3, t4.arr n14 B3, t4.arr n24 C3, t4.arr n34 D3, ?_⟩)
    rw [Te.anyT_step hm, e2, Bool.false_or]; exact E4
  ·have a' : h2.get.cell? (Addr.add ⟨r, 0, none⟩ (Int.toNat (m.1 : Int) * 1)) = some (.bool (s m.1)) := by rw [Int.toNat_natCast, Nat.mul_one]; exact A2.cell m1
   refine gZ ?_
   refine t_storeA (j := m.2) (by rw [add_plain, add_plain]; simp) D2 m2 fun h3 t3 D3 => ?_
   have le3 := t3.le le2 hr3
   have A3 := t3.arr n03 A2
   have B3 := t3.arr n13 B2
   have C3 := t3.arr n23 C2
   have E3 := t3.arr n34.symm E2
   replace D3 : Arr8 h3.get r3 183 (Te.anyT (mv.take (i + 1)) fun m => !s m.1) := by
    rw [Te.anyT_step hm, e1, Bool.false_or]; exact D3
   have e' : h3.get.cell? (Addr.add ⟨r4, 0, none⟩ (Int.toNat (m.2 : Int) * 1)) = some (.bool (Te.anyT (mv.take i) (fun m => c m.1) m.2)) := by rw [Int.toNat_natCast, Nat.mul_one]; exact E3.cell m2
   refine gZ ?_
   refine t_cond (fun e2 => ?_) (fun e2 => ?_)
   ·refine gZ ?_
    refine t_storeA (j := m.2) (by rw [add_plain, add_plain]; simp) E3 m2 fun h4 t4 E4 => ?_
    refine t_againE (t4.le le3 hr4) (hY _ _ (t4.le le3 hr4) ⟨rfl, t4.arr n04 A3, t4.arr n14 B3, t4.arr n24 C3, t4.arr n34 D3, ?_⟩)
    rw [Te.anyT_step hm, e2, Bool.true_or]; exact E4
   ·have b' : h3.get.cell? (Addr.add ⟨r1, 0, none⟩ (Int.toNat (m.1 : Int) * 1)) = some (.bool (c m.1)) := by rw [Int.toNat_natCast, Nat.mul_one]; exact B3.cell m1
    refine gZ ?_
    refine t_storeA (j := m.2) (by rw [add_plain, add_plain]; simp) E3 m2 fun h4 t4 E4 => ?_
    refine t_againE (t4.le le3 hr4) (hY _ _ (t4.le le3 hr4) ⟨rfl, t4.arr n04 A3, t4.arr n14 B3, t4.arr n24 C3, t4.arr n34 D3, ?_⟩)
    rw [Te.anyT_step hm, e2, Bool.false_or]; exact E4
end Go.Proofs.YtldamlcehbdkdaaGreatDoor
end
section
namespace Go.TM
open Go Go.Conc Go.Proofs.YtldamlcehbdkdaaGreatDoor
def gm (m : GMv) : Te.GMove := ⟨m.ed, m.src.toNat, m.dst.toNat⟩
theorem mvL_steps {l : List GMv} (h0 : ∀ m ∈ l, 0 ≤ m.src ∧ 0 ≤ m.dst) (back : Bool) (e : Int) : mvL back e l = (Te.stepsT (l.map gm) back e).map fun m => [.int .i64 (m.1 : Int), .int .i64 (m.2 : Int)] := by
 cases back
 ·unfold Te.stepsT
  simp only [Bool.false_eq_true, if_false]
  rw [List.filter_map, List.map_map, List.map_map]
  unfold mvL
  refine List.map_congr_left fun m hm => ?_
  have := h0 m (List.mem_filter.1 hm).1
  show [Value.int .i64 m.src, .int .i64 m.dst] = [.int .i64 (m.src.toNat : Int), .int .i64 (m.dst.toNat : Int)]
  rw [Int.toNat_of_nonneg this.1, Int.toNat_of_nonneg this.2]
 ·unfold Te.stepsT
  simp only [if_true]
  rw [List.filter_map, List.map_map, List.map_map]
  unfold mvL
  refine List.map_congr_left fun m hm => ?_
  have := h0 m (List.mem_filter.1 hm).1
  show [Value.int .i64 m.dst, .int .i64 m.src] = [.int .i64 (m.dst.toNat : Int), .int .i64 (m.src.toNat : Int)]
  rw [Int.toNat_of_nonneg this.1, Int.toNat_of_nonneg this.2]
theorem steps8 {l : List GMv} (h : ∀ m ∈ l, (0 ≤ m.src ∧ m.src < 8) ∧ 0 ≤ m.dst ∧ m.dst < 8) (back : Bool) (e : Int) : ∀ m ∈ Te.stepsT (l.map gm) back e, m.1 < 8 ∧ m.2 < 8 := by
 intro m hm
 cases back
 ·unfold Te.stepsT at hm
  simp only [Bool.false_eq_true, if_false, List.mem_map, List.mem_filter] at hm
  obtain ⟨_, ⟨⟨x, hx, rfl⟩, _⟩, rfl⟩ := hm
  have := h x hx
  show x.src.toNat < 8 ∧ x.dst.toNat < 8
  omega
 ·unfold Te.stepsT at hm
  simp only [if_true, List.mem_map, List.mem_filter] at hm
  obtain ⟨_, ⟨⟨x, hx, rfl⟩, _⟩, rfl⟩ := hm
  have := h x hx
  show x.dst.toNat < 8 ∧ x.src.toNat < 8
  omega
theorem TabOk.mv8 {t : GTab} (ok : TabOk t) : ∀ m ∈ t.moves, (0 ≤ m.src ∧ m.src < 8) ∧ 0 ≤ m.dst ∧ m.dst < 8 := fun m hm => by
 obtain ⟨⟨_, _, h3, h4⟩, _, _, h5, h6⟩ := ok.move m hm
 have := ok.items8 m.ed
 have := ok.items8 (m.ed + 1)
 omega
def coverAt (t : GTab) (a b : Int) (l : List Int) : Te.Items × Te.Items := Te.moveT (t.moves.map gm) (decide (b < a)) (b - a).natAbs a (setL l, setL l)
structure ListOk (t : GTab) (e : Int) (l : List Int) : Prop where
 item : ∀ v ∈ l, itemB t e v
 up : l.Pairwise (· < ·)
theorem ListOk.in8 {t : GTab} {e : Int} {l : List Int} (ok : TabOk t) (o : ListOk t e l) : ∀ v ∈ l, 0 ≤ v ∧ v < 8 := fun v hv => by
 obtain ⟨_, _, h3, h4⟩ := o.item v hv
 have := ok.items8 e
 omega
theorem pair_at {l : List Int} (h : l.Pairwise (· < ·)) {i j : Nat} {x y : Int} (hij : i < j) (hx : l[i]? = some x) (hy : l[j]? = some y) : x < y := by
 obtain ⟨hi, rfl⟩ := List.getElem?_eq_some_iff.1 hx
 obtain ⟨hj, rfl⟩ := List.getElem?_eq_some_iff.1 hy
 exact List.pairwise_iff_getElem.1 h i j hi hj hij
end Go.TM
namespace Go.Proofs.YtldamlcehbdkdaaGreatDoor
open Go Go.TM Go.Proofs
attribute [local irreducible] T.wp CV FWK
set_option maxRecDepth 10000 in
theorem c3162 {h : LH} {f : TabC} {t : GTab} (hr : TabR h.get f t) (ok : TabOk t) {a b : Int} (ha : 0 ≤ a ∧ a < (t.eds.length : Int)) (hb : 0 ≤ b ∧ b < (t.eds.length : Int)) {p : Option Addr} {n c : Nat} {l : List Int} (hl : Sl IntE 1 h.get p n l) (hin : ∀ v ∈ l, 0 ≤ v ∧ v < 8) :
  Gr Tryz.prog 108 #[tabV f, .int .i64 a, .int .i64 b, .slice p n c] h fun r _ => r = .tuple #[boolsV (coverAt t a b l).1, boolsV (coverAt t a b l).2] := by
 refine w3162 _ _ _ _ _ _ _ _ _ _ _ _ _ _ X0_ok ?_
 unfold n3162
 have hmany := ok.many
 refine t_gr (c3184 hl hin) ?_
 rintro _ h1 le1 rfl
 refine gZ ?_
 refine t_gr (c3184 (hl.le IntE.grow le1.1) hin) ?_
 rintro _ h2 le2 rfl
 have le02 := LH.le_trans le1 le2
 refine gZ ?_
 refine t_blk (fun vs h' => vs = [.func (.func (bif decide (b < a) then 159 else 158)) #[tabV f] #[], .int .i64 (bif decide (b < a) then -1 else 1)] ∧ h2 = h') ?_ ?_
 ·refine t_if (fun hb => ?_) (fun hb => ?_)
  ·refine t_again ⟨?_, rfl⟩
   rw [decide_eq_true hb]; rfl
  ·refine t_again ⟨?_, rfl⟩
   rw [decide_eq_false hb]; rfl
 rintro vs _ ⟨rfl, rfl⟩
 have hbk : ∀ back : Bool, back = decide (b < a) → (back = true → b < a) ∧ (back = false → a ≤ b) := fun back e => by
  subst e
  exact ⟨fun h => of_decide_eq_true h, fun h => by have := of_decide_eq_false h; omega⟩
 have hcov : coverAt t a b l = Te.moveT (t.moves.map gm) (decide (b < a)) (b - a).natAbs a (setL l, setL l) := rfl
 generalize hB : decide (b < a) = back at *
 have hdir := hbk back rfl
 refine gZ ?_
 refine t_loop (fun mm vs h' => h.le h' ∧ ∃ (k : Nat) (s c : Te.Items), vs = [.int .i64 (bif back then a - k else a + k), .bool (s 0), .bool (s 1), .bool (s 2), .bool (s 3), .bool (s 4), .bool (s 5), .bool (s 6), .bool (s 7), .bool (c 0), .bool (c 1), .bool (c 2), .bool (c 3), .bool (c 4), .bool (c 5), .bool (c 6), .bool (c 7)] ∧ k ≤ (b - a).natAbs ∧ mm = (b - a).natAbs - k ∧
   coverAt t a b l = Te.moveT (t.moves.map gm) back ((b - a).natAbs - k) (bif back then a - k else a + k) (s, c)) ⟨le02, 0, setL l, setL l, ?_, Nat.zero_le _, rfl, ?_⟩ ?_
 ·cases back <;> simp
 ·rw [hcov]; cases back <;> simp
 rintro Y mm vs h3 hY ⟨le3, k, s, c, rfl, hk, rfl, hc⟩
 refine gZ ?_
 refine t_cond (fun e1 => ?_) (fun e1 => ?_)
 ·have hlt : k < (b - a).natAbs := by
   have : (bif back then a - k else a + k) ≠ b := by simpa using e1
   cases back
   ·have := hdir.2 rfl
    simp only [cond_false] at *
    omega
   ·have := hdir.1 rfl
    simp only [cond_true] at *
    omega
  have run : CV X0 Tryz.prog (.func (.func (bif back then 159 else 158)) #[tabV f] #[]) #[.int .i64 (bif back then a - k else a + k)] h3 fun r h' => h3.le h' ∧ Hands X0 Tryz.prog r h' (mvL back (bif back then a - k else a + k) t.moves) := by
   cases back
   ·exact cv_fw X0_ok (by rfl) (c3185 (hr.le le3.1) ⟨by have := hdir.2 rfl; simp only [cond_false]; omega, by have := hdir.2 rfl; simp only [cond_false]; omega⟩)
   ·exact cv_fw X0_ok (by rfl) (c3186 (hr.le le3.1) ⟨by have := hdir.1 rfl; simp only [cond_true]; omega, by have := hdir.1 rfl; simp only [cond_true]; omega⟩)
  refine t_callv run ?_
  rintro r h4 ⟨le4, hh⟩
  rw [mvL_steps (fun m hm => ⟨(ok.mv8 m hm).1.1, (ok.mv8 m hm).2.1⟩)] at hh
  refine gZ ?_
  refine t_gr (c3187 hh (steps8 ok.mv8 _ _) s c) ?_
  rintro _ h5 le5 rfl
  refine gZ ?_
  refine t_again (hY ((b - a).natAbs - (k + 1)) _ _ (by omega) ⟨LH.le_trans le3 (LH.le_trans le4 le5), k + 1, Te.coverSure (Te.stepsT (t.moves.map gm) back (bif back then a - (k : Int) else a + (k : Int))) s, Te.coverCan (Te.stepsT (t.moves.map gm) back (bif back then a - (k : Int) else a + (k : Int))) c, ?_, by omega, rfl, ?_⟩)
  ·have : IntKind.wrap .i64 ((bif back then a - k else a + k) + (bif back then -1 else 1)) = (bif back then a - ((k + 1 : Nat) : Int) else a + ((k + 1 : Nat) : Int)) := by
    cases back
    ·have := hdir.2 rfl
     simp only [cond_false]
     rw [wrap_id (by omega) (by omega)]; omega
    ·have := hdir.1 rfl
     simp only [cond_true]
     rw [wrap_id (by omega) (by omega)]; omega
   rw [this]
  ·rw [hc, show (b - a).natAbs - k = ((b - a).natAbs - (k + 1)) + 1 by omega]
   have : (if back then (bif back then a - (k : Int) else a + k) - 1 else (bif back then a - (k : Int) else a + k) + 1) = (bif back then a - ((k + 1 : Nat) : Int) else a + ((k + 1 : Nat) : Int)) := by
    cases back
    ·simp only [cond_false, Bool.false_eq_true, if_false]; omega
    ·simp only [cond_true, if_true]; omega
   show Te.moveT _ _ _ (if back then _ else _) _ = _
   rw [this]
 ·have hkK : k = (b - a).natAbs := by
   have : (bif back then a - k else a + k) = b := by simpa using e1
   cases back
   ·have := hdir.2 rfl
    simp only [cond_false] at *
    omega
   ·have := hdir.1 rfl
    simp only [cond_true] at *
    omega
  rw [hkK, Nat.sub_self] at hc
  have hs : coverAt t a b l = (s, c) := hc
  refine gZ ?_
  refine t_ret ⟨le3, ?_⟩
  rw [hs]
theorem c3136 {h : LH} {f : TabC} {t : GTab} (hr : TabR h.get f t) {e : Int} {p : Option Addr} {n c : Nat} {l : List Int} (hl : Sl IntE 1 h.get p n l) (o : ListOk t e l) : Pu Tryz.prog 67 #[tabV f, .int .i64 e, .slice p n c] h (.int .i64 0) := by
 refine w3136 _ _ _ _ _ _ _ _ _ _ _ _ _ X0_ok ?_
 unfold n3136
 have hn := hl.1
 have hb := hl.2.1
 refine t_loop (fun mm vs h' => h = h' ∧ ∃ i : Nat, vs = [.int .i64 0, .int .i64 i] ∧ i ≤ n ∧ mm = n - i) ⟨rfl, 0, rfl, Nat.zero_le _, rfl⟩ ?_
 rintro Y mm vs _ hY ⟨rfl, i, rfl, hi, rfl⟩
 have next : Y [.int .i64 0, .int .i64 (IntKind.wrap .i64 ((i : Int) + 1))] h ∨ n ≤ i := by
  by_cases e : i < n
  ·refine .inl (hY (n - (i + 1)) _ _ (by omega) ⟨rfl, i + 1, ?_, by omega, rfl⟩)
   rw [wrap_id (by omega) (by omega)]; rfl
  ·exact .inr (by omega)
 refine gZ ?_
 refine t_if (fun e1 => ?_) (fun e1 => ?_)
 ·obtain ⟨x, a, hx, ha, e2⟩ := hl.at (i := i) (by omega)
  unfold IntE at e2
  have hin : 0 ≤ (i : Int) ∧ (i : Int) < (n : Int) := by omega
  have nxt := next.resolve_right (by omega)
  refine gZ ?_
  refine t_pu (c3168 hr _ _) ?_
  rw [item_is.2 (o.item x (List.mem_of_getElem? hx))]
  refine gZ ?_
  refine t_cond (fun e => by cases e) (fun _ => ?_)
  refine t_if (fun e3 => ?_) (fun e3 => ?_)
  ·obtain ⟨y, a', hy, ha', e4⟩ := hl.at (i := i - 1) (by omega)
   obtain rfl : a = a' := Option.some.inj (ha.symm.trans ha')
   unfold IntE at e4
   have hlt := pair_at o.up (by omega : i - 1 < i) hy hx
   have ew : IntKind.wrap .i64 ((i : Int) - 1) = ((i - 1 : Nat) : Int) := by rw [wrap_id (by omega) (by omega)]; omega
   have hin1 : 0 ≤ ((i - 1 : Nat) : Int) ∧ ((i - 1 : Nat) : Int) < (n : Int) := by omega
   rw [ew]
   refine gZ ?_
   refine t_if (fun e => by omega) (fun _ => ?_)
   exact t_again nxt
  ·exact t_again nxt
 ·refine gZ ?_
  exact t_ret ⟨rfl, rfl⟩
theorem flatBools (s : Te.Items) : FlatAgg Tryz.prog 183 [.bool (s 0), .bool (s 1), .bool (s 2), .bool (s 3), .bool (s 4), .bool (s 5), .bool (s 6), .bool (s 7)] := by
 obtain ⟨inf, hi, h1⟩ : ∃ inf, Tryz.prog.info? 4 = some inf ∧ inf.size = 1 := by
  have := inf4
  cases hh : Tryz.prog.info? 4 with
  | none => rw [hh] at this; cases this
  | some inf => rw [hh] at this; exact ⟨inf, rfl, by have := Option.some.inj this; exact (Prod.mk.inj this).1⟩
 refine .arr 8 4 inf und1189 hi h1 rfl fun v hv => ?_
 have hbas : ∀ b : Bool, isBas Tryz.prog 4 (.bool b) := fun b => by
  unfold isBas
  simp
 simp only [List.mem_cons, List.not_mem_nil, or_false] at hv
 rcases hv with rfl | rfl | rfl | rfl | rfl | rfl | rfl | rfl <;> exact hbas _
theorem egSet : Tryz.prog.eqGuardType Tryz.prog.depth 183 = false := by kernel_rfl
theorem listT_congr {s t : Te.Items} (h : ∀ j, j < 8 → s j = t j) : listT s = listT t := by
 unfold listT
 congr 1
 exact List.filter_congr fun j hj => h j (List.mem_range.1 hj)
set_option maxRecDepth 10000 in
theorem c3128 {h : LH} {f : TabC} {t : GTab} (hr : TabR h.get f t) (ok : TabOk t) {a b : Int} (ha : 0 ≤ a ∧ a < (t.eds.length : Int)) (hb : 0 ≤ b ∧ b < (t.eds.length : Int)) {p : Option Addr} {n c : Nat} {l : List Int} (hl : Sl IntE 1 h.get p n l) (o : ListOk t a l) :
  Gr Tryz.prog 46 #[tabV f, .int .i64 a, .int .i64 b, .slice p n c] h fun r h' => ∃ p1 n1 c1 p2 n2 c2, r = .tuple #[.slice p1 n1 c1, .slice p2 n2 c2, .int .i64 0] ∧ Sl IntE 1 h'.get p1 n1 (listT (coverAt t a b l).1) ∧ Sl IntE 1 h'.get p2 n2 (listT (coverAt t a b l).2) := by
 refine w3128 _ _ _ _ _ _ _ _ _ _ _ _ _ _ X0_ok ?_
 unfold n3128
 refine t_gr (c3160 hr ok) ?_
 rintro _ h1 le1 rfl
 have hr1 := hr.le le1.1
 have hl1 := hl.le IntE.grow le1.1
 refine gZ ?_
 refine t_cond (fun e => by cases e) (fun _ => ?_)
 refine t_blk (fun vs h' => vs = [.slice none 0 0, .slice none 0 0, .int .i64 0] ∧ h1 = h') ?_ ?_
 ·refine t_pu (c3161 hr1 _) ?_
  rw [in_iff.2 (show 0 ≤ a ∧ a ≤ (t.eds.length : Int) - 1 by omega)]
  refine gZ ?_
  refine t_cond (fun e => by cases e) (fun _ => ?_)
  refine t_pu (c3161 hr1 _) ?_
  rw [in_iff.2 (show 0 ≤ b ∧ b ≤ (t.eds.length : Int) - 1 by omega)]
  refine gZ ?_
  refine t_cond (fun e => by cases e) (fun _ => ?_)
  exact t_again ⟨rfl, rfl⟩
 rintro vs _ ⟨rfl, rfl⟩
 refine gZ ?_
 refine t_pu (c3136 hr1 hl1 o) ?_
 refine gZ ?_
 refine t_cond (fun e => by cases e) (fun _ => ?_)
 refine t_gr (c3162 hr1 ok ha hb hl1 (o.in8 ok)) ?_
 rintro _ h2 le2 rfl
 have le02 := LH.le_trans le1 le2
 refine gZ ?_
 refine t_eqK (flatBools _) (flatBools _) egSet fun cb hcb => ?_
 refine gZ ?_
 refine t_cond (fun b1 => ?_) (fun b1 => ?_)
 ·have heq := hcb.1 b1
  simp only [List.cons.injEq, Value.bool.injEq, and_true] at heq
  have hc : listT (coverAt t a b l).1 = listT (coverAt t a b l).2 := listT_congr fun j hj => by
   obtain ⟨e0, e1, e2, e3, e4, e5, e6, e7⟩ := heq
   match j, hj with
   | 0, _ => exact e0
   | 1, _ => exact e1
   | 2, _ => exact e2
   | 3, _ => exact e3
   | 4, _ => exact e4
   | 5, _ => exact e5
   | 6, _ => exact e6
   | 7, _ => exact e7
  refine t_gr (c3163 _) ?_
  rintro _ h3 le3 ⟨p1, n1, c1, rfl, _, s1⟩
  refine gZ ?_
  refine t_gr (c3163 _) ?_
  rintro _ h4 le4 ⟨p2, n2, c2, rfl, _, s2⟩
  refine gZ ?_
  exact t_ret ⟨LH.le_trans le02 (LH.le_trans le3 le4), _, _, _, _, _, _, rfl, s1.le IntE.grow le4.1, by rw [← hc]; exact s2⟩
 ·refine t_gr (c3163 _) ?_
  rintro _ h3 le3 ⟨p1, n1, c1, rfl, _, s1⟩
  refine gZ ?_
  refine t_gr (c3163 _) ?_
  rintro _ h4 le4 ⟨p2, n2, c2, rfl, _, s2⟩
  refine gZ ?_
  exact t_ret ⟨LH.le_trans le02 (LH.le_trans le3 le4), _, _, _, _, _, _, rfl, s1.le IntE.grow le4.1, s2⟩
end Go.Proofs.YtldamlcehbdkdaaGreatDoor
end
section
namespace Go.TM
open Go Go.Conc
section
variable {P : Program} {X : XP} {Q : Leaf → LH → Prop}
theorem t_sliceLow {h : LH} {K : Value → T} {t el : TypeId} {s b : Nat} {z : Option Value} {p : Option Addr} {n c i : Nat} (hu : P.underlying t = some (.slice el)) (hi : (P.info? el).map (fun i => (i.size, i.bytes, i.zero)) = some (s, b, z)) (hin : i ≤ n)
  (hk : (K (.slice (if c = i then p else p.map (·.add (i * s))) (n - i) (c - i))).wp X P Q h) : (T.sem false (Instr.sliceAt t (.slice p n c) (some (.int .i64 (i : Int))) none none) K).wp X P Q h := by
 obtain ⟨inf, g1, g2, _, _⟩ := info_of hi
 refine t_sem (A := fun v h' => v = .slice (if c = i then p else p.map (·.add (i * s))) (n - i) (c - i) ∧ h' = h.get) ?_ (by rintro v h' ⟨rfl, rfl⟩; exact hk)
 unfold Instr.sliceAt
 simp only [lwp_bind, lwp_underlying hu]
 unfold Instr.slice
 simp only [lwp_bind, lwp_underlying hu]
 unfold Instr.sliceBounds Instr.sliceBound
 simp only [lwp_bind, lwp_pure, asIntOf, asInt]
 rw [if_pos (show 0 ≤ (i : Int) ∧ (i : Int) ≤ (n : Int) by omega)]
 simp only [lwp_pure, lwp_sizeOf g1, Int.toNat_natCast, g2]
 exact ⟨trivial, trivial⟩
end
theorem Growing.base {α : Type} {Enc : α → List Value → Prop} {el : TypeId} {k : Nat} {h₀ h₁ h : Cells} {p : Option Addr} {n c : Nat} {l : List α} (g : Growing Enc el k h₀ h p n c l) (hb : ∀ r, h₀ r = none → h₁ r = none) : Growing Enc el k h₁ h p n c l := ⟨g.row, fun a ha => hb _ (g.new a ha)⟩
theorem IntE.told {h : Cells} : ToldE IntE IntEnc 1 h := by
 rintro a x h1
 refine ⟨_, rfl, rfl, fun j w hj => ?_, fun w hw => by simp at hw; subst hw; rfl⟩
 match j, hj with
 | 0, hj => cases hj; exact h1
 | j + 1, hj => simp at hj
section
variable {P : Program} {X : XP} {Q : Leaf → LH → Prop}
end
end Go.TM
end
section
namespace Go.Proofs.YtldamlcehbdkdaaGreatDoor
open Go Go.TM Go.Proofs
attribute [local irreducible] T.wp CV FWK
theorem t_sliceHigh {P : Program} {X : XP} {Q : Leaf → LH → Prop} {h : LH} {K : Value → T} {t el : TypeId} {s b : Nat} {z : Option Value} {p : Option Addr} {n c i : Nat} (hu : P.underlying t = some (.slice el)) (hi : (P.info? el).map (fun i => (i.size, i.bytes, i.zero)) = some (s, b, z)) (hin : i ≤ c)
  (hk : (K (.slice p i c)).wp X P Q h) : (T.sem false (Instr.sliceAt t (.slice p n c) none (some (.int .i64 (i : Int))) none) K).wp X P Q h := by
 obtain ⟨inf, g1, g2, _, _⟩ := info_of hi
 refine t_sem (A := fun v h' => v = .slice p i c ∧ h' = h.get) ?_ (by rintro v h' ⟨rfl, rfl⟩; exact hk)
 unfold Instr.sliceAt
 simp only [lwp_bind, lwp_underlying hu]
 unfold Instr.slice
 simp only [lwp_bind, lwp_underlying hu]
 unfold Instr.sliceBounds Instr.sliceBound
 simp only [lwp_bind, lwp_pure, asIntOf]
 rw [if_pos (show 0 ≤ (i : Int) ∧ (i : Int) ≤ (c : Int) by omega)]
 simp only [lwp_pure, lwp_sizeOf g1, Int.toNat_natCast, g2, Nat.zero_mul, Nat.sub_zero]
 have e : (p.map fun x : Addr => x.add 0) = p := by cases p <;> simp [Addr.add]
 rw [e]
 simp
end Go.Proofs.YtldamlcehbdkdaaGreatDoor
end

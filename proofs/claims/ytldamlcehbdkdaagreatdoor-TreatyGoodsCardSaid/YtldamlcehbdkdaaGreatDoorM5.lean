/- Contracts and laws for the proof, joined by a program. No condition. -/
import Derived.Test.YtldamlcehbdkdaaGreatDoorM4
set_option linter.all false
section
namespace Go.TM
open Go Go.Conc
section
variable {P : Program} {X : XP} {Q : Leaf → LH → Prop}
theorem zeroCells_int (n : Nat) : (Builtin.zeroCells #[Value.int .i64 0] n).toList = List.replicate n (.int .i64 0) := by
 unfold Builtin.zeroCells
 refine List.ext_getElem? fun i => ?_
 simp only [Array.toList_map, Array.toList_range, List.getElem?_map, List.getElem?_replicate]
 by_cases h : i < n
 ·rw [List.getElem?_range (by simpa using h), if_pos h]
  simp [Nat.mod_one]
 ·rw [List.getElem?_eq_none (by simp; omega), if_neg h]; rfl
theorem t_clear {h : LH} {K : Value → T} {t el eb ty : TypeId} {b r o n c : Nat} {cs : Array Value} (hu : P.underlying t = some (.slice el)) (hi : (P.info? el).map (fun i => (i.size, i.bytes, i.zero)) = some (1, b, some (.int .i64 0))) (hr : h.get r = some (true, .cells cs eb (0, 0))) (ho : o + n ≤ cs.size)
  (hk : ∀ h', Turn1 r h h' → h'.get r = some (true, .cells (setMany cs o (List.replicate n (.int .i64 0))) eb (0, 0)) → (K (.tuple #[])).wp X P Q h') : (T.sem false (Builtin.clear_ #[t] ty #[.slice (some ⟨r, o, none⟩) n c]) K).wp X P Q h := by
 obtain ⟨inf, g1, g2, g3, g4⟩ := info_of hi
 refine t_sem (A := fun v h' => v = .tuple #[] ∧ h' = h.get.upd r (true, .cells (setMany cs o (List.replicate n (.int .i64 0))) eb (0, 0))) ?_ (by
  rintro v h' ⟨rfl, rfl⟩
  refine hk _ ⟨fun b' hb => ?_, rfl, rfl, rfl⟩ (Cells.upd_self _ _ _)
  show h.get.upd r _ b' = _
  rw [Cells.upd_ne _ _ hb])
 unfold Builtin.clear_
 match n, ho with
 | 0, _ =>
  have e : h.get.upd r (true, .cells cs eb (0, 0)) = h.get := by
   funext b'
   by_cases hb : b' = r
   ·subst hb; rw [Cells.upd_self, hr]
   ·rw [Cells.upd_ne _ _ hb]
  show Sem.lwp P (underlying t >>= _) _ _ _
  rw [lwp_bind, lwp_underlying hu]
  show Sem.lwp P (pure (Value.tuple #[])) _ _ _
  rw [lwp_pure]
  exact ⟨rfl, e.symm⟩
 | n + 1, ho =>
  show Sem.lwp P (underlying t >>= _) _ _ _
  rw [lwp_bind, lwp_underlying hu]
  show Sem.lwp P (zeroValue el >>= _) _ _ _
  rw [lwp_bind, lwp_zeroValue g1 g4]
  rw [show Value.cells (.int .i64 0) = #[.int .i64 0] from rfl, zeroCells_int, lwp_bind]
  refine lwp_storeCells _ 0 _ r o cs eb hr (by rw [List.length_replicate]; omega) (fun v hv => ?_) ⟨rfl, rfl⟩
  rw [List.eq_of_mem_replicate hv]; rfl
end
theorem t_storeC {P : Program} {X : XP} {Q : Leaf → LH → Prop} {h : LH} {r j : Nat} {el : TypeId} {cs : Array Value} {a : Addr} {v : Value} {k : T} (ha : a = ⟨r, j, none⟩) (hr : h.get r = some (true, .cells cs el (0, 0))) (hj : j < cs.size) (one : isOne v = true)
  (hk : ∀ h', Turn1 r h h' → h'.get r = some (true, .cells (cs.setIfInBounds j v) el (0, 0)) → k.wp X P Q h') : (T.store a v k).wp X P Q h := by
 subst ha
 refine t_store (v₀ := cs[j]) one ⟨_, hr⟩ ?_ (by simp [Cells.frozen?, hr]) ?_
 ·unfold Cells.cell?
  simp [hr, hj]
 ·have hset : h.get.setCell ⟨r, j, none⟩ v = h.get.upd r (true, .cells (cs.setIfInBounds j v) el (0, 0)) := by
   funext b
   unfold Cells.setCell Cells.upd
   by_cases e : b = r
   ·subst e; simp [hr]
   ·simp [e]
  rw [hset]
  exact hk _ ⟨fun b hb => Cells.upd_ne _ _ hb, rfl, rfl, rfl⟩ (Cells.upd_self _ _ _)
def Keeps (p : Option Addr) (h h' : LH) : Prop := (∀ b, (∀ a, p = some a → a.block ≠ b) → h'.get b = h.get b) ∧ h'.chans = h.chans ∧ h'.pend = h.pend ∧ h'.todo = h.todo
theorem Keeps.refl (p : Option Addr) (h : LH) : Keeps p h h := ⟨fun _ _ => rfl, rfl, rfl, rfl⟩
theorem Turn1.refl (r : Nat) (h : LH) : Turn1 r h h := ⟨fun _ _ => rfl, rfl, rfl, rfl⟩
theorem Turn1.trans {r : Nat} {h h' h'' : LH} (a : Turn1 r h h') (b : Turn1 r h' h'') : Turn1 r h h'' :=
 ⟨fun x hx => (b.keep x hx).trans (a.keep x hx), b.rest.1.trans a.rest.1, b.rest.2.1.trans a.rest.2.1, b.rest.2.2.trans a.rest.2.2⟩
theorem Turn1.keeps {r : Nat} {h h' : LH} (t : Turn1 r h h') : Keeps (some ⟨r, 0, none⟩) h h' := ⟨fun b hb => t.keep b fun e => hb _ rfl e.symm, t.rest⟩
theorem Keeps.le {p : Option Addr} {h₀ h h' : LH} (k : Keeps p h h') (hl : h₀.le h) (hn : NewIn h₀.get p) : h₀.le h' :=
 ⟨fun b y hb => by
  rw [k.1 b fun a ha e => by have := hn a ha; rw [e, hb] at this; cases this]
  exact hl.1 b y hb, by rw [k.2.1]; exact hl.2.1, by rw [k.2.2.1]; exact hl.2.2.1, by rw [k.2.2.2]; exact hl.2.2.2⟩
theorem rows_ints : ∀ (l : List Int), Rows IntEnc (l.map (Value.int .i64)) l := by
 have : ∀ (k : Nat) (l : List Int), l.length = k → Rows IntEnc (l.map (Value.int .i64)) l := by
  intro k
  induction k with
  | zero => intro l h; rw [List.eq_nil_of_length_eq_zero h]; exact .nil
  | succ k ih =>
   intro l h
   have hne : l ≠ [] := by rintro rfl; simp at h
   rw [← List.dropLast_concat_getLast hne, List.map_append]
   exact .snoc (ih _ (by simp [h])) rfl
 exact fun l => this _ l rfl
theorem filter_take {α : Type} {f : α → Bool} {l : List α} {j : Nat} {x : α} (h : l[j]? = some x) : (l.take (j + 1)).filter f = (l.take j).filter f ++ (if f x then [x] else []) := by
 rw [List.take_add_one, h, List.filter_append]
 congr 1
 simp only [Option.toList_some, List.filter_cons, List.filter_nil]
end Go.TM
namespace Go.Proofs.YtldamlcehbdkdaaGreatDoor
open Go Go.TM Go.Proofs
attribute [local irreducible] T.wp CV FWK
theorem c3134 {h : LH} {p : Option Addr} {n c : Nat} {l : List Int} {fv : Value} {g : Int → Bool} (hl : Sl IntE 1 h.get p n l) (hf : ∀ x, CV X0 Tryz.prog fv #[.int .i64 x] h fun r h' => r = .bool (g x) ∧ h' = h) :
  FW X0 Tryz.prog 64 #[.slice p n c, fv] h fun r h' => h = h' ∧ ∃ i : Nat, i ≤ n ∧ (∀ (j : Nat) x, j < i → l[j]? = some x → g x = false) ∧ ((i = n ∧ r = .int .i64 (-1)) ∨ (i < n ∧ r = .int .i64 i ∧ ∃ x, l[i]? = some x ∧ g x = true)) := by
 refine w3134 _ _ _ _ X0_ok ?_
 unfold n3134
 have hn := hl.1
 have hb := hl.2.1
 refine t_loop (fun mm vs h' => h' = h ∧ ∃ i : Nat, vs = [.int .i64 0, .int .i64 i] ∧ i ≤ n ∧ mm = n - i ∧ ∀ (j : Nat) x, j < i → l[j]? = some x → g x = false) ⟨rfl, 0, rfl, Nat.zero_le _, rfl, fun j x hj => absurd hj (Nat.not_lt_zero _)⟩ ?_
 rintro Y mm vs _ hY ⟨rfl, i, rfl, hi, rfl, hall⟩
 refine gZ ?_
 refine t_if (fun e1 => ?_) (fun e1 => ?_)
 ·obtain ⟨x, a, hx, ha, e2⟩ := hl.at (i := i) (by omega)
  unfold IntE at e2
  have hin : 0 ≤ (i : Int) ∧ (i : Int) < (n : Int) := by omega
  refine gZ ?_
  refine t_callv (hf x) ?_
  rintro _ _ ⟨rfl, rfl⟩
  refine gZ ?_
  refine t_cond (fun b1 => ?_) (fun b1 => ?_)
  ·refine gI ?_
   refine gZ ?_
   exact t_ret ⟨rfl, i, hi, hall, .inr ⟨by omega, rfl, x, hx, b1⟩⟩
  ·refine t_again (hY (n - (i + 1)) _ _ (by omega) ⟨rfl, i + 1, ?_, by omega, rfl, fun j y hj hy => ?_⟩)
   ·rw [wrap_id (by omega) (by omega)]; rfl
   ·by_cases e : j = i
    ·subst e; rw [hx] at hy; cases hy; exact b1
    ·exact hall j y (by omega) hy
 ·refine gZ ?_
  exact t_ret ⟨rfl, n, Nat.le_refl _, fun j x hj hx => hall j x (by omega) hx, .inl ⟨rfl, rfl⟩⟩
theorem c3137 {h : LH} {p : Option Addr} {n c : Nat} {l : List Int} (hl : Sl IntE 1 h.get p n l) (h30 : l.length ≤ 2 ^ 29) : Gr Tryz.prog 68 #[.slice p n c] h fun r h' => ∃ p' c', r = .slice p' n c' ∧ Growing IntEnc 3 1 h.get h'.get p' n c' l := by
 refine w3137 _ _ _ X0_ok ?_
 unfold n3137
 have hn := hl.1
 refine t_eqNil und50 ?_
 refine gZ ?_
 refine t_cond (fun e1 => ?_) (fun e1 => ?_)
 ·have hp : p = none := by cases p with | none => rfl | some a => cases e1
  subst hp
  have h0 : l = [] := by
   cases l with
   | nil => rfl
   | cons x l =>
    obtain ⟨a, ha, _⟩ := hl.2.2 0 x rfl
    cases ha
  subst h0
  have hn0 : n = 0 := hn
  subst hn0
  exact t_ret ⟨LH.le_refl _, none, 0, rfl, Growing.nil⟩
 ·refine t_build0G (h₀ := h) (Enc := IntEnc) und50 inf3 (LH.le_refl _) fun r0 h1 hr0 le1 g1 => ?_
  refine gZ ?_
  refine t_copy (h₀ := h) rfl rfl und50 und50 inf3 rfl (by omega) (by omega) g1 le1 (hl.le IntE.grow le1.1) IntE.told fun p2 c2 h2 le2 _ g2 => ?_
  refine gZ ?_
  rw [List.nil_append, Nat.zero_add] at g2
  rw [Nat.zero_add]
  exact t_ret ⟨le2, p2, c2, rfl, g2⟩
set_option maxRecDepth 10000 in
theorem c3138 {h₀ h : LH} {p : Option Addr} {n c : Nat} {l : List Int} {fv : Value} {g : Int → Bool} (hle : h₀.le h) (gr : Growing IntEnc 3 1 h₀.get h.get p n c l) (h30 : l.length ≤ 2 ^ 29)
  (hf : ∀ h', Keeps p h h' → ∀ x, CV X0 Tryz.prog fv #[.int .i64 x] h' fun r h'' => r = .bool (g x) ∧ h'' = h') :
  FW X0 Tryz.prog 69 #[.slice p n c, fv] h fun r h' => ∃ n' c', r = .slice p n' c' ∧ Keeps p h h' ∧ Growing IntEnc 3 1 h₀.get h'.get p n' c' (l.filter fun x => !g x) := by
 refine w3138 _ _ _ _ X0_ok ?_
 unfold n3138
 have hl : Sl IntE 1 h.get p n l := gr.sl IntEnc.len (by omega) IntEnc.e (by omega)
 have hn := hl.1
 refine t_call (FW.top (c3134 hl (hf h (Keeps.refl _ _)))) ?_
 rintro _ _ ⟨rfl, i, hi, hall, ⟨hin, rfl⟩ | ⟨hin, rfl, x, hx, hgx⟩⟩
 ·refine gZ ?_
  refine t_cond (fun _ => ?_) (fun e => by cases e)
  have : l.filter (fun x => !g x) = l := List.filter_eq_self.2 fun x hx => by
   obtain ⟨j, hj⟩ := List.mem_iff_getElem?.1 hx
   rw [hall j x (by have := (List.getElem?_eq_some_iff.1 hj).1; omega) hj]; rfl
  exact t_ret ⟨n, c, rfl, Keeps.refl _ _, by rw [this]; exact gr⟩
 refine gZ ?_
 refine t_cond (fun e => absurd e (by simp)) (fun _ => ?_)
 obtain ⟨vs, ⟨hvl, hown⟩, rows⟩ := gr.row
 have new := gr.new
 rcases hown with ⟨rfl, hz, _⟩ | ⟨r, cs₀, rfl, hr, hcs, hnc, hv⟩
 ·omega
 have hr0 : h₀.get r = none := new _ rfl
 have hv' : ∀ (j : Nat) y, l[j]? = some y → cs₀[j]? = some (.int .i64 y) := fun j y hj => by
  obtain ⟨ws, e1, e2⟩ := rows.at IntEnc.len j y hj
  rw [e1] at e2
  have := e2 0 _ rfl
  rw [Nat.mul_one, Nat.add_zero] at this
  exact hv j _ this
 rw [wrap_id (by omega) (by omega)]
 have hpre : (l.take (i + 1)).filter (fun x => !g x) = l.take i := by
  rw [filter_take hx, hgx]
  simp only [Bool.not_true, Bool.false_eq_true, if_false, List.append_nil]
  refine List.filter_eq_self.2 fun y hy => ?_
  obtain ⟨j, hj⟩ := List.mem_iff_getElem?.1 hy
  rw [List.getElem?_take] at hj
  split at hj
  ·rename_i hji; rw [hall j y hji hj]; rfl
  ·cases hj
 refine t_loop (fun mm vs h' => ∃ (j : Nat) (cs : Array Value) (a : Nat), vs = [.int .i64 a, .int .i64 j] ∧ a < j ∧ j ≤ n ∧ mm = n - j ∧ Turn1 r h h' ∧ h'.get r = some (true, .cells cs 3 (0, 0)) ∧ cs.size = c * 1 ∧ a = ((l.take j).filter fun x => !g x).length ∧
   (∀ (k : Nat) y, ((l.take j).filter fun x => !g x)[k]? = some y → cs[k]? = some (.int .i64 y)) ∧ ∀ (k : Nat) y, j ≤ k → l[k]? = some y → cs[k]? = some (.int .i64 y))
  ⟨i + 1, cs₀, i, by simp, by omega, by omega, rfl, Turn1.refl _ _, hr, hcs, by rw [hpre, List.length_take]; omega, fun k y hk => ?_, fun k y _ hk => hv' k y hk⟩ ?_
 ·rw [hpre, List.getElem?_take] at hk
  split at hk
  ·exact hv' k y hk
  ·cases hk
 rintro Y mm vs h1 hY ⟨j, cs, a, rfl, haj, hj, rfl, t1, hr1, hs1, hal, hlow, hhigh⟩
 have ks : Keeps (some ⟨r, 0, none⟩) h h1 := t1.keeps
 refine gZ ?_
 refine t_if (fun e1 => ?_) (fun e1 => ?_)
 ·have hjn : 0 ≤ (j : Int) ∧ (j : Int) < (n : Int) := by omega
  have hlj : j < l.length := by omega
  obtain ⟨y, hy⟩ : ∃ y, l[j]? = some y := ⟨l[j], List.getElem?_eq_getElem hlj⟩
  have hcell : h1.get.cell? (Addr.add ⟨r, 0, none⟩ (Int.toNat (j : Int) * 1)) = some (.int .i64 y) := by
   rw [Int.toNat_natCast, Nat.mul_one, add_plain, Nat.zero_add]
   unfold Cells.cell?
   rw [hr1]
   exact hhigh j y (Nat.le_refl _) hy
  have hft := filter_take (f := fun x => !g x) hy
  refine gZ ?_
  refine t_callv (hf h1 ks y) ?_
  rintro _ h1' ⟨rfl, hh⟩
  obtain rfl : h1 = h1' := hh.symm
  refine gZ ?_
  refine t_cond (fun b1 => ?_) (fun b1 => ?_)
  ·have han : 0 ≤ (a : Int) ∧ (a : Int) < (n : Int) := by omega
   refine gZ ?_
   have hac : a < cs.size := by omega
   refine t_storeC (r := r) (j := a) (by rw [add_plain, add_plain]; simp) hr1 hac rfl fun h2 t2 e2 => ?_
   ·rw [b1, if_pos rfl] at hft
    refine t_again (hY (n - (j + 1)) _ _ (by omega) ⟨j + 1, cs.setIfInBounds a (.int .i64 y), a + 1, ?_, by omega, by omega, rfl, t1.trans t2, e2, by simpa using hs1, by rw [hft, List.length_append, ← hal]; rfl, fun k z hk => ?_, fun k z hk hz => ?_⟩)
    ·rw [wrap_id (by omega) (by omega), wrap_id (by omega) (by omega)]; rfl
    ·rw [hft] at hk
     by_cases e : k = a
     ·subst e
      rw [hal, List.getElem?_append_right (Nat.le_refl _), Nat.sub_self] at hk
      cases hk
      rw [Array.getElem?_setIfInBounds_self, if_pos hac]
     ·rw [Array.getElem?_setIfInBounds_ne (Ne.symm e)]
      have hlt : k < ((l.take j).filter fun x => !g x).length := by
       have := (List.getElem?_eq_some_iff.1 hk).1
       rw [List.length_append, ← hal] at this
       rw [← hal]
       simp at this
       omega
      rw [List.getElem?_append_left hlt] at hk
      exact hlow k z hk
    ·rw [Array.getElem?_setIfInBounds_ne (by omega)]
     exact hhigh k z (by omega) hz
  ·rw [b1, if_neg (by simp), List.append_nil] at hft
   refine t_again (hY (n - (j + 1)) _ _ (by omega) ⟨j + 1, cs, a, ?_, by omega, by omega, rfl, t1, hr1, hs1, by rw [hft]; exact hal, fun k z hk => hlow k z (by rw [hft] at hk; exact hk), fun k z hk hz => hhigh k z (by omega) hz⟩)
   rw [wrap_id (by omega) (by omega)]; rfl
 ·have hjn : j = n := by omega
  have htake : l.take j = l := List.take_of_length_le (by omega)
  rw [htake] at hal hlow
  have han : a ≤ n := by omega
  refine gZ ?_
  refine t_sliceLow und50 inf3 han ?_
  refine gZ ?_
  have fin : ∀ h2, Turn1 r h1 h2 → (∃ cs', h2.get r = some (true, .cells cs' 3 (0, 0)) ∧ cs'.size = c * 1 ∧ ∀ k, k < a → cs'[k]? = cs[k]?) → (T.sem false (Instr.sliceAt 30 (.slice (some ⟨r, 0, none⟩) n c) none (some (.int .i64 (a : Int))) none) fun w => T.unS w fun a n c => T.leaf (.ret (.slice a n c))).wp X0 Tryz.prog (retQ fun w h' => ∃ n' c', w = .slice (some ⟨r, 0, none⟩) n' c' ∧ Keeps (some ⟨r, 0, none⟩) h h' ∧ Growing IntEnc 3 1 h₀.get h'.get (some ⟨r, 0, none⟩) n' c' (l.filter fun x => !g x)) h2 := fun h2 t2 ⟨cs', e2, e3, e4⟩ => by
   refine t_sliceHigh und50 inf3 (by omega) ?_
   refine gZ ?_
   refine t_ret ⟨a, c, rfl, (t1.trans t2).keeps, ⟨(l.filter fun x => !g x).map (Value.int .i64), ⟨by rw [List.length_map, ← hal, Nat.mul_one], .inr ⟨r, cs', rfl, e2, e3, by omega, fun k w hk => ?_⟩⟩, rows_ints _⟩, new⟩
   rw [List.getElem?_map] at hk
   obtain ⟨z, hz, rfl⟩ := Option.map_eq_some_iff.1 hk
   rw [e4 k (by have := (List.getElem?_eq_some_iff.1 hz).1; omega)]
   exact hlow k z hz
  have hcl : ∀ (q : Option Addr), (n - a ≠ 0 → q = some ⟨r, a, none⟩) → (T.sem false (Builtin.clear_ #[30] 0 #[.slice q (n - a) (c - a)]) fun _ => T.sem false (Instr.sliceAt 30 (.slice (some ⟨r, 0, none⟩) n c) none (some (.int .i64 (a : Int))) none) fun w => T.unS w fun a n c => T.leaf (.ret (.slice a n c))).wp X0 Tryz.prog (retQ fun w h' => ∃ n' c', w = .slice (some ⟨r, 0, none⟩) n' c' ∧ Keeps (some ⟨r, 0, none⟩) h h' ∧ Growing IntEnc 3 1 h₀.get h'.get (some ⟨r, 0, none⟩) n' c' (l.filter fun x => !g x)) h1 := fun q hq => by
   have hna : n - a ≠ 0 := by omega
   rw [hq hna]
   refine t_clear und50 inf3 hr1 (by omega) fun h2 t2 e2 => ?_
   refine fin h2 t2 ⟨setMany cs a (List.replicate (n - a) (.int .i64 0)), e2, by rw [size_setMany]; exact hs1, fun k hk => ?_⟩
   rw [get_setMany _ _ _ (by rw [List.length_replicate]; omega), if_neg (by omega)]
  refine hcl _ fun _ => ?_
  rw [if_neg (by omega)]
  show some (Addr.add _ _) = _
  rw [add_plain]; simp
end Go.Proofs.YtldamlcehbdkdaaGreatDoor
end
section
namespace Go.TM
open Go Go.Conc
def LstE (h : Cells) (a : Addr) (l : List Int) : Prop := ∃ q n c, h.cell? a = some (.slice q n c) ∧ Sl IntE 1 h q n l
theorem LstE.grow : Grow LstE := fun _ _ _ _ hl ⟨q, n, c, h1, h2⟩ => ⟨q, n, c, hl _ _ h1, h2.rd IntE.grow hl⟩
def CutE (h : Cells) (a : Addr) (l : List Int) : Prop := ∃ q n c, h.cell? (a.add 0) = some (.slice q n c) ∧ h.cell? (a.add 1) = some (.bool false) ∧ Sl IntE 1 h q n l
theorem CutE.grow : Grow CutE := fun _ _ _ _ hl ⟨q, n, c, h1, h2, h3⟩ => ⟨q, n, c, hl _ _ h1, hl _ _ h2, h3.rd IntE.grow hl⟩
theorem sorted_len : ∀ (l : List Int) (k : Int), l.Pairwise (· < ·) → (∀ v ∈ l, k ≤ v ∧ v < 8) → (l.length : Int) ≤ max 0 (8 - k) := by
 intro l
 induction l with
 | nil => intro k _ _; simp; omega
 | cons x l ih =>
  intro k hp hv
  obtain ⟨h1, h2⟩ := List.pairwise_cons.1 hp
  have hx := hv x (by simp)
  have := ih (x + 1) h2 fun v hm => ⟨by have := h1 v hm; omega, (hv v (by simp [hm])).2⟩
  simp only [List.length_cons]
  omega
theorem ListOk.len8 {t : GTab} {e : Int} {l : List Int} (ok : TabOk t) (o : ListOk t e l) : l.length ≤ 8 := by
 have := sorted_len l 0 o.up (o.in8 ok)
 omega
def cutsT (l : List Int) (cs : List (List Int)) : List Int := cs.foldl Te.cutT l
theorem cutsT_step {l : List Int} {cs : List (List Int)} {i : Nat} {s : List Int} (h : cs[i]? = some s) : cutsT l (cs.take (i + 1)) = Te.cutT (cutsT l (cs.take i)) s := by
 unfold cutsT
 rw [List.take_add_one, h, List.foldl_append]; rfl
theorem cutsT_len (cs : List (List Int)) : ∀ l : List Int, (cutsT l cs).length ≤ l.length := by
 unfold cutsT
 induction cs with
 | nil => intro l; exact Nat.le_refl _
 | cons s cs ih => intro l; exact Nat.le_trans (ih _) (List.length_filter_le _ _)
theorem sl_two {h : Cells} {r : Nat} {m : Bool} {el : TypeId} {p q : Option Addr} {n c k d : Nat} {a b : List Int} (hr : h r = some (m, .cells #[.slice p n c, .slice q k d] el (0, 0))) (ha : Sl IntE 1 h p n a) (hb : Sl IntE 1 h q k b) : Sl LstE 1 h (some ⟨r, 0, none⟩) 2 [a, b] := by
 refine ⟨rfl, by simp, fun i x hx => ⟨_, rfl, ?_⟩⟩
 match i, hx with
 | 0, hx => cases hx; exact ⟨p, n, c, by rw [add_plain]; unfold Cells.cell?; rw [hr]; rfl, ha⟩
 | 1, hx => cases hx; exact ⟨q, k, d, by rw [add_plain]; unfold Cells.cell?; rw [hr]; rfl, hb⟩
theorem sl_one {h : Cells} {r : Nat} {m : Bool} {el : TypeId} {p : Option Addr} {n c : Nat} {a : List Int} (hr : h r = some (m, .cells #[.slice p n c] el (0, 0))) (ha : Sl IntE 1 h p n a) : Sl LstE 1 h (some ⟨r, 0, none⟩) 1 [a] := by
 refine ⟨rfl, by simp, fun i x hx => ⟨_, rfl, ?_⟩⟩
 match i, hx with
 | 0, hx => cases hx; exact ⟨p, n, c, by rw [add_plain]; unfold Cells.cell?; rw [hr]; rfl, ha⟩
end Go.TM
namespace Go.Proofs.YtldamlcehbdkdaaGreatDoor
open Go Go.TM Go.Proofs
attribute [local irreducible] T.wp CV FWK
theorem infL : (Tryz.prog.info? 30).map (fun i => (i.size, i.bytes, i.zero)) = some (1, 24, some (.slice none 0 0)) := by kernel_rfl
theorem c3133 {h : LH} {f : TabC} {t : GTab} (hr : TabR h.get f t) (ok : TabOk t) {e : Int} (he : 0 ≤ e ∧ e < (t.eds.length : Int)) {p : Option Addr} {n c : Nat} {ls : List (List Int)} (hl : Sl LstE 1 h.get p n ls) (ho : ∀ l ∈ ls, ListOk t e l) :
  Gr Tryz.prog 63 #[tabV f, .int .i64 e, .slice p n c] h fun r _ => r = .tuple #[tabV f, .int .i64 0] := by
 refine w3133 _ _ _ _ _ _ _ _ _ _ _ _ _ X0_ok ?_
 unfold n3133
 refine t_gr (c3160 hr ok) ?_
 rintro _ h1 le1 rfl
 have hr1 := hr.le le1.1
 have hl1 := hl.le LstE.grow le1.1
 have hn := hl1.1
 have hb := hl1.2.1
 refine gZ ?_
 refine t_cond (fun e => by cases e) (fun _ => ?_)
 refine t_pu (c3161 hr1 _) ?_
 rw [in_iff.2 (show 0 ≤ e ∧ e ≤ (t.eds.length : Int) - 1 by omega)]
 refine gZ ?_
 refine t_cond (fun e => by cases e) (fun _ => ?_)
 refine t_loop (fun mm vs h' => h' = h1 ∧ ∃ i : Nat, vs = [.int .i64 0, .int .i64 i, .slice none 0 0, .slice none 0 0, .slice none 0 0] ∧ i ≤ n ∧ mm = n - i) ⟨rfl, 0, rfl, Nat.zero_le _, rfl⟩ ?_
 rintro Y mm vs _ hY ⟨rfl, i, rfl, hi, rfl⟩
 refine gZ ?_
 refine t_if (fun e1 => ?_) (fun e1 => ?_)
 ·obtain ⟨l, a, hx, ha, q, k, d, e2, e3⟩ := hl1.at (i := i) (by omega)
  have hin : 0 ≤ (i : Int) ∧ (i : Int) < (n : Int) := by omega
  refine gZ ?_
  refine t_pu (c3136 hr1 e3 (ho l (List.mem_of_getElem? hx))) ?_
  refine gZ ?_
  refine t_cond (fun e => by cases e) (fun _ => ?_)
  refine t_again (hY (n - (i + 1)) _ _ (by omega) ⟨rfl, i + 1, ?_, by omega, rfl⟩)
  rw [wrap_id (by omega) (by omega)]; rfl
 ·refine gZ ?_
  exact t_ret ⟨le1, rfl⟩
theorem c3135 {h : LH} {z0 : Addr} {p : Option Addr} {n c : Nat} {l : List Int} (hz : h.get.cell? z0 = some (.slice p n c)) (hl : Sl IntE 1 h.get p n l) (x : Int) : Pu Tryz.prog 65 #[.int .i64 x, .pointer (some z0)] h (.bool (!l.contains x)) := by
 refine w3135 _ _ X0_ok ?_
 unfold n3135
 refine gZ ?_
 refine t_pu (c100 hl x) ?_
 refine gZ ?_
 exact t_ret ⟨rfl, rfl⟩
theorem c3139 {h : LH} {z0 : Addr} {p : Option Addr} {n c : Nat} {l : List Int} (hz : h.get.cell? (z0.add 0) = some (.slice p n c)) (hz1 : h.get.cell? (z0.add 1) = some (.bool false)) (hl : Sl IntE 1 h.get p n l) (x : Int) : Pu Tryz.prog 70 #[.int .i64 x, .pointer (some z0)] h (.bool (l.contains x)) := by
 refine w3139 _ _ X0_ok ?_
 unfold n3139
 refine gZ ?_
 refine t_pu (c100 hl x) ?_
 refine gZ ?_
 refine t_ret ⟨?_, rfl⟩
 cases l.contains x <;> rfl
theorem c3113 {h : LH} {f : TabC} {t : GTab} (hr : TabR h.get f t) (ok : TabOk t) {e : Int} (he : 0 ≤ e ∧ e < (t.eds.length : Int)) {p q : Option Addr} {n c m d : Nat} {old now : List Int} (hl : Sl IntE 1 h.get p n old) (ho : ListOk t e old) (hl' : Sl IntE 1 h.get q m now) (ho' : ListOk t e now) (hsub : ∀ v ∈ now, v ∈ old) :
  Gr Tryz.prog 19 #[tabV f, .int .i64 e, .slice p n c, .slice q m d] h fun r _ => r = .tuple #[.int .i64 (-1), .int .i64 0] := by
 refine w3113 _ _ _ _ _ _ _ _ _ _ _ _ _ _ _ _ X0_ok ?_
 unfold n3113
 refine t_new fun r hr0 => ?_
 have le1 : h.le { h with get := h.get.upd r (true, .cells #[.slice p n c] 30 (0, 0)) } := LH.upd_le hr0
 generalize hh1 : ({ h with get := h.get.upd r (true, .cells #[.slice p n c] 30 (0, 0)) } : LH) = h1 at *
 have y0 : h1.get.cell? ⟨r, 0, none⟩ = some (.slice p n c) := by rw [← hh1]; exact cell_upd rfl
 refine gZ ?_
 refine t_buildG und106 infL (by decide) (by decide) (cells := #[.slice p n c, .slice q m d]) (by kernel_rfl) fun r2 h2 le2 _ e2 => ?_
 have le02 := LH.le_trans le1 le2
 refine gZ ?_
 refine t_gr (c3133 (hr.le le02.1) ok he (sl_two e2 (hl.le IntE.grow le02.1) (hl'.le IntE.grow le02.1)) fun l hm => ?_) ?_
 ·simp only [List.mem_cons, List.not_mem_nil, or_false] at hm
  rcases hm with rfl | rfl
  ·exact ho
  ·exact ho'
 rintro _ h3 le3 rfl
 have le13 := LH.le_trans le2 le3
 have le03 := LH.le_trans le1 le13
 unfold tabV
 refine gZ ?_
 refine t_cond (fun e => by cases e) (fun _ => ?_)
 refine t_call (FW.top (c3134 (g := fun x => !old.contains x) (hl'.le IntE.grow le03.1) fun x => cv_fw X0_ok (by rfl) (c3135 (Cells.cell?_le le13.1 y0) (hl.le IntE.grow le03.1) x))) ?_
 rintro _ _ ⟨rfl, i, hi, hall, ⟨_, rfl⟩ | ⟨hin, rfl, x, hx, hg⟩⟩
 ·refine gZ ?_
  refine t_if (fun e => by omega) (fun _ => ?_)
  exact t_ret ⟨le03, rfl⟩
 ·exfalso
  have := hsub x (List.mem_of_getElem? hx)
  simp at hg
  exact hg this
theorem cut_type {h : LH} {r : Nat} (hr : h.get r = none) {k : T} {Q : Leaf → LH → Prop} {p : Option Addr} {n c : Nat} {el : TypeId}
  (hk : ∀ h', h.le h' → h'.get.cell? (Addr.add ⟨r, 0, none⟩ 0) = some (.slice p n c) → h'.get.cell? (Addr.add ⟨r, 0, none⟩ 1) = some (.bool false) → k.wp X0 Tryz.prog Q h') :
  (T.store (Addr.add { block := r, off := 0 } 0) (.slice p n c) (T.store (Addr.add { block := r, off := 0 } 1) (.bool false) k)).wp X0 Tryz.prog Q { h with get := h.get.upd r (true, .cells #[.slice none 0 0, .bool false] el (0, 0)) } := by
 refine t_storeC (j := 0) (by rw [add_plain]) (Cells.upd_self _ _ _) (by simp) rfl fun h1 t1 e1 => ?_
 refine t_storeC (j := 1) (by rw [add_plain]) e1 (by simp) rfl fun h2 t2 e2 => ?_
 refine hk h2 ((t1.trans t2).le (LH.upd_le hr) hr) ?_ ?_
 ·rw [add_plain]; unfold Cells.cell?; rw [e2]; rfl
 ·rw [add_plain]; unfold Cells.cell?; rw [e2]; rfl
set_option maxRecDepth 10000 in
theorem c3114 {h : LH} {f : TabC} {t : GTab} (hr : TabR h.get f t) (ok : TabOk t) {e : Int} (he : 0 ≤ e ∧ e < (t.eds.length : Int)) {p q : Option Addr} {n c m d : Nat} {l : List Int} {cs : List (List Int)} (hl : Sl IntE 1 h.get p n l) (ho : ListOk t e l) (hc : Sl CutE 2 h.get q m cs) (h4 : cs.length ≤ 4) (hco : ∀ s ∈ cs, ListOk t e s) :
  Gr Tryz.prog 21 #[tabV f, .int .i64 e, .slice p n c, .slice q m d] h fun r h' => ∃ p' n' c', r = .tuple #[.slice p' n' c', .int .i64 0] ∧ Sl IntE 1 h'.get p' n' (cutsT l cs) := by
 refine w3114 _ _ _ _ _ _ _ _ _ _ _ _ _ _ _ _ X0_ok ?_
 unfold n3114
 have hcn := hc.1
 have h8 := ho.len8 ok
 refine t_buildG und106 infL (by decide) (by decide) (cells := #[.slice p n c]) (by kernel_rfl) fun r2 h1 le1 _ e2 => ?_
 refine gZ ?_
 refine t_gr (c3133 (hr.le le1.1) ok he (sl_one e2 (hl.le IntE.grow le1.1)) fun l' hm => ?_) ?_
 ·simp only [List.mem_cons, List.not_mem_nil, or_false] at hm
  subst hm; exact ho
 rintro _ h2 le2 rfl
 have le02 := LH.le_trans le1 le2
 unfold tabV
 refine gZ ?_
 refine t_cond (fun e => by cases e) (fun _ => ?_)
 refine t_if (fun e => by omega) (fun _ => ?_)
 refine t_loop (fun mm vs h' => h' = h2 ∧ ∃ i : Nat, vs = [.slice none 0 0, .int .i64 0, .int .i64 i] ∧ i ≤ m ∧ mm = m - i) ⟨rfl, 0, rfl, Nat.zero_le _, rfl⟩ ?_
 rintro Y mm vs _ hY ⟨rfl, i, rfl, hi, rfl⟩
 refine gZ ?_
 refine t_if (fun e1 => ?_) (fun e1 => ?_)
 ·obtain ⟨s, a, hx, ha, q1, k1, d1, g1, g2, g3⟩ := (hc.le CutE.grow le02.1).at (i := i) (by omega)
  have hin : 0 ≤ (i : Int) ∧ (i : Int) < (m : Int) := by omega
  refine gZ ?_
  refine t_pu (c3136 (f := f) (hr.le le02.1) g3 (hco s (List.mem_of_getElem? hx))) ?_
  refine gZ ?_
  refine t_cond (fun e => by cases e) (fun _ => ?_)
  refine t_again (hY (m - (i + 1)) _ _ (by omega) ⟨rfl, i + 1, ?_, by omega, rfl⟩)
  rw [wrap_id (by omega) (by omega)]; rfl
 clear hY
 refine gZ ?_
 refine t_gr (c3137 (hl.le IntE.grow le02.1) (by omega)) ?_
 rintro _ h3 le3 ⟨p3, c3, rfl, g3⟩
 have le03 := LH.le_trans le02 le3
 refine gZ ?_
 refine t_loop (fun mm vs h' => h.le h' ∧ ∃ (i : Nat) (p' : Option Addr) (n' c' : Nat), vs = [.slice p' n' c', .int .i64 i] ∧ i ≤ m ∧ mm = m - i ∧ Growing IntEnc 3 1 h.get h'.get p' n' c' (cutsT l (cs.take i))) ⟨le03, 0, p3, n, c3, rfl, Nat.zero_le _, rfl, g3.base fun r => none_of_le le02⟩ ?_
 rintro Y mm vs h4 hY ⟨le4, i, p', n', c', rfl, hi, rfl, g4⟩
 refine gZ ?_
 refine t_if (fun e1 => ?_) (fun e1 => ?_)
 ·obtain ⟨s, a, hx, ha, q1, k1, d1, g1, g2, gs⟩ := (hc.le CutE.grow le4.1).at (i := i) (by omega)
  have hin : 0 ≤ (i : Int) ∧ (i : Int) < (m : Int) := by omega
  have hlen := cutsT_len (cs.take i) l
  refine gZ ?_
  refine t_new fun r hr0 => ?_
  refine cut_type hr0 fun h5 le5 z0 z1 => ?_
  have le05 := LH.le_trans le4 le5
  refine t_call (FW.top (c3138 (h₀ := h) (g := fun x => s.contains x) le05 (g4.le le5.1) (by omega) fun h' ks x => ?_)) ?_
  ·have hne : ∀ a, p' = some a → a.block ≠ r := fun a ha e => by
    obtain ⟨vs, ⟨_, ho⟩, _⟩ := g4.row
    rcases ho with ⟨hh, _⟩ | ⟨r', cs', hh, hr', _⟩
    ·rw [hh] at ha; cases ha
    ·rw [hh] at ha; cases ha
     have e : r' = r := e
     rw [e, hr0] at hr'; cases hr'
   have hb := ks.1 r hne
   have cellk : ∀ j, h'.get.cell? (Addr.add ⟨r, 0, none⟩ j) = h5.get.cell? (Addr.add ⟨r, 0, none⟩ j) := fun j => by
    rw [add_plain]; unfold Cells.cell?; rw [hb]
   have le' := ks.le le05 (g4.le le5.1).new
   refine cv_fw X0_ok (by rfl) (c3139 ((cellk 0).trans z0) ((cellk 1).trans z1) (?_ : Sl IntE 1 h'.get _ _ _) x)
   obtain ⟨s', a', hx', ha', q', k', d', g1', g2', gs'⟩ := (hc.le CutE.grow le'.1).at (i := i) (by omega)
   obtain rfl : s = s' := Option.some.inj (hx.symm.trans hx')
   obtain rfl : a = a' := Option.some.inj (ha.symm.trans ha')
   obtain ⟨a0, ha0, q0, k0, d0, f1, f2, f3⟩ := hc.2.2 i s hx
   obtain rfl : a = a0 := Option.some.inj (ha.symm.trans ha0)
   rw [Cells.cell?_le le'.1 f1] at g1'
   rw [Cells.cell?_le le4.1 f1] at g1
   cases g1; cases g1'
   exact gs'
  rintro _ h6 ⟨n6, c6, rfl, ks, g6⟩
  have le6 := ks.le le05 (g4.le le5.1).new
  refine gZ ?_
  refine t_again (hY (m - (i + 1)) _ _ (by omega) ⟨le6, i + 1, p', n6, c6, ?_, by omega, rfl, by rw [cutsT_step hx]; exact g6⟩)
  rw [wrap_id (by omega) (by omega)]; rfl
 ·have htake : cs.take i = cs := List.take_of_length_le (by omega)
  rw [htake] at g4
  have hlen := cutsT_len cs l
  refine gZ ?_
  exact t_ret ⟨le4, p', n', c', rfl, g4.sl IntEnc.len (by omega) IntEnc.e (by omega)⟩
end Go.Proofs.YtldamlcehbdkdaaGreatDoor
end
section
namespace Go.Proofs.YtldamlcehbdkdaaGreatDoor
open Go Go.TM Go.Proofs
attribute [local irreducible] T.wp CV FWK
theorem wrap_u8 {n : Int} (h : 0 ≤ n ∧ n ≤ 255) : IntKind.i64.wrap n = n := wrap_id (by omega) (by omega)
theorem tmod_nn {a b : Int} (ha : 0 ≤ a) : Int.tmod a b = a % b := by rw [Int.tmod_eq_emod_of_nonneg ha]
end Go.Proofs.YtldamlcehbdkdaaGreatDoor
end
section
namespace Go.Proofs.YtldamlcehbdkdaaGreatDoor
open Go Go.TM Go.Proofs
attribute [local irreducible] T.wp CV FWK
theorem mod_pos {n b : Int} (hb : 0 < b) : 0 ≤ n % b ∧ n % b < b := ⟨Int.emod_nonneg _ (by omega), Int.emod_lt_of_pos _ hb⟩
end Go.Proofs.YtldamlcehbdkdaaGreatDoor
end
section
namespace Go.TM
open Go Go.Conc
theorem setL_sub {a b : List Int} (h : ∀ v ∈ a, v ∈ b) : Te.Sub (setL a) (setL b) := fun n hn => by
 unfold setL at hn ⊢
 simp only [List.contains_iff_mem] at hn ⊢
 exact h _ hn
theorem listT_sub {s t : Te.Items} (h : Te.Sub s t) : ∀ v ∈ listT s, v ∈ listT t := by
 intro v hv
 unfold listT at hv ⊢
 simp only [List.mem_map, List.mem_filter] at hv ⊢
 obtain ⟨j, ⟨h1, h2⟩, rfl⟩ := hv
 exact ⟨j, ⟨h1, h _ h2⟩, rfl⟩
theorem cover_up (t : GTab) (a b : Int) {x y : List Int} (h : ∀ v ∈ x, v ∈ y) : Te.Sub (coverAt t a b x).1 (coverAt t a b y).1 ∧ Te.Sub (coverAt t a b x).2 (coverAt t a b y).2 :=
 Te.move_up _ _ _ _ _ _ (setL_sub h) (setL_sub h)
end Go.TM
namespace Go.Proofs.YtldamlcehbdkdaaGreatDoor
open Go Go.TM Go.Proofs
attribute [local irreducible] T.wp CV FWK
theorem c3118 {h : LH} {p q : Option Addr} {n c m d : Nat} {a b : List Int} (ha : Sl IntE 1 h.get p n a) (hb : Sl IntE 1 h.get q m b) (hs : ∀ v ∈ a, v ∈ b) : Pu Tryz.prog 26 #[.slice p n c, .slice q m d] h (.bool true) := by
 refine w3118 _ _ _ _ _ _ X0_ok ?_
 unfold n3118
 have hn := ha.1
 have hbd := ha.2.1
 refine t_loop (fun mm vs h' => h = h' ∧ ∃ i : Nat, vs = [.bool false, .int .i64 i] ∧ i ≤ n ∧ mm = n - i) ⟨rfl, 0, rfl, Nat.zero_le _, rfl⟩ ?_
 rintro Y mm vs _ hY ⟨rfl, i, rfl, hi, rfl⟩
 refine gZ ?_
 refine t_if (fun e1 => ?_) (fun e1 => ?_)
 ·obtain ⟨x, a', hx, ha', e2⟩ := ha.at (i := i) (by omega)
  unfold IntE at e2
  have hin : 0 ≤ (i : Int) ∧ (i : Int) < (n : Int) := by omega
  refine gZ ?_
  refine t_pu (c41 hb x) ?_
  rw [List.contains_iff_mem.2 (hs x (List.mem_of_getElem? hx))]
  refine gZ ?_
  refine t_cond (fun e => by cases e) (fun _ => ?_)
  refine t_again (hY (n - (i + 1)) _ _ (by omega) ⟨rfl, i + 1, ?_, by omega, rfl⟩)
  rw [wrap_id (by omega) (by omega)]; rfl
 ·refine gZ ?_
  exact t_ret ⟨rfl, rfl⟩
end Go.Proofs.YtldamlcehbdkdaaGreatDoor
end
section
namespace Go.TM
open Go Go.Conc
theorem sl_cut {h : Cells} {r : Nat} {m : Bool} {el : TypeId} {p : Option Addr} {n c : Nat} {a : List Int} (hr : h r = some (m, .cells #[.slice p n c, .bool false] el (0, 0))) (ha : Sl IntE 1 h p n a) : Sl CutE 2 h (some ⟨r, 0, none⟩) 1 [a] := by
 refine ⟨rfl, by simp, fun i x hx => ⟨_, rfl, ?_⟩⟩
 match i, hx with
 | 0, hx =>
  cases hx
  refine ⟨p, n, c, ?_, ?_, ha⟩
  ·rw [add_plain, add_plain]; unfold Cells.cell?; rw [hr]; rfl
  ·rw [add_plain, add_plain]; unfold Cells.cell?; rw [hr]; rfl
end Go.TM
namespace Go.Proofs.YtldamlcehbdkdaaGreatDoor
open Go Go.TM Go.Proofs
attribute [local irreducible] T.wp CV FWK
theorem und1116 : Tryz.prog.underlying 58 = some (.slice 57) := by kernel_rfl
theorem inf1115 : (Tryz.prog.info? 57).map (fun i => (i.size, i.bytes, i.zero)) = some (2, 32, some (.agg #[.slice none 0 0, .bool false])) := by kernel_rfl
end Go.Proofs.YtldamlcehbdkdaaGreatDoor
end
section
namespace Go.Proofs.YtldamlcehbdkdaaGreatDoor.Tre
open Go Go.TM Go.Proofs Go.TM.Tr
attribute [local irreducible] T.wp CV FWK
theorem not_and_false {a b : Bool} (h : a = false) : (a && b) = false := by rw [h]; rfl
def numsB (x : TF) : Bool := inB x.items 0 5 && (inB x.lands 1 3 && (dayB x.start && (dayB x.depend && (dayB x.refuse && dayB x.turn))))
theorem nums_ok {x : TF} (h : numsB x = true) : IsI (x.lands - 1) ∧ IsI (x.items - 1) := by
 simp [numsB, inB] at h
 unfold IsI
 omega
theorem checkT_nums {x : TF} (h : numsB x = false) : checkT x = 1 := by unfold checkT; exact if_pos h
theorem checkT_many {x : TF} (h : numsB x = true) (h2 : 10 < x.events.length) : checkT x = 2 := by
 unfold checkT
 rw [if_neg (by unfold numsB at h; rw [h]; simp), if_pos h2]
theorem checkT_each {x : TF} (h : numsB x = true) (h2 : ¬ 10 < x.events.length) : checkT x = firstT (fun _ e => eventT x e) 0 x.events := by
 unfold checkT
 rw [if_neg (by unfold numsB at h; rw [h]; simp), if_neg h2]
theorem check_is {x : TF} (h : checkT x = 0) : IsI (x.lands - 1) ∧ IsI (x.items - 1) := by
 have := check_numbers h
 unfold IsI; omega
theorem c2021 {h : LH} (hk : Kinds h.get) {f : TC} {x : TF} (hx : TreatyR h.get f x) : Pu Tryz.prog 242 #[treatyV f x] h (.int .i64 (checkT x)) := by
 refine w2021 _ _ _ _ _ _ _ _ _ X0_ok ?_
 unfold n2021
 have hn := hx.2.1
 have hb := hx.2.2.1
 refine t_blk (fun vs h' => vs = [.int .i64 0] ∧ numsB x = true ∧ h = h') ?_ ?_
 ·refine t_pu (c2052 _ _ _) ?_
  refine gZ ?_
  refine t_cond (fun e => ?_) (fun e0 => ?_)
  ·refine gI ?_
   refine gZ ?_
   exact t_ret ⟨by rw [checkT_nums (not_and_false (by simpa using e))], rfl⟩
  have e0 : inB x.items 0 5 = true := by simpa using e0
  refine t_pu (c2052 _ _ _) ?_
  refine gZ ?_
  refine t_cond (fun e => ?_) (fun e1 => ?_)
  ·refine gI ?_
   refine gZ ?_
   have e : inB x.lands 1 3 = false := by simpa using e
   exact t_ret ⟨by rw [checkT_nums (by simp [numsB, e])], rfl⟩
  have e1 : inB x.lands 1 3 = true := by simpa using e1
  refine t_pu (c2053 _) ?_
  refine gZ ?_
  refine t_cond (fun e => ?_) (fun e2 => ?_)
  ·refine gI ?_
   refine gZ ?_
   have e : dayB x.start = false := by simpa using e
   exact t_ret ⟨by rw [checkT_nums (by simp [numsB, e])], rfl⟩
  have e2 : dayB x.start = true := by simpa using e2
  refine t_pu (c2053 _) ?_
  refine gZ ?_
  refine t_cond (fun e => ?_) (fun e3 => ?_)
  ·refine gI ?_
   refine gZ ?_
   have e : dayB x.depend = false := by simpa using e
   exact t_ret ⟨by rw [checkT_nums (by simp [numsB, e])], rfl⟩
  have e3 : dayB x.depend = true := by simpa using e3
  refine t_pu (c2053 _) ?_
  refine gZ ?_
  refine t_cond (fun e => ?_) (fun e4 => ?_)
  ·refine gI ?_
   refine gZ ?_
   have e : dayB x.refuse = false := by simpa using e
   exact t_ret ⟨by rw [checkT_nums (by simp [numsB, e])], rfl⟩
  have e4 : dayB x.refuse = true := by simpa using e4
  refine t_pu (c2053 _) ?_
  refine gZ ?_
  refine t_cond (fun e => ?_) (fun e5 => ?_)
  ·refine gI ?_
   refine gZ ?_
   have e : dayB x.turn = false := by simpa using e
   exact t_ret ⟨by rw [checkT_nums (by simp [numsB, e])], rfl⟩
  have e5 : dayB x.turn = true := by simpa using e5
  exact t_again ⟨rfl, by simp [numsB, e0, e1, e2, e3, e4, e5], rfl⟩
 rintro vs _ ⟨rfl, hnum, rfl⟩
 refine gZ ?_
 refine t_if (fun e => ?_) (fun e => ?_)
 ·exact t_ret ⟨by rw [checkT_many hnum (by omega)], rfl⟩
 have hck := checkT_each hnum (by omega)
 refine t_loop (fun mm vs h' => h = h' ∧ ∃ i : Nat, vs = [.int .i64 0, .int .i64 i] ∧ i ≤ f.n ∧ mm = f.n - i ∧ checkT x = firstT (fun _ e => eventT x e) i (x.events.drop i)) ⟨rfl, 0, rfl, Nat.zero_le _, rfl, hck⟩ ?_
 rintro Y mm vs _ hY ⟨rfl, i, rfl, hi, rfl, hc⟩
 refine gZ ?_
 refine t_if (fun e1 => ?_) (fun e1 => ?_)
 ·obtain ⟨y, a, hy, ha, g0, g1, g2, ⟨q, m, c, g3, _, g5⟩, g4⟩ := hx.2.at (i := i) (by omega)
  rw [drop_of hy, firstT] at hc
  refine gZ ?_
  refine t_pu (c2054 hk (f := f) (x := x) (e := y) (nums_ok hnum).1 (nums_ok hnum).2 g5) ?_
  refine gZ ?_
  refine t_cond (fun d => ?_) (fun d => ?_)
  ·refine gZ ?_
   rw [if_pos (by simpa using d)] at hc
   exact t_ret ⟨by rw [hc], rfl⟩
  ·rw [if_neg (by simpa using d)] at hc
   refine t_again (hY (f.n - (i + 1)) _ _ (by omega) ⟨rfl, i + 1, ?_, by omega, rfl, hc⟩)
   rw [wrap_id (by omega) (by omega)]; rfl
 ·refine gZ ?_
  rw [List.drop_eq_nil_of_le (by omega), firstT] at hc
  exact t_ret ⟨by rw [hc], rfl⟩
def askedT (x : TF) (land : Int) : Int := if checkT x ≠ 0 then checkT x else if inB land 0 (x.lands - 1) = false then 6 else 0
def askedDayT (x : TF) (land day : Int) : Int := if askedT x land ≠ 0 then askedT x land else if dayB day then 0 else 1
def askedItemT (x : TF) (land item : Int) : Int := if askedT x land ≠ 0 then askedT x land else if inB item 0 (x.items - 1) then 0 else 6
def askedAllT (x : TF) (land item day : Int) : Int := if askedItemT x land item ≠ 0 then askedItemT x land item else if dayB day then 0 else 1
theorem asked_ok {x : TF} {land : Int} (h : askedT x land = 0) : checkT x = 0 ∧ inB land 0 (x.lands - 1) = true := by
 unfold askedT at h
 split at h
 ·rename_i h1; exact absurd h h1
 ·rename_i h1
  split at h
  ·cases h
  ·rename_i h2; exact ⟨by simpa using h1, by simpa using h2⟩
theorem askedDay_ok {x : TF} {land day : Int} (h : askedDayT x land day = 0) : askedT x land = 0 ∧ dayB day = true := by
 unfold askedDayT at h
 split at h
 ·rename_i h1; exact absurd h h1
 ·rename_i h1
  split at h
  ·rename_i h2; exact ⟨by simpa using h1, h2⟩
  ·cases h
theorem askedItem_ok {x : TF} {land item : Int} (h : askedItemT x land item = 0) : askedT x land = 0 ∧ inB item 0 (x.items - 1) = true := by
 unfold askedItemT at h
 split at h
 ·rename_i h1; exact absurd h h1
 ·rename_i h1
  split at h
  ·rename_i h2; exact ⟨by simpa using h1, h2⟩
  ·cases h
theorem askedAll_ok {x : TF} {land item day : Int} (h : askedAllT x land item day = 0) : askedItemT x land item = 0 ∧ dayB day = true := by
 unfold askedAllT at h
 split at h
 ·rename_i h1; exact absurd h h1
 ·rename_i h1
  split at h
  ·rename_i h2; exact ⟨by simpa using h1, h2⟩
  ·cases h
theorem c2079 {h : LH} (hk : Kinds h.get) {f : TC} {x : TF} (hx : TreatyR h.get f x) (land : Int) : Pu Tryz.prog 193 #[treatyV f x, .int .i64 land] h (.int .i64 (askedT x land)) := by
 refine w2079 _ _ _ _ _ _ _ _ _ _ X0_ok ?_
 unfold n2079
 refine t_pu (c2021 hk hx) ?_
 refine gZ ?_
 refine t_cond (fun e => ?_) (fun e => ?_)
 ·exact t_ret ⟨by rw [askedT, if_pos (by simpa using e)], rfl⟩
 have e : checkT x = 0 := by simpa using e
 have hi := check_is e
 rw [wrap_id hi.1.1 hi.1.2]
 refine t_pu (c2052 _ _ _) ?_
 refine gZ ?_
 refine t_cond (fun d => ?_) (fun d => ?_)
 ·exact t_ret ⟨by rw [askedT, if_neg (by simp [e]), if_pos (by simpa using d)], rfl⟩
 ·exact t_ret ⟨by rw [askedT, if_neg (by simp [e]), if_neg (by simp at d; simp [d])], rfl⟩
theorem c2063 {h : LH} (hk : Kinds h.get) {f : TC} {x : TF} (hx : TreatyR h.get f x) (land day : Int) : Pu Tryz.prog 140 #[treatyV f x, .int .i64 land, .int .i64 day] h (.int .i64 (askedDayT x land day)) := by
 refine w2063 _ _ _ _ _ _ _ _ _ _ _ X0_ok ?_
 unfold n2063
 refine t_pu (c2079 hk hx land) ?_
 refine gZ ?_
 refine t_cond (fun e => ?_) (fun e => ?_)
 ·exact t_ret ⟨by rw [askedDayT, if_pos (by simpa using e)], rfl⟩
 have e : askedT x land = 0 := by simpa using e
 refine t_pu (c2053 _) ?_
 refine gZ ?_
 refine t_cond (fun d => ?_) (fun d => ?_)
 ·exact t_ret ⟨by rw [askedDayT, if_neg (by simp [e]), if_pos d, e], rfl⟩
 ·exact t_ret ⟨by rw [askedDayT, if_neg (by simp [e]), if_neg (by simp [d])], rfl⟩
theorem c2058 {h : LH} (hk : Kinds h.get) {f : TC} {x : TF} (hx : TreatyR h.get f x) (land item : Int) : Pu Tryz.prog 142 #[treatyV f x, .int .i64 land, .int .i64 item] h (.int .i64 (askedItemT x land item)) := by
 refine w2058 _ _ _ _ _ _ _ _ _ _ _ X0_ok ?_
 unfold n2058
 refine t_pu (c2079 hk hx land) ?_
 refine gZ ?_
 refine t_cond (fun e => ?_) (fun e => ?_)
 ·exact t_ret ⟨by rw [askedItemT, if_pos (by simpa using e)], rfl⟩
 have e : askedT x land = 0 := by simpa using e
 have hi := check_is (asked_ok e).1
 rw [wrap_id hi.2.1 hi.2.2]
 refine t_pu (c2052 _ _ _) ?_
 refine gZ ?_
 refine t_cond (fun d => ?_) (fun d => ?_)
 ·exact t_ret ⟨by rw [askedItemT, if_neg (by simp [e]), if_pos d, e], rfl⟩
 ·exact t_ret ⟨by rw [askedItemT, if_neg (by simp [e]), if_neg (by simp [d])], rfl⟩
theorem c2066 {h : LH} (hk : Kinds h.get) {f : TC} {x : TF} (hx : TreatyR h.get f x) (land item day : Int) : Pu Tryz.prog 145 #[treatyV f x, .int .i64 land, .int .i64 item, .int .i64 day] h (.int .i64 (askedAllT x land item day)) := by
 refine w2066 _ _ _ _ _ _ _ _ _ _ _ _ X0_ok ?_
 unfold n2066
 refine t_pu (c2058 hk hx land item) ?_
 refine gZ ?_
 refine t_cond (fun e => ?_) (fun e => ?_)
 ·exact t_ret ⟨by rw [askedAllT, if_pos (by simpa using e)], rfl⟩
 have e : askedItemT x land item = 0 := by simpa using e
 refine t_pu (c2053 _) ?_
 refine gZ ?_
 refine t_cond (fun d => ?_) (fun d => ?_)
 ·exact t_ret ⟨by rw [askedAllT, if_neg (by simp [e]), if_pos d, e], rfl⟩
 ·exact t_ret ⟨by rw [askedAllT, if_neg (by simp [e]), if_neg (by simp [d])], rfl⟩
end Go.Proofs.YtldamlcehbdkdaaGreatDoor.Tre
end
section
namespace Go.Proofs.YtldamlcehbdkdaaGreatDoor.Tre
open Go Go.TM Go.Proofs Go.TM.Tr
attribute [local irreducible] T.wp CV FWK
set_option maxRecDepth 10000 in
theorem c2057 {h : LH} {f : TC} {x : TF} {e : Ev} {q : Option Addr} {m c : Nat} (hl : IsI (x.lands - 1)) (hi : IsI (x.items - 1)) (hs : Sl IntE 1 h.get q m e.items) :
  Pu Tryz.prog 139 #[treatyV f x, .agg #[.int .i64 e.kind, .int .i64 e.day, .int .i64 e.land, .slice q m c, .int .i64 e.since]] h (.int .i64 (eventT x e)) := by
 refine w2057 _ _ _ _ _ _ _ _ _ _ _ _ _ _ _ _ X0_ok ?_
 unfold n2057
 have hm := hs.1
 have hb := hs.2.1
 refine t_blk (fun vs h' => vs = [.int .i64 0] ∧ (inB e.kind 0 6 && (dayB e.day && dayB e.since)) = true ∧ h = h') ?_ ?_
 ·have bad : (inB e.kind 0 6 && (dayB e.day && dayB e.since)) = false → eventT x e = 1 := fun hb => by rw [eventT, if_pos hb]
  refine t_if (fun e1 => ?_) (fun e1 => ?_)
  ·refine gI ?_
   refine gZ ?_
   exact t_ret ⟨by rw [bad (by rw [show inB e.kind 0 6 = false by unfold inB; rw [decide_eq_false (by omega), Bool.false_and]]; rfl)], rfl⟩
  refine t_if (fun e2 => ?_) (fun e2 => ?_)
  ·refine gI ?_
   refine gZ ?_
   exact t_ret ⟨by rw [bad (by rw [show inB e.kind 0 6 = false by unfold inB; rw [decide_eq_false (p := e.kind ≤ 6) (by omega), Bool.and_false]]; rfl)], rfl⟩
  have hk : inB e.kind 0 6 = true := by unfold inB; rw [decide_eq_true (by omega), decide_eq_true (by omega)]; rfl
  refine t_pu (c2056 _) ?_
  refine gZ ?_
  refine t_cond (fun e3 => ?_) (fun e3 => ?_)
  ·refine gI ?_
   refine gZ ?_
   have : dayB e.day = false := by simpa using e3
   exact t_ret ⟨by rw [bad (by rw [this]; simp)], rfl⟩
  have hd : dayB e.day = true := by simpa using e3
  refine t_pu (c2056 _) ?_
  refine gZ ?_
  refine t_cond (fun e3 => ?_) (fun e3 => ?_)
  ·refine gI ?_
   refine gZ ?_
   have : dayB e.since = false := by simpa using e3
   exact t_ret ⟨by rw [bad (by rw [this]; simp)], rfl⟩
  have he : dayB e.since = true := by simpa using e3
  exact t_again ⟨rfl, by rw [hk, hd, he]; rfl, rfl⟩
 rintro vs _ ⟨rfl, b', rfl⟩
 have hev1 : eventT x e = if inB e.land 0 (x.lands - 1) = false then 6 else if itemsT e.items x.items ≠ 0 then itemsT e.items x.items else if (e.kind = 4 ∧ e.land ≠ 0) ∨ (e.kind ≠ 4 ∧ e.kind ≠ 6 ∧ e.since ≠ 0) then 1 else if e.since > e.day then 7 else 0 := by
  rw [eventT, if_neg (by rw [b']; simp)]
 refine gZ ?_
 rw [wrap_id hl.1 hl.2]
 refine t_pu (c49 _ _ _) ?_
 refine gZ ?_
 refine t_cond (fun d => ?_) (fun d => ?_)
 ·refine t_ret ⟨?_, rfl⟩
  rw [hev1, if_pos (by simpa using d)]
 have hev2 : eventT x e = if itemsT e.items x.items ≠ 0 then itemsT e.items x.items else if (e.kind = 4 ∧ e.land ≠ 0) ∨ (e.kind ≠ 4 ∧ e.kind ≠ 6 ∧ e.since ≠ 0) then 1 else if e.since > e.day then 7 else 0 := by
  rw [hev1, if_neg (by simp at d; simp [d])]
 refine t_loop (fun mm vs h' => h = h' ∧ ∃ i : Nat, vs = [.int .i64 0, .int .i64 i] ∧ i ≤ m ∧ mm = m - i ∧ itemsT e.items x.items = firstT (Tr.stepT e.items x.items) i (e.items.drop i)) ⟨rfl, 0, rfl, Nat.zero_le _, rfl, rfl⟩ ?_
 rintro Y mm vs _ hY ⟨rfl, i, rfl, hi', rfl, hc⟩
 refine gZ ?_
 refine t_if (fun e1 => ?_) (fun e1 => ?_)
 ·obtain ⟨y, a, hy, ha, e2⟩ := hs.at (i := i) (by omega)
  unfold IntE at e2
  rw [drop_of hy, firstT] at hc
  refine gZ ?_
  rw [wrap_id hi.1 hi.2]
  refine t_pu (c49 _ _ _) ?_
  refine gZ ?_
  have next : Tr.stepT e.items x.items i y = 0 → Y [.int .i64 0, .int .i64 (IntKind.wrap .i64 ((i : Int) + 1))] h := by
   intro hz
   rw [if_neg (by rw [hz]; simp)] at hc
   refine hY (m - (i + 1)) _ _ (by omega) ⟨rfl, i + 1, ?_, by omega, rfl, hc⟩
   rw [wrap_id (by omega) (by omega)]; rfl
  have stop : ∀ z : Int, z ≠ 0 → Tr.stepT e.items x.items i y = z → eventT x e = z := by
   intro z hz hr
   rw [hr, if_pos hz] at hc
   rw [hev2, hc, if_pos hz]
  refine t_cond (fun d1 => ?_) (fun d1 => ?_)
  ·refine gZ ?_
   refine t_ret ⟨?_, rfl⟩
   rw [stop 6 (by decide) (by rw [Tr.stepT, if_pos (by simpa using d1)])]
  have d1' : ¬ inB y 0 (x.items - 1) = false := by simp at d1; simp [d1]
  refine t_if (fun d2 => ?_) (fun d2 => ?_)
  ·obtain ⟨z, a2, hz, ha2, e3⟩ := hs.at (i := i - 1) (by omega)
   unfold IntE at e3
   rw [ha] at ha2; cases ha2
   have hwi : IntKind.wrap .i64 ((i : Int) - 1) = ((i - 1 : Nat) : Int) := by rw [wrap_id (by omega) (by omega)]; omega
   have hrun := itemsT_run (b := x.items) hy (fun _ => hz)
   rw [hwi]
   refine gZ ?_
   refine t_if (fun d3 => ?_) (fun d3 => ?_)
   ·refine gZ ?_
    refine t_ret ⟨?_, rfl⟩
    rw [stop 7 (by decide) (by rw [hrun, if_neg d1', if_pos ⟨by omega, d3⟩])]
   ·exact t_again (next (by rw [hrun, if_neg d1', if_neg (by omega)]))
  ·refine gZ ?_
   exact t_again (next (by rw [Tr.stepT, if_neg d1', if_neg (by omega)]))
 ·refine gZ ?_
  rw [List.drop_eq_nil_of_le (by omega), firstT] at hc
  have hev3 : eventT x e = if (e.kind = 4 ∧ e.land ≠ 0) ∨ (e.kind ≠ 4 ∧ e.kind ≠ 6 ∧ e.since ≠ 0) then 1 else if e.since > e.day then 7 else 0 := by
   rw [hev2, if_neg (by rw [hc]; simp)]
  rw [hev3]
  repeat' first
   | (refine t_cond (fun _ => ?_) (fun _ => ?_))
   | (refine t_ret ⟨?_, rfl⟩)
  all_goals (congr 1; simp_all; try omega)
theorem c2022 {h : LH} {f : TC} {x : TF} (hx : TreatyR h.get f x) : Pu Tryz.prog 86 #[treatyV f x] h (.int .i64 (checkT x)) := by
 refine w2022 _ _ _ _ _ _ _ _ _ X0_ok ?_
 unfold n2022
 have hn := hx.2.1
 have hb := hx.2.2.1
 refine t_blk (fun vs h' => vs = [.int .i64 0] ∧ numsB x = true ∧ h = h') ?_ ?_
 ·refine t_pu (c49 _ _ _) ?_
  refine gZ ?_
  refine t_cond (fun e => ?_) (fun e0 => ?_)
  ·refine gI ?_
   refine gZ ?_
   exact t_ret ⟨by rw [checkT_nums (not_and_false (by simpa using e))], rfl⟩
  have e0 : inB x.items 0 5 = true := by simpa using e0
  refine t_pu (c49 _ _ _) ?_
  refine gZ ?_
  refine t_cond (fun e => ?_) (fun e1 => ?_)
  ·refine gI ?_
   refine gZ ?_
   have e : inB x.lands 1 3 = false := by simpa using e
   exact t_ret ⟨by rw [checkT_nums (by simp [numsB, e])], rfl⟩
  have e1 : inB x.lands 1 3 = true := by simpa using e1
  refine t_pu (c2056 _) ?_
  refine gZ ?_
  refine t_cond (fun e => ?_) (fun e2 => ?_)
  ·refine gI ?_
   refine gZ ?_
   have e : dayB x.start = false := by simpa using e
   exact t_ret ⟨by rw [checkT_nums (by simp [numsB, e])], rfl⟩
  have e2 : dayB x.start = true := by simpa using e2
  refine t_pu (c2056 _) ?_
  refine gZ ?_
  refine t_cond (fun e => ?_) (fun e3 => ?_)
  ·refine gI ?_
   refine gZ ?_
   have e : dayB x.depend = false := by simpa using e
   exact t_ret ⟨by rw [checkT_nums (by simp [numsB, e])], rfl⟩
  have e3 : dayB x.depend = true := by simpa using e3
  refine t_pu (c2056 _) ?_
  refine gZ ?_
  refine t_cond (fun e => ?_) (fun e4 => ?_)
  ·refine gI ?_
   refine gZ ?_
   have e : dayB x.refuse = false := by simpa using e
   exact t_ret ⟨by rw [checkT_nums (by simp [numsB, e])], rfl⟩
  have e4 : dayB x.refuse = true := by simpa using e4
  refine t_pu (c2056 _) ?_
  refine gZ ?_
  refine t_cond (fun e => ?_) (fun e5 => ?_)
  ·refine gI ?_
   refine gZ ?_
   have e : dayB x.turn = false := by simpa using e
   exact t_ret ⟨by rw [checkT_nums (by simp [numsB, e])], rfl⟩
  have e5 : dayB x.turn = true := by simpa using e5
  exact t_again ⟨rfl, by simp [numsB, e0, e1, e2, e3, e4, e5], rfl⟩
 rintro vs _ ⟨rfl, hnum, rfl⟩
 refine gZ ?_
 refine t_if (fun e => ?_) (fun e => ?_)
 ·exact t_ret ⟨by rw [checkT_many hnum (by omega)], rfl⟩
 have hck := checkT_each hnum (by omega)
 refine t_loop (fun mm vs h' => h = h' ∧ ∃ i : Nat, vs = [.int .i64 0, .int .i64 i] ∧ i ≤ f.n ∧ mm = f.n - i ∧ checkT x = firstT (fun _ e => eventT x e) i (x.events.drop i)) ⟨rfl, 0, rfl, Nat.zero_le _, rfl, hck⟩ ?_
 rintro Y mm vs _ hY ⟨rfl, i, rfl, hi, rfl, hc⟩
 refine gZ ?_
 refine t_if (fun e1 => ?_) (fun e1 => ?_)
 ·obtain ⟨y, a, hy, ha, g0, g1, g2, ⟨q, m, c, g3, _, g5⟩, g4⟩ := hx.2.at (i := i) (by omega)
  rw [drop_of hy, firstT] at hc
  refine gZ ?_
  refine t_pu (c2057 (h := h) (f := f) (x := x) (e := y) (nums_ok hnum).1 (nums_ok hnum).2 g5) ?_
  refine gZ ?_
  refine t_cond (fun d => ?_) (fun d => ?_)
  ·refine gZ ?_
   rw [if_pos (by simpa using d)] at hc
   exact t_ret ⟨by rw [hc], rfl⟩
  ·rw [if_neg (by simpa using d)] at hc
   refine t_again (hY (f.n - (i + 1)) _ _ (by omega) ⟨rfl, i + 1, ?_, by omega, rfl, hc⟩)
   rw [wrap_id (by omega) (by omega)]; rfl
 ·refine gZ ?_
  rw [List.drop_eq_nil_of_le (by omega), firstT] at hc
  exact t_ret ⟨by rw [hc], rfl⟩
end Go.Proofs.YtldamlcehbdkdaaGreatDoor.Tre
end
section
namespace Go.Proofs.YtldamlcehbdkdaaGreatDoor.Tre
open Go Go.TM Go.Proofs Go.TM.Tr
attribute [local irreducible] T.wp CV FWK
def matV (f : TC) (x : TF) (k i : Int) : Value := .agg #[.int .i64 x.items, .int .i64 x.lands, .int .i64 x.start, .int .i64 x.depend, .int .i64 x.refuse, .int .i64 x.turn, .slice f.p f.n f.c, .int .i64 k, .int .i64 i]
structure MatAt (h : Cells) (a : Addr) (f : TC) (x : TF) (k i : Int) : Prop where
 f0 : h.cell? ((a.add 0).add 0) = some (.int .i64 x.items)
 f1 : h.cell? ((a.add 0).add 1) = some (.int .i64 x.lands)
 f2 : h.cell? ((a.add 0).add 2) = some (.int .i64 x.start)
 f3 : h.cell? ((a.add 0).add 3) = some (.int .i64 x.depend)
 f4 : h.cell? ((a.add 0).add 4) = some (.int .i64 x.refuse)
 f5 : h.cell? ((a.add 0).add 5) = some (.int .i64 x.turn)
 f6 : h.cell? ((a.add 0).add 6) = some (.slice f.p f.n f.c)
 f7 : h.cell? ((a.add 0).add 7) = some (.int .i64 k)
 f8 : h.cell? ((a.add 0).add 8) = some (.int .i64 i)
theorem MatAt.rd {h h' : Cells} {a : Addr} {f : TC} {x : TF} {k i : Int} (hl : Rd h h') (m : MatAt h a f x k i) : MatAt h' a f x k i :=
 ⟨hl _ _ m.f0, hl _ _ m.f1, hl _ _ m.f2, hl _ _ m.f3, hl _ _ m.f4, hl _ _ m.f5, hl _ _ m.f6, hl _ _ m.f7, hl _ _ m.f8⟩
theorem MatAt.le {h h' : Cells} {a : Addr} {f : TC} {x : TF} {k i : Int} (hl : h.le h') (m : MatAt h a f x k i) : MatAt h' a f x k i := m.rd (Rd.of_le hl)
theorem add_zero' (a : Addr) : a.add 0 = a := by unfold Addr.add; simp
theorem add_zero2 (a : Addr) (i : Nat) : (a.add 0).add i = a.add i := by rw [add_zero']
theorem MatAt.s7 {h : Cells} {a : Addr} {f : TC} {x : TF} {k i : Int} (m : MatAt h a f x k i) : h.cell? (a.add 7) = some (.int .i64 k) := by have := m.f7; rwa [add_zero2] at this
theorem MatAt.s8 {h : Cells} {a : Addr} {f : TC} {x : TF} {k i : Int} (m : MatAt h a f x k i) : h.cell? (a.add 8) = some (.int .i64 i) := by have := m.f8; rwa [add_zero2] at this
def allB (K : Nat) (k i : Int) (e : Ev) : Bool := (e.kind == (K : Int)) && ((!landK K || (e.land == k)) && e.items.contains i)
theorem allB_about {K : Nat} (hK : K ≠ 4) (k i : Int) (e : Ev) : allB K k i e = about e K k i := by
 unfold allB about landK
 have : Nat.beq K 4 = false := by
  cases hb : Nat.beq K 4 with
  | false => rfl
  | true => exact absurd (Nat.eq_of_beq_eq_true hb) hK
 simp [this]
def handedE {α : Type} (V : Nat → Value) (s : α → Bool) : List α → Nat → List (List Value)
 | [], _ => []
 | x :: l, i => if s x then [V i] :: handedE V s l (i + 1) else handedE V s l (i + 1)
theorem handedE_len {α : Type} (V : Nat → Value) (s : α → Bool) : ∀ (l : List α) (i : Nat), (handedE V s l i).length = (l.filter s).length := by
 intro l
 induction l with
 | nil => intro i; rfl
 | cons x l ih => intro i; rw [handedE, List.filter_cons]; split <;> simp [ih]
theorem handedE_get {α : Type} (V : Nat → Value) (s : α → Bool) : ∀ (l : List α) (i k : Nat) xs, (handedE V s l i)[k]? = some xs → ∃ x j, (l.filter s)[k]? = some x ∧ l[j]? = some x ∧ xs = [V (i + j)] := by
 intro l
 induction l with
 | nil => intro i k xs h; simp [handedE] at h
 | cons x l ih =>
  intro i k xs h
  rw [handedE] at h
  rw [List.filter_cons]
  split at h
  ·rename_i hs
   rw [if_pos hs]
   cases k with
   | zero => simp at h; exact ⟨x, 0, rfl, rfl, by simp [← h]⟩
   | succ k =>
    obtain ⟨y, j, h1, h2, h3⟩ := ih (i + 1) k xs (by simpa using h)
    exact ⟨y, j + 1, by simpa using h1, by simpa using h2, by rw [h3, show i + 1 + j = i + (j + 1) by omega]⟩
  ·rename_i hs
   rw [if_neg hs]
   obtain ⟨y, j, h1, h2, h3⟩ := ih (i + 1) k xs h
   exact ⟨y, j + 1, h1, by simpa using h2, by rw [h3, show i + 1 + j = i + (j + 1) by omega]⟩
def evV (e : Ev) (q : Option Addr) (m c : Nat) : Value := .agg #[.int .i64 e.kind, .int .i64 e.day, .int .i64 e.land, .slice q m c, .int .i64 e.since]
theorem hands2095 {X : XP} (hX : XOK X) {h₀ : LH} (hk : Kinds h₀.get) {z0 z1 : Addr} {f : TC} {x : TF} {k i : Int} {K : Nat} (hK : K < 7) (hm : MatAt h₀.get z0 f x k i) (hz1 : h₀.get.cell? z1 = some (.int .i64 (K : Int))) (hx : TreatyR h₀.get f x) :
  ∃ L, L.length = (x.events.filter (allB K k i)).length ∧ (∀ (j : Nat) xs, L[j]? = some xs → ∃ e q m c, (x.events.filter (allB K k i))[j]? = some e ∧ xs = [evV e q m c] ∧ Sl IntE 1 h₀.get q m e.items) ∧
   Hands X Tryz.prog (.func (.func 244) #[] #[.pointer (some z0), .pointer (some z1)]) h₀ L := by
 have hs := hx.2
 let R : Nat → Value → Prop := fun j v => ∃ e a q m c, x.events[j]? = some e ∧ f.p = some a ∧ v = evV e q m c ∧ h₀.get.cell? ((a.add (j * 5)).add 0) = some (.int .i64 e.kind) ∧ h₀.get.cell? ((a.add (j * 5)).add 1) = some (.int .i64 e.day) ∧ h₀.get.cell? ((a.add (j * 5)).add 2) = some (.int .i64 e.land) ∧ h₀.get.cell? ((a.add (j * 5)).add 3) = some (.slice q m c) ∧ h₀.get.cell? ((a.add (j * 5)).add 4) = some (.int .i64 e.since) ∧ Sl IntE 1 h₀.get q m e.items
 have hR : ∀ j e, x.events[j]? = some e → ∃ v, R j v := by
  intro j e he
  obtain ⟨a, ha, e1, e2, e3, ⟨q, m, c, e4, _, e5⟩, e6⟩ := hs.2.2 j e he
  exact ⟨_, e, a, q, m, c, he, ha, rfl, e1, e2, e3, e4, e6, e5⟩
 let V : Nat → Value := fun j => Classical.epsilon (R j)
 have hV : ∀ j e, x.events[j]? = some e → R j (V j) := fun j e he => Classical.epsilon_spec (hR j e he)
 refine ⟨handedE V (allB K k i) x.events 0, handedE_len _ _ _ _, ?_, ?_⟩
 ·intro j xs hj
  obtain ⟨e, j', h1, h2, h3⟩ := handedE_get _ _ _ _ _ _ hj
  rw [Nat.zero_add] at h3
  obtain ⟨e', a, q, m, c, g1, _, g3, _, _, _, _, _, g8⟩ := hV j' e h2
  rw [h2] at g1; cases g1
  exact ⟨e, q, m, c, h1, by rw [h3, g3], g8⟩
 ·intro y J E _ _ hyield h hle hJ
  generalize hL : handedE V (allB K k i) x.events 0 = L at hyield ⊢
  refine cv_fw hX (by rfl) (?_ : FW X Tryz.prog 244 #[y, .pointer (some z0), .pointer (some z1)] h _)
  refine w2095 _ _ _ hX ?_
  unfold n2095
  have hn := hs.1
  have hb := hs.2.1
  have y6 := Cells.cell?_le hle.1 hm.f6
  refine gL1 y6 ?_
  refine t_loop (fun mm vs h' => h₀.le h' ∧ ∃ (j cnt : Nat), vs = [.int .i64 j] ∧ j ≤ f.n ∧ mm = f.n - j ∧ J cnt h' ∧ cnt ≤ L.length ∧ L.drop cnt = handedE V (allB K k i) (x.events.drop j) j) (n := f.n) ⟨hle, 0, 0, rfl, Nat.zero_le _, by omega, hJ, Nat.zero_le _, by rw [← hL]; rfl⟩ ?_
  rintro Y mm vs h₁ hY ⟨le1, j, cnt, rfl, hj, rfl, hJ1, hcl, hdrop⟩
  refine gZ ?_
  refine t_if (fun e1 => ?_) (fun e1 => ?_)
  ·obtain ⟨e, he⟩ : ∃ e, x.events[j]? = some e := ⟨x.events[j]'(by omega), List.getElem?_eq_getElem (by omega)⟩
   obtain ⟨e', a, q, m, c, g1, ha, hVj, c0, c1, c2, c3, c4, hit⟩ := hV j e he
   rw [he] at g1; cases g1
   have d0 := Cells.cell?_le le1.1 c0
   have d1 := Cells.cell?_le le1.1 c1
   have d2 := Cells.cell?_le le1.1 c2
   have d3 := Cells.cell?_le le1.1 c3
   have d4 := Cells.cell?_le le1.1 c4
   have w1 := Cells.cell?_le le1.1 hz1
   have m1 := hm.le le1.1
   have w7 := m1.s7
   have w8 := m1.s8
   have kl := (hk.le le1.1).landAt' hK
   have kl2 := (hk.le le1.1).landAt hK
   rw [drop_of he, handedE] at hdrop
   refine gZ ?_
   have skip : allB K k i e = false → Y [.int .i64 (IntKind.wrap .i64 ((j : Int) + 1))] h₁ := by
    intro hno
    rw [if_neg (by rw [hno]; simp)] at hdrop
    refine hY (f.n - (j + 1)) _ _ (by omega) ⟨le1, j + 1, cnt, ?_, by omega, rfl, hJ1, hcl, hdrop⟩
    rw [wrap_id (by omega) (by omega)]; rfl
   refine t_blk (fun vs h' => vs = [.bool (!landK K || (e.land == k))] ∧ h₁ = h') ?_ ?_
   ·refine gZ ?_
    refine t_cond (fun e2 => ?_) (fun e2 => ?_)
    ·exact t_again ⟨by simp at e2; rw [e2]; rfl, rfl⟩
    ·refine gZ ?_
     exact t_again ⟨by simp at e2; rw [e2]; rfl, rfl⟩
   rintro vs _ ⟨rfl, rfl⟩
   refine gZ ?_
   refine t_cond (fun e2 => ?_) (fun e2 => ?_)
   ·refine t_cond (fun e3 => ?_) (fun e3 => ?_)
    ·refine gZ ?_
     refine t_pu (c100 (hit.le IntE.grow le1.1) i) ?_
     refine gZ ?_
     refine t_cond (fun e4 => ?_) (fun e4 => ?_)
     ·have hsh : allB K k i e = true := by unfold allB; rw [e2, e3, e4]; rfl
      rw [if_pos hsh] at hdrop
      have hget : L[cnt]? = some [V j] := by
       have : (L.drop cnt)[0]? = some [V j] := by rw [hdrop]; rfl
       simpa using this
      have hlt : cnt < L.length := (List.getElem?_eq_some_iff.1 hget).1
      have hcv := hyield cnt h₁ [V j] le1 hget hJ1
      rw [hVj] at hcv
      refine t_callv hcv ?_
      rintro b h₂ ⟨le2, ⟨rfl, hJ2⟩ | ⟨rfl, hE⟩⟩
      ·refine gZ ?_
       refine t_cond (fun e => by cases e) (fun _ => ?_)
       refine t_again (hY (f.n - (j + 1)) _ _ (by omega) ⟨le2, j + 1, cnt + 1, ?_, by omega, rfl, hJ2, by omega, ?_⟩)
       ·rw [wrap_id (by omega) (by omega)]; rfl
       ·rw [← List.drop_drop, hdrop]; rfl
      ·refine gZ ?_
       refine t_cond (fun _ => ?_) (fun e => by cases e)
       refine gZ ?_
       exact t_ret ⟨le2, .inr hE⟩
     ·exact t_again (skip (by unfold allB; rw [e4]; simp))
    ·exact t_again (skip (by unfold allB; rw [e3]; simp))
   ·exact t_again (skip (by unfold allB; rw [e2]; rfl))
  ·refine gZ ?_
   refine t_ret ⟨le1, .inl ?_⟩
   rw [List.drop_eq_nil_of_le (by omega : x.events.length ≤ j), handedE] at hdrop
   have : cnt = L.length := by
    have := List.drop_eq_nil_iff.1 hdrop; omega
   rw [← this]; exact hJ1
theorem c2083 {h : LH} (f : TC) (x : TF) (k i : Int) (K : Int) : Gr Tryz.prog 196 #[matV f x k i, .int .i64 K] h fun r h' => ∃ z0 z1, r = .func (.func 244) #[] #[.pointer (some z0), .pointer (some z1)] ∧ MatAt h'.get z0 f x k i ∧ h'.get.cell? z1 = some (.int .i64 K) := by
 refine w2083 _ _ _ _ _ _ _ _ _ _ _ _ X0_ok ?_
 unfold n2083
 refine t_new fun r hr => ?_
 refine t_new fun r1 hr1 => ?_
 have l1 : h.le _ := LH.upd_le (x := (true, .cells #[.int .i64 x.items, .int .i64 x.lands, .int .i64 x.start, .int .i64 x.depend, .int .i64 x.refuse, .int .i64 x.turn, .slice f.p f.n f.c, .int .i64 k, .int .i64 i] 228 (0, 0))) hr
 have l2 := LH.upd_le (x := (true, .cells #[.int .i64 K] 89 (0, 0))) hr1
 refine t_ret ⟨LH.le_trans l1 l2, _, _, rfl, ?_, cell_upd rfl⟩
 refine MatAt.le l2.1 ?_
 constructor <;> (rw [add_plain, add_plain]; exact cell_upd rfl)
theorem t_all {X : XP} {Q : Leaf → LH → Prop} {h : LH} {kk : Value → T} (hX : XOK X) (hk : Kinds h.get) {f : TC} {x : TF} (hx : TreatyR h.get f x) (k i : Int) (K : Nat) (hK : K < 7)
  (hw : ∀ v h' L, h.le h' → L.length = (x.events.filter (allB K k i)).length → (∀ (j : Nat) xs, L[j]? = some xs → ∃ e q m c, (x.events.filter (allB K k i))[j]? = some e ∧ xs = [evV e q m c] ∧ Sl IntE 1 h'.get q m e.items) → Hands X Tryz.prog v h' L → (kk v).wp X Tryz.prog Q h') :
  (T.call false 196 #[matV f x k i, .int .i64 (K : Int)] kk).wp X Tryz.prog Q h := by
 refine t_gr (c2083 f x k i K) ?_
 rintro _ h₁ le1 ⟨z0, z1, rfl, hm, hz⟩
 obtain ⟨L, h1, h2, h3⟩ := hands2095 hX (hk.le le1.1) hK hm hz (hx.le le1.1)
 exact hw _ h₁ L le1 h1 h2 h3
def leastFrom (a : Int) : List Int → Int
 | [] => a
 | y :: l => leastFrom (if y < a then y else a) l
theorem least_nil : least [] = 10000 := rfl
theorem least_cons (y : Int) (l : List Int) : least (y :: l) = if y < least l then y else least l := rfl
theorem leastFrom_min : ∀ (l : List Int) (a : Int), a ≤ 10000 → leastFrom a l = (if a < least l then a else least l)
 | [], a, h => by
  rw [leastFrom, least_nil]
  split <;> omega
 | y :: l, a, h => by
  have hc := least_cap l
  rw [leastFrom, leastFrom_min l _ (by split <;> omega), least_cons]
  generalize least l = b at hc ⊢
  by_cases e1 : y < a <;> by_cases e2 : y < b <;> by_cases e3 : a < b <;> by_cases e4 : a < y <;> simp [e1, e2, e3, e4] <;> omega
theorem leastFrom_cap (l : List Int) : leastFrom 10000 l = least l := by
 rw [leastFrom_min l _ (Int.le_refl _)]
 have hc := least_cap l
 split <;> omega
theorem fallsL_all (x : TF) (k i fr : Int) : fallsL x i fr = ((x.events.filter (allB 4 k i)).filter fun e => decide (e.since ≤ x.start + x.depend) && decide (fr ≤ e.day)).map (·.day) := by
 unfold fallsL
 rw [List.filter_filter]
 congr 1
 refine List.filter_congr fun e _ => ?_
 unfold Tr.early allB landK
 have h4 : Nat.beq 4 4 = true := rfl
 rw [h4, Bool.not_true, Bool.not_false, Bool.true_or, Bool.true_and]
 show ((e.kind == 4) && decide (e.since ≤ x.start + x.depend) && (e.items.contains i && decide (fr ≤ e.day))) = (decide (e.since ≤ x.start + x.depend) && decide (fr ≤ e.day) && ((e.kind == 4) && e.items.contains i))
 cases (e.kind == 4) <;> cases decide (e.since ≤ x.start + x.depend) <;> cases e.items.contains i <;> cases decide (fr ≤ e.day) <;> rfl
theorem limitsL_all (x : TF) (k i fr : Int) : limitsL x k i fr = ((x.events.filter (allB 3 k i)).filter fun e => decide (fr ≤ e.day)).map (·.day) := by
 unfold limitsL
 rw [List.filter_filter]
 congr 1
 refine List.filter_congr fun e _ => ?_
 rw [allB_about (by decide)]
 rw [Bool.and_comm]; rfl
theorem c2096 {h : LH} (hk : Kinds h.get) {f : TC} {x : TF} (hx : TreatyR h.get f x) (hsum : IsI (x.start + x.depend)) (k i fr : Int) : Gr Tryz.prog 247 #[matV f x k i, .int .i64 fr] h fun r _ => r = .int .i64 (falls x i fr) := by
 refine w2096 _ _ _ _ _ _ _ _ _ _ _ _ X0_ok ?_
 unfold n2096
 refine t_all X0_ok hk hx k i 4 (by decide) ?_
 intro v h₁ L le1 hL1 hL2 hH
 rw [falls, fallsL_all x k i fr]
 generalize hF : x.events.filter (allB 4 k i) = F at hL1 hL2
 refine t_each (LH.le_refl h₁) hH (fun j vs h' => ∃ d : Int, vs = [.int .i64 d] ∧ d ≤ 10000 ∧ least ((F.filter fun e => decide (e.since ≤ x.start + x.depend) && decide (fr ≤ e.day)).map (·.day)) = leastFrom d (((F.drop j).filter fun e => decide (e.since ≤ x.start + x.depend) && decide (fr ≤ e.day)).map (·.day)))
  ⟨10000, rfl, Int.le_refl _, (leastFrom_cap _).symm⟩ ?_ ?_
 ·rintro vs h' hle ⟨d, rfl, _, hc⟩
  rw [List.drop_eq_nil_of_le (by omega)] at hc
  refine gZ ?_
  exact t_ret ⟨LH.le_trans le1 hle, by rw [hc]; rfl⟩
 ·rintro j xs vs h' hj hle ⟨d, rfl, hd, hc⟩ Y hY
  obtain ⟨e, q, m, c, he, rfl, hit⟩ := hL2 j xs hj
  rw [drop_of he, List.filter_cons] at hc
  unfold evV
  refine gZ ?_
  rw [wrap_id hsum.1 hsum.2]
  refine t_if (fun e1 => ?_) (fun e1 => ?_)
  ·refine t_if (fun e2 => ?_) (fun e2 => ?_)
   ·rw [if_pos (by simp; omega), List.map_cons, leastFrom] at hc
    exact t_againE hle (hY _ _ hle ⟨_, rfl, by split <;> omega, hc⟩)
   ·rw [if_neg (by simp; omega)] at hc
    exact t_againE hle (hY _ _ hle ⟨_, rfl, hd, hc⟩)
  ·rw [if_neg (by simp; omega)] at hc
   exact t_againE hle (hY _ _ hle ⟨_, rfl, hd, hc⟩)
theorem c2094 {h : LH} (hk : Kinds h.get) {f : TC} {x : TF} (hx : TreatyR h.get f x) (k i fr : Int) : Gr Tryz.prog 243 #[matV f x k i, .int .i64 fr] h fun r _ => r = .int .i64 (limits x k i fr) := by
 refine w2094 _ _ _ _ _ _ _ _ _ _ _ _ X0_ok ?_
 unfold n2094
 refine t_all X0_ok hk hx k i 3 (by decide) ?_
 intro v h₁ L le1 hL1 hL2 hH
 rw [limits, limitsL_all x k i fr]
 generalize hF : x.events.filter (allB 3 k i) = F at hL1 hL2
 refine t_each (LH.le_refl h₁) hH (fun j vs h' => ∃ d : Int, vs = [.int .i64 d] ∧ d ≤ 10000 ∧ least ((F.filter fun e => decide (fr ≤ e.day)).map (·.day)) = leastFrom d (((F.drop j).filter fun e => decide (fr ≤ e.day)).map (·.day)))
  ⟨10000, rfl, Int.le_refl _, (leastFrom_cap _).symm⟩ ?_ ?_
 ·rintro vs h' hle ⟨d, rfl, _, hc⟩
  rw [List.drop_eq_nil_of_le (by omega)] at hc
  refine gZ ?_
  exact t_ret ⟨LH.le_trans le1 hle, by rw [hc]; rfl⟩
 ·rintro j xs vs h' hj hle ⟨d, rfl, hd, hc⟩ Y hY
  obtain ⟨e, q, m, c, he, rfl, hit⟩ := hL2 j xs hj
  rw [drop_of he, List.filter_cons] at hc
  unfold evV
  refine gZ ?_
  refine t_if (fun e2 => ?_) (fun e2 => ?_)
  ·rw [if_pos (by simp; omega), List.map_cons, leastFrom] at hc
   exact t_againE hle (hY _ _ hle ⟨_, rfl, by split <;> omega, hc⟩)
  ·rw [if_neg (by simp; omega)] at hc
   exact t_againE hle (hY _ _ hle ⟨_, rfl, hd, hc⟩)
end Go.Proofs.YtldamlcehbdkdaaGreatDoor.Tre
end
section
namespace Go.TM
open Go Go.Conc
variable {P : Program} {X : XP} {Q : Leaf → LH → Prop}
theorem t_push {α : Type} {Enc : α → List Value → Prop} {h h₀ : LH} {K : Value → T} {ts : Array TypeId} {ty t el : TypeId} {s by_ : Nat} {z : Value} {parts : Array (Nat × Value)} {p : Option Addr} {n c : Nat} {l : List α} (x : α) (ws : List Value) (h0 : ts[0]? = some t) (h1 : ts[1]? = some t) (hu : P.underlying t = some (.slice el))
  (hi : (P.info? el).map (fun i => (i.size, i.bytes, i.zero)) = some (s, by_, some z)) (hsz : z.cells.size = s) (hb : by_ ≤ 1024) (hs : 1 * s ≤ 2 ^ 24 ∧ 1 * s ≠ 0) (hf : Instr.fill (fun i => some (i * s, s)) ((Array.range (1 * s)).map (z.cells[· % z.cells.size]!)) parts.toList = some ws.toArray)
  (hl : ws.length = s) (one : ∀ v ∈ ws, isOne v = true) (hn : n + 1 ≤ 2 ^ 30) (g : Growing Enc el s h₀.get h.get p n c l) (hle : h₀.le h) (he : Enc x ws)
  (hk : ∀ p' c' h', h₀.le h' → (∀ r y, (∀ a, p = some a → a.block ≠ r) → h.get r = some y → h'.get r = some y) → Growing Enc el s h₀.get h'.get p' (n + 1) c' (l ++ [x]) → (K (.slice p' (n + 1) c')).wp X P Q h') :
  (T.sem false (Instr.buildSlice t 1 parts) fun v => T.unS v fun a m mc => T.sem false (Builtin.append_ ts ty #[.slice p n c, .slice a m mc]) K).wp X P Q h := by
 refine t_build hu hi hs.1 hs.2 hf fun r hr => ?_
 have le2 : h.le _ := LH.upd_le (x := (true, .cells ws.toArray el (0, 0))) hr
 refine gG ?_
 refine t_grow (h₀ := h₀) (x := x) (ws := ws) h0 h1 hu hu hi hsz hb hn (g.le le2.1) (LH.le_trans hle le2) he hl ?_ one fun p' c' h' hle' hkept g' => hk p' c' h' hle' (fun b y hb hy => hkept b y hb (le2.1 b y hy)) g'
 intro j w hj
 rw [add_plain, Nat.zero_add]
 exact cell_upd (by simpa using hj)
end Go.TM
namespace Go.TM
open Go Go.Conc
variable {P : Program} {X : XP} {Q : Leaf → LH → Prop}
theorem t_buildR {h : LH} {k : Value → T} {t el : TypeId} {n s b : Nat} {parts : Array (Nat × Value)} {z : Value} (ws : List Value) (hu : P.underlying t = some (.slice el)) (hi : (P.info? el).map (fun i => (i.size, i.bytes, i.zero)) = some (s, b, some z)) (hn : n * s ≤ 2 ^ 24) (hpos : n * s ≠ 0)
  (hf : Instr.fill (fun i => some (i * s, s)) ((Array.range (n * s)).map (z.cells[· % z.cells.size]!)) parts.toList = some ws.toArray)
  (hk : ∀ r h', h.le h' → h.get r = none → (∀ (j : Nat) w, ws[j]? = some w → h'.get.cell? (Addr.add ⟨r, 0, none⟩ j) = some w) → (k (.slice (some ⟨r, 0, none⟩) n n)).wp X P Q h') : (T.sem false (Instr.buildSlice t n parts) k).wp X P Q h :=
 t_build hu hi hn hpos hf fun r hr => hk r _ (LH.upd_le hr) hr fun j w hj => by
  rw [add_plain, Nat.zero_add]
  exact cell_upd (by simpa using hj)
theorem t_growR {α : Type} {Enc : α → List Value → Prop} {h h₀ : LH} {k : Value → T} {ts : Array TypeId} {ty t el : TypeId} {s by_ : Nat} {z : Value} {p : Option Addr} {n c mc r : Nat} {l : List α} (x : α) (ws : List Value) (h0 : ts[0]? = some t) (h1 : ts[1]? = some t) (hu : P.underlying t = some (.slice el))
  (hi : (P.info? el).map (fun i => (i.size, i.bytes, i.zero)) = some (s, by_, some z)) (hsz : z.cells.size = s) (hb : by_ ≤ 1024) (hn : n + 1 ≤ 2 ^ 30) (g : Growing Enc el s h₀.get h.get p n c l) (hle : h₀.le h) (he : Enc x ws) (hl : ws.length = s) (hc : ∀ (j : Nat) w, ws[j]? = some w → h.get.cell? (Addr.add ⟨r, 0, none⟩ j) = some w) (one : ∀ v ∈ ws, isOne v = true)
  (hk : ∀ p' c' h', h₀.le h' → (∀ r y, (∀ a, p = some a → a.block ≠ r) → h.get r = some y → h'.get r = some y) → Growing Enc el s h₀.get h'.get p' (n + 1) c' (l ++ [x]) → (k (.slice p' (n + 1) c')).wp X P Q h') : (T.sem false (Builtin.append_ ts ty #[.slice p n c, .slice (some ⟨r, 0, none⟩) 1 mc]) k).wp X P Q h :=
 t_grow (h₀ := h₀) (x := x) (ws := ws) h0 h1 hu hu hi hsz hb hn g hle he hl hc one hk
end Go.TM
namespace Go.TM
open Go Go.Conc
variable {P : Program} {X : XP} {Q : Leaf → LH → Prop}
theorem setCell_updU {h : Cells} {r o : Nat} {cs : Array Value} {el : TypeId} {fz : Nat × Nat} {v : Value} : (h.upd r (true, .cells cs el fz)).setCell ⟨r, o, none⟩ v = h.upd r (true, .cells (cs.setIfInBounds o v) el fz) := by
 funext k
 unfold Cells.setCell Cells.upd
 by_cases e : k = r
 ·subst e; simp
 ·simp [e]
theorem frozen_upd {h : Cells} {r o : Nat} {cs : Array Value} {el : TypeId} : (h.upd r (true, .cells cs el (0, 0))).frozen? ⟨r, o, none⟩ = false := by
 unfold Cells.frozen?
 simp [Cells.upd]
theorem t_storeU {h : LH} {r o : Nat} {cs : Array Value} {el : TypeId} {a : Addr} {v : Value} {k : T} (ha : a = ⟨r, o, none⟩) (h1 : isOne v = true) (ho : o < cs.size) (hk : k.wp X P Q { h with get := h.get.upd r (true, .cells (cs.setIfInBounds o v) el (0, 0)) }) :
  (T.store a v k).wp X P Q { h with get := h.get.upd r (true, .cells cs el (0, 0)) } := by
 subst ha
 refine t_store (v₀ := cs[o]) h1 ⟨_, Cells.upd_self _ _ _⟩ (cell_upd (by simp [ho])) frozen_upd ?_
 show k.wp X P Q { h with get := (h.get.upd r (true, .cells cs el (0, 0))).setCell ⟨r, o, none⟩ v }
 rw [setCell_updU]; exact hk
def BoolE (h : Cells) (a : Addr) (b : Bool) : Prop := h.cell? (a.add 0) = some (.bool b)
theorem BoolE.grow : Grow BoolE := fun _ _ _ _ hl h => hl _ _ h
end Go.TM
end
section
namespace Go.Proofs.YtldamlcehbdkdaaGreatDoor.Tre
open Go Go.TM Go.Proofs Go.TM.Tr
attribute [local irreducible] T.wp CV FWK
theorem c2097 {h : LH} (hk : Kinds h.get) {f : TC} {x : TF} (hx : TreatyR h.get f x) {z0 z1 : Addr} {k i d : Int} (hm : MatAt h.get z0 f x k i) (hz : h.get.cell? z1 = some (.int .i64 d)) (fr : Int) :
  Gr Tryz.prog 248 #[.int .i64 fr, .pointer (some z0), .pointer (some z1)] h fun r _ => r = .bool (lifted x k i fr d) := by
 refine w2097 _ _ _ X0_ok ?_
 unfold n2097
 obtain ⟨f0, f1, f2, f3, f4, f5, f6, f7, f8⟩ := hm
 refine gZ ?_
 refine t_all X0_ok hk hx k i 2 (by decide) ?_
 intro v h₁ L le1 hL1 hL2 hH
 have hlift : lifted x k i fr d = (x.events.filter (allB 2 k i)).any fun l => decide (fr ≤ l.day ∧ l.day ≤ d) := by
  unfold Tr.lifted
  rw [List.any_filter]
  refine congrArg (fun q => x.events.any q) (funext fun e => ?_)
  rw [allB_about (by decide)]; rfl
 rw [hlift]
 generalize hF : x.events.filter (allB 2 k i) = F at hL1 hL2
 have hz1 := Cells.cell?_le le1.1 hz
 refine t_each (LH.le_refl h₁) hH (fun j vs h' => vs = [.bool false] ∧ (F.any fun l => decide (fr ≤ l.day ∧ l.day ≤ d)) = (F.drop j).any fun l => decide (fr ≤ l.day ∧ l.day ≤ d)) ⟨rfl, rfl⟩ ?_ ?_
 ·rintro vs h' hle ⟨rfl, hc⟩
  rw [List.drop_eq_nil_of_le (by omega)] at hc
  refine gZ ?_
  exact t_ret ⟨LH.le_trans le1 hle, by rw [hc]; rfl⟩
 ·rintro j xs vs h' hj hle ⟨rfl, hc⟩ Y hY
  obtain ⟨e, q, m, c, he, rfl, hit⟩ := hL2 j xs hj
  rw [drop_of he, List.any_cons] at hc
  have hz2 := Cells.cell?_le hle.1 hz1
  unfold evV
  refine gZ ?_
  refine t_pu (c2052 _ _ _) ?_
  refine gZ ?_
  refine t_cond (fun e1 => ?_) (fun e1 => ?_)
  ·refine t_retnE hle ?_
   have e1' : decide (fr ≤ e.day ∧ e.day ≤ d) = true := by simpa [inB] using e1
   rw [e1', Bool.true_or] at hc
   refine gZ ?_
   exact t_ret ⟨LH.le_trans le1 hle, by rw [hc]⟩
  ·have e1' : decide (fr ≤ e.day ∧ e.day ≤ d) = false := by simpa [inB] using e1
   rw [e1', Bool.false_or] at hc
   exact t_againE hle (hY _ _ hle ⟨rfl, hc⟩)
def askCells (f : TC) (x : TF) (k i a : Int) : List Value := [.int .i64 x.items, .int .i64 x.lands, .int .i64 x.start, .int .i64 x.depend, .int .i64 x.refuse, .int .i64 x.turn, .slice f.p f.n f.c, .int .i64 k, .int .i64 i, .int .i64 a, .int .i64 (askEnd x k i a), .bool (fallen x k i a)]
def askV (f : TC) (x : TF) (k i a : Int) : Value := .agg #[.int .i64 x.items, .int .i64 x.lands, .int .i64 x.start, .int .i64 x.depend, .int .i64 x.refuse, .int .i64 x.turn, .slice f.p f.n f.c, .int .i64 k, .int .i64 i, .int .i64 a, .int .i64 (askEnd x k i a), .bool (fallen x k i a)]
def AskE (f : TC) (x : TF) (k i : Int) (h : Cells) (a : Addr) (d : Int) : Prop := ∀ (j : Nat) w, (askCells f x k i d)[j]? = some w → h.cell? (a.add j) = some w
def AskEnc (f : TC) (x : TF) (k i : Int) (d : Int) (ws : List Value) : Prop := ws = askCells f x k i d
theorem AskE.grow {f : TC} {x : TF} {k i : Int} : Grow (AskE f x k i) := fun _ _ _ _ hl h j w hj => hl _ _ (h j w hj)
theorem AskEnc.len {f : TC} {x : TF} {k i : Int} : ∀ d ws, AskEnc f x k i d ws → ws.length = 12 := by rintro d _ rfl; rfl
theorem AskEnc.e {f : TC} {x : TF} {k i : Int} {h' : Cells} : ∀ a d ws, AskEnc f x k i d ws → (∀ (j : Nat) w, ws[j]? = some w → h'.cell? (a.add j) = some w) → AskE f x k i h' a d := by
 rintro a d _ rfl hc; exact hc
theorem refused_any (x : TF) (k i a d : Int) : refused x k i a d = (x.events.filter (allB 1 k i)).any fun r => decide (a ≤ r.day ∧ r.day ≤ a + x.refuse ∧ r.day ≤ d) && !lifted x k i r.day d := by
 unfold Tr.refused
 rw [List.any_filter]
 refine congrArg (fun q => x.events.any q) (funext fun e => ?_)
 rw [allB_about (by decide)]; rfl
theorem in_min (n a b d : Int) : inB n a (if b < d then b else d) = decide (a ≤ n ∧ n ≤ b ∧ n ≤ d) := by
 unfold inB
 rw [Bool.eq_iff_iff]
 simp only [Bool.and_eq_true, decide_eq_true_eq]
 split <;> omega
theorem c2085 {h : LH} (hk : Kinds h.get) {f : TC} {x : TF} (hx : TreatyR h.get f x) (k i : Int) {a : Int} (ha : IsI (a + x.refuse)) (e : Int) (fl : Bool) (d : Int) :
  Gr Tryz.prog 201 #[.agg #[.int .i64 x.items, .int .i64 x.lands, .int .i64 x.start, .int .i64 x.depend, .int .i64 x.refuse, .int .i64 x.turn, .slice f.p f.n f.c, .int .i64 k, .int .i64 i, .int .i64 a, .int .i64 e, .bool fl], .int .i64 d] h fun r _ => r = .bool (refused x k i a d) := by
 refine w2085 _ _ _ _ _ _ _ _ _ _ _ _ _ _ _ X0_ok ?_
 unfold n2085
 refine t_new fun r hr => ?_
 refine t_new fun r1 hr1 => ?_
 have l1 : h.le _ := LH.upd_le (x := (true, .cells #[.int .i64 x.items, .int .i64 x.lands, .int .i64 x.start, .int .i64 x.depend, .int .i64 x.refuse, .int .i64 x.turn, .slice f.p f.n f.c, .int .i64 k, .int .i64 i, .int .i64 a, .int .i64 e, .bool fl] 233 (0, 0))) hr
 have l2 := LH.upd_le (x := (true, .cells #[.int .i64 d] 3 (0, 0))) hr1
 have hm : MatAt (h.get.upd r (true, .cells #[.int .i64 x.items, .int .i64 x.lands, .int .i64 x.start, .int .i64 x.depend, .int .i64 x.refuse, .int .i64 x.turn, .slice f.p f.n f.c, .int .i64 k, .int .i64 i, .int .i64 a, .int .i64 e, .bool fl] 233 (0, 0))) ⟨r, 0, none⟩ f x k i := by
  constructor <;> (rw [add_plain, add_plain]; exact cell_upd rfl)
 have h9 : Cells.cell? (h.get.upd r (true, .cells #[.int .i64 x.items, .int .i64 x.lands, .int .i64 x.start, .int .i64 x.depend, .int .i64 x.refuse, .int .i64 x.turn, .slice f.p f.n f.c, .int .i64 k, .int .i64 i, .int .i64 a, .int .i64 e, .bool fl] 233 (0, 0))) (Addr.add ⟨r, 0, none⟩ 9) = some (.int .i64 a) := by rw [add_plain]; exact cell_upd rfl
 have hz := cell_upd (h := h.get.upd r (true, .cells #[.int .i64 x.items, .int .i64 x.lands, .int .i64 x.start, .int .i64 x.depend, .int .i64 x.refuse, .int .i64 x.turn, .slice f.p f.n f.c, .int .i64 k, .int .i64 i, .int .i64 a, .int .i64 e, .bool fl] 233 (0, 0))) (r := r1) (i := 0) (m := true) (cs := #[.int .i64 d]) (el := 3) (f := (0, 0)) (v := .int .i64 d) rfl
 have hm := hm.le l2.1
 have h9 := Cells.cell?_le l2.1 h9
 have l12 := LH.le_trans l1 l2
 generalize hh : ({ h with get := (h.get.upd r (true, .cells #[.int .i64 x.items, .int .i64 x.lands, .int .i64 x.start, .int .i64 x.depend, .int .i64 x.refuse, .int .i64 x.turn, .slice f.p f.n f.c, .int .i64 k, .int .i64 i, .int .i64 a, .int .i64 e, .bool fl] 233 (0, 0))).upd r1 (true, .cells #[.int .i64 d] 3 (0, 0)) } : LH) = h2 at l12 ⊢
 have hm : MatAt h2.get ⟨r, 0, none⟩ f x k i := by rw [← hh]; exact hm
 have h9 : h2.get.cell? (Addr.add ⟨r, 0, none⟩ 9) = some (.int .i64 a) := by rw [← hh]; exact h9
 have hz : h2.get.cell? ⟨r1, 0, none⟩ = some (.int .i64 d) := by rw [← hh]; exact hz
 clear hh l1 l2
 have hm2 := hm
 obtain ⟨f0, f1, f2, f3, f4, f5, f6, f7, f8⟩ := hm
 refine gZ ?_
 refine t_all X0_ok (hk.le l12.1) (hx.le l12.1) k i 1 (by decide) ?_
 intro v h₁ L le1 hL1 hL2 hH
 rw [refused_any]
 generalize hF : x.events.filter (allB 1 k i) = F at hL1 hL2
 have hm3 := hm2.le le1.1
 have h93 := Cells.cell?_le le1.1 h9
 have hz3 := Cells.cell?_le le1.1 hz
 refine t_each (LH.le_refl h₁) hH (fun j vs h' => vs = [.bool false] ∧ (F.any fun r => decide (a ≤ r.day ∧ r.day ≤ a + x.refuse ∧ r.day ≤ d) && !lifted x k i r.day d) = (F.drop j).any fun r => decide (a ≤ r.day ∧ r.day ≤ a + x.refuse ∧ r.day ≤ d) && !lifted x k i r.day d) ⟨rfl, rfl⟩ ?_ ?_
 ·rintro vs h' hle ⟨rfl, hc⟩
  rw [List.drop_eq_nil_of_le (by omega)] at hc
  refine gZ ?_
  exact t_ret ⟨LH.le_trans l12 (LH.le_trans le1 hle), by rw [hc]; rfl⟩
 ·rintro j xs vs h' hj hle ⟨rfl, hc⟩ Y hY
  obtain ⟨ev, q, m, c, he, rfl, hit⟩ := hL2 j xs hj
  rw [drop_of he, List.any_cons] at hc
  have hm4 := hm3.le hle.1
  have h94 := Cells.cell?_le hle.1 h93
  have hz4 := Cells.cell?_le hle.1 hz3
  have f44 : h'.get.cell? (Addr.add (Addr.add (Addr.add ⟨r, 0, none⟩ 0) 0) 4) = some (.int .i64 x.refuse) := by
   have := hm4.f4
   rwa [show Addr.add (Addr.add (⟨r, 0, none⟩ : Addr) 0) 0 = Addr.add ⟨r, 0, none⟩ 0 by rw [add_zero']]
  unfold evV
  refine gZ ?_
  rw [wrap_id ha.1 ha.2]
  refine t_pu (c2052 _ _ _) ?_
  rw [in_min]
  refine gZ ?_
  refine t_cond (fun e1 => ?_) (fun e1 => ?_)
  ·rw [e1, Bool.true_and] at hc
   have le24 := LH.le_trans le1 hle
   refine t_callv (cv_fw X0_ok (by rfl) (c2097 ((hk.le l12.1).le le24.1) ((hx.le l12.1).le le24.1) hm4 hz4 ev.day)) ?_
   rintro _ h5 ⟨le5, rfl⟩
   refine gZ ?_
   refine t_cond (fun e2 => ?_) (fun e2 => ?_)
   ·refine t_retnE (LH.le_trans hle le5) ?_
    refine gZ ?_
    rw [e2, Bool.true_or] at hc
    exact t_ret ⟨LH.le_trans l12 (LH.le_trans le24 le5), by rw [hc]⟩
   ·rw [e2, Bool.false_or] at hc
    exact t_againE (LH.le_trans hle le5) (hY _ _ (LH.le_trans hle le5) ⟨rfl, hc⟩)
  ·rw [e1, Bool.false_and, Bool.false_or] at hc
   exact t_againE hle (hY _ _ hle ⟨rfl, hc⟩)
theorem c2137 {h : LH} (hk : Kinds h.get) {f : TC} {x : TF} (hx : TreatyR h.get f x) (k i : Int) {a : Int} (ha : IsI (a + x.refuse)) (he : IsI (askEnd x k i a - 1)) (d : Int) :
  Gr Tryz.prog 297 #[askV f x k i a, .int .i64 d] h fun r _ => r = .tuple #[.int .i64 a, .bool (decide (a ≤ d ∧ d < askEnd x k i a) && !refused x k i a d)] := by
 refine w2137 _ _ _ _ _ _ _ _ _ _ _ _ _ _ _ X0_ok ?_
 unfold n2137
 rw [wrap_id he.1 he.2]
 have hin : inB d a (askEnd x k i a - 1) = decide (a ≤ d ∧ d < askEnd x k i a) := by
  unfold inB
  rw [Bool.eq_iff_iff]
  simp only [Bool.and_eq_true, decide_eq_true_eq]
  omega
 refine t_pu (c2052 _ _ _) ?_
 rw [hin]
 refine gZ ?_
 refine t_cond (fun e1 => ?_) (fun e1 => ?_)
 ·refine t_gr (c2085 hk hx k i ha _ _ d) ?_
  rintro _ h1 le1 rfl
  refine gZ ?_
  exact t_ret ⟨le1, by rw [e1, Bool.true_and]⟩
 ·refine gZ ?_
  refine t_both ?_ ?_
  ·refine gZ ?_
   exact t_ret ⟨LH.le_refl _, by rw [e1, Bool.false_and]⟩
  ·refine gZ ?_
   exact t_ret ⟨LH.le_refl _, by rw [e1, Bool.false_and]⟩
theorem askDays_all (x : TF) (k i : Int) : askDays x k i = ((x.events.filter (allB 0 k i)).filter fun e => decide (e.day < falls x i 0)).map (·.day) := by
 unfold askDays
 rw [List.filter_filter]
 congr 1
 refine List.filter_congr fun e _ => ?_
 rw [allB_about (by decide), Bool.and_comm]; rfl
theorem c2084 {h : LH} (hk : Kinds h.get) {f : TC} {x : TF} (hx : TreatyR h.get f x) (hsum : IsI (x.start + x.depend)) (hlen : x.events.length ≤ 1000) (k i : Int) :
  Gr Tryz.prog 200 #[matV f x k i] h fun r h' => ∃ p n c, r = .slice p n c ∧ Sl (AskE f x k i) 12 h'.get p n (askDays x k i) := by
 refine w2084 _ _ _ _ _ _ _ _ _ _ _ X0_ok ?_
 unfold n2084
 refine t_all X0_ok hk hx k i 0 (by decide) ?_
 intro v h₁ L le1 hL1 hL2 hH
 rw [askDays_all]
 have hFl : (x.events.filter (allB 0 k i)).length ≤ 1000 := Nat.le_trans (List.length_filter_le _ _) hlen
 generalize hF : x.events.filter (allB 0 k i) = F at hL1 hL2 hFl
 refine t_each (LH.le_refl h₁) hH (fun j vs h' => ∃ (p : Option Addr) (n c : Nat), vs = [.slice p n c] ∧ Growing (AskEnc f x k i) 233 12 h₁.get h'.get p n c (((F.take j).filter fun e => decide (e.day < falls x i 0)).map (·.day)))
  ⟨none, 0, 0, rfl, Growing.nil⟩ ?_ ?_
 ·rintro vs h' hle ⟨p, n, c, rfl, g⟩
  rw [hL1, List.take_of_length_le (Nat.le_refl _)] at g
  refine gZ ?_
  refine t_ret ⟨LH.le_trans le1 hle, p, n, c, rfl, g.sl AskEnc.len (by omega) AskEnc.e ?_⟩
  rw [List.length_map]
  have := List.length_filter_le (fun e : Ev => decide (e.day < falls x i 0)) F
  omega
 ·rintro j xs vs h' hj hle ⟨p, n, c, rfl, g⟩ Y hY
  obtain ⟨e, q, m, cc, he, rfl, hit⟩ := hL2 j xs hj
  have htake : F.take (j + 1) = F.take j ++ [e] := by rw [List.take_add_one, he]; rfl
  have le2 := LH.le_trans le1 hle
  unfold evV
  refine gZ ?_
  refine t_gr (c2096 (hk.le le2.1) (hx.le le2.1) hsum k i 0) ?_
  rintro _ h3 le3 rfl
  refine gZ ?_
  refine t_if (fun e1 => ?_) (fun e1 => ?_)
  ·refine t_againE (LH.le_trans hle le3) (hY _ _ (LH.le_trans hle le3) ⟨p, n, c, rfl, ?_⟩)
   rw [htake, List.filter_append, List.filter_cons, if_neg (by simp; omega)]
   simpa using g.le le3.1
  have le23 := LH.le_trans le2 le3
  refine t_gr (c2096 (hk.le le23.1) (hx.le le23.1) hsum k i e.day) ?_
  rintro _ h4 le4 rfl
  refine gZ ?_
  have le24 := LH.le_trans le23 le4
  refine t_gr (c2094 (hk.le le24.1) (hx.le le24.1) k i e.day) ?_
  rintro _ h5 le5 rfl
  refine gZ ?_
  have hle5 := LH.le_trans hle (LH.le_trans le3 (LH.le_trans le4 le5))
  have hn : n ≤ 1000 := by
   rw [g.count AskEnc.len (by omega), List.length_map]
   have h1 := List.length_filter_le (fun e : Ev => decide (e.day < falls x i 0)) (F.take j)
   have h2 : (F.take j).length ≤ 1000 := by rw [List.length_take]; omega
   omega
  refine t_push e.day (askCells f x k i e.day) rfl rfl undAsks infAsk rfl (by omega) (by decide) (by kernel_rfl) rfl ?_ (by omega) (g.le (LH.le_trans le3 (LH.le_trans le4 le5)).1) hle5 rfl ?_
  ·intro w hw
   simp only [askCells, List.mem_cons, List.not_mem_nil, or_false] at hw
   rcases hw with rfl | rfl | rfl | rfl | rfl | rfl | rfl | rfl | rfl | rfl | rfl | rfl <;> rfl
  ·intro p' c' h6 le6 _ g6
   refine gZ ?_
   refine t_againE le6 (hY _ _ le6 ⟨p', _, c', rfl, ?_⟩)
   rw [htake, List.filter_append, List.filter_cons, if_pos (by simp; omega), List.map_append]
   exact g6
end Go.Proofs.YtldamlcehbdkdaaGreatDoor.Tre
end
section
namespace Go.Proofs.YtldamlcehbdkdaaGreatDoor.Tre
open Go Go.TM Go.Proofs Go.TM.Tr
attribute [local irreducible] T.wp CV FWK
structure Right (x : TF) : Prop where
 ok : Ok x
 start : 0 ≤ x.start ∧ x.start ≤ 9999
 depend : 0 ≤ x.depend ∧ x.depend ≤ 9999
 refuse : 0 ≤ x.refuse ∧ x.refuse ≤ 9999
 turn : 0 ≤ x.turn ∧ x.turn ≤ 9999
 many : x.events.length ≤ 10
theorem Right.of {x : TF} (h : checkT x = 0) : Right x := by
 have := check_numbers h
 exact ⟨check_ok h, this.2.2.1, this.2.2.2.1, this.2.2.2.2.1, this.2.2.2.2.2.1, this.2.2.2.2.2.2⟩
theorem Right.sum {x : TF} (r : Right x) : IsI (x.start + x.depend) := by have := r.start; have := r.depend; unfold IsI; omega
theorem Right.askDay {x : TF} (r : Right x) {k i a : Int} (h : a ∈ askDays x k i) : 0 ≤ a ∧ a ≤ 9999 := r.ok.has (mem_asks.1 h).1
theorem falls_low {x : TF} (v : Ok x) (i f : Int) : 0 ≤ falls x i f ∧ falls x i f ≤ 10000 := by
 refine ⟨?_, least_cap _⟩
 rcases least_mem (l := fallsL x i f) with h | h
 ·unfold falls; omega
 ·obtain ⟨e, h1, _, _, h4⟩ := (mem_falls.1 h).1
  have := v e h1
  unfold falls; omega
theorem limits_low {x : TF} (v : Ok x) (k i f : Int) : 0 ≤ limits x k i f ∧ limits x k i f ≤ 10000 := by
 refine ⟨?_, least_cap _⟩
 rcases least_mem (l := limitsL x k i f) with h | h
 ·unfold limits; omega
 ·have := v.has (mem_limits.1 h).1
  unfold limits; omega
theorem askEnd_low {x : TF} (v : Ok x) (k i a : Int) : 0 ≤ askEnd x k i a ∧ askEnd x k i a ≤ 10000 := by
 have h1 := falls_low v i a
 have h2 := limits_low v k i a
 unfold askEnd; split <;> omega
theorem askDays_len (x : TF) (k i : Int) : (askDays x k i).length ≤ x.events.length := by
 unfold askDays; rw [List.length_map]; exact List.length_filter_le _ _
def bestI : Option Int → List Int → Option Int
 | o, [] => o
 | none, a :: l => bestI (some a) l
 | some b, a :: l => bestI (some (if a < b then a else b)) l
theorem bestI_some : ∀ (l : List Int) (b : Int), bestI (some b) l = some (leastFrom b l)
 | [], b => rfl
 | a :: l, b => by rw [bestI, leastFrom, bestI_some l]
theorem bestI_least {l : List Int} (h : ∀ v ∈ l, v < 10000) : leastOr l = match bestI none l with | none => -1 | some n => n := by
 cases l with
 | nil => rfl
 | cons a l =>
  rw [bestI, bestI_some]
  have ha := h a (by simp)
  simp only
  rw [leastFrom_min l a (by omega), leastOr, if_neg (by simp), least_cons]
def zeroAsk : List Value := [.int .i64 0, .int .i64 0, .int .i64 0, .int .i64 0, .int .i64 0, .int .i64 0, .slice none 0 0, .int .i64 0, .int .i64 0, .int .i64 0, .int .i64 0, .bool false]
def bestCells (f : TC) (x : TF) (k i : Int) : Option Int → List Value
 | none => zeroAsk
 | some a => askCells f x k i a
theorem goodBy_step {x : TF} {k i d a : Int} {l : List Int} : (a :: l).filter (goodBy x k i d) = if goodBy x k i d a = true then a :: l.filter (goodBy x k i d) else l.filter (goodBy x k i d) := List.filter_cons
def turnO (x : TF) (k i d : Int) : Option Int := bestI none (turnedL x k i d)
theorem turnO_turned {x : TF} (v : Ok x) (k i d : Int) : turned x k i d = match turnO x k i d with | none => -1 | some n => n :=
 bestI_least fun n hn => (v.turnedL n hn).2
theorem turnO_some {x : TF} (v : Ok x) {k i d n : Int} (h : turnO x k i d = some n) : 0 ≤ n ∧ n = turned x k i d := by
 have h1 := turnO_turned v k i d
 rw [h] at h1
 simp only at h1
 refine ⟨?_, h1.symm⟩
 rcases turned_vals v k i d with ⟨h2, h3⟩ | ⟨h2, _⟩
 ·unfold turnO at h; rw [h3] at h; cases h
 ·have := (v.turnedL _ h2).1; omega
theorem turnO_none {x : TF} (v : Ok x) {k i d : Int} : turnO x k i d = none ↔ ¬ 0 ≤ turned x k i d := by
 have h1 := turnO_turned v k i d
 cases h : turnO x k i d with
 | none =>
  rw [h] at h1; simp only at h1; constructor
  ·intro _; omega
  ·intro _; rfl
 | some n =>
  have := turnO_some v h
  constructor
  ·intro e; cases e
  ·intro h2; omega
set_option maxRecDepth 10000 in
theorem c2064 {h : LH} (hk : Kinds h.get) {f : TC} {x : TF} (hx : TreatyR h.get f x) (rt : Right x) (k i d : Int) :
    Gr Tryz.prog 144 #[matV f x k i, .int .i64 d] h fun r _ => r = .tuple #[.agg (bestCells f x k i (turnO x k i d)).toArray, .bool (turnO x k i d).isSome] := by
  refine w2064 _ _ _ _ _ _ _ _ _ _ _ _ X0_ok ?_
  unfold n2064
  refine t_gr (c2084 hk hx rt.sum (Nat.le_trans rt.many (by omega)) k i) ?_
  rintro _ h₁ le1 ⟨p, n, c, rfl, hs⟩
  refine gZ ?_
  have hn := hs.1
  have hb := hs.2.1
  have hlen := askDays_len x k i
  have hmany := rt.many
  refine t_loop (fun mm vs h' => h₁.le h' ∧ ∃ (j : Nat) (o : Option Int), vs = .bool o.isSome :: .int .i64 j :: bestCells f x k i o ∧ j ≤ n ∧ mm = n - j ∧ turnO x k i d = bestI o (((askDays x k i).drop j).filter (goodBy x k i d)))
    ⟨LH.le_refl _, 0, none, rfl, Nat.zero_le _, rfl, rfl⟩ ?_
  rintro Y mm vs h2 hY ⟨le2, j, o, rfl, hj, rfl, hc⟩
  have next : ∀ h' (o' : Option Int), h₁.le h' → j + 1 ≤ n → turnO x k i d = bestI o' (((askDays x k i).drop (j + 1)).filter (goodBy x k i d)) → Y (.bool o'.isSome :: .int .i64 (IntKind.wrap .i64 ((j : Int) + 1)) :: bestCells f x k i o') h' := by
    intro h' o' hle' hlt hc'
    refine hY (n - (j + 1)) _ _ (by omega) ⟨hle', j + 1, o', ?_, by omega, rfl, hc'⟩
    rw [wrap_id (by omega) (by omega)]; rfl
  rcases o with _ | best
  all_goals
    simp only [Option.isSome, bestCells, zeroAsk, askCells] at next ⊢
    refine gZ ?_
    refine t_if (fun e1 => ?_) (fun e1 => ?_)
    · obtain ⟨a, ad, ha, had, he⟩ := (hs.le AskE.grow le2.1).at (i := j) (by omega)
      have g0 := he 0 _ rfl
      have g1 := he 1 _ rfl
      have g2 := he 2 _ rfl
      have g3 := he 3 _ rfl
      have g4 := he 4 _ rfl
      have g5 := he 5 _ rfl
      have g6 := he 6 _ rfl
      have g7 := he 7 _ rfl
      have g8 := he 8 _ rfl
      have g9 := he 9 _ rfl
      have g10 := he 10 _ rfl
      have g11 := he 11 _ rfl
      have had2 := rt.askDay (List.mem_of_getElem? ha)
      have hend := askEnd_low rt.ok k i a
      have hturn := rt.turn
      have href := rt.refuse
      have le12 := LH.le_trans le1 le2
      rw [drop_of ha, goodBy_step] at hc
      have hgb : goodBy x k i d a = (fallen x k i a && (decide (askEnd x k i a ≤ d ∧ d ≤ askEnd x k i a + x.turn) && !refused x k i a (askEnd x k i a - 1))) := rfl
      have bad : goodBy x k i d a = false → ∀ h', h₁.le h' → Y _ h' := fun hb h' hle' => next h' _ hle' (by omega) (by rw [if_neg (by rw [hb]; simp)] at hc; exact hc)
      refine gZ ?_
      refine t_cond (fun e2 => ?_) (fun e2 => ?_)
      · rw [wrap_id (by omega) (by omega)]
        refine t_pu (c2052 _ _ _) ?_
        have hin : inB d (askEnd x k i a) (askEnd x k i a + x.turn) = decide (askEnd x k i a ≤ d ∧ d ≤ askEnd x k i a + x.turn) := by
          unfold inB
          rw [Bool.eq_iff_iff]
          simp only [Bool.and_eq_true, decide_eq_true_eq]
        rw [hin]
        refine gZ ?_
        refine t_cond (fun e3 => ?_) (fun e3 => ?_)
        · rw [wrap_id (by omega) (by omega)]
          refine t_gr (c2085 (hk.le le12.1) (hx.le le12.1) k i (a := a) (by unfold IsI; omega) _ _ _) ?_
          rintro _ h3 le3 rfl
          refine gZ ?_
          have le13 := LH.le_trans le2 le3
          refine t_cond (fun e4 => ?_) (fun e4 => ?_)
          · have hg : goodBy x k i d a = true := by rw [hgb, e2, e3, e4]; rfl
            rw [if_pos hg] at hc
            first
              | (refine t_cond (fun _ => ?_) (fun e => by cases e)
                 exact t_again (next h3 (some a) le13 (by omega) hc))
              | (refine t_cond (fun e => by cases e) (fun _ => ?_)
                 refine t_if (fun e5 => ?_) (fun e5 => ?_)
                 · exact t_again (next h3 (some a) le13 (by omega) (by rw [hc, bestI, if_pos e5]))
                 · exact t_again (next h3 (some best) le13 (by omega) (by rw [hc, bestI, if_neg e5])))
          · exact t_again (bad (by rw [hgb, e4]; simp) h3 le13)
        · exact t_again (bad (by rw [hgb, e3]; simp) h2 le2)
      · exact t_again (bad (by rw [hgb, e2]; simp) h2 le2)
    · refine gZ ?_
      rw [List.drop_eq_nil_of_le (by omega)] at hc
      refine t_ret ⟨LH.le_trans le1 le2, ?_⟩
      rw [hc]; rfl
end Go.Proofs.YtldamlcehbdkdaaGreatDoor.Tre
end
section
namespace Go.Proofs.YtldamlcehbdkdaaGreatDoor.Tre
open Go Go.TM Go.Proofs Go.TM.Tr
set_option maxRecDepth 100000 in
theorem via_ask_eq {v : Value} {d : Int} {A : Next → Cells → Prop} {E : Halt → Cells → Prop} {H : Cells} : Sem.lwp Tryz.prog (do let d ← Deferred.ofValue (.func (.func 297) #[] #[]) #[v, .int .i64 d]; invoke d.target d.args) A E H = Sem.lwp Tryz.prog (do let d ← Deferred.ofValue (.func (.method "touchmark/treaty.on") #[.iface 233 v] #[]) #[.int .i64 d]; invoke d.target d.args) A E H := by
 kernel_rfl
set_option maxRecDepth 100000 in
theorem via_ask {X : XP} {v : Value} {d : Int} {h : LH} {Q : Value → LH → Prop} (c : CV X Tryz.prog (.func (.func 297) #[] #[]) #[v, .int .i64 d] h Q) : CV X Tryz.prog (.func (.method "touchmark/treaty.on") #[.iface 233 v] #[]) #[.int .i64 d] h Q := by
 intro main R hR fr cs hk
 exact via_ask_eq.mp (c main R hR fr cs hk)
set_option maxRecDepth 100000 in
theorem via_turn_eq {v : Value} {d : Int} {A : Next → Cells → Prop} {E : Halt → Cells → Prop} {H : Cells} : Sem.lwp Tryz.prog (do let d ← Deferred.ofValue (.func (.func 298) #[] #[]) #[v, .int .i64 d]; invoke d.target d.args) A E H = Sem.lwp Tryz.prog (do let d ← Deferred.ofValue (.func (.method "touchmark/treaty.on") #[.iface 351 v] #[]) #[.int .i64 d]; invoke d.target d.args) A E H := by
 kernel_rfl
set_option maxRecDepth 100000 in
theorem via_turn {X : XP} {v : Value} {d : Int} {h : LH} {Q : Value → LH → Prop} (c : CV X Tryz.prog (.func (.func 298) #[] #[]) #[v, .int .i64 d] h Q) : CV X Tryz.prog (.func (.method "touchmark/treaty.on") #[.iface 351 v] #[]) #[.int .i64 d] h Q := by
 intro main R hR fr cs hk
 exact via_turn_eq.mp (c main R hR fr cs hk)
attribute [local irreducible] T.wp CV FWK
inductive Title where
 | ask (a : Int)
 | turn (a b : Int)
def turnV (f : TC) (x : TF) (k i a b : Int) : Value := .agg #[.int .i64 x.items, .int .i64 x.lands, .int .i64 x.start, .int .i64 x.depend, .int .i64 x.refuse, .int .i64 x.turn, .slice f.p f.n f.c, .int .i64 k, .int .i64 i, .int .i64 a, .int .i64 (askEnd x k i a), .bool (fallen x k i a), .int .i64 b, .int .i64 (limits x k i b)]
def titleV (f : TC) (x : TF) (k i : Int) : Title → Value
 | .ask a => .iface 233 (askV f x k i a)
 | .turn a b => .iface 351 (turnV f x k i a b)
def titleDate : Title → Int
 | .ask a => a
 | .turn a _ => a
def titleOn (x : TF) (k i d : Int) : Title → Bool
 | .ask a => decide (a ≤ d ∧ d < askEnd x k i a) && !refused x k i a d
 | .turn _ b => decide (b ≤ d ∧ d < limits x k i b)
def turnsL (x : TF) (k i : Int) (l : List Ev) : List Title := (l.filter fun e => decide (0 ≤ turned x k i e.day)).map fun e => .turn (turned x k i e.day) e.day
def titlesL (x : TF) (k i : Int) : List Title := (askDays x k i).map .ask ++ turnsL x k i (x.events.filter (allB 5 k i))
theorem titles_held (x : TF) (k i d : Int) : ((titlesL x k i).filter (titleOn x k i d)).map titleDate = held x k i d := by
 unfold titlesL turnsL held askHeld turnHeld
 rw [List.filter_append, List.map_append]
 congr 1
 ·rw [List.filter_map, List.map_map]
  have : titleDate ∘ Title.ask = id := rfl
  rw [this, List.map_id]; rfl
 ·rw [List.filter_map, List.map_map, List.filter_filter, List.filter_filter]
  congr 1
  refine List.filter_congr fun e _ => ?_
  rw [allB_about (by decide)]
  show (decide (e.day ≤ d ∧ d < limits x k i e.day) && decide (0 ≤ turned x k i e.day) && about e 5 k i) = _
  cases about e 5 k i <;> cases decide (0 ≤ turned x k i e.day) <;> cases decide (e.day ≤ d ∧ d < limits x k i e.day) <;> rfl
def TitleE (f : TC) (x : TF) (k i : Int) (h : Cells) (a : Addr) (t : Title) : Prop := h.cell? (a.add 0) = some (titleV f x k i t)
def TitleEnc (f : TC) (x : TF) (k i : Int) (t : Title) (ws : List Value) : Prop := ws = [titleV f x k i t]
theorem TitleE.grow {f : TC} {x : TF} {k i : Int} : Grow (TitleE f x k i) := fun _ _ _ _ hl h => hl _ _ h
theorem TitleEnc.len {f : TC} {x : TF} {k i : Int} : ∀ d ws, TitleEnc f x k i d ws → ws.length = 1 := by rintro d _ rfl; rfl
theorem TitleEnc.e {f : TC} {x : TF} {k i : Int} {h' : Cells} : ∀ a d ws, TitleEnc f x k i d ws → (∀ (j : Nat) w, ws[j]? = some w → h'.cell? (a.add j) = some w) → TitleE f x k i h' a d := by
 rintro a d _ rfl hc; exact hc 0 _ rfl
theorem titleV_one (f : TC) (x : TF) (k i : Int) (t : Title) : isOne (titleV f x k i t) = true := by cases t <;> rfl
theorem c2138 {h : LH} (f : TC) (x : TF) (v : Ok x) (k i a b d : Int) : Pu Tryz.prog 298 #[turnV f x k i a b, .int .i64 d] h (.tuple #[.int .i64 a, .bool (decide (b ≤ d ∧ d < limits x k i b))]) := by
 refine w2138 _ _ _ _ _ _ _ _ _ _ _ _ _ _ _ _ _ X0_ok ?_
 unfold n2138
 have hl := limits_low v k i b
 rw [wrap_id (by omega) (by omega)]
 have hin : inB d b (limits x k i b - 1) = decide (b ≤ d ∧ d < limits x k i b) := by
  unfold inB
  rw [Bool.eq_iff_iff]
  simp only [Bool.and_eq_true, decide_eq_true_eq]
  omega
 refine t_pu (c2052 _ _ _) ?_
 rw [hin]
 refine gZ ?_
 exact t_ret ⟨rfl, rfl⟩
theorem titles_ask {x : TF} {k i : Int} {t : Title} (h : t ∈ titlesL x k i) : (∃ a, t = .ask a ∧ a ∈ askDays x k i) ∨ ∃ e ∈ x.events, t = .turn (turned x k i e.day) e.day ∧ 0 ≤ turned x k i e.day := by
 unfold titlesL turnsL at h
 rcases List.mem_append.1 h with h | h
 ·obtain ⟨a, ha, rfl⟩ := List.mem_map.1 h
  exact .inl ⟨a, rfl, ha⟩
 ·obtain ⟨e, he, rfl⟩ := List.mem_map.1 h
  have h1 := List.mem_filter.1 he
  exact .inr ⟨e, (List.mem_filter.1 h1.1).1, rfl, by simpa using h1.2⟩
theorem titles_len (x : TF) (k i : Int) : (titlesL x k i).length ≤ 2 * x.events.length := by
 unfold titlesL turnsL
 rw [List.length_append, List.length_map, List.length_map]
 have h1 := askDays_len x k i
 have h2 := List.length_filter_le (fun e : Ev => decide (0 ≤ turned x k i e.day)) (x.events.filter (allB 5 k i))
 have h3 := List.length_filter_le (allB 5 k i) x.events
 omega
theorem cv_title {h : LH} (hk : Kinds h.get) {f : TC} {x : TF} (hx : TreatyR h.get f x) (rt : Right x) (k i d : Int) {t : Title} (ht : t ∈ titlesL x k i) :
  CV X0 Tryz.prog (.func (.method "touchmark/treaty.on") #[titleV f x k i t] #[]) #[.int .i64 d] h fun r h' => h.le h' ∧ r = .tuple #[.int .i64 (titleDate t), .bool (titleOn x k i d t)] := by
 rcases titles_ask ht with ⟨a, rfl, ha⟩ | ⟨e, _, rfl, _⟩
 ·refine via_ask (cv_fw X0_ok (hargs := #[askV f x k i a, .int .i64 d]) (by rfl) ?_)
  have h1 := rt.askDay ha
  have h2 := rt.refuse
  have h3 := askEnd_low rt.ok k i a
  exact c2137 hk hx k i (by unfold IsI; omega) (by unfold IsI; omega) d
 ·refine via_turn (cv_fw X0_ok (hargs := #[turnV f x k i (turned x k i e.day) e.day, .int .i64 d]) (by rfl) ?_)
  exact pu_gr (c2138 f x rt.ok k i _ _ d)
theorem turns_step {x : TF} {k i : Int} {l : List Ev} {e : Ev} (h : 0 ≤ turned x k i e.day) : turnsL x k i (l ++ [e]) = turnsL x k i l ++ [.turn (turned x k i e.day) e.day] := by
 unfold turnsL
 rw [List.filter_append, List.map_append, List.filter_cons, if_pos (by simpa using h)]; rfl
theorem turns_skip {x : TF} {k i : Int} {l : List Ev} {e : Ev} (h : ¬ 0 ≤ turned x k i e.day) : turnsL x k i (l ++ [e]) = turnsL x k i l := by
 unfold turnsL
 rw [List.filter_append, List.map_append, List.filter_cons, if_neg (by simpa using h)]; simp
def butOf (h : Cells) : Option Addr → Cells
 | none => h
 | some a => fun r => if r = a.block then none else h r
def onlyOf (h : Cells) : Option Addr → Cells
 | none => fun _ => none
 | some a => fun r => if r = a.block then h r else none
theorem but_only (h : Cells) (p : Option Addr) : h = (butOf h p).add (onlyOf h p) ∧ Disj (butOf h p) (onlyOf h p) := by
 cases p with
 | none => exact ⟨by funext r; unfold butOf onlyOf Cells.add; simp only; cases h r <;> rfl, fun r => .inr rfl⟩
 | some a =>
  refine ⟨?_, fun r => ?_⟩
  ·funext r
   unfold butOf onlyOf Cells.add
   by_cases e : r = a.block
   ·simp [e]
   ·simp [e]; cases h r <;> rfl
  ·unfold butOf onlyOf
   by_cases e : r = a.block
   ·simp [e]
   ·simp [e]
theorem but_le {h₁ h : Cells} {p : Option Addr} (hl : h₁.le h) (hp : NewIn h₁ p) : h₁.le (butOf h p) := by
 intro r x hr
 cases p with
 | none => exact hl r x hr
 | some a =>
  unfold butOf
  have hne : r ≠ a.block := by
   rintro rfl
   have := hp a rfl
   rw [this] at hr; cases hr
  simp [hne]; exact hl r x hr
theorem Growing.over {α : Type} {Enc : α → List Value → Prop} {el : TypeId} {k : Nat} {h₀ h hb : Cells} {p : Option Addr} {n c : Nat} {l : List α} (g : Growing Enc el k h₀ h p n c l) (d : Disj hb (onlyOf h p)) : Growing Enc el k hb (hb.add (onlyOf h p)) p n c l := by
 obtain ⟨vs, ⟨h1, h2⟩, h3⟩ := g.row
 rcases h2 with h2 | ⟨r, cs, rfl, hr, h4⟩
 ·exact ⟨⟨vs, ⟨h1, .inl h2⟩, h3⟩, fun a ha => by rw [h2.1] at ha; cases ha⟩
 ·have ho : onlyOf h (some ⟨r, 0, none⟩) r = some (true, .cells cs el (0, 0)) := by unfold onlyOf; simp [hr]
  refine ⟨⟨vs, ⟨h1, .inr ⟨r, cs, rfl, Cells.add_right' d ho, h4⟩⟩, h3⟩, fun a ha => ?_⟩
  cases ha
  rcases d r with h5 | h5
  ·exact h5
  ·rw [ho] at h5; cases h5
theorem t_allF {X : XP} {Q : Leaf → LH → Prop} {h hb : LH} {kq : Cells} {kk : Value → T} (hX : XOK X) (hh : h = hb.add kq) (d : Disj hb.get kq) (hk : Kinds hb.get) {f : TC} {x : TF} (hx : TreatyR hb.get f x) (k i : Int) (K : Nat) (hK : K < 7)
  (hw : ∀ v hb' L, hb.le hb' → Disj hb'.get kq → L.length = (x.events.filter (allB K k i)).length → (∀ (j : Nat) xs, L[j]? = some xs → ∃ e q m c, (x.events.filter (allB K k i))[j]? = some e ∧ xs = [evV e q m c] ∧ Sl IntE 1 hb'.get q m e.items) → Hands X Tryz.prog v hb' L → (kk v).wp X Tryz.prog Q (hb'.add kq)) :
  (T.call false 196 #[matV f x k i, .int .i64 (K : Int)] kk).wp X Tryz.prog Q h := by
 subst hh
 refine t_call (FW.frame hX (FW.top (c2083 (h := hb) f x k i K)) d) ?_
 rintro _ _ ⟨h', d', rfl, le1, z0, z1, rfl, hm, hz⟩
 obtain ⟨L, h1, h2, h3⟩ := hands2095 hX (hk.le le1.1) hK hm hz (hx.le le1.1)
 exact hw _ h' L le1 d' h1 h2 h3
set_option maxRecDepth 10000 in
theorem c2082 {h : LH} (hk : Kinds h.get) {f : TC} {x : TF} (hx : TreatyR h.get f x) (rt : Right x) (k i : Int) :
  Gr Tryz.prog 195 #[matV f x k i] h fun r h' => ∃ p n c, r = .slice p n c ∧ Sl (TitleE f x k i) 1 h'.get p n (titlesL x k i) := by
 refine w2082 _ _ _ _ _ _ _ _ _ _ _ X0_ok ?_
 unfold n2082
 refine t_gr (c2084 hk hx rt.sum (Nat.le_trans rt.many (by omega)) k i) ?_
 rintro _ h₁ le1 ⟨p, n, c, rfl, hs⟩
 refine gZ ?_
 have hn := hs.1
 have hb := hs.2.1
 have hlen := askDays_len x k i
 have hmany := rt.many
 have htl := titles_len x k i
 refine t_loop (fun mm vs h' => h₁.le h' ∧ ∃ (j : Nat) (q : Option Addr) (m cc : Nat), vs = [.int .i64 j, .slice q m cc] ∧ j ≤ n ∧ mm = n - j ∧ Growing (TitleEnc f x k i) 297 1 h₁.get h'.get q m cc (((askDays x k i).take j).map .ask))
  ⟨LH.le_refl _, 0, none, 0, 0, rfl, Nat.zero_le _, rfl, Growing.nil⟩ ?_
 rintro Y mm vs h2 hY ⟨le2, j, q, m, cc, rfl, hj, rfl, g⟩
 refine gZ ?_
 refine t_if (fun e1 => ?_) (fun e1 => ?_)
 ·obtain ⟨a, ad, ha, had, he⟩ := (hs.le AskE.grow le2.1).at (i := j) (by omega)
  have g0 := he 0 _ rfl
  have g1 := he 1 _ rfl
  have g2 := he 2 _ rfl
  have g3 := he 3 _ rfl
  have g4 := he 4 _ rfl
  have g5 := he 5 _ rfl
  have g6 := he 6 _ rfl
  have g7 := he 7 _ rfl
  have g8 := he 8 _ rfl
  have g9 := he 9 _ rfl
  have g10 := he 10 _ rfl
  have g11 := he 11 _ rfl
  have hm : m ≤ 100 := by
   rw [g.count TitleEnc.len (by omega), List.length_map, List.length_take]; omega
  refine gZ ?_
  refine t_push (Title.ask a) [titleV f x k i (.ask a)] rfl rfl undTitles infTitle rfl (by omega) (by decide) (by kernel_rfl) rfl (by simp [titleV_one]) (by omega) g le2 rfl ?_
  intro p' c' h3 le3 _ g3'
  refine gZ ?_
  refine t_again (hY (n - (j + 1)) _ _ (by omega) ⟨le3, j + 1, p', m + 1, c', ?_, by omega, rfl, ?_⟩)
  ·rw [wrap_id (by omega) (by omega)]; rfl
  ·rw [List.take_add_one, ha, List.map_append]
   exact g3'
 ·refine gZ ?_
  have hjn : j = (askDays x k i).length := by omega
  subst hjn
  rw [List.take_of_length_le (Nat.le_refl _)] at g
  have hbo := but_only h2.get q
  have lebut : h₁.get.le (butOf h2.get q) := but_le le2.1 g.new
  refine t_allF (hb := { h2 with get := butOf h2.get q }) (kq := onlyOf h2.get q) X0_ok (by unfold LH.add; simp only; rw [← hbo.1]) hbo.2 ((hk.le le1.1).le lebut) ((hx.le le1.1).le lebut) k i 5 (by decide) ?_
  intro v h3 L leb3 d3 hL1 hL2 hH
  have le3 : h₁.le h3 := ⟨Cells.le_trans lebut leb3.1, leb3.2.1.trans le2.2.1, leb3.2.2.1.trans le2.2.2.1, leb3.2.2.2.trans le2.2.2.2⟩
  have le03 := LH.le_trans le1 le3
  have hFl := List.length_filter_le (allB 5 k i) x.events
  have htit : titlesL x k i = (askDays x k i).map .ask ++ turnsL x k i (x.events.filter (allB 5 k i)) := rfl
  rw [htit]
  generalize hF : x.events.filter (allB 5 k i) = F at hL1 hL2 hFl
  have leA : h3.le (h3.add (onlyOf h2.get q)) := ⟨Cells.le_add _ _, rfl, rfl, rfl⟩
  refine t_each leA hH (fun j vs h' => ∃ (q : Option Addr) (m cc : Nat), vs = [.slice q m cc] ∧ Growing (TitleEnc f x k i) 297 1 h3.get h'.get q m cc ((askDays x k i).map .ask ++ turnsL x k i (F.take j)))
   ⟨q, m, cc, rfl, by simpa [turnsL, LH.add] using Growing.over g d3⟩ ?_ ?_
  ·rintro vs h' hle ⟨q, m, cc, rfl, g⟩
   rw [hL1, List.take_of_length_le (Nat.le_refl _)] at g
   refine gZ ?_
   refine t_ret ⟨LH.le_trans le03 hle, q, m, cc, rfl, g.sl TitleEnc.len (by omega) TitleEnc.e ?_⟩
   rw [htit, hF] at htl; omega
  ·rintro j xs vs h' hj2 hle ⟨q, m, cc, rfl, g⟩ Y2 hY2
   obtain ⟨e, qe, me, ce, he, rfl, hit⟩ := hL2 j xs hj2
   have htake : F.take (j + 1) = F.take j ++ [e] := by rw [List.take_add_one, he]; rfl
   have le13 := LH.le_trans le03 hle
   unfold evV
   refine gZ ?_
   refine t_gr (c2064 (hk.le le13.1) (hx.le le13.1) rt k i e.day) ?_
   rintro _ h4 le4 rfl
   have le14 := LH.le_trans le13 le4
   cases ho : turnO x k i e.day with
   | none =>
    have hno := (turnO_none rt.ok).1 ho
    simp only [Option.isSome, bestCells, zeroAsk]
    refine gZ ?_
    refine t_cond (fun e => by cases e) (fun _ => ?_)
    refine gZ ?_
    refine t_againE (LH.le_trans hle le4) (hY2 _ _ (LH.le_trans hle le4) ⟨q, m, cc, rfl, ?_⟩)
    rw [htake, turns_skip hno]
    exact g.le le4.1
   | some a =>
    obtain ⟨ha0, hae⟩ := turnO_some rt.ok ho
    simp only [Option.isSome, bestCells, askCells]
    refine gZ ?_
    refine t_cond (fun _ => ?_) (fun e => by cases e)
    refine gZ ?_
    refine t_gr (c2094 (hk.le le14.1) (hx.le le14.1) k i e.day) ?_
    rintro _ h5 le5 rfl
    refine gZ ?_
    have hm : m ≤ 100 := by
     rw [g.count TitleEnc.len (by omega), List.length_append, List.length_map]
     unfold turnsL
     rw [List.length_map]
     have h1 := List.length_filter_le (fun e : Ev => decide (0 ≤ turned x k i e.day)) (F.take j)
     have h2 : (F.take j).length ≤ F.length := by rw [List.length_take]; omega
     omega
    refine t_buildR [titleV f x k i (.turn a e.day)] undTitles infTitle (by decide) (by decide) (by kernel_rfl) ?_
    intro r h6 le6 _ hr6
    refine gZ ?_
    refine t_growR (h₀ := h3) (Enc := TitleEnc f x k i) (Title.turn a e.day) [titleV f x k i (.turn a e.day)] rfl rfl undTitles infTitle rfl (by omega) (by omega) (g.le (LH.le_trans le4 (LH.le_trans le5 le6)).1) (LH.le_trans hle (LH.le_trans le4 (LH.le_trans le5 le6))) rfl rfl hr6 (by simp [titleV_one]) ?_
    intro p' c' h7 le7 kp7 g7
    refine gZ ?_
    refine t_againE le7 (hY2 _ _ le7 ⟨p', _, c', rfl, ?_⟩)
    rw [htake, turns_step (by rw [← hae]; exact ha0), ← List.append_assoc, ← hae]
    exact g7
end Go.Proofs.YtldamlcehbdkdaaGreatDoor.Tre
end
section
namespace Go.Proofs.YtldamlcehbdkdaaGreatDoor.Tre
open Go Go.TM Go.Proofs Go.TM.Tr
attribute [local irreducible] T.wp CV FWK
theorem dated_all (x : TF) (k i d a : Int) (ha : a ≤ 10000) : dated x k i d a = leastFrom a (((x.events.filter (allB 6 k i)).filter fun e => decide (e.day ≤ d) && decide (e.since ≤ a)).map (·.since)) := by
 unfold dated oldL
 rw [leastFrom_min _ _ ha, List.filter_filter, least_cons]
 have : (x.events.filter fun e => about e 6 k i && (decide (e.day ≤ d) && decide (e.since ≤ a))) = x.events.filter fun e => (decide (e.day ≤ d) && decide (e.since ≤ a)) && allB 6 k i e := by
  refine List.filter_congr fun e _ => ?_
  rw [allB_about (by decide), Bool.and_comm]; rfl
 rw [this]
theorem dateOn_least {x : TF} (v : Ok x) (k i d : Int) : dateOn x k i d = if least ((held x k i d).map (dated x k i d)) = 10000 then -1 else least ((held x k i d).map (dated x k i d)) := by
 unfold dateOn
 rcases leastOr_mem (date_vals v (k := k) (i := i) (d := d)) with ⟨h1, h2⟩ | ⟨h1, h2⟩
 ·rw [h1, h2]; rfl
 ·rw [h2]
  have := date_vals v (k := k) (i := i) (d := d) _ h1
  rw [h2] at this
  rw [if_neg (by omega)]
theorem title_low {x : TF} (rt : Right x) {k i : Int} {t : Title} (h : t ∈ titlesL x k i) : titleDate t ≤ 10000 := by
 rcases titles_ask h with ⟨a, rfl, ha⟩ | ⟨e, _, rfl, _⟩
 ·have := rt.askDay ha
  show a ≤ 10000
  omega
 ·show turned x k i e.day ≤ 10000
  rcases turned_vals rt.ok k i e.day with ⟨h1, _⟩ | ⟨h1, _⟩
  ·omega
  ·have := rt.ok.turnedL _ h1; omega
set_option maxRecDepth 10000 in
theorem c2060 {h : LH} (hk : Kinds h.get) {f : TC} {x : TF} (hx : TreatyR h.get f x) (rt : Right x) (k i d : Int) :
  Gr Tryz.prog 141 #[matV f x k i, .int .i64 d] h fun r _ => r = .int .i64 (dateOn x k i d) := by
 refine w2060 _ _ _ _ _ _ _ _ _ _ _ _ X0_ok ?_
 unfold n2060
 refine t_gr (c2082 hk hx rt k i) ?_
 rintro _ h₁ le1 ⟨p, n, c, rfl, hs⟩
 refine gZ ?_
 have hn := hs.1
 have hb := hs.2.1
 have htl := titles_len x k i
 have hmany := rt.many
 refine t_loop (fun mm vs h' => h₁.le h' ∧ ∃ (j : Nat) (b : Int), vs = [.int .i64 b, .int .i64 j, .int .i64 x.items, .int .i64 x.lands, .int .i64 x.start, .int .i64 x.depend, .int .i64 x.refuse, .int .i64 x.turn, .slice f.p f.n f.c, .int .i64 k, .int .i64 i, .int .i64 d] ∧ j ≤ n ∧ mm = n - j ∧ b ≤ 10000 ∧
   least ((held x k i d).map (dated x k i d)) = leastFrom b (((((titlesL x k i).drop j).filter (titleOn x k i d)).map titleDate).map (dated x k i d)))
  ⟨LH.le_refl _, 0, 10000, rfl, Nat.zero_le _, rfl, Int.le_refl _, by rw [List.drop_zero, titles_held, leastFrom_cap]⟩ ?_
 rintro Y mm vs h2 hY ⟨le2, j, b, rfl, hj, rfl, hb1, hc⟩
 have le12 := LH.le_trans le1 le2
 have next : ∀ h' (b' : Int), h₁.le h' → j + 1 ≤ n → b' ≤ 10000 → least ((held x k i d).map (dated x k i d)) = leastFrom b' (((((titlesL x k i).drop (j + 1)).filter (titleOn x k i d)).map titleDate).map (dated x k i d)) →
   Y [.int .i64 b', .int .i64 (IntKind.wrap .i64 ((j : Int) + 1)), .int .i64 x.items, .int .i64 x.lands, .int .i64 x.start, .int .i64 x.depend, .int .i64 x.refuse, .int .i64 x.turn, .slice f.p f.n f.c, .int .i64 k, .int .i64 i, .int .i64 d] h' := by
  intro h' b' hle' hlt hb' hc'
  refine hY (n - (j + 1)) _ _ (by omega) ⟨hle', j + 1, b', ?_, by omega, rfl, hb', hc'⟩
  rw [wrap_id (by omega) (by omega)]; rfl
 refine gZ ?_
 refine t_if (fun e1 => ?_) (fun e1 => ?_)
 ·obtain ⟨t, ad, ht, had, he⟩ := (hs.le TitleE.grow le2.1).at (i := j) (by omega)
  unfold TitleE at he
  rw [add_zero'] at he
  have htm := List.mem_of_getElem? ht
  rw [drop_of ht, List.filter_cons] at hc
  subst had
  refine gT (by omega) (gS2 rfl (t_loadV he ?_))
  refine t_callv (cv_title (hk.le le12.1) (hx.le le12.1) rt k i d htm) ?_
  rintro _ h3 ⟨le3, rfl⟩
  have le13 := LH.le_trans le12 le3
  have le23 := LH.le_trans le2 le3
  refine gZ ?_
  refine t_cond (fun e2 => ?_) (fun e2 => ?_)
  ·have e2 : titleOn x k i d t = false := by simpa using e2
   rw [e2, if_neg (by simp)] at hc
   exact t_again (next h3 b le23 (by omega) hb1 hc)
  ·have e2 : titleOn x k i d t = true := by simpa using e2
   rw [e2, if_pos rfl, List.map_cons, List.map_cons, leastFrom] at hc
   have hlow := title_low rt htm
   refine t_all X0_ok (hk.le le13.1) (hx.le le13.1) k i 6 (by decide) ?_
   intro v h4 L le4 hL1 hL2 hH
   have hdt := dated_all x k i d (titleDate t) hlow
   generalize hF : x.events.filter (allB 6 k i) = F at hL1 hL2 hdt
   have le24 := LH.le_trans le23 le4
   refine t_each (LH.le_refl h4) hH (fun j vs h' => ∃ a : Int, vs = [.int .i64 a] ∧ a ≤ 10000 ∧ dated x k i d (titleDate t) = leastFrom a (((F.drop j).filter fun e => decide (e.day ≤ d) && decide (e.since ≤ titleDate t)).map (·.since)))
    ⟨_, rfl, hlow, hdt⟩ ?_ ?_
   ·rintro vs h' hle ⟨a, rfl, hal, hda⟩
    rw [List.drop_eq_nil_of_le (by omega)] at hda
    simp only [List.filter_nil, List.map_nil, leastFrom] at hda
    rw [hda] at hc
    refine gZ ?_
    exact t_again (next h' _ (LH.le_trans le24 hle) (by omega) (by split <;> omega) hc)
   ·rintro j2 xs vs h' hj2 hle ⟨a, rfl, hal, hda⟩ Y2 hY2
    obtain ⟨e, q, m, cc, hev, rfl, hit⟩ := hL2 j2 xs hj2
    rw [drop_of hev, List.filter_cons] at hda
    unfold evV
    refine gZ ?_
    refine t_if (fun e3 => ?_) (fun e3 => ?_)
    ·refine t_if (fun e4 => ?_) (fun e4 => ?_)
     ·rw [if_pos (by simp; omega), List.map_cons, leastFrom] at hda
      exact t_againE hle (hY2 _ _ hle ⟨_, rfl, by split <;> omega, hda⟩)
     ·rw [if_neg (by simp; omega)] at hda
      exact t_againE hle (hY2 _ _ hle ⟨_, rfl, hal, hda⟩)
    ·rw [if_neg (by simp; omega)] at hda
     exact t_againE hle (hY2 _ _ hle ⟨_, rfl, hal, hda⟩)
 ·refine gZ ?_
  rw [List.drop_eq_nil_of_le (by omega)] at hc
  simp only [List.filter_nil, List.map_nil, leastFrom] at hc
  have hd := dateOn_least rt.ok k i d
  rw [hc] at hd
  refine t_cond (fun e2 => ?_) (fun e2 => ?_)
  ·exact t_ret ⟨le12, by rw [hd, if_pos (by simpa using e2)]⟩
  ·exact t_ret ⟨le12, by rw [hd, if_neg (by simpa using e2)]⟩
def datesT (x : TF) (k d : Int) : List Int := (List.range x.items.toNat).map fun i : Nat => dateOn x k (i : Int) d
def DatesR (h : Cells) (x : TF) (k d : Int) (r : Value) : Prop :=
 (askedDayT x k d ≠ 0 ∧ r = .tuple #[.slice none 0 0, .int .i64 (askedDayT x k d)]) ∨
 (askedDayT x k d = 0 ∧ ∃ p n c, r = .tuple #[.slice p n c, .int .i64 0] ∧ Sl IntE 1 h p n (datesT x k d) ∧ n ≤ c)
theorem c2026 {h : LH} (hk : Kinds h.get) {f : TC} {x : TF} (hx : TreatyR h.get f x) (k d : Int) : Gr Tryz.prog 89 #[treatyV f x, .int .i64 k, .int .i64 d] h fun r h' => DatesR h'.get x k d r := by
 refine w2026 _ _ _ _ _ _ _ _ _ _ _ X0_ok ?_
 unfold n2026
 refine t_pu (c2063 hk hx k d) ?_
 refine gZ ?_
 refine t_cond (fun e => ?_) (fun e => ?_)
 ·exact t_ret ⟨LH.le_refl _, .inl ⟨by simpa using e, rfl⟩⟩
 have e0 : askedDayT x k d = 0 := by simpa using e
 have hck := (asked_ok (askedDay_ok e0).1).1
 have rt := Right.of hck
 have hit := (check_numbers hck).1
 refine t_loop (fun mm vs h' => h.le h' ∧ ∃ (j : Nat) (p : Option Addr) (n c : Nat), vs = [.slice p n c, .int .i64 j] ∧ (j : Int) ≤ x.items ∧ mm = x.items.toNat - j ∧ Growing IntEnc 3 1 h.get h'.get p n c ((List.range j).map fun i : Nat => dateOn x k (i : Int) d))
  ⟨LH.le_refl _, 0, none, 0, 0, rfl, by omega, rfl, Growing.nil⟩ ?_
 rintro Y mm vs h₁ hY ⟨le1, j, p, n, c, rfl, hj, rfl, g⟩
 refine gZ ?_
 refine t_if (fun e1 => ?_) (fun e1 => ?_)
 ·refine t_gr (c2060 (hk.le le1.1) (hx.le le1.1) rt k j d) ?_
  rintro _ h2 le2 rfl
  refine gZ ?_
  have hnn : n = j := by rw [g.count IntEnc.len (by omega)]; simp
  refine t_push (dateOn x k j d) [.int .i64 (dateOn x k j d)] rfl rfl und50 inf3 rfl (by omega) (by decide) (by kernel_rfl) rfl (by simp; rfl) (by omega) (g.le le2.1) (LH.le_trans le1 le2) rfl ?_
  intro p' c' h3 le3 _ g3
  refine gZ ?_
  refine t_again (hY (x.items.toNat - (j + 1)) _ _ (by omega) ⟨le3, j + 1, p', n + 1, c', ?_, by omega, rfl, ?_⟩)
  ·rw [wrap_id (by omega) (by omega)]; rfl
  ·rw [List.range_succ, List.map_append]; exact g3
 ·refine gZ ?_
  have hjn : x.items.toNat = j := by omega
  refine t_ret ⟨le1, .inr ⟨e0, p, n, c, rfl, ?_, ?_⟩⟩
  ·unfold datesT
   rw [hjn]
   exact g.sl IntEnc.len (by omega) IntEnc.e (by simp; omega)
  ·obtain ⟨vs, o, _⟩ := g.row
   exact o.le_cap
end Go.Proofs.YtldamlcehbdkdaaGreatDoor.Tre
end
section
namespace Go.Proofs.YtldamlcehbdkdaaGreatDoor.Tre
open Go Go.TM Go.Proofs Go.TM.Tr
attribute [local irreducible] T.wp CV FWK
def protT (x : TF) (k d : Int) : List Bool := (datesT x k d).map fun d => decide (d ≥ 0)
def ProtR (h : Cells) (x : TF) (k d : Int) (r : Value) : Prop :=
 ∃ p n c, r = .tuple #[.slice p n c, .int .i64 (askedDayT x k d)] ∧ Sl BoolE 1 h p n (if askedDayT x k d = 0 then protT x k d else []) ∧ n ≤ c
theorem dates_len (x : TF) (k d : Int) : (datesT x k d).length = x.items.toNat := by unfold datesT; simp
set_option maxRecDepth 10000 in
theorem c2018 {h : LH} (hk : Kinds h.get) {f : TC} {x : TF} (hx : TreatyR h.get f x) (k d : Int) : Gr Tryz.prog 88 #[treatyV f x, .int .i64 k, .int .i64 d] h fun r h' => ProtR h'.get x k d r := by
 refine w2018 _ _ _ _ _ _ _ _ _ _ _ X0_ok ?_
 unfold n2018
 refine t_gr (c2026 hk hx k d) ?_
 intro r h₁ le1 hr
 obtain ⟨p, n, c, g, l, rfl, hs, hg, hl, hl5⟩ : ∃ p n c g l, r = .tuple #[.slice p n c, .int .i64 g] ∧ Sl IntE 1 h₁.get p n l ∧ g = askedDayT x k d ∧ (if askedDayT x k d = 0 then protT x k d else []) = l.map (fun d => decide (d ≥ 0)) ∧ l.length ≤ 5 := by
  rcases hr with ⟨h1, rfl⟩ | ⟨h1, p, n, c, rfl, h2, h3⟩
  ·exact ⟨none, 0, 0, _, [], rfl, Sl.nil, rfl, by rw [if_neg h1]; rfl, by simp⟩
  ·refine ⟨p, n, c, 0, _, rfl, h2, h1.symm, by rw [if_pos h1]; rfl, ?_⟩
   have := (check_numbers (asked_ok (askedDay_ok h1).1).1).1
   rw [dates_len]; omega
 refine gZ ?_
 have hn := hs.1
 refine t_new fun r hr => ?_
 have le2 : ∀ cs, h₁.le { h₁ with get := h₁.get.upd r (true, .cells cs 225 (0, 0)) } := fun cs => LH.upd_le hr
 refine t_loop (fun mm vs h' => ∃ (j : Nat) (cs : Array Value), vs = [.int .i64 j] ∧ j ≤ n ∧ mm = n - j ∧ h' = { h₁ with get := h₁.get.upd r (true, .cells cs 225 (0, 0)) } ∧ cs.size = 5 ∧ (∀ (i : Nat) y, i < j → l[i]? = some y → cs[i]? = some (.bool (decide (y ≥ 0)))) ∧ ∀ i : Nat, j ≤ i → i < 5 → cs[i]? = some (.bool false))
  ⟨0, #[.bool false, .bool false, .bool false, .bool false, .bool false], rfl, Nat.zero_le _, rfl, rfl, rfl, fun i y hi => absurd hi (Nat.not_lt_zero _), fun i _ hi => by match i, hi with | 0, _ | 1, _ | 2, _ | 3, _ | 4, _ => rfl⟩ ?_
 rintro Y mm vs _ hY ⟨j, cs, rfl, hj, rfl, rfl, hsz, hlow, hhigh⟩
 refine gZ ?_
 refine t_if (fun e1 => ?_) (fun e1 => ?_)
 ·obtain ⟨y, a, hy, ha, e2⟩ := (hs.le IntE.grow (le2 cs).1).at (i := j) (by omega)
  unfold IntE at e2
  refine gZ ?_
  refine t_storeU (o := j) (by rw [add_plain, add_plain]; simp) rfl (by omega) ?_
  refine t_again (hY (n - (j + 1)) _ _ (by omega) ⟨j + 1, _, ?_, by omega, rfl, rfl, by simp [hsz], fun i z hi hz => ?_, fun i hi h5 => ?_⟩)
  ·rw [wrap_id (by omega) (by omega)]; rfl
  ·by_cases e : i = j
   ·subst e
    rw [hy] at hz; cases hz
    rw [Array.getElem?_setIfInBounds_self_of_lt (by omega)]
   ·rw [Array.getElem?_setIfInBounds_ne (Ne.symm e)]
    exact hlow i z (by omega) hz
  ·rw [Array.getElem?_setIfInBounds_ne (by omega)]
   exact hhigh i (by omega) h5
 ·refine gZ ?_
  have hjn : j = n := by omega
  subst hjn
  obtain ⟨bs, hbs5, hbs⟩ : ∃ bs : List Bool, bs.length = 5 ∧ ∀ (i : Nat) b, bs[i]? = some b → cs[i]? = some (.bool b) := by
   refine ⟨(List.range 5).map fun i : Nat => match (l[i]? : Option Int) with | some y => decide (y ≥ 0) | none => false, by simp, fun i b hb => ?_⟩
   rw [List.getElem?_map] at hb
   by_cases h5 : i < 5
   ·rw [List.getElem?_range h5] at hb
    simp only [Option.map_some, Option.some.injEq] at hb
    cases hly : l[i]? with
    | none =>
     rw [hly] at hb; subst hb
     exact hhigh i (by rw [hn]; exact List.getElem?_eq_none_iff.1 hly) h5
    | some y =>
     rw [hly] at hb; subst hb
     exact hlow i y (by rw [hn]; exact (List.getElem?_eq_some_iff.1 hly).1) hly
   ·rw [List.getElem?_eq_none (by simp; omega)] at hb; cases hb
  match bs, hbs5 with
  | [b0, b1, b2, b3, b4], _ =>
   have c0 : Cells.cell? (h₁.get.upd r (true, .cells cs 225 (0, 0))) (Addr.add ⟨r, 0, none⟩ 0) = some (.bool b0) := by rw [add_plain]; exact cell_upd (hbs 0 _ rfl)
   have c1 : Cells.cell? (h₁.get.upd r (true, .cells cs 225 (0, 0))) (Addr.add ⟨r, 0, none⟩ 1) = some (.bool b1) := by rw [add_plain]; exact cell_upd (hbs 1 _ rfl)
   have c2 : Cells.cell? (h₁.get.upd r (true, .cells cs 225 (0, 0))) (Addr.add ⟨r, 0, none⟩ 2) = some (.bool b2) := by rw [add_plain]; exact cell_upd (hbs 2 _ rfl)
   have c3 : Cells.cell? (h₁.get.upd r (true, .cells cs 225 (0, 0))) (Addr.add ⟨r, 0, none⟩ 3) = some (.bool b3) := by rw [add_plain]; exact cell_upd (hbs 3 _ rfl)
   have c4 : Cells.cell? (h₁.get.upd r (true, .cells cs 225 (0, 0))) (Addr.add ⟨r, 0, none⟩ 4) = some (.bool b4) := by rw [add_plain]; exact cell_upd (hbs 4 _ rfl)
   refine gL2 c0 (gL2 c1 (gL2 c2 (gL2 c3 (gL2 c4 ?_))))
   refine t_eqA5 undItems bo4 inf4 gItems ?_
   refine gZ ?_
   refine t_cond (fun e => ?_) (fun e => ?_)
   ·have e : [b0, b1, b2, b3, b4] = [false, false, false, false, false] := by simpa only [decide_eq_true_eq] using e
    refine t_makeSlice undBs inf4 rfl (by decide) (by omega) fun r2 cs2 hr2 hsz2 hcs2 => ?_
    refine gZ ?_
    refine t_ret ⟨LH.le_trans (LH.le_trans le1 (le2 cs)) (LH.upd_le hr2), _, _, _, by rw [hg], ?_, Nat.le_refl _⟩
    rw [hl]
    refine ⟨by rw [List.length_map]; exact hn, by rw [List.length_map]; omega, fun i b hb => ⟨_, rfl, ?_⟩⟩
    unfold BoolE
    rw [add_plain, add_plain]
    rw [List.getElem?_map] at hb
    cases hly : l[i]? with
    | none => rw [hly] at hb; cases hb
    | some y =>
     rw [hly] at hb
     simp only [Option.map_some, Option.some.injEq] at hb
     have hi := (List.getElem?_eq_some_iff.1 hly).1
     have h1 := hlow i y (by omega) hly
     have hcell := hcs2 i (by omega)
     have hb' : b = false := by
      have h2 := hbs i
      match i, hi with
      | 0, _ => have := h2 b0 rfl; cases e; rw [this] at h1; simp only [Option.some.injEq, Value.bool.injEq] at h1; rw [← hb, ← h1]
      | 1, _ => have := h2 b1 rfl; cases e; rw [this] at h1; simp only [Option.some.injEq, Value.bool.injEq] at h1; rw [← hb, ← h1]
      | 2, _ => have := h2 b2 rfl; cases e; rw [this] at h1; simp only [Option.some.injEq, Value.bool.injEq] at h1; rw [← hb, ← h1]
      | 3, _ => have := h2 b3 rfl; cases e; rw [this] at h1; simp only [Option.some.injEq, Value.bool.injEq] at h1; rw [← hb, ← h1]
      | 4, _ => have := h2 b4 rfl; cases e; rw [this] at h1; simp only [Option.some.injEq, Value.bool.injEq] at h1; rw [← hb, ← h1]
      | i + 5, hi => omega
     rw [hb']
     have hz : 0 + i * 1 + 0 = i := by omega
     rw [hz]
     exact cell_upd hcell
   ·refine t_sliceArr undItems inf4 (by omega) fun a' ha0 ha1 => ?_
    refine gZ ?_
    refine t_ret ⟨LH.le_trans le1 (le2 cs), _, _, _, by rw [hg], ?_, Nat.le_refl _⟩
    rw [hl]
    have haa : a' = ⟨r, 0, none⟩ := by
     by_cases e0 : j = 0
     ·exact ha0 e0
     ·rw [ha1 e0, add_plain]
    subst haa
    refine ⟨by rw [List.length_map]; exact hn, by rw [List.length_map]; omega, fun i b hb => ⟨_, rfl, ?_⟩⟩
    unfold BoolE
    rw [add_plain, add_plain]
    rw [List.getElem?_map] at hb
    cases hly : l[i]? with
    | none => rw [hly] at hb; cases hb
    | some y =>
     rw [hly] at hb
     simp only [Option.map_some, Option.some.injEq] at hb
     have hi := (List.getElem?_eq_some_iff.1 hly).1
     have h1 := hlow i y (by omega) hly
     have hz : 0 + i * 1 + 0 = i := by omega
     rw [hz, ← hb]
     exact cell_upd h1
def turnsT (x : TF) (k d : Int) : List Int := ((List.range x.items.toNat).filter fun i : Nat => decide (0 ≤ turned x k (i : Int) d)).map fun i : Nat => (i : Int)
def TurnsR (h : Cells) (x : TF) (k d : Int) (r : Value) : Prop :=
 (askedDayT x k d ≠ 0 ∧ r = .tuple #[.slice none 0 0, .int .i64 (askedDayT x k d)]) ∨
 (askedDayT x k d = 0 ∧ ∃ p n c, r = .tuple #[.slice p n c, .int .i64 0] ∧ Sl IntE 1 h p n (turnsT x k d) ∧ n ≤ c)
set_option maxRecDepth 10000 in
theorem c2029 {h : LH} (hk : Kinds h.get) {f : TC} {x : TF} (hx : TreatyR h.get f x) (k d : Int) : Gr Tryz.prog 91 #[treatyV f x, .int .i64 k, .int .i64 d] h fun r h' => TurnsR h'.get x k d r := by
 refine w2029 _ _ _ _ _ _ _ _ _ _ _ X0_ok ?_
 unfold n2029
 refine t_pu (c2063 hk hx k d) ?_
 refine gZ ?_
 refine t_cond (fun e => ?_) (fun e => ?_)
 ·exact t_ret ⟨LH.le_refl _, .inl ⟨by simpa using e, rfl⟩⟩
 have e0 : askedDayT x k d = 0 := by simpa using e
 have hck := (asked_ok (askedDay_ok e0).1).1
 have rt := Right.of hck
 have hit := (check_numbers hck).1
 refine t_loop (fun mm vs h' => h.le h' ∧ ∃ (j : Nat) (p : Option Addr) (n c : Nat), vs = [.slice p n c, .int .i64 j] ∧ (j : Int) ≤ x.items ∧ mm = x.items.toNat - j ∧ Growing IntEnc 3 1 h.get h'.get p n c (((List.range j).filter fun i : Nat => decide (0 ≤ turned x k (i : Int) d)).map fun i : Nat => (i : Int)))
  ⟨LH.le_refl _, 0, none, 0, 0, rfl, by omega, rfl, Growing.nil⟩ ?_
 rintro Y mm vs h₁ hY ⟨le1, j, p, n, c, rfl, hj, rfl, g⟩
 have hnn : n ≤ j := by
  rw [g.count IntEnc.len (by omega), List.length_map]
  have := List.length_filter_le (fun i : Nat => decide (0 ≤ turned x k (i : Int) d)) (List.range j)
  rw [List.length_range] at this; exact this
 refine gZ ?_
 refine t_if (fun e1 => ?_) (fun e1 => ?_)
 ·refine t_gr (c2064 (hk.le le1.1) (hx.le le1.1) rt k j d) ?_
  rintro _ h2 le2 rfl
  cases ho : turnO x k (j : Int) d with
  | none =>
   have hno := (turnO_none rt.ok).1 ho
   simp only [Option.isSome, bestCells, zeroAsk]
   refine gZ ?_
   refine t_cond (fun e => by cases e) (fun _ => ?_)
   refine t_again (hY (x.items.toNat - (j + 1)) _ _ (by omega) ⟨LH.le_trans le1 le2, j + 1, p, n, c, ?_, by omega, rfl, ?_⟩)
   ·rw [wrap_id (by omega) (by omega)]; rfl
   ·rw [List.range_succ, List.filter_append, List.filter_cons, if_neg (by simpa using hno)]
    simpa using g.le le2.1
  | some a =>
   obtain ⟨ha0, hae⟩ := turnO_some rt.ok ho
   simp only [Option.isSome, bestCells, askCells]
   refine gZ ?_
   refine t_cond (fun _ => ?_) (fun e => by cases e)
   refine t_push (j : Int) [.int .i64 (j : Int)] rfl rfl und50 inf3 rfl (by omega) (by decide) (by kernel_rfl) rfl (by simp; rfl) (by omega) (g.le le2.1) (LH.le_trans le1 le2) rfl ?_
   intro p' c' h3 le3 _ g3
   refine gZ ?_
   refine t_again (hY (x.items.toNat - (j + 1)) _ _ (by omega) ⟨le3, j + 1, p', n + 1, c', ?_, by omega, rfl, ?_⟩)
   ·rw [wrap_id (by omega) (by omega)]; rfl
   ·rw [List.range_succ, List.filter_append, List.filter_cons, if_pos (by rw [← hae]; simpa using ha0), List.map_append]; exact g3
 ·refine gZ ?_
  have hjn : x.items.toNat = j := by omega
  refine t_ret ⟨le1, .inr ⟨e0, p, n, c, rfl, ?_, ?_⟩⟩
  ·unfold turnsT
   rw [hjn]
   refine g.sl IntEnc.len (by omega) IntEnc.e ?_
   rw [← g.count IntEnc.len (by omega)]; omega
  ·obtain ⟨vs, o, _⟩ := g.row
   exact o.le_cap
end Go.Proofs.YtldamlcehbdkdaaGreatDoor.Tre
end
section
namespace Go.Proofs.YtldamlcehbdkdaaGreatDoor.Tre
open Go Go.TM Go.Proofs Go.TM.Tr
attribute [local irreducible] T.wp CV FWK
def KindsOk (x : TF) : Prop := ∀ e ∈ x.events, 0 ≤ e.kind ∧ e.kind ≤ 6
theorem KindsOk.of {x : TF} (h : checkT x = 0) : KindsOk x := fun e he => (event_ok.1 (check_event h e he)).kind
theorem KindsOk.nat {x : TF} (h : KindsOk x) {e : Ev} (he : e ∈ x.events) : ∃ n : Nat, e.kind = n ∧ n < 7 := by
 have := h e he
 exact ⟨e.kind.toNat, by omega, by omega⟩
theorem gives_int {n : Nat} (hn : n < 7) {e : Ev} (he : e.kind = n) : givesK n = givesB e := by
 unfold givesB
 rw [he]
 match n, hn with
 | 0, _ | 1, _ | 2, _ | 3, _ | 4, _ | 5, _ | 6, _ => rfl
theorem cv_gives {h : LH} (n : Nat) : CV X0 Tryz.prog (.func (.func (if givesK n then 308 else 309)) #[] #[]) #[] h fun r h' => r = .bool (givesK n) ∧ h = h' := by
 cases hg : givesK n with
 | true => exact cv_fw X0_ok (by rfl) (FW.mono c2140 fun _ _ h => ⟨h.1, h.2.symm⟩)
 | false => exact cv_fw X0_ok (by rfl) (FW.mono c2141 fun _ _ h => ⟨h.1, h.2.symm⟩)
theorem giving_snoc {e : Ev} : ∀ (l : List Ev) (n : Int), givingGo (l ++ [e]) n = givingGo l n ++ if givesB e then [n + (l.length : Int)] else []
 | [], n => by simp [givingGo]
 | c :: l, n => by
  rw [List.cons_append, givingGo, givingGo, giving_snoc l (n + 1)]
  have : n + 1 + (l.length : Int) = n + ((c :: l).length : Int) := by simp; omega
  rw [this]
  split <;> simp
theorem with_snoc {L : List Int} {e : Ev} : ∀ (l : List Ev) (n : Int), withGo L (l ++ [e]) n = withGo L l n ++ if (!givesB e || L.contains (n + (l.length : Int))) then [e] else []
 | [], n => by simp [withGo]
 | c :: l, n => by
  rw [List.cons_append, withGo, withGo, with_snoc l (n + 1)]
  have : n + 1 + (l.length : Int) = n + ((c :: l).length : Int) := by simp; omega
  rw [this]
  split <;> simp
theorem giving_len : ∀ (l : List Ev) (n : Int), (givingGo l n).length ≤ l.length
 | [], _ => Nat.le_refl _
 | c :: l, n => by
  have := giving_len l (n + 1)
  rw [givingGo]
  split <;> simp <;> omega
theorem with_len (L : List Int) : ∀ (l : List Ev) (n : Int), (withGo L l n).length ≤ l.length
 | [], _ => Nat.le_refl _
 | c :: l, n => by
  have := with_len L l (n + 1)
  rw [withGo]
  split <;> simp <;> omega
theorem Right.with {x : TF} (r : Right x) (L : List Int) : Right (withE x L) :=
 ⟨ok_with r.ok L, r.start, r.depend, r.refuse, r.turn, Nat.le_trans (with_len L x.events 0) r.many⟩
theorem c2067 {h : LH} (hk : Kinds h.get) {f : TC} {x : TF} (hx : TreatyR h.get f x) (hkd : KindsOk x) (hmany : x.events.length ≤ 10) :
  Gr Tryz.prog 146 #[treatyV f x] h fun r h' => ∃ p n c, r = .slice p n c ∧ Sl IntE 1 h'.get p n (giving x) ∧ n ≤ c := by
 refine w2067 _ _ _ _ _ _ _ _ _ X0_ok ?_
 unfold n2067
 have hs := hx.2
 have hn := hs.1
 refine t_loop (fun mm vs h' => h.le h' ∧ ∃ (j : Nat) (p : Option Addr) (n c : Nat), vs = [.slice p n c, .int .i64 j] ∧ j ≤ f.n ∧ mm = f.n - j ∧ Growing IntEnc 3 1 h.get h'.get p n c (givingGo (x.events.take j) 0))
  ⟨LH.le_refl _, 0, none, 0, 0, rfl, Nat.zero_le _, rfl, Growing.nil⟩ ?_
 rintro Y mm vs h₁ hY ⟨le1, j, p, n, c, rfl, hj, rfl, g⟩
 have hnn : n ≤ 10 := by
  rw [g.count IntEnc.len (by omega)]
  have := giving_len (x.events.take j) 0
  rw [List.length_take] at this; omega
 refine gZ ?_
 refine t_if (fun e1 => ?_) (fun e1 => ?_)
 ·obtain ⟨e, a, he, ha, g0, g1, g2, ⟨q, m, cc, g3, _, g5⟩, g4⟩ := (hs.le EventE.grow le1.1).at (i := j) (by omega)
  obtain ⟨kn, hkn, hk7⟩ := hkd.nat (List.mem_of_getElem? he)
  have htake : x.events.take (j + 1) = x.events.take j ++ [e] := by rw [List.take_add_one, he]; rfl
  have hlen : (x.events.take j).length = j := by rw [List.length_take]; omega
  have hg := (hk.le le1.1).givesAt hk7
  rw [hkn] at g0
  refine gZ ?_
  refine t_loadV hg ?_
  refine t_callv (cv_gives kn) ?_
  rintro _ _ ⟨rfl, rfl⟩
  rw [gives_int hk7 hkn]
  refine gZ ?_
  refine t_cond (fun e2 => ?_) (fun e2 => ?_)
  ·refine t_push (j : Int) [.int .i64 (j : Int)] rfl rfl und50 inf3 rfl (by omega) (by decide) (by kernel_rfl) rfl (by simp; rfl) (by omega) g le1 rfl ?_
   intro p' c' h3 le3 _ g3
   refine gZ ?_
   refine t_again (hY (f.n - (j + 1)) _ _ (by omega) ⟨le3, j + 1, p', n + 1, c', ?_, by omega, rfl, ?_⟩)
   ·rw [wrap_id (by omega) (by omega)]; rfl
   ·rw [htake, giving_snoc, if_pos e2, hlen, Int.zero_add]; exact g3
  ·refine t_again (hY (f.n - (j + 1)) _ _ (by omega) ⟨le1, j + 1, p, n, c, ?_, by omega, rfl, ?_⟩)
   ·rw [wrap_id (by omega) (by omega)]; rfl
   ·rw [htake, giving_snoc, if_neg (by rw [e2]; simp), List.append_nil]; exact g
 ·refine gZ ?_
  rw [List.take_of_length_le (by omega)] at g
  refine t_ret ⟨le1, p, n, c, rfl, g.sl IntEnc.len (by omega) IntEnc.e ?_, ?_⟩
  ·show (givingGo x.events 0).length < _
   rw [← g.count IntEnc.len (by omega)]; omega
  ·obtain ⟨vs, o, _⟩ := g.row
   exact o.le_cap
set_option maxRecDepth 10000 in
theorem c2069 {h : LH} (hk : Kinds h.get) {f : TC} {x : TF} (hx : TreatyR h.get f x) (rt : Right x) (hkd : KindsOk x) (k i d : Int) {ep : Option Addr} {en ec : Nat} {L : List Int} (hL : Sl IntE 1 h.get ep en L) :
  Gr Tryz.prog 148 #[treatyV f x, .int .i64 k, .int .i64 i, .int .i64 d, .slice ep en ec] h fun r _ => r = .bool (holdsB x k i d L) := by
 refine w2069 _ _ _ _ _ _ _ _ _ _ _ _ _ _ _ X0_ok ?_
 unfold n2069
 have hs := hx.2
 have hn := hs.1
 have hmany := rt.many
 refine t_loop (fun mm vs h' => h.le h' ∧ ∃ (j : Nat) (p : Option Addr) (n c : Nat), vs = [.int .i64 j, .int .i64 x.items, .int .i64 x.lands, .int .i64 x.start, .int .i64 x.depend, .int .i64 x.refuse, .int .i64 x.turn, .slice p n c] ∧ j ≤ f.n ∧ mm = f.n - j ∧ Growing (EventEnc h.get) 91 5 h.get h'.get p n c (withGo L (x.events.take j) 0))
  ⟨LH.le_refl _, 0, none, 0, 0, rfl, Nat.zero_le _, rfl, Growing.nil⟩ ?_
 rintro Y mm vs h₁ hY ⟨le1, j, p, n, c, rfl, hj, rfl, g⟩
 have hnn : n ≤ 10 := by
  rw [g.count EventEnc.len (by omega)]
  have := with_len L (x.events.take j) 0
  rw [List.length_take] at this; omega
 refine gZ ?_
 refine t_if (fun e1 => ?_) (fun e1 => ?_)
 ·obtain ⟨e, a, he, ha, g0, g1, g2, ⟨q, m, cc, g3, g6, g5⟩, g4⟩ := hs.at (i := j) (by omega)
  have hws : EventEnc h.get e [.int .i64 e.kind, .int .i64 e.day, .int .i64 e.land, .slice q m cc, .int .i64 e.since] := ⟨q, m, cc, rfl, g6, g5⟩
  obtain ⟨kn, hkn, hk7⟩ := hkd.nat (List.mem_of_getElem? he)
  have htake : x.events.take (j + 1) = x.events.take j ++ [e] := by rw [List.take_add_one, he]; rfl
  have hlen : (x.events.take j).length = j := by rw [List.length_take]; omega
  have hg := (hk.le le1.1).givesAt hk7
  rw [hkn] at g0 hws
  have g0 := Cells.cell?_le le1.1 g0
  have g1 := Cells.cell?_le le1.1 g1
  have g2 := Cells.cell?_le le1.1 g2
  have g3 := Cells.cell?_le le1.1 g3
  have g4 := Cells.cell?_le le1.1 g4
  refine gZ ?_
  refine t_loadV hg ?_
  refine t_callv (cv_gives kn) ?_
  rintro _ _ ⟨rfl, rfl⟩
  rw [gives_int hk7 hkn]
  have keep : (!givesB e || L.contains (j : Int)) = true → ∀ {K : Value → T} {Q : Leaf → LH → Prop}, (∀ p' c' h', h.le h' → Growing (EventEnc h.get) 91 5 h.get h'.get p' (n + 1) c' (withGo L (x.events.take (j + 1)) 0) → (K (.slice p' (n + 1) c')).wp X0 Tryz.prog Q h') →
    (T.sem false (Instr.buildSlice 80 1 #[(0, .agg #[.int .i64 (kn : Int), .int .i64 e.day, .int .i64 e.land, .slice q m cc, .int .i64 e.since])]) fun v => T.unS v fun a m mc => T.sem false (Builtin.append_ #[80, 80] 80 #[.slice p n c, .slice a m mc]) K).wp X0 Tryz.prog Q h₁ := by
   intro hkeep K Q hK
   refine t_push e [.int .i64 (kn : Int), .int .i64 e.day, .int .i64 e.land, .slice q m cc, .int .i64 e.since] rfl rfl undEvs infEv rfl (by omega) (by decide) (by kernel_rfl) rfl ?_ (by omega) g le1 hws ?_
   ·intro w hw
    simp only [List.mem_cons, List.not_mem_nil, or_false] at hw
    rcases hw with rfl | rfl | rfl | rfl | rfl <;> rfl
   ·intro p' c' h3 le3 _ g3
    refine hK p' c' h3 le3 ?_
    rw [htake, with_snoc, hlen, Int.zero_add, if_pos hkeep]; exact g3
  have next : ∀ h' p' n' c', h.le h' → Growing (EventEnc h.get) 91 5 h.get h'.get p' n' c' (withGo L (x.events.take (j + 1)) 0) → Y [.int .i64 (IntKind.wrap .i64 ((j : Int) + 1)), .int .i64 x.items, .int .i64 x.lands, .int .i64 x.start, .int .i64 x.depend, .int .i64 x.refuse, .int .i64 x.turn, .slice p' n' c'] h' := by
   intro h' p' n' c' hle' g'
   refine hY (f.n - (j + 1)) _ _ (by omega) ⟨hle', j + 1, p', n', c', ?_, by omega, rfl, g'⟩
   rw [wrap_id (by omega) (by omega)]; rfl
  refine gZ ?_
  refine t_cond (fun e2 => ?_) (fun e2 => ?_)
  ·refine keep (by rw [e2, Bool.true_or]) fun p' c' h' hle' g' => ?_
   refine gZ ?_
   exact t_again (next h' p' _ c' hle' g')
  ·refine t_pu (c100 (hL.le IntE.grow le1.1) (j : Int)) ?_
   refine gZ ?_
   refine t_cond (fun e3 => ?_) (fun e3 => ?_)
   ·refine keep (by rw [e3, Bool.or_true]) fun p' c' h' hle' g' => ?_
    refine gZ ?_
    exact t_again (next h' p' _ c' hle' g')
   ·refine t_again (next h₁ p n c le1 ?_)
    rw [htake, with_snoc, hlen, Int.zero_add, if_neg (by rw [e2, e3]; simp), List.append_nil]; exact g
 ·refine gZ ?_
  rw [List.take_of_length_le (by omega)] at g
  have hx' : TreatyR h₁.get ⟨p, n, c⟩ (withE x L) := by
   refine ⟨?_, g.sl EventEnc.len (by omega) (EventEnc.e (Rd.of_le le1.1)) ?_⟩
   ·obtain ⟨vs, o, _⟩ := g.row
    exact o.le_cap
   ·show (withGo L x.events 0).length < _
    rw [← g.count EventEnc.len (by omega)]; omega
  refine t_gr (c2060 (hk.le le1.1) hx' (rt.with L) k i d) ?_
  rintro _ h2 le2 rfl
  refine gZ ?_
  exact t_ret ⟨LH.le_trans le1 le2, rfl⟩
end Go.Proofs.YtldamlcehbdkdaaGreatDoor.Tre
end
section
namespace Go.TM
open Go Go.Conc
variable {P : Program} {X : XP} {Q : Leaf → LH → Prop}
theorem t_indexStr {h : LH} {K : Value → T} {t : TypeId} {s : ByteArray} {i : Nat} (hu : P.underlying t = some .string) (hs : s.size = 256) (hi : i < 256) (hk : ∀ b : Nat, (K (.int .u8 (b : Int))).wp X P Q h) : (T.sem false (Instr.index t (.string s) (.int .u8 (i : Int))) K).wp X P Q h := by
 refine t_sem (A := fun w h' => h' = h.get ∧ ∃ b : Nat, w = .int .u8 (b : Int)) ?_ (by rintro w h' ⟨rfl, b, rfl⟩; exact hk b)
 unfold Instr.index
 simp only [asIntOf, lwp_bind, lwp_pure, lwp_underlying hu]
 have h1 : s[(i : Int).toNat]? = some (s[i]'(by omega)) := by
  rw [Int.toNat_natCast]; exact getElem?_pos s i (by omega)
 rw [if_pos (by omega), h1]
 exact ⟨rfl, _, rfl⟩
def Reads (cs : Array Value) (l : List Int) : Prop := ∀ (i : Nat) y, l[i]? = some y → cs[i]? = some (.int .i64 y)
theorem swap_perm : ∀ (m : List Int) (j : Nat) (x y : Int), m[j]? = some y → m[j + 1]? = some x → ((m.set (j + 1) y).set j x).Perm m
 | [], j, x, y, h, _ => by simp at h
 | [a], j, x, y, _, h => by simp at h
 | a :: b :: r, 0, x, y, h1, h2 => by
  simp at h1 h2; subst h1; subst h2
  simp only [List.set_cons_succ, List.set_cons_zero]
  exact List.Perm.swap _ _ _
 | a :: b :: r, j + 1, x, y, h1, h2 => by
  simp only [List.set_cons_succ]
  exact (swap_perm (b :: r) j x y (by simpa using h1) (by simpa using h2)).cons a
structure Ins (m : List Int) (i j : Nat) : Prop where
 rest : ∀ a b u v, a < b → b ≤ i → a ≠ j → b ≠ j → m[a]? = some u → m[b]? = some v → u ≤ v
 small : ∀ b u v, j < b → b ≤ i → m[j]? = some u → m[b]? = some v → u ≤ v
theorem Ins.swap {m : List Int} {i j : Nat} {x y : Int} (h : Ins m i (j + 1)) (hj : j + 1 ≤ i) (hy : m[j]? = some y) (hx : m[j + 1]? = some x) (hlt : x < y) : Ins ((m.set (j + 1) y).set j x) i j := by
 have len : j + 1 < m.length := (List.getElem?_eq_some_iff.1 hx).1
 have get : ∀ a, ((m.set (j + 1) y).set j x)[a]? = if a = j then some x else if a = j + 1 then some y else m[a]? := by
  intro a
  rw [List.getElem?_set, List.getElem?_set]
  by_cases e1 : a = j
  ·subst e1; simp; omega
  ·by_cases e2 : a = j + 1
   ·subst e2; simp; omega
   ·rw [if_neg (Ne.symm e1), if_neg (Ne.symm e2), if_neg e1, if_neg e2]
 refine ⟨fun a b u v hab hbi ha hb hu hv => ?_, fun b u v hjb hbi hu hv => ?_⟩
 ·rw [get, if_neg ha] at hu
  rw [get, if_neg hb] at hv
  by_cases e1 : a = j + 1
  ·rw [if_pos e1] at hu; cases hu
   rw [if_neg (by omega)] at hv
   exact h.rest j b y v (by omega) hbi (by omega) (by omega) hy hv
  ·rw [if_neg e1] at hu
   by_cases e2 : b = j + 1
   ·rw [if_pos e2] at hv; cases hv
    exact h.rest a j u y (by omega) (by omega) (by omega) (by omega) hu hy
   ·rw [if_neg e2] at hv
    exact h.rest a b u v hab hbi e1 e2 hu hv
 ·rw [get, if_pos rfl] at hu; cases hu
  rw [get, if_neg (by omega)] at hv
  by_cases e2 : b = j + 1
  ·rw [if_pos e2] at hv; cases hv; omega
  ·rw [if_neg e2] at hv
   exact h.small b x v (by omega) hbi hx hv
theorem Ins.done {m : List Int} {i j : Nat} (h : Ins m i j) (hj : j = 0 ∨ ∃ x y, m[j - 1]? = some y ∧ m[j]? = some x ∧ y ≤ x) : ∀ a b u v, a < b → b ≤ i → m[a]? = some u → m[b]? = some v → u ≤ v := by
 intro a b u v hab hbi hu hv
 by_cases ea : a = j
 ·subst ea; exact h.small b u v hab hbi hu hv
 ·by_cases eb : b = j
  ·subst eb
   rcases hj with h0 | ⟨x, y, h1, h2, h3⟩
   ·omega
   ·rw [hv] at h2; cases h2
    by_cases e : a = b - 1
    ·subst e; rw [hu] at h1; cases h1; exact h3
    ·exact Int.le_trans (h.rest a (b - 1) u y (by omega) (by omega) ea (by omega) hu h1) h3
  ·exact h.rest a b u v hab hbi ea eb hu hv
theorem sorted_of {m : List Int} {n : Nat} (hn : m.length ≤ n) (h : ∀ a b u v, a < b → b < n → m[a]? = some u → m[b]? = some v → u ≤ v) : m.Pairwise (· ≤ ·) := by
 rw [List.pairwise_iff_getElem]
 intro a b ha hb hab
 exact h a b _ _ hab (by omega) (List.getElem?_eq_getElem ha) (List.getElem?_eq_getElem hb)
end Go.TM
namespace Go.Proofs.YtldamlcehbdkdaaGreatDoor.Tre
open Go Go.TM Go.Proofs Go.TM.Tr
attribute [local irreducible] T.wp CV FWK
theorem c2111 {h : LH} (x y : Int) : Pu Tryz.prog 271 #[.int .i64 x, .int .i64 y] h (.bool (decide (x < y))) := by
 refine w2111 _ _ X0_ok ?_
 unfold n2111
 refine t_pu (c109 _) ?_
 refine gZ ?_
 refine t_cond (fun e => by cases e) (fun _ => ?_)
 exact t_ret ⟨rfl, rfl⟩
set_option maxRecDepth 10000 in
theorem c2105 {h : LH} {r c : Nat} {el : TypeId} : ∀ {cs : Array Value} {l : List Int}, Reads cs l → l.length ≤ 12 →
  FW X0 Tryz.prog 265 #[.slice (some ⟨r, 0, none⟩) l.length c, .int .i64 0, .int .i64 (l.length : Int)] { h with get := h.get.upd r (true, .cells cs el (0, 0)) } fun v h' => v = .tuple #[] ∧
   ∃ cs' l', cs'.size = cs.size ∧ Reads cs' l' ∧ l'.Perm l ∧ l'.Pairwise (· ≤ ·) ∧ h' = { h with get := h.get.upd r (true, .cells cs' el (0, 0)) } := by
 intro cs l hr hl
 have hcell : ∀ {cs : Array Value} {m : List Int} {j : Nat} {y : Int}, Reads cs m → m[j]? = some y → Cells.cell? (h.get.upd r (true, .cells cs el (0, 0))) (Addr.add ⟨r, 0, none⟩ ((j : Int).toNat * 1)) = some (.int .i64 y) := by
  intro cs m j y hm hy
  rw [add_plain]
  have e : 0 + (j : Int).toNat * 1 = j := by simp
  rw [e]
  exact cell_upd (hm j y hy)
 refine w2105 _ _ _ _ _ X0_ok ?_
 unfold n2105
 have hw0 : IntKind.wrap .i64 ((0 : Int) + 1) = ((1 : Nat) : Int) := by rw [wrap_id (by omega) (by omega)]; rfl
 rw [hw0]
 refine t_loop (fun mm vs h' => ∃ (i : Nat) (cs' : Array Value) (m : List Int), vs = [.int .i64 i] ∧ mm = l.length + 1 - i ∧ 1 ≤ i ∧ i ≤ l.length + 1 ∧ h' = { h with get := h.get.upd r (true, .cells cs' el (0, 0)) } ∧ cs'.size = cs.size ∧ Reads cs' m ∧ m.Perm l ∧ ∀ a b u v, a < b → b < i → m[a]? = some u → m[b]? = some v → u ≤ v)
  ⟨1, cs, l, rfl, rfl, Nat.le_refl _, by omega, rfl, rfl, hr, List.Perm.refl _, fun a b u v hab hb => by omega⟩ ?_
 rintro Y mm vs _ hY ⟨i, cs1, m1, rfl, rfl, hi1, hi2, rfl, hsz1, hr1, hp1, hso1⟩
 refine gZ ?_
 refine t_if (fun e1 => ?_) (fun e1 => ?_)
 ·have hlen1 := hp1.length_eq
  refine t_loop (fun mm vs h' => ∃ (j : Nat) (cs' : Array Value) (m : List Int), vs = [.int .i64 j] ∧ j = mm ∧ j ≤ i ∧ h' = { h with get := h.get.upd r (true, .cells cs' el (0, 0)) } ∧ cs'.size = cs.size ∧ Reads cs' m ∧ m.Perm l ∧ Ins m i j)
   ⟨i, cs1, m1, rfl, rfl, Nat.le_refl _, rfl, hsz1, hr1, hp1, fun a b u v hab hbi ha hb hu hv => hso1 a b u v hab (by omega) hu hv, fun b u v h1 h2 => by omega⟩ ?_
  rintro Y2 mm vs _ hY2 ⟨j, cs2, m2, rfl, rfl, hj, rfl, hsz2, hr2, hp2, hins⟩
  have hlen2 := hp2.length_eq
  have fin : (∀ a b u v, a < b → b ≤ i → m2[a]? = some u → m2[b]? = some v → u ≤ v) → Y [.int .i64 (IntKind.wrap .i64 ((i : Int) + 1))] { h with get := h.get.upd r (true, .cells cs2 el (0, 0)) } := by
   intro hso
   refine hY (l.length + 1 - (i + 1)) _ _ (by omega) ⟨i + 1, cs2, m2, ?_, rfl, by omega, by omega, rfl, hsz2, hr2, hp2, fun a b u v hab hb => hso a b u v hab (by omega)⟩
   rw [wrap_id (by omega) (by omega)]; rfl
  refine gZ ?_
  refine t_blk (fun vs h' => vs = [] ∧ h' = { h with get := h.get.upd r (true, .cells cs2 el (0, 0)) } ∧ ∃ (j' : Nat) (x y : Int), j = j' + 1 ∧ m2[j']? = some y ∧ m2[j' + 1]? = some x ∧ x < y) ?_ ?_
  ·refine t_if (fun e2 => ?_) (fun e2 => ?_)
   ·obtain ⟨j', rfl⟩ : ∃ j', j = j' + 1 := ⟨j - 1, by omega⟩
    obtain ⟨y, hy⟩ : ∃ y, m2[j']? = some y := ⟨m2[j']'(by omega), List.getElem?_eq_getElem (by omega)⟩
    obtain ⟨x, hx⟩ : ∃ x, m2[j' + 1]? = some x := ⟨m2[j' + 1]'(by omega), List.getElem?_eq_getElem (by omega)⟩
    have hw : IntKind.wrap .i64 (((j' + 1 : Nat) : Int) - 1) = (j' : Int) := by rw [wrap_id (by omega) (by omega)]; omega
    rw [hw]
    have g1 := hcell hr2 hx
    have g2 := hcell hr2 hy
    refine gT (by omega) (gS2 rfl (gL0 g1 (gT (by omega) (gS2 rfl (gL0 g2 ?_)))))
    refine t_pu (c2111 _ _) ?_
    refine gZ ?_
    refine t_cond (fun e3 => ?_) (fun e3 => ?_)
    ·exact t_again ⟨rfl, rfl, j', x, y, rfl, hy, hx, by simpa using e3⟩
    ·refine gR ?_
     refine t_cond (fun _ => ?_) (fun e => by cases e)
     refine gZ ?_
     have e3 : ¬ x < y := by simpa using e3
     exact t_again (fin (hins.done (.inr ⟨x, y, by simpa using hy, hx, by omega⟩)))
   ·refine gZ ?_
    refine t_cond (fun _ => ?_) (fun e => by cases e)
    refine gZ ?_
    exact t_again (fin (hins.done (.inl (by omega))))
  ·rintro vs _ ⟨rfl, rfl, j', x, y, rfl, hy, hx, hlt⟩
   have hw : IntKind.wrap .i64 (((j' + 1 : Nat) : Int) - 1) = (j' : Int) := by rw [wrap_id (by omega) (by omega)]; omega
   have g1 := hcell hr2 hx
   have g2 := hcell hr2 hy
   have hjs : j' + 1 < cs2.size := (Array.getElem?_eq_some_iff.1 (hr2 _ _ hx)).1
   rw [hw]
   refine gZ ?_
   refine t_storeU (o := j' + 1) (by rw [add_plain, add_plain]; simp) rfl hjs ?_
   refine gZ ?_
   refine t_storeU (o := j') (by rw [add_plain, add_plain]; simp) rfl (by simp; omega) ?_
   refine t_again (hY2 j' _ _ (by omega) ⟨j', _, (m2.set (j' + 1) y).set j' x, rfl, rfl, by omega, rfl, by simp [hsz2], ?_, (swap_perm m2 j' x y hy hx).trans hp2, hins.swap (by omega) hy hx hlt⟩)
   intro a z hz
   rw [List.getElem?_set, List.getElem?_set] at hz
   by_cases e4 : a = j'
   ·subst e4
    rw [Array.getElem?_setIfInBounds_self_of_lt (by simp; omega)]
    simp at hz
    rw [hz.2]
   ·rw [Array.getElem?_setIfInBounds_ne (Ne.symm e4)]
    rw [if_neg (Ne.symm e4)] at hz
    by_cases e5 : a = j' + 1
    ·subst e5
     rw [Array.getElem?_setIfInBounds_self_of_lt (by omega)]
     simp at hz
     rw [hz.2]
    ·rw [Array.getElem?_setIfInBounds_ne (Ne.symm e5)]
     rw [if_neg (Ne.symm e5)] at hz
     exact hr2 a z hz
 ·refine gZ ?_
  refine t_ret ⟨rfl, cs1, m1, hsz1, hr1, hp1, sorted_of (n := i) (by rw [hp1.length_eq]; omega) hso1, rfl⟩
theorem c2101 {h : LH} {r c : Nat} {el : TypeId} {cs : Array Value} {l : List Int} (hr : Reads cs l) (hl : l.length ≤ 12) (lim : Int) :
  FW X0 Tryz.prog 252 #[.slice (some ⟨r, 0, none⟩) l.length c, .int .i64 0, .int .i64 (l.length : Int), .int .i64 lim] { h with get := h.get.upd r (true, .cells cs el (0, 0)) } fun v h' => v = .tuple #[] ∧
   ∃ cs' l', cs'.size = cs.size ∧ Reads cs' l' ∧ l'.Perm l ∧ l'.Pairwise (· ≤ ·) ∧ h' = { h with get := h.get.upd r (true, .cells cs' el (0, 0)) } := by
 refine w2101 _ _ _ _ _ _ X0_ok ?_
 unfold n2101
 refine t_loop (fun mm vs h' => mm = 0 ∧ vs = [.int .i64 0, .int .i64 (l.length : Int), .int .i64 lim, .bool true, .bool true] ∧ h' = { h with get := h.get.upd r (true, .cells cs el (0, 0)) }) ⟨rfl, rfl, rfl⟩ ?_
 rintro Y mm vs _ hY ⟨rfl, rfl, rfl⟩
 refine gZ ?_
 have hw : IntKind.wrap .i64 ((l.length : Int) - 0) = (l.length : Int) := by rw [wrap_id (by omega) (by omega)]; omega
 rw [hw]
 refine t_if (fun e => ?_) (fun e => absurd (by omega) e)
 refine t_call (c2105 hr hl) ?_
 rintro _ h2 ⟨rfl, hq⟩
 refine gZ ?_
 exact t_ret ⟨rfl, hq⟩
set_option maxRecDepth 100000 in
theorem c2115 {h : LH} {x : Nat} (hx : x < 256) : FW X0 Tryz.prog 275 #[.int .u64 (x : Int)] h fun v h' => h' = h ∧ ∃ z, v = .int .i64 z := by
 refine w2115 _ X0_ok ?_
 unfold n2115
 refine t_blk (fun vs h' => vs = [.int .u64 (x : Int), .int .i64 0] ∧ h = h') ?_ ?_
 ·refine t_if (fun e => by omega) (fun e => ?_)
  exact t_again ⟨rfl, rfl⟩
 rintro vs _ ⟨rfl, rfl⟩
 refine gZ ?_
 refine t_blk (fun vs h' => vs = [.int .u64 (x : Int), .int .i64 0] ∧ h = h') ?_ ?_
 ·refine t_if (fun e => by omega) (fun e => ?_)
  exact t_again ⟨rfl, rfl⟩
 rintro vs _ ⟨rfl, rfl⟩
 refine gZ ?_
 refine t_if (fun e => by omega) (fun e => ?_)
 have hw : IntKind.wrap .u8 (x : Int) = (x : Int) := by
  have e1 : (2 ^ IntKind.u8.bits : Int) = 256 := rfl
  simp only [IntKind.wrap, e1, show IntKind.u8.signed = false from rfl, Bool.false_and, Bool.false_eq_true, if_false]
  omega
 rw [hw]
 refine t_indexStr (by kernel_rfl) (by kernel_rfl) hx fun b => ?_
 refine gZ ?_
 exact t_ret ⟨rfl, _, rfl⟩
theorem c2102 {h : LH} {x : Nat} (hx : x < 256) : FW X0 Tryz.prog 253 #[.int .u64 (x : Int)] h fun v h' => h' = h ∧ ∃ z, v = .int .i64 z := by
 refine w2102 _ X0_ok ?_
 unfold n2102
 refine t_call (c2115 hx) ?_
 rintro _ _ ⟨rfl, z, rfl⟩
 refine gZ ?_
 exact t_ret ⟨rfl, _, rfl⟩
theorem c2092 {h : LH} {r c : Nat} {el : TypeId} {cs : Array Value} {l : List Int} (hr : Reads cs l) (hl : l.length ≤ 12) :
  FW X0 Tryz.prog 212 #[.slice (some ⟨r, 0, none⟩) l.length c] { h with get := h.get.upd r (true, .cells cs el (0, 0)) } fun v h' => v = .tuple #[] ∧
   ∃ cs' l', cs'.size = cs.size ∧ Reads cs' l' ∧ l'.Perm l ∧ l'.Pairwise (· ≤ ·) ∧ h' = { h with get := h.get.upd r (true, .cells cs' el (0, 0)) } := by
 refine w2092 _ _ _ X0_ok ?_
 unfold n2092
 have hw : IntKind.wrap .u64 (l.length : Int) = (l.length : Int) := by
  have e1 : (2 ^ IntKind.u64.bits : Int) = 18446744073709551616 := rfl
  simp only [IntKind.wrap, e1, show IntKind.u64.signed = false from rfl, Bool.false_and, Bool.false_eq_true, if_false]
  omega
 rw [hw]
 refine t_call (c2102 (by omega)) ?_
 rintro _ _ ⟨rfl, z, rfl⟩
 refine gZ ?_
 refine t_call (c2101 hr hl z) ?_
 rintro _ h2 ⟨rfl, hq⟩
 refine gZ ?_
 exact t_ret ⟨rfl, hq⟩
end Go.Proofs.YtldamlcehbdkdaaGreatDoor.Tre
end
section
namespace Go.TM
open Go Go.Conc
variable {P : Program} {X : XP} {Q : Leaf → LH → Prop}
inductive Chain {S : Type} (nx : S → List Value → S → Prop) (s₀ : S) : List Int → S → Prop
 | nil : Chain nx s₀ [] s₀
 | snoc {l : List Int} {s s' : S} {v : Int} : Chain nx s₀ l s → nx s [.int .i64 v] s' → Chain nx s₀ (l ++ [v]) s'
theorem chain_keys {es : Array MapEntry} {c : Nat} {l : List Int} (k : Keys es c l) {acc : List Int} {seen : Array Nat} (h : Chain (NextKey es) #[] acc seen) :
  ∃ E : List MapEntry, (∀ e ∈ E, e ∈ es.toList) ∧ acc.map (Value.int .i64) = E.map (·.key) ∧ seen.toList = E.map (·.born) ∧ (E.map (·.born)).Nodup := by
 induction h with
 | nil => exact ⟨[], by simp, rfl, rfl, List.nodup_nil⟩
 | snoc h hn ih =>
  obtain ⟨E, h1, h2, h3, h4⟩ := ih
  obtain ⟨e, he, hb, hx, rfl⟩ := hn
  refine ⟨E ++ [e], fun a ha => ?_, ?_, ?_, ?_⟩
  ·rcases List.mem_append.1 ha with ha | ha
   ·exact h1 a ha
   ·simp at ha; subst ha; exact he
  ·simp only [List.cons.injEq, and_true] at hx
   rw [List.map_append, List.map_append, h2]
   simp [hx]
  ·simp [h3]
  ·rw [List.map_append]
   refine List.nodup_append.2 ⟨h4, by simp, fun a ha b hb' e' => ?_⟩
   simp at hb'; subst hb'; subst e'
   rw [h3] at hb
   exact hb ha
theorem nodup_key {es : Array MapEntry} {c : Nat} {l : List Int} (k : Keys es c l) : ∀ e ∈ es.toList, ∀ e' ∈ es.toList, e.key = e'.key → e.born = e'.born := by
 have hk : (es.toList.map (·.key)).Nodup := by
  rw [k.keys]
  rw [List.nodup_iff_pairwise_ne, List.pairwise_map]
  exact (List.nodup_iff_pairwise_ne.1 k.nodup).imp fun hne he => hne (by cases he; rfl)
 intro e he e' he' heq
 obtain ⟨i, hi, hie⟩ := List.getElem_of_mem he
 obtain ⟨j, hj, hje⟩ := List.getElem_of_mem he'
 have := (List.getElem_inj (xs := es.toList.map (·.key)) (i := i) (j := j) (h₀ := by simpa using hi) (h₁ := by simpa using hj) hk).1 (by simp [hie, hje, heq])
 subst this
 rw [hie] at hje; rw [hje]
theorem chain_done {es : Array MapEntry} {c : Nat} {l : List Int} (k : Keys es c l) {acc : List Int} {seen : Array Nat} (h : Chain (NextKey es) #[] acc seen) (hf : AllSeen es seen) : acc.Nodup ∧ ∀ v, v ∈ acc ↔ v ∈ l := by
 obtain ⟨E, h1, h2, h3, h4⟩ := chain_keys k h
 refine ⟨?_, fun v => ?_⟩
 ·have h5 : (acc.map (Value.int .i64)).Nodup := by
   rw [h2, List.nodup_iff_pairwise_ne, List.pairwise_map]
   rw [List.nodup_iff_pairwise_ne, List.pairwise_map] at h4
   exact (List.Pairwise.and_mem.1 h4).imp fun ⟨ha, hb, hne⟩ hk => hne (nodup_key k _ (h1 _ ha) _ (h1 _ hb) hk)
  rw [List.nodup_iff_pairwise_ne, List.pairwise_map] at h5
  rw [List.nodup_iff_pairwise_ne]
  exact h5.imp fun hne e => hne (by rw [e])
 ·constructor
  ·intro hv
   have : Value.int .i64 v ∈ acc.map (Value.int .i64) := List.mem_map.2 ⟨v, hv, rfl⟩
   rw [h2] at this
   obtain ⟨e, he, hk⟩ := List.mem_map.1 this
   have h6 : e.key ∈ es.toList.map (·.key) := List.mem_map.2 ⟨e, h1 e he, rfl⟩
   rw [k.keys, hk] at h6
   obtain ⟨w, hw, e'⟩ := List.mem_map.1 h6
   cases e'; exact hw
  ·intro hv
   have : Value.int .i64 v ∈ l.map (Value.int .i64) := List.mem_map.2 ⟨v, hv, rfl⟩
   rw [← k.keys] at this
   obtain ⟨e, he, hk⟩ := List.mem_map.1 this
   have h6 := hf e he
   rw [h3] at h6
   obtain ⟨e', he', hb⟩ := List.mem_map.1 h6
   have hee : e' = e := by
    obtain ⟨i, hi, hie⟩ := List.getElem_of_mem (h1 e' he')
    obtain ⟨j, hj, hje⟩ := List.getElem_of_mem he
    have := (List.getElem_inj (xs := es.toList.map (·.born)) (i := i) (j := j) (h₀ := by simpa using hi) (h₁ := by simpa using hj) k.born).1 (by simp [hie, hje, hb])
    subst this
    rw [← hie, ← hje]
   subst hee
   have : e'.key ∈ E.map (·.key) := List.mem_map.2 ⟨e', he', rfl⟩
   rw [← h2, hk] at this
   obtain ⟨w, hw, e2⟩ := List.mem_map.1 this
   cases e2; exact hw
def toCome (es : Array MapEntry) (seen : Array Nat) : Nat := (es.toList.filter fun e => !seen.toList.contains e.born).length
theorem filter_less {α : Type} {p q : α → Bool} : ∀ {l : List α}, (∀ x ∈ l, q x = true → p x = true) → (∃ x ∈ l, p x = true ∧ q x = false) → (l.filter q).length < (l.filter p).length
 | [], _, ⟨x, hx, _⟩ => by simp at hx
 | a :: l, h1, ⟨x, hx, h2, h3⟩ => by
  have hle : ∀ (l : List α), (∀ x ∈ l, q x = true → p x = true) → (l.filter q).length ≤ (l.filter p).length := by
   intro l
   induction l with
   | nil => intro _; simp
   | cons b l ih =>
    intro h
    have := ih fun x hx => h x (by simp [hx])
    rw [List.filter_cons, List.filter_cons]
    cases hb : q b with
    | true => rw [h b (by simp) hb]; simpa using this
    | false => cases p b <;> simp <;> omega
  rw [List.filter_cons, List.filter_cons]
  rcases List.mem_cons.1 hx with rfl | hx
  ·rw [h2, h3]
   have := hle l fun x hx => h1 x (by simp [hx])
   simp; omega
  ·have := filter_less (l := l) (fun y hy => h1 y (by simp [hy])) ⟨x, hx, h2, h3⟩
   cases hb : q a with
   | true => rw [h1 a (by simp) hb]; simpa using this
   | false => cases p a <;> simp <;> omega
theorem toCome_less {es : Array MapEntry} {seen : Array Nat} {xs : List Value} {seen' : Array Nat} (h : NextKey es seen xs seen') : toCome es seen' < toCome es seen := by
 obtain ⟨e, he, hb, _, rfl⟩ := h
 refine filter_less (fun x _ hx => ?_) ⟨e, he, ?_, ?_⟩
 ·simp at hx ⊢; exact hx.1
 ·simpa using hb
 ·simp
end Go.TM
namespace Go.Proofs.YtldamlcehbdkdaaGreatDoor.Tre
open Go Go.TM Go.Proofs Go.TM.Tr
attribute [local irreducible] T.wp CV FWK
theorem c2081 {h : LH} (m : Nat) : Gr Tryz.prog 199 #[.map (some m)] h fun r h' => ∃ z0, r = .func (.func 246) #[] #[.pointer (some z0)] ∧ h'.get.cell? z0 = some (.map (some m)) := by
 refine w2081 _ X0_ok ?_
 unfold n2081
 refine t_new fun r hr => ?_
 exact t_ret ⟨LH.upd_le hr, _, rfl, cell_upd rfl⟩
theorem hands2093 {X : XP} (hX : XOK X) {h₀ : LH} {z0 : Addr} {m c : Nat} {es : Array MapEntry} {b : Bool} {l : List Int} (hz : h₀.get.cell? z0 = some (.map (some m))) (hm : h₀.get m = some (b, .map es c)) (k : Keys es c l) :
  HandsG X Tryz.prog (.func (.func 246) #[] #[.pointer (some z0)]) h₀ (NextKey es) (AllSeen es) #[] := by
 intro y J E hJ hE hcall h hle hJ0
 refine cv_fw hX (by rfl) (?_ : FW X Tryz.prog 246 #[y, .pointer (some z0)] h _)
 refine w2093 _ _ hX ?_
 unfold n2093
 have hz1 := Cells.cell?_le hle.1 hz
 refine gL4 hz1 ?_
 refine t_range undMap (hle.1 _ _ hm) fun r hr => ?_
 refine gZ ?_
 have hst : ({ h with get := h.get.upd r (true, .mapIter (some m) c #[] c) } : LH) = { h with get := h.get.add (oneC r (.mapIter (some m) c #[] c)) } := by
  have : h.get.upd r (true, .mapIter (some m) c #[] c) = h.get.add (oneC r (.mapIter (some m) c #[] c)) := by
   funext a
   unfold Cells.upd Cells.add oneC
   by_cases e : a = r
   ·subst e; simp [hr]
   ·simp [e]; cases h.get a <;> rfl
  rw [this]
 rw [hst]
 refine t_loop (fun mm vs h' => ∃ (seen : Array Nat) (hb : LH), vs = [] ∧ mm = toCome es seen ∧ h' = { hb with get := hb.get.add (oneC r (.mapIter (some m) c seen c)) } ∧ Disj hb.get (oneC r (.mapIter (some m) c seen c)) ∧ h₀.le hb ∧ J seen hb)
  ⟨#[], h, rfl, rfl, rfl, disj_oneC hr, hle, hJ0⟩ ?_
 rintro Y mm vs _ hY ⟨seen, hb, rfl, rfl, rfl, dj, leb, hJs⟩
 have hbr := oneC_none dj
 refine gZ ?_
 refine t_next (m := m) (r := r) (c := c) (es := es) (seen := seen) (b := b) (add_oneC_get hbr) (Cells.add_left (leb.1 _ _ hm)) k.lt (fun hall => ?_) fun e he hnb => ?_
 ·refine gZ ?_
  refine t_cond (fun e => by cases e) (fun _ => ?_)
  refine gZ ?_
  refine t_ret ⟨⟨fun a x ha => Cells.add_left (leb.1 a x ha), leb.2⟩, .inl ⟨seen, hall, ?_⟩⟩
  exact hJ seen hb _ hJs dj
 ·rw [add_oneC_upd hbr]
  have dj2 : Disj hb.get (oneC r (.mapIter (some m) c (seen.push e.born) c)) := disj_oneC hbr
  refine gZ ?_
  refine t_cond (fun _ => ?_) (fun e => by cases e)
  refine gZ ?_
  refine t_entry (m := m) (r := r) (c := c) (es := es) (seen := seen) (e := e) (b := b) (add_oneC_get hbr) (Cells.add_left (leb.1 _ _ hm)) he k.born ?_
  refine gZ ?_
  have hnk : NextKey es seen [e.key] (seen.push e.born) := ⟨e, he, hnb, rfl, rfl⟩
  have hcv := CV.frame hX (hcall seen hb [e.key] (seen.push e.born) leb hnk hJs) dj2
  refine t_callv hcv ?_
  rintro bv _ ⟨h3, d3, rfl, le3, ⟨rfl, hJ3⟩ | ⟨rfl, hE3⟩⟩
  ·refine gZ ?_
   refine t_cond (fun e => by cases e) (fun _ => ?_)
   exact t_again (hY _ _ _ (toCome_less hnk) ⟨_, h3, rfl, rfl, rfl, d3, le3, hJ3⟩)
  ·refine gZ ?_
   refine t_cond (fun _ => ?_) (fun e => by cases e)
   refine gZ ?_
   exact t_ret ⟨⟨fun a x ha => Cells.add_left (le3.1 a x ha), le3.2⟩, .inr (hE h3 _ hE3 d3)⟩
theorem c2100 {h : LH} {S : Type} {nx : S → List Value → S → Prop} {fin : S → Prop} {s₀ : S} {seq : Value} (μ : S → Nat) (hμ : ∀ s xs s', nx s xs s' → μ s' < μ s) (hint : ∀ s xs s', nx s xs s' → ∃ v, xs = [.int .i64 v]) (hm : μ s₀ ≤ 1000) (hH : HandsG X0 Tryz.prog seq h nx fin s₀) :
  Gr Tryz.prog 263 #[.slice none 0 0, seq] h fun r h' => ∃ p n c s acc, fin s ∧ Chain nx s₀ acc s ∧ r = .slice p n c ∧ acc.length ≤ μ s₀ ∧ Growing IntEnc 3 1 h.get h'.get p n c acc := by
 refine w2100 _ _ _ _ X0_ok ?_
 unfold n2100
 refine t_eachG μ hμ (LH.le_refl h) hH (fun s vs h' => ∃ p n c acc, vs = [.slice p n c] ∧ Chain nx s₀ acc s ∧ acc.length + μ s ≤ μ s₀ ∧ Growing IntEnc 3 1 h.get h'.get p n c acc)
  ⟨none, 0, 0, [], rfl, .nil, by simp, Growing.nil⟩ ?_ ?_
 ·rintro s vs h' hf hle ⟨p, n, c, acc, rfl, hch, hlen, g⟩
  refine gZ ?_
  exact t_ret ⟨hle, p, n, c, s, acc, hf, hch, rfl, by omega, g⟩
 ·rintro s xs s' vs h' hn hle ⟨p, n, c, acc, rfl, hch, hlen, g⟩ Y hY
  obtain ⟨v, rfl⟩ := hint s xs s' hn
  have hlt := hμ _ _ _ hn
  have hnn := g.count IntEnc.len (by omega)
  refine gZ ?_
  refine t_push v [.int .i64 v] rfl rfl und50 inf3 rfl (by omega) (by decide) (by kernel_rfl) rfl (by simp; rfl) (by omega) g hle rfl ?_
  intro p' c' h3 le3 _ g3
  refine gZ ?_
  exact t_againE le3 (hY _ _ le3 ⟨p', n + 1, c', acc ++ [v], rfl, hch.snoc hn, by simp; omega, g3⟩)
theorem c2091 {h : LH} {S : Type} {nx : S → List Value → S → Prop} {fin : S → Prop} {s₀ : S} {seq : Value} (μ : S → Nat) (hμ : ∀ s xs s', nx s xs s' → μ s' < μ s) (hint : ∀ s xs s', nx s xs s' → ∃ v, xs = [.int .i64 v]) (hm : μ s₀ ≤ 1000) (hH : HandsG X0 Tryz.prog seq h nx fin s₀) :
  Gr Tryz.prog 245 #[seq] h fun r h' => ∃ p n c s acc, fin s ∧ Chain nx s₀ acc s ∧ r = .slice p n c ∧ acc.length ≤ μ s₀ ∧ Growing IntEnc 3 1 h.get h'.get p n c acc := by
 refine w2091 _ X0_ok ?_
 unfold n2091
 refine t_gr (c2100 μ hμ hint hm hH) ?_
 rintro _ h1 le1 ⟨p, n, c, s, acc, h2, h3, rfl, h4, h5⟩
 refine gZ ?_
 exact t_ret ⟨le1, p, n, c, s, acc, h2, h3, rfl, h4, h5⟩
theorem rows_reads {vs : List Value} {l : List Int} (r : Go.TM.Rows IntEnc vs l) : vs = l.map (Value.int .i64) := by
 induction r with
 | nil => rfl
 | snoc r he ih => rw [he, ih]; simp
theorem grown {h₀ h : Cells} {p : Option Addr} {n c : Nat} {l : List Int} (g : Growing IntEnc 3 1 h₀ h p n c l) (hne : l ≠ []) : ∃ r cs, p = some ⟨r, 0, none⟩ ∧ h = h.upd r (true, .cells cs 3 (0, 0)) ∧ h₀ r = none ∧ n = l.length ∧ n ≤ c ∧ cs.size = c * 1 ∧ Reads cs l ∧
  ∀ cs' l', cs'.size = cs.size → Reads cs' l' → l'.length = l.length → Growing IntEnc 3 1 h₀ (h.upd r (true, .cells cs' 3 (0, 0))) p n c l' := by
 have hn := g.count IntEnc.len (by omega)
 obtain ⟨vs, ⟨h1, h2⟩, h3⟩ := g.row
 have hvs := rows_reads h3
 rcases h2 with ⟨_, h2, _⟩ | ⟨r, cs, rfl, hr, hcs, hnc, hv⟩
 ·exfalso; apply hne; exact List.eq_nil_of_length_eq_zero (by omega)
 ·refine ⟨r, cs, rfl, ?_, g.new _ rfl, hn, hnc, hcs, ?_, ?_⟩
  ·funext a
   unfold Cells.upd
   by_cases e : a = r
   ·subst e; simp [hr]
   ·simp [e]
  ·intro i y hy
   refine hv i _ ?_
   rw [hvs, List.getElem?_map, hy]; rfl
  ·intro cs' l' hsz hrd hlen
   have rows : ∀ l : List Int, Go.TM.Rows IntEnc (l.map (Value.int .i64)) l := by
    intro l
    have : ∀ (k : Nat) (l : List Int), l.length = k → Go.TM.Rows IntEnc (l.map (Value.int .i64)) l := by
     intro k
     induction k with
     | zero => intro l hl; rw [List.eq_nil_of_length_eq_zero hl]; exact .nil
     | succ k ih =>
      intro l hl
      obtain ⟨a, b, rfl⟩ : ∃ a b, l = a ++ [b] := ⟨l.dropLast, l.getLast (by intro e; subst e; simp at hl), (List.dropLast_concat_getLast _).symm⟩
      rw [List.map_append]
      exact Go.TM.Rows.snoc (ih a (by simp at hl; exact hl)) rfl
    exact this _ l rfl
   refine ⟨⟨l'.map (Value.int .i64), ⟨by rw [List.length_map]; omega, .inr ⟨r, cs', rfl, Cells.upd_self _ _ _, by rw [hsz]; exact hcs, hnc, fun j v hj => ?_⟩⟩, rows l'⟩, g.new⟩
   rw [List.getElem?_map] at hj
   cases hy : l'[j]? with
   | none => rw [hy] at hj; cases hj
   | some y => rw [hy] at hj; cases hj; exact hrd j y hy
theorem c2059 {h : LH} {m c : Nat} {es : Array MapEntry} {b : Bool} {l : List Int} (hm : h.get m = some (b, .map es c)) (k : Keys es c l) (hne : l ≠ []) (hl : l.length ≤ 12) :
  Gr Tryz.prog 143 #[.map (some m)] h fun r h' => ∃ p n c acc, r = .slice p n c ∧ Sl IntE 1 h'.get p n acc ∧ n ≤ c ∧ acc.Pairwise (· < ·) ∧ ∀ v, v ∈ acc ↔ v ∈ l := by
 refine w2059 _ X0_ok ?_
 unfold n2059
 refine t_gr (c2081 m) ?_
 rintro _ h1 le1 ⟨z0, rfl, hz⟩
 have hlen : es.toList.length = l.length := by
  have := congrArg List.length k.keys
  simpa using this
 have hu : toCome es #[] ≤ 12 := by
  unfold toCome
  have := List.length_filter_le (fun e : MapEntry => !(#[] : Array Nat).toList.contains e.born) es.toList
  omega
 have sorted : Gr Tryz.prog 198 #[.func (.func 246) #[] #[.pointer (some z0)]] h1 fun r h' => ∃ p n c acc, r = .slice p n c ∧ Sl IntE 1 h'.get p n acc ∧ n ≤ c ∧ acc.Pairwise (· < ·) ∧ ∀ v, v ∈ acc ↔ v ∈ l := by
  refine w2080 _ X0_ok ?_
  unfold n2080
  refine t_gr (c2091 (toCome es) (fun s xs s' h => toCome_less h) ?_ (by omega) (hands2093 X0_ok hz (le1.1 _ _ hm) k)) ?_
  ·rintro s xs s' ⟨e, he, _, rfl, _⟩
   have : e.key ∈ es.toList.map (·.key) := List.mem_map.2 ⟨e, he, rfl⟩
   rw [k.keys] at this
   obtain ⟨v, _, hv⟩ := List.mem_map.1 this
   exact ⟨v, by rw [hv]⟩
  ·rintro _ h2 le2 ⟨p, n, c, s, acc, hf, hch, rfl, hal, g⟩
   obtain ⟨hnd, hmem⟩ := chain_done k hch hf
   have hane : acc ≠ [] := by
    rintro rfl
    apply hne
    exact List.eq_nil_iff_forall_not_mem.2 fun v hv => by simpa using (hmem v).2 hv
   obtain ⟨r, cs, rfl, hup, hr0, rfl, hnc, hcs, hrd, hback⟩ := grown g hane
   refine gZ ?_
   have hst : h2 = { h2 with get := h2.get.upd r (true, .cells cs 3 (0, 0)) } := by
    obtain ⟨g2, a2, b2, d2⟩ := h2
    simp only [LH.mk.injEq, and_self, and_true]
    exact hup
   rw [hst]
   refine t_call (c2092 hrd (by omega)) ?_
   rintro _ _ ⟨rfl, cs', l', hsz, hrd', hperm, hso, rfl⟩
   refine gZ ?_
   have g' := hback cs' l' hsz hrd' hperm.length_eq
   refine t_ret ⟨?_, _, _, c, l', rfl, g'.sl IntEnc.len (by omega) IntEnc.e (by rw [hperm.length_eq]; omega), hnc, ?_, fun v => by rw [hperm.mem_iff, hmem]⟩
   ·refine ⟨fun a x ha => ?_, le2.2⟩
    have hne' : a ≠ r := by rintro rfl; rw [hr0] at ha; cases ha
    show Cells.upd _ _ _ a = _
    rw [Cells.upd_ne _ _ hne']
    exact le2.1 a x ha
   ·have hnd' : l'.Nodup := hperm.nodup_iff.2 hnd
    rw [List.nodup_iff_pairwise_ne] at hnd'
    exact (hso.and hnd').imp fun ⟨h1, h2⟩ => by omega
 refine t_gr sorted ?_
 rintro _ h2 le2 ⟨p, n, c', acc, rfl, h3, h4, h5, h6⟩
 refine gZ ?_
 exact t_ret ⟨LH.le_trans le1 le2, p, n, c', acc, rfl, h3, h4, h5, h6⟩
end Go.Proofs.YtldamlcehbdkdaaGreatDoor.Tre
end
section
namespace Go.TM
open Go Go.Conc
theorem nodup_len : ∀ {l m : List Int}, l.Nodup → (∀ v ∈ l, v ∈ m) → l.length ≤ m.length
 | [], m, _, _ => Nat.zero_le _
 | a :: l, m, hn, hs => by
  have ha := hs a (by simp)
  have hn' := List.nodup_cons.1 hn
  have := nodup_len (l := l) (m := m.erase a) hn'.2 fun v hv => by
   rw [List.mem_erase_of_ne]
   ·exact hs v (by simp [hv])
   ·rintro rfl; exact hn'.1 hv
  have h2 := List.length_erase_of_mem ha
  have h3 := List.length_pos_of_mem ha
  simp only [List.length_cons]
  omega
def SpE (h : Cells) (a : Addr) (s : Tr.Sp) : Prop := h.cell? (a.add 0) = some (.int .i64 s.first) ∧ h.cell? (a.add 1) = some (.int .i64 s.last)
def SpEnc (s : Tr.Sp) (ws : List Value) : Prop := ws = [.int .i64 s.first, .int .i64 s.last]
theorem SpE.grow : Grow SpE := fun _ _ _ _ hl h => ⟨hl _ _ h.1, hl _ _ h.2⟩
theorem SpEnc.len : ∀ d ws, SpEnc d ws → ws.length = 2 := by rintro d _ rfl; rfl
theorem SpEnc.e {h' : Cells} : ∀ a d ws, SpEnc d ws → (∀ (j : Nat) w, ws[j]? = some w → h'.cell? (a.add j) = some w) → SpE h' a d := by
 rintro a d _ rfl hc; exact ⟨hc 0 _ rfl, hc 1 _ rfl⟩
theorem Rows.last {α : Type} {Enc : α → List Value → Prop} {vs : List Value} {l : List α} {x : α} (r : Rows Enc vs (l ++ [x])) : ∃ us ws, vs = us ++ ws ∧ Rows Enc us l ∧ Enc x ws := by
 generalize he : l ++ [x] = m at r
 cases r with
 | nil => simp at he
 | snoc r hx =>
  rename_i us l' y ws
  have := List.append_inj' he rfl
  obtain ⟨rfl, h2⟩ := this
  simp at h2; subst h2
  exact ⟨us, ws, rfl, r, hx⟩
theorem Growing.lastSp {el : TypeId} {h₀ h : Cells} {p : Option Addr} {n c : Nat} {out : List Tr.Sp} {s : Tr.Sp} (g : Growing SpEnc el 2 h₀ h p n c (out ++ [s])) :
  ∃ r cs, p = some ⟨r, 0, none⟩ ∧ h r = some (true, .cells cs el (0, 0)) ∧ h₀ r = none ∧ n = out.length + 1 ∧ 2 * out.length + 1 < cs.size ∧ cs[2 * out.length + 1]? = some (.int .i64 s.last) ∧
   ∀ v : Int, Growing SpEnc el 2 h₀ (h.upd r (true, .cells (cs.setIfInBounds (2 * out.length + 1) (.int .i64 v)) el (0, 0))) p n c (out ++ [⟨s.first, v⟩]) := by
 have hn := g.count SpEnc.len (by omega)
 obtain ⟨vs, ⟨h1, h2⟩, h3⟩ := g.row
 obtain ⟨us, ws, rfl, h4, rfl⟩ := h3.last
 have hus := h4.len SpEnc.len
 rcases h2 with ⟨_, h2, _⟩ | ⟨r, cs, rfl, hr, hcs, hnc, hv⟩
 ·simp at hn; omega
 ·have hn' : n = out.length + 1 := by simpa using hn
  have hc1 : cs[2 * out.length + 1]? = some (.int .i64 s.last) := by
   refine hv _ _ ?_
   rw [List.getElem?_append_right (by omega)]
   rw [show 2 * out.length + 1 - us.length = 1 by omega]; rfl
  refine ⟨r, cs, rfl, hr, g.new _ rfl, hn', (Array.getElem?_eq_some_iff.1 hc1).1, hc1, fun v => ?_⟩
  refine ⟨⟨us ++ [.int .i64 s.first, .int .i64 v], ⟨by rw [List.length_append, hus, hn']; simp; omega, .inr ⟨r, _, rfl, Cells.upd_self _ _ _, by simp; exact hcs, hnc, fun j w hj => ?_⟩⟩, Rows.snoc (x := (⟨s.first, v⟩ : Tr.Sp)) (ws := [.int .i64 s.first, .int .i64 v]) h4 rfl⟩, g.new⟩
  by_cases e : j = 2 * out.length + 1
  ·subst e
   rw [Array.getElem?_setIfInBounds_self_of_lt (Array.getElem?_eq_some_iff.1 hc1).1]
   rw [List.getElem?_append_right (by omega), show 2 * out.length + 1 - us.length = 1 by omega] at hj
   exact hj
  ·rw [Array.getElem?_setIfInBounds_ne (Ne.symm e)]
   refine hv j w ?_
   by_cases e2 : j < us.length
   ·rw [List.getElem?_append_left e2] at hj ⊢; exact hj
   ·rw [List.getElem?_append_right (by omega)] at hj ⊢
    match hq : j - us.length, hj with
    | 0, hj => exact hj
    | 1, hj => omega
    | q + 2, hj => simp at hj
end Go.TM
namespace Go.Proofs.YtldamlcehbdkdaaGreatDoor.Tre
open Go Go.TM Go.Proofs Go.TM.Tr
attribute [local irreducible] T.wp CV FWK
def SpansR (h : Cells) (x : TF) (k i : Int) (r : Value) : Prop :=
 (askedItemT x k i ≠ 0 ∧ r = .tuple #[.slice none 0 0, .int .i64 (askedItemT x k i)]) ∨
 (askedItemT x k i = 0 ∧ ∃ p n c l, r = .tuple #[.slice p n c, .int .i64 0] ∧ IsDays x l ∧ Sl SpE 2 h p n (spansT x k i l) ∧ n ≤ c)
theorem join_none {d e : Int} : join [] d e = [⟨d, e - 1⟩] := rfl
theorem join_last {out : List Sp} {s : Sp} {d e : Int} : join (out ++ [s]) d e = if s.last = d - 1 then out ++ [⟨s.first, e - 1⟩] else (out ++ [s]) ++ [⟨d, e - 1⟩] := by
 unfold join
 simp
set_option maxRecDepth 10000 in
theorem c2023 {h : LH} (hk : Kinds h.get) {f : TC} {x : TF} (hx : TreatyR h.get f x) (k i : Int) : Gr Tryz.prog 90 #[treatyV f x, .int .i64 k, .int .i64 i] h fun r h' => SpansR h'.get x k i r := by
 refine w2023 _ _ _ _ _ _ _ _ _ _ _ X0_ok ?_
 unfold n2023
 refine t_pu (c2058 hk hx k i) ?_
 refine gZ ?_
 refine t_cond (fun e => ?_) (fun e => ?_)
 ·exact t_ret ⟨LH.le_refl _, .inl ⟨by simpa using e, rfl⟩⟩
 have e0 : askedItemT x k i = 0 := by simpa using e
 have hck := (asked_ok (askedItem_ok e0).1).1
 have rt := Right.of hck
 have hmany := rt.many
 have hn := hx.2.1
 refine t_makeMap fun m hm0 => ?_
 have lem : ∀ {h' : LH} {o : Obj}, h.le h' → h.le { h' with get := h'.get.upd m (true, o) } := by
  intro h' o hl
  refine ⟨fun a y ha => ?_, hl.2⟩
  have : a ≠ m := by rintro rfl; rw [hm0] at ha; cases ha
  show Cells.upd _ _ _ a = _
  rw [Cells.upd_ne _ _ this]; exact hl.1 a y ha
 refine gZ ?_
 refine t_putKey (l := []) undMap i64_3 ⟨#[], 0, Cells.upd_self _ _ _, Keys.nil⟩ fun es1 c1 l1 hm1 k1 hl1 => ?_
 refine t_putKey (l := l1) undMap i64_3 ⟨es1, c1, hm1, k1⟩ fun es2 c2 l2 hm2 k2 hl2 => ?_
 have le2 := lem (o := .map es2 c2) (lem (o := .map es1 c1) (lem (o := .map #[] 0) (LH.le_refl h)))
 refine t_loop (fun mm vs h' => h.le h' ∧ ∃ (j : Nat) (es : Array MapEntry) (c : Nat) (l : List Int), vs = [.int .i64 j] ∧ j ≤ f.n ∧ mm = f.n - j ∧ h'.get m = some (true, .map es c) ∧ Keys es c l ∧ ∀ v, v ∈ l ↔ v = 0 ∨ v = 10000 ∨ ∃ e ∈ x.events.take j, e.day = v)
  ⟨le2, 0, es2, c2, l2, rfl, Nat.zero_le _, rfl, hm2, k2, fun v => by rw [hl2, hl1]; simp; omega⟩ ?_
 rintro Y mm vs h3 hY ⟨le3, j, es, c, l, rfl, hj, rfl, hm3, k3, hl3⟩
 refine gZ ?_
 refine t_if (fun e1 => ?_) (fun e1 => ?_)
 ·obtain ⟨e, a, he, ha, g0, g1, g2, ⟨q, mq, cq, g3, g6, g5⟩, g4⟩ := (hx.2.le EventE.grow le3.1).at (i := j) (by omega)
  refine gZ ?_
  refine t_putKey (l := l) undMap i64_3 ⟨es, c, hm3, k3⟩ fun es' c' l' hm' k' hl' => ?_
  refine t_again (hY (f.n - (j + 1)) _ _ (by omega) ⟨lem le3, j + 1, es', c', l', ?_, by omega, rfl, hm', k', fun v => ?_⟩)
  ·rw [wrap_id (by omega) (by omega)]; rfl
  ·rw [hl', hl3, List.take_add_one, he]
   simp only [List.mem_append, Option.toList, List.mem_singleton]
   constructor
   ·rintro (rfl | h1 | h1 | ⟨e', h1, h2⟩)
    ·exact .inr (.inr ⟨e, .inr rfl, rfl⟩)
    ·exact .inl h1
    ·exact .inr (.inl h1)
    ·exact .inr (.inr ⟨e', .inl h1, h2⟩)
   ·rintro (h1 | h1 | ⟨e', h1 | rfl, h2⟩)
    ·exact .inr (.inl h1)
    ·exact .inr (.inr (.inl h1))
    ·exact .inr (.inr (.inr ⟨e', h1, h2⟩))
    ·exact .inl h2.symm
 ·refine gZ ?_
  rw [List.take_of_length_le (by omega)] at hl3
  have hl12 : l.length ≤ 12 := by
   have := nodup_len (m := 0 :: 10000 :: x.events.map (·.day)) k3.nodup fun v hv => by
    rcases (hl3 v).1 hv with rfl | rfl | ⟨e, he, rfl⟩
    ·simp
    ·simp
    ·simp only [List.mem_cons, List.mem_map]; exact .inr (.inr ⟨e, he, rfl⟩)
   simp at this; omega
  have hlne : l ≠ [] := by
   rintro rfl
   have := (hl3 0).2 (.inl rfl)
   simp at this
  refine t_gr (c2059 hm3 k3 hlne hl12) ?_
  rintro _ h4 le4 ⟨p, n, c', days, rfl, hs, hnc, hup, hmem⟩
  have isd : IsDays x days := ⟨hup, fun v => by rw [hmem, hl3]⟩
  have hdn := hs.1
  have hd2 : 2 ≤ days.length := by
   have h0 : (0 : Int) ∈ days := (isd.mem 0).2 (.inl rfl)
   have h1 : (10000 : Int) ∈ days := (isd.mem 10000).2 (.inr (.inl rfl))
   match days, h0, h1 with
   | [], h0, _ => simp at h0
   | [a], h0, h1 => simp at h0 h1; omega
   | a :: b :: l, _, _ => simp
  have hd12 : days.length ≤ 12 := by
   have := nodup_len (m := l) (hup.imp fun h => by omega) fun v hv => (hmem v).1 hv
   omega
  have hbound : ∀ v ∈ days, 0 ≤ v ∧ v ≤ 10000 := by
   intro v hv
   rcases (isd.mem v).1 hv with rfl | rfl | ⟨e, he, rfl⟩
   ·omega
   ·omega
   ·have := rt.ok e he; omega
  have le04 := LH.le_trans le3 le4
  refine gZ ?_
  have hw : IntKind.wrap .i64 ((n : Int) - 1) = ((n - 1 : Nat) : Int) := by rw [wrap_id (by omega) (by omega)]; omega
  rw [hw]
  refine t_sliceHigh und50 inf3 (by omega) ?_
  refine gZ ?_
  refine t_loop (fun mm vs h' => h4.le h' ∧ ∃ (j : Nat) (q : Option Addr) (m cc : Nat) (out : List Sp), vs = [.slice q m cc, .int .i64 j] ∧ j ≤ n - 1 ∧ mm = n - 1 - j ∧ out.length ≤ j ∧ Growing SpEnc 29 2 h4.get h'.get q m cc out ∧ spansT x k i days = spansGo (fun d => decide (0 ≤ dateOn x k i d)) (days.drop j) out)
   ⟨LH.le_refl _, 0, none, 0, 0, [], rfl, Nat.zero_le _, rfl, Nat.le_refl _, Growing.nil, rfl⟩ ?_
  clear hY e1 hj
  rintro Y mm vs h5 hY ⟨le5, j, q, mq, cc, out, rfl, hj, rfl, hol, g, hc⟩
  have le05 := LH.le_trans le04 le5
  have hmq := g.count SpEnc.len (by omega)
  have next : ∀ h' q' m' c' out', h4.le h' → j + 1 ≤ n - 1 → out'.length ≤ j + 1 → Growing SpEnc 29 2 h4.get h'.get q' m' c' out' → spansT x k i days = spansGo (fun d => decide (0 ≤ dateOn x k i d)) (days.drop (j + 1)) out' → Y [.slice q' m' c', .int .i64 (IntKind.wrap .i64 ((j : Int) + 1))] h' := by
   intro h' q' m' c' out' hle' hlt hol' g' hc'
   refine hY (n - 1 - (j + 1)) _ _ (by omega) ⟨hle', j + 1, q', m', c', out', ?_, by omega, rfl, hol', g', hc'⟩
   rw [wrap_id (by omega) (by omega)]; rfl
  refine gZ ?_
  refine t_if (fun e2 => ?_) (fun e2 => ?_)
  ·obtain ⟨d, a, hd, ha, e3⟩ := (hs.le IntE.grow le5.1).at (i := j) (by omega)
   obtain ⟨d2, a2, hd2', ha2, e4⟩ := (hs.le IntE.grow le5.1).at (i := j + 1) (by omega)
   unfold IntE at e3 e4
   rw [ha] at ha2; cases ha2
   have hwj : IntKind.wrap .i64 ((j : Int) + 1) = ((j + 1 : Nat) : Int) := by rw [wrap_id (by omega) (by omega)]; rfl
   rw [drop_of hd, drop_of hd2', spansGo] at hc
   rw [← drop_of hd2'] at hc
   have hdb := hbound d (List.mem_of_getElem? hd)
   have hdb2 := hbound d2 (List.mem_of_getElem? hd2')
   rw [hwj] at next ⊢
   refine gZ ?_
   refine t_gr (c2060 (hk.le le05.1) (hx.le le05.1) rt k i d) ?_
   rintro _ h6 le6 rfl
   have le46 := LH.le_trans le5 le6
   have g6 := g.le le6.1
   refine gZ ?_
   refine t_if (fun e5 => ?_) (fun e5 => ?_)
   ·rw [if_neg (by simp; omega)] at hc
    exact t_again (next h6 q mq cc out le46 (by omega) (by omega) g6 hc)
   ·rw [if_pos (by simp; omega)] at hc
    have hwd : IntKind.wrap .i64 (d2 - 1) = d2 - 1 := wrap_id (by omega) (by omega)
    have hwd1 : IntKind.wrap .i64 (d - 1) = d - 1 := wrap_id (by omega) (by omega)
    rw [hwd, hwd1]
    have push : spansT x k i days = spansGo (fun d => decide (0 ≤ dateOn x k i d)) (days.drop (j + 1)) (out ++ [⟨d, d2 - 1⟩]) → ∀ {K : Value → T} {Q : Leaf → LH → Prop}, (∀ p' c' h', h4.le h' → Growing SpEnc 29 2 h4.get h'.get p' (mq + 1) c' (out ++ [⟨d, d2 - 1⟩]) → (K (.slice p' (mq + 1) c')).wp X0 Tryz.prog Q h') →
      (T.sem false (Instr.buildSlice 22 1 #[(0, .agg #[.int .i64 d, .int .i64 (d2 - 1)])]) fun v => T.unS v fun a m mc => T.sem false (Builtin.append_ #[22, 22] 22 #[.slice q mq cc, .slice a m mc]) K).wp X0 Tryz.prog Q h6 := by
     intro _ K Q hK
     refine t_push (⟨d, d2 - 1⟩ : Sp) [.int .i64 d, .int .i64 (d2 - 1)] rfl rfl und22 inf30 rfl (by omega) (by decide) (by kernel_rfl) rfl (by simp; exact ⟨rfl, rfl⟩) (by omega) g6 le46 rfl ?_
     intro p' c' h7 le7 _ g7
     exact hK p' c' h7 le7 g7
    refine t_if (fun e6 => ?_) (fun e6 => ?_)
    ·obtain ⟨out', s, rfl⟩ : ∃ out' s, out = out' ++ [s] := ⟨out.dropLast, out.getLast (by rintro rfl; simp at hmq; omega), (List.dropLast_concat_getLast _).symm⟩
     obtain ⟨r, cs, rfl, hr6, hr0, hmq', hlt, hcs, hset⟩ := g6.lastSp
     have hwm : IntKind.wrap .i64 ((mq : Int) - 1) = (out'.length : Int) := by rw [wrap_id (by omega) (by omega)]; omega
     have hcell : h6.get.cell? ((Addr.add ⟨r, 0, none⟩ ((out'.length : Int).toNat * 2)).add 1) = some (.int .i64 s.last) := by
      rw [add_plain, add_plain]
      have : 0 + (out'.length : Int).toNat * 2 + 1 = 2 * out'.length + 1 := by simp; omega
      rw [this]
      simp only [Cells.cell?, hr6, Option.isSome_none, Bool.false_eq_true, if_false]
      exact hcs
     rw [join_last] at hc
     rw [hwm]
     refine gT (by omega) (gS2 rfl (gL0 hcell ?_))
     refine t_cond (fun e7 => ?_) (fun e7 => ?_)
     ·rw [if_pos (by simpa using e7)] at hc
      refine gT (by omega) (gS2 rfl ?_)
      have haddr : ((Addr.add ⟨r, 0, none⟩ ((out'.length : Int).toNat * 2)).add 1).add 0 = ⟨r, 2 * out'.length + 1, none⟩ := by
       rw [add_plain, add_plain, add_plain]
       have : 0 + (out'.length : Int).toNat * 2 + 1 + 0 = 2 * out'.length + 1 := by simp; omega
       rw [this]
      rw [haddr]
      have hcell2 : h6.get.cell? ⟨r, 2 * out'.length + 1, none⟩ = some (.int .i64 s.last) := by
       simp only [Cells.cell?, hr6, Option.isSome_none, Bool.false_eq_true, if_false]
       exact hcs
      refine t_store rfl ⟨_, hr6⟩ hcell2 (by simp [Cells.frozen?, hr6]) ?_
      have hupd : h6.get.setCell ⟨r, 2 * out'.length + 1, none⟩ (.int .i64 (d2 - 1)) = h6.get.upd r (true, .cells (cs.setIfInBounds (2 * out'.length + 1) (.int .i64 (d2 - 1))) 29 (0, 0)) := by
       funext b
       unfold Cells.setCell Cells.upd
       by_cases e : b = r
       ·subst e; simp [hr6]
       ·simp [e]
      rw [hupd]
      refine t_again (next _ _ _ _ (out' ++ [⟨s.first, d2 - 1⟩]) ?_ (by omega) (by simp at hol ⊢; omega) (hset (d2 - 1)) hc)
      refine ⟨fun b y hb => ?_, le46.2⟩
      have hne : b ≠ r := by rintro rfl; rw [hr0] at hb; cases hb
      show Cells.upd _ _ _ b = _
      rw [Cells.upd_ne _ _ hne]; exact le46.1 b y hb
     ·rw [if_neg (by simpa using e7)] at hc
      refine push hc fun p' c' h7 le7 g7 => ?_
      refine gZ ?_
      exact t_again (next h7 p' _ c' _ le7 (by omega) (by simp at hol ⊢; omega) g7 hc)
    ·have hout : out = [] := List.eq_nil_of_length_eq_zero (by omega)
     subst hout
     rw [join_none] at hc
     refine push hc fun p' c' h7 le7 g7 => ?_
     refine gZ ?_
     exact t_again (next h7 p' _ c' _ le7 (by omega) (by simp) g7 hc)
  ·refine gZ ?_
   have hjn : j = n - 1 := by omega
   have hfin : spansT x k i days = out := by
    rw [hc]
    have hlen1 : (days.drop j).length = 1 := by rw [List.length_drop]; omega
    match hd : days.drop j, hlen1 with
    | [d], _ => rfl
   refine t_ret ⟨le05, .inr ⟨e0, q, mq, cc, days, rfl, isd, ?_, ?_⟩⟩
   ·rw [hfin]
    exact g.sl SpEnc.len (by omega) SpEnc.e (by omega)
   ·obtain ⟨vs, o, _⟩ := g.row
    exact o.le_cap
end Go.Proofs.YtldamlcehbdkdaaGreatDoor.Tre
end
section
namespace Go.TM
open Go Go.Conc
variable {P : Program}
theorem setCell_at {h : Cells} {r i : Nat} {m : Bool} {cs : Array Value} {el : TypeId} {v : Value} (hr : h r = some (m, .cells cs el (0, 0))) : h.setCell ⟨r, i, none⟩ v = h.upd r (m, .cells (cs.setIfInBounds i v) el (0, 0)) := by
 funext b
 unfold Cells.setCell Cells.upd
 by_cases e : b = r
 ·subst e; simp [hr]
 ·simp [e]
theorem t_newSt2 {X : XP} {Q : Leaf → LH → Prop} {h : LH} {e : TypeId} {v₀ v : Value} {k : Nat → T} (h1 : isOne v = true) (hk : ∀ r h', h.le h' → h.get r = none → h'.get = h.get.upd r (true, .cells #[v] e (0, 0)) → h'.get.cell? ⟨r, 0, none⟩ = some v → (k r).wp X P Q h') :
  (T.new e #[v₀] fun r => T.store (Addr.add ⟨r, 0, none⟩ 0) v (k r)).wp X P Q h := by
 refine t_new fun r hr => ?_
 have ha : Addr.add (⟨r, 0, none⟩ : Addr) 0 = ⟨r, 0, none⟩ := by rw [add_plain]
 rw [ha]
 refine t_storeU (o := 0) rfl h1 (by simp) ?_
 have : (#[v₀] : Array Value).setIfInBounds 0 v = #[v] := rfl
 rw [this]
 exact hk r _ (LH.upd_le hr) hr rfl (cell_upd rfl)
theorem cell_freeze2 (F : Nat → Bool) (h : Cells) (a : Addr) : (freezeC F h).cell? a = h.cell? a := by
 unfold Cells.cell? freezeC
 cases h a.block with
 | none => rfl
 | some x => obtain ⟨m, o⟩ := x; cases o <;> rfl
theorem rd_freeze2 (F : Nat → Bool) (h : Cells) : Rd h (freezeC F h) := fun a v hc => by rw [cell_freeze2]; exact hc
theorem rd_drop2 {h : Cells} {c s : Nat} (hs : h c = some (true, .chan 0 #[] false s s false)) : Rd h (dropC h c) := by
 intro a v hc
 unfold Cells.cell? dropC at *
 by_cases e : a.block = c
 ·rw [e, hs] at hc; cases hc
 ·rw [if_neg e]; exact hc
def Hand2 (q1 q2 : Nat) (h : LH) : Prop := (h.chans = [] ∧ q1 ≠ q2 ∧ (∃ s, h.get q1 = some (true, .chan 0 #[] false s s false)) ∧ ∃ s, h.get q2 = some (true, .chan 0 #[] false s s false)) ∨ h.chans = [q2, q1]
theorem Hand2.le {q1 q2 : Nat} {h h' : LH} (hl : h.le h') (hd : Hand2 q1 q2 h) : Hand2 q1 q2 h' := by
 rcases hd with ⟨a, b, ⟨s, c⟩, t, d⟩ | a
 ·exact .inl ⟨by rw [hl.2.1, a], b, ⟨s, hl.1 _ _ c⟩, t, hl.1 _ _ d⟩
 ·exact .inr (by rw [hl.2.1, a])
theorem spawnW_two {f : FuncId} {cap : Array Value} {h : LH} {Q : LH → Prop} {s : Script} (q1 q2 : Nat) (hst : Hand2 q1 q2 h) (hne : s ≠ []) (hs : ∀ y ∈ s, y.1 = q1 ∨ y.1 = q2) (c : ∀ hc, Rd h.get hc → FWK XW P .deferred f cap ⟨hc, [], [], s⟩ fun _ _ => False)
  (hQ : ∀ h', Rd h.get h'.get → h'.chans = [q2, q1] → h'.todo = h.todo → h'.pend = h.pend ++ [s] → Q h') : SpawnW XT P (.func (.func f) #[] cap) #[] h Q := by
 have key : ∀ h1 : LH, Rd h.get h1.get → h1.chans = [q2, q1] → h1.todo = h.todo → h1.pend = h.pend → SpawnW XT P (.func (.func f) #[] cap) #[] h1 Q := by
  intro h1 r1 c1 t1 p1
  refine spawnW (fun _ => true) (freezeC (fun _ => true) h1.get) s hne (hargs := cap) (by simp) ?_ ?_ (c _ (r1.trans (rd_freeze2 _ _))) ?_
  ·intro r x hx
   refine ⟨?_, hx⟩
   unfold freezeC at hx
   cases hy : h1.get r with
   | none => rw [hy] at hx; cases hx
   | some y => rw [hy] at hx; simp at hx; rw [← hx]
  ·intro y hy
   rw [c1]
   rcases hs y hy with e | e <;> simp [e]
  ·exact hQ _ (r1.trans (rd_freeze2 _ _)) c1 t1 (by show h1.pend ++ _ = _; rw [p1])
 rcases hst with ⟨h1, hq, ⟨s1, h2⟩, s2, h3⟩ | h1
 ·refine SpawnW.opened q1 s1 h2 ?_
  have h3' : dropC h.get q1 q2 = some (true, .chan 0 #[] false s2 s2 false) := by unfold dropC; rw [if_neg (Ne.symm hq)]; exact h3
  refine SpawnW.opened q2 s2 h3' (key _ ((rd_drop2 h2).trans (rd_drop2 h3')) ?_ rfl rfl)
  show q2 :: q1 :: h.chans = _
  rw [h1]
 ·exact key h (Rd.refl _) h1 rfl rfl
def scr (q1 q2 : Nat) (φ : Nat → Value → Cells → Prop) (ψ : Value → Cells → Prop) (x : Nat × Bool) : Script := if x.2 then [(q1, φ x.1), (q2, ψ)] else [(q2, ψ)]
theorem commW_sel {last : Bool} {q1 q2 : Nat} {z1 z2 : Value} {φ : Nat → Value → Cells → Prop} {ψ : Value → Cells → Prop} {rem : List (Nat × Bool)} {h : LH} {Q : Value → LH → Prop} (hp : h.pend = rem.map (scr q1 q2 φ ψ)) (hc : h.chans = [q2, q1]) (hq : q1 ≠ q2) (hne : rem ≠ [])
  (hQ1 : ∀ l1 i l2 v h₂, rem = l1 ++ (i, true) :: l2 → h₂.todo = h.todo → h₂.pend = (l1 ++ (i, false) :: l2).map (scr q1 q2 φ ψ) → h₂.chans = [q2, q1] → (∃ hv, φ i v hv ∧ hv.le h₂.get) → h.get.le h₂.get → Q (commResult #[rcase q1 z1, rcase q2 z2] .select (0 : Nat) v true) h₂)
  (hQ2 : ∀ l1 i l2 v h₂, rem = l1 ++ (i, false) :: l2 → h₂.todo = h.todo → h₂.pend = (l1 ++ l2).map (scr q1 q2 φ ψ) → ((l1 ++ l2 ≠ [] ∧ h₂.chans = [q2, q1]) ∨ (l1 ++ l2 = [] ∧ h₂.chans = [])) → (∃ hv, ψ v hv) → h.get.le h₂.get → Q (commResult #[rcase q1 z1, rcase q2 z2] .select (1 : Nat) v true) h₂) : CommW XT P last #[rcase q1 z1, rcase q2 z2] .select h Q := by
 refine CommW.closed (CommW.closed (commW_recv ?_ (by rw [hp]; simpa using hne) ?_ ?_))
 ·intro k cc hk
  match k, hk with
  | 0, hk => simp at hk; subst hk; exact ⟨q1, z1, rfl, by rw [hc]; simp⟩
  | 1, hk => simp at hk; subst hk; exact ⟨q2, z2, rfl, by rw [hc]; simp⟩
  | k + 2, hk => simp at hk
 ·intro s hs
  rw [hp] at hs
  obtain ⟨⟨i, b⟩, hi, rfl⟩ := List.mem_map.1 hs
  cases b with
  | true => exact ⟨q1, φ i, [(q2, ψ)], 0, z1, rfl, rfl⟩
  | false => exact ⟨q2, ψ, [], 1, z2, rfl, rfl⟩
 ·intro pre χ s post k c v hv z' hpe hcase hd hown hφ
  rw [hp] at hpe
  obtain ⟨l1, l2, rfl, hl1, hl2⟩ := List.map_eq_append_iff.1 hpe
  obtain ⟨⟨i, b⟩, l3, rfl, hi, hl3⟩ := List.map_eq_cons_iff.1 hl2
  have le1 : h.get.le (h.get.add hv) := Cells.le_add _ _
  have le2 : hv.le (h.get.add hv) := fun r x hr => Cells.add_right' hd hr
  cases b with
  | true =>
   simp only [scr, if_true, List.cons.injEq, Prod.mk.injEq] at hi
   obtain ⟨⟨rfl, rfl⟩, rfl⟩ := hi
   have hk0 : k = 0 := by
    match k, hcase with
    | 0, _ => rfl
    | 1, hcase => simp [rcase] at hcase; exact absurd hcase.1.symm hq
    | k + 2, hcase => simp at hcase
   subst hk0
   refine .inl (.inl (hQ1 l1 i l3 v _ rfl rfl ?_ hc ⟨hv, hφ, le2⟩ le1))
   show pre ++ cons' [(q2, ψ)] post = _
   rw [← hl1, ← hl3, List.map_append, List.map_cons]
   rfl
  | false =>
   simp only [scr, Bool.false_eq_true, if_false, List.cons.injEq, Prod.mk.injEq] at hi
   obtain ⟨⟨rfl, rfl⟩, rfl⟩ := hi
   have hk1 : k = 1 := by
    match k, hcase with
    | 0, hcase => simp [rcase] at hcase; exact absurd hcase.1 hq
    | 1, _ => rfl
    | k + 2, hcase => simp at hcase
   subst hk1
   have hpend : pre ++ cons' [] post = (l1 ++ l3).map (scr q1 q2 φ ψ) := by
    show pre ++ post = _
    rw [← hl1, ← hl3, List.map_append]
   by_cases hn : l1 ++ l3 = []
   ·right
    refine ⟨q2, by show q2 ∈ h.chans; rw [hc]; simp, by show pre ++ cons' [] post = []; rw [hpend, hn]; rfl, fun s hs => ?_⟩
    right
    refine ⟨q1, ?_, by show pre ++ cons' [] post = []; rw [hpend, hn]; rfl, fun s' hs' => ?_⟩
    ·show q1 ∈ h.chans.filter _
     rw [hc]; simp [hq]
    ·refine hQ2 l1 i l3 v _ rfl rfl hpend (.inr ⟨hn, ?_⟩) ⟨hv, hφ⟩ ?_
     ·show (h.chans.filter _).filter _ = []
      rw [hc]
      simp [hq]
     ·exact Cells.le_trans le1 (Cells.le_trans (Cells.le_upd _ hs) (Cells.le_upd _ hs'))
   ·exact .inl (.inl (hQ2 l1 i l3 v _ rfl rfl hpend (.inl ⟨hn, hc⟩) ⟨hv, hφ⟩ le1))
/-! ### Two channels and their boxes, made in any order -/
structure Opening (t1 t2 : TypeId) (h₀ h : LH) (c1 c2 : Option Nat) (b1 b2 : Option (Nat × Bool)) : Prop where
 le : h₀.le h
 hc1 : ∀ q, c1 = some q → h.get q = some (true, .chan 0 #[] false 0 0 false)
 hc2 : ∀ q, c2 = some q → h.get q = some (true, .chan 0 #[] false 0 0 false)
 ne : ∀ q q', c1 = some q → c2 = some q' → q ≠ q'
 hb1 : ∀ r s, b1 = some (r, s) → h₀.get r = none ∧ h.get r = some (true, .cells #[.chan (if s then c1 else none)] t1 (0, 0))
 hb2 : ∀ r s, b2 = some (r, s) → h₀.get r = none ∧ h.get r = some (true, .cells #[.chan (if s then c2 else none)] t2 (0, 0))
 bne : ∀ r s r' s', b1 = some (r, s) → b2 = some (r', s') → r ≠ r'
section
variable {X : XP} {Q : Leaf → LH → Prop} {h₀ h : LH} {c1 c2 : Option Nat} {b1 b2 : Option (Nat × Bool)} {t1 t2 : TypeId}
theorem Opening.start : Opening t1 t2 h₀ h₀ none none none none := ⟨LH.le_refl _, fun _ h => (by cases h), fun _ h => (by cases h), fun _ _ h => (by cases h), fun _ _ h => (by cases h), fun _ _ h => (by cases h), fun _ _ _ _ h => (by cases h)⟩
theorem ne_of_get {h : Cells} {a b : Nat} {x : Bool × Obj} (ha : h a = none) (hb : h b = some x) : b ≠ a := by rintro rfl; rw [ha] at hb; cases hb
theorem op_chan1 {k : Value → T} {el : TypeId} {d : ChanDir} {s b : Nat} {z : Option Value} (hu : P.underlying t1 = some (.chan d el)) (hi : (P.info? el).map (fun i => (i.size, i.bytes, i.zero)) = some (s, b, z)) (O : Opening t1 t2 h₀ h none c2 b1 b2)
  (hk : ∀ q h', Opening t1 t2 h₀ h' (some q) c2 (b1.map fun x => (x.1, false)) b2 → (k (.chan (some q))).wp X P Q h') : (T.sem false (Instr.makeChan t1 (.int .i64 0)) k).wp X P Q h := by
 refine t_makeChan hu hi fun q hq => hk q _ ?_
 have hle := LH.upd_le (x := (true, .chan 0 #[] false 0 0 false)) hq
 refine ⟨LH.le_trans O.le hle, fun q' e => by cases e; exact Cells.upd_self _ _ _, fun q' e => hle.1 _ _ (O.hc2 q' e), fun a b ha hb => by cases ha; exact (ne_of_get hq (O.hc2 b hb)).symm, fun r s hr => ?_, fun r s hr => ⟨(O.hb2 r s hr).1, hle.1 _ _ (O.hb2 r s hr).2⟩, fun r s r' s' h1 h2 => ?_⟩
 ·cases hb : b1 with
  | none => rw [hb] at hr; cases hr
  | some x =>
   rw [hb] at hr; cases hr
   have := O.hb1 x.1 x.2 hb
   refine ⟨this.1, ?_⟩
   have h3 := hle.1 _ _ this.2
   rw [h3]; cases x.2 <;> rfl
 ·cases hb : b1 with
  | none => rw [hb] at h1; cases h1
  | some x => rw [hb] at h1; cases h1; exact O.bne x.1 x.2 r' s' hb h2
theorem op_chan2 {k : Value → T} {el : TypeId} {d : ChanDir} {s b : Nat} {z : Option Value} (hu : P.underlying t2 = some (.chan d el)) (hi : (P.info? el).map (fun i => (i.size, i.bytes, i.zero)) = some (s, b, z)) (O : Opening t1 t2 h₀ h c1 none b1 b2)
  (hk : ∀ q h', Opening t1 t2 h₀ h' c1 (some q) b1 (b2.map fun x => (x.1, false)) → (k (.chan (some q))).wp X P Q h') : (T.sem false (Instr.makeChan t2 (.int .i64 0)) k).wp X P Q h := by
 refine t_makeChan hu hi fun q hq => hk q _ ?_
 have hle := LH.upd_le (x := (true, .chan 0 #[] false 0 0 false)) hq
 refine ⟨LH.le_trans O.le hle, fun q' e => hle.1 _ _ (O.hc1 q' e), fun q' e => by cases e; exact Cells.upd_self _ _ _, fun a b ha hb => by cases hb; exact ne_of_get hq (O.hc1 a ha), fun r s hr => ⟨(O.hb1 r s hr).1, hle.1 _ _ (O.hb1 r s hr).2⟩, fun r s hr => ?_, fun r s r' s' h1 h2 => ?_⟩
 ·cases hb : b2 with
  | none => rw [hb] at hr; cases hr
  | some x =>
   rw [hb] at hr; cases hr
   have := O.hb2 x.1 x.2 hb
   refine ⟨this.1, ?_⟩
   have h3 := hle.1 _ _ this.2
   rw [h3]; cases x.2 <;> rfl
 ·cases hb : b2 with
  | none => rw [hb] at h2; cases h2
  | some x => rw [hb] at h2; cases h2; exact O.bne r s x.1 x.2 h1 hb
theorem op_new1 {k : Nat → T} (O : Opening t1 t2 h₀ h c1 c2 none b2) (hk : ∀ r h', Opening t1 t2 h₀ h' c1 c2 (some (r, false)) b2 → (k r).wp X P Q h') : (T.new t1 #[.chan none] k).wp X P Q h := by
 refine t_new fun q hq => hk q _ ?_
 have hle := LH.upd_le (x := (true, .cells #[.chan none] t1 (0, 0))) hq
 have h0 : h₀.get q = none := by
  cases hx : h₀.get q with
  | none => rfl
  | some x => rw [O.le.1 _ _ hx] at hq; cases hq
 exact ⟨LH.le_trans O.le hle, fun q' e => hle.1 _ _ (O.hc1 q' e), fun q' e => hle.1 _ _ (O.hc2 q' e), O.ne, fun r s hr => by cases hr; exact ⟨h0, Cells.upd_self _ _ _⟩, fun r s hr => ⟨(O.hb2 r s hr).1, hle.1 _ _ (O.hb2 r s hr).2⟩, fun r s r' s' h1 h2 => by cases h1; exact (ne_of_get hq (O.hb2 r' s' h2).2).symm⟩
theorem op_new2 {k : Nat → T} (O : Opening t1 t2 h₀ h c1 c2 b1 none) (hk : ∀ r h', Opening t1 t2 h₀ h' c1 c2 b1 (some (r, false)) → (k r).wp X P Q h') : (T.new t2 #[.chan none] k).wp X P Q h := by
 refine t_new fun q hq => hk q _ ?_
 have hle := LH.upd_le (x := (true, .cells #[.chan none] t2 (0, 0))) hq
 have h0 : h₀.get q = none := by
  cases hx : h₀.get q with
  | none => rfl
  | some x => rw [O.le.1 _ _ hx] at hq; cases hq
 exact ⟨LH.le_trans O.le hle, fun q' e => hle.1 _ _ (O.hc1 q' e), fun q' e => hle.1 _ _ (O.hc2 q' e), O.ne, fun r s hr => ⟨(O.hb1 r s hr).1, hle.1 _ _ (O.hb1 r s hr).2⟩, fun r s hr => by cases hr; exact ⟨h0, Cells.upd_self _ _ _⟩, fun r s r' s' h1 h2 => by cases h2; exact ne_of_get hq (O.hb1 r s h1).2⟩
theorem op_store1 {k : T} {q r : Nat} (O : Opening t1 t2 h₀ h (some q) c2 (some (r, false)) b2) (hk : ∀ h', Opening t1 t2 h₀ h' (some q) c2 (some (r, true)) b2 → k.wp X P Q h') : (T.store (Addr.add ⟨r, 0, none⟩ 0) (.chan (some q)) k).wp X P Q h := by
 have hr := (O.hb1 r false rfl).2
 have ha : Addr.add (⟨r, 0, none⟩ : Addr) 0 = ⟨r, 0, none⟩ := by rw [add_plain]
 rw [ha]
 refine t_store rfl ⟨_, hr⟩ (v₀ := .chan none) (by simp [Cells.cell?, hr]) (by simp [Cells.frozen?, hr]) ?_
 rw [setCell_at hr]
 refine hk _ ?_
 have keep : ∀ b x, h.get b = some x → b ≠ r → (h.get.upd r (true, .cells ((#[.chan (if false = true then some q else none)] : Array Value).setIfInBounds 0 (.chan (some q))) t1 (0, 0))) b = some x := fun b x hb hne => by rw [Cells.upd_ne _ _ hne]; exact hb
 have cne : ∀ b, h.get b = some (true, .chan 0 #[] false 0 0 false) → b ≠ r := fun b hb e => by rw [e, hr] at hb; cases hb
 refine ⟨⟨fun b x hb => keep b x (O.le.1 b x hb) (ne_of_get (O.hb1 r false rfl).1 hb), O.le.2⟩, fun q' e => keep _ _ (O.hc1 q' e) (cne _ (O.hc1 q' e)), fun q' e => keep _ _ (O.hc2 q' e) (cne _ (O.hc2 q' e)), O.ne, fun r' s hr' => ?_, fun r' s hr' => ⟨(O.hb2 r' s hr').1, keep _ _ (O.hb2 r' s hr').2 (O.bne r false r' s rfl hr').symm⟩, fun a s r' s' h1 h2 => by cases h1; exact O.bne r false r' s' rfl h2⟩
 cases hr'
 exact ⟨(O.hb1 r false rfl).1, Cells.upd_self _ _ _⟩
theorem op_store2 {k : T} {q r : Nat} (O : Opening t1 t2 h₀ h c1 (some q) b1 (some (r, false))) (hk : ∀ h', Opening t1 t2 h₀ h' c1 (some q) b1 (some (r, true)) → k.wp X P Q h') : (T.store (Addr.add ⟨r, 0, none⟩ 0) (.chan (some q)) k).wp X P Q h := by
 have hr := (O.hb2 r false rfl).2
 have ha : Addr.add (⟨r, 0, none⟩ : Addr) 0 = ⟨r, 0, none⟩ := by rw [add_plain]
 rw [ha]
 refine t_store rfl ⟨_, hr⟩ (v₀ := .chan none) (by simp [Cells.cell?, hr]) (by simp [Cells.frozen?, hr]) ?_
 rw [setCell_at hr]
 refine hk _ ?_
 have keep : ∀ b x, h.get b = some x → b ≠ r → (h.get.upd r (true, .cells ((#[.chan (if false = true then some q else none)] : Array Value).setIfInBounds 0 (.chan (some q))) t2 (0, 0))) b = some x := fun b x hb hne => by rw [Cells.upd_ne _ _ hne]; exact hb
 have cne : ∀ b, h.get b = some (true, .chan 0 #[] false 0 0 false) → b ≠ r := fun b hb e => by rw [e, hr] at hb; cases hb
 refine ⟨⟨fun b x hb => keep b x (O.le.1 b x hb) (ne_of_get (O.hb2 r false rfl).1 hb), O.le.2⟩, fun q' e => keep _ _ (O.hc1 q' e) (cne _ (O.hc1 q' e)), fun q' e => keep _ _ (O.hc2 q' e) (cne _ (O.hc2 q' e)), O.ne, fun r' s hr' => ⟨(O.hb1 r' s hr').1, keep _ _ (O.hb1 r' s hr').2 (O.bne r' s r false hr' rfl)⟩, fun r' s hr' => ?_, fun a s r' s' h1 h2 => by cases h2; exact O.bne a s r false h1 rfl⟩
 cases hr'
 exact ⟨(O.hb2 r false rfl).1, Cells.upd_self _ _ _⟩
end
end Go.TM
end
section
namespace Go.Proofs.YtldamlcehbdkdaaGreatDoor.Tre
open Go Go.TM Go.Proofs Go.TM.Tr
attribute [local irreducible] T.wp CV FWK
theorem bit_test {i j : Nat} (hi : i < 2 ^ 32) : (IntKind.wrap .i64 (((BitVec.ofInt 64 (Int.fdiv (i : Int) (2 ^ min (j : Int).toNat 64)) &&& BitVec.ofInt 64 1).toNat : Nat) : Int) == 1) = i.testBit j := by
 have hq : ∃ q : Nat, Int.fdiv (i : Int) (2 ^ min (j : Int).toNat 64) = (q : Int) ∧ q ≤ i ∧ q % 2 = (i / 2 ^ j) % 2 := by
  by_cases hj : j ≤ 64
  ·have hm : min (j : Int).toNat 64 = j := by simp; omega
   refine ⟨i / 2 ^ j, ?_, Nat.div_le_self _ _, rfl⟩
   rw [hm]
   have : (2 ^ j : Int) = ((2 ^ j : Nat) : Int) := by simp
   rw [this, ← Int.ofNat_fdiv]
  ·have hm : min (j : Int).toNat 64 = 64 := by simp; omega
   refine ⟨0, ?_, Nat.zero_le _, ?_⟩
   ·rw [hm]
    have : (2 ^ 64 : Int) = ((2 ^ 64 : Nat) : Int) := by simp
    rw [this, ← Int.ofNat_fdiv]
    have : i / 2 ^ 64 = 0 := Nat.div_eq_of_lt (by omega)
    rw [this]
   ·have : i / 2 ^ j = 0 := Nat.div_eq_of_lt (Nat.lt_of_lt_of_le hi (Nat.pow_le_pow_right (by omega) (by omega)))
    rw [this]
 obtain ⟨q, h1, h2, h3⟩ := hq
 rw [h1]
 have a1 : (BitVec.ofInt 64 (q : Int)).toNat = q := by rw [BitVec.toNat_ofInt]; omega
 have a2 : (BitVec.ofInt 64 1).toNat = 1 := rfl
 rw [BitVec.toNat_and, a1, a2, Nat.and_one_is_mod, wrap_id (by omega) (by omega), Nat.testBit_eq_decide_div_mod_eq, ← h3]
 by_cases e : q % 2 = 1
 ·rw [e]; rfl
 ·have : q % 2 = 0 := by omega
  rw [this]; rfl
theorem sets_wrap {n : Nat} (hn : n ≤ 10) : IntKind.wrap .i64 (1 * 2 ^ min (Int.toNat (n : Int)) 64) = ((2 ^ n : Nat) : Int) := by
 have e : min (Int.toNat (n : Int)) 64 = n := by simp; omega
 have h2 : (2 : Nat) ^ n ≤ 2 ^ 10 := Nat.pow_le_pow_right (by omega) hn
 have e2 : (1 : Int) * 2 ^ n = ((2 ^ n : Nat) : Int) := by simp
 rw [e, e2]
 generalize 2 ^ n = m at h2
 rw [wrap_id (by omega) (by omega)]
def bitsTo (l : List Int) (i j : Nat) : List Int := (((List.range l.length).take j).filter fun b => i.testBit b).map fun b => l.getD b 0
def bitsL (l : List Int) (i : Nat) : List Int := ((List.range l.length).filter fun b => i.testBit b).map fun b => l.getD b 0
theorem bits_all {l : List Int} {i j : Nat} (hj : l.length ≤ j) : bitsTo l i j = bitsL l i := by
 unfold bitsTo bitsL
 rw [List.take_of_length_le (by simpa using hj)]
theorem bits_take {l : List Int} {i j : Nat} {y : Int} (hy : l[j]? = some y) : bitsTo l i (j + 1) = bitsTo l i j ++ if i.testBit j then [y] else [] := by
 have hj : j < l.length := (List.getElem?_eq_some_iff.1 hy).1
 unfold bitsTo
 rw [List.take_succ_eq_append_getElem (by simpa using hj), List.filter_append, List.map_append]
 congr 1
 simp only [List.getElem_range, List.filter_cons, List.filter_nil]
 split
 ·simp [List.getD, hy]
 ·rfl
theorem range_getD (l : List Int) : (List.range l.length).map (fun b => l.getD b 0) = l := by
 refine List.ext_getElem (by simp) fun i h1 h2 => ?_
 simp [List.getD, List.getElem?_eq_getElem h2]
theorem bits_len {l : List Int} {i j : Nat} : (bitsTo l i j).length ≤ l.length := by
 unfold bitsTo
 rw [List.length_map]
 refine Nat.le_trans (List.length_filter_le _ _) ?_
 rw [List.length_take, List.length_range]; omega
theorem bits_sub {l : List Int} {i : Nat} : (bitsL l i).Sublist l := by
 unfold bitsL
 have h : ((List.range l.length).filter fun b => i.testBit b).Sublist (List.range l.length) := List.filter_sublist
 have := h.map fun b => l.getD b 0
 rwa [range_getD] at this
theorem sub_bits {l m : List Int} (hn : l.Nodup) (h : m.Sublist l) : ∃ i, i < 2 ^ l.length ∧ bitsL l i = m := by
 obtain ⟨i, hi, hb⟩ := bits_of (fun b => decide (l.getD b 0 ∈ m)) l.length
 refine ⟨i, hi, ?_⟩
 unfold bitsL
 rw [List.filter_congr (q := (fun x => decide (x ∈ m)) ∘ fun b => l.getD b 0) fun b hbm => hb b (List.mem_range.1 hbm), ← List.filter_map, range_getD]
 exact filter_sub h hn
structure TAt (h : Cells) (a : Addr) (f : TC) (x : TF) : Prop where
 f0 : h.cell? (a.add 0) = some (.int .i64 x.items)
 f1 : h.cell? (a.add 1) = some (.int .i64 x.lands)
 f2 : h.cell? (a.add 2) = some (.int .i64 x.start)
 f3 : h.cell? (a.add 3) = some (.int .i64 x.depend)
 f4 : h.cell? (a.add 4) = some (.int .i64 x.refuse)
 f5 : h.cell? (a.add 5) = some (.int .i64 x.turn)
 f6 : h.cell? (a.add 6) = some (.slice f.p f.n f.c)
theorem TAt.rd {h h' : Cells} {a : Addr} {f : TC} {x : TF} (hl : Rd h h') (m : TAt h a f x) : TAt h' a f x := ⟨hl _ _ m.f0, hl _ _ m.f1, hl _ _ m.f2, hl _ _ m.f3, hl _ _ m.f4, hl _ _ m.f5, hl _ _ m.f6⟩
theorem TAt.le {h h' : Cells} {a : Addr} {f : TC} {x : TF} (hl : h.le h') (m : TAt h a f x) : TAt h' a f x := m.rd (Rd.of_le hl)
def Found (x : TF) (i : Nat) (v : Value) (hv : Cells) : Prop := ∃ a n c, v = .slice (some a) n c ∧ Sl IntE 1 hv (some a) n (bitsL (giving x) i) ∧ n ≤ c
def Done (v : Value) (_ : Cells) : Prop := v = .bool true
def okB (x : TF) (k it d : Int) (i : Nat) : Bool := holdsB x k it d (bitsL (giving x) i)
theorem giving_ten {x : TF} (rt : Right x) : (giving x).length ≤ 10 := by
 have := giving_len x.events 0
 have := rt.many
 unfold giving; omega
theorem c2073 {hc : Cells} {q1 q2 i : Nat} {z0 z1 z2 z3 z4 z5 z6 z7 : Addr} {f : TC} {x : TF} {k it d : Int} (hk : Kinds hc) (hx : TreatyR hc f x) (rt : Right x) (hkd : KindsOk x) (hat : TAt hc z2 f x) (hi : i < 2 ^ 32)
  {ap : Option Addr} {an ac : Nat} (h0 : hc.cell? z0 = some (.slice ap an ac)) (hal : Sl IntE 1 hc ap an (giving x)) (h1 : hc.cell? z1 = some (.int .i64 (i : Int))) (h3 : hc.cell? z3 = some (.int .i64 k)) (h4 : hc.cell? z4 = some (.int .i64 it)) (h5 : hc.cell? z5 = some (.int .i64 d))
  (h6 : hc.cell? z6 = some (.chan (some q1))) (h7 : hc.cell? z7 = some (.chan (some q2))) :
  FWK XW Tryz.prog .deferred 147 #[.pointer (some z0), .pointer (some z1), .pointer (some z2), .pointer (some z3), .pointer (some z4), .pointer (some z5), .pointer (some z6), .pointer (some z7)] ⟨hc, [], [], scr q1 q2 (Found x) Done (i, okB x k it d i)⟩ fun _ _ => False := by
 generalize htd : scr q1 q2 (Found x) Done (i, okB x k it d i) = td
 refine w2073 _ _ _ _ _ _ _ _ XW_ok ?_
 unfold n2073
 have hn := hal.1
 have h10 := giving_ten rt
 refine t_build0 und50 inf3 fun b0 hb0 => ?_
 have le0 : LH.le ⟨hc, [], [], td⟩ _ := LH.upd_le (x := (true, .cells #[] 3 (0, 0))) hb0
 have k0 := Cells.cell?_le le0.1 h0
 refine gZ ?_
 refine t_loop (fun mm vs h' => LH.le ⟨hc, [], [], td⟩ h' ∧ ∃ (j : Nat) (a : Addr) (n c : Nat), vs = [.slice (some a) n c, .int .i64 j] ∧ j ≤ an ∧ mm = an - j ∧ Growing IntEnc 3 1 hc h'.get (some a) n c (bitsTo (giving x) i j))
  ⟨le0, 0, _, 0, 0, rfl, Nat.zero_le _, rfl, ⟨[], ⟨rfl, .inr ⟨b0, #[], rfl, Cells.upd_self _ _ _, rfl, Nat.le_refl _, fun j v hv => by simp at hv⟩⟩, by unfold bitsTo; exact .nil⟩, fun a ha => by cases ha; exact hb0⟩ ?_
 rintro Y mm vs h₁ hY ⟨hle, j, a, n, c, rfl, hj, rfl, g⟩
 have hng := g.count IntEnc.len (by omega)
 have hlen := bits_len (l := giving x) (i := i) (j := j)
 refine gZ ?_
 refine t_if (fun e1 => ?_) (fun e1 => ?_)
 ·obtain ⟨y, ya, hy, hya, e2⟩ := (hal.le IntE.grow hle.1).at (i := j) (by omega)
  unfold IntE at e2
  have k1 := Cells.cell?_le hle.1 h1
  refine gZ ?_
  rw [bit_test hi]
  have hst := bits_take (i := i) hy
  refine t_cond (fun b => ?_) (fun b => ?_)
  ·rw [if_pos b] at hst
   refine t_push (h₀ := ⟨hc, [], [], td⟩) y [.int .i64 y] rfl rfl und50 inf3 rfl (by omega) (by decide) (by kernel_rfl) rfl (by simp; rfl) (by omega) g hle rfl ?_
   intro p' c' h₂ hle2 _ g2
   refine gZ ?_
   obtain ⟨a', rfl⟩ : ∃ a', p' = some a' := by
    obtain ⟨vs, ⟨_, h6⟩, _⟩ := g2.row
    rcases h6 with ⟨_, h7, _⟩ | ⟨r, cs, h7, _⟩
    ·omega
    ·exact ⟨_, h7⟩
   refine t_again (hY (an - (j + 1)) _ _ (by omega) ⟨hle2, j + 1, a', n + 1, c', ?_, by omega, rfl, by rw [hst]; exact g2⟩)
   rw [wrap_id (by omega) (by omega)]; rfl
  ·rw [if_neg (by rw [b]; simp), List.append_nil] at hst
   refine t_again (hY (an - (j + 1)) _ _ (by omega) ⟨hle, j + 1, a, n, c, ?_, by omega, rfl, by rw [hst]; exact g⟩)
   rw [wrap_id (by omega) (by omega)]; rfl
 ·refine gZ ?_
  rw [bits_all (by omega)] at g
  rw [bits_all (by omega)] at hlen
  obtain ⟨g0, g1, g2, g3, g4, g5, g6⟩ := hat.le hle.1
  have k3 := Cells.cell?_le hle.1 h3
  have k4 := Cells.cell?_le hle.1 h4
  have k5 := Cells.cell?_le hle.1 h5
  refine gZ ?_
  refine t_gr (c2069 (hk.le hle.1) (hx.le hle.1) rt hkd k it d (g.sl IntEnc.len (by omega) IntEnc.e (by omega))) ?_
  rintro _ h₂ le2 rfl
  have hle2 := LH.le_trans hle le2
  have k6 := Cells.cell?_le hle2.1 h6
  have k7 := Cells.cell?_le hle2.1 h7
  refine gZ ?_
  refine t_cond (fun b => ?_) (fun b => ?_)
  ·refine t_loadC k6 ?_
   refine t_comm ?_
   have b' : okB x k it d i = true := b
   have htd' : td = [(q1, Found x i), (q2, Done)] := by rw [← htd, b']; rfl
   have g7 := g.le le2.1
   obtain ⟨vs, ⟨o1, o2⟩, rows⟩ := g7.row
   rcases o2 with ⟨o3, _⟩ | ⟨r, cs, o3, o4, o5, o6, o7⟩
   ·cases o3
   ·cases o3
    have hnew : hc r = none := g.new _ rfl
    refine commW_send (z := .tuple #[]) (φ := Found x i) (s := [(q2, Done)]) (hv := fun b => if b = r then h₂.get b else none) (hr := fun b => if b = r then none else h₂.get b) (hle2.2.2.2.trans htd') ?_ (fun b => ?_) (fun b x hx => ?_) ?_ (fun h => by cases h) (fun _ => ?_)
    ·funext b
     unfold Cells.add
     by_cases e : b = r
     ·subst e; simp [o4]
     ·simp [e]
    ·by_cases e : b = r
     ·right; simp [e]
     ·left; simp [e]
    ·have hx' : (if b = r then h₂.get b else none) = some x := hx
     split at hx'
     ·rename_i e; subst e; rw [o4] at hx'; cases hx'; rfl
     ·cases hx'
    ·refine ⟨_, _, _, rfl, ?_, o6⟩
     refine rows.sl IntEnc.len (by omega) IntEnc.e (el := 3) ⟨o1, .inr ⟨r, cs, rfl, ?_, o5, o6, o7⟩⟩ (by omega)
     show (if r = r then h₂.get r else none) = _
     rw [if_pos rfl]; exact o4
    ·have hz : z7.block ≠ r := by
      intro e
      unfold Cells.cell? at h7
      rw [e, hnew] at h7; cases h7
     have k7' : Cells.cell? (fun b => if b = r then none else h₂.get b) z7 = some (.chan (some q2)) := by
      have hb : (fun b => if b = r then none else h₂.get b) z7.block = h₂.get z7.block := if_neg hz
      unfold Cells.cell? at k7 ⊢
      rw [hb]; exact k7
     refine t_loadC k7' ?_
     refine t_comm ?_
     refine commW_send (z := .tuple #[]) (φ := Done) (s := []) (hv := fun _ => none) (hr := fun b => if b = r then none else h₂.get b) rfl ?_ (fun r => .inl rfl) (fun r x hx => by cases hx) rfl (fun _ => rfl) (fun h => absurd rfl h)
     funext r; rfl
  ·refine t_loadC k7 ?_
   refine t_comm ?_
   have b' : okB x k it d i = false := b
   have htd' : td = [(q2, Done)] := by rw [← htd, b']; rfl
   refine commW_send (z := .tuple #[]) (φ := Done) (s := []) (hv := fun _ => none) (hr := h₂.get) (hle2.2.2.2.trans htd') ?_ (fun r => .inl rfl) (fun r x hx => by cases hx) rfl (fun _ => rfl) (fun h => absurd rfl h)
   funext r; rfl
end Go.Proofs.YtldamlcehbdkdaaGreatDoor.Tre
end
section
namespace Go.Proofs.YtldamlcehbdkdaaGreatDoor.Tre
open Go Go.TM Go.Proofs Go.TM.Tr
attribute [local irreducible] T.wp CV FWK
def BestR (h : Cells) (x : TF) (k it d : Int) (rem : List (Nat × Bool)) (p : Option Addr) (n : Nat) (held : Bool) : Prop :=
 (held = false ∧ p = none ∧ n = 0 ∧ ∀ j, j < 2 ^ (giving x).length → (j, true) ∉ rem → okB x k it d j = false) ∨
 (held = true ∧ ∃ i a, p = some a ∧ i < 2 ^ (giving x).length ∧ okB x k it d i = true ∧ Sl IntE 1 h (some a) n (bitsL (giving x) i) ∧ ∀ j, j < 2 ^ (giving x).length → (j, true) ∉ rem → okB x k it d j = true → fewerF (bitsL (giving x) i) (bitsL (giving x) j) ≤ 0)
def weight : Nat × Bool → Nat | (_, true) => 2 | (_, false) => 1
def NeedsR (h' : Cells) (x : TF) (k it d : Int) (r : Value) : Prop :=
 (askedAllT x k it d ≠ 0 ∧ r = .tuple #[.slice none 0 0, .bool false, .int .i64 (askedAllT x k it d)]) ∨
 (askedAllT x k it d = 0 ∧ ¬ 0 ≤ dateOn x k it d ∧ r = .tuple #[.slice none 0 0, .bool false, .int .i64 0]) ∨
 (askedAllT x k it d = 0 ∧ 0 ≤ dateOn x k it d ∧ ∃ p n c, r = .tuple #[.slice p n c, .bool true, .int .i64 0] ∧ Sl IntE 1 h' p n (needT x k it d) ∧ n ≤ c)
theorem BestR.done {h : Cells} {x : TF} (v : Ok x) {k it d : Int} {p : Option Addr} {n : Nat} {b : Bool} (hb : BestR h x k it d [] p n b) : (¬ 0 ≤ dateOn x k it d ∧ b = false ∧ p = none ∧ n = 0) ∨ (0 ≤ dateOn x k it d ∧ b = true ∧ Sl IntE 1 h p n (needT x k it d)) := by
 have hn : (giving x).Nodup := (giving_sorted x.events 0).imp fun h => by omega
 rcases hb with ⟨h1, h2, h3, h4⟩ | ⟨h1, i, a, h2, h3, h4, h5, h6⟩
 ·left
  refine ⟨fun hd => ?_, h1, h2, h3⟩
  obtain ⟨a1, a2, _⟩ := need_spec (k := k) (i := it) (d := d) hd
  obtain ⟨j, hj, hjb⟩ := sub_bits hn a2
  have := h4 j hj (by simp)
  unfold okB at this
  rw [hjb, a1] at this; cases this
 ·have hd : 0 ≤ dateOn x k it d := by
   by_cases hd : 0 ≤ dateOn x k it d
   ·exact hd
   ·have := none_holds v hd (k := k) (i := it) (d := d) (bits_sub (l := giving x) (i := i))
    unfold okB at h4
    rw [this] at h4; cases h4
  refine .inr ⟨hd, h1, ?_⟩
  have := need_one hd (l := bitsL (giving x) i) bits_sub h4 fun m hm ho => by
   obtain ⟨j, hj, hjb⟩ := sub_bits hn hm
   have := h6 j hj (by simp) (by unfold okB; rw [hjb]; exact ho)
   rwa [hjb] at this
  rw [h2, ← this]; exact h5
theorem Sl.same {h : Cells} {p : Option Addr} {n : Nat} {a b : List Int} (ha : Sl IntE 1 h p n a) (hb : Sl IntE 1 h p n b) : a = b := by
 refine List.ext_getElem (by rw [← ha.1, ← hb.1]) fun i h1 h2 => ?_
 obtain ⟨x, c, e1, e2, e3⟩ := ha.at (i := i) (by rw [ha.1]; exact h1)
 obtain ⟨y, d, e4, e5, e6⟩ := hb.at (i := i) (by rw [hb.1]; exact h2)
 rw [e2] at e5; cases e5
 unfold IntE at e3 e6
 rw [e3] at e6; cases e6
 rw [List.getElem?_eq_getElem h1] at e1
 rw [List.getElem?_eq_getElem h2] at e4
 exact (Option.some.inj e1).trans (Option.some.inj e4).symm
theorem BestR.rd {h h' : Cells} (hr : Rd h h') {x : TF} {k it d : Int} {rem : List (Nat × Bool)} {p : Option Addr} {n : Nat} {b : Bool} (hb : BestR h x k it d rem p n b) : BestR h' x k it d rem p n b := by
 rcases hb with hb | ⟨h1, i, a, h2, h3, h4, h5, h6⟩
 ·exact .inl hb
 ·exact .inr ⟨h1, i, a, h2, h3, h4, h5.rd IntE.grow hr, h6⟩
theorem mem_but {l1 l2 : List (Nat × Bool)} {i j : Nat} (h : (j, true) ∉ l1 ++ (i, false) :: l2) : j = i ∨ (j, true) ∉ l1 ++ (i, true) :: l2 := by
 by_cases e : j = i
 ·exact .inl e
 ·right
  simp only [List.mem_append, List.mem_cons, Prod.mk.injEq, not_or] at h ⊢
  refine ⟨h.1, by simp [e], h.2.2⟩
theorem BestR.drop {h : Cells} {x : TF} {k it d : Int} {l1 l2 : List (Nat × Bool)} {i : Nat} {p : Option Addr} {n : Nat} {b : Bool} (hb : BestR h x k it d (l1 ++ (i, false) :: l2) p n b) : BestR h x k it d (l1 ++ l2) p n b := by
 have key : ∀ j, (j, true) ∉ l1 ++ l2 → (j, true) ∉ l1 ++ (i, false) :: l2 := by
  intro j hj
  simp only [List.mem_append, List.mem_cons, Prod.mk.injEq, not_or] at hj ⊢
  exact ⟨hj.1, by simp, hj.2⟩
 rcases hb with ⟨h1, h2, h3, h4⟩ | ⟨h1, i', a, h2, h3, h4, h5, h6⟩
 ·exact .inl ⟨h1, h2, h3, fun j hj hn => h4 j hj (key j hn)⟩
 ·exact .inr ⟨h1, i', a, h2, h3, h4, h5, fun j hj hn => h6 j hj (key j hn)⟩
theorem BestR.take {h h' : Cells} {x : TF} {k it d : Int} {l1 l2 : List (Nat × Bool)} {i : Nat} {p : Option Addr} {n n' : Nat} {a : Addr} {b : Bool} (hb : BestR h x k it d (l1 ++ (i, true) :: l2) p n b) (hi : okB x k it d i = true) (hlt : i < 2 ^ (giving x).length) (hs : Sl IntE 1 h' (some a) n' (bitsL (giving x) i))
  (hle : b = false ∨ ∀ j, Sl IntE 1 h p n (bitsL (giving x) j) → fewerF (bitsL (giving x) i) (bitsL (giving x) j) ≤ 0) : BestR h' x k it d (l1 ++ (i, false) :: l2) (some a) n' true := by
 refine .inr ⟨rfl, i, a, rfl, hlt, hi, hs, fun j hj hn ho => ?_⟩
 rcases mem_but hn with rfl | hn
 ·exact fewer_self _
 ·rcases hb with ⟨h1, h2, h3, h4⟩ | ⟨h1, i', a', h2, h3, h4, h5, h6⟩
  ·have := h4 j hj hn
   rw [this] at ho; cases ho
  ·have := hle.resolve_left (by rw [h1]; simp) i' (by rw [h2]; exact h5)
   exact fewer_trans this (h6 j hj hn ho)
theorem BestR.stay {h h' : Cells} (hr : Rd h h') {x : TF} {k it d : Int} {l1 l2 : List (Nat × Bool)} {i : Nat} {p : Option Addr} {n : Nat} (hb : BestR h x k it d (l1 ++ (i, true) :: l2) p n true)
  (hle : ∀ j, Sl IntE 1 h p n (bitsL (giving x) j) → fewerF (bitsL (giving x) j) (bitsL (giving x) i) ≤ 0) : BestR h' x k it d (l1 ++ (i, false) :: l2) p n true := by
 rcases hb with ⟨h1, h2, h3, h4⟩ | ⟨h1, i', a', h2, h3, h4, h5, h6⟩
 ·cases h1
 ·refine .inr ⟨rfl, i', a', h2, h3, h4, h5.rd IntE.grow hr, fun j hj hn ho => ?_⟩
  rcases mem_but hn with rfl | hn
  ·exact hle i' (by rw [h2]; exact h5)
  ·exact h6 j hj hn ho
def AllT (x : TF) (k it d : Int) (j : Nat) : List (Nat × Bool) := (List.range j).map fun i => (i, okB x k it d i)
set_option maxRecDepth 100000 in
theorem c2044 {h : LH} (hch : h.chans = []) (hpe : h.pend = []) (hk : Kinds h.get) {f : TC} {x : TF} (hx : TreatyR h.get f x) (k it d : Int) :
  FW XT Tryz.prog 92 #[treatyV f x, .int .i64 k, .int .i64 it, .int .i64 d] h fun r h' => Rd h.get h'.get ∧ h'.chans = [] ∧ h'.pend = [] ∧ h'.todo = h.todo ∧ NeedsR h'.get x k it d r := by
 refine w2044 _ _ _ _ _ _ _ _ _ _ _ _ XT_ok ?_
 unfold n2044
 refine t_new fun r hr => ?_
 have le0 : h.le _ := LH.upd_le (x := (true, .cells #[.int .i64 x.items, .int .i64 x.lands, .int .i64 x.start, .int .i64 x.depend, .int .i64 x.refuse, .int .i64 x.turn, .slice f.p f.n f.c] 82 (0, 0))) hr
 have hat : TAt (h.get.upd r (true, .cells #[.int .i64 x.items, .int .i64 x.lands, .int .i64 x.start, .int .i64 x.depend, .int .i64 x.refuse, .int .i64 x.turn, .slice f.p f.n f.c] 82 (0, 0))) ⟨r, 0, none⟩ f x :=
  ⟨cell_upd rfl, cell_upd rfl, cell_upd rfl, cell_upd rfl, cell_upd rfl, cell_upd rfl, cell_upd rfl⟩
 generalize hh0 : ({ h with get := h.get.upd r (true, .cells #[.int .i64 x.items, .int .i64 x.lands, .int .i64 x.start, .int .i64 x.depend, .int .i64 x.refuse, .int .i64 x.turn, .slice f.p f.n f.c] 82 (0, 0)) } : LH) = h0 at le0 ⊢
 have hat : TAt h0.get ⟨r, 0, none⟩ f x := by rw [← hh0]; exact hat
 refine t_new fun r1 hr1 => ?_
 have le1 : h0.le _ := LH.upd_le (x := (true, .cells #[.int .i64 k] 3 (0, 0))) hr1
 have z1 : Cells.cell? (h0.get.upd r1 (true, .cells #[.int .i64 k] 3 (0, 0))) ⟨r1, 0, none⟩ = some (.int .i64 k) := cell_upd rfl
 refine t_new fun r2 hr2 => ?_
 have le2 := LH.upd_le (h := { h0 with get := h0.get.upd r1 (true, .cells #[.int .i64 k] 3 (0, 0)) }) (x := (true, .cells #[.int .i64 it] 3 (0, 0))) hr2
 have z2 : Cells.cell? ((h0.get.upd r1 (true, .cells #[.int .i64 k] 3 (0, 0))).upd r2 (true, .cells #[.int .i64 it] 3 (0, 0))) ⟨r2, 0, none⟩ = some (.int .i64 it) := cell_upd rfl
 refine t_new fun r3 hr3 => ?_
 have le3 := LH.upd_le (h := { h0 with get := (h0.get.upd r1 (true, .cells #[.int .i64 k] 3 (0, 0))).upd r2 (true, .cells #[.int .i64 it] 3 (0, 0)) }) (x := (true, .cells #[.int .i64 d] 3 (0, 0))) hr3
 have z3 : Cells.cell? (((h0.get.upd r1 (true, .cells #[.int .i64 k] 3 (0, 0))).upd r2 (true, .cells #[.int .i64 it] 3 (0, 0))).upd r3 (true, .cells #[.int .i64 d] 3 (0, 0))) ⟨r3, 0, none⟩ = some (.int .i64 d) := cell_upd rfl
 have z1 := Cells.cell?_le (LH.le_trans le2 le3).1 z1
 have z2 := Cells.cell?_le le3.1 z2
 have hat := hat.le (LH.le_trans le1 (LH.le_trans le2 le3)).1
 obtain ⟨g0, g1, g2, g3, g4, g5, g6⟩ := id hat
 have le03 := LH.le_trans le0 (LH.le_trans le1 (LH.le_trans le2 le3))
 generalize hh3 : ({ h0 with get := ((h0.get.upd r1 (true, .cells #[.int .i64 k] 3 (0, 0))).upd r2 (true, .cells #[.int .i64 it] 3 (0, 0))).upd r3 (true, .cells #[.int .i64 d] 3 (0, 0)) } : LH) = h3 at le03 ⊢
 have e3 : h3.get = ((h0.get.upd r1 (true, .cells #[.int .i64 k] 3 (0, 0))).upd r2 (true, .cells #[.int .i64 it] 3 (0, 0))).upd r3 (true, .cells #[.int .i64 d] 3 (0, 0)) := by rw [← hh3]
 rw [← e3] at z1 z2 z3 hat g0 g1 g2 g3 g4 g5 g6
 clear hh3 e3
 refine gZ ?_
 refine t_pu (c2066 (hk.le le03.1) (hx.le le03.1) k it d) ?_
 refine gZ ?_
 refine t_cond (fun e => ?_) (fun e => ?_)
 ·exact t_ret ⟨Rd.of_le le03.1, by rw [le03.2.1, hch], by rw [le03.2.2.1, hpe], le03.2.2.2, .inl ⟨by simpa using e, rfl⟩⟩
 have ea : askedAllT x k it d = 0 := by simpa using e
 have hck := (asked_ok (askedItem_ok (askedAll_ok ea).1).1).1
 have rt := Right.of hck
 have hkd := KindsOk.of hck
 have h10 := giving_ten rt
 refine gZ ?_
 refine t_gr (c2067 (hk.le le03.1) (hx.le le03.1) hkd rt.many) ?_
 rintro _ h₄ le4 ⟨ap, an, ac, rfl, hal, _⟩
 have han := hal.1
 refine gZ ?_
 refine t_newSt2 rfl fun r4 h₅ le5 _ _ z0 => ?_
 have le35 := LH.le_trans le4 le5
 refine t_blk (fun vs h' => ∃ b1 b2 q1 q2, vs = [.pointer (some ⟨b1, 0, none⟩), .pointer (some ⟨b2, 0, none⟩)] ∧ Opening 201 238 h₅ h' (some q1) (some q2) (some (b1, true)) (some (b2, true))) ?_ ?_
 ·have O : Opening 201 238 h₅ h₅ none none none none := Opening.start
  repeat' first
   | refine t_both ?_ ?_
   | (refine op_new1 (by assumption) ?_; intro _ _ _)
   | (refine op_new2 (by assumption) ?_; intro _ _ _)
   | (refine op_chan1 undCI inf50 (by assumption) ?_; intro _ _ _)
   | (refine op_chan2 undCB inf4 (by assumption) ?_; intro _ _ _)
   | refine t_unC ?_
   | (refine op_store1 (by assumption) ?_; intro _ _)
   | (refine op_store2 (by assumption) ?_; intro _ _)
   | exact t_again ⟨_, _, _, _, rfl, by assumption⟩
 rintro _ h₆ ⟨b1, b2, q1, q2, rfl, O⟩
 have le6 := O.le
 have le36 := LH.le_trans le35 le6
 have le06 := LH.le_trans le03 le36
 have z0 := Cells.cell?_le le6.1 z0
 have z1 := Cells.cell?_le le36.1 z1
 have z2 := Cells.cell?_le le36.1 z2
 have z3 := Cells.cell?_le le36.1 z3
 have hat := hat.le le36.1
 have hal := hal.le IntE.grow (LH.le_trans le5 le6).1
 have zc1 : h₆.get.cell? ⟨b1, 0, none⟩ = some (.chan (some q1)) := by
  have := (O.hb1 b1 true rfl).2
  simp [Cells.cell?, this]
 have zc2 : h₆.get.cell? ⟨b2, 0, none⟩ = some (.chan (some q2)) := by
  have := (O.hb2 b2 true rfl).2
  simp [Cells.cell?, this]
 have hq := O.ne q1 q2 rfl rfl
 have hq1 := O.hc1 q1 rfl
 have hq2 := O.hc2 q2 rfl
 refine gZ ?_
 rw [sets_wrap (by omega)]
 have h1024 : 2 ^ an ≤ 2 ^ 10 := Nat.pow_le_pow_right (by omega) (by omega)
 have hNe : (2 : Nat) ^ an = 2 ^ (giving x).length := by rw [han]
 have hNpos : 0 < 2 ^ an := Nat.pow_pos (by omega)
 generalize hN : (2 : Nat) ^ an = N at h1024 hNe hNpos ⊢
 refine gZ ?_
 refine t_loop (fun mm vs h' => ∃ j : Nat, vs = [.int .i64 j] ∧ j ≤ N ∧ mm = N - j ∧ Rd h₆.get h'.get ∧ h'.todo = h.todo ∧ h'.pend = (AllT x k it d j).map (scr q1 q2 (Found x) Done) ∧ Hand2 q1 q2 h' ∧ (0 < j → h'.chans = [q2, q1]))
  ⟨0, rfl, Nat.zero_le _, rfl, Rd.refl _, le06.2.2.2, by rw [le06.2.2.1, hpe]; rfl, .inl ⟨by rw [le06.2.1, hch], hq, ⟨0, hq1⟩, 0, hq2⟩, fun hh => absurd hh (by omega)⟩ ?_
 rintro Y mm vs h₇ hY ⟨j, rfl, hj, rfl, rd7, td7, pd7, hand7, ch7⟩
 refine gZ ?_
 refine t_if (fun e1 => ?_) (fun e1 => ?_)
 ·refine t_newSt2 rfl fun r5 h₈ le8 _ _ z5 => ?_
  have rd8 := rd7.trans (Rd.of_le le8.1)
  refine t_spawn (spawnW_two q1 q2 (s := scr q1 q2 (Found x) Done (j, okB x k it d j)) (hand7.le le8) ?_ ?_ (fun hc hrd => ?_) (fun h₉ r9 c9 t9 p9 => ?_))
  ·unfold scr; split <;> simp
  ·intro y hy
   unfold scr at hy
   split at hy
   ·simp at hy; rcases hy with rfl | rfl <;> simp
   ·simp at hy; simp [hy]
  ·have rdc := rd8.trans hrd
   exact c2073 ((hk.le le06.1).rd rdc) ((hx.le le06.1).rd rdc) rt hkd (hat.rd rdc) (by omega) (rdc _ _ z0) (hal.rd IntE.grow rdc) (hrd _ _ z5) (rdc _ _ z1) (rdc _ _ z2) (rdc _ _ z3) (rdc _ _ zc1) (rdc _ _ zc2)
  ·refine t_again (hY (N - (j + 1)) _ _ (by omega) ⟨j + 1, ?_, by omega, rfl, rd8.trans r9, (t9.trans le8.2.2.2).trans td7, ?_, .inr c9, fun _ => c9⟩)
   ·rw [wrap_id (by omega) (by omega)]; rfl
   ·rw [p9, le8.2.2.1, pd7, AllT, AllT, List.range_succ, List.map_append, List.map_append]; rfl
 ·refine gZ ?_
  have hjN : j = N := by omega
  subst hjN
  refine t_loop (fun mm vs h' => ∃ (rem : List (Nat × Bool)) (b : Bool) (p : Option Addr) (n c : Nat), vs = [.slice p n c, .bool b, .int .i64 rem.length] ∧ rem.length ≤ j ∧ mm = (rem.map weight).sum ∧ (∀ i o, (i, o) ∈ rem → i < j) ∧ (∀ i, (i, true) ∈ rem → okB x k it d i = true) ∧ Rd h₆.get h'.get ∧ h'.todo = h.todo ∧ h'.pend = rem.map (scr q1 q2 (Found x) Done) ∧
    ((rem ≠ [] ∧ h'.chans = [q2, q1]) ∨ (rem = [] ∧ h'.chans = [])) ∧ BestR h'.get x k it d rem p n b ∧ n ≤ c ∧ (b = false → c = 0))
   ⟨AllT x k it d j, false, none, 0, 0, by simp [AllT], by simp [AllT], rfl, ?_, ?_, rd7, td7, pd7, .inl ⟨?_, ch7 hNpos⟩, .inl ⟨rfl, rfl, rfl, ?_⟩, Nat.le_refl _, fun _ => rfl⟩ ?_
  ·intro i o hi
   simp [AllT] at hi; omega
  ·intro i hi
   simp [AllT] at hi; exact (by obtain ⟨a0, a1, a2, a3⟩ := hi; rw [← a2]; exact a3)
  ·intro hh
   have := congrArg List.length hh
   simp [AllT] at this; omega
  ·intro i hi hn
   cases ho : okB x k it d i with
   | false => rfl
   | true => exact absurd (List.mem_map.2 ⟨i, List.mem_range.2 (by omega), by rw [ho]⟩) hn
  rintro Y2 mm vs h₈ hY2 ⟨rem, b, p, n, c, rfl, hlen, rfl, hrem, hok, rd8, td8, pd8, hst8, best, hcap, hc0⟩
  refine gZ ?_
  refine t_if (fun e2 => ?_) (fun e2 => ?_)
  ·have hne : rem ≠ [] := by rintro rfl; simp at e2
   have hc8 : h₈.chans = [q2, q1] := by
    rcases hst8 with ⟨_, a⟩ | ⟨a, _⟩
    ·exact a
    ·exact absurd a hne
   refine t_loadC (rd8 _ _ zc1) ?_
   refine t_loadC (rd8 _ _ zc2) ?_
   refine t_comm (commW_sel (φ := Found x) (ψ := Done) pd8 hc8 hq hne ?_ ?_)
   ·rintro l1 i l2 v h₉ hrem' ht hpd hc9 ⟨hv, ⟨a, n', c', rfl, hs9, hcap9⟩, hle⟩ hle9
    have hcr : commResult #[Conc.rcase q1 (.slice none 0 0), Conc.rcase q2 (.bool false)] .select ((0 : Nat) : Int) (.slice (some a) n' c') true = .tuple #[.int .i64 0, .bool true, .slice (some a) n' c', .bool false] := by simp [commResult, Conc.rcase, goInt]
    rw [hcr]
    subst hrem'
    have rd9 := Rd.of_le hle9
    have hs9 := hs9.rd IntE.grow (Rd.of_le hle)
    have hi : i < 2 ^ (giving x).length := by have := hrem i true (by simp); omega
    have hoi : okB x k it d i = true := hok i (by simp)
    have next : ∀ p' n' c', BestR h₉.get x k it d (l1 ++ (i, false) :: l2) p' n' true → n' ≤ c' → Y2 [.slice p' n' c', .bool true, .int .i64 ((l1 ++ (i, true) :: l2).length : Nat)] h₉ := by
     intro p' n' c' hb hcap'
     refine hY2 (((l1 ++ (i, false) :: l2).map weight).sum) _ _ (by simp [weight]) ⟨l1 ++ (i, false) :: l2, true, p', n', c', by simp, by simpa using hlen, rfl, ?_, ?_, rd8.trans rd9, ht.trans td8, hpd, .inl ⟨by simp, hc9⟩, hb, hcap', fun h => by cases h⟩
     ·intro i' o hi'
      simp only [List.mem_append, List.mem_cons, Prod.mk.injEq] at hi'
      rcases hi' with h1 | h1 | h1
      ·exact hrem i' o (by simp [h1])
      ·rw [h1.1]; exact hrem i true (by simp)
      ·exact hrem i' o (by simp [h1])
     ·intro i' hi'
      simp at hi'
      exact hok i' (by rcases hi' with h1 | h1 <;> simp [h1])
    refine gZ ?_
    refine t_cond (fun _ => ?_) (fun e => by cases e)
    refine t_cond (fun e3 => ?_) (fun e3 => ?_)
    ·exact t_again (next _ _ _ (best.take hoi hi hs9 (.inl (by simpa using e3))) hcap9)
    ·have hbt : b = true := by simpa using e3
     subst hbt
     obtain ⟨k', a', hk', hs'⟩ : ∃ k' a', p = some a' ∧ Sl IntE 1 h₈.get (some a') n (bitsL (giving x) k') := by
      rcases best with ⟨b1, _⟩ | ⟨_, k', a', b1, _, _, b4, _⟩
      ·cases b1
      ·exact ⟨k', a', b1, b4⟩
     subst hk'
     refine t_pu (c2074 hs9 (hs'.rd IntE.grow rd9)) ?_
     have same : ∀ k2, Sl IntE 1 h₈.get (some a') n (bitsL (giving x) k2) → bitsL (giving x) k2 = bitsL (giving x) k' := fun k2 h3 => Sl.same h3 hs'
     refine gZ ?_
     refine t_if (fun e4 => ?_) (fun e4 => ?_)
     ·refine t_again (next _ _ _ (best.take hoi hi hs9 (.inr fun k2 h3 => ?_)) hcap9)
      rw [same k2 h3]; omega
     ·refine t_again (next _ _ _ (best.stay rd9 fun k2 h3 => ?_) hcap)
      rw [same k2 h3, fewer_neg]; omega
   ·intro l1 i l2 v h₉ hrem' ht hpd hst9 ⟨hv, hval⟩ hle9
    have hval : v = .bool true := hval
    subst hval
    have hcr : commResult #[Conc.rcase q1 (.slice none 0 0), Conc.rcase q2 (.bool false)] .select ((1 : Nat) : Int) (.bool true) true = .tuple #[.int .i64 1, .bool true, .slice none 0 0, .bool true] := by simp [commResult, Conc.rcase, goInt]
    rw [hcr]
    subst hrem'
    have rd9 := Rd.of_le hle9
    have hl : (l1 ++ (i, false) :: l2).length = (l1 ++ l2).length + 1 := by simp; omega
    refine gZ ?_
    refine t_again (hY2 (((l1 ++ l2).map weight).sum) _ _ (by simp [weight]) ⟨l1 ++ l2, b, p, n, c, ?_, by omega, rfl, ?_, ?_, rd8.trans rd9, ht.trans td8, hpd, hst9, (best.drop).rd rd9, hcap, hc0⟩)
    ·rw [hl, wrap_id (by omega) (by omega)]
     congr 3
     congr 1
     omega
    ·intro i' o hi'
     simp only [List.mem_append] at hi'
     exact hrem i' o (by rcases hi' with h1 | h1 <;> simp [h1])
    ·intro i' hi'
     simp only [List.mem_append] at hi'
     exact hok i' (by rcases hi' with h1 | h1 <;> simp [h1])
  ·refine gZ ?_
   have hrem0 : rem = [] := List.length_eq_zero_iff.1 (by omega)
   subst hrem0
   have hc8 : h₈.chans = [] := by
    rcases hst8 with ⟨a, _⟩ | ⟨_, a⟩
    ·exact absurd rfl a
    ·exact a
   refine t_ret ⟨(Rd.of_le le06.1).trans rd8, hc8, pd8, td8, .inr ?_⟩
   rcases best.done rt.ok with ⟨a1, rfl, rfl, rfl⟩ | ⟨a1, rfl, a2⟩
   ·have := hc0 rfl; subst this
    exact .inl ⟨ea, a1, rfl⟩
   ·exact .inr ⟨ea, a1, _, _, _, rfl, a2, hcap⟩
end Go.Proofs.YtldamlcehbdkdaaGreatDoor.Tre
end
section
namespace Go.Proofs.YtldamlcehbdkdaaGreatDoor.Tre
open Go Go.TM Go.Proofs Go.TM.Tr
attribute [local irreducible] T.wp CV FWK
theorem c2020 {h : LH} {p q : Option Addr} {n c m d : Nat} {a b : List Bool} (ha : Sl BoolE 1 h.get p n a) (hb : Sl BoolE 1 h.get q m b) : Pu Tryz.prog 93 #[.slice p n c, .slice q m d] h (.bool (decide (a = b))) := by
 refine w2020 _ _ _ _ _ _ X0_ok ?_
 unfold n2020
 have hn := ha.1
 have hm := hb.1
 have hbn := ha.2.1
 have hbm := hb.2.1
 refine t_cond (fun e => ?_) (fun e => ?_)
 ·have : a ≠ b := by rintro rfl; simp at e; omega
  exact t_ret ⟨by simp [this], rfl⟩
 have hnm : n = m := by simp at e; omega
 refine t_loop (fun mm vs h' => h = h' ∧ ∃ i : Nat, vs = [.bool false, .int .i64 i] ∧ i ≤ n ∧ mm = n - i ∧ a.take i = b.take i) ⟨rfl, 0, rfl, Nat.zero_le _, rfl, rfl⟩ ?_
 rintro Y mm vs _ hY ⟨rfl, i, rfl, hi, rfl, hc⟩
 refine gZ ?_
 refine t_if (fun e => ?_) (fun e => ?_)
 ·obtain ⟨x, a1, hx, ha1, e1⟩ := ha.at (i := i) (by omega)
  obtain ⟨y, a2, hy, ha2, e2⟩ := hb.at (i := i) (by omega)
  unfold BoolE at e1 e2
  rw [add_zero'] at e1 e2
  refine gZ ?_
  refine t_cond (fun b1 => ?_) (fun b1 => ?_)
  ·refine gZ ?_
   have : a ≠ b := by rintro rfl; rw [hx] at hy; cases hy; simp at b1
   exact t_ret ⟨by simp [this], rfl⟩
  ·have b2 : x = y := by cases x <;> cases y <;> simp_all
   refine t_again (hY (n - (i + 1)) _ _ (by omega) ⟨rfl, i + 1, ?_, by omega, rfl, ?_⟩)
   ·rw [wrap_id (by omega) (by omega)]; rfl
   ·rw [List.take_add_one, List.take_add_one, hc, hx, hy, b2]
 ·refine gZ ?_
  rw [List.take_of_length_le (by omega), List.take_of_length_le (by omega)] at hc
  exact t_ret ⟨by simp [hc], rfl⟩
theorem c2025 {h : LH} {p q : Option Addr} {n c m d : Nat} {a b : List Sp} (ha : Sl SpE 2 h.get p n a) (hb : Sl SpE 2 h.get q m b) : Pu Tryz.prog 94 #[.slice p n c, .slice q m d] h (.bool (decide (a = b))) := by
 refine w2025 _ _ _ _ _ _ X0_ok ?_
 unfold n2025
 have hn := ha.1
 have hm := hb.1
 have hbn := ha.2.1
 have hbm := hb.2.1
 refine t_cond (fun e => ?_) (fun e => ?_)
 ·have : a ≠ b := by rintro rfl; simp at e; omega
  exact t_ret ⟨by simp [this], rfl⟩
 have hnm : n = m := by simp at e; omega
 refine t_loop (fun mm vs h' => h = h' ∧ ∃ i : Nat, vs = [.bool false, .int .i64 i] ∧ i ≤ n ∧ mm = n - i ∧ a.take i = b.take i) ⟨rfl, 0, rfl, Nat.zero_le _, rfl, rfl⟩ ?_
 rintro Y mm vs _ hY ⟨rfl, i, rfl, hi, rfl, hc⟩
 refine gZ ?_
 refine t_if (fun e => ?_) (fun e => ?_)
 ·obtain ⟨x, a1, hx, ha1, e1, e3⟩ := ha.at (i := i) (by omega)
  obtain ⟨y, a2, hy, ha2, e2, e4⟩ := hb.at (i := i) (by omega)
  refine gZ ?_
  refine t_ne2 two30 g30 ?_
  refine gZ ?_
  refine t_cond (fun b1 => ?_) (fun b1 => ?_)
  ·refine gZ ?_
   have : a ≠ b := by rintro rfl; rw [hx] at hy; cases hy; simp at b1
   exact t_ret ⟨by simp [this], rfl⟩
  ·have b2 : x = y := by obtain ⟨x1, x2⟩ := x; obtain ⟨y1, y2⟩ := y; simp at b1; simp [b1]
   refine t_again (hY (n - (i + 1)) _ _ (by omega) ⟨rfl, i + 1, ?_, by omega, rfl, ?_⟩)
   ·rw [wrap_id (by omega) (by omega)]; rfl
   ·rw [List.take_add_one, List.take_add_one, hc, hx, hy, b2]
 ·refine gZ ?_
  rw [List.take_of_length_le (by omega), List.take_of_length_le (by omega)] at hc
  exact t_ret ⟨by simp [hc], rfl⟩
end Go.Proofs.YtldamlcehbdkdaaGreatDoor.Tre
end
section
namespace Go.Proofs.YtldamlcehbdkdaaGreatDoor
open Go Go.TM Go.Proofs
set_option linter.unusedVariables false
set_option maxRecDepth 100000
variable {X : XP} {h : LH} {A : Value → LH → Prop}
noncomputable def n2016 (x_0 x_1 x_2 x_3 x_4 x_5 : Int) (x_6p : Option Addr) (x_6n x_6c : Nat) : T := bif decide ((↑x_6n : Int) > 20) then .leaf (.ret (.bool true)) else .loop [.bool false, .int .i64 0] (fun vs => .popB vs fun b vs => .popI .i64 vs fun n vs => .unNil vs (bif decide (n < (↑x_6n : Int)) then .need (0 ≤ n ∧ n < (↑x_6n : Int)) (.someA x_6p fun a => .loadS ((a.add (n.toNat * 5)).add 3) fun p n_1 c => bif decide ((↑n_1 : Int) > 20) then .leaf (.retn [.bool true, .int .i64 n]) else .leaf (.again [.bool b, .int .i64 (IntKind.wrap .i64 (n + 1))])) else .leaf (.brk [.bool b, .int .i64 n]))) (fun vs => .popB vs fun b vs => .popI .i64 vs fun n vs => .unNil vs (.leaf (.ret (.bool false)))) (fun vs => .popB vs fun b vs => .popI .i64 vs fun n vs => .unNil vs (.leaf (.ret (.bool b)))) fun x x_6 => .fail
theorem w2016 (x_0 x_1 x_2 x_3 x_4 x_5 : Int) (x_6p : Option Addr) (x_6n x_6c : Nat) (hX : XOK X) (hw : (n2016 x_0 x_1 x_2 x_3 x_4 x_5 x_6p x_6n x_6c).wp X Tryz.prog (retQ A) h) : FWK X Tryz.prog .normal 38 #[.agg #[.int .i64 x_0, .int .i64 x_1, .int .i64 x_2, .int .i64 x_3, .int .i64 x_4, .int .i64 x_5, .slice x_6p x_6n x_6c]] h A := fwk_neat (show ftree ({ P := Tryz.prog, priv := [1], loops := [{ id := 0, slots := [(2, .bool), (3, .int .i64)], ro := [1], outs := [] }], joins := [] }) Tryz.f38 [.agg #[.int .i64 x_0, .int .i64 x_1, .int .i64 x_2, .int .i64 x_3, .int .i64 x_4, .int .i64 x_5, .slice x_6p x_6n x_6c]] = n2016 x_0 x_1 x_2 x_3 x_4 x_5 x_6p x_6n x_6c by kernel_rfl) (by simp) (by kernel_rfl) (by kernel_rfl) hX hw
noncomputable def n2017  : T := .call false 87 #[] fun v => .unAgg v fun l => .popI .i64 l fun n vs => .popI .i64 vs fun n_1 vs => .popI .i64 vs fun n_2 vs => .popI .i64 vs fun n_3 vs => .popI .i64 vs fun n_4 vs => .popI .i64 vs fun n_5 vs => .popS vs fun a n_6 c vs => .unNil vs (.call false 88 #[.agg #[.int .i64 n, .int .i64 n_1, .int .i64 n_2, .int .i64 n_3, .int .i64 n_4, .int .i64 n_5, .slice a n_6 c], .int .i64 0, .int .i64 15] fun v => .unTup v fun l => .unCons l fun v vs => .unS v fun a_1 n_7 c_1 => .unCons vs fun v vs => .unI .i64 v fun n_8 => .unNil vs (.call false 88 #[.agg #[.int .i64 n, .int .i64 n_1, .int .i64 n_2, .int .i64 n_3, .int .i64 n_4, .int .i64 n_5, .slice a n_6 c], .int .i64 1, .int .i64 40] fun v => .unTup v fun l => .unCons l fun v vs => .unS v fun a_2 n_9 c_2 => .unCons vs fun v vs => .unI .i64 v fun n_10 => .unNil vs (.call false 89 #[.agg #[.int .i64 n, .int .i64 n_1, .int .i64 n_2, .int .i64 n_3, .int .i64 n_4, .int .i64 n_5, .slice a n_6 c], .int .i64 0, .int .i64 18] fun v => .unTup v fun l => .unCons l fun v vs => .unS v fun a_3 n_11 c_3 => .unCons vs fun v vs => .unI .i64 v fun n_12 => .unNil vs (.call false 89 #[.agg #[.int .i64 n, .int .i64 n_1, .int .i64 n_2, .int .i64 n_3, .int .i64 n_4, .int .i64 n_5, .slice a n_6 c], .int .i64 0, .int .i64 44] fun v => .unTup v fun l => .unCons l fun v vs => .unS v fun a_4 n_13 c_4 => .unCons vs fun v vs => .unI .i64 v fun n_14 => .unNil vs (.call false 90 #[.agg #[.int .i64 n, .int .i64 n_1, .int .i64 n_2, .int .i64 n_3, .int .i64 n_4, .int .i64 n_5, .slice a n_6 c], .int .i64 0, .int .i64 0] fun v => .unTup v fun l => .unCons l fun v vs => .unS v fun a_5 n_15 c_5 => .unCons vs fun v vs => .unI .i64 v fun n_16 => .unNil vs (.call false 90 #[.agg #[.int .i64 n, .int .i64 n_1, .int .i64 n_2, .int .i64 n_3, .int .i64 n_4, .int .i64 n_5, .slice a n_6 c], .int .i64 0, .int .i64 1] fun v => .unTup v fun l => .unCons l fun v vs => .unS v fun a_6 n_17 c_6 => .unCons vs fun v vs => .unI .i64 v fun n_18 => .unNil vs (.call false 91 #[.agg #[.int .i64 n, .int .i64 n_1, .int .i64 n_2, .int .i64 n_3, .int .i64 n_4, .int .i64 n_5, .slice a n_6 c], .int .i64 1, .int .i64 45] fun v => .unTup v fun l => .unCons l fun v vs => .unS v fun a_7 n_19 c_7 => .unCons vs fun v vs => .unI .i64 v fun n_20 => .unNil vs (.call false 91 #[.agg #[.int .i64 n, .int .i64 n_1, .int .i64 n_2, .int .i64 n_3, .int .i64 n_4, .int .i64 n_5, .slice a n_6 c], .int .i64 1, .int .i64 46] fun v => .unTup v fun l => .unCons l fun v vs => .unS v fun a_8 n_21 c_8 => .unCons vs fun v vs => .unI .i64 v fun n_22 => .unNil vs (.call false 92 #[.agg #[.int .i64 n, .int .i64 n_1, .int .i64 n_2, .int .i64 n_3, .int .i64 n_4, .int .i64 n_5, .slice a n_6 c], .int .i64 0, .int .i64 0, .int .i64 44] fun v => .unTup v fun l => .unCons l fun v vs => .unS v fun a n c => .unCons vs fun v vs => .unB v fun b => .unCons vs fun v vs => .unI .i64 v fun n_23 => .unNil vs (.blk (bif n_8 != 0 then .leaf (.retn [.bool false]) else bif n_10 != 0 then .leaf (.retn [.bool false]) else bif n_12 != 0 then .leaf (.retn [.bool false]) else bif n_14 != 0 then .leaf (.retn [.bool false]) else bif n_16 != 0 then .leaf (.retn [.bool false]) else bif n_18 != 0 then .leaf (.retn [.bool false]) else bif n_20 != 0 then .leaf (.retn [.bool false]) else bif n_22 != 0 then .leaf (.retn [.bool false]) else bif n_23 != 0 then .leaf (.retn [.bool false]) else .leaf (.again [.bool false])) (fun vs => .popB vs fun b_1 vs => .unNil vs (.blk (.sem false (Instr.buildSlice 95 3 #[(0, .bool true), (1, .bool false), (2, .bool true)]) fun v => .unS v fun a_9 n_24 c_9 => .call false 93 #[.slice a_1 n_7 c_1, .slice a_9 n_24 c_9] fun v => .unB v fun b_2 => bif !b_2 then .leaf (.retn [.bool false]) else .sem false (Instr.buildSlice 95 3 #[(0, .bool false), (1, .bool true), (2, .bool false)]) fun v => .unS v fun a_10 n_25 c_10 => .call false 93 #[.slice a_2 n_9 c_2, .slice a_10 n_25 c_10] fun v => .unB v fun b_3 => bif !b_3 then .leaf (.retn [.bool false]) else .sem false (Instr.buildSlice 30 3 #[(0, .int .i64 3), (1, .int .i64 (-1)), (2, .int .i64 12)]) fun v => .unS v fun a_11 n_26 c_11 => .call false 22 #[.slice a_3 n_11 c_3, .slice a_11 n_26 c_11] fun v => .unB v fun b_4 => bif !b_4 then .leaf (.retn [.bool false]) else .sem false (Instr.buildSlice 30 3 #[(0, .int .i64 3), (1, .int .i64 12), (2, .int .i64 (-1))]) fun v => .unS v fun a_12 n_27 c_12 => .call false 22 #[.slice a_4 n_13 c_4, .slice a_12 n_27 c_12] fun v => .unB v fun b_5 => bif !b_5 then .leaf (.retn [.bool false]) else bif !b then .leaf (.retn [.bool false]) else .sem false (Instr.buildSlice 30 2 #[(0, .int .i64 0), (1, .int .i64 5)]) fun v => .unS v fun a_13 n_28 c_13 => .call false 22 #[.slice a n c, .slice a_13 n_28 c_13] fun v => .unB v fun b => bif !b then .leaf (.retn [.bool false]) else .leaf (.again [.bool b_1])) (fun vs => .popB vs fun b vs => .unNil vs (.call false 95 #[.int .i64 12, .int .i64 39] fun v => .unAgg v fun l => .popI .i64 l fun n vs => .popI .i64 vs fun n_24 vs => .unNil vs (.call false 95 #[.int .i64 44, .int .i64 9999] fun v => .unAgg v fun l => .popI .i64 l fun n_25 vs => .popI .i64 vs fun n_26 vs => .unNil vs (.sem false (Instr.buildSlice 22 2 #[(0, .agg #[.int .i64 n, .int .i64 n_24]), (1, .agg #[.int .i64 n_25, .int .i64 n_26])]) fun v => .unS v fun a n c => .call false 94 #[.slice a_5 n_15 c_5, .slice a n c] fun v => .unB v fun b => bif b then .call false 95 #[.int .i64 12, .int .i64 14] fun v => .unAgg v fun l => .popI .i64 l fun n vs => .popI .i64 vs fun n_27 vs => .unNil vs (.call false 95 #[.int .i64 25, .int .i64 9999] fun v => .unAgg v fun l => .popI .i64 l fun n_28 vs => .popI .i64 vs fun n_29 vs => .unNil vs (.sem false (Instr.buildSlice 22 2 #[(0, .agg #[.int .i64 n, .int .i64 n_27]), (1, .agg #[.int .i64 n_28, .int .i64 n_29])]) fun v => .unS v fun a n c => .call false 94 #[.slice a_6 n_17 c_6, .slice a n c] fun v => .unB v fun b => bif b then .sem false (Instr.buildSlice 30 1 #[(0, .int .i64 0)]) fun v => .unS v fun a n c => .call false 22 #[.slice a_7 n_19 c_7, .slice a n c] fun v => .unB v fun b => bif b then .leaf (.ret (.bool ((↑n_21 : Int) == 0))) else .leaf (.ret (.bool false)) else .leaf (.ret (.bool false)))) else .leaf (.ret (.bool false)))))) (fun vs => .popB vs fun b vs => .unNil vs (.leaf (.ret (.bool b)))) fun x x_1 => .fail)) (fun vs => .popB vs fun b vs => .unNil vs (.leaf (.ret (.bool b)))) fun x x_1 => .fail))))))))))
theorem w2017  (hX : XOK X) (hw : (n2017 ).wp X Tryz.prog (retQ A) h) : FWK X Tryz.prog .normal 33 #[] h A := fwk_neat (show ftree ({ P := Tryz.prog, priv := [1], loops := [], joins := [{ id := 15, slots := [(0, .bool)], ro := [1], outs := [] }, { id := 13, slots := [(0, .bool)], ro := [1], outs := [] }] }) Tryz.f33 [] = n2017  by kernel_rfl) (by simp) (by kernel_rfl) (by kernel_rfl) hX hw
noncomputable def n2031 (x_0 x_1 x_2 x_3 x_4 x_5 : Int) (x_6p : Option Addr) (x_6n x_6c : Nat) : T := .call false 38 #[.agg #[.int .i64 x_0, .int .i64 x_1, .int .i64 x_2, .int .i64 x_3, .int .i64 x_4, .int .i64 x_5, .slice x_6p x_6n x_6c]] fun v => .unB v fun b => bif !b then .call false 86 #[.agg #[.int .i64 x_0, .int .i64 x_1, .int .i64 x_2, .int .i64 x_3, .int .i64 x_4, .int .i64 x_5, .slice x_6p x_6n x_6c]] fun v => .unI .i64 v fun n => .leaf (.ret (.bool (n == 0))) else .leaf (.ret (.bool false))
theorem w2031 (x_0 x_1 x_2 x_3 x_4 x_5 : Int) (x_6p : Option Addr) (x_6n x_6c : Nat) (hX : XOK X) (hw : (n2031 x_0 x_1 x_2 x_3 x_4 x_5 x_6p x_6n x_6c).wp X Tryz.prog (retQ A) h) : FWK X Tryz.prog .normal 32 #[.agg #[.int .i64 x_0, .int .i64 x_1, .int .i64 x_2, .int .i64 x_3, .int .i64 x_4, .int .i64 x_5, .slice x_6p x_6n x_6c]] h A := fwk_neat (show ftree ({ P := Tryz.prog, priv := [1], loops := [], joins := [] }) Tryz.f32 [.agg #[.int .i64 x_0, .int .i64 x_1, .int .i64 x_2, .int .i64 x_3, .int .i64 x_4, .int .i64 x_5, .slice x_6p x_6n x_6c]] = n2031 x_0 x_1 x_2 x_3 x_4 x_5 x_6p x_6n x_6c by kernel_rfl) (by simp) (by kernel_rfl) (by kernel_rfl) hX hw
noncomputable def n2032 (n : Int) : T := .need ((10000 : Int) ≠ 0) (.leaf (.ret (.int .i64 (Int.tmod (IntKind.wrap .i64 n) 10000))))
theorem w2032 (n : Int) (hX : XOK X) (hw : (n2032 n).wp X Tryz.prog (retQ A) h) : FWK X Tryz.prog .normal 40 #[.int .u16 n] h A := fwk_neat (show ftree ({ P := Tryz.prog, priv := [], loops := [], joins := [] }) Tryz.f40 [.int .u16 n] = n2032 n by kernel_rfl) (by simp) (by kernel_rfl) (by kernel_rfl) hX hw
noncomputable def n2035 (x_0 x_1 x_2 x_3 x_4 x_5 : Int) (x_6p : Option Addr) (x_6n x_6c : Nat) (e_0 e_1 e_2 : Int) (e_3p : Option Addr) (e_3n e_3c : Nat) (e_4 : Int) : T := .blk (.both (.sem false (Instr.buildSlice 80 0 #[]) fun v => .unS v fun a n c => .nd (.agg #[.int .i64 e_0, .int .i64 e_1, .int .i64 e_2, .slice e_3p e_3n e_3c, .int .i64 e_4]) (.nd (.slice x_6p x_6n x_6c) (.need (AV.pp 2 6 = AV.pp 2 6) (.both (.sem false (Builtin.append_ #[80, 80] 80 #[.slice a n c, .slice x_6p x_6n x_6c]) fun v => .unS v fun a n c => .nd (.agg #[.int .i64 e_0, .int .i64 e_1, .int .i64 e_2, .slice e_3p e_3n e_3c, .int .i64 e_4]) (.need (AV.pp 2 6 = AV.pp 2 6) (.sem false (Instr.buildSlice 80 1 #[(0, .agg #[.int .i64 e_0, .int .i64 e_1, .int .i64 e_2, .slice e_3p e_3n e_3c, .int .i64 e_4])]) fun v => .unS v fun a_1 n_1 c_1 => .need (AV.pp 2 6 = AV.pp 2 6) (.sem false (Builtin.append_ #[80, 80] 80 #[.slice a n c, .slice a_1 n_1 c_1]) fun v => .unS v fun a n c => .need (AV.pp 2 6 = AV.pp 2 6) (.leaf (.again [.int .i64 x_0, .int .i64 x_1, .int .i64 x_2, .int .i64 x_3, .int .i64 x_4, .int .i64 x_5, .slice a n c])))))) (.sem false (Instr.buildSlice 80 1 #[(0, .agg #[.int .i64 e_0, .int .i64 e_1, .int .i64 e_2, .slice e_3p e_3n e_3c, .int .i64 e_4])]) fun v => .unS v fun a_1 n_1 c_1 => .nd (.slice x_6p x_6n x_6c) (.need (AV.pp 2 6 = AV.pp 2 6) (.sem false (Builtin.append_ #[80, 80] 80 #[.slice a n c, .slice x_6p x_6n x_6c]) fun v => .unS v fun a n c => .need (AV.pp 2 6 = AV.pp 2 6) (.sem false (Builtin.append_ #[80, 80] 80 #[.slice a n c, .slice a_1 n_1 c_1]) fun v => .unS v fun a n c => .need (AV.pp 2 6 = AV.pp 2 6) (.leaf (.again [.int .i64 x_0, .int .i64 x_1, .int .i64 x_2, .int .i64 x_3, .int .i64 x_4, .int .i64 x_5, .slice a n c])))))))))) (.sem false (Instr.buildSlice 80 1 #[(0, .agg #[.int .i64 e_0, .int .i64 e_1, .int .i64 e_2, .slice e_3p e_3n e_3c, .int .i64 e_4])]) fun v => .unS v fun a n c => .nd (.slice x_6p x_6n x_6c) (.need (AV.pp 2 6 = AV.pp 2 6) (.sem false (Instr.buildSlice 80 0 #[]) fun v => .unS v fun a_1 n_1 c_1 => .nd (.slice x_6p x_6n x_6c) (.need (AV.pp 2 6 = AV.pp 2 6) (.sem false (Builtin.append_ #[80, 80] 80 #[.slice a_1 n_1 c_1, .slice x_6p x_6n x_6c]) fun v => .unS v fun a_2 n_2 c_2 => .need (AV.pp 2 6 = AV.pp 2 6) (.sem false (Builtin.append_ #[80, 80] 80 #[.slice a_2 n_2 c_2, .slice a n c]) fun v => .unS v fun a n c => .need (AV.pp 2 6 = AV.pp 2 6) (.leaf (.again [.int .i64 x_0, .int .i64 x_1, .int .i64 x_2, .int .i64 x_3, .int .i64 x_4, .int .i64 x_5, .slice a n c]))))))))) (fun vs => .popI .i64 vs fun n vs => .popI .i64 vs fun n_1 vs => .popI .i64 vs fun n_2 vs => .popI .i64 vs fun n_3 vs => .popI .i64 vs fun n_4 vs => .popI .i64 vs fun n_5 vs => .popS vs fun a n_6 c vs => .unNil vs (bif decide ((↑e_3n : Int) ≤ 20) then .call false 86 #[.agg #[.int .i64 n, .int .i64 n_1, .int .i64 n_2, .int .i64 n_3, .int .i64 n_4, .int .i64 n_5, .slice a n_6 c]] fun v => .unI .i64 v fun n_7 => .nd (.bool (decide ((↑e_3n : Int) ≤ 20))) (.nd (.int .i64 (↑e_3n : Int)) (.nd (.slice e_3p e_3n e_3c) (.need (AV.pp 3 3 = AV.pp 3 3) (.nd (.agg #[.int .i64 n, .int .i64 n_1, .int .i64 n_2, .int .i64 n_3, .int .i64 n_4, .int .i64 n_5, .slice a n_6 c]) (.nd (.bool (n_7 == 0)) (.nd (.bool (n_7 == 0)) (.nd (.bool (decide ((↑e_3n : Int) ≤ 20))) (.nd (.int .i64 (↑e_3n : Int)) (.nd (.slice e_3p e_3n e_3c) (.need (AV.pp 3 3 = AV.pp 3 3) (.leaf (.ret (.tuple #[.agg #[.int .i64 n, .int .i64 n_1, .int .i64 n_2, .int .i64 n_3, .int .i64 n_4, .int .i64 n_5, .slice a n_6 c], .bool (n_7 == 0)]))))))))))))) else .nd (.bool (decide ((↑e_3n : Int) ≤ 20))) (.nd (.int .i64 (↑e_3n : Int)) (.nd (.slice e_3p e_3n e_3c) (.need (AV.pp 3 3 = AV.pp 3 3) (.nd (.agg #[.int .i64 n, .int .i64 n_1, .int .i64 n_2, .int .i64 n_3, .int .i64 n_4, .int .i64 n_5, .slice a n_6 c]) (.both (.nd (.bool (decide ((↑e_3n : Int) ≤ 20))) (.nd (.int .i64 (↑e_3n : Int)) (.nd (.slice e_3p e_3n e_3c) (.need (AV.pp 3 3 = AV.pp 3 3) (.nd (.agg #[.int .i64 n, .int .i64 n_1, .int .i64 n_2, .int .i64 n_3, .int .i64 n_4, .int .i64 n_5, .slice a n_6 c]) (.nd (.bool false) (.nd (.bool (decide ((↑e_3n : Int) ≤ 20))) (.nd (.int .i64 (↑e_3n : Int)) (.nd (.slice e_3p e_3n e_3c) (.need (AV.pp 3 3 = AV.pp 3 3) (.leaf (.ret (.tuple #[.agg #[.int .i64 n, .int .i64 n_1, .int .i64 n_2, .int .i64 n_3, .int .i64 n_4, .int .i64 n_5, .slice a n_6 c], .bool false]))))))))))))) (.nd (.bool (decide ((↑e_3n : Int) ≤ 20))) (.nd (.int .i64 (↑e_3n : Int)) (.nd (.slice e_3p e_3n e_3c) (.need (AV.pp 3 3 = AV.pp 3 3) (.nd (.bool (decide ((↑e_3n : Int) ≤ 20))) (.nd (.int .i64 (↑e_3n : Int)) (.nd (.slice e_3p e_3n e_3c) (.need (AV.pp 3 3 = AV.pp 3 3) (.leaf (.ret (.tuple #[.agg #[.int .i64 n, .int .i64 n_1, .int .i64 n_2, .int .i64 n_3, .int .i64 n_4, .int .i64 n_5, .slice a n_6 c], .bool false])))))))))))))))))) (fun vs => .popI .i64 vs fun n vs => .popI .i64 vs fun n vs => .popI .i64 vs fun n vs => .popI .i64 vs fun n vs => .popI .i64 vs fun n vs => .popI .i64 vs fun n vs => .popS vs fun a n c vs => .unNil vs (.leaf (.ret (.tuple #[.agg #[.int .i64 0, .int .i64 0, .int .i64 0, .int .i64 0, .int .i64 0, .int .i64 0, .slice none 0 0], .bool false])))) fun x x_6 => .fail
theorem w2035 (x_0 x_1 x_2 x_3 x_4 x_5 : Int) (x_6p : Option Addr) (x_6n x_6c : Nat) (e_0 e_1 e_2 : Int) (e_3p : Option Addr) (e_3n e_3c : Nat) (e_4 : Int) (hX : XOK X) (hw : (n2035 x_0 x_1 x_2 x_3 x_4 x_5 x_6p x_6n x_6c e_0 e_1 e_2 e_3p e_3n e_3c e_4).wp X Tryz.prog (retQ A) h) : FWK X Tryz.prog .normal 37 #[.agg #[.int .i64 x_0, .int .i64 x_1, .int .i64 x_2, .int .i64 x_3, .int .i64 x_4, .int .i64 x_5, .slice x_6p x_6n x_6c], .agg #[.int .i64 e_0, .int .i64 e_1, .int .i64 e_2, .slice e_3p e_3n e_3c, .int .i64 e_4]] h A := fwk_neat (show ftree ({ P := Tryz.prog, priv := [2, 3, 4, 6], loops := [], joins := [{ id := 3, slots := [(28672, .int .i64), (28673, .int .i64), (28674, .int .i64), (28675, .int .i64), (28676, .int .i64), (28677, .int .i64), (28678, .slice)], ro := [2, 3, 4], outs := [] }] }) Tryz.f37 [.agg #[.int .i64 x_0, .int .i64 x_1, .int .i64 x_2, .int .i64 x_3, .int .i64 x_4, .int .i64 x_5, .slice x_6p x_6n x_6c], .agg #[.int .i64 e_0, .int .i64 e_1, .int .i64 e_2, .slice e_3p e_3n e_3c, .int .i64 e_4]] = n2035 x_0 x_1 x_2 x_3 x_4 x_5 x_6p x_6n x_6c e_0 e_1 e_2 e_3p e_3n e_3c e_4 by kernel_rfl) (by simp) (by kernel_rfl) (by kernel_rfl) hX hw
noncomputable def n2048  : T := .sem false (Instr.buildSlice 30 3 #[(0, .int .i64 0), (1, .int .i64 1), (2, .int .i64 2)]) fun v => .unS v fun a n c => .sem false (Instr.buildSlice 30 1 #[(0, .int .i64 1)]) fun v => .unS v fun a_1 n_1 c_1 => .sem false (Instr.buildSlice 30 1 #[(0, .int .i64 1)]) fun v => .unS v fun a_2 n_2 c_2 => .sem false (Instr.buildSlice 30 1 #[(0, .int .i64 2)]) fun v => .unS v fun a_3 n_3 c_3 => .sem false (Instr.buildSlice 30 1 #[(0, .int .i64 0)]) fun v => .unS v fun a_4 n_4 c_4 => .sem false (Instr.buildSlice 30 1 #[(0, .int .i64 0)]) fun v => .unS v fun a_5 n_5 c_5 => .sem false (Instr.buildSlice 30 2 #[(0, .int .i64 0), (1, .int .i64 1)]) fun v => .unS v fun a_6 n_6 c_6 => .sem false (Instr.buildSlice 30 1 #[(0, .int .i64 1)]) fun v => .unS v fun a_7 n_7 c_7 => .sem false (Instr.buildSlice 30 1 #[(0, .int .i64 1)]) fun v => .unS v fun a_8 n_8 c_8 => .sem false (Instr.buildSlice 30 1 #[(0, .int .i64 0)]) fun v => .unS v fun a_9 n_9 c_9 => .sem false (Instr.buildSlice 80 10 #[(0, .agg #[.int .i64 0, .int .i64 12, .int .i64 0, .slice a n c, .int .i64 0]), (1, .agg #[.int .i64 1, .int .i64 15, .int .i64 0, .slice a_1 n_1 c_1, .int .i64 0]), (2, .agg #[.int .i64 2, .int .i64 25, .int .i64 0, .slice a_2 n_2 c_2, .int .i64 0]), (3, .agg #[.int .i64 3, .int .i64 22, .int .i64 0, .slice a_3 n_3 c_3, .int .i64 0]), (4, .agg #[.int .i64 4, .int .i64 40, .int .i64 0, .slice a_4 n_4 c_4, .int .i64 30]), (5, .agg #[.int .i64 5, .int .i64 44, .int .i64 0, .slice a_5 n_5 c_5, .int .i64 0]), (6, .agg #[.int .i64 0, .int .i64 20, .int .i64 1, .slice a_6 n_6 c_6, .int .i64 0]), (7, .agg #[.int .i64 1, .int .i64 27, .int .i64 1, .slice a_7 n_7 c_7, .int .i64 0]), (8, .agg #[.int .i64 4, .int .i64 50, .int .i64 0, .slice a_8 n_8 c_8, .int .i64 31]), (9, .agg #[.int .i64 6, .int .i64 18, .int .i64 0, .slice a_9 n_9 c_9, .int .i64 3])]) fun v => .unS v fun a n c => .leaf (.ret (.agg #[.int .i64 3, .int .i64 2, .int .i64 10, .int .i64 20, .int .i64 6, .int .i64 5, .slice a n c]))
theorem w2048  (hX : XOK X) (hw : (n2048 ).wp X Tryz.prog (retQ A) h) : FWK X Tryz.prog .normal 87 #[] h A := fwk_neat (show ftree ({ P := Tryz.prog, priv := [0], loops := [], joins := [] }) Tryz.f87 [] = n2048  by kernel_rfl) (by simp) (by kernel_rfl) (by kernel_rfl) hX hw
noncomputable def n2049 (a b : Int) : T := .leaf (.ret (.agg #[.int .i64 a, .int .i64 b]))
theorem w2049 (a b : Int) (hX : XOK X) (hw : (n2049 a b).wp X Tryz.prog (retQ A) h) : FWK X Tryz.prog .normal 95 #[.int .i64 a, .int .i64 b] h A := fwk_neat (show ftree ({ P := Tryz.prog, priv := [4], loops := [], joins := [] }) Tryz.f95 [.int .i64 a, .int .i64 b] = n2049 a b by kernel_rfl) (by simp) (by kernel_rfl) (by kernel_rfl) hX hw
end Go.Proofs.YtldamlcehbdkdaaGreatDoor
end
section
namespace Go.Proofs.YtldamlcehbdkdaaGreatDoor.Tre
open Go Go.TM Go.Proofs Go.TM.Tr
attribute [local irreducible] T.wp CV FWK
def bigB (x : TF) : Bool := decide (20 < x.events.length) || x.events.any fun e => decide (20 < e.items.length)
theorem c2016 {h : LH} {f : TC} {x : TF} (hx : TreatyR h.get f x) : Pu Tryz.prog 38 #[treatyV f x] h (.bool (bigB x)) := by
 refine w2016 _ _ _ _ _ _ _ _ _ X0_ok ?_
 unfold n2016
 have hn := hx.2.1
 have hb := hx.2.2.1
 refine t_if (fun e => ?_) (fun e => ?_)
 ·exact t_ret ⟨by rw [bigB, decide_eq_true (by omega)]; rfl, rfl⟩
 have h0 : bigB x = x.events.any fun e => decide (20 < e.items.length) := by rw [bigB, decide_eq_false (by omega)]; rfl
 refine t_loop (fun mm vs h' => h = h' ∧ ∃ j : Nat, vs = [.bool false, .int .i64 j] ∧ j ≤ f.n ∧ mm = f.n - j ∧ bigB x = (x.events.drop j).any fun e => decide (20 < e.items.length)) ⟨rfl, 0, rfl, Nat.zero_le _, rfl, h0⟩ ?_
 rintro Y mm vs _ hY ⟨rfl, j, rfl, hj, rfl, hc⟩
 refine gZ ?_
 refine t_if (fun e1 => ?_) (fun e1 => ?_)
 ·obtain ⟨y, a, hy, ha, g0, g1, g2, ⟨q, m, c, g3, _, g5⟩, g4⟩ := hx.2.at (i := j) (by omega)
  rw [drop_of hy, List.any_cons] at hc
  have hm := g5.1
  refine gZ ?_
  refine t_if (fun e2 => ?_) (fun e2 => ?_)
  ·refine gZ ?_
   rw [decide_eq_true (by omega), Bool.true_or] at hc
   exact t_ret ⟨by rw [hc], rfl⟩
  ·rw [decide_eq_false (by omega), Bool.false_or] at hc
   refine t_again (hY (f.n - (j + 1)) _ _ (by omega) ⟨rfl, j + 1, ?_, by omega, rfl, hc⟩)
   rw [wrap_id (by omega) (by omega)]; rfl
 ·refine gZ ?_
  rw [List.drop_eq_nil_of_le (by omega)] at hc
  exact t_ret ⟨by rw [hc]; rfl, rfl⟩
def fitB (x : TF) : Bool := !bigB x && (checkT x == 0)
theorem c2031 {h : LH} {f : TC} {x : TF} (hx : TreatyR h.get f x) : Pu Tryz.prog 32 #[treatyV f x] h (.bool (fitB x)) := by
 refine w2031 _ _ _ _ _ _ _ _ _ X0_ok ?_
 unfold n2031
 refine t_pu (c2016 hx) ?_
 refine gZ ?_
 refine t_cond (fun e => ?_) (fun e => ?_)
 ·refine t_pu (c2022 hx) ?_
  refine gZ ?_
  exact t_ret ⟨by rw [fitB, e]; rfl, rfl⟩
 ·exact t_ret ⟨by rw [fitB, e]; rfl, rfl⟩
theorem fit_ok {x : TF} (h : fitB x = true) : checkT x = 0 := by
 unfold fitB at h
 simp at h; exact h.2
theorem c2032 {h : LH} {n : Int} (hn : 0 ≤ n ∧ n ≤ 65535) : Pu Tryz.prog 40 #[.int .u16 n] h (.int .i64 (n % 10000)) := by
 refine w2032 _ X0_ok ?_
 unfold n2032
 refine gT (by omega) ?_
 rw [wrap_id (by omega) (by omega), Int.tmod_eq_emod_of_nonneg hn.1]
 exact t_ret ⟨rfl, rfl⟩
theorem c2049 {h : LH} (a b : Int) : Pu Tryz.prog 95 #[.int .i64 a, .int .i64 b] h (.agg #[.int .i64 a, .int .i64 b]) := by
 refine w2049 _ _ X0_ok ?_
 unfold n2049
 exact t_ret ⟨rfl, rfl⟩
section
variable {X : XP} {Q : Leaf → LH → Prop} {h : LH} {n : Nat} {parts : Array (Nat × Value)} {k : Value → T}
theorem t_ints (l : List Int) (hn : n * 1 ≤ 2 ^ 24) (hl : l.length = n) (hpos : n * 1 ≠ 0)
  (hf : Instr.fill (fun i => some (i * 1, 1)) ((Array.range (n * 1)).map ((Value.int .i64 0).cells[· % (Value.int .i64 0).cells.size]!)) parts.toList = some (l.map (Value.int .i64)).toArray)
  (hk : ∀ r h', h.le h' → Sl IntE 1 h'.get (some ⟨r, 0, none⟩) n l → (k (.slice (some ⟨r, 0, none⟩) n n)).wp X Tryz.prog Q h') : (T.sem false (Instr.buildSlice 30 n parts) k).wp X Tryz.prog Q h := by
 refine t_buildR (l.map (Value.int .i64)) und50 inf3 hn hpos hf fun r h' le _ hc => hk r h' le ?_
 refine ⟨hl.symm, by omega, fun i x hx => ⟨_, rfl, ?_⟩⟩
 unfold IntE
 rw [Nat.mul_one]
 exact hc i _ (by rw [List.getElem?_map, hx]; rfl)
theorem t_bools (l : List Bool) (hn : n * 1 ≤ 2 ^ 24) (hl : l.length = n) (hpos : n * 1 ≠ 0)
  (hf : Instr.fill (fun i => some (i * 1, 1)) ((Array.range (n * 1)).map ((Value.bool false).cells[· % (Value.bool false).cells.size]!)) parts.toList = some (l.map Value.bool).toArray)
  (hk : ∀ r h', h.le h' → Sl BoolE 1 h'.get (some ⟨r, 0, none⟩) n l → (k (.slice (some ⟨r, 0, none⟩) n n)).wp X Tryz.prog Q h') : (T.sem false (Instr.buildSlice 95 n parts) k).wp X Tryz.prog Q h := by
 refine t_buildR (l.map Value.bool) undBs inf4 hn hpos hf fun r h' le _ hc => hk r h' le ?_
 refine ⟨hl.symm, by omega, fun i x hx => ⟨_, rfl, ?_⟩⟩
 unfold BoolE
 rw [Nat.mul_one, add_zero']
 exact hc i _ (by rw [List.getElem?_map, hx]; rfl)
end
theorem sp_two {h : Cells} {r : Nat} {a b : Sp} (hc : ∀ (j : Nat) w, [Value.int .i64 a.first, .int .i64 a.last, .int .i64 b.first, .int .i64 b.last][j]? = some w → h.cell? (Addr.add ⟨r, 0, none⟩ j) = some w) : Sl SpE 2 h (some ⟨r, 0, none⟩) 2 [a, b] := by
 refine ⟨rfl, by simp, fun i x hx => ⟨_, rfl, ?_⟩⟩
 match i, hx with
 | 0, hx => cases hx; exact ⟨hc 0 _ rfl, hc 1 _ rfl⟩
 | 1, hx => cases hx; exact ⟨by rw [add_plain, add_plain]; exact hc 2 _ rfl, by rw [add_plain, add_plain]; exact hc 3 _ rfl⟩
 | i + 2, hx => simp at hx
def exT : TF := ⟨3, 2, 10, 20, 6, 5, [⟨0, 12, 0, [0, 1, 2], 0⟩, ⟨1, 15, 0, [1], 0⟩, ⟨2, 25, 0, [1], 0⟩, ⟨3, 22, 0, [2], 0⟩, ⟨4, 40, 0, [0], 30⟩, ⟨5, 44, 0, [0], 0⟩, ⟨0, 20, 1, [0, 1], 0⟩, ⟨1, 27, 1, [1], 0⟩, ⟨4, 50, 0, [1], 31⟩, ⟨6, 18, 0, [0], 3⟩]⟩
set_option maxRecDepth 10000 in
theorem c2048 {h : LH} : Gr Tryz.prog 87 #[] h fun r h' => ∃ f, r = treatyV f exT ∧ TreatyR h'.get f exT := by
 refine w2048 X0_ok ?_
 unfold n2048
 refine t_ints [0, 1, 2] (by decide) rfl (by decide) (by kernel_rfl) fun r0 h0 l0 s0 => ?_
 refine gZ ?_
 refine t_ints [1] (by decide) rfl (by decide) (by kernel_rfl) fun r1 h1 l1 s1 => ?_
 refine gZ ?_
 refine t_ints [1] (by decide) rfl (by decide) (by kernel_rfl) fun r2 h2 l2 s2 => ?_
 refine gZ ?_
 refine t_ints [2] (by decide) rfl (by decide) (by kernel_rfl) fun r3 h3 l3 s3 => ?_
 refine gZ ?_
 refine t_ints [0] (by decide) rfl (by decide) (by kernel_rfl) fun r4 h4 l4 s4 => ?_
 refine gZ ?_
 refine t_ints [0] (by decide) rfl (by decide) (by kernel_rfl) fun r5 h5 l5 s5 => ?_
 refine gZ ?_
 refine t_ints [0, 1] (by decide) rfl (by decide) (by kernel_rfl) fun r6 h6 l6 s6 => ?_
 refine gZ ?_
 refine t_ints [1] (by decide) rfl (by decide) (by kernel_rfl) fun r7 h7 l7 s7 => ?_
 refine gZ ?_
 refine t_ints [1] (by decide) rfl (by decide) (by kernel_rfl) fun r8 h8 l8 s8 => ?_
 refine gZ ?_
 refine t_ints [0] (by decide) rfl (by decide) (by kernel_rfl) fun r9 h9 l9 s9 => ?_
 refine gZ ?_
 have s0 := s0.le IntE.grow (LH.le_trans l1 (LH.le_trans l2 (LH.le_trans l3 (LH.le_trans l4 (LH.le_trans l5 (LH.le_trans l6 (LH.le_trans l7 (LH.le_trans l8 (l9))))))))).1
 have s1 := s1.le IntE.grow (LH.le_trans l2 (LH.le_trans l3 (LH.le_trans l4 (LH.le_trans l5 (LH.le_trans l6 (LH.le_trans l7 (LH.le_trans l8 (l9)))))))).1
 have s2 := s2.le IntE.grow (LH.le_trans l3 (LH.le_trans l4 (LH.le_trans l5 (LH.le_trans l6 (LH.le_trans l7 (LH.le_trans l8 (l9))))))).1
 have s3 := s3.le IntE.grow (LH.le_trans l4 (LH.le_trans l5 (LH.le_trans l6 (LH.le_trans l7 (LH.le_trans l8 (l9)))))).1
 have s4 := s4.le IntE.grow (LH.le_trans l5 (LH.le_trans l6 (LH.le_trans l7 (LH.le_trans l8 (l9))))).1
 have s5 := s5.le IntE.grow (LH.le_trans l6 (LH.le_trans l7 (LH.le_trans l8 (l9)))).1
 have s6 := s6.le IntE.grow (LH.le_trans l7 (LH.le_trans l8 (l9))).1
 have s7 := s7.le IntE.grow (LH.le_trans l8 (l9)).1
 have s8 := s8.le IntE.grow (l9).1
 have l09 : h.le h9 := LH.le_trans l0 (LH.le_trans l1 (LH.le_trans l2 (LH.le_trans l3 (LH.le_trans l4 (LH.le_trans l5 (LH.le_trans l6 (LH.le_trans l7 (LH.le_trans l8 (l9)))))))))
 refine t_build undEvs infEv (by decide) (by decide) (cells := #[.int .i64 0, .int .i64 12, .int .i64 0, .slice (some ⟨r0, 0, none⟩) 3 3, .int .i64 0, .int .i64 1, .int .i64 15, .int .i64 0, .slice (some ⟨r1, 0, none⟩) 1 1, .int .i64 0, .int .i64 2, .int .i64 25, .int .i64 0, .slice (some ⟨r2, 0, none⟩) 1 1, .int .i64 0, .int .i64 3, .int .i64 22, .int .i64 0, .slice (some ⟨r3, 0, none⟩) 1 1, .int .i64 0, .int .i64 4, .int .i64 40, .int .i64 0, .slice (some ⟨r4, 0, none⟩) 1 1, .int .i64 30, .int .i64 5, .int .i64 44, .int .i64 0, .slice (some ⟨r5, 0, none⟩) 1 1, .int .i64 0, .int .i64 0, .int .i64 20, .int .i64 1, .slice (some ⟨r6, 0, none⟩) 2 2, .int .i64 0, .int .i64 1, .int .i64 27, .int .i64 1, .slice (some ⟨r7, 0, none⟩) 1 1, .int .i64 0, .int .i64 4, .int .i64 50, .int .i64 0, .slice (some ⟨r8, 0, none⟩) 1 1, .int .i64 31, .int .i64 6, .int .i64 18, .int .i64 0, .slice (some ⟨r9, 0, none⟩) 1 1, .int .i64 3]) (by kernel_rfl) fun r hr => ?_
 have la := LH.upd_le (x := (true, .cells #[.int .i64 0, .int .i64 12, .int .i64 0, .slice (some ⟨r0, 0, none⟩) 3 3, .int .i64 0, .int .i64 1, .int .i64 15, .int .i64 0, .slice (some ⟨r1, 0, none⟩) 1 1, .int .i64 0, .int .i64 2, .int .i64 25, .int .i64 0, .slice (some ⟨r2, 0, none⟩) 1 1, .int .i64 0, .int .i64 3, .int .i64 22, .int .i64 0, .slice (some ⟨r3, 0, none⟩) 1 1, .int .i64 0, .int .i64 4, .int .i64 40, .int .i64 0, .slice (some ⟨r4, 0, none⟩) 1 1, .int .i64 30, .int .i64 5, .int .i64 44, .int .i64 0, .slice (some ⟨r5, 0, none⟩) 1 1, .int .i64 0, .int .i64 0, .int .i64 20, .int .i64 1, .slice (some ⟨r6, 0, none⟩) 2 2, .int .i64 0, .int .i64 1, .int .i64 27, .int .i64 1, .slice (some ⟨r7, 0, none⟩) 1 1, .int .i64 0, .int .i64 4, .int .i64 50, .int .i64 0, .slice (some ⟨r8, 0, none⟩) 1 1, .int .i64 31, .int .i64 6, .int .i64 18, .int .i64 0, .slice (some ⟨r9, 0, none⟩) 1 1, .int .i64 3] 91 (0, 0))) hr
 have rows : Go.TM.Rows (EventEnc h9.get) [.int .i64 0, .int .i64 12, .int .i64 0, .slice (some ⟨r0, 0, none⟩) 3 3, .int .i64 0, .int .i64 1, .int .i64 15, .int .i64 0, .slice (some ⟨r1, 0, none⟩) 1 1, .int .i64 0, .int .i64 2, .int .i64 25, .int .i64 0, .slice (some ⟨r2, 0, none⟩) 1 1, .int .i64 0, .int .i64 3, .int .i64 22, .int .i64 0, .slice (some ⟨r3, 0, none⟩) 1 1, .int .i64 0, .int .i64 4, .int .i64 40, .int .i64 0, .slice (some ⟨r4, 0, none⟩) 1 1, .int .i64 30, .int .i64 5, .int .i64 44, .int .i64 0, .slice (some ⟨r5, 0, none⟩) 1 1, .int .i64 0, .int .i64 0, .int .i64 20, .int .i64 1, .slice (some ⟨r6, 0, none⟩) 2 2, .int .i64 0, .int .i64 1, .int .i64 27, .int .i64 1, .slice (some ⟨r7, 0, none⟩) 1 1, .int .i64 0, .int .i64 4, .int .i64 50, .int .i64 0, .slice (some ⟨r8, 0, none⟩) 1 1, .int .i64 31, .int .i64 6, .int .i64 18, .int .i64 0, .slice (some ⟨r9, 0, none⟩) 1 1, .int .i64 3] exT.events := Go.TM.Rows.snoc (x := (⟨6, 18, 0, [0], 3⟩ : Ev)) (ws := [.int .i64 6, .int .i64 18, .int .i64 0, .slice (some ⟨r9, 0, none⟩) 1 1, .int .i64 3]) (Go.TM.Rows.snoc (x := (⟨4, 50, 0, [1], 31⟩ : Ev)) (ws := [.int .i64 4, .int .i64 50, .int .i64 0, .slice (some ⟨r8, 0, none⟩) 1 1, .int .i64 31]) (Go.TM.Rows.snoc (x := (⟨1, 27, 1, [1], 0⟩ : Ev)) (ws := [.int .i64 1, .int .i64 27, .int .i64 1, .slice (some ⟨r7, 0, none⟩) 1 1, .int .i64 0]) (Go.TM.Rows.snoc (x := (⟨0, 20, 1, [0, 1], 0⟩ : Ev)) (ws := [.int .i64 0, .int .i64 20, .int .i64 1, .slice (some ⟨r6, 0, none⟩) 2 2, .int .i64 0]) (Go.TM.Rows.snoc (x := (⟨5, 44, 0, [0], 0⟩ : Ev)) (ws := [.int .i64 5, .int .i64 44, .int .i64 0, .slice (some ⟨r5, 0, none⟩) 1 1, .int .i64 0]) (Go.TM.Rows.snoc (x := (⟨4, 40, 0, [0], 30⟩ : Ev)) (ws := [.int .i64 4, .int .i64 40, .int .i64 0, .slice (some ⟨r4, 0, none⟩) 1 1, .int .i64 30]) (Go.TM.Rows.snoc (x := (⟨3, 22, 0, [2], 0⟩ : Ev)) (ws := [.int .i64 3, .int .i64 22, .int .i64 0, .slice (some ⟨r3, 0, none⟩) 1 1, .int .i64 0]) (Go.TM.Rows.snoc (x := (⟨2, 25, 0, [1], 0⟩ : Ev)) (ws := [.int .i64 2, .int .i64 25, .int .i64 0, .slice (some ⟨r2, 0, none⟩) 1 1, .int .i64 0]) (Go.TM.Rows.snoc (x := (⟨1, 15, 0, [1], 0⟩ : Ev)) (ws := [.int .i64 1, .int .i64 15, .int .i64 0, .slice (some ⟨r1, 0, none⟩) 1 1, .int .i64 0]) (Go.TM.Rows.snoc (x := (⟨0, 12, 0, [0, 1, 2], 0⟩ : Ev)) (ws := [.int .i64 0, .int .i64 12, .int .i64 0, .slice (some ⟨r0, 0, none⟩) 3 3, .int .i64 0]) (.nil) ⟨_, _, _, rfl, Nat.le_refl _, s0⟩) ⟨_, _, _, rfl, Nat.le_refl _, s1⟩) ⟨_, _, _, rfl, Nat.le_refl _, s2⟩) ⟨_, _, _, rfl, Nat.le_refl _, s3⟩) ⟨_, _, _, rfl, Nat.le_refl _, s4⟩) ⟨_, _, _, rfl, Nat.le_refl _, s5⟩) ⟨_, _, _, rfl, Nat.le_refl _, s6⟩) ⟨_, _, _, rfl, Nat.le_refl _, s7⟩) ⟨_, _, _, rfl, Nat.le_refl _, s8⟩) ⟨_, _, _, rfl, Nat.le_refl _, s9⟩
 refine gZ ?_
 refine t_ret ⟨LH.le_trans l09 la, ⟨some ⟨r, 0, none⟩, 10, 10⟩, rfl, Nat.le_refl _, ?_⟩
 refine rows.sl EventEnc.len (by omega) (EventEnc.e (Rd.of_le la.1)) (el := 91) ⟨rfl, .inr ⟨r, _, rfl, Cells.upd_self _ _ _, rfl, Nat.le_refl _, fun j v hv => by simpa using hv⟩⟩ (by decide)
end Go.Proofs.YtldamlcehbdkdaaGreatDoor.Tre
end

/- Contracts and laws for the proof, joined by a program. No condition. -/
import Derived.Test.YtldamlcehbdkdaaGreatDoorM4
set_option linter.all false
section
namespace Go.Proofs.YtldamlcehbdkdaaGreatDoor.Tre
open Go Go.TM Go.Proofs Go.TM.Tr
attribute [local irreducible] T.wp CV FWK
def KindsOk (x : TF) : Prop := ∀ e ∈ x.events, 0 ≤ e.kind ∧ e.kind ≤ 6
theorem KindsOk.of {x : TF} (h : checkT x = 0) : KindsOk x := fun e he => (event_ok.1 (check_event h e he)).kind
theorem KindsOk.nat {x : TF} (h : KindsOk x) {e : Ev} (he : e ∈ x.events) : ∃ n : Nat, e.kind = n ∧ n < 7 := by
 have := h e he
 exact ⟨e.kind.toNat, by omega, by omega⟩
theorem gives_int {n : Nat} (hn : n < 7) {e : Ev} (he : e.kind = n) : givesK n = givesB e := by
 unfold givesB
 rw [he]
 match n, hn with
 | 0, _ | 1, _ | 2, _ | 3, _ | 4, _ | 5, _ | 6, _ => rfl
theorem cv_gives {h : LH} (n : Nat) : CV X0 Tryz.prog (.func (.func (if givesK n then 308 else 309)) #[] #[]) #[] h fun r h' => r = .bool (givesK n) ∧ h = h' := by
 cases hg : givesK n with
 | true => exact cv_fw X0_ok (by rfl) (FW.mono c2140 fun _ _ h => ⟨h.1, h.2.symm⟩)
 | false => exact cv_fw X0_ok (by rfl) (FW.mono c2141 fun _ _ h => ⟨h.1, h.2.symm⟩)
theorem giving_snoc {e : Ev} : ∀ (l : List Ev) (n : Int), givingGo (l ++ [e]) n = givingGo l n ++ if givesB e then [n + (l.length : Int)] else []
 | [], n => by simp [givingGo]
 | c :: l, n => by
  rw [List.cons_append, givingGo, givingGo, giving_snoc l (n + 1)]
  have : n + 1 + (l.length : Int) = n + ((c :: l).length : Int) := by simp; omega
  rw [this]
  split <;> simp
theorem with_snoc {L : List Int} {e : Ev} : ∀ (l : List Ev) (n : Int), withGo L (l ++ [e]) n = withGo L l n ++ if (!givesB e || L.contains (n + (l.length : Int))) then [e] else []
 | [], n => by simp [withGo]
 | c :: l, n => by
  rw [List.cons_append, withGo, withGo, with_snoc l (n + 1)]
  have : n + 1 + (l.length : Int) = n + ((c :: l).length : Int) := by simp; omega
  rw [this]
  split <;> simp
theorem giving_len : ∀ (l : List Ev) (n : Int), (givingGo l n).length ≤ l.length
 | [], _ => Nat.le_refl _
 | c :: l, n => by
  have := giving_len l (n + 1)
  rw [givingGo]
  split <;> simp <;> omega
theorem with_len (L : List Int) : ∀ (l : List Ev) (n : Int), (withGo L l n).length ≤ l.length
 | [], _ => Nat.le_refl _
 | c :: l, n => by
  have := with_len L l (n + 1)
  rw [withGo]
  split <;> simp <;> omega
theorem Right.with {x : TF} (r : Right x) (L : List Int) : Right (withE x L) :=
 ⟨ok_with r.ok L, r.start, r.depend, r.refuse, r.turn, Nat.le_trans (with_len L x.events 0) r.many⟩
theorem c2067 {h : LH} (hk : Kinds h.get) {f : TC} {x : TF} (hx : TreatyR h.get f x) (hkd : KindsOk x) (hmany : x.events.length ≤ 10) :
  Gr Tryz.prog 146 #[treatyV f x] h fun r h' => ∃ p n c, r = .slice p n c ∧ Sl IntE 1 h'.get p n (giving x) ∧ n ≤ c := by
 refine w2067 _ _ _ _ _ _ _ _ _ X0_ok ?_
 unfold n2067
 have hs := hx.2
 have hn := hs.1
 refine t_loop (fun mm vs h' => h.le h' ∧ ∃ (j : Nat) (p : Option Addr) (n c : Nat), vs = [.slice p n c, .int .i64 j] ∧ j ≤ f.n ∧ mm = f.n - j ∧ Growing IntEnc 3 1 h.get h'.get p n c (givingGo (x.events.take j) 0))
  ⟨LH.le_refl _, 0, none, 0, 0, rfl, Nat.zero_le _, rfl, Growing.nil⟩ ?_
 rintro Y mm vs h₁ hY ⟨le1, j, p, n, c, rfl, hj, rfl, g⟩
 have hnn : n ≤ 10 := by
  rw [g.count IntEnc.len (by omega)]
  have := giving_len (x.events.take j) 0
  rw [List.length_take] at this; omega
 refine gZ ?_
 refine t_if (fun e1 => ?_) (fun e1 => ?_)
 ·obtain ⟨e, a, he, ha, g0, g1, g2, ⟨q, m, cc, g3, _, g5⟩, g4⟩ := (hs.le EventE.grow le1.1).at (i := j) (by omega)
  obtain ⟨kn, hkn, hk7⟩ := hkd.nat (List.mem_of_getElem? he)
  have htake : x.events.take (j + 1) = x.events.take j ++ [e] := by rw [List.take_add_one, he]; rfl
  have hlen : (x.events.take j).length = j := by rw [List.length_take]; omega
  have hg := (hk.le le1.1).givesAt hk7
  rw [hkn] at g0
  refine gZ ?_
  refine t_loadV hg ?_
  refine t_callv (cv_gives kn) ?_
  rintro _ _ ⟨rfl, rfl⟩
  rw [gives_int hk7 hkn]
  refine gZ ?_
  refine t_cond (fun e2 => ?_) (fun e2 => ?_)
  ·refine t_push (j : Int) [.int .i64 (j : Int)] rfl rfl und50 inf3 rfl (by omega) (by decide) (by kernel_rfl) rfl (by simp; rfl) (by omega) g le1 rfl ?_
   intro p' c' h3 le3 _ g3
   refine gZ ?_
   refine t_again (hY (f.n - (j + 1)) _ _ (by omega) ⟨le3, j + 1, p', n + 1, c', ?_, by omega, rfl, ?_⟩)
   ·rw [wrap_id (by omega) (by omega)]; rfl
   ·rw [htake, giving_snoc, if_pos e2, hlen, Int.zero_add]; exact g3
  ·refine t_again (hY (f.n - (j + 1)) _ _ (by omega) ⟨le1, j + 1, p, n, c, ?_, by omega, rfl, ?_⟩)
   ·rw [wrap_id (by omega) (by omega)]; rfl
   ·rw [htake, giving_snoc, if_neg (by rw [e2]; simp), List.append_nil]; exact g
 ·refine gZ ?_
  rw [List.take_of_length_le (by omega)] at g
  refine t_ret ⟨le1, p, n, c, rfl, g.sl IntEnc.len (by omega) IntEnc.e ?_, ?_⟩
  ·show (givingGo x.events 0).length < _
   rw [← g.count IntEnc.len (by omega)]; omega
  ·obtain ⟨vs, o, _⟩ := g.row
   exact o.le_cap
set_option maxRecDepth 10000 in
theorem c2069 {h : LH} (hk : Kinds h.get) {f : TC} {x : TF} (hx : TreatyR h.get f x) (rt : Right x) (hkd : KindsOk x) (k i d : Int) {ep : Option Addr} {en ec : Nat} {L : List Int} (hL : Sl IntE 1 h.get ep en L) :
  Gr Tryz.prog 148 #[treatyV f x, .int .i64 k, .int .i64 i, .int .i64 d, .slice ep en ec] h fun r _ => r = .bool (holdsB x k i d L) := by
 refine w2069 _ _ _ _ _ _ _ _ _ _ _ _ _ _ _ X0_ok ?_
 unfold n2069
 have hs := hx.2
 have hn := hs.1
 have hmany := rt.many
 refine t_loop (fun mm vs h' => h.le h' ∧ ∃ (j : Nat) (p : Option Addr) (n c : Nat), vs = [.int .i64 j, .int .i64 x.items, .int .i64 x.lands, .int .i64 x.start, .int .i64 x.depend, .int .i64 x.refuse, .int .i64 x.turn, .slice p n c] ∧ j ≤ f.n ∧ mm = f.n - j ∧ Growing (EventEnc h.get) 91 5 h.get h'.get p n c (withGo L (x.events.take j) 0))
  ⟨LH.le_refl _, 0, none, 0, 0, rfl, Nat.zero_le _, rfl, Growing.nil⟩ ?_
 rintro Y mm vs h₁ hY ⟨le1, j, p, n, c, rfl, hj, rfl, g⟩
 have hnn : n ≤ 10 := by
  rw [g.count EventEnc.len (by omega)]
  have := with_len L (x.events.take j) 0
  rw [List.length_take] at this; omega
 refine gZ ?_
 refine t_if (fun e1 => ?_) (fun e1 => ?_)
 ·obtain ⟨e, a, he, ha, g0, g1, g2, ⟨q, m, cc, g3, g6, g5⟩, g4⟩ := hs.at (i := j) (by omega)
  have hws : EventEnc h.get e [.int .i64 e.kind, .int .i64 e.day, .int .i64 e.land, .slice q m cc, .int .i64 e.since] := ⟨q, m, cc, rfl, g6, g5⟩
  obtain ⟨kn, hkn, hk7⟩ := hkd.nat (List.mem_of_getElem? he)
  have htake : x.events.take (j + 1) = x.events.take j ++ [e] := by rw [List.take_add_one, he]; rfl
  have hlen : (x.events.take j).length = j := by rw [List.length_take]; omega
  have hg := (hk.le le1.1).givesAt hk7
  rw [hkn] at g0 hws
  have g0 := Cells.cell?_le le1.1 g0
  have g1 := Cells.cell?_le le1.1 g1
  have g2 := Cells.cell?_le le1.1 g2
  have g3 := Cells.cell?_le le1.1 g3
  have g4 := Cells.cell?_le le1.1 g4
  refine gZ ?_
  refine t_loadV hg ?_
  refine t_callv (cv_gives kn) ?_
  rintro _ _ ⟨rfl, rfl⟩
  rw [gives_int hk7 hkn]
  have keep : (!givesB e || L.contains (j : Int)) = true → ∀ {K : Value → T} {Q : Leaf → LH → Prop}, (∀ p' c' h', h.le h' → Growing (EventEnc h.get) 91 5 h.get h'.get p' (n + 1) c' (withGo L (x.events.take (j + 1)) 0) → (K (.slice p' (n + 1) c')).wp X0 Tryz.prog Q h') →
    (T.sem false (Instr.buildSlice 80 1 #[(0, .agg #[.int .i64 (kn : Int), .int .i64 e.day, .int .i64 e.land, .slice q m cc, .int .i64 e.since])]) fun v => T.unS v fun a m mc => T.sem false (Builtin.append_ #[80, 80] 80 #[.slice p n c, .slice a m mc]) K).wp X0 Tryz.prog Q h₁ := by
   intro hkeep K Q hK
   refine t_push e [.int .i64 (kn : Int), .int .i64 e.day, .int .i64 e.land, .slice q m cc, .int .i64 e.since] rfl rfl undEvs infEv rfl (by omega) (by decide) (by kernel_rfl) rfl ?_ (by omega) g le1 hws ?_
   ·intro w hw
    simp only [List.mem_cons, List.not_mem_nil, or_false] at hw
    rcases hw with rfl | rfl | rfl | rfl | rfl <;> rfl
   ·intro p' c' h3 le3 _ g3
    refine hK p' c' h3 le3 ?_
    rw [htake, with_snoc, hlen, Int.zero_add, if_pos hkeep]; exact g3
  have next : ∀ h' p' n' c', h.le h' → Growing (EventEnc h.get) 91 5 h.get h'.get p' n' c' (withGo L (x.events.take (j + 1)) 0) → Y [.int .i64 (IntKind.wrap .i64 ((j : Int) + 1)), .int .i64 x.items, .int .i64 x.lands, .int .i64 x.start, .int .i64 x.depend, .int .i64 x.refuse, .int .i64 x.turn, .slice p' n' c'] h' := by
   intro h' p' n' c' hle' g'
   refine hY (f.n - (j + 1)) _ _ (by omega) ⟨hle', j + 1, p', n', c', ?_, by omega, rfl, g'⟩
   rw [wrap_id (by omega) (by omega)]; rfl
  refine gZ ?_
  refine t_cond (fun e2 => ?_) (fun e2 => ?_)
  ·refine keep (by rw [e2, Bool.true_or]) fun p' c' h' hle' g' => ?_
   refine gZ ?_
   exact t_again (next h' p' _ c' hle' g')
  ·refine t_pu (c100 (hL.le IntE.grow le1.1) (j : Int)) ?_
   refine gZ ?_
   refine t_cond (fun e3 => ?_) (fun e3 => ?_)
   ·refine keep (by rw [e3, Bool.or_true]) fun p' c' h' hle' g' => ?_
    refine gZ ?_
    exact t_again (next h' p' _ c' hle' g')
   ·refine t_again (next h₁ p n c le1 ?_)
    rw [htake, with_snoc, hlen, Int.zero_add, if_neg (by rw [e2, e3]; simp), List.append_nil]; exact g
 ·refine gZ ?_
  rw [List.take_of_length_le (by omega)] at g
  have hx' : TreatyR h₁.get ⟨p, n, c⟩ (withE x L) := by
   refine ⟨?_, g.sl EventEnc.len (by omega) (EventEnc.e (Rd.of_le le1.1)) ?_⟩
   ·obtain ⟨vs, o, _⟩ := g.row
    exact o.le_cap
   ·show (withGo L x.events 0).length < _
    rw [← g.count EventEnc.len (by omega)]; omega
  refine t_gr (c2060 (hk.le le1.1) hx' (rt.with L) k i d) ?_
  rintro _ h2 le2 rfl
  refine gZ ?_
  exact t_ret ⟨LH.le_trans le1 le2, rfl⟩
end Go.Proofs.YtldamlcehbdkdaaGreatDoor.Tre
end
section
namespace Go.TM
open Go Go.Conc
variable {P : Program} {X : XP} {Q : Leaf → LH → Prop}
theorem t_indexStr {h : LH} {K : Value → T} {t : TypeId} {s : ByteArray} {i : Nat} (hu : P.underlying t = some .string) (hs : s.size = 256) (hi : i < 256) (hk : ∀ b : Nat, (K (.int .u8 (b : Int))).wp X P Q h) : (T.sem false (Instr.index t (.string s) (.int .u8 (i : Int))) K).wp X P Q h := by
 refine t_sem (A := fun w h' => h' = h.get ∧ ∃ b : Nat, w = .int .u8 (b : Int)) ?_ (by rintro w h' ⟨rfl, b, rfl⟩; exact hk b)
 unfold Instr.index
 simp only [asIntOf, lwp_bind, lwp_pure, lwp_underlying hu]
 have h1 : s[(i : Int).toNat]? = some (s[i]'(by omega)) := by
  rw [Int.toNat_natCast]; exact getElem?_pos s i (by omega)
 rw [if_pos (by omega), h1]
 exact ⟨rfl, _, rfl⟩
def Reads (cs : Array Value) (l : List Int) : Prop := ∀ (i : Nat) y, l[i]? = some y → cs[i]? = some (.int .i64 y)
theorem swap_perm : ∀ (m : List Int) (j : Nat) (x y : Int), m[j]? = some y → m[j + 1]? = some x → ((m.set (j + 1) y).set j x).Perm m
 | [], j, x, y, h, _ => by simp at h
 | [a], j, x, y, _, h => by simp at h
 | a :: b :: r, 0, x, y, h1, h2 => by
  simp at h1 h2; subst h1; subst h2
  simp only [List.set_cons_succ, List.set_cons_zero]
  exact List.Perm.swap _ _ _
 | a :: b :: r, j + 1, x, y, h1, h2 => by
  simp only [List.set_cons_succ]
  exact (swap_perm (b :: r) j x y (by simpa using h1) (by simpa using h2)).cons a
structure Ins (m : List Int) (i j : Nat) : Prop where
 rest : ∀ a b u v, a < b → b ≤ i → a ≠ j → b ≠ j → m[a]? = some u → m[b]? = some v → u ≤ v
 small : ∀ b u v, j < b → b ≤ i → m[j]? = some u → m[b]? = some v → u ≤ v
theorem Ins.swap {m : List Int} {i j : Nat} {x y : Int} (h : Ins m i (j + 1)) (hj : j + 1 ≤ i) (hy : m[j]? = some y) (hx : m[j + 1]? = some x) (hlt : x < y) : Ins ((m.set (j + 1) y).set j x) i j := by
 have len : j + 1 < m.length := (List.getElem?_eq_some_iff.1 hx).1
 have get : ∀ a, ((m.set (j + 1) y).set j x)[a]? = if a = j then some x else if a = j + 1 then some y else m[a]? := by
  intro a
  rw [List.getElem?_set, List.getElem?_set]
  by_cases e1 : a = j
  ·subst e1; simp; omega
  ·by_cases e2 : a = j + 1
   ·subst e2; simp; omega
   ·rw [if_neg (Ne.symm e1), if_neg (Ne.symm e2), if_neg e1, if_neg e2]
 refine ⟨fun a b u v hab hbi ha hb hu hv => ?_, fun b u v hjb hbi hu hv => ?_⟩
 ·rw [get, if_neg ha] at hu
  rw [get, if_neg hb] at hv
  by_cases e1 : a = j + 1
  ·rw [if_pos e1] at hu; cases hu
   rw [if_neg (by omega)] at hv
   exact h.rest j b y v (by omega) hbi (by omega) (by omega) hy hv
  ·rw [if_neg e1] at hu
   by_cases e2 : b = j + 1
   ·rw [if_pos e2] at hv; cases hv
    exact h.rest a j u y (by omega) (by omega) (by omega) (by omega) hu hy
   ·rw [if_neg e2] at hv
    exact h.rest a b u v hab hbi e1 e2 hu hv
 ·rw [get, if_pos rfl] at hu; cases hu
  rw [get, if_neg (by omega)] at hv
  by_cases e2 : b = j + 1
  ·rw [if_pos e2] at hv; cases hv; omega
  ·rw [if_neg e2] at hv
   exact h.small b x v (by omega) hbi hx hv
theorem Ins.done {m : List Int} {i j : Nat} (h : Ins m i j) (hj : j = 0 ∨ ∃ x y, m[j - 1]? = some y ∧ m[j]? = some x ∧ y ≤ x) : ∀ a b u v, a < b → b ≤ i → m[a]? = some u → m[b]? = some v → u ≤ v := by
 intro a b u v hab hbi hu hv
 by_cases ea : a = j
 ·subst ea; exact h.small b u v hab hbi hu hv
 ·by_cases eb : b = j
  ·subst eb
   rcases hj with h0 | ⟨x, y, h1, h2, h3⟩
   ·omega
   ·rw [hv] at h2; cases h2
    by_cases e : a = b - 1
    ·subst e; rw [hu] at h1; cases h1; exact h3
    ·exact Int.le_trans (h.rest a (b - 1) u y (by omega) (by omega) ea (by omega) hu h1) h3
  ·exact h.rest a b u v hab hbi ea eb hu hv
theorem sorted_of {m : List Int} {n : Nat} (hn : m.length ≤ n) (h : ∀ a b u v, a < b → b < n → m[a]? = some u → m[b]? = some v → u ≤ v) : m.Pairwise (· ≤ ·) := by
 rw [List.pairwise_iff_getElem]
 intro a b ha hb hab
 exact h a b _ _ hab (by omega) (List.getElem?_eq_getElem ha) (List.getElem?_eq_getElem hb)
end Go.TM
namespace Go.Proofs.YtldamlcehbdkdaaGreatDoor.Tre
open Go Go.TM Go.Proofs Go.TM.Tr
attribute [local irreducible] T.wp CV FWK
theorem c2111 {h : LH} (x y : Int) : Pu Tryz.prog 271 #[.int .i64 x, .int .i64 y] h (.bool (decide (x < y))) := by
 refine w2111 _ _ X0_ok ?_
 unfold n2111
 refine t_pu (c109 _) ?_
 refine gZ ?_
 refine t_cond (fun e => by cases e) (fun _ => ?_)
 exact t_ret ⟨rfl, rfl⟩
set_option maxRecDepth 10000 in
theorem c2105 {h : LH} {r c : Nat} {el : TypeId} : ∀ {cs : Array Value} {l : List Int}, Reads cs l → l.length ≤ 12 →
  FW X0 Tryz.prog 265 #[.slice (some ⟨r, 0, none⟩) l.length c, .int .i64 0, .int .i64 (l.length : Int)] { h with get := h.get.upd r (true, .cells cs el (0, 0)) } fun v h' => v = .tuple #[] ∧
   ∃ cs' l', cs'.size = cs.size ∧ Reads cs' l' ∧ l'.Perm l ∧ l'.Pairwise (· ≤ ·) ∧ h' = { h with get := h.get.upd r (true, .cells cs' el (0, 0)) } := by
 intro cs l hr hl
 have hcell : ∀ {cs : Array Value} {m : List Int} {j : Nat} {y : Int}, Reads cs m → m[j]? = some y → Cells.cell? (h.get.upd r (true, .cells cs el (0, 0))) (Addr.add ⟨r, 0, none⟩ ((j : Int).toNat * 1)) = some (.int .i64 y) := by
  intro cs m j y hm hy
  rw [add_plain]
  have e : 0 + (j : Int).toNat * 1 = j := by simp
  rw [e]
  exact cell_upd (hm j y hy)
 refine w2105 _ _ _ _ _ X0_ok ?_
 unfold n2105
 have hw0 : IntKind.wrap .i64 ((0 : Int) + 1) = ((1 : Nat) : Int) := by rw [wrap_id (by omega) (by omega)]; rfl
 rw [hw0]
 refine t_loop (fun mm vs h' => ∃ (i : Nat) (cs' : Array Value) (m : List Int), vs = [.int .i64 i] ∧ mm = l.length + 1 - i ∧ 1 ≤ i ∧ i ≤ l.length + 1 ∧ h' = { h with get := h.get.upd r (true, .cells cs' el (0, 0)) } ∧ cs'.size = cs.size ∧ Reads cs' m ∧ m.Perm l ∧ ∀ a b u v, a < b → b < i → m[a]? = some u → m[b]? = some v → u ≤ v)
  ⟨1, cs, l, rfl, rfl, Nat.le_refl _, by omega, rfl, rfl, hr, List.Perm.refl _, fun a b u v hab hb => by omega⟩ ?_
 rintro Y mm vs _ hY ⟨i, cs1, m1, rfl, rfl, hi1, hi2, rfl, hsz1, hr1, hp1, hso1⟩
 refine gZ ?_
 refine t_if (fun e1 => ?_) (fun e1 => ?_)
 ·have hlen1 := hp1.length_eq
  refine t_loop (fun mm vs h' => ∃ (j : Nat) (cs' : Array Value) (m : List Int), vs = [.int .i64 j] ∧ j = mm ∧ j ≤ i ∧ h' = { h with get := h.get.upd r (true, .cells cs' el (0, 0)) } ∧ cs'.size = cs.size ∧ Reads cs' m ∧ m.Perm l ∧ Ins m i j)
   ⟨i, cs1, m1, rfl, rfl, Nat.le_refl _, rfl, hsz1, hr1, hp1, fun a b u v hab hbi ha hb hu hv => hso1 a b u v hab (by omega) hu hv, fun b u v h1 h2 => by omega⟩ ?_
  rintro Y2 mm vs _ hY2 ⟨j, cs2, m2, rfl, rfl, hj, rfl, hsz2, hr2, hp2, hins⟩
  have hlen2 := hp2.length_eq
  have fin : (∀ a b u v, a < b → b ≤ i → m2[a]? = some u → m2[b]? = some v → u ≤ v) → Y [.int .i64 (IntKind.wrap .i64 ((i : Int) + 1))] { h with get := h.get.upd r (true, .cells cs2 el (0, 0)) } := by
   intro hso
   refine hY (l.length + 1 - (i + 1)) _ _ (by omega) ⟨i + 1, cs2, m2, ?_, rfl, by omega, by omega, rfl, hsz2, hr2, hp2, fun a b u v hab hb => hso a b u v hab (by omega)⟩
   rw [wrap_id (by omega) (by omega)]; rfl
  refine gZ ?_
  refine t_blk (fun vs h' => vs = [] ∧ h' = { h with get := h.get.upd r (true, .cells cs2 el (0, 0)) } ∧ ∃ (j' : Nat) (x y : Int), j = j' + 1 ∧ m2[j']? = some y ∧ m2[j' + 1]? = some x ∧ x < y) ?_ ?_
  ·refine t_if (fun e2 => ?_) (fun e2 => ?_)
   ·obtain ⟨j', rfl⟩ : ∃ j', j = j' + 1 := ⟨j - 1, by omega⟩
    obtain ⟨y, hy⟩ : ∃ y, m2[j']? = some y := ⟨m2[j']'(by omega), List.getElem?_eq_getElem (by omega)⟩
    obtain ⟨x, hx⟩ : ∃ x, m2[j' + 1]? = some x := ⟨m2[j' + 1]'(by omega), List.getElem?_eq_getElem (by omega)⟩
    have hw : IntKind.wrap .i64 (((j' + 1 : Nat) : Int) - 1) = (j' : Int) := by rw [wrap_id (by omega) (by omega)]; omega
    rw [hw]
    have g1 := hcell hr2 hx
    have g2 := hcell hr2 hy
    refine gT (by omega) (gS2 rfl (gL0 g1 (gT (by omega) (gS2 rfl (gL0 g2 ?_)))))
    refine t_pu (c2111 _ _) ?_
    refine gZ ?_
    refine t_cond (fun e3 => ?_) (fun e3 => ?_)
    ·exact t_again ⟨rfl, rfl, j', x, y, rfl, hy, hx, by simpa using e3⟩
    ·refine gR ?_
     refine t_cond (fun _ => ?_) (fun e => by cases e)
     refine gZ ?_
     have e3 : ¬ x < y := by simpa using e3
     exact t_again (fin (hins.done (.inr ⟨x, y, by simpa using hy, hx, by omega⟩)))
   ·refine gZ ?_
    refine t_cond (fun _ => ?_) (fun e => by cases e)
    refine gZ ?_
    exact t_again (fin (hins.done (.inl (by omega))))
  ·rintro vs _ ⟨rfl, rfl, j', x, y, rfl, hy, hx, hlt⟩
   have hw : IntKind.wrap .i64 (((j' + 1 : Nat) : Int) - 1) = (j' : Int) := by rw [wrap_id (by omega) (by omega)]; omega
   have g1 := hcell hr2 hx
   have g2 := hcell hr2 hy
   have hjs : j' + 1 < cs2.size := (Array.getElem?_eq_some_iff.1 (hr2 _ _ hx)).1
   rw [hw]
   refine gZ ?_
   refine t_storeU (o := j' + 1) (by rw [add_plain, add_plain]; simp) rfl hjs ?_
   refine gZ ?_
   refine t_storeU (o := j') (by rw [add_plain, add_plain]; simp) rfl (by simp; omega) ?_
   refine t_again (hY2 j' _ _ (by omega) ⟨j', _, (m2.set (j' + 1) y).set j' x, rfl, rfl, by omega, rfl, by simp [hsz2], ?_, (swap_perm m2 j' x y hy hx).trans hp2, hins.swap (by omega) hy hx hlt⟩)
   intro a z hz
   rw [List.getElem?_set, List.getElem?_set] at hz
   by_cases e4 : a = j'
   ·subst e4
    rw [Array.getElem?_setIfInBounds_self_of_lt (by simp; omega)]
    simp at hz
    rw [hz.2]
   ·rw [Array.getElem?_setIfInBounds_ne (Ne.symm e4)]
    rw [if_neg (Ne.symm e4)] at hz
    by_cases e5 : a = j' + 1
    ·subst e5
     rw [Array.getElem?_setIfInBounds_self_of_lt (by omega)]
     simp at hz
     rw [hz.2]
    ·rw [Array.getElem?_setIfInBounds_ne (Ne.symm e5)]
     rw [if_neg (Ne.symm e5)] at hz
     exact hr2 a z hz
 ·refine gZ ?_
  refine t_ret ⟨rfl, cs1, m1, hsz1, hr1, hp1, sorted_of (n := i) (by rw [hp1.length_eq]; omega) hso1, rfl⟩
theorem c2101 {h : LH} {r c : Nat} {el : TypeId} {cs : Array Value} {l : List Int} (hr : Reads cs l) (hl : l.length ≤ 12) (lim : Int) :
  FW X0 Tryz.prog 252 #[.slice (some ⟨r, 0, none⟩) l.length c, .int .i64 0, .int .i64 (l.length : Int), .int .i64 lim] { h with get := h.get.upd r (true, .cells cs el (0, 0)) } fun v h' => v = .tuple #[] ∧
   ∃ cs' l', cs'.size = cs.size ∧ Reads cs' l' ∧ l'.Perm l ∧ l'.Pairwise (· ≤ ·) ∧ h' = { h with get := h.get.upd r (true, .cells cs' el (0, 0)) } := by
 refine w2101 _ _ _ _ _ _ X0_ok ?_
 unfold n2101
 refine t_loop (fun mm vs h' => mm = 0 ∧ vs = [.int .i64 0, .int .i64 (l.length : Int), .int .i64 lim, .bool true, .bool true] ∧ h' = { h with get := h.get.upd r (true, .cells cs el (0, 0)) }) ⟨rfl, rfl, rfl⟩ ?_
 rintro Y mm vs _ hY ⟨rfl, rfl, rfl⟩
 refine gZ ?_
 have hw : IntKind.wrap .i64 ((l.length : Int) - 0) = (l.length : Int) := by rw [wrap_id (by omega) (by omega)]; omega
 rw [hw]
 refine t_if (fun e => ?_) (fun e => absurd (by omega) e)
 refine t_call (c2105 hr hl) ?_
 rintro _ h2 ⟨rfl, hq⟩
 refine gZ ?_
 exact t_ret ⟨rfl, hq⟩
set_option maxRecDepth 100000 in
theorem c2115 {h : LH} {x : Nat} (hx : x < 256) : FW X0 Tryz.prog 275 #[.int .u64 (x : Int)] h fun v h' => h' = h ∧ ∃ z, v = .int .i64 z := by
 refine w2115 _ X0_ok ?_
 unfold n2115
 refine t_blk (fun vs h' => vs = [.int .u64 (x : Int), .int .i64 0] ∧ h = h') ?_ ?_
 ·refine t_if (fun e => by omega) (fun e => ?_)
  exact t_again ⟨rfl, rfl⟩
 rintro vs _ ⟨rfl, rfl⟩
 refine gZ ?_
 refine t_blk (fun vs h' => vs = [.int .u64 (x : Int), .int .i64 0] ∧ h = h') ?_ ?_
 ·refine t_if (fun e => by omega) (fun e => ?_)
  exact t_again ⟨rfl, rfl⟩
 rintro vs _ ⟨rfl, rfl⟩
 refine gZ ?_
 refine t_if (fun e => by omega) (fun e => ?_)
 have hw : IntKind.wrap .u8 (x : Int) = (x : Int) := by
  have e1 : (2 ^ IntKind.u8.bits : Int) = 256 := rfl
  simp only [IntKind.wrap, e1, show IntKind.u8.signed = false from rfl, Bool.false_and, Bool.false_eq_true, if_false]
  omega
 rw [hw]
 refine t_indexStr (by kernel_rfl) (by kernel_rfl) hx fun b => ?_
 refine gZ ?_
 exact t_ret ⟨rfl, _, rfl⟩
theorem c2102 {h : LH} {x : Nat} (hx : x < 256) : FW X0 Tryz.prog 253 #[.int .u64 (x : Int)] h fun v h' => h' = h ∧ ∃ z, v = .int .i64 z := by
 refine w2102 _ X0_ok ?_
 unfold n2102
 refine t_call (c2115 hx) ?_
 rintro _ _ ⟨rfl, z, rfl⟩
 refine gZ ?_
 exact t_ret ⟨rfl, _, rfl⟩
theorem c2092 {h : LH} {r c : Nat} {el : TypeId} {cs : Array Value} {l : List Int} (hr : Reads cs l) (hl : l.length ≤ 12) :
  FW X0 Tryz.prog 212 #[.slice (some ⟨r, 0, none⟩) l.length c] { h with get := h.get.upd r (true, .cells cs el (0, 0)) } fun v h' => v = .tuple #[] ∧
   ∃ cs' l', cs'.size = cs.size ∧ Reads cs' l' ∧ l'.Perm l ∧ l'.Pairwise (· ≤ ·) ∧ h' = { h with get := h.get.upd r (true, .cells cs' el (0, 0)) } := by
 refine w2092 _ _ _ X0_ok ?_
 unfold n2092
 have hw : IntKind.wrap .u64 (l.length : Int) = (l.length : Int) := by
  have e1 : (2 ^ IntKind.u64.bits : Int) = 18446744073709551616 := rfl
  simp only [IntKind.wrap, e1, show IntKind.u64.signed = false from rfl, Bool.false_and, Bool.false_eq_true, if_false]
  omega
 rw [hw]
 refine t_call (c2102 (by omega)) ?_
 rintro _ _ ⟨rfl, z, rfl⟩
 refine gZ ?_
 refine t_call (c2101 hr hl z) ?_
 rintro _ h2 ⟨rfl, hq⟩
 refine gZ ?_
 exact t_ret ⟨rfl, hq⟩
end Go.Proofs.YtldamlcehbdkdaaGreatDoor.Tre
end
section
namespace Go.TM
open Go Go.Conc
variable {P : Program} {X : XP} {Q : Leaf → LH → Prop}
inductive Chain {S : Type} (nx : S → List Value → S → Prop) (s₀ : S) : List Int → S → Prop
 | nil : Chain nx s₀ [] s₀
 | snoc {l : List Int} {s s' : S} {v : Int} : Chain nx s₀ l s → nx s [.int .i64 v] s' → Chain nx s₀ (l ++ [v]) s'
theorem chain_keys {es : Array MapEntry} {c : Nat} {l : List Int} (k : Keys es c l) {acc : List Int} {seen : Array Nat} (h : Chain (NextKey es) #[] acc seen) :
  ∃ E : List MapEntry, (∀ e ∈ E, e ∈ es.toList) ∧ acc.map (Value.int .i64) = E.map (·.key) ∧ seen.toList = E.map (·.born) ∧ (E.map (·.born)).Nodup := by
 induction h with
 | nil => exact ⟨[], by simp, rfl, rfl, List.nodup_nil⟩
 | snoc h hn ih =>
  obtain ⟨E, h1, h2, h3, h4⟩ := ih
  obtain ⟨e, he, hb, hx, rfl⟩ := hn
  refine ⟨E ++ [e], fun a ha => ?_, ?_, ?_, ?_⟩
  ·rcases List.mem_append.1 ha with ha | ha
   ·exact h1 a ha
   ·simp at ha; subst ha; exact he
  ·simp only [List.cons.injEq, and_true] at hx
   rw [List.map_append, List.map_append, h2]
   simp [hx]
  ·simp [h3]
  ·rw [List.map_append]
   refine List.nodup_append.2 ⟨h4, by simp, fun a ha b hb' e' => ?_⟩
   simp at hb'; subst hb'; subst e'
   rw [h3] at hb
   exact hb ha
theorem nodup_key {es : Array MapEntry} {c : Nat} {l : List Int} (k : Keys es c l) : ∀ e ∈ es.toList, ∀ e' ∈ es.toList, e.key = e'.key → e.born = e'.born := by
 have hk : (es.toList.map (·.key)).Nodup := by
  rw [k.keys]
  rw [List.nodup_iff_pairwise_ne, List.pairwise_map]
  exact (List.nodup_iff_pairwise_ne.1 k.nodup).imp fun hne he => hne (by cases he; rfl)
 intro e he e' he' heq
 obtain ⟨i, hi, hie⟩ := List.getElem_of_mem he
 obtain ⟨j, hj, hje⟩ := List.getElem_of_mem he'
 have := (List.getElem_inj (xs := es.toList.map (·.key)) (i := i) (j := j) (h₀ := by simpa using hi) (h₁ := by simpa using hj) hk).1 (by simp [hie, hje, heq])
 subst this
 rw [hie] at hje; rw [hje]
theorem chain_done {es : Array MapEntry} {c : Nat} {l : List Int} (k : Keys es c l) {acc : List Int} {seen : Array Nat} (h : Chain (NextKey es) #[] acc seen) (hf : AllSeen es seen) : acc.Nodup ∧ ∀ v, v ∈ acc ↔ v ∈ l := by
 obtain ⟨E, h1, h2, h3, h4⟩ := chain_keys k h
 refine ⟨?_, fun v => ?_⟩
 ·have h5 : (acc.map (Value.int .i64)).Nodup := by
   rw [h2, List.nodup_iff_pairwise_ne, List.pairwise_map]
   rw [List.nodup_iff_pairwise_ne, List.pairwise_map] at h4
   exact (List.Pairwise.and_mem.1 h4).imp fun ⟨ha, hb, hne⟩ hk => hne (nodup_key k _ (h1 _ ha) _ (h1 _ hb) hk)
  rw [List.nodup_iff_pairwise_ne, List.pairwise_map] at h5
  rw [List.nodup_iff_pairwise_ne]
  exact h5.imp fun hne e => hne (by rw [e])
 ·constructor
  ·intro hv
   have : Value.int .i64 v ∈ acc.map (Value.int .i64) := List.mem_map.2 ⟨v, hv, rfl⟩
   rw [h2] at this
   obtain ⟨e, he, hk⟩ := List.mem_map.1 this
   have h6 : e.key ∈ es.toList.map (·.key) := List.mem_map.2 ⟨e, h1 e he, rfl⟩
   rw [k.keys, hk] at h6
   obtain ⟨w, hw, e'⟩ := List.mem_map.1 h6
   cases e'; exact hw
  ·intro hv
   have : Value.int .i64 v ∈ l.map (Value.int .i64) := List.mem_map.2 ⟨v, hv, rfl⟩
   rw [← k.keys] at this
   obtain ⟨e, he, hk⟩ := List.mem_map.1 this
   have h6 := hf e he
   rw [h3] at h6
   obtain ⟨e', he', hb⟩ := List.mem_map.1 h6
   have hee : e' = e := by
    obtain ⟨i, hi, hie⟩ := List.getElem_of_mem (h1 e' he')
    obtain ⟨j, hj, hje⟩ := List.getElem_of_mem he
    have := (List.getElem_inj (xs := es.toList.map (·.born)) (i := i) (j := j) (h₀ := by simpa using hi) (h₁ := by simpa using hj) k.born).1 (by simp [hie, hje, hb])
    subst this
    rw [← hie, ← hje]
   subst hee
   have : e'.key ∈ E.map (·.key) := List.mem_map.2 ⟨e', he', rfl⟩
   rw [← h2, hk] at this
   obtain ⟨w, hw, e2⟩ := List.mem_map.1 this
   cases e2; exact hw
def toCome (es : Array MapEntry) (seen : Array Nat) : Nat := (es.toList.filter fun e => !seen.toList.contains e.born).length
theorem filter_less {α : Type} {p q : α → Bool} : ∀ {l : List α}, (∀ x ∈ l, q x = true → p x = true) → (∃ x ∈ l, p x = true ∧ q x = false) → (l.filter q).length < (l.filter p).length
 | [], _, ⟨x, hx, _⟩ => by simp at hx
 | a :: l, h1, ⟨x, hx, h2, h3⟩ => by
  have hle : ∀ (l : List α), (∀ x ∈ l, q x = true → p x = true) → (l.filter q).length ≤ (l.filter p).length := by
   intro l
   induction l with
   | nil => intro _; simp
   | cons b l ih =>
    intro h
    have := ih fun x hx => h x (by simp [hx])
    rw [List.filter_cons, List.filter_cons]
    cases hb : q b with
    | true => rw [h b (by simp) hb]; simpa using this
    | false => cases p b <;> simp <;> omega
  rw [List.filter_cons, List.filter_cons]
  rcases List.mem_cons.1 hx with rfl | hx
  ·rw [h2, h3]
   have := hle l fun x hx => h1 x (by simp [hx])
   simp; omega
  ·have := filter_less (l := l) (fun y hy => h1 y (by simp [hy])) ⟨x, hx, h2, h3⟩
   cases hb : q a with
   | true => rw [h1 a (by simp) hb]; simpa using this
   | false => cases p a <;> simp <;> omega
theorem toCome_less {es : Array MapEntry} {seen : Array Nat} {xs : List Value} {seen' : Array Nat} (h : NextKey es seen xs seen') : toCome es seen' < toCome es seen := by
 obtain ⟨e, he, hb, _, rfl⟩ := h
 refine filter_less (fun x _ hx => ?_) ⟨e, he, ?_, ?_⟩
 ·simp at hx ⊢; exact hx.1
 ·simpa using hb
 ·simp
end Go.TM
namespace Go.Proofs.YtldamlcehbdkdaaGreatDoor.Tre
open Go Go.TM Go.Proofs Go.TM.Tr
attribute [local irreducible] T.wp CV FWK
theorem c2081 {h : LH} (m : Nat) : Gr Tryz.prog 199 #[.map (some m)] h fun r h' => ∃ z0, r = .func (.func 246) #[] #[.pointer (some z0)] ∧ h'.get.cell? z0 = some (.map (some m)) := by
 refine w2081 _ X0_ok ?_
 unfold n2081
 refine t_new fun r hr => ?_
 exact t_ret ⟨LH.upd_le hr, _, rfl, cell_upd rfl⟩
theorem hands2093 {X : XP} (hX : XOK X) {h₀ : LH} {z0 : Addr} {m c : Nat} {es : Array MapEntry} {b : Bool} {l : List Int} (hz : h₀.get.cell? z0 = some (.map (some m))) (hm : h₀.get m = some (b, .map es c)) (k : Keys es c l) :
  HandsG X Tryz.prog (.func (.func 246) #[] #[.pointer (some z0)]) h₀ (NextKey es) (AllSeen es) #[] := by
 intro y J E hJ hE hcall h hle hJ0
 refine cv_fw hX (by rfl) (?_ : FW X Tryz.prog 246 #[y, .pointer (some z0)] h _)
 refine w2093 _ _ hX ?_
 unfold n2093
 have hz1 := Cells.cell?_le hle.1 hz
 refine gL4 hz1 ?_
 refine t_range undMap (hle.1 _ _ hm) fun r hr => ?_
 refine gZ ?_
 have hst : ({ h with get := h.get.upd r (true, .mapIter (some m) c #[] c) } : LH) = { h with get := h.get.add (oneC r (.mapIter (some m) c #[] c)) } := by
  have : h.get.upd r (true, .mapIter (some m) c #[] c) = h.get.add (oneC r (.mapIter (some m) c #[] c)) := by
   funext a
   unfold Cells.upd Cells.add oneC
   by_cases e : a = r
   ·subst e; simp [hr]
   ·simp [e]; cases h.get a <;> rfl
  rw [this]
 rw [hst]
 refine t_loop (fun mm vs h' => ∃ (seen : Array Nat) (hb : LH), vs = [] ∧ mm = toCome es seen ∧ h' = { hb with get := hb.get.add (oneC r (.mapIter (some m) c seen c)) } ∧ Disj hb.get (oneC r (.mapIter (some m) c seen c)) ∧ h₀.le hb ∧ J seen hb)
  ⟨#[], h, rfl, rfl, rfl, disj_oneC hr, hle, hJ0⟩ ?_
 rintro Y mm vs _ hY ⟨seen, hb, rfl, rfl, rfl, dj, leb, hJs⟩
 have hbr := oneC_none dj
 refine gZ ?_
 refine t_next (m := m) (r := r) (c := c) (es := es) (seen := seen) (b := b) (add_oneC_get hbr) (Cells.add_left (leb.1 _ _ hm)) k.lt (fun hall => ?_) fun e he hnb => ?_
 ·refine gZ ?_
  refine t_cond (fun e => by cases e) (fun _ => ?_)
  refine gZ ?_
  refine t_ret ⟨⟨fun a x ha => Cells.add_left (leb.1 a x ha), leb.2⟩, .inl ⟨seen, hall, ?_⟩⟩
  exact hJ seen hb _ hJs dj
 ·rw [add_oneC_upd hbr]
  have dj2 : Disj hb.get (oneC r (.mapIter (some m) c (seen.push e.born) c)) := disj_oneC hbr
  refine gZ ?_
  refine t_cond (fun _ => ?_) (fun e => by cases e)
  refine gZ ?_
  refine t_entry (m := m) (r := r) (c := c) (es := es) (seen := seen) (e := e) (b := b) (add_oneC_get hbr) (Cells.add_left (leb.1 _ _ hm)) he k.born ?_
  refine gZ ?_
  have hnk : NextKey es seen [e.key] (seen.push e.born) := ⟨e, he, hnb, rfl, rfl⟩
  have hcv := CV.frame hX (hcall seen hb [e.key] (seen.push e.born) leb hnk hJs) dj2
  refine t_callv hcv ?_
  rintro bv _ ⟨h3, d3, rfl, le3, ⟨rfl, hJ3⟩ | ⟨rfl, hE3⟩⟩
  ·refine gZ ?_
   refine t_cond (fun e => by cases e) (fun _ => ?_)
   exact t_again (hY _ _ _ (toCome_less hnk) ⟨_, h3, rfl, rfl, rfl, d3, le3, hJ3⟩)
  ·refine gZ ?_
   refine t_cond (fun _ => ?_) (fun e => by cases e)
   refine gZ ?_
   exact t_ret ⟨⟨fun a x ha => Cells.add_left (le3.1 a x ha), le3.2⟩, .inr (hE h3 _ hE3 d3)⟩
theorem c2100 {h : LH} {S : Type} {nx : S → List Value → S → Prop} {fin : S → Prop} {s₀ : S} {seq : Value} (μ : S → Nat) (hμ : ∀ s xs s', nx s xs s' → μ s' < μ s) (hint : ∀ s xs s', nx s xs s' → ∃ v, xs = [.int .i64 v]) (hm : μ s₀ ≤ 1000) (hH : HandsG X0 Tryz.prog seq h nx fin s₀) :
  Gr Tryz.prog 263 #[.slice none 0 0, seq] h fun r h' => ∃ p n c s acc, fin s ∧ Chain nx s₀ acc s ∧ r = .slice p n c ∧ acc.length ≤ μ s₀ ∧ Growing IntEnc 3 1 h.get h'.get p n c acc := by
 refine w2100 _ _ _ _ X0_ok ?_
 unfold n2100
 refine t_eachG μ hμ (LH.le_refl h) hH (fun s vs h' => ∃ p n c acc, vs = [.slice p n c] ∧ Chain nx s₀ acc s ∧ acc.length + μ s ≤ μ s₀ ∧ Growing IntEnc 3 1 h.get h'.get p n c acc)
  ⟨none, 0, 0, [], rfl, .nil, by simp, Growing.nil⟩ ?_ ?_
 ·rintro s vs h' hf hle ⟨p, n, c, acc, rfl, hch, hlen, g⟩
  refine gZ ?_
  exact t_ret ⟨hle, p, n, c, s, acc, hf, hch, rfl, by omega, g⟩
 ·rintro s xs s' vs h' hn hle ⟨p, n, c, acc, rfl, hch, hlen, g⟩ Y hY
  obtain ⟨v, rfl⟩ := hint s xs s' hn
  have hlt := hμ _ _ _ hn
  have hnn := g.count IntEnc.len (by omega)
  refine gZ ?_
  refine t_push v [.int .i64 v] rfl rfl und50 inf3 rfl (by omega) (by decide) (by kernel_rfl) rfl (by simp; rfl) (by omega) g hle rfl ?_
  intro p' c' h3 le3 _ g3
  refine gZ ?_
  exact t_againE le3 (hY _ _ le3 ⟨p', n + 1, c', acc ++ [v], rfl, hch.snoc hn, by simp; omega, g3⟩)
theorem c2091 {h : LH} {S : Type} {nx : S → List Value → S → Prop} {fin : S → Prop} {s₀ : S} {seq : Value} (μ : S → Nat) (hμ : ∀ s xs s', nx s xs s' → μ s' < μ s) (hint : ∀ s xs s', nx s xs s' → ∃ v, xs = [.int .i64 v]) (hm : μ s₀ ≤ 1000) (hH : HandsG X0 Tryz.prog seq h nx fin s₀) :
  Gr Tryz.prog 245 #[seq] h fun r h' => ∃ p n c s acc, fin s ∧ Chain nx s₀ acc s ∧ r = .slice p n c ∧ acc.length ≤ μ s₀ ∧ Growing IntEnc 3 1 h.get h'.get p n c acc := by
 refine w2091 _ X0_ok ?_
 unfold n2091
 refine t_gr (c2100 μ hμ hint hm hH) ?_
 rintro _ h1 le1 ⟨p, n, c, s, acc, h2, h3, rfl, h4, h5⟩
 refine gZ ?_
 exact t_ret ⟨le1, p, n, c, s, acc, h2, h3, rfl, h4, h5⟩
theorem rows_reads {vs : List Value} {l : List Int} (r : Go.TM.Rows IntEnc vs l) : vs = l.map (Value.int .i64) := by
 induction r with
 | nil => rfl
 | snoc r he ih => rw [he, ih]; simp
theorem grown {h₀ h : Cells} {p : Option Addr} {n c : Nat} {l : List Int} (g : Growing IntEnc 3 1 h₀ h p n c l) (hne : l ≠ []) : ∃ r cs, p = some ⟨r, 0, none⟩ ∧ h = h.upd r (true, .cells cs 3 (0, 0)) ∧ h₀ r = none ∧ n = l.length ∧ n ≤ c ∧ cs.size = c * 1 ∧ Reads cs l ∧
  ∀ cs' l', cs'.size = cs.size → Reads cs' l' → l'.length = l.length → Growing IntEnc 3 1 h₀ (h.upd r (true, .cells cs' 3 (0, 0))) p n c l' := by
 have hn := g.count IntEnc.len (by omega)
 obtain ⟨vs, ⟨h1, h2⟩, h3⟩ := g.row
 have hvs := rows_reads h3
 rcases h2 with ⟨_, h2, _⟩ | ⟨r, cs, rfl, hr, hcs, hnc, hv⟩
 ·exfalso; apply hne; exact List.eq_nil_of_length_eq_zero (by omega)
 ·refine ⟨r, cs, rfl, ?_, g.new _ rfl, hn, hnc, hcs, ?_, ?_⟩
  ·funext a
   unfold Cells.upd
   by_cases e : a = r
   ·subst e; simp [hr]
   ·simp [e]
  ·intro i y hy
   refine hv i _ ?_
   rw [hvs, List.getElem?_map, hy]; rfl
  ·intro cs' l' hsz hrd hlen
   have rows : ∀ l : List Int, Go.TM.Rows IntEnc (l.map (Value.int .i64)) l := by
    intro l
    have : ∀ (k : Nat) (l : List Int), l.length = k → Go.TM.Rows IntEnc (l.map (Value.int .i64)) l := by
     intro k
     induction k with
     | zero => intro l hl; rw [List.eq_nil_of_length_eq_zero hl]; exact .nil
     | succ k ih =>
      intro l hl
      obtain ⟨a, b, rfl⟩ : ∃ a b, l = a ++ [b] := ⟨l.dropLast, l.getLast (by intro e; subst e; simp at hl), (List.dropLast_concat_getLast _).symm⟩
      rw [List.map_append]
      exact Go.TM.Rows.snoc (ih a (by simp at hl; exact hl)) rfl
    exact this _ l rfl
   refine ⟨⟨l'.map (Value.int .i64), ⟨by rw [List.length_map]; omega, .inr ⟨r, cs', rfl, Cells.upd_self _ _ _, by rw [hsz]; exact hcs, hnc, fun j v hj => ?_⟩⟩, rows l'⟩, g.new⟩
   rw [List.getElem?_map] at hj
   cases hy : l'[j]? with
   | none => rw [hy] at hj; cases hj
   | some y => rw [hy] at hj; cases hj; exact hrd j y hy
theorem c2059 {h : LH} {m c : Nat} {es : Array MapEntry} {b : Bool} {l : List Int} (hm : h.get m = some (b, .map es c)) (k : Keys es c l) (hne : l ≠ []) (hl : l.length ≤ 12) :
  Gr Tryz.prog 143 #[.map (some m)] h fun r h' => ∃ p n c acc, r = .slice p n c ∧ Sl IntE 1 h'.get p n acc ∧ n ≤ c ∧ acc.Pairwise (· < ·) ∧ ∀ v, v ∈ acc ↔ v ∈ l := by
 refine w2059 _ X0_ok ?_
 unfold n2059
 refine t_gr (c2081 m) ?_
 rintro _ h1 le1 ⟨z0, rfl, hz⟩
 have hlen : es.toList.length = l.length := by
  have := congrArg List.length k.keys
  simpa using this
 have hu : toCome es #[] ≤ 12 := by
  unfold toCome
  have := List.length_filter_le (fun e : MapEntry => !(#[] : Array Nat).toList.contains e.born) es.toList
  omega
 have sorted : Gr Tryz.prog 198 #[.func (.func 246) #[] #[.pointer (some z0)]] h1 fun r h' => ∃ p n c acc, r = .slice p n c ∧ Sl IntE 1 h'.get p n acc ∧ n ≤ c ∧ acc.Pairwise (· < ·) ∧ ∀ v, v ∈ acc ↔ v ∈ l := by
  refine w2080 _ X0_ok ?_
  unfold n2080
  refine t_gr (c2091 (toCome es) (fun s xs s' h => toCome_less h) ?_ (by omega) (hands2093 X0_ok hz (le1.1 _ _ hm) k)) ?_
  ·rintro s xs s' ⟨e, he, _, rfl, _⟩
   have : e.key ∈ es.toList.map (·.key) := List.mem_map.2 ⟨e, he, rfl⟩
   rw [k.keys] at this
   obtain ⟨v, _, hv⟩ := List.mem_map.1 this
   exact ⟨v, by rw [hv]⟩
  ·rintro _ h2 le2 ⟨p, n, c, s, acc, hf, hch, rfl, hal, g⟩
   obtain ⟨hnd, hmem⟩ := chain_done k hch hf
   have hane : acc ≠ [] := by
    rintro rfl
    apply hne
    exact List.eq_nil_iff_forall_not_mem.2 fun v hv => by simpa using (hmem v).2 hv
   obtain ⟨r, cs, rfl, hup, hr0, rfl, hnc, hcs, hrd, hback⟩ := grown g hane
   refine gZ ?_
   have hst : h2 = { h2 with get := h2.get.upd r (true, .cells cs 3 (0, 0)) } := by
    obtain ⟨g2, a2, b2, d2⟩ := h2
    simp only [LH.mk.injEq, and_self, and_true]
    exact hup
   rw [hst]
   refine t_call (c2092 hrd (by omega)) ?_
   rintro _ _ ⟨rfl, cs', l', hsz, hrd', hperm, hso, rfl⟩
   refine gZ ?_
   have g' := hback cs' l' hsz hrd' hperm.length_eq
   refine t_ret ⟨?_, _, _, c, l', rfl, g'.sl IntEnc.len (by omega) IntEnc.e (by rw [hperm.length_eq]; omega), hnc, ?_, fun v => by rw [hperm.mem_iff, hmem]⟩
   ·refine ⟨fun a x ha => ?_, le2.2⟩
    have hne' : a ≠ r := by rintro rfl; rw [hr0] at ha; cases ha
    show Cells.upd _ _ _ a = _
    rw [Cells.upd_ne _ _ hne']
    exact le2.1 a x ha
   ·have hnd' : l'.Nodup := hperm.nodup_iff.2 hnd
    rw [List.nodup_iff_pairwise_ne] at hnd'
    exact (hso.and hnd').imp fun ⟨h1, h2⟩ => by omega
 refine t_gr sorted ?_
 rintro _ h2 le2 ⟨p, n, c', acc, rfl, h3, h4, h5, h6⟩
 refine gZ ?_
 exact t_ret ⟨LH.le_trans le1 le2, p, n, c', acc, rfl, h3, h4, h5, h6⟩
end Go.Proofs.YtldamlcehbdkdaaGreatDoor.Tre
end
section
namespace Go.Proofs.YtldamlcehbdkdaaGreatDoor
open Go Go.TM Go.Proofs
attribute [local irreducible] T.wp CV FWK
theorem t_sliceHigh {P : Program} {X : XP} {Q : Leaf → LH → Prop} {h : LH} {K : Value → T} {t el : TypeId} {s b : Nat} {z : Option Value} {p : Option Addr} {n c i : Nat} (hu : P.underlying t = some (.slice el)) (hi : (P.info? el).map (fun i => (i.size, i.bytes, i.zero)) = some (s, b, z)) (hin : i ≤ c)
  (hk : (K (.slice p i c)).wp X P Q h) : (T.sem false (Instr.sliceAt t (.slice p n c) none (some (.int .i64 (i : Int))) none) K).wp X P Q h := by
 obtain ⟨inf, g1, g2, _, _⟩ := info_of hi
 refine t_sem (A := fun v h' => v = .slice p i c ∧ h' = h.get) ?_ (by rintro v h' ⟨rfl, rfl⟩; exact hk)
 unfold Instr.sliceAt
 simp only [lwp_bind, lwp_underlying hu]
 unfold Instr.slice
 simp only [lwp_bind, lwp_underlying hu]
 unfold Instr.sliceBounds Instr.sliceBound
 simp only [lwp_bind, lwp_pure, asIntOf]
 rw [if_pos (show 0 ≤ (i : Int) ∧ (i : Int) ≤ (c : Int) by omega)]
 simp only [lwp_pure, lwp_sizeOf g1, Int.toNat_natCast, g2, Nat.zero_mul, Nat.sub_zero]
 have e : (p.map fun x : Addr => x.add 0) = p := by cases p <;> simp [Addr.add]
 rw [e]
 simp
end Go.Proofs.YtldamlcehbdkdaaGreatDoor
end
section
namespace Go.TM
open Go Go.Conc
theorem nodup_len : ∀ {l m : List Int}, l.Nodup → (∀ v ∈ l, v ∈ m) → l.length ≤ m.length
 | [], m, _, _ => Nat.zero_le _
 | a :: l, m, hn, hs => by
  have ha := hs a (by simp)
  have hn' := List.nodup_cons.1 hn
  have := nodup_len (l := l) (m := m.erase a) hn'.2 fun v hv => by
   rw [List.mem_erase_of_ne]
   ·exact hs v (by simp [hv])
   ·rintro rfl; exact hn'.1 hv
  have h2 := List.length_erase_of_mem ha
  have h3 := List.length_pos_of_mem ha
  simp only [List.length_cons]
  omega
def SpE (h : Cells) (a : Addr) (s : Tr.Sp) : Prop := h.cell? (a.add 0) = some (.int .i64 s.first) ∧ h.cell? (a.add 1) = some (.int .i64 s.last)
def SpEnc (s : Tr.Sp) (ws : List Value) : Prop := ws = [.int .i64 s.first, .int .i64 s.last]
theorem SpE.grow : Grow SpE := fun _ _ _ _ hl h => ⟨hl _ _ h.1, hl _ _ h.2⟩
theorem SpEnc.len : ∀ d ws, SpEnc d ws → ws.length = 2 := by rintro d _ rfl; rfl
theorem SpEnc.e {h' : Cells} : ∀ a d ws, SpEnc d ws → (∀ (j : Nat) w, ws[j]? = some w → h'.cell? (a.add j) = some w) → SpE h' a d := by
 rintro a d _ rfl hc; exact ⟨hc 0 _ rfl, hc 1 _ rfl⟩
theorem Rows.last {α : Type} {Enc : α → List Value → Prop} {vs : List Value} {l : List α} {x : α} (r : Rows Enc vs (l ++ [x])) : ∃ us ws, vs = us ++ ws ∧ Rows Enc us l ∧ Enc x ws := by
 generalize he : l ++ [x] = m at r
 cases r with
 | nil => simp at he
 | snoc r hx =>
  rename_i us l' y ws
  have := List.append_inj' he rfl
  obtain ⟨rfl, h2⟩ := this
  simp at h2; subst h2
  exact ⟨us, ws, rfl, r, hx⟩
theorem Growing.lastSp {el : TypeId} {h₀ h : Cells} {p : Option Addr} {n c : Nat} {out : List Tr.Sp} {s : Tr.Sp} (g : Growing SpEnc el 2 h₀ h p n c (out ++ [s])) :
  ∃ r cs, p = some ⟨r, 0, none⟩ ∧ h r = some (true, .cells cs el (0, 0)) ∧ h₀ r = none ∧ n = out.length + 1 ∧ 2 * out.length + 1 < cs.size ∧ cs[2 * out.length + 1]? = some (.int .i64 s.last) ∧
   ∀ v : Int, Growing SpEnc el 2 h₀ (h.upd r (true, .cells (cs.setIfInBounds (2 * out.length + 1) (.int .i64 v)) el (0, 0))) p n c (out ++ [⟨s.first, v⟩]) := by
 have hn := g.count SpEnc.len (by omega)
 obtain ⟨vs, ⟨h1, h2⟩, h3⟩ := g.row
 obtain ⟨us, ws, rfl, h4, rfl⟩ := h3.last
 have hus := h4.len SpEnc.len
 rcases h2 with ⟨_, h2, _⟩ | ⟨r, cs, rfl, hr, hcs, hnc, hv⟩
 ·simp at hn; omega
 ·have hn' : n = out.length + 1 := by simpa using hn
  have hc1 : cs[2 * out.length + 1]? = some (.int .i64 s.last) := by
   refine hv _ _ ?_
   rw [List.getElem?_append_right (by omega)]
   rw [show 2 * out.length + 1 - us.length = 1 by omega]; rfl
  refine ⟨r, cs, rfl, hr, g.new _ rfl, hn', (Array.getElem?_eq_some_iff.1 hc1).1, hc1, fun v => ?_⟩
  refine ⟨⟨us ++ [.int .i64 s.first, .int .i64 v], ⟨by rw [List.length_append, hus, hn']; simp; omega, .inr ⟨r, _, rfl, Cells.upd_self _ _ _, by simp; exact hcs, hnc, fun j w hj => ?_⟩⟩, Rows.snoc (x := (⟨s.first, v⟩ : Tr.Sp)) (ws := [.int .i64 s.first, .int .i64 v]) h4 rfl⟩, g.new⟩
  by_cases e : j = 2 * out.length + 1
  ·subst e
   rw [Array.getElem?_setIfInBounds_self_of_lt (Array.getElem?_eq_some_iff.1 hc1).1]
   rw [List.getElem?_append_right (by omega), show 2 * out.length + 1 - us.length = 1 by omega] at hj
   exact hj
  ·rw [Array.getElem?_setIfInBounds_ne (Ne.symm e)]
   refine hv j w ?_
   by_cases e2 : j < us.length
   ·rw [List.getElem?_append_left e2] at hj ⊢; exact hj
   ·rw [List.getElem?_append_right (by omega)] at hj ⊢
    match hq : j - us.length, hj with
    | 0, hj => exact hj
    | 1, hj => omega
    | q + 2, hj => simp at hj
end Go.TM
namespace Go.Proofs.YtldamlcehbdkdaaGreatDoor.Tre
open Go Go.TM Go.Proofs Go.TM.Tr
attribute [local irreducible] T.wp CV FWK
def SpansR (h : Cells) (x : TF) (k i : Int) (r : Value) : Prop :=
 (askedItemT x k i ≠ 0 ∧ r = .tuple #[.slice none 0 0, .int .i64 (askedItemT x k i)]) ∨
 (askedItemT x k i = 0 ∧ ∃ p n c l, r = .tuple #[.slice p n c, .int .i64 0] ∧ IsDays x l ∧ Sl SpE 2 h p n (spansT x k i l) ∧ n ≤ c)
theorem join_none {d e : Int} : join [] d e = [⟨d, e - 1⟩] := rfl
theorem join_last {out : List Sp} {s : Sp} {d e : Int} : join (out ++ [s]) d e = if s.last = d - 1 then out ++ [⟨s.first, e - 1⟩] else (out ++ [s]) ++ [⟨d, e - 1⟩] := by
 unfold join
 simp
set_option maxRecDepth 10000 in
theorem c2023 {h : LH} (hk : Kinds h.get) {f : TC} {x : TF} (hx : TreatyR h.get f x) (k i : Int) : Gr Tryz.prog 90 #[treatyV f x, .int .i64 k, .int .i64 i] h fun r h' => SpansR h'.get x k i r := by
 refine w2023 _ _ _ _ _ _ _ _ _ _ _ X0_ok ?_
 unfold n2023
 refine t_pu (c2058 hk hx k i) ?_
 refine gZ ?_
 refine t_cond (fun e => ?_) (fun e => ?_)
 ·exact t_ret ⟨LH.le_refl _, .inl ⟨by simpa using e, rfl⟩⟩
 have e0 : askedItemT x k i = 0 := by simpa using e
 have hck := (asked_ok (askedItem_ok e0).1).1
 have rt := Right.of hck
 have hmany := rt.many
 have hn := hx.2.1
 refine t_makeMap fun m hm0 => ?_
 have lem : ∀ {h' : LH} {o : Obj}, h.le h' → h.le { h' with get := h'.get.upd m (true, o) } := by
  intro h' o hl
  refine ⟨fun a y ha => ?_, hl.2⟩
  have : a ≠ m := by rintro rfl; rw [hm0] at ha; cases ha
  show Cells.upd _ _ _ a = _
  rw [Cells.upd_ne _ _ this]; exact hl.1 a y ha
 refine gZ ?_
 refine t_putKey (l := []) undMap i64_3 ⟨#[], 0, Cells.upd_self _ _ _, Keys.nil⟩ fun es1 c1 l1 hm1 k1 hl1 => ?_
 refine t_putKey (l := l1) undMap i64_3 ⟨es1, c1, hm1, k1⟩ fun es2 c2 l2 hm2 k2 hl2 => ?_
 have le2 := lem (o := .map es2 c2) (lem (o := .map es1 c1) (lem (o := .map #[] 0) (LH.le_refl h)))
 refine t_loop (fun mm vs h' => h.le h' ∧ ∃ (j : Nat) (es : Array MapEntry) (c : Nat) (l : List Int), vs = [.int .i64 j] ∧ j ≤ f.n ∧ mm = f.n - j ∧ h'.get m = some (true, .map es c) ∧ Keys es c l ∧ ∀ v, v ∈ l ↔ v = 0 ∨ v = 10000 ∨ ∃ e ∈ x.events.take j, e.day = v)
  ⟨le2, 0, es2, c2, l2, rfl, Nat.zero_le _, rfl, hm2, k2, fun v => by rw [hl2, hl1]; simp; omega⟩ ?_
 rintro Y mm vs h3 hY ⟨le3, j, es, c, l, rfl, hj, rfl, hm3, k3, hl3⟩
 refine gZ ?_
 refine t_if (fun e1 => ?_) (fun e1 => ?_)
 ·obtain ⟨e, a, he, ha, g0, g1, g2, ⟨q, mq, cq, g3, g6, g5⟩, g4⟩ := (hx.2.le EventE.grow le3.1).at (i := j) (by omega)
  refine gZ ?_
  refine t_putKey (l := l) undMap i64_3 ⟨es, c, hm3, k3⟩ fun es' c' l' hm' k' hl' => ?_
  refine t_again (hY (f.n - (j + 1)) _ _ (by omega) ⟨lem le3, j + 1, es', c', l', ?_, by omega, rfl, hm', k', fun v => ?_⟩)
  ·rw [wrap_id (by omega) (by omega)]; rfl
  ·rw [hl', hl3, List.take_add_one, he]
   simp only [List.mem_append, Option.toList, List.mem_singleton]
   constructor
   ·rintro (rfl | h1 | h1 | ⟨e', h1, h2⟩)
    ·exact .inr (.inr ⟨e, .inr rfl, rfl⟩)
    ·exact .inl h1
    ·exact .inr (.inl h1)
    ·exact .inr (.inr ⟨e', .inl h1, h2⟩)
   ·rintro (h1 | h1 | ⟨e', h1 | rfl, h2⟩)
    ·exact .inr (.inl h1)
    ·exact .inr (.inr (.inl h1))
    ·exact .inr (.inr (.inr ⟨e', h1, h2⟩))
    ·exact .inl h2.symm
 ·refine gZ ?_
  rw [List.take_of_length_le (by omega)] at hl3
  have hl12 : l.length ≤ 12 := by
   have := nodup_len (m := 0 :: 10000 :: x.events.map (·.day)) k3.nodup fun v hv => by
    rcases (hl3 v).1 hv with rfl | rfl | ⟨e, he, rfl⟩
    ·simp
    ·simp
    ·simp only [List.mem_cons, List.mem_map]; exact .inr (.inr ⟨e, he, rfl⟩)
   simp at this; omega
  have hlne : l ≠ [] := by
   rintro rfl
   have := (hl3 0).2 (.inl rfl)
   simp at this
  refine t_gr (c2059 hm3 k3 hlne hl12) ?_
  rintro _ h4 le4 ⟨p, n, c', days, rfl, hs, hnc, hup, hmem⟩
  have isd : IsDays x days := ⟨hup, fun v => by rw [hmem, hl3]⟩
  have hdn := hs.1
  have hd2 : 2 ≤ days.length := by
   have h0 : (0 : Int) ∈ days := (isd.mem 0).2 (.inl rfl)
   have h1 : (10000 : Int) ∈ days := (isd.mem 10000).2 (.inr (.inl rfl))
   match days, h0, h1 with
   | [], h0, _ => simp at h0
   | [a], h0, h1 => simp at h0 h1; omega
   | a :: b :: l, _, _ => simp
  have hd12 : days.length ≤ 12 := by
   have := nodup_len (m := l) (hup.imp fun h => by omega) fun v hv => (hmem v).1 hv
   omega
  have hbound : ∀ v ∈ days, 0 ≤ v ∧ v ≤ 10000 := by
   intro v hv
   rcases (isd.mem v).1 hv with rfl | rfl | ⟨e, he, rfl⟩
   ·omega
   ·omega
   ·have := rt.ok e he; omega
  have le04 := LH.le_trans le3 le4
  refine gZ ?_
  have hw : IntKind.wrap .i64 ((n : Int) - 1) = ((n - 1 : Nat) : Int) := by rw [wrap_id (by omega) (by omega)]; omega
  rw [hw]
  refine t_sliceHigh und50 inf3 (by omega) ?_
  refine gZ ?_
  refine t_loop (fun mm vs h' => h4.le h' ∧ ∃ (j : Nat) (q : Option Addr) (m cc : Nat) (out : List Sp), vs = [.slice q m cc, .int .i64 j] ∧ j ≤ n - 1 ∧ mm = n - 1 - j ∧ out.length ≤ j ∧ Growing SpEnc 29 2 h4.get h'.get q m cc out ∧ spansT x k i days = spansGo (fun d => decide (0 ≤ dateOn x k i d)) (days.drop j) out)
   ⟨LH.le_refl _, 0, none, 0, 0, [], rfl, Nat.zero_le _, rfl, Nat.le_refl _, Growing.nil, rfl⟩ ?_
  clear hY e1 hj
  rintro Y mm vs h5 hY ⟨le5, j, q, mq, cc, out, rfl, hj, rfl, hol, g, hc⟩
  have le05 := LH.le_trans le04 le5
  have hmq := g.count SpEnc.len (by omega)
  have next : ∀ h' q' m' c' out', h4.le h' → j + 1 ≤ n - 1 → out'.length ≤ j + 1 → Growing SpEnc 29 2 h4.get h'.get q' m' c' out' → spansT x k i days = spansGo (fun d => decide (0 ≤ dateOn x k i d)) (days.drop (j + 1)) out' → Y [.slice q' m' c', .int .i64 (IntKind.wrap .i64 ((j : Int) + 1))] h' := by
   intro h' q' m' c' out' hle' hlt hol' g' hc'
   refine hY (n - 1 - (j + 1)) _ _ (by omega) ⟨hle', j + 1, q', m', c', out', ?_, by omega, rfl, hol', g', hc'⟩
   rw [wrap_id (by omega) (by omega)]; rfl
  refine gZ ?_
  refine t_if (fun e2 => ?_) (fun e2 => ?_)
  ·obtain ⟨d, a, hd, ha, e3⟩ := (hs.le IntE.grow le5.1).at (i := j) (by omega)
   obtain ⟨d2, a2, hd2', ha2, e4⟩ := (hs.le IntE.grow le5.1).at (i := j + 1) (by omega)
   unfold IntE at e3 e4
   rw [ha] at ha2; cases ha2
   have hwj : IntKind.wrap .i64 ((j : Int) + 1) = ((j + 1 : Nat) : Int) := by rw [wrap_id (by omega) (by omega)]; rfl
   rw [drop_of hd, drop_of hd2', spansGo] at hc
   rw [← drop_of hd2'] at hc
   have hdb := hbound d (List.mem_of_getElem? hd)
   have hdb2 := hbound d2 (List.mem_of_getElem? hd2')
   rw [hwj] at next ⊢
   refine gZ ?_
   refine t_gr (c2060 (hk.le le05.1) (hx.le le05.1) rt k i d) ?_
   rintro _ h6 le6 rfl
   have le46 := LH.le_trans le5 le6
   have g6 := g.le le6.1
   refine gZ ?_
   refine t_if (fun e5 => ?_) (fun e5 => ?_)
   ·rw [if_neg (by simp; omega)] at hc
    exact t_again (next h6 q mq cc out le46 (by omega) (by omega) g6 hc)
   ·rw [if_pos (by simp; omega)] at hc
    have hwd : IntKind.wrap .i64 (d2 - 1) = d2 - 1 := wrap_id (by omega) (by omega)
    have hwd1 : IntKind.wrap .i64 (d - 1) = d - 1 := wrap_id (by omega) (by omega)
    rw [hwd, hwd1]
    have push : spansT x k i days = spansGo (fun d => decide (0 ≤ dateOn x k i d)) (days.drop (j + 1)) (out ++ [⟨d, d2 - 1⟩]) → ∀ {K : Value → T} {Q : Leaf → LH → Prop}, (∀ p' c' h', h4.le h' → Growing SpEnc 29 2 h4.get h'.get p' (mq + 1) c' (out ++ [⟨d, d2 - 1⟩]) → (K (.slice p' (mq + 1) c')).wp X0 Tryz.prog Q h') →
      (T.sem false (Instr.buildSlice 22 1 #[(0, .agg #[.int .i64 d, .int .i64 (d2 - 1)])]) fun v => T.unS v fun a m mc => T.sem false (Builtin.append_ #[22, 22] 22 #[.slice q mq cc, .slice a m mc]) K).wp X0 Tryz.prog Q h6 := by
     intro _ K Q hK
     refine t_push (⟨d, d2 - 1⟩ : Sp) [.int .i64 d, .int .i64 (d2 - 1)] rfl rfl und22 inf30 rfl (by omega) (by decide) (by kernel_rfl) rfl (by simp; exact ⟨rfl, rfl⟩) (by omega) g6 le46 rfl ?_
     intro p' c' h7 le7 _ g7
     exact hK p' c' h7 le7 g7
    refine t_if (fun e6 => ?_) (fun e6 => ?_)
    ·obtain ⟨out', s, rfl⟩ : ∃ out' s, out = out' ++ [s] := ⟨out.dropLast, out.getLast (by rintro rfl; simp at hmq; omega), (List.dropLast_concat_getLast _).symm⟩
     obtain ⟨r, cs, rfl, hr6, hr0, hmq', hlt, hcs, hset⟩ := g6.lastSp
     have hwm : IntKind.wrap .i64 ((mq : Int) - 1) = (out'.length : Int) := by rw [wrap_id (by omega) (by omega)]; omega
     have hcell : h6.get.cell? ((Addr.add ⟨r, 0, none⟩ ((out'.length : Int).toNat * 2)).add 1) = some (.int .i64 s.last) := by
      rw [add_plain, add_plain]
      have : 0 + (out'.length : Int).toNat * 2 + 1 = 2 * out'.length + 1 := by simp; omega
      rw [this]
      simp only [Cells.cell?, hr6, Option.isSome_none, Bool.false_eq_true, if_false]
      exact hcs
     rw [join_last] at hc
     rw [hwm]
     refine gT (by omega) (gS2 rfl (gL0 hcell ?_))
     refine t_cond (fun e7 => ?_) (fun e7 => ?_)
     ·rw [if_pos (by simpa using e7)] at hc
      refine gT (by omega) (gS2 rfl ?_)
      have haddr : ((Addr.add ⟨r, 0, none⟩ ((out'.length : Int).toNat * 2)).add 1).add 0 = ⟨r, 2 * out'.length + 1, none⟩ := by
       rw [add_plain, add_plain, add_plain]
       have : 0 + (out'.length : Int).toNat * 2 + 1 + 0 = 2 * out'.length + 1 := by simp; omega
       rw [this]
      rw [haddr]
      have hcell2 : h6.get.cell? ⟨r, 2 * out'.length + 1, none⟩ = some (.int .i64 s.last) := by
       simp only [Cells.cell?, hr6, Option.isSome_none, Bool.false_eq_true, if_false]
       exact hcs
      refine t_store rfl ⟨_, hr6⟩ hcell2 (by simp [Cells.frozen?, hr6]) ?_
      have hupd : h6.get.setCell ⟨r, 2 * out'.length + 1, none⟩ (.int .i64 (d2 - 1)) = h6.get.upd r (true, .cells (cs.setIfInBounds (2 * out'.length + 1) (.int .i64 (d2 - 1))) 29 (0, 0)) := by
       funext b
       unfold Cells.setCell Cells.upd
       by_cases e : b = r
       ·subst e; simp [hr6]
       ·simp [e]
      rw [hupd]
      refine t_again (next _ _ _ _ (out' ++ [⟨s.first, d2 - 1⟩]) ?_ (by omega) (by simp at hol ⊢; omega) (hset (d2 - 1)) hc)
      refine ⟨fun b y hb => ?_, le46.2⟩
      have hne : b ≠ r := by rintro rfl; rw [hr0] at hb; cases hb
      show Cells.upd _ _ _ b = _
      rw [Cells.upd_ne _ _ hne]; exact le46.1 b y hb
     ·rw [if_neg (by simpa using e7)] at hc
      refine push hc fun p' c' h7 le7 g7 => ?_
      refine gZ ?_
      exact t_again (next h7 p' _ c' _ le7 (by omega) (by simp at hol ⊢; omega) g7 hc)
    ·have hout : out = [] := List.eq_nil_of_length_eq_zero (by omega)
     subst hout
     rw [join_none] at hc
     refine push hc fun p' c' h7 le7 g7 => ?_
     refine gZ ?_
     exact t_again (next h7 p' _ c' _ le7 (by omega) (by simp) g7 hc)
  ·refine gZ ?_
   have hjn : j = n - 1 := by omega
   have hfin : spansT x k i days = out := by
    rw [hc]
    have hlen1 : (days.drop j).length = 1 := by rw [List.length_drop]; omega
    match hd : days.drop j, hlen1 with
    | [d], _ => rfl
   refine t_ret ⟨le05, .inr ⟨e0, q, mq, cc, days, rfl, isd, ?_, ?_⟩⟩
   ·rw [hfin]
    exact g.sl SpEnc.len (by omega) SpEnc.e (by omega)
   ·obtain ⟨vs, o, _⟩ := g.row
    exact o.le_cap
end Go.Proofs.YtldamlcehbdkdaaGreatDoor.Tre
end
section
namespace Go.TM
open Go Go.Conc
variable {P : Program}
theorem setCell_at {h : Cells} {r i : Nat} {m : Bool} {cs : Array Value} {el : TypeId} {v : Value} (hr : h r = some (m, .cells cs el (0, 0))) : h.setCell ⟨r, i, none⟩ v = h.upd r (m, .cells (cs.setIfInBounds i v) el (0, 0)) := by
 funext b
 unfold Cells.setCell Cells.upd
 by_cases e : b = r
 ·subst e; simp [hr]
 ·simp [e]
theorem t_newSt2 {X : XP} {Q : Leaf → LH → Prop} {h : LH} {e : TypeId} {v₀ v : Value} {k : Nat → T} (h1 : isOne v = true) (hk : ∀ r h', h.le h' → h.get r = none → h'.get = h.get.upd r (true, .cells #[v] e (0, 0)) → h'.get.cell? ⟨r, 0, none⟩ = some v → (k r).wp X P Q h') :
  (T.new e #[v₀] fun r => T.store (Addr.add ⟨r, 0, none⟩ 0) v (k r)).wp X P Q h := by
 refine t_new fun r hr => ?_
 have ha : Addr.add (⟨r, 0, none⟩ : Addr) 0 = ⟨r, 0, none⟩ := by rw [add_plain]
 rw [ha]
 refine t_storeU (o := 0) rfl h1 (by simp) ?_
 have : (#[v₀] : Array Value).setIfInBounds 0 v = #[v] := rfl
 rw [this]
 exact hk r _ (LH.upd_le hr) hr rfl (cell_upd rfl)
theorem cell_freeze2 (F : Nat → Bool) (h : Cells) (a : Addr) : (freezeC F h).cell? a = h.cell? a := by
 unfold Cells.cell? freezeC
 cases h a.block with
 | none => rfl
 | some x => obtain ⟨m, o⟩ := x; cases o <;> rfl
theorem rd_freeze2 (F : Nat → Bool) (h : Cells) : Rd h (freezeC F h) := fun a v hc => by rw [cell_freeze2]; exact hc
theorem rd_drop2 {h : Cells} {c s : Nat} (hs : h c = some (true, .chan 0 #[] false s s false)) : Rd h (dropC h c) := by
 intro a v hc
 unfold Cells.cell? dropC at *
 by_cases e : a.block = c
 ·rw [e, hs] at hc; cases hc
 ·rw [if_neg e]; exact hc
def Hand2 (q1 q2 : Nat) (h : LH) : Prop := (h.chans = [] ∧ q1 ≠ q2 ∧ (∃ s, h.get q1 = some (true, .chan 0 #[] false s s false)) ∧ ∃ s, h.get q2 = some (true, .chan 0 #[] false s s false)) ∨ h.chans = [q2, q1]
theorem Hand2.le {q1 q2 : Nat} {h h' : LH} (hl : h.le h') (hd : Hand2 q1 q2 h) : Hand2 q1 q2 h' := by
 rcases hd with ⟨a, b, ⟨s, c⟩, t, d⟩ | a
 ·exact .inl ⟨by rw [hl.2.1, a], b, ⟨s, hl.1 _ _ c⟩, t, hl.1 _ _ d⟩
 ·exact .inr (by rw [hl.2.1, a])
theorem spawnW_two {f : FuncId} {cap : Array Value} {h : LH} {Q : LH → Prop} {s : Script} (q1 q2 : Nat) (hst : Hand2 q1 q2 h) (hne : s ≠ []) (hs : ∀ y ∈ s, y.1 = q1 ∨ y.1 = q2) (c : ∀ hc, Rd h.get hc → FWK XW P .deferred f cap ⟨hc, [], [], s⟩ fun _ _ => False)
  (hQ : ∀ h', Rd h.get h'.get → h'.chans = [q2, q1] → h'.todo = h.todo → h'.pend = h.pend ++ [s] → Q h') : SpawnW XT P (.func (.func f) #[] cap) #[] h Q := by
 have key : ∀ h1 : LH, Rd h.get h1.get → h1.chans = [q2, q1] → h1.todo = h.todo → h1.pend = h.pend → SpawnW XT P (.func (.func f) #[] cap) #[] h1 Q := by
  intro h1 r1 c1 t1 p1
  refine spawnW (fun _ => true) (freezeC (fun _ => true) h1.get) s hne (hargs := cap) (by simp) ?_ ?_ (c _ (r1.trans (rd_freeze2 _ _))) ?_
  ·intro r x hx
   refine ⟨?_, hx⟩
   unfold freezeC at hx
   cases hy : h1.get r with
   | none => rw [hy] at hx; cases hx
   | some y => rw [hy] at hx; simp at hx; rw [← hx]
  ·intro y hy
   rw [c1]
   rcases hs y hy with e | e <;> simp [e]
  ·exact hQ _ (r1.trans (rd_freeze2 _ _)) c1 t1 (by show h1.pend ++ _ = _; rw [p1])
 rcases hst with ⟨h1, hq, ⟨s1, h2⟩, s2, h3⟩ | h1
 ·refine SpawnW.opened q1 s1 h2 ?_
  have h3' : dropC h.get q1 q2 = some (true, .chan 0 #[] false s2 s2 false) := by unfold dropC; rw [if_neg (Ne.symm hq)]; exact h3
  refine SpawnW.opened q2 s2 h3' (key _ ((rd_drop2 h2).trans (rd_drop2 h3')) ?_ rfl rfl)
  show q2 :: q1 :: h.chans = _
  rw [h1]
 ·exact key h (Rd.refl _) h1 rfl rfl
def scr (q1 q2 : Nat) (φ : Nat → Value → Cells → Prop) (ψ : Value → Cells → Prop) (x : Nat × Bool) : Script := if x.2 then [(q1, φ x.1), (q2, ψ)] else [(q2, ψ)]
theorem commW_sel {last : Bool} {q1 q2 : Nat} {z1 z2 : Value} {φ : Nat → Value → Cells → Prop} {ψ : Value → Cells → Prop} {rem : List (Nat × Bool)} {h : LH} {Q : Value → LH → Prop} (hp : h.pend = rem.map (scr q1 q2 φ ψ)) (hc : h.chans = [q2, q1]) (hq : q1 ≠ q2) (hne : rem ≠ [])
  (hQ1 : ∀ l1 i l2 v h₂, rem = l1 ++ (i, true) :: l2 → h₂.todo = h.todo → h₂.pend = (l1 ++ (i, false) :: l2).map (scr q1 q2 φ ψ) → h₂.chans = [q2, q1] → (∃ hv, φ i v hv ∧ hv.le h₂.get) → h.get.le h₂.get → Q (commResult #[rcase q1 z1, rcase q2 z2] .select (0 : Nat) v true) h₂)
  (hQ2 : ∀ l1 i l2 v h₂, rem = l1 ++ (i, false) :: l2 → h₂.todo = h.todo → h₂.pend = (l1 ++ l2).map (scr q1 q2 φ ψ) → ((l1 ++ l2 ≠ [] ∧ h₂.chans = [q2, q1]) ∨ (l1 ++ l2 = [] ∧ h₂.chans = [])) → (∃ hv, ψ v hv) → h.get.le h₂.get → Q (commResult #[rcase q1 z1, rcase q2 z2] .select (1 : Nat) v true) h₂) : CommW XT P last #[rcase q1 z1, rcase q2 z2] .select h Q := by
 refine CommW.closed (CommW.closed (commW_recv ?_ (by rw [hp]; simpa using hne) ?_ ?_))
 ·intro k cc hk
  match k, hk with
  | 0, hk => simp at hk; subst hk; exact ⟨q1, z1, rfl, by rw [hc]; simp⟩
  | 1, hk => simp at hk; subst hk; exact ⟨q2, z2, rfl, by rw [hc]; simp⟩
  | k + 2, hk => simp at hk
 ·intro s hs
  rw [hp] at hs
  obtain ⟨⟨i, b⟩, hi, rfl⟩ := List.mem_map.1 hs
  cases b with
  | true => exact ⟨q1, φ i, [(q2, ψ)], 0, z1, rfl, rfl⟩
  | false => exact ⟨q2, ψ, [], 1, z2, rfl, rfl⟩
 ·intro pre χ s post k c v hv z' hpe hcase hd hown hφ
  rw [hp] at hpe
  obtain ⟨l1, l2, rfl, hl1, hl2⟩ := List.map_eq_append_iff.1 hpe
  obtain ⟨⟨i, b⟩, l3, rfl, hi, hl3⟩ := List.map_eq_cons_iff.1 hl2
  have le1 : h.get.le (h.get.add hv) := Cells.le_add _ _
  have le2 : hv.le (h.get.add hv) := fun r x hr => Cells.add_right' hd hr
  cases b with
  | true =>
   simp only [scr, if_true, List.cons.injEq, Prod.mk.injEq] at hi
   obtain ⟨⟨rfl, rfl⟩, rfl⟩ := hi
   have hk0 : k = 0 := by
    match k, hcase with
    | 0, _ => rfl
    | 1, hcase => simp [rcase] at hcase; exact absurd hcase.1.symm hq
    | k + 2, hcase => simp at hcase
   subst hk0
   refine .inl (.inl (hQ1 l1 i l3 v _ rfl rfl ?_ hc ⟨hv, hφ, le2⟩ le1))
   show pre ++ cons' [(q2, ψ)] post = _
   rw [← hl1, ← hl3, List.map_append, List.map_cons]
   rfl
  | false =>
   simp only [scr, Bool.false_eq_true, if_false, List.cons.injEq, Prod.mk.injEq] at hi
   obtain ⟨⟨rfl, rfl⟩, rfl⟩ := hi
   have hk1 : k = 1 := by
    match k, hcase with
    | 0, hcase => simp [rcase] at hcase; exact absurd hcase.1 hq
    | 1, _ => rfl
    | k + 2, hcase => simp at hcase
   subst hk1
   have hpend : pre ++ cons' [] post = (l1 ++ l3).map (scr q1 q2 φ ψ) := by
    show pre ++ post = _
    rw [← hl1, ← hl3, List.map_append]
   by_cases hn : l1 ++ l3 = []
   ·right
    refine ⟨q2, by show q2 ∈ h.chans; rw [hc]; simp, by show pre ++ cons' [] post = []; rw [hpend, hn]; rfl, fun s hs => ?_⟩
    right
    refine ⟨q1, ?_, by show pre ++ cons' [] post = []; rw [hpend, hn]; rfl, fun s' hs' => ?_⟩
    ·show q1 ∈ h.chans.filter _
     rw [hc]; simp [hq]
    ·refine hQ2 l1 i l3 v _ rfl rfl hpend (.inr ⟨hn, ?_⟩) ⟨hv, hφ⟩ ?_
     ·show (h.chans.filter _).filter _ = []
      rw [hc]
      simp [hq]
     ·exact Cells.le_trans le1 (Cells.le_trans (Cells.le_upd _ hs) (Cells.le_upd _ hs'))
   ·exact .inl (.inl (hQ2 l1 i l3 v _ rfl rfl hpend (.inl ⟨hn, hc⟩) ⟨hv, hφ⟩ le1))
/-! ### Two channels and their boxes, made in any order -/
structure Opening (t1 t2 : TypeId) (h₀ h : LH) (c1 c2 : Option Nat) (b1 b2 : Option (Nat × Bool)) : Prop where
 le : h₀.le h
 hc1 : ∀ q, c1 = some q → h.get q = some (true, .chan 0 #[] false 0 0 false)
 hc2 : ∀ q, c2 = some q → h.get q = some (true, .chan 0 #[] false 0 0 false)
 ne : ∀ q q', c1 = some q → c2 = some q' → q ≠ q'
 hb1 : ∀ r s, b1 = some (r, s) → h₀.get r = none ∧ h.get r = some (true, .cells #[.chan (if s then c1 else none)] t1 (0, 0))
 hb2 : ∀ r s, b2 = some (r, s) → h₀.get r = none ∧ h.get r = some (true, .cells #[.chan (if s then c2 else none)] t2 (0, 0))
 bne : ∀ r s r' s', b1 = some (r, s) → b2 = some (r', s') → r ≠ r'
section
variable {X : XP} {Q : Leaf → LH → Prop} {h₀ h : LH} {c1 c2 : Option Nat} {b1 b2 : Option (Nat × Bool)} {t1 t2 : TypeId}
theorem Opening.start : Opening t1 t2 h₀ h₀ none none none none := ⟨LH.le_refl _, fun _ h => (by cases h), fun _ h => (by cases h), fun _ _ h => (by cases h), fun _ _ h => (by cases h), fun _ _ h => (by cases h), fun _ _ _ _ h => (by cases h)⟩
theorem ne_of_get {h : Cells} {a b : Nat} {x : Bool × Obj} (ha : h a = none) (hb : h b = some x) : b ≠ a := by rintro rfl; rw [ha] at hb; cases hb
theorem op_chan1 {k : Value → T} {el : TypeId} {d : ChanDir} {s b : Nat} {z : Option Value} (hu : P.underlying t1 = some (.chan d el)) (hi : (P.info? el).map (fun i => (i.size, i.bytes, i.zero)) = some (s, b, z)) (O : Opening t1 t2 h₀ h none c2 b1 b2)
  (hk : ∀ q h', Opening t1 t2 h₀ h' (some q) c2 (b1.map fun x => (x.1, false)) b2 → (k (.chan (some q))).wp X P Q h') : (T.sem false (Instr.makeChan t1 (.int .i64 0)) k).wp X P Q h := by
 refine t_makeChan hu hi fun q hq => hk q _ ?_
 have hle := LH.upd_le (x := (true, .chan 0 #[] false 0 0 false)) hq
 refine ⟨LH.le_trans O.le hle, fun q' e => by cases e; exact Cells.upd_self _ _ _, fun q' e => hle.1 _ _ (O.hc2 q' e), fun a b ha hb => by cases ha; exact (ne_of_get hq (O.hc2 b hb)).symm, fun r s hr => ?_, fun r s hr => ⟨(O.hb2 r s hr).1, hle.1 _ _ (O.hb2 r s hr).2⟩, fun r s r' s' h1 h2 => ?_⟩
 ·cases hb : b1 with
  | none => rw [hb] at hr; cases hr
  | some x =>
   rw [hb] at hr; cases hr
   have := O.hb1 x.1 x.2 hb
   refine ⟨this.1, ?_⟩
   have h3 := hle.1 _ _ this.2
   rw [h3]; cases x.2 <;> rfl
 ·cases hb : b1 with
  | none => rw [hb] at h1; cases h1
  | some x => rw [hb] at h1; cases h1; exact O.bne x.1 x.2 r' s' hb h2
theorem op_chan2 {k : Value → T} {el : TypeId} {d : ChanDir} {s b : Nat} {z : Option Value} (hu : P.underlying t2 = some (.chan d el)) (hi : (P.info? el).map (fun i => (i.size, i.bytes, i.zero)) = some (s, b, z)) (O : Opening t1 t2 h₀ h c1 none b1 b2)
  (hk : ∀ q h', Opening t1 t2 h₀ h' c1 (some q) b1 (b2.map fun x => (x.1, false)) → (k (.chan (some q))).wp X P Q h') : (T.sem false (Instr.makeChan t2 (.int .i64 0)) k).wp X P Q h := by
 refine t_makeChan hu hi fun q hq => hk q _ ?_
 have hle := LH.upd_le (x := (true, .chan 0 #[] false 0 0 false)) hq
 refine ⟨LH.le_trans O.le hle, fun q' e => hle.1 _ _ (O.hc1 q' e), fun q' e => by cases e; exact Cells.upd_self _ _ _, fun a b ha hb => by cases hb; exact ne_of_get hq (O.hc1 a ha), fun r s hr => ⟨(O.hb1 r s hr).1, hle.1 _ _ (O.hb1 r s hr).2⟩, fun r s hr => ?_, fun r s r' s' h1 h2 => ?_⟩
 ·cases hb : b2 with
  | none => rw [hb] at hr; cases hr
  | some x =>
   rw [hb] at hr; cases hr
   have := O.hb2 x.1 x.2 hb
   refine ⟨this.1, ?_⟩
   have h3 := hle.1 _ _ this.2
   rw [h3]; cases x.2 <;> rfl
 ·cases hb : b2 with
  | none => rw [hb] at h2; cases h2
  | some x => rw [hb] at h2; cases h2; exact O.bne r s x.1 x.2 h1 hb
theorem op_new1 {k : Nat → T} (O : Opening t1 t2 h₀ h c1 c2 none b2) (hk : ∀ r h', Opening t1 t2 h₀ h' c1 c2 (some (r, false)) b2 → (k r).wp X P Q h') : (T.new t1 #[.chan none] k).wp X P Q h := by
 refine t_new fun q hq => hk q _ ?_
 have hle := LH.upd_le (x := (true, .cells #[.chan none] t1 (0, 0))) hq
 have h0 : h₀.get q = none := by
  cases hx : h₀.get q with
  | none => rfl
  | some x => rw [O.le.1 _ _ hx] at hq; cases hq
 exact ⟨LH.le_trans O.le hle, fun q' e => hle.1 _ _ (O.hc1 q' e), fun q' e => hle.1 _ _ (O.hc2 q' e), O.ne, fun r s hr => by cases hr; exact ⟨h0, Cells.upd_self _ _ _⟩, fun r s hr => ⟨(O.hb2 r s hr).1, hle.1 _ _ (O.hb2 r s hr).2⟩, fun r s r' s' h1 h2 => by cases h1; exact (ne_of_get hq (O.hb2 r' s' h2).2).symm⟩
theorem op_new2 {k : Nat → T} (O : Opening t1 t2 h₀ h c1 c2 b1 none) (hk : ∀ r h', Opening t1 t2 h₀ h' c1 c2 b1 (some (r, false)) → (k r).wp X P Q h') : (T.new t2 #[.chan none] k).wp X P Q h := by
 refine t_new fun q hq => hk q _ ?_
 have hle := LH.upd_le (x := (true, .cells #[.chan none] t2 (0, 0))) hq
 have h0 : h₀.get q = none := by
  cases hx : h₀.get q with
  | none => rfl
  | some x => rw [O.le.1 _ _ hx] at hq; cases hq
 exact ⟨LH.le_trans O.le hle, fun q' e => hle.1 _ _ (O.hc1 q' e), fun q' e => hle.1 _ _ (O.hc2 q' e), O.ne, fun r s hr => ⟨(O.hb1 r s hr).1, hle.1 _ _ (O.hb1 r s hr).2⟩, fun r s hr => by cases hr; exact ⟨h0, Cells.upd_self _ _ _⟩, fun r s r' s' h1 h2 => by cases h2; exact ne_of_get hq (O.hb1 r s h1).2⟩
theorem op_store1 {k : T} {q r : Nat} (O : Opening t1 t2 h₀ h (some q) c2 (some (r, false)) b2) (hk : ∀ h', Opening t1 t2 h₀ h' (some q) c2 (some (r, true)) b2 → k.wp X P Q h') : (T.store (Addr.add ⟨r, 0, none⟩ 0) (.chan (some q)) k).wp X P Q h := by
 have hr := (O.hb1 r false rfl).2
 have ha : Addr.add (⟨r, 0, none⟩ : Addr) 0 = ⟨r, 0, none⟩ := by rw [add_plain]
 rw [ha]
 refine t_store rfl ⟨_, hr⟩ (v₀ := .chan none) (by simp [Cells.cell?, hr]) (by simp [Cells.frozen?, hr]) ?_
 rw [setCell_at hr]
 refine hk _ ?_
 have keep : ∀ b x, h.get b = some x → b ≠ r → (h.get.upd r (true, .cells ((#[.chan (if false = true then some q else none)] : Array Value).setIfInBounds 0 (.chan (some q))) t1 (0, 0))) b = some x := fun b x hb hne => by rw [Cells.upd_ne _ _ hne]; exact hb
 have cne : ∀ b, h.get b = some (true, .chan 0 #[] false 0 0 false) → b ≠ r := fun b hb e => by rw [e, hr] at hb; cases hb
 refine ⟨⟨fun b x hb => keep b x (O.le.1 b x hb) (ne_of_get (O.hb1 r false rfl).1 hb), O.le.2⟩, fun q' e => keep _ _ (O.hc1 q' e) (cne _ (O.hc1 q' e)), fun q' e => keep _ _ (O.hc2 q' e) (cne _ (O.hc2 q' e)), O.ne, fun r' s hr' => ?_, fun r' s hr' => ⟨(O.hb2 r' s hr').1, keep _ _ (O.hb2 r' s hr').2 (O.bne r false r' s rfl hr').symm⟩, fun a s r' s' h1 h2 => by cases h1; exact O.bne r false r' s' rfl h2⟩
 cases hr'
 exact ⟨(O.hb1 r false rfl).1, Cells.upd_self _ _ _⟩
theorem op_store2 {k : T} {q r : Nat} (O : Opening t1 t2 h₀ h c1 (some q) b1 (some (r, false))) (hk : ∀ h', Opening t1 t2 h₀ h' c1 (some q) b1 (some (r, true)) → k.wp X P Q h') : (T.store (Addr.add ⟨r, 0, none⟩ 0) (.chan (some q)) k).wp X P Q h := by
 have hr := (O.hb2 r false rfl).2
 have ha : Addr.add (⟨r, 0, none⟩ : Addr) 0 = ⟨r, 0, none⟩ := by rw [add_plain]
 rw [ha]
 refine t_store rfl ⟨_, hr⟩ (v₀ := .chan none) (by simp [Cells.cell?, hr]) (by simp [Cells.frozen?, hr]) ?_
 rw [setCell_at hr]
 refine hk _ ?_
 have keep : ∀ b x, h.get b = some x → b ≠ r → (h.get.upd r (true, .cells ((#[.chan (if false = true then some q else none)] : Array Value).setIfInBounds 0 (.chan (some q))) t2 (0, 0))) b = some x := fun b x hb hne => by rw [Cells.upd_ne _ _ hne]; exact hb
 have cne : ∀ b, h.get b = some (true, .chan 0 #[] false 0 0 false) → b ≠ r := fun b hb e => by rw [e, hr] at hb; cases hb
 refine ⟨⟨fun b x hb => keep b x (O.le.1 b x hb) (ne_of_get (O.hb2 r false rfl).1 hb), O.le.2⟩, fun q' e => keep _ _ (O.hc1 q' e) (cne _ (O.hc1 q' e)), fun q' e => keep _ _ (O.hc2 q' e) (cne _ (O.hc2 q' e)), O.ne, fun r' s hr' => ⟨(O.hb1 r' s hr').1, keep _ _ (O.hb1 r' s hr').2 (O.bne r' s r false hr' rfl)⟩, fun r' s hr' => ?_, fun a s r' s' h1 h2 => by cases h2; exact O.bne a s r false h1 rfl⟩
 cases hr'
 exact ⟨(O.hb2 r false rfl).1, Cells.upd_self _ _ _⟩
end
end Go.TM
end
section
namespace Go.Proofs.YtldamlcehbdkdaaGreatDoor.Tre
open Go Go.TM Go.Proofs Go.TM.Tr
attribute [local irreducible] T.wp CV FWK
theorem bit_test {i j : Nat} (hi : i < 2 ^ 32) : (IntKind.wrap .i64 (((BitVec.ofInt 64 (Int.fdiv (i : Int) (2 ^ min (j : Int).toNat 64)) &&& BitVec.ofInt 64 1).toNat : Nat) : Int) == 1) = i.testBit j := by
 have hq : ∃ q : Nat, Int.fdiv (i : Int) (2 ^ min (j : Int).toNat 64) = (q : Int) ∧ q ≤ i ∧ q % 2 = (i / 2 ^ j) % 2 := by
  by_cases hj : j ≤ 64
  ·have hm : min (j : Int).toNat 64 = j := by simp; omega
   refine ⟨i / 2 ^ j, ?_, Nat.div_le_self _ _, rfl⟩
   rw [hm]
   have : (2 ^ j : Int) = ((2 ^ j : Nat) : Int) := by simp
   rw [this, ← Int.ofNat_fdiv]
  ·have hm : min (j : Int).toNat 64 = 64 := by simp; omega
   refine ⟨0, ?_, Nat.zero_le _, ?_⟩
   ·rw [hm]
    have : (2 ^ 64 : Int) = ((2 ^ 64 : Nat) : Int) := by simp
    rw [this, ← Int.ofNat_fdiv]
    have : i / 2 ^ 64 = 0 := Nat.div_eq_of_lt (by omega)
    rw [this]
   ·have : i / 2 ^ j = 0 := Nat.div_eq_of_lt (Nat.lt_of_lt_of_le hi (Nat.pow_le_pow_right (by omega) (by omega)))
    rw [this]
 obtain ⟨q, h1, h2, h3⟩ := hq
 rw [h1]
 have a1 : (BitVec.ofInt 64 (q : Int)).toNat = q := by rw [BitVec.toNat_ofInt]; omega
 have a2 : (BitVec.ofInt 64 1).toNat = 1 := rfl
 rw [BitVec.toNat_and, a1, a2, Nat.and_one_is_mod, wrap_id (by omega) (by omega), Nat.testBit_eq_decide_div_mod_eq, ← h3]
 by_cases e : q % 2 = 1
 ·rw [e]; rfl
 ·have : q % 2 = 0 := by omega
  rw [this]; rfl
theorem sets_wrap {n : Nat} (hn : n ≤ 10) : IntKind.wrap .i64 (1 * 2 ^ min (Int.toNat (n : Int)) 64) = ((2 ^ n : Nat) : Int) := by
 have e : min (Int.toNat (n : Int)) 64 = n := by simp; omega
 have h2 : (2 : Nat) ^ n ≤ 2 ^ 10 := Nat.pow_le_pow_right (by omega) hn
 have e2 : (1 : Int) * 2 ^ n = ((2 ^ n : Nat) : Int) := by simp
 rw [e, e2]
 generalize 2 ^ n = m at h2
 rw [wrap_id (by omega) (by omega)]
def bitsTo (l : List Int) (i j : Nat) : List Int := (((List.range l.length).take j).filter fun b => i.testBit b).map fun b => l.getD b 0
def bitsL (l : List Int) (i : Nat) : List Int := ((List.range l.length).filter fun b => i.testBit b).map fun b => l.getD b 0
theorem bits_all {l : List Int} {i j : Nat} (hj : l.length ≤ j) : bitsTo l i j = bitsL l i := by
 unfold bitsTo bitsL
 rw [List.take_of_length_le (by simpa using hj)]
theorem bits_take {l : List Int} {i j : Nat} {y : Int} (hy : l[j]? = some y) : bitsTo l i (j + 1) = bitsTo l i j ++ if i.testBit j then [y] else [] := by
 have hj : j < l.length := (List.getElem?_eq_some_iff.1 hy).1
 unfold bitsTo
 rw [List.take_succ_eq_append_getElem (by simpa using hj), List.filter_append, List.map_append]
 congr 1
 simp only [List.getElem_range, List.filter_cons, List.filter_nil]
 split
 ·simp [List.getD, hy]
 ·rfl
theorem range_getD (l : List Int) : (List.range l.length).map (fun b => l.getD b 0) = l := by
 refine List.ext_getElem (by simp) fun i h1 h2 => ?_
 simp [List.getD, List.getElem?_eq_getElem h2]
theorem bits_len {l : List Int} {i j : Nat} : (bitsTo l i j).length ≤ l.length := by
 unfold bitsTo
 rw [List.length_map]
 refine Nat.le_trans (List.length_filter_le _ _) ?_
 rw [List.length_take, List.length_range]; omega
theorem bits_sub {l : List Int} {i : Nat} : (bitsL l i).Sublist l := by
 unfold bitsL
 have h : ((List.range l.length).filter fun b => i.testBit b).Sublist (List.range l.length) := List.filter_sublist
 have := h.map fun b => l.getD b 0
 rwa [range_getD] at this
theorem sub_bits {l m : List Int} (hn : l.Nodup) (h : m.Sublist l) : ∃ i, i < 2 ^ l.length ∧ bitsL l i = m := by
 obtain ⟨i, hi, hb⟩ := bits_of (fun b => decide (l.getD b 0 ∈ m)) l.length
 refine ⟨i, hi, ?_⟩
 unfold bitsL
 rw [List.filter_congr (q := (fun x => decide (x ∈ m)) ∘ fun b => l.getD b 0) fun b hbm => hb b (List.mem_range.1 hbm), ← List.filter_map, range_getD]
 exact filter_sub h hn
structure TAt (h : Cells) (a : Addr) (f : TC) (x : TF) : Prop where
 f0 : h.cell? (a.add 0) = some (.int .i64 x.items)
 f1 : h.cell? (a.add 1) = some (.int .i64 x.lands)
 f2 : h.cell? (a.add 2) = some (.int .i64 x.start)
 f3 : h.cell? (a.add 3) = some (.int .i64 x.depend)
 f4 : h.cell? (a.add 4) = some (.int .i64 x.refuse)
 f5 : h.cell? (a.add 5) = some (.int .i64 x.turn)
 f6 : h.cell? (a.add 6) = some (.slice f.p f.n f.c)
theorem TAt.rd {h h' : Cells} {a : Addr} {f : TC} {x : TF} (hl : Rd h h') (m : TAt h a f x) : TAt h' a f x := ⟨hl _ _ m.f0, hl _ _ m.f1, hl _ _ m.f2, hl _ _ m.f3, hl _ _ m.f4, hl _ _ m.f5, hl _ _ m.f6⟩
theorem TAt.le {h h' : Cells} {a : Addr} {f : TC} {x : TF} (hl : h.le h') (m : TAt h a f x) : TAt h' a f x := m.rd (Rd.of_le hl)
def Found (x : TF) (i : Nat) (v : Value) (hv : Cells) : Prop := ∃ a n c, v = .slice (some a) n c ∧ Sl IntE 1 hv (some a) n (bitsL (giving x) i) ∧ n ≤ c
def Done (v : Value) (_ : Cells) : Prop := v = .bool true
def okB (x : TF) (k it d : Int) (i : Nat) : Bool := holdsB x k it d (bitsL (giving x) i)
theorem giving_ten {x : TF} (rt : Right x) : (giving x).length ≤ 10 := by
 have := giving_len x.events 0
 have := rt.many
 unfold giving; omega
theorem c2073 {hc : Cells} {q1 q2 i : Nat} {z0 z1 z2 z3 z4 z5 z6 z7 : Addr} {f : TC} {x : TF} {k it d : Int} (hk : Kinds hc) (hx : TreatyR hc f x) (rt : Right x) (hkd : KindsOk x) (hat : TAt hc z2 f x) (hi : i < 2 ^ 32)
  {ap : Option Addr} {an ac : Nat} (h0 : hc.cell? z0 = some (.slice ap an ac)) (hal : Sl IntE 1 hc ap an (giving x)) (h1 : hc.cell? z1 = some (.int .i64 (i : Int))) (h3 : hc.cell? z3 = some (.int .i64 k)) (h4 : hc.cell? z4 = some (.int .i64 it)) (h5 : hc.cell? z5 = some (.int .i64 d))
  (h6 : hc.cell? z6 = some (.chan (some q1))) (h7 : hc.cell? z7 = some (.chan (some q2))) :
  FWK XW Tryz.prog .deferred 147 #[.pointer (some z0), .pointer (some z1), .pointer (some z2), .pointer (some z3), .pointer (some z4), .pointer (some z5), .pointer (some z6), .pointer (some z7)] ⟨hc, [], [], scr q1 q2 (Found x) Done (i, okB x k it d i)⟩ fun _ _ => False := by
 generalize htd : scr q1 q2 (Found x) Done (i, okB x k it d i) = td
 refine w2073 _ _ _ _ _ _ _ _ XW_ok ?_
 unfold n2073
 have hn := hal.1
 have h10 := giving_ten rt
 refine t_build0 und50 inf3 fun b0 hb0 => ?_
 have le0 : LH.le ⟨hc, [], [], td⟩ _ := LH.upd_le (x := (true, .cells #[] 3 (0, 0))) hb0
 have k0 := Cells.cell?_le le0.1 h0
 refine gZ ?_
 refine t_loop (fun mm vs h' => LH.le ⟨hc, [], [], td⟩ h' ∧ ∃ (j : Nat) (a : Addr) (n c : Nat), vs = [.slice (some a) n c, .int .i64 j] ∧ j ≤ an ∧ mm = an - j ∧ Growing IntEnc 3 1 hc h'.get (some a) n c (bitsTo (giving x) i j))
  ⟨le0, 0, _, 0, 0, rfl, Nat.zero_le _, rfl, ⟨[], ⟨rfl, .inr ⟨b0, #[], rfl, Cells.upd_self _ _ _, rfl, Nat.le_refl _, fun j v hv => by simp at hv⟩⟩, by unfold bitsTo; exact .nil⟩, fun a ha => by cases ha; exact hb0⟩ ?_
 rintro Y mm vs h₁ hY ⟨hle, j, a, n, c, rfl, hj, rfl, g⟩
 have hng := g.count IntEnc.len (by omega)
 have hlen := bits_len (l := giving x) (i := i) (j := j)
 refine gZ ?_
 refine t_if (fun e1 => ?_) (fun e1 => ?_)
 ·obtain ⟨y, ya, hy, hya, e2⟩ := (hal.le IntE.grow hle.1).at (i := j) (by omega)
  unfold IntE at e2
  have k1 := Cells.cell?_le hle.1 h1
  refine gZ ?_
  rw [bit_test hi]
  have hst := bits_take (i := i) hy
  refine t_cond (fun b => ?_) (fun b => ?_)
  ·rw [if_pos b] at hst
   refine t_push (h₀ := ⟨hc, [], [], td⟩) y [.int .i64 y] rfl rfl und50 inf3 rfl (by omega) (by decide) (by kernel_rfl) rfl (by simp; rfl) (by omega) g hle rfl ?_
   intro p' c' h₂ hle2 _ g2
   refine gZ ?_
   obtain ⟨a', rfl⟩ : ∃ a', p' = some a' := by
    obtain ⟨vs, ⟨_, h6⟩, _⟩ := g2.row
    rcases h6 with ⟨_, h7, _⟩ | ⟨r, cs, h7, _⟩
    ·omega
    ·exact ⟨_, h7⟩
   refine t_again (hY (an - (j + 1)) _ _ (by omega) ⟨hle2, j + 1, a', n + 1, c', ?_, by omega, rfl, by rw [hst]; exact g2⟩)
   rw [wrap_id (by omega) (by omega)]; rfl
  ·rw [if_neg (by rw [b]; simp), List.append_nil] at hst
   refine t_again (hY (an - (j + 1)) _ _ (by omega) ⟨hle, j + 1, a, n, c, ?_, by omega, rfl, by rw [hst]; exact g⟩)
   rw [wrap_id (by omega) (by omega)]; rfl
 ·refine gZ ?_
  rw [bits_all (by omega)] at g
  rw [bits_all (by omega)] at hlen
  obtain ⟨g0, g1, g2, g3, g4, g5, g6⟩ := hat.le hle.1
  have k3 := Cells.cell?_le hle.1 h3
  have k4 := Cells.cell?_le hle.1 h4
  have k5 := Cells.cell?_le hle.1 h5
  refine gZ ?_
  refine t_gr (c2069 (hk.le hle.1) (hx.le hle.1) rt hkd k it d (g.sl IntEnc.len (by omega) IntEnc.e (by omega))) ?_
  rintro _ h₂ le2 rfl
  have hle2 := LH.le_trans hle le2
  have k6 := Cells.cell?_le hle2.1 h6
  have k7 := Cells.cell?_le hle2.1 h7
  refine gZ ?_
  refine t_cond (fun b => ?_) (fun b => ?_)
  ·refine t_loadC k6 ?_
   refine t_comm ?_
   have b' : okB x k it d i = true := b
   have htd' : td = [(q1, Found x i), (q2, Done)] := by rw [← htd, b']; rfl
   have g7 := g.le le2.1
   obtain ⟨vs, ⟨o1, o2⟩, rows⟩ := g7.row
   rcases o2 with ⟨o3, _⟩ | ⟨r, cs, o3, o4, o5, o6, o7⟩
   ·cases o3
   ·cases o3
    have hnew : hc r = none := g.new _ rfl
    refine commW_send (z := .tuple #[]) (φ := Found x i) (s := [(q2, Done)]) (hv := fun b => if b = r then h₂.get b else none) (hr := fun b => if b = r then none else h₂.get b) (hle2.2.2.2.trans htd') ?_ (fun b => ?_) (fun b x hx => ?_) ?_ (fun h => by cases h) (fun _ => ?_)
    ·funext b
     unfold Cells.add
     by_cases e : b = r
     ·subst e; simp [o4]
     ·simp [e]
    ·by_cases e : b = r
     ·right; simp [e]
     ·left; simp [e]
    ·have hx' : (if b = r then h₂.get b else none) = some x := hx
     split at hx'
     ·rename_i e; subst e; rw [o4] at hx'; cases hx'; rfl
     ·cases hx'
    ·refine ⟨_, _, _, rfl, ?_, o6⟩
     refine rows.sl IntEnc.len (by omega) IntEnc.e (el := 3) ⟨o1, .inr ⟨r, cs, rfl, ?_, o5, o6, o7⟩⟩ (by omega)
     show (if r = r then h₂.get r else none) = _
     rw [if_pos rfl]; exact o4
    ·have hz : z7.block ≠ r := by
      intro e
      unfold Cells.cell? at h7
      rw [e, hnew] at h7; cases h7
     have k7' : Cells.cell? (fun b => if b = r then none else h₂.get b) z7 = some (.chan (some q2)) := by
      have hb : (fun b => if b = r then none else h₂.get b) z7.block = h₂.get z7.block := if_neg hz
      unfold Cells.cell? at k7 ⊢
      rw [hb]; exact k7
     refine t_loadC k7' ?_
     refine t_comm ?_
     refine commW_send (z := .tuple #[]) (φ := Done) (s := []) (hv := fun _ => none) (hr := fun b => if b = r then none else h₂.get b) rfl ?_ (fun r => .inl rfl) (fun r x hx => by cases hx) rfl (fun _ => rfl) (fun h => absurd rfl h)
     funext r; rfl
  ·refine t_loadC k7 ?_
   refine t_comm ?_
   have b' : okB x k it d i = false := b
   have htd' : td = [(q2, Done)] := by rw [← htd, b']; rfl
   refine commW_send (z := .tuple #[]) (φ := Done) (s := []) (hv := fun _ => none) (hr := h₂.get) (hle2.2.2.2.trans htd') ?_ (fun r => .inl rfl) (fun r x hx => by cases hx) rfl (fun _ => rfl) (fun h => absurd rfl h)
   funext r; rfl
end Go.Proofs.YtldamlcehbdkdaaGreatDoor.Tre
end
section
namespace Go.Proofs.YtldamlcehbdkdaaGreatDoor.Tre
open Go Go.TM Go.Proofs Go.TM.Tr
attribute [local irreducible] T.wp CV FWK
def BestR (h : Cells) (x : TF) (k it d : Int) (rem : List (Nat × Bool)) (p : Option Addr) (n : Nat) (held : Bool) : Prop :=
 (held = false ∧ p = none ∧ n = 0 ∧ ∀ j, j < 2 ^ (giving x).length → (j, true) ∉ rem → okB x k it d j = false) ∨
 (held = true ∧ ∃ i a, p = some a ∧ i < 2 ^ (giving x).length ∧ okB x k it d i = true ∧ Sl IntE 1 h (some a) n (bitsL (giving x) i) ∧ ∀ j, j < 2 ^ (giving x).length → (j, true) ∉ rem → okB x k it d j = true → fewerF (bitsL (giving x) i) (bitsL (giving x) j) ≤ 0)
def weight : Nat × Bool → Nat | (_, true) => 2 | (_, false) => 1
def NeedsR (h' : Cells) (x : TF) (k it d : Int) (r : Value) : Prop :=
 (askedAllT x k it d ≠ 0 ∧ r = .tuple #[.slice none 0 0, .bool false, .int .i64 (askedAllT x k it d)]) ∨
 (askedAllT x k it d = 0 ∧ ¬ 0 ≤ dateOn x k it d ∧ r = .tuple #[.slice none 0 0, .bool false, .int .i64 0]) ∨
 (askedAllT x k it d = 0 ∧ 0 ≤ dateOn x k it d ∧ ∃ p n c, r = .tuple #[.slice p n c, .bool true, .int .i64 0] ∧ Sl IntE 1 h' p n (needT x k it d) ∧ n ≤ c)
theorem BestR.done {h : Cells} {x : TF} (v : Ok x) {k it d : Int} {p : Option Addr} {n : Nat} {b : Bool} (hb : BestR h x k it d [] p n b) : (¬ 0 ≤ dateOn x k it d ∧ b = false ∧ p = none ∧ n = 0) ∨ (0 ≤ dateOn x k it d ∧ b = true ∧ Sl IntE 1 h p n (needT x k it d)) := by
 have hn : (giving x).Nodup := (giving_sorted x.events 0).imp fun h => by omega
 rcases hb with ⟨h1, h2, h3, h4⟩ | ⟨h1, i, a, h2, h3, h4, h5, h6⟩
 ·left
  refine ⟨fun hd => ?_, h1, h2, h3⟩
  obtain ⟨a1, a2, _⟩ := need_spec (k := k) (i := it) (d := d) hd
  obtain ⟨j, hj, hjb⟩ := sub_bits hn a2
  have := h4 j hj (by simp)
  unfold okB at this
  rw [hjb, a1] at this; cases this
 ·have hd : 0 ≤ dateOn x k it d := by
   by_cases hd : 0 ≤ dateOn x k it d
   ·exact hd
   ·have := none_holds v hd (k := k) (i := it) (d := d) (bits_sub (l := giving x) (i := i))
    unfold okB at h4
    rw [this] at h4; cases h4
  refine .inr ⟨hd, h1, ?_⟩
  have := need_one hd (l := bitsL (giving x) i) bits_sub h4 fun m hm ho => by
   obtain ⟨j, hj, hjb⟩ := sub_bits hn hm
   have := h6 j hj (by simp) (by unfold okB; rw [hjb]; exact ho)
   rwa [hjb] at this
  rw [h2, ← this]; exact h5
theorem Sl.same {h : Cells} {p : Option Addr} {n : Nat} {a b : List Int} (ha : Sl IntE 1 h p n a) (hb : Sl IntE 1 h p n b) : a = b := by
 refine List.ext_getElem (by rw [← ha.1, ← hb.1]) fun i h1 h2 => ?_
 obtain ⟨x, c, e1, e2, e3⟩ := ha.at (i := i) (by rw [ha.1]; exact h1)
 obtain ⟨y, d, e4, e5, e6⟩ := hb.at (i := i) (by rw [hb.1]; exact h2)
 rw [e2] at e5; cases e5
 unfold IntE at e3 e6
 rw [e3] at e6; cases e6
 rw [List.getElem?_eq_getElem h1] at e1
 rw [List.getElem?_eq_getElem h2] at e4
 exact (Option.some.inj e1).trans (Option.some.inj e4).symm
theorem BestR.rd {h h' : Cells} (hr : Rd h h') {x : TF} {k it d : Int} {rem : List (Nat × Bool)} {p : Option Addr} {n : Nat} {b : Bool} (hb : BestR h x k it d rem p n b) : BestR h' x k it d rem p n b := by
 rcases hb with hb | ⟨h1, i, a, h2, h3, h4, h5, h6⟩
 ·exact .inl hb
 ·exact .inr ⟨h1, i, a, h2, h3, h4, h5.rd IntE.grow hr, h6⟩
theorem mem_but {l1 l2 : List (Nat × Bool)} {i j : Nat} (h : (j, true) ∉ l1 ++ (i, false) :: l2) : j = i ∨ (j, true) ∉ l1 ++ (i, true) :: l2 := by
 by_cases e : j = i
 ·exact .inl e
 ·right
  simp only [List.mem_append, List.mem_cons, Prod.mk.injEq, not_or] at h ⊢
  refine ⟨h.1, by simp [e], h.2.2⟩
theorem BestR.drop {h : Cells} {x : TF} {k it d : Int} {l1 l2 : List (Nat × Bool)} {i : Nat} {p : Option Addr} {n : Nat} {b : Bool} (hb : BestR h x k it d (l1 ++ (i, false) :: l2) p n b) : BestR h x k it d (l1 ++ l2) p n b := by
 have key : ∀ j, (j, true) ∉ l1 ++ l2 → (j, true) ∉ l1 ++ (i, false) :: l2 := by
  intro j hj
  simp only [List.mem_append, List.mem_cons, Prod.mk.injEq, not_or] at hj ⊢
  exact ⟨hj.1, by simp, hj.2⟩
 rcases hb with ⟨h1, h2, h3, h4⟩ | ⟨h1, i', a, h2, h3, h4, h5, h6⟩
 ·exact .inl ⟨h1, h2, h3, fun j hj hn => h4 j hj (key j hn)⟩
 ·exact .inr ⟨h1, i', a, h2, h3, h4, h5, fun j hj hn => h6 j hj (key j hn)⟩
theorem BestR.take {h h' : Cells} {x : TF} {k it d : Int} {l1 l2 : List (Nat × Bool)} {i : Nat} {p : Option Addr} {n n' : Nat} {a : Addr} {b : Bool} (hb : BestR h x k it d (l1 ++ (i, true) :: l2) p n b) (hi : okB x k it d i = true) (hlt : i < 2 ^ (giving x).length) (hs : Sl IntE 1 h' (some a) n' (bitsL (giving x) i))
  (hle : b = false ∨ ∀ j, Sl IntE 1 h p n (bitsL (giving x) j) → fewerF (bitsL (giving x) i) (bitsL (giving x) j) ≤ 0) : BestR h' x k it d (l1 ++ (i, false) :: l2) (some a) n' true := by
 refine .inr ⟨rfl, i, a, rfl, hlt, hi, hs, fun j hj hn ho => ?_⟩
 rcases mem_but hn with rfl | hn
 ·exact fewer_self _
 ·rcases hb with ⟨h1, h2, h3, h4⟩ | ⟨h1, i', a', h2, h3, h4, h5, h6⟩
  ·have := h4 j hj hn
   rw [this] at ho; cases ho
  ·have := hle.resolve_left (by rw [h1]; simp) i' (by rw [h2]; exact h5)
   exact fewer_trans this (h6 j hj hn ho)
theorem BestR.stay {h h' : Cells} (hr : Rd h h') {x : TF} {k it d : Int} {l1 l2 : List (Nat × Bool)} {i : Nat} {p : Option Addr} {n : Nat} (hb : BestR h x k it d (l1 ++ (i, true) :: l2) p n true)
  (hle : ∀ j, Sl IntE 1 h p n (bitsL (giving x) j) → fewerF (bitsL (giving x) j) (bitsL (giving x) i) ≤ 0) : BestR h' x k it d (l1 ++ (i, false) :: l2) p n true := by
 rcases hb with ⟨h1, h2, h3, h4⟩ | ⟨h1, i', a', h2, h3, h4, h5, h6⟩
 ·cases h1
 ·refine .inr ⟨rfl, i', a', h2, h3, h4, h5.rd IntE.grow hr, fun j hj hn ho => ?_⟩
  rcases mem_but hn with rfl | hn
  ·exact hle i' (by rw [h2]; exact h5)
  ·exact h6 j hj hn ho
def AllT (x : TF) (k it d : Int) (j : Nat) : List (Nat × Bool) := (List.range j).map fun i => (i, okB x k it d i)
set_option maxRecDepth 100000 in
theorem c2044 {h : LH} (hch : h.chans = []) (hpe : h.pend = []) (hk : Kinds h.get) {f : TC} {x : TF} (hx : TreatyR h.get f x) (k it d : Int) :
  FW XT Tryz.prog 92 #[treatyV f x, .int .i64 k, .int .i64 it, .int .i64 d] h fun r h' => Rd h.get h'.get ∧ h'.chans = [] ∧ h'.pend = [] ∧ h'.todo = h.todo ∧ NeedsR h'.get x k it d r := by
 refine w2044 _ _ _ _ _ _ _ _ _ _ _ _ XT_ok ?_
 unfold n2044
 refine t_new fun r hr => ?_
 have le0 : h.le _ := LH.upd_le (x := (true, .cells #[.int .i64 x.items, .int .i64 x.lands, .int .i64 x.start, .int .i64 x.depend, .int .i64 x.refuse, .int .i64 x.turn, .slice f.p f.n f.c] 82 (0, 0))) hr
 have hat : TAt (h.get.upd r (true, .cells #[.int .i64 x.items, .int .i64 x.lands, .int .i64 x.start, .int .i64 x.depend, .int .i64 x.refuse, .int .i64 x.turn, .slice f.p f.n f.c] 82 (0, 0))) ⟨r, 0, none⟩ f x :=
  ⟨cell_upd rfl, cell_upd rfl, cell_upd rfl, cell_upd rfl, cell_upd rfl, cell_upd rfl, cell_upd rfl⟩
 generalize hh0 : ({ h with get := h.get.upd r (true, .cells #[.int .i64 x.items, .int .i64 x.lands, .int .i64 x.start, .int .i64 x.depend, .int .i64 x.refuse, .int .i64 x.turn, .slice f.p f.n f.c] 82 (0, 0)) } : LH) = h0 at le0 ⊢
 have hat : TAt h0.get ⟨r, 0, none⟩ f x := by rw [← hh0]; exact hat
 refine t_new fun r1 hr1 => ?_
 have le1 : h0.le _ := LH.upd_le (x := (true, .cells #[.int .i64 k] 3 (0, 0))) hr1
 have z1 : Cells.cell? (h0.get.upd r1 (true, .cells #[.int .i64 k] 3 (0, 0))) ⟨r1, 0, none⟩ = some (.int .i64 k) := cell_upd rfl
 refine t_new fun r2 hr2 => ?_
 have le2 := LH.upd_le (h := { h0 with get := h0.get.upd r1 (true, .cells #[.int .i64 k] 3 (0, 0)) }) (x := (true, .cells #[.int .i64 it] 3 (0, 0))) hr2
 have z2 : Cells.cell? ((h0.get.upd r1 (true, .cells #[.int .i64 k] 3 (0, 0))).upd r2 (true, .cells #[.int .i64 it] 3 (0, 0))) ⟨r2, 0, none⟩ = some (.int .i64 it) := cell_upd rfl
 refine t_new fun r3 hr3 => ?_
 have le3 := LH.upd_le (h := { h0 with get := (h0.get.upd r1 (true, .cells #[.int .i64 k] 3 (0, 0))).upd r2 (true, .cells #[.int .i64 it] 3 (0, 0)) }) (x := (true, .cells #[.int .i64 d] 3 (0, 0))) hr3
 have z3 : Cells.cell? (((h0.get.upd r1 (true, .cells #[.int .i64 k] 3 (0, 0))).upd r2 (true, .cells #[.int .i64 it] 3 (0, 0))).upd r3 (true, .cells #[.int .i64 d] 3 (0, 0))) ⟨r3, 0, none⟩ = some (.int .i64 d) := cell_upd rfl
 have z1 := Cells.cell?_le (LH.le_trans le2 le3).1 z1
 have z2 := Cells.cell?_le le3.1 z2
 have hat := hat.le (LH.le_trans le1 (LH.le_trans le2 le3)).1
 obtain ⟨g0, g1, g2, g3, g4, g5, g6⟩ := id hat
 have le03 := LH.le_trans le0 (LH.le_trans le1 (LH.le_trans le2 le3))
 generalize hh3 : ({ h0 with get := ((h0.get.upd r1 (true, .cells #[.int .i64 k] 3 (0, 0))).upd r2 (true, .cells #[.int .i64 it] 3 (0, 0))).upd r3 (true, .cells #[.int .i64 d] 3 (0, 0)) } : LH) = h3 at le03 ⊢
 have e3 : h3.get = ((h0.get.upd r1 (true, .cells #[.int .i64 k] 3 (0, 0))).upd r2 (true, .cells #[.int .i64 it] 3 (0, 0))).upd r3 (true, .cells #[.int .i64 d] 3 (0, 0)) := by rw [← hh3]
 rw [← e3] at z1 z2 z3 hat g0 g1 g2 g3 g4 g5 g6
 clear hh3 e3
 refine gZ ?_
 refine t_pu (c2066 (hk.le le03.1) (hx.le le03.1) k it d) ?_
 refine gZ ?_
 refine t_cond (fun e => ?_) (fun e => ?_)
 ·exact t_ret ⟨Rd.of_le le03.1, by rw [le03.2.1, hch], by rw [le03.2.2.1, hpe], le03.2.2.2, .inl ⟨by simpa using e, rfl⟩⟩
 have ea : askedAllT x k it d = 0 := by simpa using e
 have hck := (asked_ok (askedItem_ok (askedAll_ok ea).1).1).1
 have rt := Right.of hck
 have hkd := KindsOk.of hck
 have h10 := giving_ten rt
 refine gZ ?_
 refine t_gr (c2067 (hk.le le03.1) (hx.le le03.1) hkd rt.many) ?_
 rintro _ h₄ le4 ⟨ap, an, ac, rfl, hal, _⟩
 have han := hal.1
 refine gZ ?_
 refine t_newSt2 rfl fun r4 h₅ le5 _ _ z0 => ?_
 have le35 := LH.le_trans le4 le5
 refine t_blk (fun vs h' => ∃ b1 b2 q1 q2, vs = [.pointer (some ⟨b1, 0, none⟩), .pointer (some ⟨b2, 0, none⟩)] ∧ Opening 201 238 h₅ h' (some q1) (some q2) (some (b1, true)) (some (b2, true))) ?_ ?_
 ·have O : Opening 201 238 h₅ h₅ none none none none := Opening.start
  repeat' first
   | refine t_both ?_ ?_
   | (refine op_new1 (by assumption) ?_; intro _ _ _)
   | (refine op_new2 (by assumption) ?_; intro _ _ _)
   | (refine op_chan1 undCI inf50 (by assumption) ?_; intro _ _ _)
   | (refine op_chan2 undCB inf4 (by assumption) ?_; intro _ _ _)
   | refine t_unC ?_
   | (refine op_store1 (by assumption) ?_; intro _ _)
   | (refine op_store2 (by assumption) ?_; intro _ _)
   | exact t_again ⟨_, _, _, _, rfl, by assumption⟩
 rintro _ h₆ ⟨b1, b2, q1, q2, rfl, O⟩
 have le6 := O.le
 have le36 := LH.le_trans le35 le6
 have le06 := LH.le_trans le03 le36
 have z0 := Cells.cell?_le le6.1 z0
 have z1 := Cells.cell?_le le36.1 z1
 have z2 := Cells.cell?_le le36.1 z2
 have z3 := Cells.cell?_le le36.1 z3
 have hat := hat.le le36.1
 have hal := hal.le IntE.grow (LH.le_trans le5 le6).1
 have zc1 : h₆.get.cell? ⟨b1, 0, none⟩ = some (.chan (some q1)) := by
  have := (O.hb1 b1 true rfl).2
  simp [Cells.cell?, this]
 have zc2 : h₆.get.cell? ⟨b2, 0, none⟩ = some (.chan (some q2)) := by
  have := (O.hb2 b2 true rfl).2
  simp [Cells.cell?, this]
 have hq := O.ne q1 q2 rfl rfl
 have hq1 := O.hc1 q1 rfl
 have hq2 := O.hc2 q2 rfl
 refine gZ ?_
 rw [sets_wrap (by omega)]
 have h1024 : 2 ^ an ≤ 2 ^ 10 := Nat.pow_le_pow_right (by omega) (by omega)
 have hNe : (2 : Nat) ^ an = 2 ^ (giving x).length := by rw [han]
 have hNpos : 0 < 2 ^ an := Nat.pow_pos (by omega)
 generalize hN : (2 : Nat) ^ an = N at h1024 hNe hNpos ⊢
 refine gZ ?_
 refine t_loop (fun mm vs h' => ∃ j : Nat, vs = [.int .i64 j] ∧ j ≤ N ∧ mm = N - j ∧ Rd h₆.get h'.get ∧ h'.todo = h.todo ∧ h'.pend = (AllT x k it d j).map (scr q1 q2 (Found x) Done) ∧ Hand2 q1 q2 h' ∧ (0 < j → h'.chans = [q2, q1]))
  ⟨0, rfl, Nat.zero_le _, rfl, Rd.refl _, le06.2.2.2, by rw [le06.2.2.1, hpe]; rfl, .inl ⟨by rw [le06.2.1, hch], hq, ⟨0, hq1⟩, 0, hq2⟩, fun hh => absurd hh (by omega)⟩ ?_
 rintro Y mm vs h₇ hY ⟨j, rfl, hj, rfl, rd7, td7, pd7, hand7, ch7⟩
 refine gZ ?_
 refine t_if (fun e1 => ?_) (fun e1 => ?_)
 ·refine t_newSt2 rfl fun r5 h₈ le8 _ _ z5 => ?_
  have rd8 := rd7.trans (Rd.of_le le8.1)
  refine t_spawn (spawnW_two q1 q2 (s := scr q1 q2 (Found x) Done (j, okB x k it d j)) (hand7.le le8) ?_ ?_ (fun hc hrd => ?_) (fun h₉ r9 c9 t9 p9 => ?_))
  ·unfold scr; split <;> simp
  ·intro y hy
   unfold scr at hy
   split at hy
   ·simp at hy; rcases hy with rfl | rfl <;> simp
   ·simp at hy; simp [hy]
  ·have rdc := rd8.trans hrd
   exact c2073 ((hk.le le06.1).rd rdc) ((hx.le le06.1).rd rdc) rt hkd (hat.rd rdc) (by omega) (rdc _ _ z0) (hal.rd IntE.grow rdc) (hrd _ _ z5) (rdc _ _ z1) (rdc _ _ z2) (rdc _ _ z3) (rdc _ _ zc1) (rdc _ _ zc2)
  ·refine t_again (hY (N - (j + 1)) _ _ (by omega) ⟨j + 1, ?_, by omega, rfl, rd8.trans r9, (t9.trans le8.2.2.2).trans td7, ?_, .inr c9, fun _ => c9⟩)
   ·rw [wrap_id (by omega) (by omega)]; rfl
   ·rw [p9, le8.2.2.1, pd7, AllT, AllT, List.range_succ, List.map_append, List.map_append]; rfl
 ·refine gZ ?_
  have hjN : j = N := by omega
  subst hjN
  refine t_loop (fun mm vs h' => ∃ (rem : List (Nat × Bool)) (b : Bool) (p : Option Addr) (n c : Nat), vs = [.slice p n c, .bool b, .int .i64 rem.length] ∧ rem.length ≤ j ∧ mm = (rem.map weight).sum ∧ (∀ i o, (i, o) ∈ rem → i < j) ∧ (∀ i, (i, true) ∈ rem → okB x k it d i = true) ∧ Rd h₆.get h'.get ∧ h'.todo = h.todo ∧ h'.pend = rem.map (scr q1 q2 (Found x) Done) ∧
    ((rem ≠ [] ∧ h'.chans = [q2, q1]) ∨ (rem = [] ∧ h'.chans = [])) ∧ BestR h'.get x k it d rem p n b ∧ n ≤ c ∧ (b = false → c = 0))
   ⟨AllT x k it d j, false, none, 0, 0, by simp [AllT], by simp [AllT], rfl, ?_, ?_, rd7, td7, pd7, .inl ⟨?_, ch7 hNpos⟩, .inl ⟨rfl, rfl, rfl, ?_⟩, Nat.le_refl _, fun _ => rfl⟩ ?_
  ·intro i o hi
   simp [AllT] at hi; omega
  ·intro i hi
   simp [AllT] at hi; exact (by obtain ⟨a0, a1, a2, a3⟩ := hi; rw [← a2]; exact a3)
  ·intro hh
   have := congrArg List.length hh
   simp [AllT] at this; omega
  ·intro i hi hn
   cases ho : okB x k it d i with
   | false => rfl
   | true => exact absurd (List.mem_map.2 ⟨i, List.mem_range.2 (by omega), by rw [ho]⟩) hn
  rintro Y2 mm vs h₈ hY2 ⟨rem, b, p, n, c, rfl, hlen, rfl, hrem, hok, rd8, td8, pd8, hst8, best, hcap, hc0⟩
  refine gZ ?_
  refine t_if (fun e2 => ?_) (fun e2 => ?_)
  ·have hne : rem ≠ [] := by rintro rfl; simp at e2
   have hc8 : h₈.chans = [q2, q1] := by
    rcases hst8 with ⟨_, a⟩ | ⟨a, _⟩
    ·exact a
    ·exact absurd a hne
   refine t_loadC (rd8 _ _ zc1) ?_
   refine t_loadC (rd8 _ _ zc2) ?_
   refine t_comm (commW_sel (φ := Found x) (ψ := Done) pd8 hc8 hq hne ?_ ?_)
   ·rintro l1 i l2 v h₉ hrem' ht hpd hc9 ⟨hv, ⟨a, n', c', rfl, hs9, hcap9⟩, hle⟩ hle9
    have hcr : commResult #[Conc.rcase q1 (.slice none 0 0), Conc.rcase q2 (.bool false)] .select ((0 : Nat) : Int) (.slice (some a) n' c') true = .tuple #[.int .i64 0, .bool true, .slice (some a) n' c', .bool false] := by simp [commResult, Conc.rcase, goInt]
    rw [hcr]
    subst hrem'
    have rd9 := Rd.of_le hle9
    have hs9 := hs9.rd IntE.grow (Rd.of_le hle)
    have hi : i < 2 ^ (giving x).length := by have := hrem i true (by simp); omega
    have hoi : okB x k it d i = true := hok i (by simp)
    have next : ∀ p' n' c', BestR h₉.get x k it d (l1 ++ (i, false) :: l2) p' n' true → n' ≤ c' → Y2 [.slice p' n' c', .bool true, .int .i64 ((l1 ++ (i, true) :: l2).length : Nat)] h₉ := by
     intro p' n' c' hb hcap'
     refine hY2 (((l1 ++ (i, false) :: l2).map weight).sum) _ _ (by simp [weight]) ⟨l1 ++ (i, false) :: l2, true, p', n', c', by simp, by simpa using hlen, rfl, ?_, ?_, rd8.trans rd9, ht.trans td8, hpd, .inl ⟨by simp, hc9⟩, hb, hcap', fun h => by cases h⟩
     ·intro i' o hi'
      simp only [List.mem_append, List.mem_cons, Prod.mk.injEq] at hi'
      rcases hi' with h1 | h1 | h1
      ·exact hrem i' o (by simp [h1])
      ·rw [h1.1]; exact hrem i true (by simp)
      ·exact hrem i' o (by simp [h1])
     ·intro i' hi'
      simp at hi'
      exact hok i' (by rcases hi' with h1 | h1 <;> simp [h1])
    refine gZ ?_
    refine t_cond (fun _ => ?_) (fun e => by cases e)
    refine t_cond (fun e3 => ?_) (fun e3 => ?_)
    ·exact t_again (next _ _ _ (best.take hoi hi hs9 (.inl (by simpa using e3))) hcap9)
    ·have hbt : b = true := by simpa using e3
     subst hbt
     obtain ⟨k', a', hk', hs'⟩ : ∃ k' a', p = some a' ∧ Sl IntE 1 h₈.get (some a') n (bitsL (giving x) k') := by
      rcases best with ⟨b1, _⟩ | ⟨_, k', a', b1, _, _, b4, _⟩
      ·cases b1
      ·exact ⟨k', a', b1, b4⟩
     subst hk'
     refine t_pu (c2074 hs9 (hs'.rd IntE.grow rd9)) ?_
     have same : ∀ k2, Sl IntE 1 h₈.get (some a') n (bitsL (giving x) k2) → bitsL (giving x) k2 = bitsL (giving x) k' := fun k2 h3 => Sl.same h3 hs'
     refine gZ ?_
     refine t_if (fun e4 => ?_) (fun e4 => ?_)
     ·refine t_again (next _ _ _ (best.take hoi hi hs9 (.inr fun k2 h3 => ?_)) hcap9)
      rw [same k2 h3]; omega
     ·refine t_again (next _ _ _ (best.stay rd9 fun k2 h3 => ?_) hcap)
      rw [same k2 h3, fewer_neg]; omega
   ·intro l1 i l2 v h₉ hrem' ht hpd hst9 ⟨hv, hval⟩ hle9
    have hval : v = .bool true := hval
    subst hval
    have hcr : commResult #[Conc.rcase q1 (.slice none 0 0), Conc.rcase q2 (.bool false)] .select ((1 : Nat) : Int) (.bool true) true = .tuple #[.int .i64 1, .bool true, .slice none 0 0, .bool true] := by simp [commResult, Conc.rcase, goInt]
    rw [hcr]
    subst hrem'
    have rd9 := Rd.of_le hle9
    have hl : (l1 ++ (i, false) :: l2).length = (l1 ++ l2).length + 1 := by simp; omega
    refine gZ ?_
    refine t_again (hY2 (((l1 ++ l2).map weight).sum) _ _ (by simp [weight]) ⟨l1 ++ l2, b, p, n, c, ?_, by omega, rfl, ?_, ?_, rd8.trans rd9, ht.trans td8, hpd, hst9, (best.drop).rd rd9, hcap, hc0⟩)
    ·rw [hl, wrap_id (by omega) (by omega)]
     congr 3
     congr 1
     omega
    ·intro i' o hi'
     simp only [List.mem_append] at hi'
     exact hrem i' o (by rcases hi' with h1 | h1 <;> simp [h1])
    ·intro i' hi'
     simp only [List.mem_append] at hi'
     exact hok i' (by rcases hi' with h1 | h1 <;> simp [h1])
  ·refine gZ ?_
   have hrem0 : rem = [] := List.length_eq_zero_iff.1 (by omega)
   subst hrem0
   have hc8 : h₈.chans = [] := by
    rcases hst8 with ⟨a, _⟩ | ⟨_, a⟩
    ·exact absurd rfl a
    ·exact a
   refine t_ret ⟨(Rd.of_le le06.1).trans rd8, hc8, pd8, td8, .inr ?_⟩
   rcases best.done rt.ok with ⟨a1, rfl, rfl, rfl⟩ | ⟨a1, rfl, a2⟩
   ·have := hc0 rfl; subst this
    exact .inl ⟨ea, a1, rfl⟩
   ·exact .inr ⟨ea, a1, _, _, _, rfl, a2, hcap⟩
end Go.Proofs.YtldamlcehbdkdaaGreatDoor.Tre
end
section
namespace Go.Proofs.YtldamlcehbdkdaaGreatDoor.Tre
open Go Go.TM Go.Proofs Go.TM.Tr
attribute [local irreducible] T.wp CV FWK
theorem c2020 {h : LH} {p q : Option Addr} {n c m d : Nat} {a b : List Bool} (ha : Sl BoolE 1 h.get p n a) (hb : Sl BoolE 1 h.get q m b) : Pu Tryz.prog 93 #[.slice p n c, .slice q m d] h (.bool (decide (a = b))) := by
 refine w2020 _ _ _ _ _ _ X0_ok ?_
 unfold n2020
 have hn := ha.1
 have hm := hb.1
 have hbn := ha.2.1
 have hbm := hb.2.1
 refine t_cond (fun e => ?_) (fun e => ?_)
 ·have : a ≠ b := by rintro rfl; simp at e; omega
  exact t_ret ⟨by simp [this], rfl⟩
 have hnm : n = m := by simp at e; omega
 refine t_loop (fun mm vs h' => h = h' ∧ ∃ i : Nat, vs = [.bool false, .int .i64 i] ∧ i ≤ n ∧ mm = n - i ∧ a.take i = b.take i) ⟨rfl, 0, rfl, Nat.zero_le _, rfl, rfl⟩ ?_
 rintro Y mm vs _ hY ⟨rfl, i, rfl, hi, rfl, hc⟩
 refine gZ ?_
 refine t_if (fun e => ?_) (fun e => ?_)
 ·obtain ⟨x, a1, hx, ha1, e1⟩ := ha.at (i := i) (by omega)
  obtain ⟨y, a2, hy, ha2, e2⟩ := hb.at (i := i) (by omega)
  unfold BoolE at e1 e2
  rw [add_zero'] at e1 e2
  refine gZ ?_
  refine t_cond (fun b1 => ?_) (fun b1 => ?_)
  ·refine gZ ?_
   have : a ≠ b := by rintro rfl; rw [hx] at hy; cases hy; simp at b1
   exact t_ret ⟨by simp [this], rfl⟩
  ·have b2 : x = y := by cases x <;> cases y <;> simp_all
   refine t_again (hY (n - (i + 1)) _ _ (by omega) ⟨rfl, i + 1, ?_, by omega, rfl, ?_⟩)
   ·rw [wrap_id (by omega) (by omega)]; rfl
   ·rw [List.take_add_one, List.take_add_one, hc, hx, hy, b2]
 ·refine gZ ?_
  rw [List.take_of_length_le (by omega), List.take_of_length_le (by omega)] at hc
  exact t_ret ⟨by simp [hc], rfl⟩
theorem c2025 {h : LH} {p q : Option Addr} {n c m d : Nat} {a b : List Sp} (ha : Sl SpE 2 h.get p n a) (hb : Sl SpE 2 h.get q m b) : Pu Tryz.prog 94 #[.slice p n c, .slice q m d] h (.bool (decide (a = b))) := by
 refine w2025 _ _ _ _ _ _ X0_ok ?_
 unfold n2025
 have hn := ha.1
 have hm := hb.1
 have hbn := ha.2.1
 have hbm := hb.2.1
 refine t_cond (fun e => ?_) (fun e => ?_)
 ·have : a ≠ b := by rintro rfl; simp at e; omega
  exact t_ret ⟨by simp [this], rfl⟩
 have hnm : n = m := by simp at e; omega
 refine t_loop (fun mm vs h' => h = h' ∧ ∃ i : Nat, vs = [.bool false, .int .i64 i] ∧ i ≤ n ∧ mm = n - i ∧ a.take i = b.take i) ⟨rfl, 0, rfl, Nat.zero_le _, rfl, rfl⟩ ?_
 rintro Y mm vs _ hY ⟨rfl, i, rfl, hi, rfl, hc⟩
 refine gZ ?_
 refine t_if (fun e => ?_) (fun e => ?_)
 ·obtain ⟨x, a1, hx, ha1, e1, e3⟩ := ha.at (i := i) (by omega)
  obtain ⟨y, a2, hy, ha2, e2, e4⟩ := hb.at (i := i) (by omega)
  refine gZ ?_
  refine t_ne2 two30 g30 ?_
  refine gZ ?_
  refine t_cond (fun b1 => ?_) (fun b1 => ?_)
  ·refine gZ ?_
   have : a ≠ b := by rintro rfl; rw [hx] at hy; cases hy; simp at b1
   exact t_ret ⟨by simp [this], rfl⟩
  ·have b2 : x = y := by obtain ⟨x1, x2⟩ := x; obtain ⟨y1, y2⟩ := y; simp at b1; simp [b1]
   refine t_again (hY (n - (i + 1)) _ _ (by omega) ⟨rfl, i + 1, ?_, by omega, rfl, ?_⟩)
   ·rw [wrap_id (by omega) (by omega)]; rfl
   ·rw [List.take_add_one, List.take_add_one, hc, hx, hy, b2]
 ·refine gZ ?_
  rw [List.take_of_length_le (by omega), List.take_of_length_le (by omega)] at hc
  exact t_ret ⟨by simp [hc], rfl⟩
end Go.Proofs.YtldamlcehbdkdaaGreatDoor.Tre
end
section
namespace Go.Proofs.YtldamlcehbdkdaaGreatDoor
open Go Go.TM Go.Proofs
set_option linter.unusedVariables false
set_option maxRecDepth 100000
variable {X : XP} {h : LH} {A : Value → LH → Prop}
noncomputable def n2016 (x_0 x_1 x_2 x_3 x_4 x_5 : Int) (x_6p : Option Addr) (x_6n x_6c : Nat) : T := bif decide ((↑x_6n : Int) > 20) then .leaf (.ret (.bool true)) else .loop [.bool false, .int .i64 0] (fun vs => .popB vs fun b vs => .popI .i64 vs fun n vs => .unNil vs (bif decide (n < (↑x_6n : Int)) then .need (0 ≤ n ∧ n < (↑x_6n : Int)) (.someA x_6p fun a => .loadS ((a.add (n.toNat * 5)).add 3) fun p n_1 c => bif decide ((↑n_1 : Int) > 20) then .leaf (.retn [.bool true, .int .i64 n]) else .leaf (.again [.bool b, .int .i64 (IntKind.wrap .i64 (n + 1))])) else .leaf (.brk [.bool b, .int .i64 n]))) (fun vs => .popB vs fun b vs => .popI .i64 vs fun n vs => .unNil vs (.leaf (.ret (.bool false)))) (fun vs => .popB vs fun b vs => .popI .i64 vs fun n vs => .unNil vs (.leaf (.ret (.bool b)))) fun x x_6 => .fail
theorem w2016 (x_0 x_1 x_2 x_3 x_4 x_5 : Int) (x_6p : Option Addr) (x_6n x_6c : Nat) (hX : XOK X) (hw : (n2016 x_0 x_1 x_2 x_3 x_4 x_5 x_6p x_6n x_6c).wp X Tryz.prog (retQ A) h) : FWK X Tryz.prog .normal 38 #[.agg #[.int .i64 x_0, .int .i64 x_1, .int .i64 x_2, .int .i64 x_3, .int .i64 x_4, .int .i64 x_5, .slice x_6p x_6n x_6c]] h A := fwk_neat (show ftree ({ P := Tryz.prog, priv := [1], loops := [{ id := 0, slots := [(2, .bool), (3, .int .i64)], ro := [1], outs := [] }], joins := [] }) Tryz.f38 [.agg #[.int .i64 x_0, .int .i64 x_1, .int .i64 x_2, .int .i64 x_3, .int .i64 x_4, .int .i64 x_5, .slice x_6p x_6n x_6c]] = n2016 x_0 x_1 x_2 x_3 x_4 x_5 x_6p x_6n x_6c by kernel_rfl) (by simp) (by kernel_rfl) (by kernel_rfl) hX hw
noncomputable def n2017  : T := .call false 87 #[] fun v => .unAgg v fun l => .popI .i64 l fun n vs => .popI .i64 vs fun n_1 vs => .popI .i64 vs fun n_2 vs => .popI .i64 vs fun n_3 vs => .popI .i64 vs fun n_4 vs => .popI .i64 vs fun n_5 vs => .popS vs fun a n_6 c vs => .unNil vs (.call false 88 #[.agg #[.int .i64 n, .int .i64 n_1, .int .i64 n_2, .int .i64 n_3, .int .i64 n_4, .int .i64 n_5, .slice a n_6 c], .int .i64 0, .int .i64 15] fun v => .unTup v fun l => .unCons l fun v vs => .unS v fun a_1 n_7 c_1 => .unCons vs fun v vs => .unI .i64 v fun n_8 => .unNil vs (.call false 88 #[.agg #[.int .i64 n, .int .i64 n_1, .int .i64 n_2, .int .i64 n_3, .int .i64 n_4, .int .i64 n_5, .slice a n_6 c], .int .i64 1, .int .i64 40] fun v => .unTup v fun l => .unCons l fun v vs => .unS v fun a_2 n_9 c_2 => .unCons vs fun v vs => .unI .i64 v fun n_10 => .unNil vs (.call false 89 #[.agg #[.int .i64 n, .int .i64 n_1, .int .i64 n_2, .int .i64 n_3, .int .i64 n_4, .int .i64 n_5, .slice a n_6 c], .int .i64 0, .int .i64 18] fun v => .unTup v fun l => .unCons l fun v vs => .unS v fun a_3 n_11 c_3 => .unCons vs fun v vs => .unI .i64 v fun n_12 => .unNil vs (.call false 89 #[.agg #[.int .i64 n, .int .i64 n_1, .int .i64 n_2, .int .i64 n_3, .int .i64 n_4, .int .i64 n_5, .slice a n_6 c], .int .i64 0, .int .i64 44] fun v => .unTup v fun l => .unCons l fun v vs => .unS v fun a_4 n_13 c_4 => .unCons vs fun v vs => .unI .i64 v fun n_14 => .unNil vs (.call false 90 #[.agg #[.int .i64 n, .int .i64 n_1, .int .i64 n_2, .int .i64 n_3, .int .i64 n_4, .int .i64 n_5, .slice a n_6 c], .int .i64 0, .int .i64 0] fun v => .unTup v fun l => .unCons l fun v vs => .unS v fun a_5 n_15 c_5 => .unCons vs fun v vs => .unI .i64 v fun n_16 => .unNil vs (.call false 90 #[.agg #[.int .i64 n, .int .i64 n_1, .int .i64 n_2, .int .i64 n_3, .int .i64 n_4, .int .i64 n_5, .slice a n_6 c], .int .i64 0, .int .i64 1] fun v => .unTup v fun l => .unCons l fun v vs => .unS v fun a_6 n_17 c_6 => .unCons vs fun v vs => .unI .i64 v fun n_18 => .unNil vs (.call false 91 #[.agg #[.int .i64 n, .int .i64 n_1, .int .i64 n_2, .int .i64 n_3, .int .i64 n_4, .int .i64 n_5, .slice a n_6 c], .int .i64 1, .int .i64 45] fun v => .unTup v fun l => .unCons l fun v vs => .unS v fun a_7 n_19 c_7 => .unCons vs fun v vs => .unI .i64 v fun n_20 => .unNil vs (.call false 91 #[.agg #[.int .i64 n, .int .i64 n_1, .int .i64 n_2, .int .i64 n_3, .int .i64 n_4, .int .i64 n_5, .slice a n_6 c], .int .i64 1, .int .i64 46] fun v => .unTup v fun l => .unCons l fun v vs => .unS v fun a_8 n_21 c_8 => .unCons vs fun v vs => .unI .i64 v fun n_22 => .unNil vs (.call false 92 #[.agg #[.int .i64 n, .int .i64 n_1, .int .i64 n_2, .int .i64 n_3, .int .i64 n_4, .int .i64 n_5, .slice a n_6 c], .int .i64 0, .int .i64 0, .int .i64 44] fun v => .unTup v fun l => .unCons l fun v vs => .unS v fun a n c => .unCons vs fun v vs => .unB v fun b => .unCons vs fun v vs => .unI .i64 v fun n_23 => .unNil vs (.blk (bif n_8 != 0 then .leaf (.retn [.bool false]) else bif n_10 != 0 then .leaf (.retn [.bool false]) else bif n_12 != 0 then .leaf (.retn [.bool false]) else bif n_14 != 0 then .leaf (.retn [.bool false]) else bif n_16 != 0 then .leaf (.retn [.bool false]) else bif n_18 != 0 then .leaf (.retn [.bool false]) else bif n_20 != 0 then .leaf (.retn [.bool false]) else bif n_22 != 0 then .leaf (.retn [.bool false]) else bif n_23 != 0 then .leaf (.retn [.bool false]) else .leaf (.again [.bool false])) (fun vs => .popB vs fun b_1 vs => .unNil vs (.blk (.sem false (Instr.buildSlice 95 3 #[(0, .bool true), (1, .bool false), (2, .bool true)]) fun v => .unS v fun a_9 n_24 c_9 => .call false 93 #[.slice a_1 n_7 c_1, .slice a_9 n_24 c_9] fun v => .unB v fun b_2 => bif !b_2 then .leaf (.retn [.bool false]) else .sem false (Instr.buildSlice 95 3 #[(0, .bool false), (1, .bool true), (2, .bool false)]) fun v => .unS v fun a_10 n_25 c_10 => .call false 93 #[.slice a_2 n_9 c_2, .slice a_10 n_25 c_10] fun v => .unB v fun b_3 => bif !b_3 then .leaf (.retn [.bool false]) else .sem false (Instr.buildSlice 30 3 #[(0, .int .i64 3), (1, .int .i64 (-1)), (2, .int .i64 12)]) fun v => .unS v fun a_11 n_26 c_11 => .call false 22 #[.slice a_3 n_11 c_3, .slice a_11 n_26 c_11] fun v => .unB v fun b_4 => bif !b_4 then .leaf (.retn [.bool false]) else .sem false (Instr.buildSlice 30 3 #[(0, .int .i64 3), (1, .int .i64 12), (2, .int .i64 (-1))]) fun v => .unS v fun a_12 n_27 c_12 => .call false 22 #[.slice a_4 n_13 c_4, .slice a_12 n_27 c_12] fun v => .unB v fun b_5 => bif !b_5 then .leaf (.retn [.bool false]) else bif !b then .leaf (.retn [.bool false]) else .sem false (Instr.buildSlice 30 2 #[(0, .int .i64 0), (1, .int .i64 5)]) fun v => .unS v fun a_13 n_28 c_13 => .call false 22 #[.slice a n c, .slice a_13 n_28 c_13] fun v => .unB v fun b => bif !b then .leaf (.retn [.bool false]) else .leaf (.again [.bool b_1])) (fun vs => .popB vs fun b vs => .unNil vs (.call false 95 #[.int .i64 12, .int .i64 39] fun v => .unAgg v fun l => .popI .i64 l fun n vs => .popI .i64 vs fun n_24 vs => .unNil vs (.call false 95 #[.int .i64 44, .int .i64 9999] fun v => .unAgg v fun l => .popI .i64 l fun n_25 vs => .popI .i64 vs fun n_26 vs => .unNil vs (.sem false (Instr.buildSlice 22 2 #[(0, .agg #[.int .i64 n, .int .i64 n_24]), (1, .agg #[.int .i64 n_25, .int .i64 n_26])]) fun v => .unS v fun a n c => .call false 94 #[.slice a_5 n_15 c_5, .slice a n c] fun v => .unB v fun b => bif b then .call false 95 #[.int .i64 12, .int .i64 14] fun v => .unAgg v fun l => .popI .i64 l fun n vs => .popI .i64 vs fun n_27 vs => .unNil vs (.call false 95 #[.int .i64 25, .int .i64 9999] fun v => .unAgg v fun l => .popI .i64 l fun n_28 vs => .popI .i64 vs fun n_29 vs => .unNil vs (.sem false (Instr.buildSlice 22 2 #[(0, .agg #[.int .i64 n, .int .i64 n_27]), (1, .agg #[.int .i64 n_28, .int .i64 n_29])]) fun v => .unS v fun a n c => .call false 94 #[.slice a_6 n_17 c_6, .slice a n c] fun v => .unB v fun b => bif b then .sem false (Instr.buildSlice 30 1 #[(0, .int .i64 0)]) fun v => .unS v fun a n c => .call false 22 #[.slice a_7 n_19 c_7, .slice a n c] fun v => .unB v fun b => bif b then .leaf (.ret (.bool ((↑n_21 : Int) == 0))) else .leaf (.ret (.bool false)) else .leaf (.ret (.bool false)))) else .leaf (.ret (.bool false)))))) (fun vs => .popB vs fun b vs => .unNil vs (.leaf (.ret (.bool b)))) fun x x_1 => .fail)) (fun vs => .popB vs fun b vs => .unNil vs (.leaf (.ret (.bool b)))) fun x x_1 => .fail))))))))))
theorem w2017  (hX : XOK X) (hw : (n2017 ).wp X Tryz.prog (retQ A) h) : FWK X Tryz.prog .normal 33 #[] h A := fwk_neat (show ftree ({ P := Tryz.prog, priv := [1], loops := [], joins := [{ id := 15, slots := [(0, .bool)], ro := [1], outs := [] }, { id := 13, slots := [(0, .bool)], ro := [1], outs := [] }] }) Tryz.f33 [] = n2017  by kernel_rfl) (by simp) (by kernel_rfl) (by kernel_rfl) hX hw
noncomputable def n2031 (x_0 x_1 x_2 x_3 x_4 x_5 : Int) (x_6p : Option Addr) (x_6n x_6c : Nat) : T := .call false 38 #[.agg #[.int .i64 x_0, .int .i64 x_1, .int .i64 x_2, .int .i64 x_3, .int .i64 x_4, .int .i64 x_5, .slice x_6p x_6n x_6c]] fun v => .unB v fun b => bif !b then .call false 86 #[.agg #[.int .i64 x_0, .int .i64 x_1, .int .i64 x_2, .int .i64 x_3, .int .i64 x_4, .int .i64 x_5, .slice x_6p x_6n x_6c]] fun v => .unI .i64 v fun n => .leaf (.ret (.bool (n == 0))) else .leaf (.ret (.bool false))
theorem w2031 (x_0 x_1 x_2 x_3 x_4 x_5 : Int) (x_6p : Option Addr) (x_6n x_6c : Nat) (hX : XOK X) (hw : (n2031 x_0 x_1 x_2 x_3 x_4 x_5 x_6p x_6n x_6c).wp X Tryz.prog (retQ A) h) : FWK X Tryz.prog .normal 32 #[.agg #[.int .i64 x_0, .int .i64 x_1, .int .i64 x_2, .int .i64 x_3, .int .i64 x_4, .int .i64 x_5, .slice x_6p x_6n x_6c]] h A := fwk_neat (show ftree ({ P := Tryz.prog, priv := [1], loops := [], joins := [] }) Tryz.f32 [.agg #[.int .i64 x_0, .int .i64 x_1, .int .i64 x_2, .int .i64 x_3, .int .i64 x_4, .int .i64 x_5, .slice x_6p x_6n x_6c]] = n2031 x_0 x_1 x_2 x_3 x_4 x_5 x_6p x_6n x_6c by kernel_rfl) (by simp) (by kernel_rfl) (by kernel_rfl) hX hw
noncomputable def n2035 (x_0 x_1 x_2 x_3 x_4 x_5 : Int) (x_6p : Option Addr) (x_6n x_6c : Nat) (e_0 e_1 e_2 : Int) (e_3p : Option Addr) (e_3n e_3c : Nat) (e_4 : Int) : T := .blk (.both (.sem false (Instr.buildSlice 80 0 #[]) fun v => .unS v fun a n c => .nd (.agg #[.int .i64 e_0, .int .i64 e_1, .int .i64 e_2, .slice e_3p e_3n e_3c, .int .i64 e_4]) (.nd (.slice x_6p x_6n x_6c) (.need (AV.pp 2 6 = AV.pp 2 6) (.both (.sem false (Builtin.append_ #[80, 80] 80 #[.slice a n c, .slice x_6p x_6n x_6c]) fun v => .unS v fun a n c => .nd (.agg #[.int .i64 e_0, .int .i64 e_1, .int .i64 e_2, .slice e_3p e_3n e_3c, .int .i64 e_4]) (.need (AV.pp 2 6 = AV.pp 2 6) (.sem false (Instr.buildSlice 80 1 #[(0, .agg #[.int .i64 e_0, .int .i64 e_1, .int .i64 e_2, .slice e_3p e_3n e_3c, .int .i64 e_4])]) fun v => .unS v fun a_1 n_1 c_1 => .need (AV.pp 2 6 = AV.pp 2 6) (.sem false (Builtin.append_ #[80, 80] 80 #[.slice a n c, .slice a_1 n_1 c_1]) fun v => .unS v fun a n c => .need (AV.pp 2 6 = AV.pp 2 6) (.leaf (.again [.int .i64 x_0, .int .i64 x_1, .int .i64 x_2, .int .i64 x_3, .int .i64 x_4, .int .i64 x_5, .slice a n c])))))) (.sem false (Instr.buildSlice 80 1 #[(0, .agg #[.int .i64 e_0, .int .i64 e_1, .int .i64 e_2, .slice e_3p e_3n e_3c, .int .i64 e_4])]) fun v => .unS v fun a_1 n_1 c_1 => .nd (.slice x_6p x_6n x_6c) (.need (AV.pp 2 6 = AV.pp 2 6) (.sem false (Builtin.append_ #[80, 80] 80 #[.slice a n c, .slice x_6p x_6n x_6c]) fun v => .unS v fun a n c => .need (AV.pp 2 6 = AV.pp 2 6) (.sem false (Builtin.append_ #[80, 80] 80 #[.slice a n c, .slice a_1 n_1 c_1]) fun v => .unS v fun a n c => .need (AV.pp 2 6 = AV.pp 2 6) (.leaf (.again [.int .i64 x_0, .int .i64 x_1, .int .i64 x_2, .int .i64 x_3, .int .i64 x_4, .int .i64 x_5, .slice a n c])))))))))) (.sem false (Instr.buildSlice 80 1 #[(0, .agg #[.int .i64 e_0, .int .i64 e_1, .int .i64 e_2, .slice e_3p e_3n e_3c, .int .i64 e_4])]) fun v => .unS v fun a n c => .nd (.slice x_6p x_6n x_6c) (.need (AV.pp 2 6 = AV.pp 2 6) (.sem false (Instr.buildSlice 80 0 #[]) fun v => .unS v fun a_1 n_1 c_1 => .nd (.slice x_6p x_6n x_6c) (.need (AV.pp 2 6 = AV.pp 2 6) (.sem false (Builtin.append_ #[80, 80] 80 #[.slice a_1 n_1 c_1, .slice x_6p x_6n x_6c]) fun v => .unS v fun a_2 n_2 c_2 => .need (AV.pp 2 6 = AV.pp 2 6) (.sem false (Builtin.append_ #[80, 80] 80 #[.slice a_2 n_2 c_2, .slice a n c]) fun v => .unS v fun a n c => .need (AV.pp 2 6 = AV.pp 2 6) (.leaf (.again [.int .i64 x_0, .int .i64 x_1, .int .i64 x_2, .int .i64 x_3, .int .i64 x_4, .int .i64 x_5, .slice a n c]))))))))) (fun vs => .popI .i64 vs fun n vs => .popI .i64 vs fun n_1 vs => .popI .i64 vs fun n_2 vs => .popI .i64 vs fun n_3 vs => .popI .i64 vs fun n_4 vs => .popI .i64 vs fun n_5 vs => .popS vs fun a n_6 c vs => .unNil vs (bif decide ((↑e_3n : Int) ≤ 20) then .call false 86 #[.agg #[.int .i64 n, .int .i64 n_1, .int .i64 n_2, .int .i64 n_3, .int .i64 n_4, .int .i64 n_5, .slice a n_6 c]] fun v => .unI .i64 v fun n_7 => .nd (.bool (decide ((↑e_3n : Int) ≤ 20))) (.nd (.int .i64 (↑e_3n : Int)) (.nd (.slice e_3p e_3n e_3c) (.need (AV.pp 3 3 = AV.pp 3 3) (.nd (.agg #[.int .i64 n, .int .i64 n_1, .int .i64 n_2, .int .i64 n_3, .int .i64 n_4, .int .i64 n_5, .slice a n_6 c]) (.nd (.bool (n_7 == 0)) (.nd (.bool (n_7 == 0)) (.nd (.bool (decide ((↑e_3n : Int) ≤ 20))) (.nd (.int .i64 (↑e_3n : Int)) (.nd (.slice e_3p e_3n e_3c) (.need (AV.pp 3 3 = AV.pp 3 3) (.leaf (.ret (.tuple #[.agg #[.int .i64 n, .int .i64 n_1, .int .i64 n_2, .int .i64 n_3, .int .i64 n_4, .int .i64 n_5, .slice a n_6 c], .bool (n_7 == 0)]))))))))))))) else .nd (.bool (decide ((↑e_3n : Int) ≤ 20))) (.nd (.int .i64 (↑e_3n : Int)) (.nd (.slice e_3p e_3n e_3c) (.need (AV.pp 3 3 = AV.pp 3 3) (.nd (.agg #[.int .i64 n, .int .i64 n_1, .int .i64 n_2, .int .i64 n_3, .int .i64 n_4, .int .i64 n_5, .slice a n_6 c]) (.both (.nd (.bool (decide ((↑e_3n : Int) ≤ 20))) (.nd (.int .i64 (↑e_3n : Int)) (.nd (.slice e_3p e_3n e_3c) (.need (AV.pp 3 3 = AV.pp 3 3) (.nd (.agg #[.int .i64 n, .int .i64 n_1, .int .i64 n_2, .int .i64 n_3, .int .i64 n_4, .int .i64 n_5, .slice a n_6 c]) (.nd (.bool false) (.nd (.bool (decide ((↑e_3n : Int) ≤ 20))) (.nd (.int .i64 (↑e_3n : Int)) (.nd (.slice e_3p e_3n e_3c) (.need (AV.pp 3 3 = AV.pp 3 3) (.leaf (.ret (.tuple #[.agg #[.int .i64 n, .int .i64 n_1, .int .i64 n_2, .int .i64 n_3, .int .i64 n_4, .int .i64 n_5, .slice a n_6 c], .bool false]))))))))))))) (.nd (.bool (decide ((↑e_3n : Int) ≤ 20))) (.nd (.int .i64 (↑e_3n : Int)) (.nd (.slice e_3p e_3n e_3c) (.need (AV.pp 3 3 = AV.pp 3 3) (.nd (.bool (decide ((↑e_3n : Int) ≤ 20))) (.nd (.int .i64 (↑e_3n : Int)) (.nd (.slice e_3p e_3n e_3c) (.need (AV.pp 3 3 = AV.pp 3 3) (.leaf (.ret (.tuple #[.agg #[.int .i64 n, .int .i64 n_1, .int .i64 n_2, .int .i64 n_3, .int .i64 n_4, .int .i64 n_5, .slice a n_6 c], .bool false])))))))))))))))))) (fun vs => .popI .i64 vs fun n vs => .popI .i64 vs fun n vs => .popI .i64 vs fun n vs => .popI .i64 vs fun n vs => .popI .i64 vs fun n vs => .popI .i64 vs fun n vs => .popS vs fun a n c vs => .unNil vs (.leaf (.ret (.tuple #[.agg #[.int .i64 0, .int .i64 0, .int .i64 0, .int .i64 0, .int .i64 0, .int .i64 0, .slice none 0 0], .bool false])))) fun x x_6 => .fail
theorem w2035 (x_0 x_1 x_2 x_3 x_4 x_5 : Int) (x_6p : Option Addr) (x_6n x_6c : Nat) (e_0 e_1 e_2 : Int) (e_3p : Option Addr) (e_3n e_3c : Nat) (e_4 : Int) (hX : XOK X) (hw : (n2035 x_0 x_1 x_2 x_3 x_4 x_5 x_6p x_6n x_6c e_0 e_1 e_2 e_3p e_3n e_3c e_4).wp X Tryz.prog (retQ A) h) : FWK X Tryz.prog .normal 37 #[.agg #[.int .i64 x_0, .int .i64 x_1, .int .i64 x_2, .int .i64 x_3, .int .i64 x_4, .int .i64 x_5, .slice x_6p x_6n x_6c], .agg #[.int .i64 e_0, .int .i64 e_1, .int .i64 e_2, .slice e_3p e_3n e_3c, .int .i64 e_4]] h A := fwk_neat (show ftree ({ P := Tryz.prog, priv := [2, 3, 4, 6], loops := [], joins := [{ id := 3, slots := [(28672, .int .i64), (28673, .int .i64), (28674, .int .i64), (28675, .int .i64), (28676, .int .i64), (28677, .int .i64), (28678, .slice)], ro := [2, 3, 4], outs := [] }] }) Tryz.f37 [.agg #[.int .i64 x_0, .int .i64 x_1, .int .i64 x_2, .int .i64 x_3, .int .i64 x_4, .int .i64 x_5, .slice x_6p x_6n x_6c], .agg #[.int .i64 e_0, .int .i64 e_1, .int .i64 e_2, .slice e_3p e_3n e_3c, .int .i64 e_4]] = n2035 x_0 x_1 x_2 x_3 x_4 x_5 x_6p x_6n x_6c e_0 e_1 e_2 e_3p e_3n e_3c e_4 by kernel_rfl) (by simp) (by kernel_rfl) (by kernel_rfl) hX hw
noncomputable def n2048  : T := .sem false (Instr.buildSlice 30 3 #[(0, .int .i64 0), (1, .int .i64 1), (2, .int .i64 2)]) fun v => .unS v fun a n c => .sem false (Instr.buildSlice 30 1 #[(0, .int .i64 1)]) fun v => .unS v fun a_1 n_1 c_1 => .sem false (Instr.buildSlice 30 1 #[(0, .int .i64 1)]) fun v => .unS v fun a_2 n_2 c_2 => .sem false (Instr.buildSlice 30 1 #[(0, .int .i64 2)]) fun v => .unS v fun a_3 n_3 c_3 => .sem false (Instr.buildSlice 30 1 #[(0, .int .i64 0)]) fun v => .unS v fun a_4 n_4 c_4 => .sem false (Instr.buildSlice 30 1 #[(0, .int .i64 0)]) fun v => .unS v fun a_5 n_5 c_5 => .sem false (Instr.buildSlice 30 2 #[(0, .int .i64 0), (1, .int .i64 1)]) fun v => .unS v fun a_6 n_6 c_6 => .sem false (Instr.buildSlice 30 1 #[(0, .int .i64 1)]) fun v => .unS v fun a_7 n_7 c_7 => .sem false (Instr.buildSlice 30 1 #[(0, .int .i64 1)]) fun v => .unS v fun a_8 n_8 c_8 => .sem false (Instr.buildSlice 30 1 #[(0, .int .i64 0)]) fun v => .unS v fun a_9 n_9 c_9 => .sem false (Instr.buildSlice 80 10 #[(0, .agg #[.int .i64 0, .int .i64 12, .int .i64 0, .slice a n c, .int .i64 0]), (1, .agg #[.int .i64 1, .int .i64 15, .int .i64 0, .slice a_1 n_1 c_1, .int .i64 0]), (2, .agg #[.int .i64 2, .int .i64 25, .int .i64 0, .slice a_2 n_2 c_2, .int .i64 0]), (3, .agg #[.int .i64 3, .int .i64 22, .int .i64 0, .slice a_3 n_3 c_3, .int .i64 0]), (4, .agg #[.int .i64 4, .int .i64 40, .int .i64 0, .slice a_4 n_4 c_4, .int .i64 30]), (5, .agg #[.int .i64 5, .int .i64 44, .int .i64 0, .slice a_5 n_5 c_5, .int .i64 0]), (6, .agg #[.int .i64 0, .int .i64 20, .int .i64 1, .slice a_6 n_6 c_6, .int .i64 0]), (7, .agg #[.int .i64 1, .int .i64 27, .int .i64 1, .slice a_7 n_7 c_7, .int .i64 0]), (8, .agg #[.int .i64 4, .int .i64 50, .int .i64 0, .slice a_8 n_8 c_8, .int .i64 31]), (9, .agg #[.int .i64 6, .int .i64 18, .int .i64 0, .slice a_9 n_9 c_9, .int .i64 3])]) fun v => .unS v fun a n c => .leaf (.ret (.agg #[.int .i64 3, .int .i64 2, .int .i64 10, .int .i64 20, .int .i64 6, .int .i64 5, .slice a n c]))
theorem w2048  (hX : XOK X) (hw : (n2048 ).wp X Tryz.prog (retQ A) h) : FWK X Tryz.prog .normal 87 #[] h A := fwk_neat (show ftree ({ P := Tryz.prog, priv := [0], loops := [], joins := [] }) Tryz.f87 [] = n2048  by kernel_rfl) (by simp) (by kernel_rfl) (by kernel_rfl) hX hw
noncomputable def n2049 (a b : Int) : T := .leaf (.ret (.agg #[.int .i64 a, .int .i64 b]))
theorem w2049 (a b : Int) (hX : XOK X) (hw : (n2049 a b).wp X Tryz.prog (retQ A) h) : FWK X Tryz.prog .normal 95 #[.int .i64 a, .int .i64 b] h A := fwk_neat (show ftree ({ P := Tryz.prog, priv := [4], loops := [], joins := [] }) Tryz.f95 [.int .i64 a, .int .i64 b] = n2049 a b by kernel_rfl) (by simp) (by kernel_rfl) (by kernel_rfl) hX hw
end Go.Proofs.YtldamlcehbdkdaaGreatDoor
end
section
namespace Go.Proofs.YtldamlcehbdkdaaGreatDoor.Tre
open Go Go.TM Go.Proofs Go.TM.Tr
attribute [local irreducible] T.wp CV FWK
def bigB (x : TF) : Bool := decide (20 < x.events.length) || x.events.any fun e => decide (20 < e.items.length)
theorem c2016 {h : LH} {f : TC} {x : TF} (hx : TreatyR h.get f x) : Pu Tryz.prog 38 #[treatyV f x] h (.bool (bigB x)) := by
 refine w2016 _ _ _ _ _ _ _ _ _ X0_ok ?_
 unfold n2016
 have hn := hx.2.1
 have hb := hx.2.2.1
 refine t_if (fun e => ?_) (fun e => ?_)
 ·exact t_ret ⟨by rw [bigB, decide_eq_true (by omega)]; rfl, rfl⟩
 have h0 : bigB x = x.events.any fun e => decide (20 < e.items.length) := by rw [bigB, decide_eq_false (by omega)]; rfl
 refine t_loop (fun mm vs h' => h = h' ∧ ∃ j : Nat, vs = [.bool false, .int .i64 j] ∧ j ≤ f.n ∧ mm = f.n - j ∧ bigB x = (x.events.drop j).any fun e => decide (20 < e.items.length)) ⟨rfl, 0, rfl, Nat.zero_le _, rfl, h0⟩ ?_
 rintro Y mm vs _ hY ⟨rfl, j, rfl, hj, rfl, hc⟩
 refine gZ ?_
 refine t_if (fun e1 => ?_) (fun e1 => ?_)
 ·obtain ⟨y, a, hy, ha, g0, g1, g2, ⟨q, m, c, g3, _, g5⟩, g4⟩ := hx.2.at (i := j) (by omega)
  rw [drop_of hy, List.any_cons] at hc
  have hm := g5.1
  refine gZ ?_
  refine t_if (fun e2 => ?_) (fun e2 => ?_)
  ·refine gZ ?_
   rw [decide_eq_true (by omega), Bool.true_or] at hc
   exact t_ret ⟨by rw [hc], rfl⟩
  ·rw [decide_eq_false (by omega), Bool.false_or] at hc
   refine t_again (hY (f.n - (j + 1)) _ _ (by omega) ⟨rfl, j + 1, ?_, by omega, rfl, hc⟩)
   rw [wrap_id (by omega) (by omega)]; rfl
 ·refine gZ ?_
  rw [List.drop_eq_nil_of_le (by omega)] at hc
  exact t_ret ⟨by rw [hc]; rfl, rfl⟩
def fitB (x : TF) : Bool := !bigB x && (checkT x == 0)
theorem c2031 {h : LH} {f : TC} {x : TF} (hx : TreatyR h.get f x) : Pu Tryz.prog 32 #[treatyV f x] h (.bool (fitB x)) := by
 refine w2031 _ _ _ _ _ _ _ _ _ X0_ok ?_
 unfold n2031
 refine t_pu (c2016 hx) ?_
 refine gZ ?_
 refine t_cond (fun e => ?_) (fun e => ?_)
 ·refine t_pu (c2022 hx) ?_
  refine gZ ?_
  exact t_ret ⟨by rw [fitB, e]; rfl, rfl⟩
 ·exact t_ret ⟨by rw [fitB, e]; rfl, rfl⟩
theorem fit_ok {x : TF} (h : fitB x = true) : checkT x = 0 := by
 unfold fitB at h
 simp at h; exact h.2
theorem c2049 {h : LH} (a b : Int) : Pu Tryz.prog 95 #[.int .i64 a, .int .i64 b] h (.agg #[.int .i64 a, .int .i64 b]) := by
 refine w2049 _ _ X0_ok ?_
 unfold n2049
 exact t_ret ⟨rfl, rfl⟩
section
variable {X : XP} {Q : Leaf → LH → Prop} {h : LH} {n : Nat} {parts : Array (Nat × Value)} {k : Value → T}
theorem t_ints (l : List Int) (hn : n * 1 ≤ 2 ^ 24) (hl : l.length = n) (hpos : n * 1 ≠ 0)
  (hf : Instr.fill (fun i => some (i * 1, 1)) ((Array.range (n * 1)).map ((Value.int .i64 0).cells[· % (Value.int .i64 0).cells.size]!)) parts.toList = some (l.map (Value.int .i64)).toArray)
  (hk : ∀ r h', h.le h' → Sl IntE 1 h'.get (some ⟨r, 0, none⟩) n l → (k (.slice (some ⟨r, 0, none⟩) n n)).wp X Tryz.prog Q h') : (T.sem false (Instr.buildSlice 30 n parts) k).wp X Tryz.prog Q h := by
 refine t_buildR (l.map (Value.int .i64)) und50 inf3 hn hpos hf fun r h' le _ hc => hk r h' le ?_
 refine ⟨hl.symm, by omega, fun i x hx => ⟨_, rfl, ?_⟩⟩
 unfold IntE
 rw [Nat.mul_one]
 exact hc i _ (by rw [List.getElem?_map, hx]; rfl)
theorem t_bools (l : List Bool) (hn : n * 1 ≤ 2 ^ 24) (hl : l.length = n) (hpos : n * 1 ≠ 0)
  (hf : Instr.fill (fun i => some (i * 1, 1)) ((Array.range (n * 1)).map ((Value.bool false).cells[· % (Value.bool false).cells.size]!)) parts.toList = some (l.map Value.bool).toArray)
  (hk : ∀ r h', h.le h' → Sl BoolE 1 h'.get (some ⟨r, 0, none⟩) n l → (k (.slice (some ⟨r, 0, none⟩) n n)).wp X Tryz.prog Q h') : (T.sem false (Instr.buildSlice 95 n parts) k).wp X Tryz.prog Q h := by
 refine t_buildR (l.map Value.bool) undBs inf4 hn hpos hf fun r h' le _ hc => hk r h' le ?_
 refine ⟨hl.symm, by omega, fun i x hx => ⟨_, rfl, ?_⟩⟩
 unfold BoolE
 rw [Nat.mul_one, add_zero']
 exact hc i _ (by rw [List.getElem?_map, hx]; rfl)
end
theorem sp_two {h : Cells} {r : Nat} {a b : Sp} (hc : ∀ (j : Nat) w, [Value.int .i64 a.first, .int .i64 a.last, .int .i64 b.first, .int .i64 b.last][j]? = some w → h.cell? (Addr.add ⟨r, 0, none⟩ j) = some w) : Sl SpE 2 h (some ⟨r, 0, none⟩) 2 [a, b] := by
 refine ⟨rfl, by simp, fun i x hx => ⟨_, rfl, ?_⟩⟩
 match i, hx with
 | 0, hx => cases hx; exact ⟨hc 0 _ rfl, hc 1 _ rfl⟩
 | 1, hx => cases hx; exact ⟨by rw [add_plain, add_plain]; exact hc 2 _ rfl, by rw [add_plain, add_plain]; exact hc 3 _ rfl⟩
 | i + 2, hx => simp at hx
def exT : TF := ⟨3, 2, 10, 20, 6, 5, [⟨0, 12, 0, [0, 1, 2], 0⟩, ⟨1, 15, 0, [1], 0⟩, ⟨2, 25, 0, [1], 0⟩, ⟨3, 22, 0, [2], 0⟩, ⟨4, 40, 0, [0], 30⟩, ⟨5, 44, 0, [0], 0⟩, ⟨0, 20, 1, [0, 1], 0⟩, ⟨1, 27, 1, [1], 0⟩, ⟨4, 50, 0, [1], 31⟩, ⟨6, 18, 0, [0], 3⟩]⟩
set_option maxRecDepth 10000 in
theorem c2048 {h : LH} : Gr Tryz.prog 87 #[] h fun r h' => ∃ f, r = treatyV f exT ∧ TreatyR h'.get f exT := by
 refine w2048 X0_ok ?_
 unfold n2048
 refine t_ints [0, 1, 2] (by decide) rfl (by decide) (by kernel_rfl) fun r0 h0 l0 s0 => ?_
 refine gZ ?_
 refine t_ints [1] (by decide) rfl (by decide) (by kernel_rfl) fun r1 h1 l1 s1 => ?_
 refine gZ ?_
 refine t_ints [1] (by decide) rfl (by decide) (by kernel_rfl) fun r2 h2 l2 s2 => ?_
 refine gZ ?_
 refine t_ints [2] (by decide) rfl (by decide) (by kernel_rfl) fun r3 h3 l3 s3 => ?_
 refine gZ ?_
 refine t_ints [0] (by decide) rfl (by decide) (by kernel_rfl) fun r4 h4 l4 s4 => ?_
 refine gZ ?_
 refine t_ints [0] (by decide) rfl (by decide) (by kernel_rfl) fun r5 h5 l5 s5 => ?_
 refine gZ ?_
 refine t_ints [0, 1] (by decide) rfl (by decide) (by kernel_rfl) fun r6 h6 l6 s6 => ?_
 refine gZ ?_
 refine t_ints [1] (by decide) rfl (by decide) (by kernel_rfl) fun r7 h7 l7 s7 => ?_
 refine gZ ?_
 refine t_ints [1] (by decide) rfl (by decide) (by kernel_rfl) fun r8 h8 l8 s8 => ?_
 refine gZ ?_
 refine t_ints [0] (by decide) rfl (by decide) (by kernel_rfl) fun r9 h9 l9 s9 => ?_
 refine gZ ?_
 have s0 := s0.le IntE.grow (LH.le_trans l1 (LH.le_trans l2 (LH.le_trans l3 (LH.le_trans l4 (LH.le_trans l5 (LH.le_trans l6 (LH.le_trans l7 (LH.le_trans l8 (l9))))))))).1
 have s1 := s1.le IntE.grow (LH.le_trans l2 (LH.le_trans l3 (LH.le_trans l4 (LH.le_trans l5 (LH.le_trans l6 (LH.le_trans l7 (LH.le_trans l8 (l9)))))))).1
 have s2 := s2.le IntE.grow (LH.le_trans l3 (LH.le_trans l4 (LH.le_trans l5 (LH.le_trans l6 (LH.le_trans l7 (LH.le_trans l8 (l9))))))).1
 have s3 := s3.le IntE.grow (LH.le_trans l4 (LH.le_trans l5 (LH.le_trans l6 (LH.le_trans l7 (LH.le_trans l8 (l9)))))).1
 have s4 := s4.le IntE.grow (LH.le_trans l5 (LH.le_trans l6 (LH.le_trans l7 (LH.le_trans l8 (l9))))).1
 have s5 := s5.le IntE.grow (LH.le_trans l6 (LH.le_trans l7 (LH.le_trans l8 (l9)))).1
 have s6 := s6.le IntE.grow (LH.le_trans l7 (LH.le_trans l8 (l9))).1
 have s7 := s7.le IntE.grow (LH.le_trans l8 (l9)).1
 have s8 := s8.le IntE.grow (l9).1
 have l09 : h.le h9 := LH.le_trans l0 (LH.le_trans l1 (LH.le_trans l2 (LH.le_trans l3 (LH.le_trans l4 (LH.le_trans l5 (LH.le_trans l6 (LH.le_trans l7 (LH.le_trans l8 (l9)))))))))
 refine t_build undEvs infEv (by decide) (by decide) (cells := #[.int .i64 0, .int .i64 12, .int .i64 0, .slice (some ⟨r0, 0, none⟩) 3 3, .int .i64 0, .int .i64 1, .int .i64 15, .int .i64 0, .slice (some ⟨r1, 0, none⟩) 1 1, .int .i64 0, .int .i64 2, .int .i64 25, .int .i64 0, .slice (some ⟨r2, 0, none⟩) 1 1, .int .i64 0, .int .i64 3, .int .i64 22, .int .i64 0, .slice (some ⟨r3, 0, none⟩) 1 1, .int .i64 0, .int .i64 4, .int .i64 40, .int .i64 0, .slice (some ⟨r4, 0, none⟩) 1 1, .int .i64 30, .int .i64 5, .int .i64 44, .int .i64 0, .slice (some ⟨r5, 0, none⟩) 1 1, .int .i64 0, .int .i64 0, .int .i64 20, .int .i64 1, .slice (some ⟨r6, 0, none⟩) 2 2, .int .i64 0, .int .i64 1, .int .i64 27, .int .i64 1, .slice (some ⟨r7, 0, none⟩) 1 1, .int .i64 0, .int .i64 4, .int .i64 50, .int .i64 0, .slice (some ⟨r8, 0, none⟩) 1 1, .int .i64 31, .int .i64 6, .int .i64 18, .int .i64 0, .slice (some ⟨r9, 0, none⟩) 1 1, .int .i64 3]) (by kernel_rfl) fun r hr => ?_
 have la := LH.upd_le (x := (true, .cells #[.int .i64 0, .int .i64 12, .int .i64 0, .slice (some ⟨r0, 0, none⟩) 3 3, .int .i64 0, .int .i64 1, .int .i64 15, .int .i64 0, .slice (some ⟨r1, 0, none⟩) 1 1, .int .i64 0, .int .i64 2, .int .i64 25, .int .i64 0, .slice (some ⟨r2, 0, none⟩) 1 1, .int .i64 0, .int .i64 3, .int .i64 22, .int .i64 0, .slice (some ⟨r3, 0, none⟩) 1 1, .int .i64 0, .int .i64 4, .int .i64 40, .int .i64 0, .slice (some ⟨r4, 0, none⟩) 1 1, .int .i64 30, .int .i64 5, .int .i64 44, .int .i64 0, .slice (some ⟨r5, 0, none⟩) 1 1, .int .i64 0, .int .i64 0, .int .i64 20, .int .i64 1, .slice (some ⟨r6, 0, none⟩) 2 2, .int .i64 0, .int .i64 1, .int .i64 27, .int .i64 1, .slice (some ⟨r7, 0, none⟩) 1 1, .int .i64 0, .int .i64 4, .int .i64 50, .int .i64 0, .slice (some ⟨r8, 0, none⟩) 1 1, .int .i64 31, .int .i64 6, .int .i64 18, .int .i64 0, .slice (some ⟨r9, 0, none⟩) 1 1, .int .i64 3] 91 (0, 0))) hr
 have rows : Go.TM.Rows (EventEnc h9.get) [.int .i64 0, .int .i64 12, .int .i64 0, .slice (some ⟨r0, 0, none⟩) 3 3, .int .i64 0, .int .i64 1, .int .i64 15, .int .i64 0, .slice (some ⟨r1, 0, none⟩) 1 1, .int .i64 0, .int .i64 2, .int .i64 25, .int .i64 0, .slice (some ⟨r2, 0, none⟩) 1 1, .int .i64 0, .int .i64 3, .int .i64 22, .int .i64 0, .slice (some ⟨r3, 0, none⟩) 1 1, .int .i64 0, .int .i64 4, .int .i64 40, .int .i64 0, .slice (some ⟨r4, 0, none⟩) 1 1, .int .i64 30, .int .i64 5, .int .i64 44, .int .i64 0, .slice (some ⟨r5, 0, none⟩) 1 1, .int .i64 0, .int .i64 0, .int .i64 20, .int .i64 1, .slice (some ⟨r6, 0, none⟩) 2 2, .int .i64 0, .int .i64 1, .int .i64 27, .int .i64 1, .slice (some ⟨r7, 0, none⟩) 1 1, .int .i64 0, .int .i64 4, .int .i64 50, .int .i64 0, .slice (some ⟨r8, 0, none⟩) 1 1, .int .i64 31, .int .i64 6, .int .i64 18, .int .i64 0, .slice (some ⟨r9, 0, none⟩) 1 1, .int .i64 3] exT.events := Go.TM.Rows.snoc (x := (⟨6, 18, 0, [0], 3⟩ : Ev)) (ws := [.int .i64 6, .int .i64 18, .int .i64 0, .slice (some ⟨r9, 0, none⟩) 1 1, .int .i64 3]) (Go.TM.Rows.snoc (x := (⟨4, 50, 0, [1], 31⟩ : Ev)) (ws := [.int .i64 4, .int .i64 50, .int .i64 0, .slice (some ⟨r8, 0, none⟩) 1 1, .int .i64 31]) (Go.TM.Rows.snoc (x := (⟨1, 27, 1, [1], 0⟩ : Ev)) (ws := [.int .i64 1, .int .i64 27, .int .i64 1, .slice (some ⟨r7, 0, none⟩) 1 1, .int .i64 0]) (Go.TM.Rows.snoc (x := (⟨0, 20, 1, [0, 1], 0⟩ : Ev)) (ws := [.int .i64 0, .int .i64 20, .int .i64 1, .slice (some ⟨r6, 0, none⟩) 2 2, .int .i64 0]) (Go.TM.Rows.snoc (x := (⟨5, 44, 0, [0], 0⟩ : Ev)) (ws := [.int .i64 5, .int .i64 44, .int .i64 0, .slice (some ⟨r5, 0, none⟩) 1 1, .int .i64 0]) (Go.TM.Rows.snoc (x := (⟨4, 40, 0, [0], 30⟩ : Ev)) (ws := [.int .i64 4, .int .i64 40, .int .i64 0, .slice (some ⟨r4, 0, none⟩) 1 1, .int .i64 30]) (Go.TM.Rows.snoc (x := (⟨3, 22, 0, [2], 0⟩ : Ev)) (ws := [.int .i64 3, .int .i64 22, .int .i64 0, .slice (some ⟨r3, 0, none⟩) 1 1, .int .i64 0]) (Go.TM.Rows.snoc (x := (⟨2, 25, 0, [1], 0⟩ : Ev)) (ws := [.int .i64 2, .int .i64 25, .int .i64 0, .slice (some ⟨r2, 0, none⟩) 1 1, .int .i64 0]) (Go.TM.Rows.snoc (x := (⟨1, 15, 0, [1], 0⟩ : Ev)) (ws := [.int .i64 1, .int .i64 15, .int .i64 0, .slice (some ⟨r1, 0, none⟩) 1 1, .int .i64 0]) (Go.TM.Rows.snoc (x := (⟨0, 12, 0, [0, 1, 2], 0⟩ : Ev)) (ws := [.int .i64 0, .int .i64 12, .int .i64 0, .slice (some ⟨r0, 0, none⟩) 3 3, .int .i64 0]) (.nil) ⟨_, _, _, rfl, Nat.le_refl _, s0⟩) ⟨_, _, _, rfl, Nat.le_refl _, s1⟩) ⟨_, _, _, rfl, Nat.le_refl _, s2⟩) ⟨_, _, _, rfl, Nat.le_refl _, s3⟩) ⟨_, _, _, rfl, Nat.le_refl _, s4⟩) ⟨_, _, _, rfl, Nat.le_refl _, s5⟩) ⟨_, _, _, rfl, Nat.le_refl _, s6⟩) ⟨_, _, _, rfl, Nat.le_refl _, s7⟩) ⟨_, _, _, rfl, Nat.le_refl _, s8⟩) ⟨_, _, _, rfl, Nat.le_refl _, s9⟩
 refine gZ ?_
 refine t_ret ⟨LH.le_trans l09 la, ⟨some ⟨r, 0, none⟩, 10, 10⟩, rfl, Nat.le_refl _, ?_⟩
 refine rows.sl EventEnc.len (by omega) (EventEnc.e (Rd.of_le la.1)) (el := 91) ⟨rfl, .inr ⟨r, _, rfl, Cells.upd_self _ _ _, rfl, Nat.le_refl _, fun j v hv => by simpa using hv⟩⟩ (by decide)
end Go.Proofs.YtldamlcehbdkdaaGreatDoor.Tre
end
section
namespace Go.Proofs.YtldamlcehbdkdaaGreatDoor.Tre
open Go Go.TM Go.Proofs Go.TM.Tr
attribute [local irreducible] T.wp CV FWK
def datesA (x : TF) (k d : Int) : List Int := if askedDayT x k d = 0 then datesT x k d else []
def protA (x : TF) (k d : Int) : List Bool := if askedDayT x k d = 0 then protT x k d else []
def turnsA (x : TF) (k d : Int) : List Int := if askedDayT x k d = 0 then turnsT x k d else []
def SpansA (x : TF) (k i : Int) (m : List Sp) : Prop := (askedItemT x k i ≠ 0 ∧ m = []) ∨ (askedItemT x k i = 0 ∧ ∃ l, IsDays x l ∧ m = spansT x k i l)
def needA (x : TF) (k i d : Int) : List Int := if askedAllT x k i d = 0 ∧ 0 ≤ dateOn x k i d then needT x k i d else []
def heldA (x : TF) (k i d : Int) : Bool := decide (askedAllT x k i d = 0 ∧ 0 ≤ dateOn x k i d)
theorem SpansA.one {x : TF} {k i : Int} {m m' : List Sp} (h : SpansA x k i m) (h' : SpansA x k i m') : m = m' := by
 rcases h with ⟨h1, rfl⟩ | ⟨h1, l, h2, rfl⟩ <;> rcases h' with ⟨h3, rfl⟩ | ⟨h3, l', h4, rfl⟩
 ·rfl
 ·exact absurd h3 h1
 ·exact absurd h1 h3
 ·rw [h2.one h4]
theorem ProtR.form {h : Cells} {x : TF} {k d : Int} {r : Value} (hr : ProtR h x k d r) : ∃ p n c, r = .tuple #[.slice p n c, .int .i64 (askedDayT x k d)] ∧ Sl BoolE 1 h p n (protA x k d) ∧ n ≤ c := hr
theorem DatesR.form {h : Cells} {x : TF} {k d : Int} {r : Value} (hr : DatesR h x k d r) : ∃ p n c, r = .tuple #[.slice p n c, .int .i64 (askedDayT x k d)] ∧ Sl IntE 1 h p n (datesA x k d) ∧ n ≤ c := by
 rcases hr with ⟨h1, rfl⟩ | ⟨h1, p, n, c, rfl, s, hn⟩
 ·exact ⟨none, 0, 0, rfl, by rw [datesA, if_neg h1]; exact Sl.nil, Nat.le_refl _⟩
 ·exact ⟨p, n, c, by rw [h1], by rw [datesA, if_pos h1]; exact s, hn⟩
theorem TurnsR.form {h : Cells} {x : TF} {k d : Int} {r : Value} (hr : TurnsR h x k d r) : ∃ p n c, r = .tuple #[.slice p n c, .int .i64 (askedDayT x k d)] ∧ Sl IntE 1 h p n (turnsA x k d) ∧ n ≤ c := by
 rcases hr with ⟨h1, rfl⟩ | ⟨h1, p, n, c, rfl, s, hn⟩
 ·exact ⟨none, 0, 0, rfl, by rw [turnsA, if_neg h1]; exact Sl.nil, Nat.le_refl _⟩
 ·exact ⟨p, n, c, by rw [h1], by rw [turnsA, if_pos h1]; exact s, hn⟩
theorem SpansR.form {h : Cells} {x : TF} {k i : Int} {r : Value} (hr : SpansR h x k i r) : ∃ p n c m, r = .tuple #[.slice p n c, .int .i64 (askedItemT x k i)] ∧ SpansA x k i m ∧ Sl SpE 2 h p n m ∧ n ≤ c := by
 rcases hr with ⟨h1, rfl⟩ | ⟨h1, p, n, c, l, rfl, hd, s, hn⟩
 ·exact ⟨none, 0, 0, [], rfl, .inl ⟨h1, rfl⟩, Sl.nil, Nat.le_refl _⟩
 ·exact ⟨p, n, c, _, by rw [h1], .inr ⟨h1, l, hd, rfl⟩, s, hn⟩
theorem NeedsR.form {h : Cells} {x : TF} {k i d : Int} {r : Value} (hr : NeedsR h x k i d r) : ∃ p n c, r = .tuple #[.slice p n c, .bool (heldA x k i d), .int .i64 (askedAllT x k i d)] ∧ Sl IntE 1 h p n (needA x k i d) ∧ n ≤ c := by
 rcases hr with ⟨h1, rfl⟩ | ⟨h1, h2, rfl⟩ | ⟨h1, h2, p, n, c, rfl, s, hn⟩
 ·exact ⟨none, 0, 0, by rw [heldA, decide_eq_false (fun h => h1 h.1)], by rw [needA, if_neg (fun h => h1 h.1)]; exact Sl.nil, Nat.le_refl _⟩
 ·exact ⟨none, 0, 0, by rw [heldA, decide_eq_false (fun h => h2 h.2), h1], by rw [needA, if_neg (fun h => h2 h.2)]; exact Sl.nil, Nat.le_refl _⟩
 ·exact ⟨p, n, c, by rw [heldA, decide_eq_true ⟨h1, h2⟩, h1], by rw [needA, if_pos ⟨h1, h2⟩]; exact s, hn⟩
/-! ### The chapter's examples -/
def exDays : List Int := [0, 12, 15, 18, 20, 22, 25, 27, 40, 44, 50, 10000]
theorem ex_days : IsDays exT exDays := by
 refine ⟨by decide +kernel, fun v => ?_⟩
 simp only [exDays, exT, List.mem_cons, List.not_mem_nil, or_false, exists_eq_or_imp, false_and, exists_false, exists_eq_left]
 omega
theorem ex1 : askedDayT exT 0 15 = 0 ∧ protA exT 0 15 = [true, false, true] := by decide +kernel
theorem ex2 : askedDayT exT 1 40 = 0 ∧ protA exT 1 40 = [false, true, false] := by decide +kernel
theorem ex3 : askedDayT exT 0 18 = 0 ∧ datesA exT 0 18 = [3, -1, 12] := by decide +kernel
theorem ex4 : askedDayT exT 0 44 = 0 ∧ datesA exT 0 44 = [3, 12, -1] := by decide +kernel
theorem ex5 : askedItemT exT 0 0 = 0 ∧ spansT exT 0 0 exDays = [⟨12, 39⟩, ⟨44, 9999⟩] := by decide +kernel
theorem ex6 : askedItemT exT 0 1 = 0 ∧ spansT exT 0 1 exDays = [⟨12, 14⟩, ⟨25, 9999⟩] := by decide +kernel
theorem ex7 : askedDayT exT 1 45 = 0 ∧ turnsA exT 1 45 = [0] := by decide +kernel
theorem ex8 : askedDayT exT 1 46 = 0 ∧ turnsA exT 1 46 = [] := by decide +kernel
theorem ex9 : askedAllT exT 0 0 44 = 0 ∧ heldA exT 0 0 44 = true ∧ needA exT 0 0 44 = [0, 5] := by decide +kernel
theorem ex_spans {i : Int} (h0 : askedItemT exT 0 i = 0) {m : List Sp} (h : SpansA exT 0 i m) : m = spansT exT 0 i exDays := h.one (.inr ⟨h0, _, ex_days, rfl⟩)
set_option maxRecDepth 100000 in
theorem c2017 {h : LH} (hch : h.chans = []) (hpe : h.pend = []) (hk : Kinds h.get) : FW XT Tryz.prog 33 #[] h fun r h' => r = .bool true ∧ Rd h.get h'.get ∧ h'.chans = [] ∧ h'.pend = [] ∧ h'.todo = h.todo := by
 refine w2017 XT_ok ?_
 unfold n2017
 refine t_gr c2048 ?_
 rintro _ h0 le0 ⟨f, rfl, hx⟩
 have e : treatyV f exT = .agg #[.int .i64 3, .int .i64 2, .int .i64 10, .int .i64 20, .int .i64 6, .int .i64 5, .slice f.p f.n f.c] := rfl
 rw [e]
 refine gZ ?_
 have hk0 := hk.le le0.1
 refine t_gr (c2018 hk0 hx 0 15) ?_
 intro r1 h1 le1 hr
 obtain ⟨p1, n1, k1, rfl, s1, _⟩ := hr.form
 rw [ex1.1]; rw [ex1.2] at s1
 refine gZ ?_
 have hk1 := hk0.le le1.1
 have hx1 := hx.le le1.1
 refine t_gr (c2018 hk1 hx1 1 40) ?_
 intro r2 h2 le2 hr
 obtain ⟨p2, n2, k2, rfl, s2, _⟩ := hr.form
 rw [ex2.1]; rw [ex2.2] at s2
 refine gZ ?_
 have hk2 := hk1.le le2.1
 have hx2 := hx1.le le2.1
 refine t_gr (c2026 hk2 hx2 0 18) ?_
 intro r3 h3 le3 hr
 obtain ⟨p3, n3, k3, rfl, s3, _⟩ := hr.form
 rw [ex3.1]; rw [ex3.2] at s3
 refine gZ ?_
 have hk3 := hk2.le le3.1
 have hx3 := hx2.le le3.1
 refine t_gr (c2026 hk3 hx3 0 44) ?_
 intro r4 h4 le4 hr
 obtain ⟨p4, n4, k4, rfl, s4, _⟩ := hr.form
 rw [ex4.1]; rw [ex4.2] at s4
 refine gZ ?_
 have hk4 := hk3.le le4.1
 have hx4 := hx3.le le4.1
 refine t_gr (c2023 hk4 hx4 0 0) ?_
 intro r5 h5 le5 hr
 obtain ⟨p5, n5, k5, m5, rfl, sp5, s5, _⟩ := hr.form
 obtain rfl := ex_spans ex5.1 sp5
 rw [ex5.1]; rw [ex5.2] at s5
 refine gZ ?_
 have hk5 := hk4.le le5.1
 have hx5 := hx4.le le5.1
 refine t_gr (c2023 hk5 hx5 0 1) ?_
 intro r6 h6 le6 hr
 obtain ⟨p6, n6, k6, m6, rfl, sp6, s6, _⟩ := hr.form
 obtain rfl := ex_spans ex6.1 sp6
 rw [ex6.1]; rw [ex6.2] at s6
 refine gZ ?_
 have hk6 := hk5.le le6.1
 have hx6 := hx5.le le6.1
 refine t_gr (c2029 hk6 hx6 1 45) ?_
 intro r7 h7 le7 hr
 obtain ⟨p7, n7, k7, rfl, s7, _⟩ := hr.form
 rw [ex7.1]; rw [ex7.2] at s7
 refine gZ ?_
 have hk7 := hk6.le le7.1
 have hx7 := hx6.le le7.1
 refine t_gr (c2029 hk7 hx7 1 46) ?_
 intro r8 h8 le8 hr
 obtain ⟨p8, n8, k8, rfl, s8, _⟩ := hr.form
 rw [ex8.1]; rw [ex8.2] at s8
 refine gZ ?_
 have hk8 := hk7.le le8.1
 have hx8 := hx7.le le8.1
 have le78 := le8
 have le68 := LH.le_trans le7 le78
 have le58 := LH.le_trans le6 le68
 have le48 := LH.le_trans le5 le58
 have le38 := LH.le_trans le4 le48
 have le28 := LH.le_trans le3 le38
 have le18 := LH.le_trans le2 le28
 have le08 := LH.le_trans le0 (LH.le_trans le1 le18)
 refine t_call (c2044 (by rw [le08.2.1, hch]) (by rw [le08.2.2.1, hpe]) hk8 hx8 0 0 44) ?_
 rintro r9 h9 ⟨rd9, hc9, hp9, ht9, hr⟩
 obtain ⟨p9, n9, k9, rfl, s9, _⟩ := hr.form
 rw [ex9.1, ex9.2.1]; rw [ex9.2.2] at s9
 refine gZ ?_
 have s1 := (s1.le BoolE.grow le18.1).rd BoolE.grow rd9
 have s2 := (s2.le BoolE.grow le28.1).rd BoolE.grow rd9
 have s3 := (s3.le IntE.grow le38.1).rd IntE.grow rd9
 have s4 := (s4.le IntE.grow le48.1).rd IntE.grow rd9
 have s5 := (s5.le SpE.grow le58.1).rd SpE.grow rd9
 have s6 := (s6.le SpE.grow le68.1).rd SpE.grow rd9
 have s7 := (s7.le IntE.grow le78.1).rd IntE.grow rd9
 have s8 := s8.rd IntE.grow rd9
 have hn8 : n8 = 0 := s8.1
 subst hn8
 have rd09 := (Rd.of_le le08.1).trans rd9
 refine t_blk (fun vs h' => vs = [.bool false] ∧ h9 = h') ?_ ?_
 ·refine t_cond (fun e => absurd e (by decide)) (fun _ => ?_)
  refine t_cond (fun e => absurd e (by decide)) (fun _ => ?_)
  refine t_cond (fun e => absurd e (by decide)) (fun _ => ?_)
  refine t_cond (fun e => absurd e (by decide)) (fun _ => ?_)
  refine t_cond (fun e => absurd e (by decide)) (fun _ => ?_)
  refine t_cond (fun e => absurd e (by decide)) (fun _ => ?_)
  refine t_cond (fun e => absurd e (by decide)) (fun _ => ?_)
  refine t_cond (fun e => absurd e (by decide)) (fun _ => ?_)
  refine t_cond (fun e => absurd e (by decide)) (fun _ => ?_)
  exact t_again ⟨rfl, rfl⟩
 rintro vs _ ⟨rfl, rfl⟩
 refine gZ ?_
 refine t_blk (fun vs h' => vs = [.bool false] ∧ h9.le h') ?_ ?_
 ·refine t_bools [true, false, true] (by decide) rfl (by decide) (by kernel_rfl) fun q1 g1 lg1 u1 => ?_
  refine gZ ?_
  have e1 := c2020 (h := g1) (c := k1) (d := 3) (s1.le BoolE.grow lg1.1) u1
  rw [decide_eq_true rfl] at e1
  refine t_pu e1 ?_
  refine gZ ?_
  refine t_cond (fun e => absurd e (by decide)) (fun _ => ?_)
  refine t_bools [false, true, false] (by decide) rfl (by decide) (by kernel_rfl) fun q2 g2 lg2 u2 => ?_
  refine gZ ?_
  have lg := LH.le_trans lg1 lg2
  have e1 := c2020 (h := g2) (c := k2) (d := 3) (s2.le BoolE.grow lg.1) u2
  rw [decide_eq_true rfl] at e1
  refine t_pu e1 ?_
  refine gZ ?_
  refine t_cond (fun e => absurd e (by decide)) (fun _ => ?_)
  refine t_ints [3, -1, 12] (by decide) rfl (by decide) (by kernel_rfl) fun q3 g3 lg3 u3 => ?_
  refine gZ ?_
  have lg := LH.le_trans lg lg3
  have e1 := c35 (h := g3) (c := k3) (d := 3) (s3.le IntE.grow lg.1) u3
  rw [decide_eq_true rfl] at e1
  refine t_pu e1 ?_
  refine gZ ?_
  refine t_cond (fun e => absurd e (by decide)) (fun _ => ?_)
  refine t_ints [3, 12, -1] (by decide) rfl (by decide) (by kernel_rfl) fun q4 g4 lg4 u4 => ?_
  refine gZ ?_
  have lg := LH.le_trans lg lg4
  have e1 := c35 (h := g4) (c := k4) (d := 3) (s4.le IntE.grow lg.1) u4
  rw [decide_eq_true rfl] at e1
  refine t_pu e1 ?_
  refine gZ ?_
  refine t_cond (fun e => absurd e (by decide)) (fun _ => ?_)
  refine t_cond (fun e => absurd e (by decide)) (fun _ => ?_)
  refine t_ints [0, 5] (by decide) rfl (by decide) (by kernel_rfl) fun q5 g5 lg5 u5 => ?_
  refine gZ ?_
  have lg := LH.le_trans lg lg5
  have e1 := c35 (h := g5) (c := k9) (d := 2) (s9.le IntE.grow lg.1) u5
  rw [decide_eq_true rfl] at e1
  refine t_pu e1 ?_
  refine gZ ?_
  refine t_cond (fun e => absurd e (by decide)) (fun _ => ?_)
  exact t_again ⟨rfl, lg⟩
 rintro vs g ⟨rfl, lg⟩
 refine gZ ?_
 refine t_pu (c2049 _ _) ?_
 refine gZ ?_
 refine t_pu (c2049 _ _) ?_
 refine gZ ?_
 refine t_buildR [.int .i64 12, .int .i64 39, .int .i64 44, .int .i64 9999] und22 inf30 (by decide) (by decide) (by kernel_rfl) ?_
 intro q6 g6 lg6 _ u6
 refine gZ ?_
 have lg := LH.le_trans lg lg6
 have e1 := c2025 (h := g6) (c := k5) (d := 2) (s5.le SpE.grow lg.1) (sp_two (a := ⟨12, 39⟩) (b := ⟨44, 9999⟩) u6)
 rw [decide_eq_true rfl] at e1
 refine t_pu e1 ?_
 refine gZ ?_
 refine t_cond (fun _ => ?_) (fun e => by cases e)
 refine t_pu (c2049 _ _) ?_
 refine gZ ?_
 refine t_pu (c2049 _ _) ?_
 refine gZ ?_
 refine t_buildR [.int .i64 12, .int .i64 14, .int .i64 25, .int .i64 9999] und22 inf30 (by decide) (by decide) (by kernel_rfl) ?_
 intro q7 g7 lg7 _ u7
 refine gZ ?_
 have lg := LH.le_trans lg lg7
 have e1 := c2025 (h := g7) (c := k6) (d := 2) (s6.le SpE.grow lg.1) (sp_two (a := ⟨12, 14⟩) (b := ⟨25, 9999⟩) u7)
 rw [decide_eq_true rfl] at e1
 refine t_pu e1 ?_
 refine gZ ?_
 refine t_cond (fun _ => ?_) (fun e => by cases e)
 refine t_ints [0] (by decide) rfl (by decide) (by kernel_rfl) fun q8 g8 lg8 u8 => ?_
 refine gZ ?_
 have lg := LH.le_trans lg lg8
 have e1 := c35 (h := g8) (c := k7) (d := 1) (s7.le IntE.grow lg.1) u8
 rw [decide_eq_true rfl] at e1
 refine t_pu e1 ?_
 refine gZ ?_
 refine t_cond (fun _ => ?_) (fun e => by cases e)
 exact t_ret ⟨rfl, rd09.trans (Rd.of_le lg.1), lg.2.1.trans hc9, lg.2.2.1.trans hp9, by rw [lg.2.2.2, ht9, le08.2.2.2]⟩
def Fin (h : LH) : Value → LH → Prop := fun r h' => r = .bool true ∧ h'.chans = [] ∧ h'.pend = [] ∧ h'.todo = h.todo
structure Idle (h h' : LH) : Prop where
 rd : Rd h.get h'.get
 chans : h'.chans = []
 pend : h'.pend = []
 todo : h'.todo = h.todo
theorem Idle.of {h h' : LH} (hch : h.chans = []) (hpe : h.pend = []) (hle : h.le h') : Idle h h' := ⟨Rd.of_le hle.1, by rw [hle.2.1, hch], by rw [hle.2.2.1, hpe], hle.2.2.2⟩
theorem t_shown {h h' : LH} {k : Bool → T} {Q : Leaf → LH → Prop} (hk : Kinds h.get) (i : Idle h h') (hq : ∀ h'', Idle h h'' → (k true).wp XT Tryz.prog Q h'') :
  (T.call false 33 #[] fun v => T.unB v k).wp XT Tryz.prog Q h' := by
 refine t_call (c2017 i.chans i.pend (hk.rd i.rd)) ?_
 rintro _ h'' ⟨rfl, rd, h2, h3, h4⟩
 exact gC (hq h'' ⟨i.rd.trans rd, h2, h3, h4.trans i.todo⟩)
theorem Idle.fin {h h' : LH} (i : Idle h h') : Fin h (.bool true) h' := ⟨rfl, i.chans, i.pend, i.todo⟩
end Go.Proofs.YtldamlcehbdkdaaGreatDoor.Tre
end
section
namespace Go.Proofs.YtldamlcehbdkdaaGreatDoor
open Go Go.TM Go.Proofs
set_option linter.unusedVariables false
set_option maxRecDepth 100000
variable {X : XP} {h : LH} {A : Value → LH → Prop}
noncomputable def n2039 (x_0 x_1 x_2 x_3 x_4 x_5 : Int) (x_6p : Option Addr) (x_6n x_6c : Nat) (than_0 than_1 than_2 than_3 than_4 than_5 : Int) (than_6p : Option Addr) (than_6n than_6c : Nat) (land day : Int) : T := .call false 88 #[.agg #[.int .i64 x_0, .int .i64 x_1, .int .i64 x_2, .int .i64 x_3, .int .i64 x_4, .int .i64 x_5, .slice x_6p x_6n x_6c], .int .i64 land, .int .i64 day] fun v => .unTup v fun l => .unCons l fun v vs => .unS v fun a n c => .unCons vs fun v vs => .unI .i64 v fun n_1 => .unNil vs (.call false 88 #[.agg #[.int .i64 than_0, .int .i64 than_1, .int .i64 than_2, .int .i64 than_3, .int .i64 than_4, .int .i64 than_5, .slice than_6p than_6n than_6c], .int .i64 land, .int .i64 day] fun v => .unTup v fun l => .unCons l fun v vs => .unS v fun a_1 n_2 c_1 => .unCons vs fun v vs => .unI .i64 v fun n_3 => .unNil vs (.call false 89 #[.agg #[.int .i64 x_0, .int .i64 x_1, .int .i64 x_2, .int .i64 x_3, .int .i64 x_4, .int .i64 x_5, .slice x_6p x_6n x_6c], .int .i64 land, .int .i64 day] fun v => .unTup v fun l => .unCons l fun v vs => .unS v fun a_2 n_4 c_2 => .unCons vs fun v vs => .unI .i64 v fun n_5 => .unNil vs (.call false 89 #[.agg #[.int .i64 than_0, .int .i64 than_1, .int .i64 than_2, .int .i64 than_3, .int .i64 than_4, .int .i64 than_5, .slice than_6p than_6n than_6c], .int .i64 land, .int .i64 day] fun v => .unTup v fun l => .unCons l fun v vs => .unS v fun a_3 n_6 c_3 => .unCons vs fun v vs => .unI .i64 v fun n_7 => .unNil vs (.blk (bif n_1 != 0 then .leaf (.retn [.bool false]) else bif n_3 != 0 then .leaf (.retn [.bool false]) else bif n_5 != 0 then .leaf (.retn [.bool false]) else bif n_7 != 0 then .leaf (.retn [.bool false]) else bif (↑n : Int) != x_0 then .leaf (.retn [.bool false]) else bif (↑n_2 : Int) != x_0 then .leaf (.retn [.bool false]) else bif (↑n_4 : Int) != x_0 then .leaf (.retn [.bool false]) else bif (↑n_6 : Int) != x_0 then .leaf (.retn [.bool false]) else .leaf (.again [.bool false])) (fun vs => .popB vs fun b vs => .unNil vs (.loop [.bool b, .int .i64 0] (fun vs => .popB vs fun b vs => .popI .i64 vs fun n_8 vs => .unNil vs (bif decide (n_8 < (↑n : Int)) then .need (0 ≤ n_8 ∧ n_8 < (↑n_2 : Int)) (.someA a_1 fun a_4 => .loadB (a_4.add (n_8.toNat * 1)) fun b_1 => bif b_1 then .need (0 ≤ n_8 ∧ n_8 < (↑n : Int)) (.someA a fun a_5 => .loadB (a_5.add (n_8.toNat * 1)) fun b_2 => bif !b_2 then .nd (.tuple #[]) (.nd (.tuple #[]) (.nd (.tuple #[]) (.nd (.tuple #[]) (.nd (.tuple #[]) (.nd (.tuple #[]) (.nd (.tuple #[]) (.nd (.bool !b_2) (.nd (.bool !b_2) (.loadB (a_5.add (n_8.toNat * 1)) fun b => .need (AV.val (.bool b) = AV.val (.bool b_2)) (.need (0 ≤ n_8 ∧ n_8 < (↑n : Int)) (.someA a fun a_6 => .need (AV.val (.pointer (some (a_6.add (n_8.toNat * 1)))) = AV.val (.pointer (some (a_5.add (n_8.toNat * 1))))) (.nd (.int .i64 n_8) (.nd (.slice a n c) (.need (AV.val (.bool b_1) = AV.val (.bool true)) (.loadB (a_4.add (n_8.toNat * 1)) fun b => .need (AV.val (.bool b) = AV.val (.bool b_1)) (.need (0 ≤ n_8 ∧ n_8 < (↑n_2 : Int)) (.someA a_1 fun a_7 => .need (AV.val (.pointer (some (a_7.add (n_8.toNat * 1)))) = AV.val (.pointer (some (a_4.add (n_8.toNat * 1))))) (.nd (.int .i64 n_8) (.nd (.slice a_1 n_2 c_1) (.nd (.tuple #[]) (.nd (.tuple #[]) (.nd (.tuple #[]) (.nd (.tuple #[]) (.nd (.tuple #[]) (.nd (.tuple #[]) (.nd (.bool !b_2) (.nd (.bool !b_2) (.loadB (a_5.add (n_8.toNat * 1)) fun b => .need (AV.val (.bool b) = AV.val (.bool b_2)) (.need (0 ≤ n_8 ∧ n_8 < (↑n : Int)) (.someA a fun a_8 => .need (AV.val (.pointer (some (a_8.add (n_8.toNat * 1)))) = AV.val (.pointer (some (a_5.add (n_8.toNat * 1))))) (.nd (.int .i64 n_8) (.nd (.slice a n c) (.need (AV.val (.bool b_1) = AV.val (.bool true)) (.loadB (a_4.add (n_8.toNat * 1)) fun b => .need (AV.val (.bool b) = AV.val (.bool b_1)) (.need (0 ≤ n_8 ∧ n_8 < (↑n_2 : Int)) (.someA a_1 fun a_9 => .need (AV.val (.pointer (some (a_9.add (n_8.toNat * 1)))) = AV.val (.pointer (some (a_4.add (n_8.toNat * 1))))) (.nd (.int .i64 n_8) (.nd (.slice a_1 n_2 c_1) (.nd (.tuple #[]) (.nd (.tuple #[]) (.nd (.tuple #[]) (.nd (.tuple #[]) (.nd (.tuple #[]) (.nd (.tuple #[]) (.nd (.tuple #[]) (.nd (.bool true) (.nd (.tuple #[]) (.nd (.tuple #[]) (.nd (.tuple #[]) (.nd (.tuple #[]) (.nd (.tuple #[]) (.nd (.tuple #[]) (.nd (.bool !b_2) (.nd (.bool !b_2) (.loadB (a_5.add (n_8.toNat * 1)) fun b => .need (AV.val (.bool b) = AV.val (.bool b_2)) (.need (0 ≤ n_8 ∧ n_8 < (↑n : Int)) (.someA a fun a_10 => .need (AV.val (.pointer (some (a_10.add (n_8.toNat * 1)))) = AV.val (.pointer (some (a_5.add (n_8.toNat * 1))))) (.nd (.int .i64 n_8) (.nd (.slice a n c) (.need (AV.val (.bool b_1) = AV.val (.bool true)) (.loadB (a_4.add (n_8.toNat * 1)) fun b => .need (AV.val (.bool b) = AV.val (.bool b_1)) (.need (0 ≤ n_8 ∧ n_8 < (↑n_2 : Int)) (.someA a_1 fun a_11 => .need (AV.val (.pointer (some (a_11.add (n_8.toNat * 1)))) = AV.val (.pointer (some (a_4.add (n_8.toNat * 1))))) (.nd (.int .i64 n_8) (.nd (.slice a_1 n_2 c_1) (.nd (.tuple #[]) (.nd (.tuple #[]) (.nd (.tuple #[]) (.nd (.tuple #[]) (.nd (.tuple #[]) (.nd (.tuple #[]) (.nd (.bool true) (.nd (.tuple #[]) (.nd (.tuple #[]) (.nd (.tuple #[]) (.nd (.tuple #[]) (.nd (.tuple #[]) (.nd (.tuple #[]) (.nd (.bool !b_2) (.nd (.bool !b_2) (.loadB (a_5.add (n_8.toNat * 1)) fun b => .need (AV.val (.bool b) = AV.val (.bool b_2)) (.need (0 ≤ n_8 ∧ n_8 < (↑n : Int)) (.someA a fun a_12 => .need (AV.val (.pointer (some (a_12.add (n_8.toNat * 1)))) = AV.val (.pointer (some (a_5.add (n_8.toNat * 1))))) (.nd (.int .i64 n_8) (.nd (.slice a n c) (.need (AV.val (.bool b_1) = AV.val (.bool true)) (.loadB (a_4.add (n_8.toNat * 1)) fun b => .need (AV.val (.bool b) = AV.val (.bool b_1)) (.need (0 ≤ n_8 ∧ n_8 < (↑n_2 : Int)) (.someA a_1 fun a_13 => .need (AV.val (.pointer (some (a_13.add (n_8.toNat * 1)))) = AV.val (.pointer (some (a_4.add (n_8.toNat * 1))))) (.nd (.int .i64 n_8) (.nd (.slice a_1 n_2 c_1) (.nd (.tuple #[]) (.nd (.tuple #[]) (.nd (.tuple #[]) (.nd (.tuple #[]) (.nd (.tuple #[]) (.nd (.tuple #[]) (.nd (.tuple #[]) (.nd (.tuple #[]) (.nd (.tuple #[]) (.nd (.tuple #[]) (.nd (.bool true) (.nd (.bool true) (.nd (.tuple #[]) (.nd (.tuple #[]) (.nd (.tuple #[]) (.nd (.tuple #[]) (.nd (.tuple #[]) (.nd (.tuple #[]) (.nd (.bool true) (.nd (.tuple #[]) (.nd (.tuple #[]) (.nd (.tuple #[]) (.nd (.tuple #[]) (.nd (.tuple #[]) (.nd (.tuple #[]) (.nd (.bool !b_2) (.nd (.bool !b_2) (.loadB (a_5.add (n_8.toNat * 1)) fun b => .need (AV.val (.bool b) = AV.val (.bool b_2)) (.need (0 ≤ n_8 ∧ n_8 < (↑n : Int)) (.someA a fun a_14 => .need (AV.val (.pointer (some (a_14.add (n_8.toNat * 1)))) = AV.val (.pointer (some (a_5.add (n_8.toNat * 1))))) (.nd (.int .i64 n_8) (.nd (.slice a n c) (.need (AV.val (.bool b_1) = AV.val (.bool true)) (.loadB (a_4.add (n_8.toNat * 1)) fun b => .need (AV.val (.bool b) = AV.val (.bool b_1)) (.need (0 ≤ n_8 ∧ n_8 < (↑n_2 : Int)) (.someA a_1 fun a => .need (AV.val (.pointer (some (a.add (n_8.toNat * 1)))) = AV.val (.pointer (some (a_4.add (n_8.toNat * 1))))) (.nd (.int .i64 n_8) (.nd (.slice a_1 n_2 c_1) (.leaf (.retn [.bool false, .int .i64 n_8]))))))))))))))))))))))))))))))))))))))))))))))))))))))))))))))))))))))))))))))))))))))))))))))))))))))))))))))))))))))))))))))))))) else .need (0 ≤ n_8 ∧ n_8 < (↑n : Int)) (.someA a fun a_6 => .loadB (a_6.add (n_8.toNat * 1)) fun b_3 => .need (0 ≤ n_8 ∧ n_8 < (↑n_4 : Int)) (.someA a_2 fun a_7 => .loadI .i64 (a_7.add (n_8.toNat * 1)) fun n_9 => bif !b_3 == decide (n_9 ≥ 0) then .nd (.tuple #[]) (.nd (.tuple #[]) (.nd (.tuple #[]) (.nd (.tuple #[]) (.nd (.tuple #[]) (.nd (.tuple #[]) (.nd (.tuple #[]) (.nd (.bool !b_3 == decide (n_9 ≥ 0)) (.nd (.bool !b_3 == decide (n_9 ≥ 0)) (.nd (.bool (decide (n_9 ≥ 0))) (.loadI .i64 (a_7.add (n_8.toNat * 1)) fun n_10 => .need (AV.val (.int .i64 n_10) = AV.val (.int .i64 n_9)) (.need (0 ≤ n_8 ∧ n_8 < (↑n_4 : Int)) (.someA a_2 fun a_8 => .need (AV.val (.pointer (some (a_8.add (n_8.toNat * 1)))) = AV.val (.pointer (some (a_7.add (n_8.toNat * 1))))) (.nd (.int .i64 n_8) (.nd (.slice a_2 n_4 c_2) (.loadB (a_6.add (n_8.toNat * 1)) fun b => .need (AV.val (.bool b) = AV.val (.bool b_3)) (.need (0 ≤ n_8 ∧ n_8 < (↑n : Int)) (.someA a fun a_9 => .need (AV.val (.pointer (some (a_9.add (n_8.toNat * 1)))) = AV.val (.pointer (some (a_6.add (n_8.toNat * 1))))) (.nd (.int .i64 n_8) (.nd (.slice a n c) (.need (AV.val (.bool !b_2) = AV.val (.bool false)) (.nd (.bool !b_2) (.nd (.bool !b_2) (.loadB (a_5.add (n_8.toNat * 1)) fun b => .need (AV.val (.bool b) = AV.val (.bool b_2)) (.need (0 ≤ n_8 ∧ n_8 < (↑n : Int)) (.someA a fun a_10 => .need (AV.val (.pointer (some (a_10.add (n_8.toNat * 1)))) = AV.val (.pointer (some (a_5.add (n_8.toNat * 1))))) (.nd (.int .i64 n_8) (.nd (.slice a n c) (.need (AV.val (.bool b_1) = AV.val (.bool true)) (.loadB (a_4.add (n_8.toNat * 1)) fun b => .need (AV.val (.bool b) = AV.val (.bool b_1)) (.need (0 ≤ n_8 ∧ n_8 < (↑n_2 : Int)) (.someA a_1 fun a_11 => .need (AV.val (.pointer (some (a_11.add (n_8.toNat * 1)))) = AV.val (.pointer (some (a_4.add (n_8.toNat * 1))))) (.nd (.int .i64 n_8) (.nd (.slice a_1 n_2 c_1) (.nd (.tuple #[]) (.nd (.tuple #[]) (.nd (.tuple #[]) (.nd (.tuple #[]) (.nd (.tuple #[]) (.nd (.tuple #[]) (.nd (.bool !b_3 == decide (n_9 ≥ 0)) (.nd (.bool !b_3 == decide (n_9 ≥ 0)) (.nd (.bool (decide (n_9 ≥ 0))) (.loadI .i64 (a_7.add (n_8.toNat * 1)) fun n_11 => .need (AV.val (.int .i64 n_11) = AV.val (.int .i64 n_9)) (.need (0 ≤ n_8 ∧ n_8 < (↑n_4 : Int)) (.someA a_2 fun a_12 => .need (AV.val (.pointer (some (a_12.add (n_8.toNat * 1)))) = AV.val (.pointer (some (a_7.add (n_8.toNat * 1))))) (.nd (.int .i64 n_8) (.nd (.slice a_2 n_4 c_2) (.loadB (a_6.add (n_8.toNat * 1)) fun b => .need (AV.val (.bool b) = AV.val (.bool b_3)) (.need (0 ≤ n_8 ∧ n_8 < (↑n : Int)) (.someA a fun a_13 => .need (AV.val (.pointer (some (a_13.add (n_8.toNat * 1)))) = AV.val (.pointer (some (a_6.add (n_8.toNat * 1))))) (.nd (.int .i64 n_8) (.nd (.slice a n c) (.need (AV.val (.bool !b_2) = AV.val (.bool false)) (.nd (.bool !b_2) (.nd (.bool !b_2) (.loadB (a_5.add (n_8.toNat * 1)) fun b => .need (AV.val (.bool b) = AV.val (.bool b_2)) (.need (0 ≤ n_8 ∧ n_8 < (↑n : Int)) (.someA a fun a_14 => .need (AV.val (.pointer (some (a_14.add (n_8.toNat * 1)))) = AV.val (.pointer (some (a_5.add (n_8.toNat * 1))))) (.nd (.int .i64 n_8) (.nd (.slice a n c) (.need (AV.val (.bool b_1) = AV.val (.bool true)) (.loadB (a_4.add (n_8.toNat * 1)) fun b => .need (AV.val (.bool b) = AV.val (.bool b_1)) (.need (0 ≤ n_8 ∧ n_8 < (↑n_2 : Int)) (.someA a_1 fun a_15 => .need (AV.val (.pointer (some (a_15.add (n_8.toNat * 1)))) = AV.val (.pointer (some (a_4.add (n_8.toNat * 1))))) (.nd (.int .i64 n_8) (.nd (.slice a_1 n_2 c_1) (.nd (.tuple #[]) (.nd (.tuple #[]) (.nd (.tuple #[]) (.nd (.tuple #[]) (.nd (.tuple #[]) (.nd (.tuple #[]) (.nd (.tuple #[]) (.nd (.tuple #[]) (.nd (.tuple #[]) (.nd (.tuple #[]) (.nd (.bool true) (.nd (.bool true) (.nd (.tuple #[]) (.nd (.tuple #[]) (.nd (.tuple #[]) (.nd (.tuple #[]) (.nd (.tuple #[]) (.nd (.tuple #[]) (.nd (.bool !b_3 == decide (n_9 ≥ 0)) (.nd (.bool !b_3 == decide (n_9 ≥ 0)) (.nd (.bool (decide (n_9 ≥ 0))) (.loadI .i64 (a_7.add (n_8.toNat * 1)) fun n_12 => .need (AV.val (.int .i64 n_12) = AV.val (.int .i64 n_9)) (.need (0 ≤ n_8 ∧ n_8 < (↑n_4 : Int)) (.someA a_2 fun a_16 => .need (AV.val (.pointer (some (a_16.add (n_8.toNat * 1)))) = AV.val (.pointer (some (a_7.add (n_8.toNat * 1))))) (.nd (.int .i64 n_8) (.nd (.slice a_2 n_4 c_2) (.loadB (a_6.add (n_8.toNat * 1)) fun b => .need (AV.val (.bool b) = AV.val (.bool b_3)) (.need (0 ≤ n_8 ∧ n_8 < (↑n : Int)) (.someA a fun a_17 => .need (AV.val (.pointer (some (a_17.add (n_8.toNat * 1)))) = AV.val (.pointer (some (a_6.add (n_8.toNat * 1))))) (.nd (.int .i64 n_8) (.nd (.slice a n c) (.need (AV.val (.bool !b_2) = AV.val (.bool false)) (.nd (.bool !b_2) (.nd (.bool !b_2) (.loadB (a_5.add (n_8.toNat * 1)) fun b => .need (AV.val (.bool b) = AV.val (.bool b_2)) (.need (0 ≤ n_8 ∧ n_8 < (↑n : Int)) (.someA a fun a_18 => .need (AV.val (.pointer (some (a_18.add (n_8.toNat * 1)))) = AV.val (.pointer (some (a_5.add (n_8.toNat * 1))))) (.nd (.int .i64 n_8) (.nd (.slice a n c) (.need (AV.val (.bool b_1) = AV.val (.bool true)) (.loadB (a_4.add (n_8.toNat * 1)) fun b => .need (AV.val (.bool b) = AV.val (.bool b_1)) (.need (0 ≤ n_8 ∧ n_8 < (↑n_2 : Int)) (.someA a_1 fun a => .need (AV.val (.pointer (some (a.add (n_8.toNat * 1)))) = AV.val (.pointer (some (a_4.add (n_8.toNat * 1))))) (.nd (.int .i64 n_8) (.nd (.slice a_1 n_2 c_1) (.leaf (.retn [.bool false, .int .i64 n_8]))))))))))))))))))))))))))))))))))))))))))))))))))))))))))))))))))))))))))))))))))))))))))))))))))))))))))))))))) else .need (0 ≤ n_8 ∧ n_8 < (↑n_2 : Int)) (.someA a_1 fun a_8 => .loadB (a_8.add (n_8.toNat * 1)) fun b_4 => .need (0 ≤ n_8 ∧ n_8 < (↑n_6 : Int)) (.someA a_3 fun a_9 => .loadI .i64 (a_9.add (n_8.toNat * 1)) fun n_10 => bif !b_4 == decide (n_10 ≥ 0) then .nd (.tuple #[]) (.nd (.tuple #[]) (.nd (.tuple #[]) (.nd (.tuple #[]) (.nd (.tuple #[]) (.nd (.tuple #[]) (.nd (.tuple #[]) (.nd (.tuple #[]) (.nd (.tuple #[]) (.nd (.tuple #[]) (.need (AV.val (.bool !b_4 == decide (n_10 ≥ 0)) = AV.val (.bool true)) (.nd (.bool !b_4 == decide (n_10 ≥ 0)) (.nd (.bool !b_4 == decide (n_10 ≥ 0)) (.nd (.bool (decide (n_10 ≥ 0))) (.loadI .i64 (a_9.add (n_8.toNat * 1)) fun n_11 => .need (AV.val (.int .i64 n_11) = AV.val (.int .i64 n_10)) (.need (0 ≤ n_8 ∧ n_8 < (↑n_6 : Int)) (.someA a_3 fun a_10 => .need (AV.val (.pointer (some (a_10.add (n_8.toNat * 1)))) = AV.val (.pointer (some (a_9.add (n_8.toNat * 1))))) (.nd (.int .i64 n_8) (.nd (.slice a_3 n_6 c_3) (.loadB (a_8.add (n_8.toNat * 1)) fun b => .need (AV.val (.bool b) = AV.val (.bool b_4)) (.need (0 ≤ n_8 ∧ n_8 < (↑n_2 : Int)) (.someA a_1 fun a_11 => .need (AV.val (.pointer (some (a_11.add (n_8.toNat * 1)))) = AV.val (.pointer (some (a_8.add (n_8.toNat * 1))))) (.nd (.int .i64 n_8) (.nd (.slice a_1 n_2 c_1) (.need (AV.val (.bool !b_3 == decide (n_9 ≥ 0)) = AV.val (.bool false)) (.nd (.bool !b_3 == decide (n_9 ≥ 0)) (.nd (.bool !b_3 == decide (n_9 ≥ 0)) (.nd (.bool (decide (n_9 ≥ 0))) (.loadI .i64 (a_7.add (n_8.toNat * 1)) fun n_12 => .need (AV.val (.int .i64 n_12) = AV.val (.int .i64 n_9)) (.need (0 ≤ n_8 ∧ n_8 < (↑n_4 : Int)) (.someA a_2 fun a_12 => .need (AV.val (.pointer (some (a_12.add (n_8.toNat * 1)))) = AV.val (.pointer (some (a_7.add (n_8.toNat * 1))))) (.nd (.int .i64 n_8) (.nd (.slice a_2 n_4 c_2) (.loadB (a_6.add (n_8.toNat * 1)) fun b => .need (AV.val (.bool b) = AV.val (.bool b_3)) (.need (0 ≤ n_8 ∧ n_8 < (↑n : Int)) (.someA a fun a_13 => .need (AV.val (.pointer (some (a_13.add (n_8.toNat * 1)))) = AV.val (.pointer (some (a_6.add (n_8.toNat * 1))))) (.nd (.int .i64 n_8) (.nd (.slice a n c) (.need (AV.val (.bool !b_2) = AV.val (.bool false)) (.nd (.bool !b_2) (.nd (.bool !b_2) (.loadB (a_5.add (n_8.toNat * 1)) fun b => .need (AV.val (.bool b) = AV.val (.bool b_2)) (.need (0 ≤ n_8 ∧ n_8 < (↑n : Int)) (.someA a fun a_14 => .need (AV.val (.pointer (some (a_14.add (n_8.toNat * 1)))) = AV.val (.pointer (some (a_5.add (n_8.toNat * 1))))) (.nd (.int .i64 n_8) (.nd (.slice a n c) (.need (AV.val (.bool b_1) = AV.val (.bool true)) (.loadB (a_4.add (n_8.toNat * 1)) fun b => .need (AV.val (.bool b) = AV.val (.bool b_1)) (.need (0 ≤ n_8 ∧ n_8 < (↑n_2 : Int)) (.someA a_1 fun a => .need (AV.val (.pointer (some (a.add (n_8.toNat * 1)))) = AV.val (.pointer (some (a_4.add (n_8.toNat * 1))))) (.nd (.int .i64 n_8) (.nd (.slice a_1 n_2 c_1) (.leaf (.retn [.bool false, .int .i64 n_8]))))))))))))))))))))))))))))))))))))))))))))))))))))) else .need (0 ≤ n_8 ∧ n_8 < (↑n_2 : Int)) (.someA a_1 fun a_10 => .loadB (a_10.add (n_8.toNat * 1)) fun b_5 => bif b_5 then .need (0 ≤ n_8 ∧ n_8 < (↑n_4 : Int)) (.someA a_2 fun a => .loadI .i64 (a.add (n_8.toNat * 1)) fun n => .need (0 ≤ n_8 ∧ n_8 < (↑n_6 : Int)) (.someA a_3 fun a => .loadI .i64 (a.add (n_8.toNat * 1)) fun n_11 => bif decide (n > n_11) then .leaf (.retn [.bool false, .int .i64 n_8]) else .leaf (.again [.bool b, .int .i64 (IntKind.wrap .i64 (n_8 + 1))]))) else .nd (.tuple #[]) (.nd (.tuple #[]) (.nd (.tuple #[]) (.nd (.tuple #[]) (.nd (.tuple #[]) (.nd (.tuple #[]) (.loadB (a_10.add (n_8.toNat * 1)) fun b_6 => .need (AV.val (.bool b_6) = AV.val (.bool b_5)) (.need (0 ≤ n_8 ∧ n_8 < (↑n_2 : Int)) (.someA a_1 fun a_11 => .need (AV.val (.pointer (some (a_11.add (n_8.toNat * 1)))) = AV.val (.pointer (some (a_10.add (n_8.toNat * 1))))) (.nd (.int .i64 n_8) (.nd (.slice a_1 n_2 c_1) (.need (AV.val (.bool !b_4 == decide (n_10 ≥ 0)) = AV.val (.bool false)) (.nd (.bool !b_4 == decide (n_10 ≥ 0)) (.nd (.bool !b_4 == decide (n_10 ≥ 0)) (.nd (.bool (decide (n_10 ≥ 0))) (.loadI .i64 (a_9.add (n_8.toNat * 1)) fun n_11 => .need (AV.val (.int .i64 n_11) = AV.val (.int .i64 n_10)) (.need (0 ≤ n_8 ∧ n_8 < (↑n_6 : Int)) (.someA a_3 fun a_12 => .need (AV.val (.pointer (some (a_12.add (n_8.toNat * 1)))) = AV.val (.pointer (some (a_9.add (n_8.toNat * 1))))) (.nd (.int .i64 n_8) (.nd (.slice a_3 n_6 c_3) (.loadB (a_8.add (n_8.toNat * 1)) fun b_7 => .need (AV.val (.bool b_7) = AV.val (.bool b_4)) (.need (0 ≤ n_8 ∧ n_8 < (↑n_2 : Int)) (.someA a_1 fun a_13 => .need (AV.val (.pointer (some (a_13.add (n_8.toNat * 1)))) = AV.val (.pointer (some (a_8.add (n_8.toNat * 1))))) (.nd (.int .i64 n_8) (.nd (.slice a_1 n_2 c_1) (.need (AV.val (.bool !b_3 == decide (n_9 ≥ 0)) = AV.val (.bool false)) (.nd (.bool !b_3 == decide (n_9 ≥ 0)) (.nd (.bool !b_3 == decide (n_9 ≥ 0)) (.nd (.bool (decide (n_9 ≥ 0))) (.loadI .i64 (a_7.add (n_8.toNat * 1)) fun n_12 => .need (AV.val (.int .i64 n_12) = AV.val (.int .i64 n_9)) (.need (0 ≤ n_8 ∧ n_8 < (↑n_4 : Int)) (.someA a_2 fun a_14 => .need (AV.val (.pointer (some (a_14.add (n_8.toNat * 1)))) = AV.val (.pointer (some (a_7.add (n_8.toNat * 1))))) (.nd (.int .i64 n_8) (.nd (.slice a_2 n_4 c_2) (.loadB (a_6.add (n_8.toNat * 1)) fun b_8 => .need (AV.val (.bool b_8) = AV.val (.bool b_3)) (.need (0 ≤ n_8 ∧ n_8 < (↑n : Int)) (.someA a fun a_15 => .need (AV.val (.pointer (some (a_15.add (n_8.toNat * 1)))) = AV.val (.pointer (some (a_6.add (n_8.toNat * 1))))) (.nd (.int .i64 n_8) (.nd (.slice a n c) (.need (AV.val (.bool !b_2) = AV.val (.bool false)) (.nd (.bool !b_2) (.nd (.bool !b_2) (.loadB (a_5.add (n_8.toNat * 1)) fun b_9 => .need (AV.val (.bool b_9) = AV.val (.bool b_2)) (.need (0 ≤ n_8 ∧ n_8 < (↑n : Int)) (.someA a fun a_16 => .need (AV.val (.pointer (some (a_16.add (n_8.toNat * 1)))) = AV.val (.pointer (some (a_5.add (n_8.toNat * 1))))) (.nd (.int .i64 n_8) (.nd (.slice a n c) (.need (AV.val (.bool b_1) = AV.val (.bool true)) (.loadB (a_4.add (n_8.toNat * 1)) fun b_10 => .need (AV.val (.bool b_10) = AV.val (.bool b_1)) (.need (0 ≤ n_8 ∧ n_8 < (↑n_2 : Int)) (.someA a_1 fun a => .need (AV.val (.pointer (some (a.add (n_8.toNat * 1)))) = AV.val (.pointer (some (a_4.add (n_8.toNat * 1))))) (.nd (.int .i64 n_8) (.nd (.slice a_1 n_2 c_1) (.leaf (.again [.bool b, .int .i64 (IntKind.wrap .i64 (n_8 + 1))])))))))))))))))))))))))))))))))))))))))))))))))))))))))))))) else .nd (.tuple #[]) (.nd (.tuple #[]) (.nd (.tuple #[]) (.loadB (a_4.add (n_8.toNat * 1)) fun b_2 => .need (AV.val (.bool b_2) = AV.val (.bool b_1)) (.need (0 ≤ n_8 ∧ n_8 < (↑n_2 : Int)) (.someA a_1 fun a_5 => .need (AV.val (.pointer (some (a_5.add (n_8.toNat * 1)))) = AV.val (.pointer (some (a_4.add (n_8.toNat * 1))))) (.nd (.int .i64 n_8) (.nd (.slice a_1 n_2 c_1) (.need (0 ≤ n_8 ∧ n_8 < (↑n : Int)) (.someA a fun a_6 => .loadB (a_6.add (n_8.toNat * 1)) fun b_3 => .need (0 ≤ n_8 ∧ n_8 < (↑n_4 : Int)) (.someA a_2 fun a_7 => .loadI .i64 (a_7.add (n_8.toNat * 1)) fun n_9 => bif !b_3 == decide (n_9 ≥ 0) then .nd (.tuple #[]) (.nd (.tuple #[]) (.nd (.tuple #[]) (.nd (.tuple #[]) (.nd (.tuple #[]) (.nd (.tuple #[]) (.nd (.tuple #[]) (.nd (.bool !b_3 == decide (n_9 ≥ 0)) (.nd (.bool !b_3 == decide (n_9 ≥ 0)) (.nd (.bool (decide (n_9 ≥ 0))) (.loadI .i64 (a_7.add (n_8.toNat * 1)) fun n_10 => .need (AV.val (.int .i64 n_10) = AV.val (.int .i64 n_9)) (.need (0 ≤ n_8 ∧ n_8 < (↑n_4 : Int)) (.someA a_2 fun a_8 => .need (AV.val (.pointer (some (a_8.add (n_8.toNat * 1)))) = AV.val (.pointer (some (a_7.add (n_8.toNat * 1))))) (.nd (.int .i64 n_8) (.nd (.slice a_2 n_4 c_2) (.loadB (a_6.add (n_8.toNat * 1)) fun b => .need (AV.val (.bool b) = AV.val (.bool b_3)) (.need (0 ≤ n_8 ∧ n_8 < (↑n : Int)) (.someA a fun a_9 => .need (AV.val (.pointer (some (a_9.add (n_8.toNat * 1)))) = AV.val (.pointer (some (a_6.add (n_8.toNat * 1))))) (.nd (.int .i64 n_8) (.nd (.slice a n c) (.nd (.bool false) (.nd (.bool false) (.nd (.tuple #[]) (.nd (.tuple #[]) (.nd (.tuple #[]) (.loadB (a_4.add (n_8.toNat * 1)) fun b => .need (AV.val (.bool b) = AV.val (.bool b_1)) (.need (0 ≤ n_8 ∧ n_8 < (↑n_2 : Int)) (.someA a_1 fun a_10 => .need (AV.val (.pointer (some (a_10.add (n_8.toNat * 1)))) = AV.val (.pointer (some (a_4.add (n_8.toNat * 1))))) (.nd (.int .i64 n_8) (.nd (.slice a_1 n_2 c_1) (.nd (.tuple #[]) (.nd (.tuple #[]) (.nd (.tuple #[]) (.nd (.tuple #[]) (.nd (.tuple #[]) (.nd (.tuple #[]) (.nd (.bool !b_3 == decide (n_9 ≥ 0)) (.nd (.bool !b_3 == decide (n_9 ≥ 0)) (.nd (.bool (decide (n_9 ≥ 0))) (.loadI .i64 (a_7.add (n_8.toNat * 1)) fun n_11 => .need (AV.val (.int .i64 n_11) = AV.val (.int .i64 n_9)) (.need (0 ≤ n_8 ∧ n_8 < (↑n_4 : Int)) (.someA a_2 fun a_11 => .need (AV.val (.pointer (some (a_11.add (n_8.toNat * 1)))) = AV.val (.pointer (some (a_7.add (n_8.toNat * 1))))) (.nd (.int .i64 n_8) (.nd (.slice a_2 n_4 c_2) (.loadB (a_6.add (n_8.toNat * 1)) fun b => .need (AV.val (.bool b) = AV.val (.bool b_3)) (.need (0 ≤ n_8 ∧ n_8 < (↑n : Int)) (.someA a fun a_12 => .need (AV.val (.pointer (some (a_12.add (n_8.toNat * 1)))) = AV.val (.pointer (some (a_6.add (n_8.toNat * 1))))) (.nd (.int .i64 n_8) (.nd (.slice a n c) (.nd (.bool false) (.nd (.bool false) (.nd (.tuple #[]) (.nd (.tuple #[]) (.nd (.tuple #[]) (.loadB (a_4.add (n_8.toNat * 1)) fun b => .need (AV.val (.bool b) = AV.val (.bool b_1)) (.need (0 ≤ n_8 ∧ n_8 < (↑n_2 : Int)) (.someA a_1 fun a_13 => .need (AV.val (.pointer (some (a_13.add (n_8.toNat * 1)))) = AV.val (.pointer (some (a_4.add (n_8.toNat * 1))))) (.nd (.int .i64 n_8) (.nd (.slice a_1 n_2 c_1) (.nd (.tuple #[]) (.nd (.tuple #[]) (.nd (.tuple #[]) (.nd (.tuple #[]) (.nd (.tuple #[]) (.nd (.tuple #[]) (.nd (.tuple #[]) (.nd (.tuple #[]) (.nd (.tuple #[]) (.nd (.tuple #[]) (.nd (.bool true) (.nd (.bool true) (.nd (.tuple #[]) (.nd (.tuple #[]) (.nd (.tuple #[]) (.nd (.tuple #[]) (.nd (.tuple #[]) (.nd (.tuple #[]) (.nd (.bool !b_3 == decide (n_9 ≥ 0)) (.nd (.bool !b_3 == decide (n_9 ≥ 0)) (.nd (.bool (decide (n_9 ≥ 0))) (.loadI .i64 (a_7.add (n_8.toNat * 1)) fun n_12 => .need (AV.val (.int .i64 n_12) = AV.val (.int .i64 n_9)) (.need (0 ≤ n_8 ∧ n_8 < (↑n_4 : Int)) (.someA a_2 fun a_14 => .need (AV.val (.pointer (some (a_14.add (n_8.toNat * 1)))) = AV.val (.pointer (some (a_7.add (n_8.toNat * 1))))) (.nd (.int .i64 n_8) (.nd (.slice a_2 n_4 c_2) (.loadB (a_6.add (n_8.toNat * 1)) fun b => .need (AV.val (.bool b) = AV.val (.bool b_3)) (.need (0 ≤ n_8 ∧ n_8 < (↑n : Int)) (.someA a fun a_15 => .need (AV.val (.pointer (some (a_15.add (n_8.toNat * 1)))) = AV.val (.pointer (some (a_6.add (n_8.toNat * 1))))) (.nd (.int .i64 n_8) (.nd (.slice a n c) (.nd (.bool false) (.nd (.bool false) (.nd (.tuple #[]) (.nd (.tuple #[]) (.nd (.tuple #[]) (.loadB (a_4.add (n_8.toNat * 1)) fun b => .need (AV.val (.bool b) = AV.val (.bool b_1)) (.need (0 ≤ n_8 ∧ n_8 < (↑n_2 : Int)) (.someA a_1 fun a => .need (AV.val (.pointer (some (a.add (n_8.toNat * 1)))) = AV.val (.pointer (some (a_4.add (n_8.toNat * 1))))) (.nd (.int .i64 n_8) (.nd (.slice a_1 n_2 c_1) (.leaf (.retn [.bool false, .int .i64 n_8]))))))))))))))))))))))))))))))))))))))))))))))))))))))))))))))))))))))))))))))))))))))))))))))))))))) else .need (0 ≤ n_8 ∧ n_8 < (↑n_2 : Int)) (.someA a_1 fun a_8 => .loadB (a_8.add (n_8.toNat * 1)) fun b_4 => .need (0 ≤ n_8 ∧ n_8 < (↑n_6 : Int)) (.someA a_3 fun a_9 => .loadI .i64 (a_9.add (n_8.toNat * 1)) fun n_10 => bif !b_4 == decide (n_10 ≥ 0) then .nd (.tuple #[]) (.nd (.tuple #[]) (.nd (.tuple #[]) (.nd (.tuple #[]) (.nd (.tuple #[]) (.nd (.tuple #[]) (.nd (.tuple #[]) (.nd (.tuple #[]) (.nd (.tuple #[]) (.nd (.tuple #[]) (.need (AV.val (.bool !b_4 == decide (n_10 ≥ 0)) = AV.val (.bool true)) (.nd (.bool !b_4 == decide (n_10 ≥ 0)) (.nd (.bool !b_4 == decide (n_10 ≥ 0)) (.nd (.bool (decide (n_10 ≥ 0))) (.loadI .i64 (a_9.add (n_8.toNat * 1)) fun n_11 => .need (AV.val (.int .i64 n_11) = AV.val (.int .i64 n_10)) (.need (0 ≤ n_8 ∧ n_8 < (↑n_6 : Int)) (.someA a_3 fun a_10 => .need (AV.val (.pointer (some (a_10.add (n_8.toNat * 1)))) = AV.val (.pointer (some (a_9.add (n_8.toNat * 1))))) (.nd (.int .i64 n_8) (.nd (.slice a_3 n_6 c_3) (.loadB (a_8.add (n_8.toNat * 1)) fun b => .need (AV.val (.bool b) = AV.val (.bool b_4)) (.need (0 ≤ n_8 ∧ n_8 < (↑n_2 : Int)) (.someA a_1 fun a_11 => .need (AV.val (.pointer (some (a_11.add (n_8.toNat * 1)))) = AV.val (.pointer (some (a_8.add (n_8.toNat * 1))))) (.nd (.int .i64 n_8) (.nd (.slice a_1 n_2 c_1) (.need (AV.val (.bool !b_3 == decide (n_9 ≥ 0)) = AV.val (.bool false)) (.nd (.bool !b_3 == decide (n_9 ≥ 0)) (.nd (.bool !b_3 == decide (n_9 ≥ 0)) (.nd (.bool (decide (n_9 ≥ 0))) (.loadI .i64 (a_7.add (n_8.toNat * 1)) fun n_12 => .need (AV.val (.int .i64 n_12) = AV.val (.int .i64 n_9)) (.need (0 ≤ n_8 ∧ n_8 < (↑n_4 : Int)) (.someA a_2 fun a_12 => .need (AV.val (.pointer (some (a_12.add (n_8.toNat * 1)))) = AV.val (.pointer (some (a_7.add (n_8.toNat * 1))))) (.nd (.int .i64 n_8) (.nd (.slice a_2 n_4 c_2) (.loadB (a_6.add (n_8.toNat * 1)) fun b => .need (AV.val (.bool b) = AV.val (.bool b_3)) (.need (0 ≤ n_8 ∧ n_8 < (↑n : Int)) (.someA a fun a_13 => .need (AV.val (.pointer (some (a_13.add (n_8.toNat * 1)))) = AV.val (.pointer (some (a_6.add (n_8.toNat * 1))))) (.nd (.int .i64 n_8) (.nd (.slice a n c) (.nd (.bool false) (.nd (.bool false) (.nd (.tuple #[]) (.nd (.tuple #[]) (.nd (.tuple #[]) (.loadB (a_4.add (n_8.toNat * 1)) fun b => .need (AV.val (.bool b) = AV.val (.bool b_1)) (.need (0 ≤ n_8 ∧ n_8 < (↑n_2 : Int)) (.someA a_1 fun a => .need (AV.val (.pointer (some (a.add (n_8.toNat * 1)))) = AV.val (.pointer (some (a_4.add (n_8.toNat * 1))))) (.nd (.int .i64 n_8) (.nd (.slice a_1 n_2 c_1) (.leaf (.retn [.bool false, .int .i64 n_8]))))))))))))))))))))))))))))))))))))))))))))))))) else .need (0 ≤ n_8 ∧ n_8 < (↑n_2 : Int)) (.someA a_1 fun a_10 => .loadB (a_10.add (n_8.toNat * 1)) fun b_5 => bif b_5 then .need (0 ≤ n_8 ∧ n_8 < (↑n_4 : Int)) (.someA a_2 fun a => .loadI .i64 (a.add (n_8.toNat * 1)) fun n => .need (0 ≤ n_8 ∧ n_8 < (↑n_6 : Int)) (.someA a_3 fun a => .loadI .i64 (a.add (n_8.toNat * 1)) fun n_11 => bif decide (n > n_11) then .leaf (.retn [.bool false, .int .i64 n_8]) else .leaf (.again [.bool b, .int .i64 (IntKind.wrap .i64 (n_8 + 1))]))) else .nd (.tuple #[]) (.nd (.tuple #[]) (.nd (.tuple #[]) (.nd (.tuple #[]) (.nd (.tuple #[]) (.nd (.tuple #[]) (.loadB (a_10.add (n_8.toNat * 1)) fun b_6 => .need (AV.val (.bool b_6) = AV.val (.bool b_5)) (.need (0 ≤ n_8 ∧ n_8 < (↑n_2 : Int)) (.someA a_1 fun a_11 => .need (AV.val (.pointer (some (a_11.add (n_8.toNat * 1)))) = AV.val (.pointer (some (a_10.add (n_8.toNat * 1))))) (.nd (.int .i64 n_8) (.nd (.slice a_1 n_2 c_1) (.need (AV.val (.bool !b_4 == decide (n_10 ≥ 0)) = AV.val (.bool false)) (.nd (.bool !b_4 == decide (n_10 ≥ 0)) (.nd (.bool !b_4 == decide (n_10 ≥ 0)) (.nd (.bool (decide (n_10 ≥ 0))) (.loadI .i64 (a_9.add (n_8.toNat * 1)) fun n_11 => .need (AV.val (.int .i64 n_11) = AV.val (.int .i64 n_10)) (.need (0 ≤ n_8 ∧ n_8 < (↑n_6 : Int)) (.someA a_3 fun a_12 => .need (AV.val (.pointer (some (a_12.add (n_8.toNat * 1)))) = AV.val (.pointer (some (a_9.add (n_8.toNat * 1))))) (.nd (.int .i64 n_8) (.nd (.slice a_3 n_6 c_3) (.loadB (a_8.add (n_8.toNat * 1)) fun b_7 => .need (AV.val (.bool b_7) = AV.val (.bool b_4)) (.need (0 ≤ n_8 ∧ n_8 < (↑n_2 : Int)) (.someA a_1 fun a_13 => .need (AV.val (.pointer (some (a_13.add (n_8.toNat * 1)))) = AV.val (.pointer (some (a_8.add (n_8.toNat * 1))))) (.nd (.int .i64 n_8) (.nd (.slice a_1 n_2 c_1) (.need (AV.val (.bool !b_3 == decide (n_9 ≥ 0)) = AV.val (.bool false)) (.nd (.bool !b_3 == decide (n_9 ≥ 0)) (.nd (.bool !b_3 == decide (n_9 ≥ 0)) (.nd (.bool (decide (n_9 ≥ 0))) (.loadI .i64 (a_7.add (n_8.toNat * 1)) fun n_12 => .need (AV.val (.int .i64 n_12) = AV.val (.int .i64 n_9)) (.need (0 ≤ n_8 ∧ n_8 < (↑n_4 : Int)) (.someA a_2 fun a_14 => .need (AV.val (.pointer (some (a_14.add (n_8.toNat * 1)))) = AV.val (.pointer (some (a_7.add (n_8.toNat * 1))))) (.nd (.int .i64 n_8) (.nd (.slice a_2 n_4 c_2) (.loadB (a_6.add (n_8.toNat * 1)) fun b_8 => .need (AV.val (.bool b_8) = AV.val (.bool b_3)) (.need (0 ≤ n_8 ∧ n_8 < (↑n : Int)) (.someA a fun a_15 => .need (AV.val (.pointer (some (a_15.add (n_8.toNat * 1)))) = AV.val (.pointer (some (a_6.add (n_8.toNat * 1))))) (.nd (.int .i64 n_8) (.nd (.slice a n c) (.nd (.bool false) (.nd (.bool false) (.nd (.tuple #[]) (.nd (.tuple #[]) (.nd (.tuple #[]) (.loadB (a_4.add (n_8.toNat * 1)) fun b_9 => .need (AV.val (.bool b_9) = AV.val (.bool b_1)) (.need (0 ≤ n_8 ∧ n_8 < (↑n_2 : Int)) (.someA a_1 fun a => .need (AV.val (.pointer (some (a.add (n_8.toNat * 1)))) = AV.val (.pointer (some (a_4.add (n_8.toNat * 1))))) (.nd (.int .i64 n_8) (.nd (.slice a_1 n_2 c_1) (.leaf (.again [.bool b, .int .i64 (IntKind.wrap .i64 (n_8 + 1))])))))))))))))))))))))))))))))))))))))))))))))))))))))))))))))))) else .leaf (.brk [.bool b, .int .i64 n_8]))) (fun vs => .popB vs fun b vs => .popI .i64 vs fun n vs => .unNil vs (.leaf (.ret (.bool true)))) (fun vs => .popB vs fun b vs => .popI .i64 vs fun n vs => .unNil vs (.leaf (.ret (.bool b)))) fun x x_6 => .fail)) (fun vs => .popB vs fun b vs => .unNil vs (.leaf (.ret (.bool b)))) fun x x_6 => .fail))))
theorem w2039 (x_0 x_1 x_2 x_3 x_4 x_5 : Int) (x_6p : Option Addr) (x_6n x_6c : Nat) (than_0 than_1 than_2 than_3 than_4 than_5 : Int) (than_6p : Option Addr) (than_6n than_6c : Nat) (land day : Int) (hX : XOK X) (hw : (n2039 x_0 x_1 x_2 x_3 x_4 x_5 x_6p x_6n x_6c than_0 than_1 than_2 than_3 than_4 than_5 than_6p than_6n than_6c land day).wp X Tryz.prog (retQ A) h) : FWK X Tryz.prog .normal 36 #[.agg #[.int .i64 x_0, .int .i64 x_1, .int .i64 x_2, .int .i64 x_3, .int .i64 x_4, .int .i64 x_5, .slice x_6p x_6n x_6c], .agg #[.int .i64 than_0, .int .i64 than_1, .int .i64 than_2, .int .i64 than_3, .int .i64 than_4, .int .i64 than_5, .slice than_6p than_6n than_6c], .int .i64 land, .int .i64 day] h A := fwk_neat (show ftree ({ P := Tryz.prog, priv := [4, 5], loops := [{ id := 0, slots := [(8, .bool), (17, .int .i64)], ro := [4, 5], outs := [] }], joins := [{ id := 7, slots := [(8, .bool)], ro := [4, 5], outs := [] }] }) Tryz.f36 [.agg #[.int .i64 x_0, .int .i64 x_1, .int .i64 x_2, .int .i64 x_3, .int .i64 x_4, .int .i64 x_5, .slice x_6p x_6n x_6c], .agg #[.int .i64 than_0, .int .i64 than_1, .int .i64 than_2, .int .i64 than_3, .int .i64 than_4, .int .i64 than_5, .slice than_6p than_6n than_6c], .int .i64 land, .int .i64 day] = n2039 x_0 x_1 x_2 x_3 x_4 x_5 x_6p x_6n x_6c than_0 than_1 than_2 than_3 than_4 than_5 than_6p than_6n than_6c land day by kernel_rfl) (by simp) (by kernel_rfl) (by kernel_rfl) hX hw
end Go.Proofs.YtldamlcehbdkdaaGreatDoor
end
section
namespace Go.Proofs.YtldamlcehbdkdaaGreatDoor.Tre
open Go Go.TM Go.Proofs Go.TM.Tr
attribute [local irreducible] T.wp CV FWK
theorem dates_at {x : TF} {k d : Int} {j : Nat} (h : j < x.items.toNat) : (datesT x k d)[j]? = some (dateOn x k j d) := by
 unfold datesT
 rw [List.getElem?_map, List.getElem?_range h]; rfl
theorem prot_at {x : TF} {k d : Int} {j : Nat} (h : j < x.items.toNat) : (protT x k d)[j]? = some (decide (dateOn x k j d ≥ 0)) := by
 unfold protT
 rw [List.getElem?_map, dates_at h]; rfl
theorem prot_len (x : TF) (k d : Int) : (protT x k d).length = x.items.toNat := by unfold protT; rw [List.length_map, dates_len]
def NoLess (x y : TF) (k d : Int) : Prop := ∀ i : Nat, (i : Int) < x.items → 0 ≤ dateOn y k i d → 0 ≤ dateOn x k i d ∧ dateOn x k i d ≤ dateOn y k i d
theorem bool_at {h : Cells} {p : Option Addr} {n : Nat} {l : List Bool} (s : Sl BoolE 1 h p n l) {j : Nat} {b : Bool} (hb : l[j]? = some b) : ∃ a, p = some a ∧ h.cell? (a.add (j * 1)) = some (.bool b) := by
 obtain ⟨a, ha, e⟩ := s.2.2 j b hb
 unfold BoolE at e
 rw [add_zero'] at e
 exact ⟨a, ha, e⟩
theorem int_at {h : Cells} {p : Option Addr} {n : Nat} {l : List Int} (s : Sl IntE 1 h p n l) {j : Nat} {b : Int} (hb : l[j]? = some b) : ∃ a, p = some a ∧ h.cell? (a.add (j * 1)) = some (.int .i64 b) := by
 obtain ⟨a, ha, e⟩ := s.2.2 j b hb
 unfold IntE at e
 rw [add_zero'] at e
 exact ⟨a, ha, e⟩
set_option maxRecDepth 10000 in
theorem c2039 {h : LH} (hk : Kinds h.get) {f g : TC} {x y : TF} (hx : TreatyR h.get f x) (hy : TreatyR h.get g y) {k d : Int} (ax : askedDayT x k d = 0) (ay : askedDayT y k d = 0) (hi : y.items = x.items) (hn : NoLess x y k d) :
  Gr Tryz.prog 36 #[treatyV f x, treatyV g y, .int .i64 k, .int .i64 d] h fun r _ => r = .bool true := by
 refine w2039 _ _ _ _ _ _ _ _ _ _ _ _ _ _ _ _ _ _ _ _ X0_ok ?_
 unfold n2039
 have hit := (check_numbers (asked_ok (askedDay_ok ax).1).1).1
 refine t_gr (c2018 hk hx k d) ?_
 intro r1 h1 le1 hr
 obtain ⟨p1, n1, k1, rfl, s1, _⟩ := hr.form
 rw [ax]; rw [protA, if_pos ax] at s1
 refine gZ ?_
 refine t_gr (c2018 (hk.le le1.1) (hy.le le1.1) k d) ?_
 intro r2 h2 le2 hr
 obtain ⟨p2, n2, k2, rfl, s2, _⟩ := hr.form
 rw [ay]; rw [protA, if_pos ay] at s2
 refine gZ ?_
 have l12 := LH.le_trans le1 le2
 refine t_gr (c2026 (hk.le l12.1) (hx.le l12.1) k d) ?_
 intro r3 h3 le3 hr
 obtain ⟨p3, n3, k3, rfl, s3, _⟩ := hr.form
 rw [ax]; rw [datesA, if_pos ax] at s3
 refine gZ ?_
 have l13 := LH.le_trans l12 le3
 refine t_gr (c2026 (hk.le l13.1) (hy.le l13.1) k d) ?_
 intro r4 h4 le4 hr
 obtain ⟨p4, n4, k4, rfl, s4, _⟩ := hr.form
 rw [ay]; rw [datesA, if_pos ay] at s4
 refine gZ ?_
 have l14 := LH.le_trans l13 le4
 have s1 := s1.le BoolE.grow (LH.le_trans le2 (LH.le_trans le3 le4)).1
 have s2 := s2.le BoolE.grow (LH.le_trans le3 le4).1
 have s3 := s3.le IntE.grow le4.1
 have m1 := s1.1
 have m2 := s2.1
 have m3 := s3.1
 have m4 := s4.1
 rw [prot_len] at m1 m2
 rw [dates_len] at m3 m4
 rw [hi] at m2 m4
 refine t_blk (fun vs h' => vs = [.bool false] ∧ h4 = h') ?_ ?_
 ·refine t_cond (fun e => absurd e (by simp)) (fun _ => ?_)
  refine t_cond (fun e => absurd e (by simp)) (fun _ => ?_)
  refine t_cond (fun e => absurd e (by simp)) (fun _ => ?_)
  refine t_cond (fun e => absurd e (by simp)) (fun _ => ?_)
  refine t_cond (fun e => absurd e (by simp; omega)) (fun _ => ?_)
  refine t_cond (fun e => absurd e (by simp; omega)) (fun _ => ?_)
  refine t_cond (fun e => absurd e (by simp; omega)) (fun _ => ?_)
  refine t_cond (fun e => absurd e (by simp; omega)) (fun _ => ?_)
  exact t_again ⟨rfl, rfl⟩
 rintro vs _ ⟨rfl, rfl⟩
 refine gZ ?_
 refine t_loop (fun mm vs h' => h4 = h' ∧ ∃ j : Nat, vs = [.bool false, .int .i64 j] ∧ j ≤ n1 ∧ mm = n1 - j) ⟨rfl, 0, rfl, Nat.zero_le _, rfl⟩ ?_
 rintro Y mm vs _ hY ⟨rfl, j, rfl, hj, rfl⟩
 refine gZ ?_
 refine t_if (fun e1 => ?_) (fun e1 => ?_)
 ·have hjx : j < x.items.toNat := by omega
  obtain ⟨a1, ha1, g1⟩ := bool_at s1 (prot_at (k := k) (d := d) hjx)
  obtain ⟨a2, ha2, g2⟩ := bool_at s2 (prot_at (x := y) (k := k) (d := d) (j := j) (by rw [hi]; exact hjx))
  obtain ⟨a3, ha3, g3⟩ := int_at s3 (dates_at (k := k) (d := d) hjx)
  obtain ⟨a4, ha4, g4⟩ := int_at s4 (dates_at (x := y) (k := k) (d := d) (j := j) (by rw [hi]; exact hjx))
  have hnj := hn j (by omega)
  generalize dateOn x k j d = dx at g1 g3 hnj
  generalize dateOn y k j d = dy at g2 g4 hnj
  have next : Y [.bool false, .int .i64 (IntKind.wrap .i64 ((j : Int) + 1))] h4 := by
   refine hY (n1 - (j + 1)) _ _ (by omega) ⟨rfl, j + 1, ?_, by omega, rfl⟩
   rw [wrap_id (by omega) (by omega)]; rfl
  refine gZ ?_
  refine t_cond (fun d1 => ?_) (fun d1 => ?_)
  ·have d1' : 0 ≤ dy := by simpa using d1
   obtain ⟨hx0, hxy⟩ := hnj d1'
   refine gZ ?_
   refine t_cond (fun e => absurd e (by simp; omega)) (fun _ => ?_)
   refine gZ ?_
   refine t_cond (fun e => absurd e (by simp)) (fun _ => ?_)
   refine gZ ?_
   refine t_cond (fun e => absurd e (by simp)) (fun _ => ?_)
   refine gZ ?_
   refine t_cond (fun _ => ?_) (fun e => absurd e (by rw [d1]; simp))
   refine gZ ?_
   refine t_cond (fun e => absurd e (by simp; omega)) (fun _ => ?_)
   exact t_again next
  ·refine gZ ?_
   refine t_cond (fun e => absurd e (by simp)) (fun _ => ?_)
   refine gZ ?_
   refine t_cond (fun e => absurd e (by simp)) (fun _ => ?_)
   refine gZ ?_
   refine t_cond (fun e => absurd e (by rw [d1]; simp)) (fun _ => ?_)
   simp only [beq_self_eq_true, Bool.not_true]
   refine gZ ?_
   exact t_again next
 ·refine gZ ?_
  exact t_ret ⟨l14, rfl⟩
end Go.Proofs.YtldamlcehbdkdaaGreatDoor.Tre
end
section
namespace Go.Proofs.YtldamlcehbdkdaaGreatDoor.Tre
open Go Go.TM Go.Proofs Go.TM.Tr
attribute [local irreducible] T.wp CV FWK
theorem mod_in {n m : Int} (hn : 0 ≤ n ∧ n ≤ 65535) (hm : 0 < m) : Int.tmod (IntKind.i64.wrap n) m = n % m ∧ 0 ≤ n % m ∧ n % m < m := by
 rw [wrap_id (by omega) (by omega), Int.tmod_eq_emod_of_nonneg hn.1]
 exact ⟨rfl, Int.emod_nonneg _ (by omega), Int.emod_lt_of_pos _ hm⟩
theorem asked_fit {x : TF} (h : checkT x = 0) {k d : Int} (hk : 0 ≤ k ∧ k < x.lands) (hd : 0 ≤ d ∧ d ≤ 9999) : askedDayT x k d = 0 := by
 have h1 : askedT x k = 0 := by rw [askedT, if_neg (by simp [h]), if_neg (by simp [inB]; omega)]
 rw [askedDayT, if_neg (by simp [h1]), if_pos (by simp [dayB, inB]; omega)]
end Go.Proofs.YtldamlcehbdkdaaGreatDoor.Tre
end
section
namespace Go.TM
open Go Go.Conc Go.Sem
variable {P : Program} {h : Cells} {E : Halt → Cells → Prop}
theorem lwp_appendB {Q : Value → Cells → Prop} {ts : Array TypeId} {ty sT xT el xe : TypeId} {inf : TypeInfo} {z : Value} {p : Option Addr} {n c m mc : Nat} {b : Addr} {vs ws : List Value} (h0 : ts[0]? = some sT) (h1 : ts[1]? = some xT) (hu : P.underlying sT = some (.slice el)) (hx : P.underlying xT = some (.slice xe))
  (hi : P.info? el = some inf) (hz : inf.zero = some z) (hsz : z.cells.size = inf.size) (hnm : n + m ≤ 2 ^ 62) (hcap : ¬ n + m ≤ c → Builtin.nextslicecap (n + m) c * inf.bytes ≤ 2 ^ 48) (own : OwnRow el inf.size h p n c vs) (hl : ws.length = m * inf.size) (hc : ∀ (j : Nat) v, ws[j]? = some v → h.cell? (b.add j) = some v) (one : ∀ v ∈ ws, isOne v = true) (hm : 0 < m)
  (hq : ∀ p' c' h', OwnRow el inf.size h' p' (n + m) c' (vs ++ ws) → KeptBut p h h' → (p' = p ∨ ∃ r, p' = some ⟨r, 0, none⟩ ∧ h r = none) → Q (.slice p' (n + m) c') h') : Sem.lwp P (Builtin.append_ ts ty #[.slice p n c, .slice (some b) m mc]) Q E h := by
 unfold Builtin.append_
 rw [h0, h1]
 simp only [List.getElem?_toArray, List.getElem?_cons_zero, List.getElem?_cons_succ]
 simp only [lwp_bind, lwp_underlying hu, lwp_sizeOf hi, lwp_underlying hx, lwp_pure, Bool.false_eq_true, if_false, Bool.not_false, if_true, Builtin.lenOf]
 obtain ⟨hvl, hown⟩ := own
 by_cases hroom : n + m ≤ c
 ·simp only [if_pos hroom, lwp_bind, Builtin.firstCells]
  refine lwp_loads (l := ws) hl hc ?_
  rcases hown with ⟨rfl, rfl, rfl⟩ | ⟨r, cs, rfl, hr, hcs, hnc, hv⟩
  ·omega
  ·simp only []
   have hle : n * inf.size + ws.length ≤ cs.size := by rw [hl, hcs, ← Nat.add_mul]; exact Nat.mul_le_mul_right _ hroom
   have ha : Addr.add ⟨r, 0, none⟩ (n * inf.size) = ⟨r, n * inf.size, none⟩ := by unfold Addr.add; split <;> simp_all
   rw [ha]
   rw [lwp_bind]
   refine lwp_storeCells ws 0 h r (n * inf.size) cs el hr (by omega) one ?_
   rw [lwp_pure]
   refine hq _ _ _ ⟨by simp [hvl, hl, Nat.add_mul], .inr ⟨r, _, rfl, Cells.upd_self _ _ _, ?_, hroom, ?_⟩⟩ ?_ (.inl rfl)
   ·rw [size_setMany]; exact hcs
   ·intro j v hj
    rw [setMany_get (by omega)]
    by_cases hlt : j < vs.length
    ·rw [if_neg (by omega)]
     rw [List.getElem?_append_left hlt] at hj
     exact hv j v hj
    ·rw [List.getElem?_append_right (by omega)] at hj
     have hj' : j - vs.length < ws.length := (List.getElem?_eq_some_iff.1 hj).1
     rw [if_pos (by omega), ← hj]; congr 1; omega
   ·intro r' x hx' hne
    have : r' ≠ r := fun e => hne _ rfl e.symm
    rw [Cells.upd_ne _ _ this]; exact hx'
 ·have hnot : ¬ ((((n + m : Nat) : Int) > IntKind.i64.max) ∧ ((false : Bool) = true ∨ inf.bytes = 0)) := by
   rintro ⟨h1, _⟩
   have e : IntKind.i64.max = 9223372036854775807 := rfl
   rw [e] at h1; omega
  have hbytes : ¬ (Builtin.nextslicecap (n + m) c * inf.bytes > 2 ^ 48) := by have := hcap hroom; omega
  have hnot' : ¬ ((((n + m : Nat) : Int) > IntKind.i64.max) ∧ (False ∨ inf.bytes = 0)) := fun h => hnot ⟨h.1, h.2.imp_left False.elim⟩
  simp only [if_neg hroom, lwp_bind, lwp_typeInfo hi, if_neg hnot', if_neg hbytes, lwp_pure]
  have hch : ∀ {K : Nat → Cells → Prop}, (∀ a, n + m ≤ a → K a h) → Sem.lwp P (choose (Question.appendCap (n + m) c el)) K E h := by
   intro K hK
   show (if _ then _ else _)
   split
   ·rename_i hf; simp [Question.forced] at hf
   ·intro t; exact hK _ (Nat.le_add_right _ _)
  refine hch fun a ha => ?_
  have hroom' : ∀ {K : Unit → Cells → Prop}, K () h → Sem.lwp P (askRoom (a * inf.bytes)) K E h := by
   intro K hK
   unfold askRoom
   split
   ·exact ⟨rfl, hK⟩
   ·exact hK
  refine hroom' ?_
  have hold : ∀ {K : Array Value → Cells → Prop}, (∀ old : Array Value, old.toList = vs → K old h) → Sem.lwp P (Builtin.firstCells inf.size n (Value.slice p n c)) K E h := by
   intro K hK
   rcases hown with ⟨rfl, rfl, rfl⟩ | ⟨r, cs, rfl, hr, hcs, hnc, hv⟩
   ·have : vs = [] := List.eq_nil_of_length_eq_zero (by rw [hvl]; simp)
    simp only [Builtin.firstCells, lwp_pure]
    exact hK #[] (by rw [this])
   ·simp only [Builtin.firstCells]
    refine lwp_loads (l := vs) hvl (fun j v hj => ?_) (hK _ rfl)
    have e : Addr.add ⟨r, 0, none⟩ j = ⟨r, j, none⟩ := by unfold Addr.add; split <;> simp_all
    rw [e]
    simp only [Cells.cell?, hr, Option.isSome_none, Bool.false_eq_true, if_false]
    exact hv j v hj
  refine hold fun old hold => ?_
  simp only [Builtin.firstCells]
  refine lwp_loads (l := ws) hl hc ?_
  simp only [lwp_zeroValue hi hz]
  refine lwp_newRow fun r hr => ?_
  have hzs : (Builtin.zeroCells z.cells (a - (n + m))).size = (a - (n + m)) * inf.size := by simp [Builtin.zeroCells, hsz]
  refine hq _ _ _ ⟨by simp [hvl, hl, Nat.add_mul], .inr ⟨r, _, rfl, Cells.upd_self _ _ _, ?_, ha, ?_⟩⟩ ?_ (.inr ⟨r, rfl, hr⟩)
  ·have e1 : old.size = n * inf.size := by rw [← Array.length_toList, hold, hvl]
   have e2 : (ws.toArray).size = m * inf.size := by simp [hl]
   simp only [Array.size_append, e1, e2, hzs]
   rw [← Nat.add_mul, ← Nat.add_mul]; congr 1; omega
  ·intro j v hj
   have hlen : j < (vs ++ ws).length := (List.getElem?_eq_some_iff.1 hj).1
   rw [← Array.getElem?_toList, Array.toList_append, Array.toList_append, hold, List.getElem?_append_left (by simpa using hlen)]
   exact hj
  ·intro r' x hx' _
   have : r' ≠ r := by rintro rfl; rw [hr] at hx'; cases hx'
   rw [Cells.upd_ne _ _ this]; exact hx'
theorem lwp_appendSB {Q : Value → Cells → Prop} {ts : Array TypeId} {ty sT xT el xe : TypeId} {s by_ : Nat} {z : Value} {p : Option Addr} {n c m mc : Nat} {b : Addr} {vs ws : List Value} (h0 : ts[0]? = some sT) (h1 : ts[1]? = some xT) (hu : P.underlying sT = some (.slice el)) (hx : P.underlying xT = some (.slice xe))
  (hi : (P.info? el).map (fun i => (i.size, i.bytes, i.zero)) = some (s, by_, some z)) (hsz : z.cells.size = s) (hnm : n + m ≤ 2 ^ 62) (hcap : ¬ n + m ≤ c → Builtin.nextslicecap (n + m) c * by_ ≤ 2 ^ 48) (own : OwnRow el s h p n c vs) (hl : ws.length = m * s) (hc : ∀ (j : Nat) v, ws[j]? = some v → h.cell? (b.add j) = some v) (one : ∀ v ∈ ws, isOne v = true) (hm : 0 < m)
  (hq : ∀ p' c' h', OwnRow el s h' p' (n + m) c' (vs ++ ws) → KeptBut p h h' → (p' = p ∨ ∃ r, p' = some ⟨r, 0, none⟩ ∧ h r = none) → Q (.slice p' (n + m) c') h') : Sem.lwp P (Builtin.append_ ts ty #[.slice p n c, .slice (some b) m mc]) Q E h := by
 obtain ⟨i, g1, g2, g3, g4⟩ := info_of hi
 subst g2; subst g3
 exact lwp_appendB h0 h1 hu hx g1 g4 hsz hnm hcap own hl hc one hm hq
theorem t_appendB {X : XP} {Q : Leaf → LH → Prop} {h : LH} {k : Value → T} {ts : Array TypeId} {ty sT xT el xe : TypeId} {s by_ : Nat} {z : Value} {p : Option Addr} {n c m mc : Nat} {b : Addr} {vs ws : List Value} (h0 : ts[0]? = some sT) (h1 : ts[1]? = some xT) (hu : P.underlying sT = some (.slice el)) (hx : P.underlying xT = some (.slice xe))
  (hi : (P.info? el).map (fun i => (i.size, i.bytes, i.zero)) = some (s, by_, some z)) (hsz : z.cells.size = s) (hnm : n + m ≤ 2 ^ 62) (hcap : ¬ n + m ≤ c → Builtin.nextslicecap (n + m) c * by_ ≤ 2 ^ 48) (own : OwnRow el s h.get p n c vs) (hl : ws.length = m * s) (hc : ∀ (j : Nat) v, ws[j]? = some v → h.get.cell? (b.add j) = some v) (one : ∀ v ∈ ws, isOne v = true) (hm : 0 < m)
  (hk : ∀ p' c' h', OwnRow el s h' p' (n + m) c' (vs ++ ws) → KeptBut p h.get h' → (p' = p ∨ ∃ r, p' = some ⟨r, 0, none⟩ ∧ h.get r = none) → (k (.slice p' (n + m) c')).wp X P Q { h with get := h' }) : (T.sem false (Builtin.append_ ts ty #[.slice p n c, .slice (some b) m mc]) k).wp X P Q h :=
 t_sem (A := fun v h' => ∃ p' c', v = .slice p' (n + m) c' ∧ OwnRow el s h' p' (n + m) c' (vs ++ ws) ∧ KeptBut p h.get h' ∧ (p' = p ∨ ∃ r, p' = some ⟨r, 0, none⟩ ∧ h.get r = none)) (lwp_appendSB h0 h1 hu hx hi hsz hnm hcap own hl hc one hm fun p' c' h' a b c => ⟨p', c', rfl, a, b, c⟩)
  (by rintro v h' ⟨p', c', rfl, a, b, c⟩; exact hk p' c' h' a b c)
section
variable {P : Program} {X : XP} {Q : Leaf → LH → Prop}
theorem t_copyB {α : Type} {E : Cells → Addr → α → Prop} {Enc : α → List Value → Prop} {h h₀ : LH} {k : Value → T} {ts : Array TypeId} {ty sT xT el xe : TypeId} {s by_ : Nat} {z : Value} {p q : Option Addr} {n c m mc : Nat} {l l1 : List α} (h0 : ts[0]? = some sT) (h1 : ts[1]? = some xT) (hu : P.underlying sT = some (.slice el)) (hx : P.underlying xT = some (.slice xe))
  (hi : (P.info? el).map (fun i => (i.size, i.bytes, i.zero)) = some (s, by_, some z)) (hsz : z.cells.size = s) (hn : n + m ≤ 2 ^ 62) (hcap : ¬ n + m ≤ c → Builtin.nextslicecap (n + m) c * by_ ≤ 2 ^ 48) (g : Growing Enc el s h₀.get h.get p n c l) (hle : h₀.le h) (src : Sl E s h.get q m l1) (he : ToldE E Enc s h.get)
  (hk : ∀ p' c' h', h₀.le h' → (∀ r y, (∀ a, p = some a → a.block ≠ r) → h.get r = some y → h'.get r = some y) → Growing Enc el s h₀.get h'.get p' (n + m) c' (l ++ l1) → (k (.slice p' (n + m) c')).wp X P Q h') : (T.sem false (Builtin.append_ ts ty #[.slice p n c, .slice q m mc]) k).wp X P Q h := by
 obtain ⟨vs, o, r⟩ := g.row
 by_cases hm : m = 0
 ·subst hm
  have hl1 : l1 = [] := List.eq_nil_of_length_eq_zero src.1.symm
  subst hl1
  refine t_append0 h0 h1 hu hx hi o.le_cap ?_
  have := hk p c h hle (fun r y _ hy => hy) (by rw [List.append_nil]; exact g)
  exact this
 ·obtain ⟨x, b, _, hb', _⟩ := src.at (i := 0) (by omega)
  subst hb'
  obtain ⟨ws, w1, w2, w3, w4⟩ := flat he src l1.length (Nat.le_refl _)
  rw [List.take_length] at w1
  have hm' := src.1
  refine t_appendB h0 h1 hu hx hi hsz hn hcap o (by rw [w2, hm']) w3 w4 (by omega) fun p' c' h' a b c => ?_
  obtain ⟨l1', l2'⟩ := after_append hle.1 g.new b c
  exact hk p' c' _ ⟨l1', hle.2⟩ (fun r y hr hy => b r y hy hr) ⟨⟨vs ++ ws, a, r.append w1⟩, l2'⟩
end
theorem cap_first (m : Nat) : ¬ 0 + m ≤ 0 → Builtin.nextslicecap (0 + m) 0 = m := by
 intro h
 unfold Builtin.nextslicecap
 rw [if_pos (by omega)]; omega
theorem cap_next {m c : Nat} (hc : m ≤ c) : ¬ m + 1 ≤ c → Builtin.nextslicecap (m + 1) c ≤ m + m / 4 + 600 := by
 intro h
 obtain rfl : c = m := by omega
 unfold Builtin.nextslicecap
 split
 ·omega
 ·split
  ·omega
  ·unfold Builtin.growBy
   split
   ·omega
   ·unfold Builtin.growBy
    rw [if_pos (by omega)]; omega
end Go.TM
end
section
namespace Go.Proofs.YtldamlcehbdkdaaGreatDoor.Tre
open Go Go.TM Go.Proofs Go.TM.Tr
attribute [local irreducible] T.wp CV FWK
def evCells (e : Ev) (q : Option Addr) (m c : Nat) : List Value := [.int .i64 e.kind, .int .i64 e.day, .int .i64 e.land, .slice q m c, .int .i64 e.since]
theorem ev_src {h0 h : Cells} {e : Ev} {q : Option Addr} {m c r : Nat} (hm : m ≤ c) (he : Sl IntE 1 h0 q m e.items) (hc : ∀ (j : Nat) w, (evCells e q m c)[j]? = some w → h.cell? (Addr.add ⟨r, 0, none⟩ j) = some w) : Sl (EventB h0) 5 h (some ⟨r, 0, none⟩) 1 [e] := by
 refine ⟨rfl, by simp, fun i x hx => ⟨_, rfl, ?_⟩⟩
 match i, hx with
 | 0, hx =>
  cases hx
  refine ⟨q, m, c, fun j w hj => ?_, hm, he⟩
  rw [Nat.zero_mul, add_zero2]
  exact hc j w hj
 | i + 1, hx => simp at hx
theorem own_of {α : Type} {Enc : α → List Value → Prop} {el : TypeId} {k : Nat} {h₀ h : Cells} {r n c : Nat} {l : List α} (g : Growing Enc el k h₀ h (some ⟨r, 0, none⟩) n c l) : ∃ cs, h r = some (true, .cells cs el (0, 0)) := by
 obtain ⟨vs, ⟨_, h2⟩, _⟩ := g.row
 rcases h2 with ⟨h3, _⟩ | ⟨r', cs, h3, h4, _⟩
 ·cases h3
 ·cases h3; exact ⟨cs, h4⟩
theorem own_cells {h : Cells} {r : Nat} {el : TypeId} {e : Ev} {q : Option Addr} {m c : Nat} (ho : h r = some (true, .cells #[.int .i64 e.kind, .int .i64 e.day, .int .i64 e.land, .slice q m c, .int .i64 e.since] el (0, 0))) : ∀ (j : Nat) w, (evCells e q m c)[j]? = some w → h.cell? (Addr.add ⟨r, 0, none⟩ j) = some w := by
 intro j w hj
 rw [add_plain, Nat.zero_add]
 simp only [Cells.cell?, ho, Option.isSome_none, Bool.false_eq_true, if_false]
 simpa [evCells] using hj
set_option maxRecDepth 10000 in
theorem c2035 {h : LH} {f : TC} {x : TF} (hx : TreatyR h.get f x) (hbig : x.events.length * 56 ≤ 2 ^ 47) {e : Ev} {q : Option Addr} {m c : Nat} (hm : m ≤ c) (he : Sl IntE 1 h.get q m e.items) :
  Gr Tryz.prog 37 #[treatyV f x, .agg #[.int .i64 e.kind, .int .i64 e.day, .int .i64 e.land, .slice q m c, .int .i64 e.since]] h fun r h' => ∃ f' b, r = .tuple #[treatyV f' (add x e), .bool b] ∧ TreatyR h'.get f' (add x e) ∧ (b = true → checkT (add x e) = 0) := by
 refine w2035 _ _ _ _ _ _ _ _ _ _ _ _ _ _ _ _ X0_ok ?_
 unfold n2035
 have hn := hx.2.1
 have src : ∀ h' : LH, h.le h' → Sl (EventB h.get) 5 h'.get f.p f.n x.events := fun h' hle => EventB.of (Rd.of_le hle.1) hx.2
 have cap1 : ¬ 0 + f.n ≤ 0 → Builtin.nextslicecap (0 + f.n) 0 * 56 ≤ 2 ^ 48 := fun hh => by rw [cap_first f.n hh]; omega
 have cap2 : ∀ c', 0 + f.n ≤ c' → ¬ (0 + f.n) + 1 ≤ c' → Builtin.nextslicecap (0 + f.n + 1) c' * 56 ≤ 2 ^ 48 := fun c' hc hh => by
  have := Nat.mul_le_mul_right 56 (cap_next hc hh)
  omega
 refine t_blk (fun vs h' => ∃ p' n' c', vs = [.int .i64 x.items, .int .i64 x.lands, .int .i64 x.start, .int .i64 x.depend, .int .i64 x.refuse, .int .i64 x.turn, .slice p' n' c'] ∧ h.le h' ∧ Growing (EventEnc h.get) 91 5 h.get h'.get p' n' c' (x.events ++ [e])) ?_ ?_
 ·refine t_both ?_ ?_
  ·refine t_build0G (h₀ := h) (Enc := EventEnc h.get) undEvs infEv (LH.le_refl _) fun r h1 _ le1 g1 => ?_
   refine gZ ?_
   refine t_both ?_ ?_
   ·refine t_copyB (h₀ := h) (E := EventB h.get) (Enc := EventEnc h.get) rfl rfl undEvs undEvs infEv rfl (by omega) cap1 g1 le1 (src _ le1) eventTold fun p2 c2 h2 le2 _ g2 => ?_
    obtain ⟨_, o2, _⟩ := g2.row
    refine gZ ?_
    refine t_buildR (evCells e q m c) undEvs infEv (by decide) (by decide) (by kernel_rfl) fun r3 h3 le3 _ hc3 => ?_
    refine gZ ?_
    refine t_copyB (h₀ := h) (E := EventB h.get) (Enc := EventEnc h.get) rfl rfl undEvs undEvs infEv rfl (by omega) (cap2 _ o2.le_cap) (g2.le le3.1) (LH.le_trans le2 le3) (ev_src hm he hc3) eventTold fun p4 c4 h4 le4 _ g4 => ?_
    refine gZ ?_
    exact t_again ⟨_, _, _, rfl, le4, g4⟩
   ·refine t_build undEvs infEv (by decide) (by decide) (cells := #[.int .i64 e.kind, .int .i64 e.day, .int .i64 e.land, .slice q m c, .int .i64 e.since]) (by kernel_rfl) fun r3 hr3 => ?_
    have le3 := LH.upd_le (x := (true, .cells #[.int .i64 e.kind, .int .i64 e.day, .int .i64 e.land, .slice q m c, .int .i64 e.since] 91 (0, 0))) hr3
    refine gZ ?_
    have le13 := LH.le_trans le1 le3
    obtain ⟨cs1, o1⟩ := own_of g1
    refine t_copyB (h₀ := h) (E := EventB h.get) (Enc := EventEnc h.get) rfl rfl undEvs undEvs infEv rfl (by omega) cap1 (g1.le le3.1) le13 (src _ le13) eventTold fun p2 c2 h2 le2 kp2 g2 => ?_
    obtain ⟨_, o2, _⟩ := g2.row
    have h23 := kp2 r3 _ (fun a ha => by cases ha; exact ne_of_get hr3 o1) (Cells.upd_self _ _ _)
    refine gZ ?_
    refine t_copyB (h₀ := h) (E := EventB h.get) (Enc := EventEnc h.get) rfl rfl undEvs undEvs infEv rfl (by omega) (cap2 _ o2.le_cap) g2 le2 (ev_src hm he (own_cells h23)) eventTold fun p4 c4 h4 le4 _ g4 => ?_
    refine gZ ?_
    exact t_again ⟨_, _, _, rfl, le4, g4⟩
  ·refine t_build undEvs infEv (by decide) (by decide) (cells := #[.int .i64 e.kind, .int .i64 e.day, .int .i64 e.land, .slice q m c, .int .i64 e.since]) (by kernel_rfl) fun r3 hr3 => ?_
   have le3 := LH.upd_le (x := (true, .cells #[.int .i64 e.kind, .int .i64 e.day, .int .i64 e.land, .slice q m c, .int .i64 e.since] 91 (0, 0))) hr3
   refine gZ ?_
   refine t_build0G (h₀ := h) (Enc := EventEnc h.get) undEvs infEv le3 fun r h1 hr1 le1 g1 => ?_
   refine gZ ?_
   have h13 := le1.1 r3 _ (Cells.upd_self _ _ _)
   have le01 := LH.le_trans le3 le1
   refine t_copyB (h₀ := h) (E := EventB h.get) (Enc := EventEnc h.get) rfl rfl undEvs undEvs infEv rfl (by omega) cap1 g1 le01 (src _ le01) eventTold fun p2 c2 h2 le2 kp2 g2 => ?_
   obtain ⟨_, o2, _⟩ := g2.row
   have h23 := kp2 r3 _ (fun a ha => by cases ha; exact (ne_of_get hr1 (Cells.upd_self _ _ _)).symm) h13
   refine gZ ?_
   refine t_copyB (h₀ := h) (E := EventB h.get) (Enc := EventEnc h.get) rfl rfl undEvs undEvs infEv rfl (by omega) (cap2 _ o2.le_cap) g2 le2 (ev_src hm he (own_cells h23)) eventTold fun p4 c4 h4 le4 _ g4 => ?_
   refine gZ ?_
   exact t_again ⟨_, _, _, rfl, le4, g4⟩
 rintro vs h1 ⟨p', n', c', rfl, le1, g⟩
 have hn' := g.count EventEnc.len (by omega)
 rw [List.length_append, List.length_singleton] at hn'
 have hx' : TreatyR h1.get ⟨p', n', c'⟩ (add x e) := by
  obtain ⟨_, o, _⟩ := g.row
  exact ⟨o.le_cap, g.sl EventEnc.len (by omega) (EventEnc.e (Rd.of_le le1.1)) (by show (x.events ++ [e]).length < _; rw [List.length_append, List.length_singleton]; omega)⟩
 refine gZ ?_
 refine t_if (fun e1 => ?_) (fun e1 => ?_)
 ·refine t_pu (c2022 (f := ⟨p', n', c'⟩) (x := add x e) hx') ?_
  refine gZ ?_
  exact t_ret ⟨le1, ⟨p', n', c'⟩, _, rfl, hx', fun hb => by simpa using hb⟩
 ·refine gZ ?_
  refine t_both ?_ ?_
  ·refine gZ ?_
   exact t_ret ⟨le1, ⟨p', n', c'⟩, _, rfl, hx', fun hb => by cases hb⟩
  ·refine gZ ?_
   exact t_ret ⟨le1, ⟨p', n', c'⟩, _, rfl, hx', fun hb => by cases hb⟩
end Go.Proofs.YtldamlcehbdkdaaGreatDoor.Tre
end
section
namespace Go.TM.Tr
namespace Takes
variable {x y : TF} {k i : Int}
theorem turned (s : Takes x y k i) (vx : Ok x) (vy : Ok y) {d : Int} (h : 0 ≤ Tr.turned y k i d) : 0 ≤ Tr.turned x k i d ∧ Tr.turned x k i d ≤ Tr.turned y k i d :=
 leastOr_more vy.turnedL vx.turnedL (fun v hv => ⟨v, s.turnedL hv, Int.le_refl _⟩) h
theorem held (s : Takes x y k i) (vx : Ok x) (vy : Ok y) {d v : Int} (h : v ∈ Tr.held y k i d) : ∃ w ∈ Tr.held x k i d, w ≤ v := by
 rcases mem_held.1 h with ha | ha
 ·obtain ⟨⟨g0, g1⟩, g2, g3⟩ := mem_askHeld.1 ha
  have := s.askEnd v
  exact ⟨v, mem_held.2 (.inl (mem_askHeld.2 ⟨⟨(s.h0 v).1 g0, by rw [← s.falls]; exact g1⟩, by omega, fun hh => g3 (s.refused hh)⟩)), Int.le_refl _⟩
 ·obtain ⟨t, g1, g2, g3, rfl⟩ := mem_turnHeld.1 ha
  have hl := s.limits t
  obtain ⟨g4, g5⟩ := s.turned vx vy g2
  exact ⟨_, mem_held.2 (.inr (mem_turnHeld.2 ⟨t, (s.h5 t).1 g1, g4, by omega, rfl⟩)), g5⟩
theorem dated (ho : ∀ t s, older y k i t s ↔ older x k i t s) (d a : Int) : Tr.dated x k i d a = Tr.dated y k i d a :=
 least_same fun v => by
  rw [List.mem_cons, List.mem_cons, mem_old, mem_old]
  simp only [ho]
theorem noLess (s : Takes x y k i) (ho : ∀ t s, older y k i t s ↔ older x k i t s) (vx : Ok x) (vy : Ok y) {d : Int} (h : 0 ≤ dateOn y k i d) : 0 ≤ dateOn x k i d ∧ dateOn x k i d ≤ dateOn y k i d := by
 refine leastOr_more (date_vals vy) (date_vals vx) (fun v hv => ?_) h
 obtain ⟨a, ha, rfl⟩ := List.mem_map.1 hv
 obtain ⟨w, hw, hle⟩ := s.held vx vy ha
 exact ⟨_, List.mem_map.2 ⟨w, hw, rfl⟩, by rw [dated ho]; exact dated_mono hle⟩
end Takes
theorem limit_takes {x : TF} {a b : Ev} (ha : a.kind = 3) (hb : b.kind = 3) (hd : a.day = b.day) (hl : a.land = b.land) (h : ∀ v ∈ a.items, v ∈ b.items) (k i : Int) : Takes (add x a) (add x b) k i ∧ ∀ t s, older (add x b) k i t s ↔ older (add x a) k i t s := by
 have hab : ∀ (c : Ev) K, c.kind = 3 → K ≠ 3 → about c K k i = true → False := fun c K hc hK hh => by
  have h1 := about_kind hh
  omega
 have hne : ∀ (c : Ev) (v : TF), c.kind = 3 → Tr.early v c = true → False := fun c v hc hh => by
  have h1 := early_kind hh
  omega
 have hK : ∀ K t, K ≠ 3 → (has (add x b) k i K t ↔ has (add x a) k i K t) := fun K t hK => by
  rw [has_add, has_add]
  constructor
  ·rintro (h1 | h1)
   ·exact .inl h1
   ·exact (hab b K hb hK h1.1).elim
  ·rintro (h1 | h1)
   ·exact .inl h1
   ·exact (hab a K ha hK h1.1).elim
 have h3 : ∀ t, has (add x a) k i 3 t → has (add x b) k i 3 t := fun t => by
  rw [has_add, has_add]
  rintro (h1 | ⟨h1, h2⟩)
  ·exact .inl h1
  ·refine .inr ⟨?_, by omega⟩
   unfold about at h1 ⊢
   simp at h1 ⊢
   exact ⟨hb, by rw [← hl]; exact h1.2.1, h i h1.2.2⟩
 have hf : ∀ t, fell (add x b) i t ↔ fell (add x a) i t := fun t => by
  rw [fell_add, fell_add]
  constructor
  ·rintro (h1 | h1)
   ·exact .inl h1
   ·exact (hne b _ hb h1.1).elim
  ·rintro (h1 | h1)
   ·exact .inl h1
   ·exact (hne a _ ha h1.1).elim
 refine ⟨⟨rfl, rfl, fun t => hK 0 t (by decide), fun t => (hK 1 t (by decide)).2, fun t => hK 2 t (by decide), h3, fun t => hK 5 t (by decide), hf⟩, fun t s => ?_⟩
 rw [older_add, older_add]
 constructor
 ·rintro (h1 | h1)
  ·exact .inl h1
  ·exact (hab b 6 hb (by decide) h1.1).elim
 ·rintro (h1 | h1)
  ·exact .inl h1
  ·exact (hab a 6 ha (by decide) h1.1).elim
theorem limit_fewer {x : TF} {a b : Ev} (ha : a.kind = 3) (hb : b.kind = 3) (hd : a.day = b.day) (hl : a.land = b.land) (h : ∀ v ∈ a.items, v ∈ b.items) {k i d : Int} (vx : Ok (add x a)) (vy : Ok (add x b)) (h0 : 0 ≤ dateOn (add x b) k i d) : 0 ≤ dateOn (add x a) k i d ∧ dateOn (add x a) k i d ≤ dateOn (add x b) k i d := by
 obtain ⟨s, ho⟩ := limit_takes (x := x) ha hb hd hl h k i
 exact s.noLess ho vx vy h0
end Go.TM.Tr
end
section
namespace Go.TM
open Go
def cum (c : Int → Bool) : Nat → Int
 | 0 => 0
 | n + 1 => cum c n + (if c ((n + 1 : Nat) : Int) then 1 else 0)
theorem firstDay_spec (c : Int → Bool) (idle : Int) : ∀ (d : Nat) (n : Int), n < idle → ∃ w : Nat, firstDay c idle d n = w ∧ w ≤ d ∧ n + cum c d - cum c w < idle ∧ (1 ≤ w → n + cum c d - cum c (w - 1) ≥ idle) := by
 intro d
 induction d with
 | zero => intro n hn; exact ⟨0, rfl, Nat.le_refl _, by omega, fun h => by omega⟩
 | succ d ih =>
  intro n hn
  have hc : (if c ((d + 1 : Nat) : Int) then n + 1 else n) + cum c d = n + cum c (d + 1) := by
   rw [cum]; split <;> omega
  rw [firstDay]
  by_cases e : (if c ((d + 1 : Nat) : Int) then n + 1 else n) ≥ idle
  ·rw [if_pos e]
   refine ⟨d + 1, rfl, Nat.le_refl _, by omega, fun _ => ?_⟩
   rw [Nat.add_sub_cancel]; omega
  ·rw [if_neg e]
   obtain ⟨w, h1, h2, h3, h4⟩ := ih _ (by omega : (if c ((d + 1 : Nat) : Int) then n + 1 else n) < idle)
   exact ⟨w, h1, by omega, by omega, fun h => by have := h4 h; omega⟩
def cnt (u : UseFile) (a d : Int) : Int := cum (counts u) d.toNat - cum (counts u) a.toNat
theorem window_bound {u : UseFile} (hi : 1 ≤ u.idle) {day : Int} (hd : 0 ≤ day) : 0 ≤ (window u day).first ∧ (window u day).first ≤ day ∧ (window u day).last = day ∧ cnt u (window u day).first day < u.idle ∧ (1 ≤ (window u day).first → cnt u ((window u day).first - 1) day ≥ u.idle) := by
 obtain ⟨w, h1, h2, h3, h4⟩ := firstDay_spec (counts u) u.idle day.toNat 0 (by omega)
 unfold window cnt
 simp only [h1]
 refine ⟨by omega, by omega, trivial, ?_, fun h => ?_⟩
 ·rw [show ((w : Nat) : Int).toNat = w by omega]; omega
 ·have := h4 (by omega)
  rw [show (((w : Nat) : Int) - 1).toNat = w - 1 by omega]; omega
end Go.TM
end
section
namespace Go.TM
open Go
theorem safeGo_one {w : Span} : ∀ {l : List Paper} {out : Int}, out ≠ 1 → (safeGo w l out = 1 ↔ ∃ p ∈ l, insideB w p.days = true) := by
 intro l
 induction l with
 | nil => intro out h; simp [safeGo, h]
 | cons p l ih =>
  intro out h
  rw [safeGo]
  by_cases e : insideB w p.days = true
  ·rw [if_pos e]; simp [e]
  ·rw [if_neg e, ih (by split <;> omega)]
   simp [e]
theorem safeGo_two {w : Span} : ∀ {l : List Paper} {out : Int}, (safeGo w l out = 2 → out = 2 ∧ ∀ p ∈ l, meetsB w p.days = false ∧ insideB w p.days = false) := by
 intro l
 induction l with
 | nil => intro out h; exact ⟨h, fun p hp => by simp at hp⟩
 | cons p l ih =>
  intro out h
  rw [safeGo] at h
  by_cases e : insideB w p.days = true
  ·rw [if_pos e] at h; omega
  ·rw [if_neg e] at h
   obtain ⟨h1, h2⟩ := ih h
   by_cases e2 : meetsB w p.days = true
   ·rw [if_pos e2] at h1; omega
   ·rw [if_neg e2] at h1
    refine ⟨h1, fun q hq => ?_⟩
    rcases List.mem_cons.1 hq with rfl | hq
    ·exact ⟨by simpa using e2, by simpa using e⟩
    ·exact h2 q hq
theorem safeGo_two' {w : Span} : ∀ {l : List Paper}, (∀ p ∈ l, meetsB w p.days = false ∧ insideB w p.days = false) → safeGo w l 2 = 2 := by
 intro l
 induction l with
 | nil => intro _; rfl
 | cons p l ih =>
  intro h
  have := h p (by simp)
  rw [safeGo, if_neg (by rw [this.2]; simp), if_neg (by rw [this.1]; simp)]
  exact ih fun q hq => h q (by simp [hq])
theorem safeGo_vals {w : Span} : ∀ {l : List Paper} {out : Int}, (out = 0 ∨ out = 1 ∨ out = 2) → (safeGo w l out = 0 ∨ safeGo w l out = 1 ∨ safeGo w l out = 2) := by
 intro l
 induction l with
 | nil => intro out h; exact h
 | cons p l ih =>
  intro out h
  rw [safeGo]
  split
  ·omega
  ·apply ih; split <;> omega
theorem safe_vals (u : UseFile) (k i d : Int) : safe u k i d = 0 ∨ safe u k i d = 1 ∨ safe u k i d = 2 := by
 unfold safe
 split
 ·omega
 ·exact safeGo_vals (.inr (.inr rfl))
def InW (u : UseFile) (day d : Int) : Prop := (window u day).first ≤ d ∧ d ≤ day
theorem inside_def (w x : Span) : insideB w x = true ↔ w.first ≤ x.first ∧ x.last ≤ w.last := by
 unfold insideB mx mn
 rw [decide_eq_true_eq]
 constructor
 ·rintro ⟨h1, h2⟩; split at h1 <;> split at h2 <;> omega
 ·rintro ⟨h1, h2⟩; constructor
  ·split <;> omega
  ·split <;> omega
theorem meets_def {w x : Span} (hw : w.first ≤ w.last) (hx : x.first ≤ x.last) : meetsB w x = true ↔ x.first ≤ w.last ∧ w.first ≤ x.last := by
 unfold meetsB mx mn
 rw [decide_eq_true_eq]
 split <;> split <;> omega
def Choice : List Paper → List Int → Prop
 | [], [] => True
 | p :: ps, d :: ds => (p.days.first ≤ d ∧ d ≤ p.days.last) ∧ Choice ps ds
 | _, _ => False
theorem meetsGo_bit (u : UseFile) (day : Int) : ∀ (l : List Request) (k acc j : Nat), (meetsGo u day l k acc).testBit j = (acc.testBit j || (decide (k ≤ j) && (l[j - k]?).any fun r => isIn day (window u r.day).first r.day)) := by
 intro l
 induction l with
 | nil => intro k acc j; simp [meetsGo]
 | cons r l ih =>
  intro k acc j
  rw [meetsGo, ih]
  by_cases e : j = k
  ·subst e
   simp only [Nat.sub_self, List.getElem?_cons_zero, Option.any_some, Nat.le_refl, decide_true, Bool.true_and]
   rw [show decide (j + 1 ≤ j) = false by simp]
   split <;> rename_i hh <;> simp [hh, Nat.testBit_or, Nat.testBit_two_pow_self]
  ·have hacc : (if isIn day (window u r.day).first r.day then acc ||| 2 ^ k else acc).testBit j = acc.testBit j := by
    split
    ·rw [Nat.testBit_or, Nat.testBit_two_pow]; simp [Ne.symm e]
    ·rfl
   rw [hacc]
   by_cases e2 : k ≤ j
   ·have h1 : k + 1 ≤ j := by omega
    rw [show j - k = (j - (k + 1)) + 1 by omega, List.getElem?_cons_succ]
    simp [e2, h1]
   ·have h1 : ¬ k + 1 ≤ j := by omega
    simp [e2, h1]
theorem meets_bit (u : UseFile) (l : List Request) (day : Int) (j : Nat) : (meets u l day).testBit j = (l[j]?).any fun r => isIn day (window u r.day).first r.day := by
 unfold meets
 rw [meetsGo_bit]; simp
def orAll (u : UseFile) (L : List Request) : List Int → Nat → Nat
 | [], s => s
 | d :: ds, s => orAll u L ds (s ||| meets u L d)
theorem orAll_bit {u : UseFile} {L : List Request} (j : Nat) : ∀ {ds : List Int} {s : Nat}, (orAll u L ds s).testBit j = (s.testBit j || ds.any fun d => (meets u L d).testBit j) := by
 intro ds
 induction ds with
 | nil => intro s; simp [orAll]
 | cons d ds ih => intro s; rw [orAll, ih, Nat.testBit_or, List.any_cons, Bool.or_assoc]
theorem daysOf_mem {x : Span} {d : Int} : d ∈ daysOf x ↔ x.first ≤ d ∧ d ≤ x.last := by
 unfold daysOf
 rw [List.mem_map]
 constructor
 ·rintro ⟨i, h1, rfl⟩
  rw [List.mem_range] at h1; omega
 ·rintro ⟨h1, h2⟩
  exact ⟨(d - x.first).toNat, by rw [List.mem_range]; omega, by omega⟩
theorem mem_step {ms R : List Nat} {s : Nat} : s ∈ stepL ms R ↔ ∃ a ∈ R, ∃ b ∈ ms, s = a ||| b := by
 unfold stepL
 simp only [List.mem_flatMap, List.mem_map]
 constructor
 ·rintro ⟨a, h1, b, h2, h3⟩; exact ⟨a, h1, b, h2, h3.symm⟩
 ·rintro ⟨a, h1, b, h2, h3⟩; exact ⟨a, h1, b, h2, h3.symm⟩
theorem reach_iff {u : UseFile} {L : List Request} : ∀ {ps : List Paper} {R : List Nat} {s : Nat}, s ∈ reachL u L ps R ↔ ∃ a ∈ R, ∃ ds, Choice ps ds ∧ s = orAll u L ds a := by
 intro ps
 induction ps with
 | nil =>
  intro R s
  rw [reachL]
  constructor
  ·intro h; exact ⟨s, h, [], trivial, rfl⟩
  ·rintro ⟨a, h, ds, hc, rfl⟩
   cases ds with
   | nil => exact h
   | cons d ds => exact hc.elim
 | cons p ps ih =>
  intro R s
  rw [reachL, ih]
  constructor
  ·rintro ⟨a, h, ds, hc, rfl⟩
   obtain ⟨b, hb, m, hm, rfl⟩ := mem_step.1 h
   obtain ⟨d, hd, rfl⟩ := List.mem_map.1 hm
   exact ⟨b, hb, d :: ds, ⟨daysOf_mem.1 hd, hc⟩, rfl⟩
  ·rintro ⟨a, h, ds, hc, rfl⟩
   cases ds with
   | nil => exact hc.elim
   | cons d ds =>
    obtain ⟨h1, h2⟩ := hc
    exact ⟨_, mem_step.2 ⟨a, h, _, List.mem_map.2 ⟨d, daysOf_mem.2 h1, rfl⟩, rfl⟩, ds, h2, rfl⟩
theorem orAll_lt {u : UseFile} {L : List Request} {ds : List Int} {s : Nat} (j : Nat) (hs : s.testBit j = false) (hj : L.length ≤ j) : (orAll u L ds s).testBit j = false := by
 rw [orAll_bit, hs, Bool.false_or, List.any_eq_false]
 intro d _
 rw [meets_bit, List.getElem?_eq_none hj]; simp
theorem can_iff {u : UseFile} {land item : Int} {L : List Request} : can u land item L = true ↔ ∃ ds, Choice (shown u land item) ds ∧ ∀ r ∈ L, InW u r.day u.from_ ∨ ∃ d ∈ ds, InW u r.day d := by
 have key : ∀ ds, orAll u L ds (meets u L u.from_) = 2 ^ L.length - 1 ↔ ∀ r ∈ L, InW u r.day u.from_ ∨ ∃ d ∈ ds, InW u r.day d := by
  intro ds
  constructor
  ·intro h r hr
   obtain ⟨j, hj⟩ := List.mem_iff_getElem?.1 hr
   have hjl := (List.getElem?_eq_some_iff.1 hj).1
   have hb : (orAll u L ds (meets u L u.from_)).testBit j = true := by rw [h, Nat.testBit_two_pow_sub_one]; simp [hjl]
   rw [orAll_bit, Bool.or_eq_true, meets_bit, hj, List.any_eq_true] at hb
   rcases hb with hb | ⟨d, hd, hb⟩
   ·simp [isIn] at hb; exact .inl hb
   ·rw [meets_bit, hj] at hb
    simp [isIn] at hb
    exact .inr ⟨d, hd, hb⟩
  ·intro h
   apply Nat.eq_of_testBit_eq
   intro j
   rw [Nat.testBit_two_pow_sub_one]
   by_cases hj : j < L.length
   ·have hr : L[j]? = some L[j] := List.getElem?_eq_getElem hj
    rw [orAll_bit, meets_bit, hr]
    simp only [Option.any_some, hj, decide_true]
    rcases h L[j] (List.getElem_mem _) with ⟨h1, h2⟩ | ⟨d, hd, h1, h2⟩
    ·rw [show isIn u.from_ (window u L[j].day).first L[j].day = true by simp [isIn]; exact ⟨h1, h2⟩]; rfl
    ·rw [Bool.or_eq_true]; right
     rw [List.any_eq_true]
     refine ⟨d, hd, ?_⟩
     rw [meets_bit, hr]
     simp [isIn]; exact ⟨h1, h2⟩
   ·rw [orAll_lt j (by rw [meets_bit, List.getElem?_eq_none (by omega)]; rfl) (by omega)]
    simp [hj]
 unfold can
 rw [List.contains_iff_mem, reach_iff]
 constructor
 ·rintro ⟨a, ha, ds, hc, hs⟩
  rw [List.mem_singleton] at ha
  subst ha
  exact ⟨ds, hc, (key ds).1 hs.symm⟩
 ·rintro ⟨ds, hc, h⟩
  exact ⟨_, List.mem_singleton.2 rfl, ds, hc, ((key ds).2 h).symm⟩
end Go.TM
end
section
namespace Go.TM
open Go
theorem Choice.snoc : ∀ {ps : List Paper} {ds : List Int}, Choice ps ds → ∀ {p : Paper} {d : Int}, p.days.first ≤ d → d ≤ p.days.last → Choice (ps ++ [p]) (ds ++ [d])
 | [], [], _, _, _, h1, h2 => ⟨⟨h1, h2⟩, trivial⟩
 | _ :: _, _ :: _, h, _, _, h1, h2 => ⟨h.1, Choice.snoc h.2 h1 h2⟩
 | [], _ :: _, h, _, _, _, _ => h.elim
 | _ :: _, [], h, _, _, _, _ => h.elim
theorem left_vals (u : UseFile) (k i d : Int) : left u k i d = 0 ∨ left u k i d = 1 ∨ left u k i d = 2 := by
 unfold left
 split
 ·omega
 ·split <;> omega
end Go.TM
end
section
namespace Go.TM
open Go
def rk (s : Int) : Int := if s = 2 then 0 else if s = 1 then 2 else 1
theorem rk_vals (s : Int) : 0 ≤ rk s ∧ rk s ≤ 2 := by unfold rk; split <;> (try split) <;> omega
theorem safe_one_iff {u : UseFile} {k i d : Int} (hd : 0 ≤ d) (hi : 1 ≤ u.idle) : safe u k i d = 1 ↔ InW u d u.from_ ∨ ∃ p ∈ shown u k i, (window u d).first ≤ p.days.first ∧ p.days.last ≤ d := by
 unfold safe
 by_cases e : isIn u.from_ (window u d).first d = true
 ·rw [if_pos e]
  simp only [true_iff]
  exact .inl (by simpa [isIn, InW] using e)
 ·rw [if_neg e, safeGo_one (by omega)]
  have h1 : ¬ InW u d u.from_ := fun h => e (by simp [isIn]; exact h)
  constructor
  ·rintro ⟨p, hp, hin⟩; exact .inr ⟨p, hp, (inside_def _ _).1 hin⟩
  ·rintro (h | ⟨p, hp, hin⟩)
   ·exact absurd h h1
   ·exact ⟨p, hp, (inside_def _ _).2 hin⟩
theorem safe_two_iff {u : UseFile} {k i d : Int} (hd : 0 ≤ d) (hi : 1 ≤ u.idle) (hv : ∀ p ∈ shown u k i, p.days.first ≤ p.days.last) : safe u k i d = 2 ↔ ¬ InW u d u.from_ ∧ ∀ p ∈ shown u k i, ¬ (p.days.first ≤ d ∧ (window u d).first ≤ p.days.last) := by
 have hwb := window_bound hi (u := u) hd
 have hwl : (window u d).last = d := rfl
 unfold safe
 by_cases e : isIn u.from_ (window u d).first d = true
 ·rw [if_pos e]
  have : InW u d u.from_ := by simpa [isIn, InW] using e
  constructor
  ·intro h; omega
  ·intro h; exact absurd this h.1
 ·rw [if_neg e]
  have h1 : ¬ InW u d u.from_ := fun h => e (by simp [isIn]; exact h)
  constructor
  ·intro h
   obtain ⟨_, h2⟩ := safeGo_two h
   refine ⟨h1, fun p hp hm => ?_⟩
   have := (h2 p hp).1
   rw [(meets_def (by omega) (hv p hp)).2 ⟨by omega, hm.2⟩] at this; cases this
  ·rintro ⟨_, h2⟩
   refine safeGo_two' fun p hp => ?_
   have hno := h2 p hp
   have hvp := hv p hp
   constructor
   ·cases hm : meetsB (window u d) p.days with
    | false => rfl
    | true => exact absurd ((meets_def (by omega) hvp).1 hm) (by omega)
   ·cases hm : insideB (window u d) p.days with
    | false => rfl
    | true => have := (inside_def _ _).1 hm; exact absurd ⟨by omega, by omega⟩ hno
def Valid (u : UseFile) : Prop := 1 ≤ u.idle ∧ (∀ p ∈ u.papers, p.days.first ≤ p.days.last) ∧ ∀ r ∈ u.requests, 0 ≤ r.day ∧ r.day ≤ 2000
theorem Valid.of {u : UseFile} (h : checkF u = 0) : Valid u := ⟨(num_ok (check_num h)).2.2.2.1, fun p hp => ((check_papers h).2 p hp).2.1, (check_requests h).2⟩
theorem Valid.sh {u : UseFile} (v : Valid u) {k i : Int} : ∀ p ∈ shown u k i, p.days.first ≤ p.days.last := fun p hp => v.2.1 p (List.mem_filter.1 hp).1
structure More (u o : UseFile) (k i : Int) : Prop where
 frm : o.from_ = u.from_
 win : ∀ d, 0 ≤ d → (window o d).first ≤ (window u d).first
 sub : ∀ p ∈ shown u k i, p ∈ shown o k i
 ch : ∀ ds, Choice (shown u k i) ds → ∃ ds', Choice (shown o k i) ds' ∧ ∀ d ∈ ds, d ∈ ds'
theorem More.inW {u o : UseFile} {k i : Int} (m : More u o k i) {d x : Int} (hd : 0 ≤ d) (h : InW u d x) : InW o d x := by
 have := m.win d hd
 unfold InW at *; omega
theorem More.safe {u o : UseFile} {k i : Int} (m : More u o k i) (vu : Valid u) (vo : Valid o) {d : Int} (hd : 0 ≤ d) : rk (safe u k i d) ≤ rk (safe o k i d) := by
 have ho := safe_vals o k i d
 have key1 : TM.safe u k i d = 1 → TM.safe o k i d = 1 := by
  rw [safe_one_iff hd vu.1, safe_one_iff hd vo.1]
  rintro (h | ⟨p, hp, h1, h2⟩)
  ·exact .inl (by rw [m.frm]; exact m.inW hd h)
  ·have := m.win d hd
   exact .inr ⟨p, m.sub p hp, by omega, h2⟩
 have key2 : TM.safe o k i d = 2 → TM.safe u k i d = 2 := by
  rw [safe_two_iff hd vu.1 vu.sh, safe_two_iff hd vo.1 vo.sh]
  rintro ⟨h1, h2⟩
  refine ⟨fun h => h1 (by rw [m.frm]; exact m.inW hd h), fun p hp hm => h2 p (m.sub p hp) ?_⟩
  have := m.win d hd
  omega
 rcases safe_vals u k i d with e | e | e
 ·rcases ho with e' | e' | e'
  ·rw [e, e']; exact Int.le_refl _
  ·rw [e, e']; decide
  ·rw [key2 e'] at e; omega
 ·rw [e, key1 e]; exact Int.le_refl _
 ·rw [e]; have := rk_vals (TM.safe o k i d); simp [rk]; exact this.1
theorem left_one_iff {u : UseFile} {k i d : Int} : left u k i d = 1 ↔ ∀ r ∈ against u k i d, safe u k i r.day = 1 := by
 unfold left
 by_cases e : ((against u k i d).all fun r => decide (safe u k i r.day = 1)) = true
 ·rw [if_pos e]
  simp only [true_iff]
  intro r hr; simpa using List.all_eq_true.1 e r hr
 ·rw [if_neg e]
  constructor
  ·intro h; split at h <;> omega
  ·intro h
   exact absurd (List.all_eq_true.2 fun r hr => by simpa using h r hr) e
theorem left_two_iff {u : UseFile} {k i d : Int} : left u k i d = 2 ↔ left u k i d ≠ 1 ∧ can u k i (against u k i d) = false := by
 unfold left
 by_cases e : ((against u k i d).all fun r => decide (safe u k i r.day = 1)) = true
 ·rw [if_pos e]; simp
 ·rw [if_neg e]
  cases hc : can u k i (against u k i d) <;> simp
theorem rk_le {a b : Int} (ha : a = 0 ∨ a = 1 ∨ a = 2) (hb : b = 0 ∨ b = 1 ∨ b = 2) (h1 : a = 1 → b = 1) (h2 : b = 2 → a = 2) : rk a ≤ rk b := by
 unfold rk
 rcases ha with rfl | rfl | rfl <;> rcases hb with rfl | rfl | rfl <;> simp at h1 h2 ⊢
theorem can_of_safe {u : UseFile} (vu : Valid u) {k i : Int} {L : List Request} (hL : ∀ r ∈ L, 0 ≤ r.day) (h : ∀ r ∈ L, safe u k i r.day = 1) : can u k i L = true := by
 rw [can_iff]
 have hch : ∀ ps : List Paper, (∀ p ∈ ps, p.days.first ≤ p.days.last) → Choice ps (ps.map fun p => p.days.first) := by
  intro ps
  induction ps with
  | nil => intro _; trivial
  | cons p ps ih => intro h; exact ⟨⟨Int.le_refl _, h p (by simp)⟩, ih fun q hq => h q (by simp [hq])⟩
 refine ⟨_, hch _ vu.sh, fun r hr => ?_⟩
 rcases (safe_one_iff (hL r hr) vu.1).1 (h r hr) with h1 | ⟨p, hp, h1, h2⟩
 ·exact .inl h1
 ·have := vu.sh p hp
  exact .inr ⟨_, List.mem_map.2 ⟨p, hp, rfl⟩, h1, by omega⟩
theorem More.left {u o : UseFile} {k i : Int} (m : More u o k i) (vu : Valid u) (vo : Valid o) (hr : o.requests = u.requests) (d : Int) : rk (left u k i d) ≤ rk (left o k i d) := by
 have hag : against o k i d = against u k i d := by unfold against; rw [hr]
 have hmem : ∀ r ∈ against u k i d, 0 ≤ r.day ∧ r.day ≤ 2000 := fun r h => vu.2.2 r (List.mem_filter.1 h).1
 refine rk_le (left_vals _ _ _ _) (left_vals _ _ _ _) ?_ ?_
 ·rw [left_one_iff, left_one_iff, hag]
  intro h r hr'
  have := m.safe vu vo (hmem r hr').1
  rw [h r hr'] at this
  rcases safe_vals o k i r.day with e | e | e
  ·rw [e] at this; exact absurd this (by decide)
  ·exact e
  ·rw [e] at this; exact absurd this (by decide)
 ·intro h
  obtain ⟨h1, h2⟩ := left_two_iff.1 h
  rw [hag] at h2
  have hnc : can u k i (against u k i d) = false := by
   cases hc : can u k i (against u k i d) with
   | false => rfl
   | true =>
    obtain ⟨ds, c1, c2⟩ := can_iff.1 hc
    obtain ⟨ds', c3, c4⟩ := m.ch ds c1
    rw [can_iff.2 ⟨ds', c3, fun r hr' => ?_⟩] at h2
    ·cases h2
    rcases c2 r hr' with hh | ⟨x, hx, hh⟩
    ·exact .inl (by rw [m.frm]; exact m.inW (hmem r hr').1 hh)
    ·exact .inr ⟨x, c4 x hx, m.inW (hmem r hr').1 hh⟩
  refine left_two_iff.2 ⟨fun h3 => ?_, hnc⟩
  rw [can_of_safe vu (fun r hr' => (hmem r hr').1) (left_one_iff.1 h3)] at hnc; cases hnc
theorem more_paper {u : UseFile} {p : Paper} (hp : p.days.first ≤ p.days.last) (k i : Int) : More u { u with papers := u.papers ++ [p] } k i := by
 have hsh : shown { u with papers := u.papers ++ [p] } k i = shown u k i ++ (if showsB k i p then [p] else []) := by
  show (u.papers ++ [p]).filter (showsB k i) = _
  rw [List.filter_append]
  congr 1
  cases hs : showsB k i p <;> simp [hs]
 refine ⟨rfl, fun d _ => Int.le_refl _, fun q hq => by rw [hsh]; exact List.mem_append_left _ hq, fun ds hds => ?_⟩
 rw [hsh]
 by_cases hs : showsB k i p = true
 ·rw [if_pos hs]
  exact ⟨ds ++ [p.days.first], hds.snoc (Int.le_refl _) hp, fun d hd => List.mem_append_left _ hd⟩
 ·rw [if_neg hs, List.append_nil]
  exact ⟨ds, hds, fun d hd => hd⟩
end Go.TM
end
section
namespace Go.TM
open Go
def lostItems (u : UseFile) (x : Tr.TF) (k d : Int) : List Int := ((List.range (min u.items.toNat x.items.toNat)).filter fun i : Nat => left u k (i : Int) d != 1).map fun i : Nat => (i : Int)
theorem rk_two {s : Int} (h : rk s = 2) : s = 1 := by unfold rk at h; split at h <;> (try split at h) <;> omega
theorem lost_fewer {u : UseFile} {p : Paper} (hu : checkF u = 0) (ho : checkF { u with papers := u.papers ++ [p] } = 0) (x : Tr.TF) (k d : Int) : ∀ v ∈ lostItems { u with papers := u.papers ++ [p] } x k d, v ∈ lostItems u x k d := by
 intro v hv
 unfold lostItems at hv ⊢
 obtain ⟨i, h1, rfl⟩ := List.mem_map.1 hv
 obtain ⟨h2, h3⟩ := List.mem_filter.1 h1
 refine List.mem_map.2 ⟨i, List.mem_filter.2 ⟨h2, ?_⟩, rfl⟩
 have hp : p.days.first ≤ p.days.last := (Valid.of ho).2.1 p (by simp)
 have hm := (more_paper (u := u) hp k (i : Int)).left (Valid.of hu) (Valid.of ho) rfl d
 cases hl : (left u k (i : Int) d != 1) with
 | true => rfl
 | false =>
  have h1 : left u k (i : Int) d = 1 := by simpa using hl
  have h2 : rk (left u k (i : Int) d) = 2 := by rw [h1]; rfl
  have h4 := rk_vals (left { u with papers := u.papers ++ [p] } k (i : Int) d)
  have h5 := rk_two (s := left { u with papers := u.papers ++ [p] } k (i : Int) d) (by omega)
  rw [h5] at h3
  cases h3
def lostE (u : UseFile) (x : Tr.TF) (k d : Int) : Tr.Ev := ⟨3, d, k, lostItems u x k d, 0⟩
theorem used_noLess {u o : UseFile} {p : Paper} (eo : o = { u with papers := u.papers ++ [p] }) (hu : checkF u = 0) (ho : checkF o = 0) {x : Tr.TF} {k d : Int} (vn : Tr.Ok (Tr.add x (lostE o x k d))) (vw : Tr.Ok (Tr.add x (lostE u x k d))) {i t : Int}
  (h : 0 ≤ Tr.dateOn (Tr.add x (lostE u x k d)) k i t) : 0 ≤ Tr.dateOn (Tr.add x (lostE o x k d)) k i t ∧ Tr.dateOn (Tr.add x (lostE o x k d)) k i t ≤ Tr.dateOn (Tr.add x (lostE u x k d)) k i t := by
 have hf : ∀ v ∈ (lostE o x k d).items, v ∈ (lostE u x k d).items := by
  subst eo
  exact lost_fewer hu ho x k d
 have e1 : (lostE o x k d).kind = 3 := rfl
 have e2 : (lostE u x k d).kind = 3 := rfl
 have e3 : (lostE o x k d).day = (lostE u x k d).day := rfl
 have e4 : (lostE o x k d).land = (lostE u x k d).land := rfl
 generalize lostE o x k d = a at vn hf e1 e3 e4 ⊢
 generalize lostE u x k d = b at vw hf e2 e3 e4 h ⊢
 exact Tr.limit_fewer e1 e2 e3 e4 hf vn vw h
end Go.TM
end
section
namespace Go.Proofs.YtldamlcehbdkdaaGreatDoor
open Go Go.TM Go.Proofs
attribute [local irreducible] T.wp CV FWK
def indexF (x : Int) : Nat → List Int → Int
 | _, [] => -1
 | i, y :: l => if x == y then i else indexF x (i + 1) l
theorem indexF_ge (x : Int) : ∀ (l : List Int) (i : Nat), decide (indexF x i l ≥ 0) = l.contains x := by
 intro l
 induction l with
 | nil => intro i; rfl
 | cons y l ih =>
  intro i
  rw [indexF, List.contains_cons]
  split
  ·rename_i h; rw [h]; simp
  ·rename_i h
   have h' : (x == y) = false := by simpa using h
   rw [ih, h', Bool.false_or]
theorem c106 {h : LH} {p : Option Addr} {n c : Nat} {l : List Int} (hl : Sl IntE 1 h.get p n l) (x : Int) : Pu Tryz.prog 126 #[.slice p n c, .int .i64 x] h (.int .i64 (indexF x 0 l)) := by
 refine w106 _ _ _ _ X0_ok ?_
 unfold n106
 have hn := hl.1
 have hb := hl.2.1
 refine t_loop (fun m vs h' => h' = h ∧ ∃ i : Nat, vs = [.int .i64 0, .int .i64 i] ∧ i ≤ n ∧ m = n - i ∧ indexF x 0 l = indexF x i (l.drop i)) ⟨rfl, 0, rfl, Nat.zero_le _, rfl, rfl⟩ ?_
 rintro Y m vs _ hY ⟨rfl, i, rfl, hi, rfl, hc⟩
 refine gZ ?_
 refine t_if (fun e1 => ?_) (fun e1 => ?_)
 ·obtain ⟨y, a, hx, ha, e2⟩ := hl.at (i := i) (by omega)
  unfold IntE at e2
  refine gZ ?_
  rw [drop_of hx, indexF] at hc
  refine t_cond (fun e3 => ?_) (fun e3 => ?_)
  ·refine gZ ?_
   refine t_ret ⟨?_, rfl⟩
   rw [hc, if_pos e3]
  ·refine t_again (hY (n - (i + 1)) _ _ (by omega) ⟨rfl, i + 1, ?_, by omega, rfl, ?_⟩)
   ·rw [wrap_id (by omega) (by omega)]; rfl
   ·rw [hc, if_neg (by simp [e3])]
 ·refine gZ ?_
  refine t_ret ⟨?_, rfl⟩
  rw [hc, List.drop_eq_nil_of_le (by omega)]; rfl
theorem c100 {h : LH} {p : Option Addr} {n c : Nat} {l : List Int} (hl : Sl IntE 1 h.get p n l) (x : Int) : Pu Tryz.prog 66 #[.slice p n c, .int .i64 x] h (.bool (l.contains x)) := by
 refine w100 _ _ _ _ X0_ok ?_
 unfold n100
 refine t_pu (c106 hl x) ?_
 refine gZ ?_
 refine t_ret ⟨?_, rfl⟩
 rw [indexF_ge]
theorem c80 {h : LH} {z : Addr} {d : Int} (hz : h.get.cell? z = some (.int .i64 d)) (a b : Int) : Pu Tryz.prog 170 #[.agg #[.int .i64 a, .int .i64 b], .pointer (some z)] h (.bool (isIn d a b)) := by
 refine w80 _ _ _ X0_ok ?_
 unfold n80
 refine gZ ?_
 refine t_pu (c81 _ _ _) ?_
 refine gZ ?_
 exact t_ret ⟨rfl, rfl⟩
def placeF {α : Type} (f : α → Bool) : Nat → List α → Int
 | _, [] => -1
 | i, y :: l => if f y then i else placeF f (i + 1) l
theorem placeF_ge {α : Type} (f : α → Bool) : ∀ (l : List α) (i : Nat), decide (placeF f i l ≥ 0) = l.any f := by
 intro l
 induction l with
 | nil => intro i; rfl
 | cons y l ih =>
  intro i
  rw [placeF, List.any_cons]
  split
  ·rename_i h; rw [h]; simp
  ·rename_i h
   have h' : f y = false := by simpa using h
   rw [ih, h', Bool.false_or]
theorem c98 {h : LH} {p : Option Addr} {n c : Nat} {l : List Span} {fv : Value} {g : Span → Bool} (hl : Sl SpanE 2 h.get p n l) (hf : ∀ x h', h.le h' → CV X0 Tryz.prog fv #[.agg #[.int .i64 x.first, .int .i64 x.last]] h' fun r h'' => h'.le h'' ∧ r = .bool (g x)) :
  Gr Tryz.prog 218 #[.slice p n c, fv] h fun r _ => r = .int .i64 (placeF g 0 l) := by
 refine w98 _ _ _ _ X0_ok ?_
 unfold n98
 have hn := hl.1
 have hb := hl.2.1
 refine t_loop (fun m vs h' => h.le h' ∧ ∃ i : Nat, vs = [.int .i64 0, .int .i64 i] ∧ i ≤ n ∧ m = n - i ∧ placeF g 0 l = placeF g i (l.drop i)) ⟨LH.le_refl _, 0, rfl, Nat.zero_le _, rfl, rfl⟩ ?_
 rintro Y m vs h₁ hY ⟨hle, i, rfl, hi, rfl, hc⟩
 refine gZ ?_
 refine t_if (fun e1 => ?_) (fun e1 => ?_)
 ·obtain ⟨x, a, hx, ha, e2, e4⟩ := (hl.le SpanE.grow hle.1).at (i := i) (by omega)
  refine gZ ?_
  refine t_callv (hf x h₁ hle) ?_
  rintro _ h₂ ⟨hle2, rfl⟩
  refine gZ ?_
  rw [drop_of hx, placeF] at hc
  refine t_cond (fun e3 => ?_) (fun e3 => ?_)
  ·refine gZ ?_
   refine t_ret ⟨LH.le_trans hle hle2, ?_⟩
   rw [hc, if_pos e3]
  ·refine t_again (hY (n - (i + 1)) _ _ (by omega) ⟨LH.le_trans hle hle2, i + 1, ?_, by omega, rfl, ?_⟩)
   ·rw [wrap_id (by omega) (by omega)]; rfl
   ·rw [hc, if_neg (by simp [e3])]
 ·refine gZ ?_
  refine t_ret ⟨hle, ?_⟩
  rw [hc, List.drop_eq_nil_of_le (by omega)]; rfl
theorem c79 {h : LH} {p : Option Addr} {n c : Nat} {l : List Span} {fv : Value} {g : Span → Bool} (hl : Sl SpanE 2 h.get p n l) (hf : ∀ x h', h.le h' → CV X0 Tryz.prog fv #[.agg #[.int .i64 x.first, .int .i64 x.last]] h' fun r h'' => h'.le h'' ∧ r = .bool (g x)) :
  Gr Tryz.prog 169 #[.slice p n c, fv] h fun r _ => r = .bool (l.any g) := by
 refine w79 _ _ _ _ X0_ok ?_
 unfold n79
 refine t_gr (c98 hl hf) ?_
 rintro _ h' hle rfl
 refine gZ ?_
 refine t_ret ⟨hle, ?_⟩
 rw [placeF_ge]
def Asks (v : Value) (h : LH) (u : UseFile) (g : Int) : Prop := numbersF u = 0 → ∀ (f : FileC) h', h.le h' → FileR h'.get f u → CV X0 Tryz.prog v #[fileV f u] h' fun r h'' => h'.le h'' ∧ r = .int .i64 g
theorem Asks.le {v : Value} {h h' : LH} {u : UseFile} {g : Int} (hl : h.le h') (a : Asks v h u g) : Asks v h' u g := fun hn f h2 hl2 => a hn f h2 (LH.le_trans hl hl2)
theorem c82 {h : LH} {f : FileC} {u : UseFile} {z : Addr} {d : Int} (hz : h.get.cell? z = some (.int .i64 d)) : Pu Tryz.prog 172 #[fileV f u, .pointer (some z)] h (.int .i64 (if isDay d then 0 else 1)) := by
 refine w82 _ _ _ _ _ _ _ _ _ _ _ _ _ _ X0_ok ?_
 unfold n82
 refine gZ ?_
 refine t_pu (c84 _) ?_
 refine gZ ?_
 refine t_pu (c83 _ _) ?_
 refine gZ ?_
 refine t_ret ⟨?_, rfl⟩
 unfold isDay
 cases isIn d 0 2000 <;> rfl
theorem c85 {h : LH} {f : FileC} {u : UseFile} (hl : IsI (u.lands - 1)) {z : Addr} {d : Int} (hz : h.get.cell? z = some (.int .i64 d)) : Pu Tryz.prog 175 #[fileV f u, .pointer (some z)] h (.int .i64 (if isIn d 0 (u.lands - 1) then 0 else 6)) := by
 refine w85 _ _ _ _ _ _ _ _ _ _ _ _ _ _ X0_ok ?_
 unfold n85
 refine gZ ?_
 refine t_pu (c86 (f := f) hl _) ?_
 refine gZ ?_
 refine t_pu (c83 _ _) ?_
 refine gZ ?_
 refine t_ret ⟨?_, rfl⟩
 cases isIn d 0 (u.lands - 1) <;> rfl
def dayQ (d : Int) : Int := if isDay d then 0 else 1
def landQ (u : UseFile) (d : Int) : Int := if isIn d 0 (u.lands - 1) then 0 else 6
theorem c54 {h : LH} (u : UseFile) (d : Int) : Gr Tryz.prog 115 #[.int .i64 d] h fun r h' => (∃ fn a b, r = Value.func fn a b) ∧ Asks r h' u (dayQ d) := by
 refine w54 _ X0_ok ?_
 unfold n54
 refine t_new fun r hr => ?_
 have hz : Cells.cell? (h.get.upd r (true, .cells #[.int .i64 d] 3 (0, 0))) ⟨r, 0, none⟩ = some (.int .i64 d) := cell_upd rfl
 refine t_ret ⟨LH.upd_le hr, ⟨_, _, _, rfl⟩, fun hn f h' hle _ => ?_⟩
 exact cv_fw X0_ok (by rfl) (pu_gr (c82 (Cells.cell?_le hle.1 hz)))
theorem c58 {h : LH} (u : UseFile) (d : Int) : Gr Tryz.prog 117 #[.int .i64 d] h fun r h' => (∃ fn a b, r = Value.func fn a b) ∧ Asks r h' u (landQ u d) := by
 refine w58 _ X0_ok ?_
 unfold n58
 refine t_new fun r hr => ?_
 have hz : Cells.cell? (h.get.upd r (true, .cells #[.int .i64 d] 3 (0, 0))) ⟨r, 0, none⟩ = some (.int .i64 d) := cell_upd rfl
 refine t_ret ⟨LH.upd_le hr, ⟨_, _, _, rfl⟩, fun hn f h' hle _ => ?_⟩
 exact cv_fw X0_ok (by rfl) (pu_gr (c85 (num_lands hn) (Cells.cell?_le hle.1 hz)))
end Go.Proofs.YtldamlcehbdkdaaGreatDoor
end
section
namespace Go.Proofs.YtldamlcehbdkdaaGreatDoor
open Go Go.TM Go.Proofs
attribute [local irreducible] T.wp CV FWK
def De (f : FuncId) (args : Array Value) (h : LH) (d m : Nat) (fc : FileC) (u : UseFile) (V : Value → LH → Prop) : Prop := FW X0 Tryz.prog f args h fun r h' => Mv m h h' ∧ Desk h'.get d m fc u ∧ V r h'
theorem t_de {X : XP} {Q : Leaf → LH → Prop} {h : LH} {f : FuncId} {args : Array Value} {d m : Nat} {fc : FileC} {u : UseFile} {k : Value → T} {V : Value → LH → Prop} (c : De f args h d m fc u V) (hk : ∀ v h', Mv m h h' → Desk h'.get d m fc u → V v h' → (k v).wp X Tryz.prog Q h') : (T.call false f args k).wp X Tryz.prog Q h :=
 t_call (FW.top c) fun v h' ha => hk v h' ha.1 ha.2.1 ha.2.2
theorem two119 : twoInts Tryz.prog 272 = true := by kernel_rfl
theorem two30 : twoInts Tryz.prog 29 = true := by kernel_rfl
theorem i64_3 : isI64 Tryz.prog 3 = true := by kernel_rfl
theorem Desk.updMap {h : Cells} {d m : Nat} {f : FileC} {u : UseFile} (k : Desk h d m f u) {es' : Array MapEntry} {c : Nat} (he : ∀ e ∈ es'.toList, ∃ day : Int, e.key = .agg #[.int .i64 day, .int .i64 u.idle] ∧ e.val = .agg #[.int .i64 (window u day).first, .int .i64 day]) : Rd h (h.upd m (true, .map es' c)) ∧ Desk (h.upd m (true, .map es' c)) d m f u := by
 have hr : Rd h (h.upd m (true, .map es' c)) := by
  intro a v hc
  have hne : a.block ≠ m := by
   intro e
   obtain ⟨es, c, hm⟩ := k.isMap
   unfold Cells.cell? at hc
   rw [e, hm] at hc; cases hc
  unfold Cells.cell? at hc ⊢
  rw [Cells.upd_ne _ _ hne]; exact hc
 exact ⟨hr, k.file.rd hr, k.rep.rd hr, fun j hj => hr _ _ (k.counts j hj), hr _ _ k.mapp, _, _, Cells.upd_self _ _ _, he⟩
theorem Mv.updMap {m : Nat} {h : LH} {es' : Array MapEntry} {c : Nat} : Mv m h { h with get := h.get.upd m (true, .map es' c) } :=
 ⟨fun r x hr hx => by show Cells.upd _ _ _ r = _; rw [Cells.upd_ne _ _ hr]; exact hx, fun _ _ _ => ⟨es', c, Cells.upd_self _ _ _⟩, rfl, rfl, rfl⟩
theorem c55 {h : LH} {d m : Nat} {f : FileC} {u : UseFile} (k : Desk h.get d m f u) (hid : 1 ≤ u.idle ∧ u.idle ≤ 2000) (day : Int) (hd : 0 ≤ day ∧ day ≤ 2000) :
  De 116 #[.pointer (some ⟨d, 0, none⟩), .int .i64 day] h d m f u fun r _ => r = .agg #[.int .i64 (window u day).first, .int .i64 day] := by
 refine w55 _ _ X0_ok ?_
 unfold n55
 obtain ⟨f0, f1, f2, f3, f4, f5, f6⟩ := k.file
 have hmp := k.mapp
 obtain ⟨es, c, hm, hes⟩ := k.map
 have hkey : ∀ e ∈ es.toList, IsKey Tryz.prog 272 e.key := fun e he => by obtain ⟨dy, h1, _⟩ := hes e he; exact .inr ⟨two119, dy, u.idle, h1⟩
 have hkey' : IsKey Tryz.prog 272 (.agg #[.int .i64 day, .int .i64 u.idle]) := .inr ⟨two119, _, _, rfl⟩
 have found : ∀ e ∈ es.toList, e.key = .agg #[.int .i64 day, .int .i64 u.idle] → e.val = .agg #[.int .i64 (window u day).first, .int .i64 day] := by
  intro e he hk
  obtain ⟨dy, h1, h2⟩ := hes e he
  rw [hk] at h1
  simp only [Value.agg.injEq, Array.mk.injEq, List.cons.injEq, Value.int.injEq, and_true, true_and] at h1
  rw [h2, h1]
 refine gZ ?_
 refine t_blk (fun vs h' => vs = [.int .i64 0, .int .i64 0] ∧ h = h') ?_ ?_
 ·refine gZ ?_
  refine t_both ?_ ?_
  ·refine t_lookup und111 inf30 ⟨c, hm⟩ hkey' hkey (fun e he hk => ?_) fun hno => ?_
   ·rw [found e he hk]
    simp only [if_true]
    refine gZ ?_
    refine t_cond (fun _ => ?_) (fun e => by cases e)
    refine gZ ?_
    exact t_ret ⟨Mv.refl, k, rfl⟩
   ·simp only [if_true]
    refine gZ ?_
    refine t_cond (fun e => by cases e) (fun _ => ?_)
    exact t_again ⟨rfl, rfl⟩
  ·refine gZ ?_
   refine t_lookup und111 inf30 ⟨c, hm⟩ hkey' hkey (fun e he hk => ?_) fun hno => ?_
   ·rw [found e he hk]
    simp only [if_true]
    refine gZ ?_
    refine t_cond (fun _ => ?_) (fun e => by cases e)
    refine gZ ?_
    exact t_ret ⟨Mv.refl, k, rfl⟩
   ·simp only [if_true]
    refine gZ ?_
    refine t_cond (fun e => by cases e) (fun _ => ?_)
    exact t_again ⟨rfl, rfl⟩
 ·rintro vs _ ⟨rfl, rfl⟩
  refine gZ ?_
  refine t_loop (fun mm vs h' => h = h' ∧ ∃ (x : Nat) (n : Int), vs = [.int .i64 (u.idle - n), .int .i64 x, .int .i64 day] ∧ x ≤ 2000 ∧ 0 ≤ n ∧ n < u.idle ∧ x = mm ∧ firstDay (counts u) u.idle day.toNat 0 = firstDay (counts u) u.idle x n)
   ⟨rfl, day.toNat, 0, by simp; omega, by omega, by omega, by omega, rfl, rfl⟩ ?_
  rintro Y mm vs _ hY ⟨rfl, x, n, rfl, hx, hn0, hn1, rfl, hc⟩
  have fin : ∀ (w : Int), w = (window u day).first → ∀ {K : Value → T} {Q : Leaf → LH → Prop}, (∀ h', Mv m h h' → Desk h'.get d m f u → (K undef).wp X0 Tryz.prog Q h') → (T.sem false (Sem.bind (Instr.mapUpdate 264 (.map (some m)) (.agg #[.int .i64 day, .int .i64 u.idle]) (.agg #[.int .i64 w, .int .i64 day])) fun _ => pure (.tuple #[])) K).wp X0 Tryz.prog Q h := by
   intro w hw K Q hK
   refine t_mapUpdate und111 ⟨c, hm⟩ hkey' hkey fun es' c' h1 _ _ => hK _ Mv.updMap (Desk.updMap k fun e he => ?_).2
   rcases h1 e he with ⟨h1, h2⟩ | h1
   ·exact ⟨day, h1, by rw [h2, hw]⟩
   ·exact hes e h1
  refine gZ ?_
  refine t_if (fun e1 => ?_) (fun e1 => ?_)
  ·have hcell : h.get.cell? ((Addr.add ⟨d, 0, none⟩ 7).add ((x : Int).toNat * 1)) = some (.bool (counts u x)) := by
    have h7 : 0 + 7 + (x : Int).toNat * 1 = 7 + x := by omega
    rw [add_plain, add_plain, h7]; exact k.counts x (by omega)
   obtain ⟨y, rfl⟩ : ∃ y, x = y + 1 := ⟨x - 1, by omega⟩
   refine gZ ?_
   rw [firstDay] at hc
   refine t_cond (fun e2 => ?_) (fun e2 => ?_)
   ·have hin : (if counts u ((y + 1 : Nat) : Int) = true then n + 1 else n) = n + 1 := if_pos e2
    simp only [hin] at hc
    rw [wrap_id (by omega) (by omega)]
    refine t_cond (fun e3 => ?_) (fun e3 => ?_)
    ·refine gZ ?_
     have e3' : u.idle - n - 1 = 0 := by simpa using e3
     rw [if_pos (by omega)] at hc
     refine fin _ (by rw [window]; exact hc.symm) fun h' hv hk => ?_
     exact t_ret ⟨hv, hk, by rw [window, hc]⟩
    ·have e3' : u.idle - n - 1 ≠ 0 := by simpa using e3
     rw [if_neg (by omega)] at hc
     refine t_again (hY y _ _ (by omega) ⟨rfl, y, n + 1, ?_, by omega, by omega, by omega, rfl, hc⟩)
     have a1 : u.idle - n - 1 = u.idle - (n + 1) := by omega
     have a2 : ((y + 1 : Nat) : Int) - 1 = (y : Int) := by omega
     rw [wrap_id (by omega) (by omega), a1, a2]
   ·have hin : (if counts u ((y + 1 : Nat) : Int) = true then n + 1 else n) = n := if_neg (by rw [e2]; simp)
    simp only [hin] at hc
    refine t_cond (fun e3 => ?_) (fun e3 => ?_)
    ·exfalso
     have e3' : u.idle - n = 0 := by simpa using e3
     omega
    ·rw [if_neg (by omega)] at hc
     refine t_again (hY y _ _ (by omega) ⟨rfl, y, n, ?_, by omega, by omega, by omega, rfl, hc⟩)
     have a2 : ((y + 1 : Nat) : Int) - 1 = (y : Int) := by omega
     rw [wrap_id (by omega) (by omega), a2]
  ·refine gZ ?_
   obtain rfl : x = 0 := by omega
   rw [firstDay] at hc
   refine fin _ (by rw [window]; exact hc.symm) fun h' hv hk => ?_
   exact t_ret ⟨hv, hk, by rw [window, hc]; rfl⟩
end Go.Proofs.YtldamlcehbdkdaaGreatDoor
end
section
namespace Go.Proofs.YtldamlcehbdkdaaGreatDoor
open Go Go.TM Go.Proofs
attribute [local irreducible] T.wp CV FWK
def AskSl (h : LH) (p : Option Addr) (n : Nat) (u : UseFile) (l : List Int) : Prop :=
 n = l.length ∧ l.length < 4611686018427387904 ∧ ∀ i g, l[i]? = some g → ∃ a v, p = some a ∧ h.get.cell? (a.add (i * 1)) = some v ∧ Asks v h u g
noncomputable def deskOf (f : FileC) (u : UseFile) (m : Nat) : Array Value := match buildV Tryz.prog 267 [(0, fileV f u), (2, .map (some m))] with
 | some (.agg cs) => cs
 | _ => #[]
set_option maxRecDepth 100000 in
theorem deskOf_build (f : FileC) (u : UseFile) (m : Nat) : buildV Tryz.prog 267 [(0, fileV f u), (2, .map (some m))] = some (.agg (deskOf f u m)) := by kernel_rfl
theorem deskOf_size (f : FileC) (u : UseFile) (m : Nat) : (deskOf f u m).size = 2009 := by kernel_rfl
theorem deskOf_0 (f : FileC) (u : UseFile) (m : Nat) : (deskOf f u m)[0]? = some (.int .i64 u.items) := by kernel_rfl
theorem deskOf_1 (f : FileC) (u : UseFile) (m : Nat) : (deskOf f u m)[1]? = some (.int .i64 u.lands) := by kernel_rfl
theorem deskOf_2 (f : FileC) (u : UseFile) (m : Nat) : (deskOf f u m)[2]? = some (.int .i64 u.from_) := by kernel_rfl
theorem deskOf_3 (f : FileC) (u : UseFile) (m : Nat) : (deskOf f u m)[3]? = some (.int .i64 u.idle) := by kernel_rfl
theorem deskOf_4 (f : FileC) (u : UseFile) (m : Nat) : (deskOf f u m)[4]? = some (.slice f.p4 f.n4 f.c4) := by kernel_rfl
theorem deskOf_5 (f : FileC) (u : UseFile) (m : Nat) : (deskOf f u m)[5]? = some (.slice f.p5 f.n5 f.c5) := by kernel_rfl
theorem deskOf_6 (f : FileC) (u : UseFile) (m : Nat) : (deskOf f u m)[6]? = some (.slice f.p6 f.n6 f.c6) := by kernel_rfl
theorem deskOf_m (f : FileC) (u : UseFile) (m : Nat) : (deskOf f u m)[2008]? = some (.map (some m)) := by kernel_rfl
attribute [irreducible] deskOf
def openF (u : UseFile) (l : List Int) : Int := if checkF u ≠ 0 then checkF u else firstF (fun _ x => x) 0 l
def Opened (h h' : LH) (f : FileC) (u : UseFile) (g : Int) (r : Value) : Prop :=
 h.le h' ∧ ((g ≠ 0 ∧ r = .tuple #[.pointer none, .int .i64 g]) ∨ (g = 0 ∧ ∃ d m, r = .tuple #[.pointer (some ⟨d, 0, none⟩), .int .i64 0] ∧ h.get d = none ∧ h.get m = none ∧ Desk h'.get d m f u))
theorem setCell_upd {h : Cells} {r i : Nat} {m : Bool} {cs : Array Value} {el : TypeId} {v : Value} (hr : h r = some (m, .cells cs el (0, 0))) : h.setCell ⟨r, i, none⟩ v = h.upd r (m, .cells (cs.setIfInBounds i v) el (0, 0)) := by
 funext b
 unfold Cells.setCell Cells.upd
 by_cases e : b = r
 ·subst e; simp [hr]
 ·simp [e]
theorem frozen_plain {h : Cells} {r i : Nat} {m : Bool} {cs : Array Value} {el : TypeId} (hr : h r = some (m, .cells cs el (0, 0))) : h.frozen? ⟨r, i, none⟩ = false := by
 simp [Cells.frozen?, hr]
theorem c53 {h : LH} {f : FileC} {u : UseFile} {p : Option Addr} {n c : Nat} {l : List Int} (hp : Parts h.get) (hu : FileR h.get f u) (hw : AskSl h p n u l) :
  FW X0 Tryz.prog 114 #[fileV f u, .slice p n c] h fun r h' => Opened h h' f u (openF u l) r := by
 refine w53 _ _ _ _ _ _ _ _ _ _ _ _ _ _ _ _ X0_ok ?_
 unfold n53
 refine t_gr (c26 hp hu) ?_
 rintro _ h₁ le1 rfl
 refine gZ ?_
 refine t_cond (fun e0 => ?_) (fun e0 => ?_)
 ·have e0' : checkF u ≠ 0 := by simpa using e0
  refine t_ret ⟨le1, .inl ⟨?_, ?_⟩⟩
  ·rw [openF, if_pos e0']; exact e0'
  ·rw [openF, if_pos e0']
 have e0' : checkF u = 0 := by simpa using e0
 have hn0 := check_num e0'
 have ho : openF u l = firstF (fun _ x => x) 0 l := by rw [openF, if_neg (by simp [e0'])]
 have hn := hw.1
 have hb := hw.2.1
 refine t_loop (fun mm vs h' => h.le h' ∧ ∃ i : Nat, vs = [.pointer none, .int .i64 0, .int .i64 i] ∧ i ≤ n ∧ mm = n - i ∧ openF u l = firstF (fun _ x => x) i (l.drop i)) ⟨le1, 0, rfl, Nat.zero_le _, rfl, ho⟩ ?_
 rintro Y mm vs h₂ hY ⟨hle, i, rfl, hi, rfl, hc⟩
 refine gZ ?_
 refine t_if (fun e1 => ?_) (fun e1 => ?_)
 ·obtain ⟨g, hg⟩ : ∃ g, l[i]? = some g := ⟨l[i]'(by omega), List.getElem?_eq_getElem (by omega)⟩
  obtain ⟨a, v, ha, hv, hask⟩ := hw.2.2 i g hg
  have hv2 := Cells.cell?_le hle.1 hv
  refine gT (by omega) (gS2 ha (t_loadV hv2 ?_))
  refine t_callv (hask hn0 f h₂ hle (hu.le hle.1)) ?_
  rintro _ h₃ ⟨le3, rfl⟩
  refine gZ ?_
  rw [drop_of hg, firstF] at hc
  refine t_cond (fun e2 => ?_) (fun e2 => ?_)
  ·have e2' : g ≠ 0 := by simpa using e2
   refine gZ ?_
   rw [if_pos e2'] at hc
   exact t_ret ⟨LH.le_trans hle le3, .inl ⟨by rw [hc]; exact e2', by rw [hc]⟩⟩
  ·have e2' : g = 0 := by simpa using e2
   rw [if_neg (by simp [e2'])] at hc
   refine t_again (hY (n - (i + 1)) _ _ (by omega) ⟨LH.le_trans hle le3, i + 1, ?_, by omega, rfl, hc⟩)
   rw [wrap_id (by omega) (by omega)]; rfl
 ·refine gZ ?_
  rw [List.drop_eq_nil_of_le (by omega), firstF] at hc
  refine t_makeMap fun m hm => ?_
  refine gZ ?_
  have le4 : h₂.le _ := LH.upd_le (x := (true, .map #[] 0)) hm
  refine t_struct (deskOf_build f u m) ?_
  refine t_new fun d hd => ?_
  have le5 : LH.le _ _ := LH.upd_le (x := (true, .cells (deskOf f u m) 267 (0, 0))) hd
  have hdm : d ≠ m := by
   rintro rfl
   change Cells.upd _ _ _ d = none at hd
   rw [Cells.upd_self] at hd; cases hd
  have hd0 : h.get d = none := by
   cases hx : h.get d with
   | none => rfl
   | some x => rw [(LH.le_trans hle le4).1 _ _ hx] at hd; cases hd
  have hm0 : h.get m = none := by
   cases hx : h.get m with
   | none => rfl
   | some x => rw [hle.1 _ _ hx] at hm; cases hm
  refine t_loop (fun mm vs h' => ∃ (i : Nat) (cs : Array Value), vs = [.int .i64 i] ∧ i ≤ 2001 ∧ mm = 2001 - i ∧ h₂.le h' ∧ h'.get m = some (true, .map #[] 0) ∧ h'.get d = some (true, .cells cs 267 (0, 0)) ∧ cs.size = 2009 ∧ (∀ j, j < 7 ∨ j = 2008 → cs[j]? = (deskOf f u m)[j]?) ∧ ∀ j : Nat, j < i → cs[7 + j]? = some (.bool (counts u j)))
   (n := 2001) ⟨0, deskOf f u m, rfl, by omega, by omega, LH.le_trans le4 le5, ?_, Cells.upd_self _ _ _, deskOf_size _ _ _, fun _ _ => rfl, fun j hj => by omega⟩ ?_
  ·show Cells.upd _ _ _ m = _
   rw [Cells.upd_ne _ _ (Ne.symm hdm)]; exact Cells.upd_self _ _ _
  rintro Y2 mm2 vs2 h₆ hY2 ⟨j, cs, rfl, hj, rfl, le6, hm6, hd6, hsz, hfix, hcnt⟩
  refine gZ ?_
  refine t_if (fun e5 => ?_) (fun e5 => ?_)
  ·refine t_new fun r1 hr1 => ?_
   have hr1d : r1 ≠ d := by rintro rfl; rw [hd6] at hr1; cases hr1
   have hr1m : r1 ≠ m := by rintro rfl; rw [hm6] at hr1; cases hr1
   have le7 : h₆.le _ := LH.upd_le (x := (true, .cells #[.int .i64 0] 3 (0, 0))) hr1
   have own1 : (h₆.get.upd r1 (true, .cells #[.int .i64 0] 3 (0, 0))) r1 = some (true, .cells #[.int .i64 0] 3 (0, 0)) := Cells.upd_self _ _ _
   refine t_store rfl ⟨_, own1⟩ (v₀ := .int .i64 0) (by show Cells.cell? _ _ = _; exact cell_upd rfl) (frozen_plain (i := 0) own1) ?_
   have hset : (h₆.get.upd r1 (true, .cells #[.int .i64 0] 3 (0, 0))).setCell ⟨r1, 0, none⟩ (.int .i64 j) = h₆.get.upd r1 (true, .cells #[.int .i64 j] 3 (0, 0)) := by
    rw [setCell_upd own1]
    funext b; unfold Cells.upd; by_cases e : b = r1 <;> simp [e]
   have hset' : (h₆.get.upd r1 (true, .cells #[.int .i64 0] 3 (0, 0))).setCell (Addr.add ⟨r1, 0, none⟩ 0) (.int .i64 j) = h₆.get.upd r1 (true, .cells #[.int .i64 j] 3 (0, 0)) := hset
   simp only [hset']
   have le8 : h₆.le { h₆ with get := h₆.get.upd r1 (true, .cells #[.int .i64 j] 3 (0, 0)) } := LH.upd_le hr1
   have hz : Cells.cell? (h₆.get.upd r1 (true, .cells #[.int .i64 j] 3 (0, 0))) ⟨r1, 0, none⟩ = some (.int .i64 j) := cell_upd rfl
   refine gL0 hz ?_
   refine gS2 rfl ?_
   refine t_gr (c79 (g := fun x => isIn j x.first x.last) (hu.le (LH.le_trans (LH.le_trans hle le6) le8).1).excuses fun x h' hl' => cv_fw X0_ok (by rfl) (pu_gr (c80 (Cells.cell?_le hl'.1 hz) _ _))) ?_
   rintro _ h₉ le9 rfl
   have hz9 := Cells.cell?_le le9.1 hz
   have hd9 := (LH.le_trans le8 le9).1 _ _ hd6
   refine gZ ?_
   have hcl : h₉.get.cell? ⟨d, 7 + j, none⟩ = some (cs[7 + j]'(by omega)) := by
    simp only [Cells.cell?, hd9]
    simp [show 7 + j < cs.size by omega]
   have ha7 : Addr.add (Addr.add (Addr.add ⟨d, 0, none⟩ 7) ((j : Int).toNat * 1)) 0 = ⟨d, 7 + j, none⟩ := by
    have h7 : 0 + 7 + (j : Int).toNat * 1 + 0 = 7 + j := by omega
    rw [add_plain, add_plain, add_plain, h7]
   refine t_store rfl ?_ (v₀ := cs[7 + j]'(by omega)) ?_ ?_ ?_
   ·rw [ha7]; exact ⟨_, hd9⟩
   ·rw [ha7]; exact hcl
   ·rw [ha7]; exact frozen_plain hd9
   rw [ha7, setCell_upd hd9]
   refine gZ ?_
   refine t_again (hY2 (2001 - (j + 1)) _ _ (by omega) ⟨j + 1, _, ?_, by omega, rfl, ?_, ?_, Cells.upd_self _ _ _, by rw [Array.size_setIfInBounds]; exact hsz, ?_, ?_⟩)
   ·rw [wrap_id (by omega) (by omega)]; rfl
   ·have := LH.le_trans (LH.le_trans le6 le8) le9
    refine ⟨fun b x hb => ?_, this.2⟩
    have hbd : b ≠ d := by
     rintro rfl
     rw [le4.1 _ _ hb] at hd; cases hd
    show Cells.upd _ _ _ b = _
    rw [Cells.upd_ne _ _ hbd]; exact this.1 _ _ hb
   ·show Cells.upd _ _ _ m = _
    rw [Cells.upd_ne _ _ (Ne.symm hdm)]; exact (LH.le_trans le8 le9).1 _ _ hm6
   ·intro i hi
    rw [Array.getElem?_setIfInBounds_ne (by omega)]; exact hfix i hi
   ·intro i hi
    by_cases e : i = j
    ·subst e
     rw [Array.getElem?_setIfInBounds_self, if_pos (by omega)]
     congr 2
     simp only [counts, List.not_any_eq_all_not]
    ·rw [Array.getElem?_setIfInBounds_ne (by omega)]; exact hcnt i (by omega)
  ·refine gZ ?_
   have hcell : ∀ i v, cs[i]? = some v → h₆.get.cell? (Addr.add ⟨d, 0, none⟩ i) = some v := by
    intro i v hv
    rw [add_plain, Nat.zero_add]
    simp only [Cells.cell?, hd6]
    simpa using hv
   have hcell' : ∀ i v, cs[i]? = some v → h₆.get.cell? ⟨d, i, none⟩ = some v := by
    intro i v hv
    simp only [Cells.cell?, hd6]
    simpa using hv
   refine t_ret ⟨LH.le_trans hle le6, .inr ⟨hc, d, m, rfl, hd0, hm0, ?_, hu.le (LH.le_trans hle le6).1, ?_, ?_, ?_⟩⟩
   ·exact ⟨hcell _ _ ((hfix 0 (by omega)).trans (deskOf_0 _ _ _)), hcell _ _ ((hfix 1 (by omega)).trans (deskOf_1 _ _ _)), hcell _ _ ((hfix 2 (by omega)).trans (deskOf_2 _ _ _)), hcell _ _ ((hfix 3 (by omega)).trans (deskOf_3 _ _ _)),
     hcell _ _ ((hfix 4 (by omega)).trans (deskOf_4 _ _ _)), hcell _ _ ((hfix 5 (by omega)).trans (deskOf_5 _ _ _)), hcell _ _ ((hfix 6 (by omega)).trans (deskOf_6 _ _ _))⟩
   ·intro i hi
    exact hcell' _ _ (hcnt i (by omega))
   ·exact hcell' _ _ ((hfix 2008 (.inr rfl)).trans (deskOf_m _ _ _))
   ·exact ⟨_, _, hm6, fun e he => by simp at he⟩
end Go.Proofs.YtldamlcehbdkdaaGreatDoor
end
section
namespace Go.Proofs.YtldamlcehbdkdaaGreatDoor
open Go Go.TM Go.Proofs
attribute [local irreducible] T.wp CV FWK
theorem Mv.le_of {m : Nat} {h h₁ h' : LH} (hle : h.le h₁) (hm : h.get m = none) (mv : Mv m h₁ h') : h.le h' := by
 refine ⟨fun r x hr => mv.keep r x ?_ (hle.1 r x hr), mv.same.1.trans hle.2.1, mv.same.2.1.trans hle.2.2.1, mv.same.2.2.trans hle.2.2.2⟩
 rintro rfl; rw [hm] at hr; cases hr
theorem asks2 {h : LH} {X : XP} {Q : Leaf → LH → Prop} {k : Value → T} {u : UseFile} {v0 v1 : Value} {g0 g1 : Int} (q0 : ∃ fn a b, v0 = Value.func fn a b) (a0 : Asks v0 h u g0) (q1 : ∃ fn a b, v1 = Value.func fn a b) (a1 : Asks v1 h u g1) (hk : ∀ r h', h.le h' → AskSl h' (some ⟨r, 0, none⟩) 2 u [g0, g1] → (k (.slice (some ⟨r, 0, none⟩) 2 2)).wp X Tryz.prog Q h') : (T.sem false (Instr.buildSlice 263 2 #[(0, v0), (1, v1)]) k).wp X Tryz.prog Q h := by
 obtain ⟨fn0, x0, y0, rfl⟩ := q0
 obtain ⟨fn1, x1, y1, rfl⟩ := q1
 refine t_build und110 inf87 (by decide) (by decide) (cells := #[.func fn0 x0 y0, .func fn1 x1 y1]) (by kernel_rfl) fun r hr => ?_
 have le1 : h.le _ := LH.upd_le (x := (true, .cells #[.func fn0 x0 y0, .func fn1 x1 y1] 196 (0, 0))) hr
 refine hk r _ le1 ⟨rfl, by show 2 < _; omega, ?_⟩
 intro i g hg
 have hc : ∀ i v, (#[.func fn0 x0 y0, .func fn1 x1 y1] : Array Value)[i]? = some v → Cells.cell? (h.get.upd r (true, .cells #[.func fn0 x0 y0, .func fn1 x1 y1] 196 (0, 0))) (Addr.add ⟨r, 0, none⟩ (i * 1)) = some v := by
  intro i v hv
  rw [add_plain, Nat.zero_add, Nat.mul_one]
  exact cell_upd hv
 match i, hg with
 | 0, hg => simp at hg; subst hg; exact ⟨_, _, rfl, hc 0 _ rfl, a0.le le1⟩
 | 1, hg => simp at hg; subst hg; exact ⟨_, _, rfl, hc 1 _ rfl, a1.le le1⟩
 | i + 2, hg => simp at hg
theorem open_num {u : UseFile} {l : List Int} (h : openF u l = 0) : numbersF u = 0 ∧ checkF u = 0 := by
 unfold openF at h
 split at h
 ·rename_i h1; exact absurd h h1
 ·rename_i h1
  have : checkF u = 0 := by simpa using h1
  exact ⟨check_num this, this⟩
end Go.Proofs.YtldamlcehbdkdaaGreatDoor
end

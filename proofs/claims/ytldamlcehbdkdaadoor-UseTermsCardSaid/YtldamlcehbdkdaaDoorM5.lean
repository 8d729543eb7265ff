/- For every file, calendar, closure and all terms and days the law UseTerms returns true: papers count if they come by the end of a term from a day on; a longer term, and one more closure of the office, never make an item less safe, or less left. The tied card; no further condition. -/
import Derived.Test.YtldamlcehbdkdaaDoorM4
set_option linter.all false
section
namespace Go.Proofs.YtldamlcehbdkdaaDoor
open Go Go.TM Go.Proofs
attribute [local irreducible] T.wp CV FWK
def Sent (u : UseFile) (land day : Int) (i : Nat) (v : Value) (hv : Cells) : Prop :=
  if enoughB u land day (subsetL u.papers.length i) (leftAll u land day) then ∃ a n c, v = .slice (some a) n c ∧ Sl IntE 1 hv (some a) n (subsetL u.papers.length i) ∧ n ≤ c else v = .slice none 0 0
theorem subset_in {n i : Nat} : ∀ v ∈ subsetL n i, 0 ≤ v ∧ v < (n : Int) := by
  intro v hv
  unfold subsetL at hv
  obtain ⟨j, hj, rfl⟩ := List.mem_map.1 hv
  have := List.mem_range.1 (List.mem_filter.1 hj).1
  omega
theorem subset_len {n i : Nat} : (subsetL n i).length ≤ n := by
  unfold subsetL
  rw [List.length_map]
  exact Nat.le_trans (List.length_filter_le _ _) (by simp)
theorem bit_test {i j : Nat} (hi : i < 2 ^ 32) : (IntKind.wrap .i64 (((BitVec.ofInt 64 (Int.fdiv (i : Int) (2 ^ min (j : Int).toNat 64)) &&& BitVec.ofInt 64 1).toNat : Nat) : Int) == 1) = i.testBit j := by
  have hq : ∃ q : Nat, Int.fdiv (i : Int) (2 ^ min (j : Int).toNat 64) = (q : Int) ∧ q ≤ i ∧ q % 2 = (i / 2 ^ j) % 2 := by
    by_cases hj : j ≤ 64
    · have hm : min (j : Int).toNat 64 = j := by simp; omega
      refine ⟨i / 2 ^ j, ?_, Nat.div_le_self _ _, rfl⟩
      rw [hm]
      have : (2 ^ j : Int) = ((2 ^ j : Nat) : Int) := by simp
      rw [this, ← Int.ofNat_fdiv]
    · have hm : min (j : Int).toNat 64 = 64 := by simp; omega
      refine ⟨0, ?_, Nat.zero_le _, ?_⟩
      · rw [hm]
        have : (2 ^ 64 : Int) = ((2 ^ 64 : Nat) : Int) := by simp
        rw [this, ← Int.ofNat_fdiv]
        have : i / 2 ^ 64 = 0 := Nat.div_eq_of_lt (by omega)
        rw [this]
      · have : i / 2 ^ j = 0 := Nat.div_eq_of_lt (Nat.lt_of_lt_of_le hi (Nat.pow_le_pow_right (by omega) (by omega)))
        rw [this]
  obtain ⟨q, h1, h2, h3⟩ := hq
  rw [h1]
  have a1 : (BitVec.ofInt 64 (q : Int)).toNat = q := by rw [BitVec.toNat_ofInt]; omega
  have a2 : (BitVec.ofInt 64 1).toNat = 1 := rfl
  rw [BitVec.toNat_and, a1, a2, Nat.and_one_is_mod, wrap_id (by omega) (by omega), Nat.testBit_eq_decide_div_mod_eq, ← h3]
  by_cases e : q % 2 = 1
  · rw [e]; rfl
  · have : q % 2 = 0 := by omega
    rw [this]; rfl
theorem subset_take {n i j : Nat} (hj : j < n) : ((List.range n).take (j + 1)).filter (fun j => i.testBit j) = ((List.range n).take j).filter (fun j => i.testBit j) ++ (if i.testBit j then [j] else []) := by
  rw [List.take_succ_eq_append_getElem (by simpa using hj), List.filter_append]
  congr 1
  simp [List.filter_cons]
theorem c74 {hc : Cells} {c0 i : Nat} {z0 z1 z2 z3 z4 z5 : Addr} {f : FileC} {u : UseFile} {land day : Int} (hp : Parts hc) (hu : FileR hc f u) (hat : FileAt hc z0 f u) (hpap : u.papers.length ≤ 8) (hi : i < 2 ^ 32) (h1 : hc.cell? z1 = some (.int .i64 (i : Int))) (h2 : hc.cell? z2 = some (.int .i64 land)) (h3 : hc.cell? z3 = some (.int .i64 day))
    {ap : Option Addr} {an ac : Nat} (h4 : hc.cell? z4 = some (.slice ap an ac)) (hal : Sl IntE 1 hc ap an (leftAll u land day)) (h5 : hc.cell? z5 = some (.chan (some c0))) :
    FWK XW Tryd.prog .deferred 66 #[.pointer (some z0), .pointer (some z1), .pointer (some z2), .pointer (some z3), .pointer (some z4), .pointer (some z5)] ⟨hc, [], [], [(c0, Sent u land day i)]⟩ fun _ _ => False := by
  refine w74 _ _ _ _ _ _ XW_ok ?_
  unfold n74
  have hn5 := hu.papers.1
  refine t_build0 und50 inf3 fun b0 hb0 => ?_
  have le0 : LH.le ⟨hc, [], [], [(c0, Sent u land day i)]⟩ _ := LH.upd_le (x := (true, .cells #[] 3 (0, 0))) hb0
  refine gZ ?_
  have g5 := Cells.cell?_le le0.1 hat.f5
  refine gL1 g5 ?_
  refine t_loop (fun mm vs h' => LH.le ⟨hc, [], [], [(c0, Sent u land day i)]⟩ h' ∧ ∃ (j : Nat) (a : Addr) (n c : Nat), vs = [.slice (some a) n c, .int .i64 j] ∧ j ≤ f.n5 ∧ mm = f.n5 - j ∧ Growing IntEnc 3 1 hc h'.get (some a) n c (((List.range u.papers.length).take j).filter (fun j => i.testBit j) |>.map fun j : Nat => (j : Int)))
    ⟨le0, 0, _, 0, 0, rfl, Nat.zero_le _, rfl, ⟨[], ⟨rfl, .inr ⟨b0, #[], rfl, Cells.upd_self _ _ _, rfl, Nat.le_refl _, fun j v hv => by simp at hv⟩⟩, .nil⟩, fun a ha => by cases ha; exact hb0⟩ ?_
  rintro Y mm vs h₁ hY ⟨hle, j, a, n, c, rfl, hj, rfl, g⟩
  refine gZ ?_
  refine t_if (fun e1 => ?_) (fun e1 => ?_)
  · have k1 := Cells.cell?_le hle.1 h1
    refine gL0 k1 ?_
    refine gZ ?_
    rw [bit_test hi]
    have hst := subset_take (n := u.papers.length) (i := i) (j := j) (by omega)
    refine t_cond (fun b => ?_) (fun b => ?_)
    · rw [if_pos b] at hst
      refine t_build und50 inf3 (by decide) (by decide) (cells := #[.int .i64 (j : Int)]) (by kernel_rfl) fun r hr => ?_
      have le2 : h₁.le _ := LH.upd_le (x := (true, .cells #[.int .i64 (j : Int)] 3 (0, 0))) hr
      have hng := g.count IntEnc.len (by omega)
      have hlen : (((List.range u.papers.length).take j).filter (fun j => i.testBit j)).length ≤ 8 := Nat.le_trans (List.length_filter_le _ _) (by rw [List.length_take, List.length_range]; omega)
      rw [List.length_map] at hng
      refine gZ ?_
      refine t_grow (h₀ := ⟨hc, [], [], [(c0, Sent u land day i)]⟩) (x := (j : Int)) (ws := [.int .i64 (j : Int)]) rfl rfl und50 und50 inf3 rfl (by omega) (by omega) (g.le le2.1) (LH.le_trans hle le2) rfl rfl ?_ ?_ ?_
      · intro j w hj
        rw [add_plain, Nat.zero_add]
        exact cell_upd (by simpa using hj)
      · intro w hw; simp at hw; subst hw; rfl
      · intro p' c' h₂ hle2 _ g2
        refine gZ ?_
        obtain ⟨a', rfl⟩ : ∃ a', p' = some a' := by
          obtain ⟨vs, ⟨_, h6⟩, _⟩ := g2.row
          rcases h6 with ⟨_, h7, _⟩ | ⟨r, cs, h7, _⟩
          · omega
          · exact ⟨_, h7⟩
        refine t_again (hY (f.n5 - (j + 1)) _ _ (by omega) ⟨hle2, j + 1, a', n + 1, c', ?_, by omega, rfl, by rw [hst, List.map_append]; exact g2⟩)
        rw [wrap_id (by omega) (by omega)]; rfl
    · rw [if_neg (by rw [b]; simp), List.append_nil] at hst
      refine t_again (hY (f.n5 - (j + 1)) _ _ (by omega) ⟨hle, j + 1, a, n, c, ?_, by omega, rfl, by rw [hst]; exact g⟩)
      rw [wrap_id (by omega) (by omega)]; rfl
  · refine gZ ?_
    have htake : (((List.range u.papers.length).take j).filter (fun j => i.testBit j) |>.map fun j : Nat => (j : Int)) = subsetL u.papers.length i := by
      rw [List.take_of_length_le (by simp; omega)]; rfl
    rw [htake] at g
    obtain ⟨g0, g1, g2, g3, g4, g5, g6⟩ := hat.le hle.1
    have k2 := Cells.cell?_le hle.1 h2
    have k3 := Cells.cell?_le hle.1 h3
    have k4 := Cells.cell?_le hle.1 h4
    have k5 := Cells.cell?_le hle.1 h5
    refine gZ ?_
    have hsub := subset_len (n := u.papers.length) (i := i)
    have hll : (leftAll u land day).length = u.items.toNat := by unfold leftAll; rw [List.length_map, List.length_range]
    refine t_gr (c71 (hp.le hle.1) (hu.le hle.1) land day (g.sl IntEnc.len (by omega) IntEnc.e (by omega)) subset_in (by omega) (hal.le IntE.grow hle.1) hll) ?_
    rintro _ h₂ le2 rfl
    have k5 := Cells.cell?_le le2.1 k5
    refine gZ ?_
    have hle2 := LH.le_trans hle le2
    refine t_cond (fun b => ?_) (fun b => ?_)
    · refine t_loadC k5 ?_
      refine t_comm ?_
      refine commW_send (z := .tuple #[]) (φ := Sent u land day i) (s := []) (hv := fun _ => none) (hr := h₂.get) hle2.2.2.2 ?_ (fun r => .inl rfl) (fun r x hx => by cases hx) ?_ (fun _ => rfl) (fun h => absurd rfl h)
      · funext r; rfl
      · have b' : enoughB u land day (subsetL u.papers.length i) (leftAll u land day) = false := by simpa using b
        unfold Sent; rw [if_neg (by rw [b']; simp)]
    · refine t_loadC k5 ?_
      refine t_comm ?_
      have g7 := g.le le2.1
      obtain ⟨vs, ⟨o1, o2⟩, rows⟩ := g7.row
      rcases o2 with ⟨o3, _⟩ | ⟨r, cs, o3, o4, o5, o6, o7⟩
      · cases o3
      · cases o3
        refine commW_send (z := .tuple #[]) (φ := Sent u land day i) (s := []) (hv := fun b => if b = r then h₂.get b else none) (hr := fun b => if b = r then none else h₂.get b) hle2.2.2.2 ?_ (fun b => ?_) (fun b x hx => ?_) ?_ (fun _ => rfl) (fun h => absurd rfl h)
        · funext b
          unfold Cells.add
          by_cases e : b = r
          · subst e; simp [o4]
          · simp [e]
        · by_cases e : b = r
          · right; simp [e]
          · left; simp [e]
        · have hx' : (if b = r then h₂.get b else none) = some x := hx
          split at hx'
          · rename_i e; subst e; rw [o4] at hx'; cases hx'; rfl
          · cases hx'
        · have b' : enoughB u land day (subsetL u.papers.length i) (leftAll u land day) = true := by simpa using b
          unfold Sent; rw [if_pos b']
          refine ⟨_, _, _, rfl, ?_, o6⟩
          refine rows.sl IntEnc.len (by omega) IntEnc.e (el := 3) ⟨o1, .inr ⟨r, cs, rfl, ?_, o5, o6, o7⟩⟩ (by omega)
          show (if r = r then h₂.get r else none) = _
          rw [if_pos rfl]; exact o4
end Go.Proofs.YtldamlcehbdkdaaDoor
end
section
namespace Go.Proofs.YtldamlcehbdkdaaDoor
open Go Go.TM Go.Proofs
attribute [local irreducible] T.wp CV FWK
theorem t_pushI {X : XP} {Q : Leaf → LH → Prop} {h h₀ : LH} {k : Value → T} {p : Option Addr} {n c : Nat} {l : List Int} {x : Int} (g : Growing IntEnc 3 1 h₀.get h.get p n c l) (hle : h₀.le h) (hn : n + 1 ≤ 2 ^ 30)
    (hk : ∀ p' c' h', h₀.le h' → Growing IntEnc 3 1 h₀.get h'.get p' (n + 1) c' (l ++ [x]) → (k (.slice p' (n + 1) c')).wp X Tryd.prog Q h') :
    (T.sem false (Instr.buildSlice 28 1 #[(0, .int .i64 x)]) fun v => T.unS v fun a m c2 => T.sem false (Builtin.append_ #[28, 28] 28 #[.slice p n c, .slice a m c2]) k).wp X Tryd.prog Q h := by
  refine t_build und50 inf3 (by decide) (by decide) (cells := #[.int .i64 x]) (by kernel_rfl) fun r hr => ?_
  have le2 : h.le _ := LH.upd_le (x := (true, .cells #[.int .i64 x] 3 (0, 0))) hr
  refine gG ?_
  refine t_grow (h₀ := h₀) (x := x) (ws := [.int .i64 x]) rfl rfl und50 und50 inf3 rfl (by omega) hn (g.le le2.1) (LH.le_trans hle le2) rfl rfl ?_ ?_ ?_
  · intro j w hj
    rw [add_plain, Nat.zero_add]
    exact cell_upd (by simpa using hj)
  · intro w hw; simp at hw; subst hw; rfl
  · intro p' c' h₂ hle2 _ g2
    exact hk p' c' h₂ hle2 g2
end Go.Proofs.YtldamlcehbdkdaaDoor
end
section
namespace Go.TM
open Go Go.Conc
variable {P : Program}
theorem t_newSt {X : XP} {Q : Leaf → LH → Prop} {h : LH} {e : TypeId} {v₀ v : Value} {k : Nat → T} (h1 : isOne v = true) (hk : ∀ r, h.get r = none → (k r).wp X P Q { h with get := h.get.upd r (true, .cells #[v] e (0, 0)) }) :
    (T.new e #[v₀] fun r => T.store (Addr.add ⟨r, 0, none⟩ 0) v (k r)).wp X P Q h := by
  refine t_new fun r hr => ?_
  have own1 : (h.get.upd r (true, .cells #[v₀] e (0, 0))) r = some (true, .cells #[v₀] e (0, 0)) := Cells.upd_self _ _ _
  refine t_store h1 ⟨_, own1⟩ (v₀ := v₀) (by show Cells.cell? _ _ = _; exact cell_upd rfl) (Go.Proofs.YtldamlcehbdkdaaDoor.frozen_plain (i := 0) own1) ?_
  have hset : (h.get.upd r (true, .cells #[v₀] e (0, 0))).setCell (Addr.add ⟨r, 0, none⟩ 0) v = h.get.upd r (true, .cells #[v] e (0, 0)) := by
    show Cells.setCell _ ⟨r, 0, none⟩ v = _
    rw [Go.Proofs.YtldamlcehbdkdaaDoor.setCell_upd own1]
    funext b; unfold Cells.upd; by_cases e : b = r <;> simp [e]
  simp only [hset]
  exact hk r hr
theorem cell_freeze (F : Nat → Bool) (h : Cells) (a : Addr) : (freezeC F h).cell? a = h.cell? a := by
  unfold Cells.cell? freezeC
  cases h a.block with
  | none => rfl
  | some x => obtain ⟨m, o⟩ := x; cases o <;> rfl
theorem rd_freeze (F : Nat → Bool) (h : Cells) : Rd h (freezeC F h) := fun a v hc => by rw [cell_freeze]; exact hc
theorem rd_drop {h : Cells} {c s : Nat} (hs : h c = some (true, .chan 0 #[] false s s false)) : Rd h (dropC h c) := by
  intro a v hc
  unfold Cells.cell? dropC at *
  by_cases e : a.block = c
  · rw [e, hs] at hc; cases hc
  · rw [if_neg e]; exact hc
def Hand (c0 : Nat) (h : LH) : Prop := (h.chans = [] ∧ ∃ s, h.get c0 = some (true, .chan 0 #[] false s s false)) ∨ h.chans = [c0]
theorem spawnW_all {f : FuncId} {cap : Array Value} {h : LH} {Q : LH → Prop} (c0 : Nat) {φ : Value → Cells → Prop} (hst : Hand c0 h) (c : ∀ hc, Rd h.get hc → FWK XW P .deferred f cap ⟨hc, [], [], [(c0, φ)]⟩ fun _ _ => False)
    (hQ : ∀ h', Rd h.get h'.get → h'.chans = [c0] → h'.todo = h.todo → h'.pend = h.pend ++ [[(c0, φ)]] → Q h') : SpawnW XT P (.func (.func f) #[] cap) #[] h Q := by
  have key : ∀ h1 : LH, Rd h.get h1.get → h1.chans = [c0] → h1.todo = h.todo → h1.pend = h.pend → SpawnW XT P (.func (.func f) #[] cap) #[] h1 Q := by
    intro h1 r1 c1 t1 p1
    refine spawnW (fun _ => true) (freezeC (fun _ => true) h1.get) [(c0, φ)] (by simp) (hargs := cap) (by simp) ?_ ?_ (c _ (r1.trans (rd_freeze _ _))) ?_
    · intro r x hx
      refine ⟨?_, hx⟩
      unfold freezeC at hx
      cases hy : h1.get r with
      | none => rw [hy] at hx; cases hx
      | some y => rw [hy] at hx; simp at hx; rw [← hx]
    · intro y hy
      simp at hy; subst hy; rw [c1]; simp
    · exact hQ _ (r1.trans (rd_freeze _ _)) c1 t1 (by show h1.pend ++ _ = _; rw [p1])
  rcases hst with ⟨h1, s, h2⟩ | h1
  · refine SpawnW.opened c0 s h2 (key _ (rd_drop h2) ?_ rfl rfl)
    show c0 :: h.chans = _
    rw [h1]
  · exact key h (Rd.refl _) h1 rfl rfl
theorem commW_gather {last : Bool} {shape : CommShape} {c0 : Nat} {z : Value} {φ : Nat → Value → Cells → Prop} {rem : List Nat} {h : LH} {Q : Value → LH → Prop} (hp : h.pend = rem.map fun i => [(c0, φ i)]) (hc : h.chans = [c0]) (hne : rem ≠ [])
    (hQ : ∀ i rest v h₂, i ∈ rem → (∀ j, j ∈ rem → j = i ∨ j ∈ rest) → (∀ j, j ∈ rest → j ∈ rem) → rest.length + 1 = rem.length → h₂.todo = h.todo → h₂.pend = rest.map (fun i => [(c0, φ i)]) → ((rest ≠ [] ∧ h₂.chans = [c0]) ∨ (rest = [] ∧ h₂.chans = [] ∧ ∃ s, h₂.get c0 = some (true, .chan 0 #[] false s s false))) →
      (∃ hv, φ i v hv ∧ hv.le h₂.get) → h.get.le h₂.get → Q (commResult #[rcase c0 z] shape 0 v true) h₂) : CommW XT P last #[rcase c0 z] shape h Q := by
  refine CommW.closed (commW_recv ?_ (by rw [hp]; simpa using hne) ?_ ?_)
  · intro k cc hk
    cases k with
    | zero => simp at hk; subst hk; exact ⟨c0, z, rfl, by rw [hc]; simp⟩
    | succ k => simp at hk
  · intro s hs
    rw [hp] at hs
    obtain ⟨i, hi, rfl⟩ := List.mem_map.1 hs
    exact ⟨c0, φ i, [], 0, z, rfl, rfl⟩
  · intro pre ψ s post k c v hv z' hpe hcase hd hown hφ
    rw [hp] at hpe
    obtain ⟨l1, l2, rfl, hl1, hl2⟩ := List.map_eq_append_iff.1 hpe
    obtain ⟨i, l3, rfl, hi, hl3⟩ := List.map_eq_cons_iff.1 hl2
    cases hi
    have hk0 : k = 0 := by
      cases k with
      | zero => rfl
      | succ k => simp at hcase
    subst hk0
    have le1 : h.get.le (h.get.add hv) := Cells.le_add _ _
    have le2 : hv.le (h.get.add hv) := fun r x hr => Cells.add_right' hd hr
    have hpend : pre ++ cons' [] post = (l1 ++ l3).map fun i => [(c0, φ i)] := by
      show pre ++ post = _
      rw [← hl1, ← hl3, List.map_append]
    by_cases hn : l1 ++ l3 = []
    · right
      refine ⟨c0, by show c0 ∈ h.chans; rw [hc]; simp, by show pre ++ cons' [] post = []; rw [hpend, hn]; rfl, fun s hs => ?_⟩
      refine hQ i (l1 ++ l3) v _ (by simp) (fun j hj => ?_) (fun j hj => ?_) (by simp; omega) rfl hpend (.inr ⟨hn, ?_, s, Cells.upd_self _ _ _⟩) ⟨hv, hφ, ?_⟩ ?_
      · simp at hj ⊢; grind
      · simp at hj ⊢; grind
      · show h.chans.filter _ = []
        rw [hc]; simp
      · exact Cells.le_trans le2 (Cells.le_upd _ hs)
      · exact Cells.le_trans le1 (Cells.le_upd _ hs)
    · left
      refine hQ i (l1 ++ l3) v _ (by simp) (fun j hj => ?_) (fun j hj => ?_) (by simp; omega) rfl hpend (.inl ⟨hn, hc⟩) ⟨hv, hφ, le2⟩ le1
      · simp at hj ⊢; grind
      · simp at hj ⊢; grind
end Go.TM
namespace Go.Proofs.YtldamlcehbdkdaaDoor
open Go Go.TM Go.Proofs
attribute [local irreducible] T.wp CV FWK
theorem Parts.rd {h h' : Cells} (hl : Rd h h') (p : Parts h) : Parts h' := fun j hj => hl _ _ (p j hj)
/-! ### fewerF is an order -/
theorem cmpI_neg (x y : Int) : cmpI y x = - cmpI x y := by unfold cmpI; repeat' split <;> omega
theorem cmpL_neg : ∀ a b : List Int, cmpL b a = - cmpL a b := by
  intro a
  induction a with
  | nil => intro b; cases b <;> rfl
  | cons x a ih =>
    intro b
    cases b with
    | nil => rfl
    | cons y b =>
      simp only [cmpL]
      rw [cmpI_neg x y, ih b]
      by_cases e : cmpI x y = 0
      · simp [e]
      · rw [if_pos (by omega), if_pos e]
theorem cmpL_trans : ∀ a b c : List Int, cmpL a b ≤ 0 → cmpL b c ≤ 0 → cmpL a c ≤ 0 := by
  intro a
  induction a with
  | nil => intro b c _ _; cases c <;> simp [cmpL]
  | cons x a ih =>
    intro b c h1 h2
    cases b with
    | nil => simp [cmpL] at h1
    | cons y b =>
      cases c with
      | nil => simp [cmpL] at h2
      | cons z c =>
        simp only [cmpL] at h1 h2 ⊢
        have := ih b c
        unfold cmpI at h1 h2 ⊢
        by_cases a1 : x < y
        · by_cases a2 : y < z
          · rw [if_pos (by rw [if_pos (show x < z by omega)]; omega), if_pos (show x < z by omega)]; omega
          · by_cases a3 : y = z
            · subst a3; simp [a1]
            · have : y > z := by omega
              simp [a2, this] at h2
        · by_cases a4 : x = y
          · subst a4
            simp at h1
            by_cases a2 : x < z
            · simp [a2]
            · by_cases a3 : x = z
              · subst a3; simp at h2 ⊢; exact this h1 h2
              · have : x > z := by omega
                simp [a2, this] at h2
          · have : x > y := by omega
            simp [a1, this] at h1
theorem fewer_neg (a b : List Int) : fewerF b a = - fewerF a b := by
  unfold fewerF
  by_cases e : a.length = b.length
  · rw [if_neg (by omega), if_neg (by omega), cmpL_neg a b]
  · rw [if_pos (by omega), if_pos (by omega)]; omega
theorem fewer_trans {a b c : List Int} (h1 : fewerF a b ≤ 0) (h2 : fewerF b c ≤ 0) : fewerF a c ≤ 0 := by
  unfold fewerF at *
  by_cases e1 : a.length = b.length
  · rw [if_neg (by omega)] at h1
    by_cases e2 : b.length = c.length
    · rw [if_neg (by omega)] at h2
      rw [if_neg (by omega)]
      exact cmpL_trans a b c h1 h2
    · rw [if_pos (by omega)] at h2
      rw [if_pos (by omega)]; omega
  · rw [if_pos (by omega)] at h1
    by_cases e2 : b.length = c.length
    · rw [if_pos (by omega)]; omega
    · rw [if_pos (by omega)] at h2
      rw [if_pos (by omega)]; omega
theorem fewer_self (a : List Int) : fewerF a a ≤ 0 := by
  have := fewer_neg a a
  omega
def okF (u : UseFile) (land day : Int) (i : Nat) : Bool := enoughB u land day (subsetL u.papers.length i) (leftAll u land day)
def BestR (h : Cells) (u : UseFile) (land day : Int) (rem : List Nat) (p : Option Addr) (n : Nat) : Prop :=
  (p = none ∧ n = 0 ∧ ∀ j, j < 2 ^ u.papers.length → j ∉ rem → okF u land day j = false) ∨
  (∃ i a, p = some a ∧ i < 2 ^ u.papers.length ∧ okF u land day i = true ∧ Sl IntE 1 h (some a) n (subsetL u.papers.length i) ∧ ∀ j, j < 2 ^ u.papers.length → j ∉ rem → okF u land day j = true → fewerF (subsetL u.papers.length i) (subsetL u.papers.length j) ≤ 0)
def KeepR (h' : Cells) (u : UseFile) (land day : Int) (r : Value) : Prop :=
  (openF u [landQ u land, dayQ day] ≠ 0 ∧ r = .tuple #[.slice none 0 0, .int .i64 (openF u [landQ u land, dayQ day])]) ∨
  (openF u [landQ u land, dayQ day] = 0 ∧ ∃ p n c, r = .tuple #[.slice p n c, .int .i64 0] ∧ BestR h' u land day [] p n ∧ n ≤ c)
theorem BestR.skip {h h' : Cells} {u : UseFile} {land day : Int} {rem rest : List Nat} {p : Option Addr} {n i : Nat} (b : BestR h u land day rem p n) (hr : ∀ j, j ∈ rem → j = i ∨ j ∈ rest) (hi : okF u land day i = false) (hrd : Rd h h') : BestR h' u land day rest p n := by
  rcases b with ⟨h1, h2, h3⟩ | ⟨k, a, h1, h2, h3, h4, h5⟩
  · refine .inl ⟨h1, h2, fun j hj hn => ?_⟩
    by_cases e : j = i
    · rw [e]; exact hi
    · exact h3 j hj fun hm => (hr j hm).elim e hn
  · refine .inr ⟨k, a, h1, h2, h3, h4.rd IntE.grow hrd, fun j hj hn ho => ?_⟩
    by_cases e : j = i
    · rw [e] at ho; exact absurd ho (by rw [hi]; simp)
    · exact h5 j hj (fun hm => (hr j hm).elim e hn) ho
theorem BestR.take {h h' : Cells} {u : UseFile} {land day : Int} {rem rest : List Nat} {p : Option Addr} {n i n' : Nat} {a : Addr} (b : BestR h u land day rem p n) (hr : ∀ j, j ∈ rem → j = i ∨ j ∈ rest) (hi : okF u land day i = true) (hlt : i < 2 ^ u.papers.length) (hs : Sl IntE 1 h' (some a) n' (subsetL u.papers.length i))
    (hb : p = none ∨ ∀ k, okF u land day k = true → Sl IntE 1 h p n (subsetL u.papers.length k) → fewerF (subsetL u.papers.length i) (subsetL u.papers.length k) ≤ 0) : BestR h' u land day rest (some a) n' := by
  rcases b with ⟨h1, h2, h3⟩ | ⟨k, a', h1, h2, h3, h4, h5⟩
  · refine .inr ⟨i, a, rfl, hlt, hi, hs, fun j hj hn ho => ?_⟩
    by_cases e : j = i
    · rw [e]; exact fewer_self _
    · have := h3 j hj fun hm => (hr j hm).elim e hn
      rw [this] at ho; cases ho
  · have hle := hb.resolve_left (by rw [h1]; simp) k h3 (by rw [h1]; exact h4)
    refine .inr ⟨i, a, rfl, hlt, hi, hs, fun j hj hn ho => ?_⟩
    by_cases e : j = i
    · rw [e]; exact fewer_self _
    · exact fewer_trans hle (h5 j hj (fun hm => (hr j hm).elim e hn) ho)
theorem BestR.stay {h h' : Cells} {u : UseFile} {land day : Int} {rem rest : List Nat} {p : Option Addr} {n i : Nat} (b : BestR h u land day rem p n) (hr : ∀ j, j ∈ rem → j = i ∨ j ∈ rest) (hp : p ≠ none) (hrd : Rd h h')
    (hb : ∀ k, Sl IntE 1 h p n (subsetL u.papers.length k) → fewerF (subsetL u.papers.length k) (subsetL u.papers.length i) ≤ 0) : BestR h' u land day rest p n := by
  rcases b with ⟨h1, h2, h3⟩ | ⟨k, a', h1, h2, h3, h4, h5⟩
  · exact absurd h1 hp
  · refine .inr ⟨k, a', h1, h2, h3, h4.rd IntE.grow hrd, fun j hj hn ho => ?_⟩
    by_cases e : j = i
    · rw [e]; exact hb k (by rw [h1]; exact h4)
    · exact h5 j hj (fun hm => (hr j hm).elim e hn) ho
theorem Sl.same {h : Cells} {p : Option Addr} {n : Nat} {a b : List Int} (ha : Sl IntE 1 h p n a) (hb : Sl IntE 1 h p n b) : a = b := by
  refine List.ext_getElem (by rw [← ha.1, ← hb.1]) fun i h1 h2 => ?_
  obtain ⟨x, c, e1, e2, e3⟩ := ha.at (i := i) (by rw [ha.1]; exact h1)
  obtain ⟨y, d, e4, e5, e6⟩ := hb.at (i := i) (by rw [hb.1]; exact h2)
  rw [e2] at e5; cases e5
  unfold IntE at e3 e6
  rw [e3] at e6; cases e6
  rw [List.getElem?_eq_getElem h1] at e1
  rw [List.getElem?_eq_getElem h2] at e4
  exact (Option.some.inj e1).trans (Option.some.inj e4).symm
theorem sets_wrap {n : Nat} (hn : n ≤ 8) : IntKind.wrap .i64 (1 * 2 ^ min (Int.toNat (n : Int)) 64) = ((2 ^ n : Nat) : Int) := by
  have e : min (Int.toNat (n : Int)) 64 = n := by simp; omega
  have h2 : (2 : Nat) ^ n ≤ 2 ^ 8 := Nat.pow_le_pow_right (by omega) hn
  have e2 : (1 : Int) * 2 ^ n = ((2 ^ n : Nat) : Int) := by simp
  rw [e, e2]
  generalize 2 ^ n = m at h2
  rw [wrap_id (by omega) (by omega)]
set_option maxRecDepth 100000 in
theorem c33 {h : LH} (hch : h.chans = []) (hpe : h.pend = []) {f : FileC} {u : UseFile} (hp : Parts h.get) (hu : FileR h.get f u) (land day : Int) :
    FW XT Tryd.prog 27 #[fileV f u, .int .i64 land, .int .i64 day] h fun r h' => Rd h.get h'.get ∧ h'.chans = [] ∧ h'.pend = [] ∧ h'.todo = h.todo ∧ KeepR h'.get u land day r := by
  refine w33 _ _ _ _ _ _ _ _ _ _ _ _ _ _ _ XT_ok ?_
  unfold n33
  refine t_new fun r hr => ?_
  have le0 : h.le _ := LH.upd_le (x := (true, .cells #[.int .i64 u.items, .int .i64 u.lands, .int .i64 u.from_, .int .i64 u.idle, .slice f.p4 f.n4 f.c4, .slice f.p5 f.n5 f.c5, .slice f.p6 f.n6 f.c6] 26 (0, 0))) hr
  have hat : FileAt (h.get.upd r (true, .cells #[.int .i64 u.items, .int .i64 u.lands, .int .i64 u.from_, .int .i64 u.idle, .slice f.p4 f.n4 f.c4, .slice f.p5 f.n5 f.c5, .slice f.p6 f.n6 f.c6] 26 (0, 0))) ⟨r, 0, none⟩ f u :=
    ⟨cell_upd rfl, cell_upd rfl, cell_upd rfl, cell_upd rfl, cell_upd rfl, cell_upd rfl, cell_upd rfl⟩
  generalize hh0 : ({ h with get := h.get.upd r (true, .cells #[.int .i64 u.items, .int .i64 u.lands, .int .i64 u.from_, .int .i64 u.idle, .slice f.p4 f.n4 f.c4, .slice f.p5 f.n5 f.c5, .slice f.p6 f.n6 f.c6] 26 (0, 0)) } : LH) = h0 at le0 ⊢
  have hat : FileAt h0.get ⟨r, 0, none⟩ f u := by rw [← hh0]; exact hat
  refine t_new fun r1 hr1 => ?_
  have le1 : h0.le _ := LH.upd_le (x := (true, .cells #[.int .i64 land] 3 (0, 0))) hr1
  have z1 : Cells.cell? (h0.get.upd r1 (true, .cells #[.int .i64 land] 3 (0, 0))) ⟨r1, 0, none⟩ = some (.int .i64 land) := cell_upd rfl
  refine t_new fun r2 hr2 => ?_
  have le2 := LH.upd_le (h := { h0 with get := h0.get.upd r1 (true, .cells #[.int .i64 land] 3 (0, 0)) }) (x := (true, .cells #[.int .i64 day] 3 (0, 0))) hr2
  have z2 : Cells.cell? ((h0.get.upd r1 (true, .cells #[.int .i64 land] 3 (0, 0))).upd r2 (true, .cells #[.int .i64 day] 3 (0, 0))) ⟨r2, 0, none⟩ = some (.int .i64 day) := cell_upd rfl
  have z1 := Cells.cell?_le le2.1 z1
  have hat := hat.le (LH.le_trans le1 le2).1
  obtain ⟨g0, g1, g2, g3, g4, g5, g6⟩ := id hat
  have le02 := LH.le_trans le0 (LH.le_trans le1 le2)
  refine gZ ?_
  refine t_gr (c58 u land) ?_
  rintro v0 h₁ le3 ⟨q0, a0⟩
  have z1 := Cells.cell?_le le3.1 z1
  have z2 := Cells.cell?_le le3.1 z2
  have hat := hat.le le3.1
  obtain ⟨g0, g1, g2, g3, g4, g5, g6⟩ := id hat
  refine gZ ?_
  refine t_gr (c54 u day) ?_
  rintro v1 h₂ le4 ⟨q1, a1⟩
  have z1 := Cells.cell?_le le4.1 z1
  have z2 := Cells.cell?_le le4.1 z2
  have hat := hat.le le4.1
  obtain ⟨g0, g1, g2, g3, g4, g5, g6⟩ := id hat
  refine gZ ?_
  refine asks2 q0 (a0.le le4) q1 a1 fun r' h₃ le5 hs => ?_
  have z1 := Cells.cell?_le le5.1 z1
  have z2 := Cells.cell?_le le5.1 z2
  have hat := hat.le le5.1
  obtain ⟨g0, g1, g2, g3, g4, g5, g6⟩ := id hat
  refine gZ ?_
  have le03 := LH.le_trans le02 (LH.le_trans (LH.le_trans le3 le4) le5)
  refine t_call (FW.top (c53 (f := f) (hp.le le03.1) (hu.le le03.1) hs)) ?_
  rintro v h₄ ⟨le6, ⟨hne, rfl⟩ | ⟨ho, d, m, rfl, hd, hm, k⟩⟩
  · refine gZ ?_
    have le04 := LH.le_trans le03 le6
    refine t_cond (fun _ => ?_) (fun e => absurd (by simpa using e) hne)
    exact t_ret ⟨Rd.of_le le04.1, by rw [le04.2.1, hch], by rw [le04.2.2.1, hpe], le04.2.2.2, .inl ⟨hne, rfl⟩⟩
  refine gZ ?_
  refine t_cond (fun e => by cases e) (fun _ => ?_)
  have hck := (open_num ho).2
  have z1' := Cells.cell?_le le6.1 z1
  have z2' := Cells.cell?_le le6.1 z2
  refine gZ ?_
  refine t_de (c63 k hck land day) ?_
  rintro _ h₅ mv k5 ⟨p0, n0, c0, rfl, gl⟩
  have le35 := Mv.le_of le6 hm mv
  have le05 := LH.le_trans le03 le35
  have hitn := (num_ok (open_num ho).1).1
  have hll : (leftAll u land day).length = u.items.toNat := by unfold leftAll; rw [List.length_map, List.length_range]
  have hsl : Sl IntE 1 h₅.get p0 n0 (leftAll u land day) := gl.sl IntEnc.len (by omega) IntEnc.e (by omega)
  have hpap := (check_papers hck).1
  have hu5 := hu.le le05.1
  have hn5 := hu5.papers.1
  refine gZ ?_
  refine t_newSt rfl fun r3 hr3 => ?_
  have le7 := LH.upd_le (x := (true, .cells #[.slice p0 n0 c0] 64 (0, 0))) hr3
  have z3 : Cells.cell? (h₅.get.upd r3 (true, .cells #[.slice p0 n0 c0] 64 (0, 0))) ⟨r3, 0, none⟩ = some (.slice p0 n0 c0) := cell_upd rfl
  refine t_makeChan und104 inf50 fun q hq => ?_
  have le8 := LH.upd_le (x := (true, .chan 0 #[] false 0 0 false)) hq
  refine t_unC ?_
  refine t_newSt rfl fun r4 hr4 => ?_
  have le9 := LH.upd_le (x := (true, .cells #[.chan (some q)] 117 (0, 0))) hr4
  have le38 := LH.le_trans le35 (LH.le_trans (LH.le_trans le7 le8) le9)
  have z1 := Cells.cell?_le le38.1 z1
  have z2 := Cells.cell?_le le38.1 z2
  have z3 := Cells.cell?_le (LH.le_trans le8 le9).1 z3
  have hat := hat.le le38.1
  obtain ⟨g0, g1, g2, g3, g4, g5, g6⟩ := id hat
  have hsl := hsl.le IntE.grow (LH.le_trans (LH.le_trans le7 le8) le9).1
  have le08 := LH.le_trans le03 le38
  have z4 : Cells.cell? (((h₅.get.upd r3 (true, .cells #[.slice p0 n0 c0] 64 (0, 0))).upd q (true, .chan 0 #[] false 0 0 false)).upd r4 (true, .cells #[.chan (some q)] 117 (0, 0))) ⟨r4, 0, none⟩ = some (.chan (some q)) := cell_upd rfl
  have hq' := le9.1 q _ (Cells.upd_self _ _ _)
  refine gL1 g5 ?_
  have h256 : 2 ^ f.n5 ≤ 2 ^ 8 := Nat.pow_le_pow_right (by omega) (by omega)
  have hNe : (2 : Nat) ^ f.n5 = 2 ^ u.papers.length := by rw [hn5]
  rw [sets_wrap (by omega)]
  generalize hN : (2 : Nat) ^ f.n5 = N at h256 hNe ⊢
  refine gZ ?_
  refine t_loop (fun mm vs h' => ∃ j : Nat, vs = [.int .i64 j] ∧ j ≤ N ∧ mm = N - j ∧ Rd (((h₅.get.upd r3 (true, .cells #[.slice p0 n0 c0] 64 (0, 0))).upd q (true, .chan 0 #[] false 0 0 false)).upd r4 (true, .cells #[.chan (some q)] 117 (0, 0))) h'.get ∧ h'.todo = h.todo ∧ h'.pend = (List.range j).map (fun i => [(q, Sent u land day i)]) ∧ Hand q h' ∧ (0 < j → h'.chans = [q]))
    ⟨0, rfl, Nat.zero_le _, rfl, Rd.refl _, le08.2.2.2, by rw [le08.2.2.1, hpe]; rfl, .inl ⟨by rw [le08.2.1, hch], 0, hq'⟩, fun hh => absurd hh (by omega)⟩ ?_
  rintro Y mm vs h₇ hY ⟨j, rfl, hj, rfl, rd7, td7, pd7, hand7, ch7⟩
  refine gZ ?_
  refine t_if (fun e1 => ?_) (fun e1 => ?_)
  · refine t_newSt rfl fun r5 hr5 => ?_
    have le10 := LH.upd_le (x := (true, .cells #[.int .i64 (j : Int)] 3 (0, 0))) hr5
    have z5 : Cells.cell? (h₇.get.upd r5 (true, .cells #[.int .i64 (j : Int)] 3 (0, 0))) ⟨r5, 0, none⟩ = some (.int .i64 (j : Int)) := cell_upd rfl
    have hand8 : Hand q { h₇ with get := h₇.get.upd r5 (true, .cells #[.int .i64 (j : Int)] 3 (0, 0)) } := by
      rcases hand7 with ⟨a1, s, a2⟩ | a1
      · exact .inl ⟨a1, s, le10.1 _ _ a2⟩
      · exact .inr a1
    have rd8 := rd7.trans (Rd.of_le le10.1)
    refine t_spawn (spawnW_all q (φ := Sent u land day j) hand8 (fun hc hrd => ?_) (fun h₈ r8 c8 t8 p8 => ?_))
    · have rdc := rd8.trans hrd
      exact c74 ((hp.le le08.1).rd rdc) ((hu.le le08.1).rd rdc) (hat.rd rdc) hpap (by omega) (hrd _ _ z5) (rdc _ _ z1) (rdc _ _ z2) (rdc _ _ z3) (hsl.rd IntE.grow rdc) (rdc _ _ z4)
    · refine t_again (hY (N - (j + 1)) _ _ (by omega) ⟨j + 1, ?_, by omega, rfl, rd8.trans r8, t8.trans td7, ?_, .inr c8, fun _ => c8⟩)
      · rw [wrap_id (by omega) (by omega)]; rfl
      · rw [p8, pd7, List.range_succ, List.map_append]; rfl
  · refine gZ ?_
    have hjN : j = N := by omega
    subst hjN
    have hpos : 0 < j := by rw [hNe]; exact Nat.pow_pos (by omega)
    refine t_loop (fun mm vs h' => ∃ (k : Nat) (rem : List Nat) (p : Option Addr) (n c : Nat), vs = [.slice p n c, .int .i64 k] ∧ rem.length + k = j ∧ mm = j - k ∧ (∀ i ∈ rem, i < j) ∧ Rd (((h₅.get.upd r3 (true, .cells #[.slice p0 n0 c0] 64 (0, 0))).upd q (true, .chan 0 #[] false 0 0 false)).upd r4 (true, .cells #[.chan (some q)] 117 (0, 0))) h'.get ∧ h'.todo = h.todo ∧ h'.pend = rem.map (fun i => [(q, Sent u land day i)]) ∧
        ((rem ≠ [] ∧ h'.chans = [q]) ∨ (rem = [] ∧ h'.chans = [] ∧ ∃ s, h'.get q = some (true, .chan 0 #[] false s s false))) ∧ BestR h'.get u land day rem p n ∧ n ≤ c)
      ⟨0, List.range j, none, 0, 0, rfl, by simp, rfl, fun i hi => List.mem_range.1 hi, rd7, td7, pd7, .inl ⟨by simp; omega, ch7 hpos⟩, .inl ⟨rfl, rfl, fun i hi hn => absurd (List.mem_range.2 (by omega)) hn⟩, Nat.le_refl _⟩ ?_
    rintro Y2 mm vs h₈ hY2 ⟨k, rem, p, n, c, rfl, hk, rfl, hrem, rd8, td8, pd8, hst8, best, hcap⟩
    refine gZ ?_
    refine t_if (fun e2 => ?_) (fun e2 => ?_)
    · have hne : rem ≠ [] := by rintro rfl; simp at hk; omega
      have hc8 : h₈.chans = [q] := by
        rcases hst8 with ⟨_, a⟩ | ⟨a, _⟩
        · exact a
        · exact absurd a hne
      refine t_loadC (rd8 _ _ z4) ?_
      refine t_comm (commW_gather (φ := Sent u land day) pd8 hc8 hne ?_)
      intro i rest v h₉ hi h1 h2 hlen ht hpd hst ⟨hv, hsent, hle⟩ hle9
      have hcr : commResult #[Conc.rcase q (.slice none 0 0)] (CommShape.recv false) 0 v true = v := rfl
      rw [hcr]
      have rd9 := Rd.of_le hle9
      have next : ∀ p' n' c', BestR h₉.get u land day rest p' n' → n' ≤ c' → Y2 [.slice p' n' c', .int .i64 (IntKind.wrap .i64 ((k : Int) + 1))] h₉ := by
        intro p' n' c' hb hcap'
        refine hY2 (j - (k + 1)) _ _ (by omega) ⟨k + 1, rest, p', n', c', ?_, by omega, rfl, fun i hi => hrem i (h2 i hi), rd8.trans rd9, ht.trans td8, hpd, hst, hb, hcap'⟩
        rw [wrap_id (by omega) (by omega)]; rfl
      change (if okF u land day i = true then _ else _) at hsent
      by_cases ok : okF u land day i = true
      · rw [if_pos ok] at hsent
        obtain ⟨a, n', c', rfl, hs9, hcap9⟩ := hsent
        have hs9 := hs9.rd IntE.grow (Rd.of_le hle)
        refine gZ ?_
        refine t_neNil und50 ?_
        refine gZ ?_
        refine t_cond (fun _ => ?_) (fun e => by cases e)
        refine t_eqNil und50 ?_
        refine gZ ?_
        refine t_cond (fun b => ?_) (fun b => ?_)
        · exact t_again (next _ _ _ (best.take h1 ok (by have := hrem i hi; omega) hs9 (.inl (by simpa using b))) hcap9)
        · have hpn : p ≠ none := by rintro rfl; cases b
          obtain ⟨k', a', hk', hs'⟩ : ∃ k' a', p = some a' ∧ Sl IntE 1 h₈.get (some a') n (subsetL u.papers.length k') := by
            rcases best with ⟨b1, _⟩ | ⟨k', a', b1, _, _, b4, _⟩
            · exact absurd b1 hpn
            · exact ⟨k', a', b1, b4⟩
          subst hk'
          have hs'9 := hs'.rd IntE.grow rd9
          refine t_pu (c75 hs9 hs'9) ?_
          have same : ∀ k2, Sl IntE 1 h₈.get (some a') n (subsetL u.papers.length k2) → subsetL u.papers.length k2 = subsetL u.papers.length k' := by
            intro k2 h3
            exact Sl.same h3 hs'
          refine gZ ?_
          refine t_if (fun e3 => ?_) (fun e3 => ?_)
          · refine t_again (next _ _ _ (best.take h1 ok (by have := hrem i hi; omega) hs9 (.inr fun k2 _ h3 => ?_)) hcap9)
            rw [same k2 h3]; omega
          · refine t_again (next _ _ _ (best.stay h1 hpn rd9 fun k2 h3 => ?_) hcap)
            rw [same k2 h3, fewer_neg]; omega
      · rw [if_neg ok] at hsent
        subst hsent
        refine gZ ?_
        refine t_neNil und50 ?_
        refine gZ ?_
        refine t_cond (fun e => by cases e) (fun _ => ?_)
        exact t_again (next _ _ _ (best.skip h1 (by simpa using ok) rd9) hcap)
    · refine gZ ?_
      have hrem0 : rem = [] := List.length_eq_zero_iff.1 (by omega)
      subst hrem0
      obtain ⟨hc8, s, hq8⟩ : h₈.chans = [] ∧ ∃ s, h₈.get q = some (true, .chan 0 #[] false s s false) := by
        rcases hst8 with ⟨a, _⟩ | ⟨_, a, b⟩
        · exact absurd rfl a
        · exact ⟨a, b⟩
      refine t_loadC (rd8 _ _ z4) ?_
      refine t_close hq8 ?_
      have rd9 : Rd h₈.get (h₈.get.upd q (true, .chan 0 #[] true s s false)) := by
        intro a v hc
        have hne : a.block ≠ q := by
          intro e
          unfold Cells.cell? at hc
          rw [e, hq8] at hc; cases hc
        unfold Cells.cell? at hc ⊢
        rw [Cells.upd_ne _ _ hne]; exact hc
      have b9 : BestR (h₈.get.upd q (true, .chan 0 #[] true s s false)) u land day [] p n := by
        rcases best with b1 | ⟨k2, a, b1, b2, b3, b4, b5⟩
        · exact .inl b1
        · exact .inr ⟨k2, a, b1, b2, b3, b4.rd IntE.grow rd9, b5⟩
      exact t_ret ⟨((Rd.of_le le08.1).trans rd8).trans rd9, hc8, pd8, td8, .inr ⟨ho, p, n, c, rfl, b9, hcap⟩⟩
end Go.Proofs.YtldamlcehbdkdaaDoor
end
section
namespace Go.Proofs.YtldamlcehbdkdaaDoor
open Go Go.TM Go.Proofs
set_option linter.unusedVariables false
set_option maxRecDepth 100000
noncomputable def n16  : T := .call false 21 #[] fun v => .unAgg v fun l => .popI .i64 l fun n vs => .popI .i64 vs fun n_1 vs => .popI .i64 vs fun n_2 vs => .popI .i64 vs fun n_3 vs => .popS vs fun a n_4 c vs => .popS vs fun a_1 n_5 c_1 vs => .popS vs fun a_2 n_6 c_2 vs => .unNil vs (.call false 22 #[.agg #[.int .i64 n, .int .i64 n_1, .int .i64 n_2, .int .i64 n_3, .slice a n_4 c, .slice a_1 n_5 c_1, .slice a_2 n_6 c_2], .int .i64 20] fun v => .unTup v fun l => .unCons l fun v vs => .unAgg v fun l => .popI .i64 l fun n_7 vs_1 => .popI .i64 vs_1 fun n_8 vs_2 => .unNil vs_2 (.unCons vs fun v vs => .unI .i64 v fun n_9 => .unNil vs (.call false 22 #[.agg #[.int .i64 n, .int .i64 n_1, .int .i64 n_2, .int .i64 n_3, .slice a n_4 c, .slice a_1 n_5 c_1, .slice a_2 n_6 c_2], .int .i64 25] fun v => .unTup v fun l => .unCons l fun v vs => .unAgg v fun l => .popI .i64 l fun n_10 vs_3 => .popI .i64 vs_3 fun n_11 vs_4 => .unNil vs_4 (.unCons vs fun v vs => .unI .i64 v fun n_12 => .unNil vs (.call false 23 #[.agg #[.int .i64 n, .int .i64 n_1, .int .i64 n_2, .int .i64 n_3, .slice a n_4 c, .slice a_1 n_5 c_1, .slice a_2 n_6 c_2], .int .i64 0, .int .i64 1, .int .i64 16] fun v => .unTup v fun l => .unCons l fun v vs => .unI .i64 v fun n_13 => .unCons vs fun v vs => .unI .i64 v fun n_14 => .unNil vs (.call false 23 #[.agg #[.int .i64 n, .int .i64 n_1, .int .i64 n_2, .int .i64 n_3, .slice a n_4 c, .slice a_1 n_5 c_1, .slice a_2 n_6 c_2], .int .i64 0, .int .i64 1, .int .i64 18] fun v => .unTup v fun l => .unCons l fun v vs => .unI .i64 v fun n_15 => .unCons vs fun v vs => .unI .i64 v fun n_16 => .unNil vs (.call false 23 #[.agg #[.int .i64 n, .int .i64 n_1, .int .i64 n_2, .int .i64 n_3, .slice a n_4 c, .slice a_1 n_5 c_1, .slice a_2 n_6 c_2], .int .i64 0, .int .i64 1, .int .i64 19] fun v => .unTup v fun l => .unCons l fun v vs => .unI .i64 v fun n_17 => .unCons vs fun v vs => .unI .i64 v fun n_18 => .unNil vs (.call false 24 #[.agg #[.int .i64 n, .int .i64 n_1, .int .i64 n_2, .int .i64 n_3, .slice a n_4 c, .slice a_1 n_5 c_1, .slice a_2 n_6 c_2], .int .i64 0, .int .i64 1] fun v => .unTup v fun l => .unCons l fun v vs => .unI .i64 v fun n_19 => .unCons vs fun v vs => .unI .i64 v fun n_20 => .unNil vs (.call false 24 #[.agg #[.int .i64 n, .int .i64 n_1, .int .i64 n_2, .int .i64 n_3, .slice a n_4 c, .slice a_1 n_5 c_1, .slice a_2 n_6 c_2], .int .i64 1, .int .i64 2] fun v => .unTup v fun l => .unCons l fun v vs => .unI .i64 v fun n_21 => .unCons vs fun v vs => .unI .i64 v fun n_22 => .unNil vs (.call false 25 #[.agg #[.int .i64 n, .int .i64 n_1, .int .i64 n_2, .int .i64 n_3, .slice a n_4 c, .slice a_1 n_5 c_1, .slice a_2 n_6 c_2], .int .i64 0, .int .i64 25] fun v => .unTup v fun l => .unCons l fun v vs => .unS v fun a_3 n_23 c_3 => .unCons vs fun v vs => .unI .i64 v fun n_24 => .unNil vs (.call false 26 #[.agg #[.int .i64 n, .int .i64 n_1, .int .i64 n_2, .int .i64 n_3, .slice a n_4 c, .slice a_1 n_5 c_1, .slice a_2 n_6 c_2], .int .i64 0, .int .i64 20] fun v => .unTup v fun l => .unCons l fun v vs => .unS v fun a_4 n_25 c_4 => .unCons vs fun v vs => .unI .i64 v fun n_26 => .unNil vs (.call false 27 #[.agg #[.int .i64 n, .int .i64 n_1, .int .i64 n_2, .int .i64 n_3, .slice a n_4 c, .slice a_1 n_5 c_1, .slice a_2 n_6 c_2], .int .i64 0, .int .i64 25] fun v => .unTup v fun l => .unCons l fun v vs => .unS v fun a_5 n_27 c_5 => .unCons vs fun v vs => .unI .i64 v fun n_28 => .unNil vs (.sem false (Instr.buildSlice 28 2 #[(0, .int .i64 0), (1, .int .i64 2)]) fun v => .unS v fun a_6 n_29 c_6 => .call false 28 #[.agg #[.int .i64 n, .int .i64 n_1, .int .i64 n_2, .int .i64 n_3, .slice a n_4 c, .slice a_1 n_5 c_1, .slice a_2 n_6 c_2], .int .i64 0, .int .i64 25, .slice a_6 n_29 c_6] fun v => .unTup v fun l => .unCons l fun v vs => .unB v fun b => .unCons vs fun v vs => .unI .i64 v fun n => .unNil vs (.blk (bif n_9 != 0 then .leaf (.retn [.bool false]) else bif n_12 != 0 then .leaf (.retn [.bool false]) else bif n_14 != 0 then .leaf (.retn [.bool false]) else bif n_16 != 0 then .leaf (.retn [.bool false]) else bif n_18 != 0 then .leaf (.retn [.bool false]) else bif n_20 != 0 then .leaf (.retn [.bool false]) else bif n_22 != 0 then .leaf (.retn [.bool false]) else bif n_24 != 0 then .leaf (.retn [.bool false]) else bif n_26 != 0 then .leaf (.retn [.bool false]) else bif n_28 != 0 then .leaf (.retn [.bool false]) else bif n != 0 then .leaf (.retn [.bool false]) else .leaf (.again [.bool false])) (fun vs => .popB vs fun b_1 vs => .unNil vs (.blk (.call false 29 #[.int .i64 16, .int .i64 20] fun v => .unAgg v fun l => .popI .i64 l fun n vs => .popI .i64 vs fun n_30 vs => .unNil vs (.nd (.agg #[.int .i64 n_7, .int .i64 n_8]) (.sem false (Sem.bind (eqGuard BinOp.neq 32 (Operand.tmp 123) (Operand.tmp 124) (.agg #[.int .i64 n_7, .int .i64 n_8]) (.agg #[.int .i64 n, .int .i64 n_30])) fun __r => binOp BinOp.neq 32 (.agg #[.int .i64 n_7, .int .i64 n_8]) (.agg #[.int .i64 n, .int .i64 n_30])) fun v => .unB v fun b_2 => bif b_2 then .nd (.tuple #[]) (.nd (.bool true) (.nd (.bool true) (.nd (.bool true) (.nd (.bool true) (.nd (.bool true) (.nd (.bool true) (.nd (.bool true) (.nd (.bool true) (.nd (.bool true) (.nd (.bool true) (.nd (.bool true) (.nd (.bool true) (.nd (.bool true) (.nd (.bool true) (.nd (.bool true) (.nd (.tuple #[]) (.nd (.bool true) (.nd (.tuple #[]) (.nd (.bool true) (.nd (.bool true) (.nd (.bool true) (.nd (.bool true) (.nd (.bool true) (.nd (.bool true) (.nd (.bool true) (.nd (.bool true) (.nd (.tuple #[]) (.nd (.bool true) (.nd (.bool true) (.nd (.bool true) (.nd (.bool true) (.nd (.bool true) (.nd (.bool true) (.nd (.bool true) (.nd (.bool true) (.nd (.tuple #[]) (.nd (.bool true) (.nd (.bool true) (.nd (.bool true) (.nd (.bool true) (.nd (.bool true) (.nd (.bool true) (.nd (.bool true) (.leaf (.retn [.bool false]))))))))))))))))))))))))))))))))))))))))))))) else .call false 29 #[.int .i64 18, .int .i64 25] fun v => .unAgg v fun l => .popI .i64 l fun n vs => .popI .i64 vs fun n_31 vs => .unNil vs (.nd (.agg #[.int .i64 n_10, .int .i64 n_11]) (.sem false (Sem.bind (eqGuard BinOp.neq 32 (Operand.tmp 127) (Operand.tmp 128) (.agg #[.int .i64 n_10, .int .i64 n_11]) (.agg #[.int .i64 n, .int .i64 n_31])) fun __r => binOp BinOp.neq 32 (.agg #[.int .i64 n_10, .int .i64 n_11]) (.agg #[.int .i64 n, .int .i64 n_31])) fun v => .unB v fun b_3 => bif b_3 then .nd (.bool b_3) (.nd (.bool true) (.nd (.bool b_3) (.nd (.bool true) (.nd (.bool true) (.nd (.bool b_3) (.nd (.bool true) (.nd (.bool true) (.nd (.bool true) (.nd (.bool b_3) (.nd (.bool true) (.nd (.bool true) (.nd (.bool true) (.nd (.bool true) (.nd (.bool b_3) (.nd (.tuple #[]) (.nd (.bool true) (.nd (.tuple #[]) (.nd (.bool true) (.nd (.bool true) (.nd (.bool true) (.nd (.bool true) (.nd (.bool true) (.nd (.bool true) (.nd (.bool b_3) (.nd (.bool true) (.nd (.tuple #[]) (.nd (.bool true) (.nd (.bool true) (.nd (.bool true) (.nd (.bool true) (.nd (.bool true) (.nd (.bool true) (.nd (.bool b_3) (.nd (.bool true) (.nd (.tuple #[]) (.nd (.bool true) (.nd (.bool true) (.nd (.bool true) (.nd (.bool true) (.nd (.bool true) (.nd (.bool true) (.nd (.bool b_3) (.leaf (.retn [.bool false])))))))))))))))))))))))))))))))))))))))))))) else bif n_13 != 1 then .nd (.bool (n_13 != 1)) (.nd (.bool (n_13 != 1)) (.nd (.int .i64 n_13) (.need (AV.val (.bool b_3) = AV.val (.bool false)) (.nd (.bool b_3) (.nd (.bool true) (.nd (.bool (n_13 != 1)) (.nd (.bool (n_13 != 1)) (.nd (.int .i64 n_13) (.need (AV.val (.bool b_3) = AV.val (.bool false)) (.nd (.bool b_3) (.nd (.bool true) (.nd (.bool true) (.nd (.bool (n_13 != 1)) (.nd (.bool (n_13 != 1)) (.nd (.int .i64 n_13) (.need (AV.val (.bool b_3) = AV.val (.bool false)) (.nd (.bool b_3) (.nd (.bool true) (.nd (.bool true) (.nd (.bool true) (.nd (.bool (n_13 != 1)) (.nd (.bool (n_13 != 1)) (.nd (.int .i64 n_13) (.need (AV.val (.bool b_3) = AV.val (.bool false)) (.nd (.bool b_3) (.nd (.tuple #[]) (.nd (.bool true) (.nd (.tuple #[]) (.nd (.bool true) (.nd (.bool true) (.nd (.bool true) (.nd (.bool true) (.nd (.bool true) (.nd (.bool (n_13 != 1)) (.nd (.bool (n_13 != 1)) (.nd (.int .i64 n_13) (.need (AV.val (.bool b_3) = AV.val (.bool false)) (.nd (.bool b_3) (.nd (.bool true) (.nd (.tuple #[]) (.nd (.bool true) (.nd (.bool true) (.nd (.bool true) (.nd (.bool true) (.nd (.bool true) (.nd (.bool (n_13 != 1)) (.nd (.bool (n_13 != 1)) (.nd (.int .i64 n_13) (.need (AV.val (.bool b_3) = AV.val (.bool false)) (.nd (.bool b_3) (.nd (.bool true) (.nd (.tuple #[]) (.nd (.bool true) (.nd (.bool true) (.nd (.bool true) (.nd (.bool true) (.nd (.bool true) (.nd (.bool (n_13 != 1)) (.nd (.bool (n_13 != 1)) (.nd (.int .i64 n_13) (.need (AV.val (.bool b_3) = AV.val (.bool false)) (.nd (.bool b_3) (.leaf (.retn [.bool false])))))))))))))))))))))))))))))))))))))))))))))))))))))))))))))))) else bif n_15 != 0 then .nd (.bool (n_15 != 0)) (.nd (.bool (n_15 != 0)) (.nd (.int .i64 n_15) (.need (AV.val (.bool (n_13 != 1)) = AV.val (.bool false)) (.nd (.bool (n_13 != 1)) (.nd (.bool (n_13 != 1)) (.nd (.int .i64 n_13) (.need (AV.val (.bool b_3) = AV.val (.bool false)) (.nd (.bool b_3) (.nd (.bool true) (.nd (.bool (n_15 != 0)) (.nd (.bool (n_15 != 0)) (.nd (.int .i64 n_15) (.need (AV.val (.bool (n_13 != 1)) = AV.val (.bool false)) (.nd (.bool (n_13 != 1)) (.nd (.bool (n_13 != 1)) (.nd (.int .i64 n_13) (.need (AV.val (.bool b_3) = AV.val (.bool false)) (.nd (.bool b_3) (.nd (.bool true) (.nd (.bool true) (.nd (.bool (n_15 != 0)) (.nd (.bool (n_15 != 0)) (.nd (.int .i64 n_15) (.need (AV.val (.bool (n_13 != 1)) = AV.val (.bool false)) (.nd (.bool (n_13 != 1)) (.nd (.bool (n_13 != 1)) (.nd (.int .i64 n_13) (.need (AV.val (.bool b_3) = AV.val (.bool false)) (.nd (.bool b_3) (.nd (.tuple #[]) (.nd (.bool true) (.nd (.tuple #[]) (.nd (.bool true) (.nd (.bool true) (.nd (.bool true) (.nd (.bool true) (.nd (.bool (n_15 != 0)) (.nd (.bool (n_15 != 0)) (.nd (.int .i64 n_15) (.need (AV.val (.bool (n_13 != 1)) = AV.val (.bool false)) (.nd (.bool (n_13 != 1)) (.nd (.bool (n_13 != 1)) (.nd (.int .i64 n_13) (.need (AV.val (.bool b_3) = AV.val (.bool false)) (.nd (.bool b_3) (.nd (.bool true) (.nd (.tuple #[]) (.nd (.bool true) (.nd (.bool true) (.nd (.bool true) (.nd (.bool true) (.nd (.bool (n_15 != 0)) (.nd (.bool (n_15 != 0)) (.nd (.int .i64 n_15) (.need (AV.val (.bool (n_13 != 1)) = AV.val (.bool false)) (.nd (.bool (n_13 != 1)) (.nd (.bool (n_13 != 1)) (.nd (.int .i64 n_13) (.need (AV.val (.bool b_3) = AV.val (.bool false)) (.nd (.bool b_3) (.nd (.bool true) (.nd (.tuple #[]) (.nd (.bool true) (.nd (.bool true) (.nd (.bool true) (.nd (.bool true) (.nd (.bool (n_15 != 0)) (.nd (.bool (n_15 != 0)) (.nd (.int .i64 n_15) (.need (AV.val (.bool (n_13 != 1)) = AV.val (.bool false)) (.nd (.bool (n_13 != 1)) (.nd (.bool (n_13 != 1)) (.nd (.int .i64 n_13) (.need (AV.val (.bool b_3) = AV.val (.bool false)) (.nd (.bool b_3) (.leaf (.retn [.bool false]))))))))))))))))))))))))))))))))))))))))))))))))))))))))))))))))))))))))))))) else bif n_17 != 2 then .nd (.bool (n_17 != 2)) (.nd (.bool (n_17 != 2)) (.nd (.int .i64 n_17) (.need (AV.val (.bool (n_15 != 0)) = AV.val (.bool false)) (.nd (.bool (n_15 != 0)) (.nd (.bool (n_15 != 0)) (.nd (.int .i64 n_15) (.need (AV.val (.bool (n_13 != 1)) = AV.val (.bool false)) (.nd (.bool (n_13 != 1)) (.nd (.bool (n_13 != 1)) (.nd (.int .i64 n_13) (.need (AV.val (.bool b_3) = AV.val (.bool false)) (.nd (.bool b_3) (.nd (.bool true) (.nd (.bool (n_17 != 2)) (.nd (.bool (n_17 != 2)) (.nd (.int .i64 n_17) (.need (AV.val (.bool (n_15 != 0)) = AV.val (.bool false)) (.nd (.bool (n_15 != 0)) (.nd (.bool (n_15 != 0)) (.nd (.int .i64 n_15) (.need (AV.val (.bool (n_13 != 1)) = AV.val (.bool false)) (.nd (.bool (n_13 != 1)) (.nd (.bool (n_13 != 1)) (.nd (.int .i64 n_13) (.need (AV.val (.bool b_3) = AV.val (.bool false)) (.nd (.bool b_3) (.nd (.tuple #[]) (.nd (.bool true) (.nd (.tuple #[]) (.nd (.bool true) (.nd (.bool true) (.nd (.bool true) (.nd (.bool (n_17 != 2)) (.nd (.bool (n_17 != 2)) (.nd (.int .i64 n_17) (.need (AV.val (.bool (n_15 != 0)) = AV.val (.bool false)) (.nd (.bool (n_15 != 0)) (.nd (.bool (n_15 != 0)) (.nd (.int .i64 n_15) (.need (AV.val (.bool (n_13 != 1)) = AV.val (.bool false)) (.nd (.bool (n_13 != 1)) (.nd (.bool (n_13 != 1)) (.nd (.int .i64 n_13) (.need (AV.val (.bool b_3) = AV.val (.bool false)) (.nd (.bool b_3) (.nd (.bool true) (.nd (.tuple #[]) (.nd (.bool true) (.nd (.bool true) (.nd (.bool true) (.nd (.bool (n_17 != 2)) (.nd (.bool (n_17 != 2)) (.nd (.int .i64 n_17) (.need (AV.val (.bool (n_15 != 0)) = AV.val (.bool false)) (.nd (.bool (n_15 != 0)) (.nd (.bool (n_15 != 0)) (.nd (.int .i64 n_15) (.need (AV.val (.bool (n_13 != 1)) = AV.val (.bool false)) (.nd (.bool (n_13 != 1)) (.nd (.bool (n_13 != 1)) (.nd (.int .i64 n_13) (.need (AV.val (.bool b_3) = AV.val (.bool false)) (.nd (.bool b_3) (.nd (.bool true) (.nd (.tuple #[]) (.nd (.bool true) (.nd (.bool true) (.nd (.bool true) (.nd (.bool (n_17 != 2)) (.nd (.bool (n_17 != 2)) (.nd (.int .i64 n_17) (.need (AV.val (.bool (n_15 != 0)) = AV.val (.bool false)) (.nd (.bool (n_15 != 0)) (.nd (.bool (n_15 != 0)) (.nd (.int .i64 n_15) (.need (AV.val (.bool (n_13 != 1)) = AV.val (.bool false)) (.nd (.bool (n_13 != 1)) (.nd (.bool (n_13 != 1)) (.nd (.int .i64 n_13) (.need (AV.val (.bool b_3) = AV.val (.bool false)) (.nd (.bool b_3) (.leaf (.retn [.bool false]))))))))))))))))))))))))))))))))))))))))))))))))))))))))))))))))))))))))))))))))))) else bif n_19 != 17 then .nd (.bool (n_19 != 17)) (.nd (.bool (n_19 != 17)) (.nd (.int .i64 n_19) (.need (AV.val (.bool (n_17 != 2)) = AV.val (.bool false)) (.nd (.bool (n_17 != 2)) (.nd (.bool (n_17 != 2)) (.nd (.int .i64 n_17) (.need (AV.val (.bool (n_15 != 0)) = AV.val (.bool false)) (.nd (.bool (n_15 != 0)) (.nd (.bool (n_15 != 0)) (.nd (.int .i64 n_15) (.need (AV.val (.bool (n_13 != 1)) = AV.val (.bool false)) (.nd (.bool (n_13 != 1)) (.nd (.bool (n_13 != 1)) (.nd (.int .i64 n_13) (.need (AV.val (.bool b_3) = AV.val (.bool false)) (.nd (.bool b_3) (.nd (.tuple #[]) (.nd (.bool true) (.nd (.tuple #[]) (.nd (.bool true) (.nd (.bool true) (.nd (.bool (n_19 != 17)) (.nd (.bool (n_19 != 17)) (.nd (.int .i64 n_19) (.need (AV.val (.bool (n_17 != 2)) = AV.val (.bool false)) (.nd (.bool (n_17 != 2)) (.nd (.bool (n_17 != 2)) (.nd (.int .i64 n_17) (.need (AV.val (.bool (n_15 != 0)) = AV.val (.bool false)) (.nd (.bool (n_15 != 0)) (.nd (.bool (n_15 != 0)) (.nd (.int .i64 n_15) (.need (AV.val (.bool (n_13 != 1)) = AV.val (.bool false)) (.nd (.bool (n_13 != 1)) (.nd (.bool (n_13 != 1)) (.nd (.int .i64 n_13) (.need (AV.val (.bool b_3) = AV.val (.bool false)) (.nd (.bool b_3) (.nd (.bool true) (.nd (.tuple #[]) (.nd (.bool true) (.nd (.bool true) (.nd (.bool (n_19 != 17)) (.nd (.bool (n_19 != 17)) (.nd (.int .i64 n_19) (.need (AV.val (.bool (n_17 != 2)) = AV.val (.bool false)) (.nd (.bool (n_17 != 2)) (.nd (.bool (n_17 != 2)) (.nd (.int .i64 n_17) (.need (AV.val (.bool (n_15 != 0)) = AV.val (.bool false)) (.nd (.bool (n_15 != 0)) (.nd (.bool (n_15 != 0)) (.nd (.int .i64 n_15) (.need (AV.val (.bool (n_13 != 1)) = AV.val (.bool false)) (.nd (.bool (n_13 != 1)) (.nd (.bool (n_13 != 1)) (.nd (.int .i64 n_13) (.need (AV.val (.bool b_3) = AV.val (.bool false)) (.nd (.bool b_3) (.nd (.bool true) (.nd (.tuple #[]) (.nd (.bool true) (.nd (.bool true) (.nd (.bool (n_19 != 17)) (.nd (.bool (n_19 != 17)) (.nd (.int .i64 n_19) (.need (AV.val (.bool (n_17 != 2)) = AV.val (.bool false)) (.nd (.bool (n_17 != 2)) (.nd (.bool (n_17 != 2)) (.nd (.int .i64 n_17) (.need (AV.val (.bool (n_15 != 0)) = AV.val (.bool false)) (.nd (.bool (n_15 != 0)) (.nd (.bool (n_15 != 0)) (.nd (.int .i64 n_15) (.need (AV.val (.bool (n_13 != 1)) = AV.val (.bool false)) (.nd (.bool (n_13 != 1)) (.nd (.bool (n_13 != 1)) (.nd (.int .i64 n_13) (.need (AV.val (.bool b_3) = AV.val (.bool false)) (.nd (.bool b_3) (.leaf (.retn [.bool false])))))))))))))))))))))))))))))))))))))))))))))))))))))))))))))))))))))))))))))))))) else bif n_21 != 15 then .nd (.tuple #[]) (.nd (.bool true) (.nd (.tuple #[]) (.need (AV.val (.bool (n_21 != 15)) = AV.val (.bool true)) (.nd (.bool (n_21 != 15)) (.nd (.bool (n_21 != 15)) (.nd (.int .i64 n_21) (.need (AV.val (.bool (n_19 != 17)) = AV.val (.bool false)) (.nd (.bool (n_19 != 17)) (.nd (.bool (n_19 != 17)) (.nd (.int .i64 n_19) (.need (AV.val (.bool (n_17 != 2)) = AV.val (.bool false)) (.nd (.bool (n_17 != 2)) (.nd (.bool (n_17 != 2)) (.nd (.int .i64 n_17) (.need (AV.val (.bool (n_15 != 0)) = AV.val (.bool false)) (.nd (.bool (n_15 != 0)) (.nd (.bool (n_15 != 0)) (.nd (.int .i64 n_15) (.need (AV.val (.bool (n_13 != 1)) = AV.val (.bool false)) (.nd (.bool (n_13 != 1)) (.nd (.bool (n_13 != 1)) (.nd (.int .i64 n_13) (.need (AV.val (.bool b_3) = AV.val (.bool false)) (.nd (.bool b_3) (.nd (.bool true) (.nd (.tuple #[]) (.need (AV.val (.bool (n_21 != 15)) = AV.val (.bool true)) (.nd (.bool (n_21 != 15)) (.nd (.bool (n_21 != 15)) (.nd (.int .i64 n_21) (.need (AV.val (.bool (n_19 != 17)) = AV.val (.bool false)) (.nd (.bool (n_19 != 17)) (.nd (.bool (n_19 != 17)) (.nd (.int .i64 n_19) (.need (AV.val (.bool (n_17 != 2)) = AV.val (.bool false)) (.nd (.bool (n_17 != 2)) (.nd (.bool (n_17 != 2)) (.nd (.int .i64 n_17) (.need (AV.val (.bool (n_15 != 0)) = AV.val (.bool false)) (.nd (.bool (n_15 != 0)) (.nd (.bool (n_15 != 0)) (.nd (.int .i64 n_15) (.need (AV.val (.bool (n_13 != 1)) = AV.val (.bool false)) (.nd (.bool (n_13 != 1)) (.nd (.bool (n_13 != 1)) (.nd (.int .i64 n_13) (.need (AV.val (.bool b_3) = AV.val (.bool false)) (.nd (.bool b_3) (.nd (.bool true) (.nd (.tuple #[]) (.need (AV.val (.bool (n_21 != 15)) = AV.val (.bool true)) (.nd (.bool (n_21 != 15)) (.nd (.bool (n_21 != 15)) (.nd (.int .i64 n_21) (.need (AV.val (.bool (n_19 != 17)) = AV.val (.bool false)) (.nd (.bool (n_19 != 17)) (.nd (.bool (n_19 != 17)) (.nd (.int .i64 n_19) (.need (AV.val (.bool (n_17 != 2)) = AV.val (.bool false)) (.nd (.bool (n_17 != 2)) (.nd (.bool (n_17 != 2)) (.nd (.int .i64 n_17) (.need (AV.val (.bool (n_15 != 0)) = AV.val (.bool false)) (.nd (.bool (n_15 != 0)) (.nd (.bool (n_15 != 0)) (.nd (.int .i64 n_15) (.need (AV.val (.bool (n_13 != 1)) = AV.val (.bool false)) (.nd (.bool (n_13 != 1)) (.nd (.bool (n_13 != 1)) (.nd (.int .i64 n_13) (.need (AV.val (.bool b_3) = AV.val (.bool false)) (.nd (.bool b_3) (.leaf (.retn [.bool false])))))))))))))))))))))))))))))))))))))))))))))))))))))))))))))))))))))))))) else bif b then .nd (.tuple #[]) (.nd (.bool b) (.nd (.bool b) (.need (AV.val (.bool (n_21 != 15)) = AV.val (.bool false)) (.nd (.bool (n_21 != 15)) (.nd (.bool (n_21 != 15)) (.nd (.int .i64 n_21) (.need (AV.val (.bool (n_19 != 17)) = AV.val (.bool false)) (.nd (.bool (n_19 != 17)) (.nd (.bool (n_19 != 17)) (.nd (.int .i64 n_19) (.need (AV.val (.bool (n_17 != 2)) = AV.val (.bool false)) (.nd (.bool (n_17 != 2)) (.nd (.bool (n_17 != 2)) (.nd (.int .i64 n_17) (.need (AV.val (.bool (n_15 != 0)) = AV.val (.bool false)) (.nd (.bool (n_15 != 0)) (.nd (.bool (n_15 != 0)) (.nd (.int .i64 n_15) (.need (AV.val (.bool (n_13 != 1)) = AV.val (.bool false)) (.nd (.bool (n_13 != 1)) (.nd (.bool (n_13 != 1)) (.nd (.int .i64 n_13) (.need (AV.val (.bool b_3) = AV.val (.bool false)) (.nd (.bool b_3) (.nd (.bool b) (.nd (.bool b) (.need (AV.val (.bool (n_21 != 15)) = AV.val (.bool false)) (.nd (.bool (n_21 != 15)) (.nd (.bool (n_21 != 15)) (.nd (.int .i64 n_21) (.need (AV.val (.bool (n_19 != 17)) = AV.val (.bool false)) (.nd (.bool (n_19 != 17)) (.nd (.bool (n_19 != 17)) (.nd (.int .i64 n_19) (.need (AV.val (.bool (n_17 != 2)) = AV.val (.bool false)) (.nd (.bool (n_17 != 2)) (.nd (.bool (n_17 != 2)) (.nd (.int .i64 n_17) (.need (AV.val (.bool (n_15 != 0)) = AV.val (.bool false)) (.nd (.bool (n_15 != 0)) (.nd (.bool (n_15 != 0)) (.nd (.int .i64 n_15) (.need (AV.val (.bool (n_13 != 1)) = AV.val (.bool false)) (.nd (.bool (n_13 != 1)) (.nd (.bool (n_13 != 1)) (.nd (.int .i64 n_13) (.need (AV.val (.bool b_3) = AV.val (.bool false)) (.nd (.bool b_3) (.nd (.bool b) (.nd (.bool b) (.need (AV.val (.bool (n_21 != 15)) = AV.val (.bool false)) (.nd (.bool (n_21 != 15)) (.nd (.bool (n_21 != 15)) (.nd (.int .i64 n_21) (.need (AV.val (.bool (n_19 != 17)) = AV.val (.bool false)) (.nd (.bool (n_19 != 17)) (.nd (.bool (n_19 != 17)) (.nd (.int .i64 n_19) (.need (AV.val (.bool (n_17 != 2)) = AV.val (.bool false)) (.nd (.bool (n_17 != 2)) (.nd (.bool (n_17 != 2)) (.nd (.int .i64 n_17) (.need (AV.val (.bool (n_15 != 0)) = AV.val (.bool false)) (.nd (.bool (n_15 != 0)) (.nd (.bool (n_15 != 0)) (.nd (.int .i64 n_15) (.need (AV.val (.bool (n_13 != 1)) = AV.val (.bool false)) (.nd (.bool (n_13 != 1)) (.nd (.bool (n_13 != 1)) (.nd (.int .i64 n_13) (.need (AV.val (.bool b_3) = AV.val (.bool false)) (.nd (.bool b_3) (.leaf (.retn [.bool false])))))))))))))))))))))))))))))))))))))))))))))))))))))))))))))))))))))))))) else .sem false (Instr.buildSlice 28 1 #[(0, .int .i64 1)]) fun v => .unS v fun a n c => .nd (.slice a_5 n_27 c_5) (.nd (.bool b) (.nd (.bool b) (.need (AV.val (.bool (n_21 != 15)) = AV.val (.bool false)) (.nd (.bool (n_21 != 15)) (.nd (.bool (n_21 != 15)) (.nd (.int .i64 n_21) (.need (AV.val (.bool (n_19 != 17)) = AV.val (.bool false)) (.nd (.bool (n_19 != 17)) (.nd (.bool (n_19 != 17)) (.nd (.int .i64 n_19) (.need (AV.val (.bool (n_17 != 2)) = AV.val (.bool false)) (.nd (.bool (n_17 != 2)) (.nd (.bool (n_17 != 2)) (.nd (.int .i64 n_17) (.need (AV.val (.bool (n_15 != 0)) = AV.val (.bool false)) (.nd (.bool (n_15 != 0)) (.nd (.bool (n_15 != 0)) (.nd (.int .i64 n_15) (.need (AV.val (.bool (n_13 != 1)) = AV.val (.bool false)) (.nd (.bool (n_13 != 1)) (.nd (.bool (n_13 != 1)) (.nd (.int .i64 n_13) (.need (AV.val (.bool b_3) = AV.val (.bool false)) (.nd (.bool b_3) (.call false 30 #[.slice a_5 n_27 c_5, .slice a n c] fun v => .unB v fun b_4 => .nd (.bool b) (.nd (.bool b) (.need (AV.val (.bool (n_21 != 15)) = AV.val (.bool false)) (.nd (.bool (n_21 != 15)) (.nd (.bool (n_21 != 15)) (.nd (.int .i64 n_21) (.need (AV.val (.bool (n_19 != 17)) = AV.val (.bool false)) (.nd (.bool (n_19 != 17)) (.nd (.bool (n_19 != 17)) (.nd (.int .i64 n_19) (.need (AV.val (.bool (n_17 != 2)) = AV.val (.bool false)) (.nd (.bool (n_17 != 2)) (.nd (.bool (n_17 != 2)) (.nd (.int .i64 n_17) (.need (AV.val (.bool (n_15 != 0)) = AV.val (.bool false)) (.nd (.bool (n_15 != 0)) (.nd (.bool (n_15 != 0)) (.nd (.int .i64 n_15) (.need (AV.val (.bool (n_13 != 1)) = AV.val (.bool false)) (.nd (.bool (n_13 != 1)) (.nd (.bool (n_13 != 1)) (.nd (.int .i64 n_13) (.need (AV.val (.bool b_3) = AV.val (.bool false)) (.nd (.bool b_3) (bif !b_4 then .leaf (.retn [.bool false]) else .leaf (.again [.bool b_1]))))))))))))))))))))))))))))))))))))))))))))))))))))))) (fun vs => .popB vs fun b vs => .unNil vs (.sem false (Instr.buildSlice 64 3 #[(0, .int .i64 1), (1, .int .i64 2), (2, .int .i64 0)]) fun v => .unS v fun a n c => .call false 31 #[.slice a_3 n_23 c_3, .slice a n c] fun v => .unB v fun b => bif b then .call false 29 #[.int .i64 16, .int .i64 20] fun v => .unAgg v fun l => .popI .i64 l fun n vs => .popI .i64 vs fun n_30 vs => .unNil vs (.call false 29 #[.int .i64 16, .int .i64 20] fun v => .unAgg v fun l => .popI .i64 l fun n_31 vs => .popI .i64 vs fun n_32 vs => .unNil vs (.sem false (Instr.buildSlice 67 2 #[(0, .agg #[.int .i64 1, .int .i64 0, .int .i64 n, .int .i64 n_30]), (1, .agg #[.int .i64 2, .int .i64 0, .int .i64 n_31, .int .i64 n_32])]) fun v => .unS v fun a n c => .call false 32 #[.slice a_4 n_25 c_4, .slice a n c] fun v => .unB v fun b => .leaf (.ret (.bool b)))) else .leaf (.ret (.bool false)))) (fun vs => .popB vs fun b vs => .unNil vs (.leaf (.ret (.bool b)))) fun x x_1 => .fail)) (fun vs => .popB vs fun b vs => .unNil vs (.leaf (.ret (.bool b)))) fun x x_1 => .fail))))))))))))))
theorem t16  : ftree ({ P := Tryd.prog, priv := [1, 2, 4], loops := [], joins := [{ id := 17, slots := [(0, .bool)], ro := [1, 2, 4], outs := [] }, { id := 15, slots := [(0, .bool)], ro := [1, 2, 4], outs := [] }] }) Tryd.f8 [] = n16  := by kernel_rfl
theorem w16  {X : XP} (hX : XOK X) {h : LH} {A : Value → LH → Prop} (hw : (n16 ).wp X Tryd.prog (retQ A) h) : FWK X Tryd.prog .normal 8 #[] h A := fwk_neat (t16 ) (by simp) (by kernel_rfl) (by kernel_rfl) hX hw
end Go.Proofs.YtldamlcehbdkdaaDoor
end
section
namespace Go.Proofs.YtldamlcehbdkdaaDoor
open Go Go.TM Go.Proofs
attribute [local irreducible] T.wp CV FWK
def exU : UseFile := ⟨3, 2, 10, 5, [⟨21, 23⟩], [⟨⟨12, 14⟩, 0, [0, 1]⟩, ⟨⟨19, 19⟩, 0, [0]⟩, ⟨⟨17, 26⟩, 0, [2]⟩, ⟨⟨18, 18⟩, 1, [0, 1]⟩], [⟨20, 0, [0, 1, 2]⟩, ⟨25, 0, [0, 2]⟩]⟩
theorem c42 {h : LH} (a b : Int) : Pu Tryd.prog 29 #[.int .i64 a, .int .i64 b] h (.agg #[.int .i64 a, .int .i64 b]) := by
  refine w42 _ _ X0_ok ?_
  unfold n42
  exact t_ret ⟨rfl, rfl⟩
theorem c35 {h : LH} {p q : Option Addr} {n c m d : Nat} {a b : List Int} (ha : Sl IntE 1 h.get p n a) (hb : Sl IntE 1 h.get q m b) : Pu Tryd.prog 30 #[.slice p n c, .slice q m d] h (.bool (decide (a = b))) := by
  refine w35 _ _ _ _ _ _ X0_ok ?_
  unfold n35
  have hn := ha.1
  have hm := hb.1
  have hbn := ha.2.1
  have hbm := hb.2.1
  refine t_cond (fun e => ?_) (fun e => ?_)
  · have : a ≠ b := by rintro rfl; simp at e; omega
    exact t_ret ⟨by simp [this], rfl⟩
  have hnm : n = m := by simp at e; omega
  refine t_loop (fun mm vs h' => h = h' ∧ ∃ i : Nat, vs = [.bool false, .int .i64 i] ∧ i ≤ n ∧ mm = n - i ∧ a.take i = b.take i) ⟨rfl, 0, rfl, Nat.zero_le _, rfl, rfl⟩ ?_
  rintro Y mm vs _ hY ⟨rfl, i, rfl, hi, rfl, hc⟩
  refine gZ ?_
  refine t_if (fun e => ?_) (fun e => ?_)
  · obtain ⟨x, a1, hx, ha1, e1⟩ := ha.at (i := i) (by omega)
    obtain ⟨y, a2, hy, ha2, e2⟩ := hb.at (i := i) (by omega)
    unfold IntE at e1 e2
    refine gZ ?_
    refine t_cond (fun b1 => ?_) (fun b1 => ?_)
    · refine gZ ?_
      have : a ≠ b := by rintro rfl; rw [hx] at hy; cases hy; simp at b1
      exact t_ret ⟨by simp [this], rfl⟩
    · have b2 : x = y := by simpa using b1
      refine t_again (hY (n - (i + 1)) _ _ (by omega) ⟨rfl, i + 1, ?_, by omega, rfl, ?_⟩)
      · rw [wrap_id (by omega) (by omega)]; rfl
      · rw [List.take_add_one, List.take_add_one, hc, hx, hy, b2]
  · refine gZ ?_
    rw [List.take_of_length_le (by omega), List.take_of_length_le (by omega)] at hc
    exact t_ret ⟨by simp [hc], rfl⟩
theorem c25 {h : LH} {p q : Option Addr} {n c m d : Nat} {a b : List Int} (ha : Sl IntE 1 h.get p n a) (hb : Sl IntE 1 h.get q m b) : Pu Tryd.prog 31 #[.slice p n c, .slice q m d] h (.bool (decide (a = b))) := by
  refine w25 _ _ _ _ _ _ X0_ok ?_
  unfold n25
  have hn := ha.1
  have hm := hb.1
  have hbn := ha.2.1
  have hbm := hb.2.1
  refine t_cond (fun e => ?_) (fun e => ?_)
  · have : a ≠ b := by rintro rfl; simp at e; omega
    exact t_ret ⟨by simp [this], rfl⟩
  have hnm : n = m := by simp at e; omega
  refine t_loop (fun mm vs h' => h = h' ∧ ∃ i : Nat, vs = [.bool false, .int .i64 i] ∧ i ≤ n ∧ mm = n - i ∧ a.take i = b.take i) ⟨rfl, 0, rfl, Nat.zero_le _, rfl, rfl⟩ ?_
  rintro Y mm vs _ hY ⟨rfl, i, rfl, hi, rfl, hc⟩
  refine gZ ?_
  refine t_if (fun e => ?_) (fun e => ?_)
  · obtain ⟨x, a1, hx, ha1, e1⟩ := ha.at (i := i) (by omega)
    obtain ⟨y, a2, hy, ha2, e2⟩ := hb.at (i := i) (by omega)
    unfold IntE at e1 e2
    refine gZ ?_
    refine t_cond (fun b1 => ?_) (fun b1 => ?_)
    · refine gZ ?_
      have : a ≠ b := by rintro rfl; rw [hx] at hy; cases hy; simp at b1
      exact t_ret ⟨by simp [this], rfl⟩
    · have b2 : x = y := by simpa using b1
      refine t_again (hY (n - (i + 1)) _ _ (by omega) ⟨rfl, i + 1, ?_, by omega, rfl, ?_⟩)
      · rw [wrap_id (by omega) (by omega)]; rfl
      · rw [List.take_add_one, List.take_add_one, hc, hx, hy, b2]
  · refine gZ ?_
    rw [List.take_of_length_le (by omega), List.take_of_length_le (by omega)] at hc
    exact t_ret ⟨by simp [hc], rfl⟩
end Go.Proofs.YtldamlcehbdkdaaDoor
end
section
namespace Go.Proofs.YtldamlcehbdkdaaDoor
open Go Go.TM Go.Proofs
attribute [local irreducible] T.wp CV FWK
theorem t_buildG {X : XP} {Q : Leaf → LH → Prop} {h : LH} {k : Value → T} {t el : TypeId} {n s b : Nat} {parts : Array (Nat × Value)} {z : Value} {cells : Array Value} (hu : Tryd.prog.underlying t = some (.slice el)) (hi : (Tryd.prog.info? el).map (fun i => (i.size, i.bytes, i.zero)) = some (s, b, some z)) (hn : n * s ≤ 2 ^ 24) (hpos : n * s ≠ 0)
    (hf : Instr.fill (fun i => some (i * s, s)) ((Array.range (n * s)).map (z.cells[· % z.cells.size]!)) parts.toList = some cells)
    (hk : ∀ r h', h.le h' → h.get r = none → h'.get r = some (true, .cells cells el (0, 0)) → (k (.slice (some ⟨r, 0, none⟩) n n)).wp X Tryd.prog Q h') : (T.sem false (Instr.buildSlice t n parts) k).wp X Tryd.prog Q h :=
  t_build hu hi hn hpos hf fun r hr => hk r _ (LH.upd_le hr) hr (Cells.upd_self _ _ _)
theorem sl_ints {h : Cells} {r : Nat} {m : Bool} {el : TypeId} {l : List Int} {cs : Array Value} (hcs : cs = (l.map (Value.int .i64)).toArray) (hr : h r = some (m, .cells cs el (0, 0))) (hb : l.length < 4611686018427387904) : Sl IntE 1 h (some ⟨r, 0, none⟩) l.length l := by
  refine ⟨rfl, hb, fun i x hx => ⟨_, rfl, ?_⟩⟩
  unfold IntE
  rw [add_plain, add_plain]
  subst hcs
  simp [Cells.cell?, hr, hx]
theorem cell_row {h : Cells} {r i : Nat} {m : Bool} {cs : Array Value} {el : TypeId} {v : Value} (hr : h r = some (m, .cells cs el (0, 0))) (hv : cs[i]? = some v) : h.cell? ⟨r, i, none⟩ = some v := by
  simp [Cells.cell?, hr, hv]
theorem exRep {h : Cells} {r1 r2 r3 r4 r5 r6 r7 r8 r9 : Nat} (e1 : h r1 = some (true, .cells #[.int .i64 21, .int .i64 23] 32 (0, 0))) (e2 : h r2 = some (true, .cells #[.int .i64 0, .int .i64 1] 3 (0, 0))) (e3 : h r3 = some (true, .cells #[.int .i64 0] 3 (0, 0))) (e4 : h r4 = some (true, .cells #[.int .i64 2] 3 (0, 0))) (e5 : h r5 = some (true, .cells #[.int .i64 0, .int .i64 1] 3 (0, 0)))
    (e6 : h r6 = some (true, .cells #[.int .i64 12, .int .i64 14, .int .i64 0, .slice (some ⟨r2, 0, none⟩) 2 2, .int .i64 19, .int .i64 19, .int .i64 0, .slice (some ⟨r3, 0, none⟩) 1 1, .int .i64 17, .int .i64 26, .int .i64 0, .slice (some ⟨r4, 0, none⟩) 1 1, .int .i64 18, .int .i64 18, .int .i64 1, .slice (some ⟨r5, 0, none⟩) 2 2] 105 (0, 0)))
    (e7 : h r7 = some (true, .cells #[.int .i64 0, .int .i64 1, .int .i64 2] 3 (0, 0))) (e8 : h r8 = some (true, .cells #[.int .i64 0, .int .i64 2] 3 (0, 0))) (e9 : h r9 = some (true, .cells #[.int .i64 20, .int .i64 0, .slice (some ⟨r7, 0, none⟩) 3 3, .int .i64 25, .int .i64 0, .slice (some ⟨r8, 0, none⟩) 2 2] 107 (0, 0))) :
    FileR h ⟨some ⟨r1, 0, none⟩, 1, 1, some ⟨r6, 0, none⟩, 4, 4, some ⟨r9, 0, none⟩, 2, 2⟩ exU := by
  have cr : ∀ {r i j : Nat} {m : Bool} {cs : Array Value} {el : TypeId} {v : Value}, h r = some (m, .cells cs el (0, 0)) → cs[i + j]? = some v → h.cell? (Addr.add (Addr.add ⟨r, 0, none⟩ i) j) = some v := by
    intro r i j m cs el v hr hv
    rw [add_plain, add_plain, Nat.zero_add]; exact cell_row hr hv
  refine ⟨⟨rfl, by show (1 : Nat) < _; omega, ?_⟩, ⟨rfl, by show (4 : Nat) < _; omega, ?_⟩, ⟨rfl, by show (2 : Nat) < _; omega, ?_⟩⟩
  · intro i x hx
    match i, hx with
    | 0, hx => cases hx; exact ⟨_, rfl, cr e1 rfl, cr e1 rfl⟩
    | i + 1, hx => simp [exU] at hx
  · intro i x hx
    match i, hx with
    | 0, hx => cases hx; exact ⟨_, rfl, cr e6 rfl, cr e6 rfl, cr e6 rfl, _, _, _, cr e6 rfl, sl_ints (l := [0, 1]) rfl e2 (by show (2 : Nat) < _; omega)⟩
    | 1, hx => cases hx; exact ⟨_, rfl, cr e6 rfl, cr e6 rfl, cr e6 rfl, _, _, _, cr e6 rfl, sl_ints (l := [0]) rfl e3 (by show (1 : Nat) < _; omega)⟩
    | 2, hx => cases hx; exact ⟨_, rfl, cr e6 rfl, cr e6 rfl, cr e6 rfl, _, _, _, cr e6 rfl, sl_ints (l := [2]) rfl e4 (by show (1 : Nat) < _; omega)⟩
    | 3, hx => cases hx; exact ⟨_, rfl, cr e6 rfl, cr e6 rfl, cr e6 rfl, _, _, _, cr e6 rfl, sl_ints (l := [0, 1]) rfl e5 (by show (2 : Nat) < _; omega)⟩
    | i + 4, hx => simp [exU] at hx
  · intro i x hx
    match i, hx with
    | 0, hx => cases hx; exact ⟨_, rfl, cr e9 rfl, cr e9 rfl, _, _, _, cr e9 rfl, sl_ints (l := [0, 1, 2]) rfl e7 (by show (3 : Nat) < _; omega)⟩
    | 1, hx => cases hx; exact ⟨_, rfl, cr e9 rfl, cr e9 rfl, _, _, _, cr e9 rfl, sl_ints (l := [0, 2]) rfl e8 (by show (2 : Nat) < _; omega)⟩
    | i + 2, hx => simp [exU] at hx
set_option maxRecDepth 100000 in
theorem c52 {h : LH} : Gr Tryd.prog 21 #[] h fun r h' => ∃ f, r = fileV f exU ∧ FileR h'.get f exU := by
  refine w52 X0_ok ?_
  unfold n52
  refine t_pu (c42 _ _) ?_
  refine gZ ?_
  refine t_buildG und22 inf30 (by decide) (by decide) (cells := #[.int .i64 21, .int .i64 23]) (by kernel_rfl) fun r1 h1 le1 _ e1 => ?_
  refine gZ ?_
  refine t_pu (c42 _ _) ?_
  refine gZ ?_
  refine t_buildG und50 inf3 (by decide) (by decide) (cells := #[.int .i64 0, .int .i64 1]) (by kernel_rfl) fun r2 h2 le2 _ e2 => ?_
  refine gZ ?_
  refine t_pu (c42 _ _) ?_
  refine gZ ?_
  refine t_buildG und50 inf3 (by decide) (by decide) (cells := #[.int .i64 0]) (by kernel_rfl) fun r3 h3 le3 _ e3 => ?_
  refine gZ ?_
  refine t_pu (c42 _ _) ?_
  refine gZ ?_
  refine t_buildG und50 inf3 (by decide) (by decide) (cells := #[.int .i64 2]) (by kernel_rfl) fun r4 h4 le4 _ e4 => ?_
  refine gZ ?_
  refine t_pu (c42 _ _) ?_
  refine gZ ?_
  refine t_buildG und50 inf3 (by decide) (by decide) (cells := #[.int .i64 0, .int .i64 1]) (by kernel_rfl) fun r5 h5 le5 _ e5 => ?_
  refine gZ ?_
  refine t_buildG und23 inf69 (by decide) (by decide) (cells := #[.int .i64 12, .int .i64 14, .int .i64 0, .slice (some ⟨r2, 0, none⟩) 2 2, .int .i64 19, .int .i64 19, .int .i64 0, .slice (some ⟨r3, 0, none⟩) 1 1, .int .i64 17, .int .i64 26, .int .i64 0, .slice (some ⟨r4, 0, none⟩) 1 1, .int .i64 18, .int .i64 18, .int .i64 1, .slice (some ⟨r5, 0, none⟩) 2 2]) (by kernel_rfl) fun r6 h6 le6 _ e6 => ?_
  refine gZ ?_
  refine t_buildG und50 inf3 (by decide) (by decide) (cells := #[.int .i64 0, .int .i64 1, .int .i64 2]) (by kernel_rfl) fun r7 h7 le7 _ e7 => ?_
  refine gZ ?_
  refine t_buildG und50 inf3 (by decide) (by decide) (cells := #[.int .i64 0, .int .i64 2]) (by kernel_rfl) fun r8 h8 le8 _ e8 => ?_
  refine gZ ?_
  refine t_buildG und24 inf64 (by decide) (by decide) (cells := #[.int .i64 20, .int .i64 0, .slice (some ⟨r7, 0, none⟩) 3 3, .int .i64 25, .int .i64 0, .slice (some ⟨r8, 0, none⟩) 2 2]) (by kernel_rfl) fun r9 h9 le9 _ e9 => ?_
  refine gZ ?_
  have l89 := le9
  have l79 := LH.le_trans le8 l89
  have l69 := LH.le_trans le7 l79
  have l59 := LH.le_trans le6 l69
  have l49 := LH.le_trans le5 l59
  have l39 := LH.le_trans le4 l49
  have l29 := LH.le_trans le3 l39
  have l19 := LH.le_trans le2 l29
  have e1 := l19.1 _ _ e1
  have e2 := l29.1 _ _ e2
  have e3 := l39.1 _ _ e3
  have e4 := l49.1 _ _ e4
  have e5 := l59.1 _ _ e5
  have e6 := l69.1 _ _ e6
  have e7 := l79.1 _ _ e7
  have e8 := l89.1 _ _ e8
  refine t_ret ⟨LH.le_trans le1 l19, ⟨some ⟨r1, 0, none⟩, 1, 1, some ⟨r6, 0, none⟩, 4, 4, some ⟨r9, 0, none⟩, 2, 2⟩, rfl, ?_⟩
  exact exRep e1 e2 e3 e4 e5 e6 e7 e8 e9
end Go.Proofs.YtldamlcehbdkdaaDoor
end
section
namespace Go.TM
open Go Go.Conc
variable {P : Program} {E : Halt → Cells → Prop} {h : Cells}
theorem lwp_equalIn2 {Q : Bool → Cells → Prop} {t : TypeId} {k : Nat} {a b c d : Int} (ht : twoInts P t = true) (hq : Q (decide (a = c ∧ b = d)) h) : Sem.lwp P (Op.equalIn (k + 1 + 1) t (.agg #[.int .i64 a, .int .i64 b]) (.agg #[.int .i64 c, .int .i64 d])) Q E h := by
  obtain ⟨f, g, hu, n1, n2, i1, i2, o1, o2, hs⟩ := twoInts_spec ht
  rw [Op.equalIn]
  rw [lwp_bind, lwp_underlying hu]
  simp only [lwp_bind, lwp_program, hs, Bool.false_eq_true, if_false, List.forIn_toArray, List.forIn_cons, List.forIn_nil, n1, n2, ne_eq, not_false_eq_true, if_true]
  refine lwp_partI i1 (v := .int .i64 a) (by rw [o1]; rfl) ?_
  refine lwp_partI i1 (v := .int .i64 c) (by rw [o1]; rfl) ?_
  refine lwp_equalI i1 ?_
  by_cases e1 : a = c
  · subst e1
    simp only [beq_self_eq_true, Bool.not_true, Bool.false_eq_true, if_false, lwp_pure, lwp_bind]
    refine lwp_partI i2 (v := .int .i64 b) (by rw [o2]; rfl) ?_
    refine lwp_partI i2 (v := .int .i64 d) (by rw [o2]; rfl) ?_
    refine lwp_equalI i2 ?_
    by_cases e2 : b = d
    · subst e2
      simpa [lwp_pure] using hq
    · have e3 : (b == d) = false := by simpa using e2
      simpa [lwp_pure, e2, e3] using hq
  · have e3 : (a == c) = false := by simpa using e1
    simpa [lwp_pure, e1, e3] using hq
def twoAndTwo (P : Program) (t : TypeId) : Bool := match P.underlying t with
  | some (.struct fs) => (match fs.toList with
    | [a, b, w] => a.name != "_" && b.name != "_" && w.name != "_" && isI64 P a.type && isI64 P b.type && twoInts P w.type && Nat.beq a.offset 0 && Nat.beq b.offset 1 && Nat.beq w.offset 2 && (match P.info? w.type with | some i => Nat.beq i.size 2 | none => false)
    | _ => false) && !P.stoodInHeld t
  | _ => false
theorem twoInts_agg {t : TypeId} (ht : twoInts P t = true) : isAggT P t = true := by
  obtain ⟨f, g, hu, _⟩ := twoInts_spec ht
  unfold isAggT; rw [hu]
theorem lwp_part2 {Q : Value → Cells → Prop} {t : TypeId} {cs : Array Value} {o : Nat} {i : TypeInfo} (ht : twoInts P t = true) (hi : P.info? t = some i) (hs : i.size = 2) (hq : Q (.agg (cs.extract o (o + 2))) h) : Sem.lwp P (part t cs o) Q E h := by
  unfold part
  rw [lwp_bind, lwp_isAgg_true (twoInts_agg ht)]
  simp only [if_true, lwp_bind, lwp_sizeOf hi, hs, lwp_pure]
  exact hq
theorem lwp_equal4 {Q : Bool → Cells → Prop} {t : TypeId} {a b c d a' b' c' d' : Int} (ht : twoAndTwo P t = true) (hq : Q (decide (a = a' ∧ b = b' ∧ c = c' ∧ d = d')) h) : Sem.lwp P (Op.equal t (.agg #[.int .i64 a, .int .i64 b, .int .i64 c, .int .i64 d]) (.agg #[.int .i64 a', .int .i64 b', .int .i64 c', .int .i64 d'])) Q E h := by
  unfold twoAndTwo at ht
  split at ht
  next fs hu =>
    simp only [Bool.and_eq_true, Bool.not_eq_true'] at ht
    obtain ⟨h1, hs⟩ := ht
    split at h1
    next x y w hfs =>
      simp only [Bool.and_eq_true, bne_iff_ne] at h1
      obtain ⟨⟨⟨⟨⟨⟨⟨⟨⟨n1, n2⟩, n3⟩, i1⟩, i2⟩, i3⟩, o1⟩, o2⟩, o3⟩, sz⟩ := h1
      have hfs' : fs = #[x, y, w] := by rw [← hfs]
      subst hfs'
      have o1 := nbeq_true o1
      have o2 := nbeq_true o2
      have o3 := nbeq_true o3
      cases hi : P.info? w.type with
      | none => rw [hi] at sz; cases sz
      | some inf =>
        rw [hi] at sz
        have sz := nbeq_true sz
        unfold Op.equal
        have hmd : Op.maxDepth = 9997 + 1 + 1 + 1 := rfl
        rw [hmd, Op.equalIn]
        rw [lwp_bind, lwp_underlying hu]
        simp only [lwp_bind, lwp_program, hs, Bool.false_eq_true, if_false, List.forIn_toArray, List.forIn_cons, List.forIn_nil, n1, n2, n3, ne_eq, not_false_eq_true, if_true]
        refine lwp_partI i1 (v := .int .i64 a) (by rw [o1]; rfl) ?_
        refine lwp_partI i1 (v := .int .i64 a') (by rw [o1]; rfl) ?_
        refine lwp_equalI i1 ?_
        by_cases e1 : a = a'
        · subst e1
          simp only [beq_self_eq_true, Bool.not_true, Bool.false_eq_true, if_false, lwp_pure, lwp_bind]
          refine lwp_partI i2 (v := .int .i64 b) (by rw [o2]; rfl) ?_
          refine lwp_partI i2 (v := .int .i64 b') (by rw [o2]; rfl) ?_
          refine lwp_equalI i2 ?_
          by_cases e2 : b = b'
          · subst e2
            simp only [beq_self_eq_true, Bool.not_true, Bool.false_eq_true, if_false, lwp_pure, lwp_bind]
            refine lwp_part2 i3 hi sz ?_
            refine lwp_part2 i3 hi sz ?_
            rw [o3]
            refine lwp_equalIn2 (a := c) (b := d) (c := c') (d := d') i3 ?_
            by_cases e3 : c = c' ∧ d = d'
            · simpa [lwp_pure, e3] using hq
            · simpa [lwp_pure, e3] using hq
          · have e3 : (b == b') = false := by simpa using e2
            simpa [lwp_pure, e2, e3] using hq
        · have e3 : (a == a') = false := by simpa using e1
          simpa [lwp_pure, e1, e3] using hq
    next => cases h1
  next => cases ht
variable {X : XP} {Q : Leaf → LH → Prop}
theorem t_ne4 {h : LH} {K : Value → T} {t : TypeId} {x y : Operand} {a b c d a' b' c' d' : Int} (ht : twoAndTwo P t = true) (hg : P.eqGuardType P.depth t = false) (hk : (K (.bool (!decide (a = a' ∧ b = b' ∧ c = c' ∧ d = d')))).wp X P Q h) :
    (T.sem false (Sem.bind (eqGuard .neq t x y (.agg #[.int .i64 a, .int .i64 b, .int .i64 c, .int .i64 d]) (.agg #[.int .i64 a', .int .i64 b', .int .i64 c', .int .i64 d'])) fun _ => binOp .neq t (.agg #[.int .i64 a, .int .i64 b, .int .i64 c, .int .i64 d]) (.agg #[.int .i64 a', .int .i64 b', .int .i64 c', .int .i64 d'])) K).wp X P Q h := by
  refine t_sem (A := fun w h' => w = .bool (!decide (a = a' ∧ b = b' ∧ c = c' ∧ d = d')) ∧ h' = h.get) (Sem.lwp_bind _ _ ?_) (by rintro w h' ⟨rfl, rfl⟩; exact hk)
  unfold eqGuard
  simp only [Bool.not_true, Bool.false_eq_true, if_false, lwp_bind, lwp_program, hg, Bool.not_false, if_true, lwp_pure]
  unfold binOp
  rw [lwp_bind]
  exact lwp_equal4 ht ⟨rfl, rfl⟩
end Go.TM
end
section
namespace Go.Proofs.YtldamlcehbdkdaaDoor
open Go Go.TM Go.Proofs
attribute [local irreducible] T.wp CV FWK
theorem two79 : twoAndTwo Tryd.prog 79 = true := by kernel_rfl
theorem g79 : Tryd.prog.eqGuardType Tryd.prog.depth 79 = false := by kernel_rfl
theorem c30 {h : LH} {p q : Option Addr} {n c m d : Nat} {a b : List Lack} (ha : Sl LackE 4 h.get p n a) (hb : Sl LackE 4 h.get q m b) : Pu Tryd.prog 32 #[.slice p n c, .slice q m d] h (.bool (decide (a = b))) := by
  refine w30 _ _ _ _ _ _ X0_ok ?_
  unfold n30
  have hn := ha.1
  have hm := hb.1
  have hbn := ha.2.1
  have hbm := hb.2.1
  refine t_cond (fun e => ?_) (fun e => ?_)
  · have : a ≠ b := by rintro rfl; simp at e; omega
    exact t_ret ⟨by simp [this], rfl⟩
  have hnm : n = m := by simp at e; omega
  refine t_loop (fun mm vs h' => h = h' ∧ ∃ i : Nat, vs = [.bool false, .int .i64 i] ∧ i ≤ n ∧ mm = n - i ∧ a.take i = b.take i) ⟨rfl, 0, rfl, Nat.zero_le _, rfl, rfl⟩ ?_
  rintro Y mm vs _ hY ⟨rfl, i, rfl, hi, rfl, hc⟩
  refine gZ ?_
  refine t_if (fun e => ?_) (fun e => ?_)
  · obtain ⟨x, a1, hx, ha1, e1, e2, e3, e4⟩ := ha.at (i := i) (by omega)
    obtain ⟨y, a2, hy, ha2, f1, f2, f3, f4⟩ := hb.at (i := i) (by omega)
    refine gZ ?_
    refine t_ne4 two79 g79 ?_
    refine gZ ?_
    refine t_cond (fun b1 => ?_) (fun b1 => ?_)
    · refine gZ ?_
      have : a ≠ b := by rintro rfl; rw [hx] at hy; cases hy; simp at b1
      exact t_ret ⟨by simp [this], rfl⟩
    · have b2 : x = y := by
        obtain ⟨x1, x2, x3, x4⟩ := x
        obtain ⟨y1, y2, y3, y4⟩ := y
        simp at b1
        obtain ⟨rfl, rfl, rfl, rfl⟩ := b1
        rfl
      refine t_again (hY (n - (i + 1)) _ _ (by omega) ⟨rfl, i + 1, ?_, by omega, rfl, ?_⟩)
      · rw [wrap_id (by omega) (by omega)]; rfl
      · rw [List.take_add_one, List.take_add_one, hc, hx, hy, b2]
  · refine gZ ?_
    rw [List.take_of_length_le (by omega), List.take_of_length_le (by omega)] at hc
    exact t_ret ⟨by simp [hc], rfl⟩
theorem c15 {h : LH} {f : FileC} {u : UseFile} (hu : FileR h.get f u) : FW X0 Tryd.prog 17 #[fileV f u] h fun r h' => h = h' ∧ ∃ b : Bool, r = .bool b ∧ (b = false → u.excuses.length ≤ 20 ∧ u.papers.length ≤ 20 ∧ u.requests.length ≤ 20) := by
  refine w15 _ _ _ _ _ _ _ _ _ _ _ _ _ X0_ok ?_
  unfold n15
  have x0 := hu.excuses.1
  have p0 := hu.papers.1
  have r0 := hu.requests.1
  have pb := hu.papers.2.1
  have rb := hu.requests.2.1
  refine t_blk (fun vs h' => vs = [.bool false] ∧ h = h' ∧ u.excuses.length ≤ 20 ∧ u.papers.length ≤ 20 ∧ u.requests.length ≤ 20) ?_ ?_
  · refine t_if (fun e1 => ?_) (fun e1 => ?_)
    · refine gZ ?_
      exact t_ret ⟨rfl, true, rfl, fun e => by cases e⟩
    refine t_if (fun e2 => ?_) (fun e2 => ?_)
    · refine gZ ?_
      exact t_ret ⟨rfl, true, rfl, fun e => by cases e⟩
    refine t_if (fun e3 => ?_) (fun e3 => ?_)
    · refine gZ ?_
      exact t_ret ⟨rfl, true, rfl, fun e => by cases e⟩
    exact t_again ⟨rfl, rfl, by omega, by omega, by omega⟩
  rintro vs _ ⟨rfl, rfl, h1, h2, h3⟩
  refine gZ ?_
  refine t_loop (fun mm vs h' => h = h' ∧ ∃ i : Nat, vs = [.bool false, .int .i64 i] ∧ i ≤ f.n5 ∧ mm = f.n5 - i) ⟨rfl, 0, rfl, Nat.zero_le _, rfl⟩ ?_
  rintro Y mm vs _ hY ⟨rfl, i, rfl, hi, rfl⟩
  refine gZ ?_
  refine t_if (fun e => ?_) (fun e => ?_)
  · obtain ⟨x, a1, hx, ha1, e1, e2, e3, q, m, c, e4, e5⟩ := hu.papers.at (i := i) (by omega)
    refine gZ ?_
    refine t_if (fun e6 => ?_) (fun e6 => ?_)
    · refine gZ ?_
      exact t_ret ⟨rfl, true, rfl, fun e => by cases e⟩
    · refine t_again (hY (f.n5 - (i + 1)) _ _ (by omega) ⟨rfl, i + 1, ?_, by omega, rfl⟩)
      rw [wrap_id (by omega) (by omega)]; rfl
  · refine gZ ?_
    refine t_loop (fun mm vs h' => h = h' ∧ ∃ i : Nat, vs = [.bool false, .int .i64 i] ∧ i ≤ f.n6 ∧ mm = f.n6 - i) ⟨rfl, 0, rfl, Nat.zero_le _, rfl⟩ ?_
    rintro Y2 mm vs _ hY2 ⟨rfl, i, rfl, hi, rfl⟩
    refine gZ ?_
    refine t_if (fun e => ?_) (fun e => ?_)
    · obtain ⟨x, a1, hx, ha1, e1, e2, q, m, c, e4, e5⟩ := hu.requests.at (i := i) (by omega)
      refine gZ ?_
      refine t_if (fun e6 => ?_) (fun e6 => ?_)
      · refine gZ ?_
        exact t_ret ⟨rfl, true, rfl, fun e => by cases e⟩
      · refine t_again (hY2 (f.n6 - (i + 1)) _ _ (by omega) ⟨rfl, i + 1, ?_, by omega, rfl⟩)
        rw [wrap_id (by omega) (by omega)]; rfl
    · refine gZ ?_
      exact t_ret ⟨rfl, false, rfl, fun _ => ⟨h1, h2, h3⟩⟩
end Go.Proofs.YtldamlcehbdkdaaDoor
end
section
namespace Go.TM
open Go
def cum (c : Int → Bool) : Nat → Int
  | 0 => 0
  | n + 1 => cum c n + (if c ((n + 1 : Nat) : Int) then 1 else 0)
theorem firstDay_spec (c : Int → Bool) (idle : Int) : ∀ (d : Nat) (n : Int), n < idle → ∃ w : Nat, firstDay c idle d n = w ∧ w ≤ d ∧ n + cum c d - cum c w < idle ∧ (1 ≤ w → n + cum c d - cum c (w - 1) ≥ idle) := by
  intro d
  induction d with
  | zero => intro n hn; exact ⟨0, rfl, Nat.le_refl _, by omega, fun h => by omega⟩
  | succ d ih =>
    intro n hn
    have hc : (if c ((d + 1 : Nat) : Int) then n + 1 else n) + cum c d = n + cum c (d + 1) := by
      rw [cum]; split <;> omega
    rw [firstDay]
    by_cases e : (if c ((d + 1 : Nat) : Int) then n + 1 else n) ≥ idle
    · rw [if_pos e]
      refine ⟨d + 1, rfl, Nat.le_refl _, by omega, fun _ => ?_⟩
      rw [Nat.add_sub_cancel]; omega
    · rw [if_neg e]
      obtain ⟨w, h1, h2, h3, h4⟩ := ih _ (by omega : (if c ((d + 1 : Nat) : Int) then n + 1 else n) < idle)
      exact ⟨w, h1, by omega, by omega, fun h => by have := h4 h; omega⟩
def cnt (u : UseFile) (a d : Int) : Int := cum (counts u) d.toNat - cum (counts u) a.toNat
theorem window_bound {u : UseFile} (hi : 1 ≤ u.idle) {day : Int} (hd : 0 ≤ day) : 0 ≤ (window u day).first ∧ (window u day).first ≤ day ∧ (window u day).last = day ∧ cnt u (window u day).first day < u.idle ∧ (1 ≤ (window u day).first → cnt u ((window u day).first - 1) day ≥ u.idle) := by
  obtain ⟨w, h1, h2, h3, h4⟩ := firstDay_spec (counts u) u.idle day.toNat 0 (by omega)
  unfold window cnt
  simp only [h1]
  refine ⟨by omega, by omega, trivial, ?_, fun h => ?_⟩
  · rw [show ((w : Nat) : Int).toNat = w by omega]; omega
  · have := h4 (by omega)
    rw [show (((w : Nat) : Int) - 1).toNat = w - 1 by omega]; omega
end Go.TM
end
section
namespace Go.TM
open Go
theorem safeGo_one {w : Span} : ∀ {l : List Paper} {out : Int}, out ≠ 1 → (safeGo w l out = 1 ↔ ∃ p ∈ l, insideB w p.days = true) := by
  intro l
  induction l with
  | nil => intro out h; simp [safeGo, h]
  | cons p l ih =>
    intro out h
    rw [safeGo]
    by_cases e : insideB w p.days = true
    · rw [if_pos e]; simp [e]
    · rw [if_neg e, ih (by split <;> omega)]
      simp [e]
theorem safeGo_two {w : Span} : ∀ {l : List Paper} {out : Int}, (safeGo w l out = 2 → out = 2 ∧ ∀ p ∈ l, meetsB w p.days = false ∧ insideB w p.days = false) := by
  intro l
  induction l with
  | nil => intro out h; exact ⟨h, fun p hp => by simp at hp⟩
  | cons p l ih =>
    intro out h
    rw [safeGo] at h
    by_cases e : insideB w p.days = true
    · rw [if_pos e] at h; omega
    · rw [if_neg e] at h
      obtain ⟨h1, h2⟩ := ih h
      by_cases e2 : meetsB w p.days = true
      · rw [if_pos e2] at h1; omega
      · rw [if_neg e2] at h1
        refine ⟨h1, fun q hq => ?_⟩
        rcases List.mem_cons.1 hq with rfl | hq
        · exact ⟨by simpa using e2, by simpa using e⟩
        · exact h2 q hq
theorem safeGo_two' {w : Span} : ∀ {l : List Paper}, (∀ p ∈ l, meetsB w p.days = false ∧ insideB w p.days = false) → safeGo w l 2 = 2 := by
  intro l
  induction l with
  | nil => intro _; rfl
  | cons p l ih =>
    intro h
    have := h p (by simp)
    rw [safeGo, if_neg (by rw [this.2]; simp), if_neg (by rw [this.1]; simp)]
    exact ih fun q hq => h q (by simp [hq])
theorem safeGo_vals {w : Span} : ∀ {l : List Paper} {out : Int}, (out = 0 ∨ out = 1 ∨ out = 2) → (safeGo w l out = 0 ∨ safeGo w l out = 1 ∨ safeGo w l out = 2) := by
  intro l
  induction l with
  | nil => intro out h; exact h
  | cons p l ih =>
    intro out h
    rw [safeGo]
    split
    · omega
    · apply ih; split <;> omega
theorem safe_vals (u : UseFile) (k i d : Int) : safe u k i d = 0 ∨ safe u k i d = 1 ∨ safe u k i d = 2 := by
  unfold safe
  split
  · omega
  · exact safeGo_vals (.inr (.inr rfl))
def InW (u : UseFile) (day d : Int) : Prop := (window u day).first ≤ d ∧ d ≤ day
theorem inside_def (w x : Span) : insideB w x = true ↔ w.first ≤ x.first ∧ x.last ≤ w.last := by
  unfold insideB mx mn
  rw [decide_eq_true_eq]
  constructor
  · rintro ⟨h1, h2⟩; split at h1 <;> split at h2 <;> omega
  · rintro ⟨h1, h2⟩; constructor
    · split <;> omega
    · split <;> omega
theorem meets_def {w x : Span} (hw : w.first ≤ w.last) (hx : x.first ≤ x.last) : meetsB w x = true ↔ x.first ≤ w.last ∧ w.first ≤ x.last := by
  unfold meetsB mx mn
  rw [decide_eq_true_eq]
  split <;> split <;> omega
def Choice : List Paper → List Int → Prop
  | [], [] => True
  | p :: ps, d :: ds => (p.days.first ≤ d ∧ d ≤ p.days.last) ∧ Choice ps ds
  | _, _ => False
theorem meetsGo_bit (u : UseFile) (day : Int) : ∀ (l : List Request) (k acc j : Nat), (meetsGo u day l k acc).testBit j = (acc.testBit j || (decide (k ≤ j) && (l[j - k]?).any fun r => isIn day (window u r.day).first r.day)) := by
  intro l
  induction l with
  | nil => intro k acc j; simp [meetsGo]
  | cons r l ih =>
    intro k acc j
    rw [meetsGo, ih]
    by_cases e : j = k
    · subst e
      simp only [Nat.sub_self, List.getElem?_cons_zero, Option.any_some, Nat.le_refl, decide_true, Bool.true_and]
      rw [show decide (j + 1 ≤ j) = false by simp]
      split <;> rename_i hh <;> simp [hh, Nat.testBit_or, Nat.testBit_two_pow_self]
    · have hacc : (if isIn day (window u r.day).first r.day then acc ||| 2 ^ k else acc).testBit j = acc.testBit j := by
        split
        · rw [Nat.testBit_or, Nat.testBit_two_pow]; simp [Ne.symm e]
        · rfl
      rw [hacc]
      by_cases e2 : k ≤ j
      · have h1 : k + 1 ≤ j := by omega
        rw [show j - k = (j - (k + 1)) + 1 by omega, List.getElem?_cons_succ]
        simp [e2, h1]
      · have h1 : ¬ k + 1 ≤ j := by omega
        simp [e2, h1]
theorem meets_bit (u : UseFile) (l : List Request) (day : Int) (j : Nat) : (meets u l day).testBit j = (l[j]?).any fun r => isIn day (window u r.day).first r.day := by
  unfold meets
  rw [meetsGo_bit]; simp
def orAll (u : UseFile) (L : List Request) : List Int → Nat → Nat
  | [], s => s
  | d :: ds, s => orAll u L ds (s ||| meets u L d)
theorem orAll_bit {u : UseFile} {L : List Request} (j : Nat) : ∀ {ds : List Int} {s : Nat}, (orAll u L ds s).testBit j = (s.testBit j || ds.any fun d => (meets u L d).testBit j) := by
  intro ds
  induction ds with
  | nil => intro s; simp [orAll]
  | cons d ds ih => intro s; rw [orAll, ih, Nat.testBit_or, List.any_cons, Bool.or_assoc]
theorem daysOf_mem {x : Span} {d : Int} : d ∈ daysOf x ↔ x.first ≤ d ∧ d ≤ x.last := by
  unfold daysOf
  rw [List.mem_map]
  constructor
  · rintro ⟨i, h1, rfl⟩
    rw [List.mem_range] at h1; omega
  · rintro ⟨h1, h2⟩
    exact ⟨(d - x.first).toNat, by rw [List.mem_range]; omega, by omega⟩
theorem mem_step {ms R : List Nat} {s : Nat} : s ∈ stepL ms R ↔ ∃ a ∈ R, ∃ b ∈ ms, s = a ||| b := by
  unfold stepL
  simp only [List.mem_flatMap, List.mem_map]
  constructor
  · rintro ⟨a, h1, b, h2, h3⟩; exact ⟨a, h1, b, h2, h3.symm⟩
  · rintro ⟨a, h1, b, h2, h3⟩; exact ⟨a, h1, b, h2, h3.symm⟩
theorem reach_iff {u : UseFile} {L : List Request} : ∀ {ps : List Paper} {R : List Nat} {s : Nat}, s ∈ reachL u L ps R ↔ ∃ a ∈ R, ∃ ds, Choice ps ds ∧ s = orAll u L ds a := by
  intro ps
  induction ps with
  | nil =>
    intro R s
    rw [reachL]
    constructor
    · intro h; exact ⟨s, h, [], trivial, rfl⟩
    · rintro ⟨a, h, ds, hc, rfl⟩
      cases ds with
      | nil => exact h
      | cons d ds => exact hc.elim
  | cons p ps ih =>
    intro R s
    rw [reachL, ih]
    constructor
    · rintro ⟨a, h, ds, hc, rfl⟩
      obtain ⟨b, hb, m, hm, rfl⟩ := mem_step.1 h
      obtain ⟨d, hd, rfl⟩ := List.mem_map.1 hm
      exact ⟨b, hb, d :: ds, ⟨daysOf_mem.1 hd, hc⟩, rfl⟩
    · rintro ⟨a, h, ds, hc, rfl⟩
      cases ds with
      | nil => exact hc.elim
      | cons d ds =>
        obtain ⟨h1, h2⟩ := hc
        exact ⟨_, mem_step.2 ⟨a, h, _, List.mem_map.2 ⟨d, daysOf_mem.2 h1, rfl⟩, rfl⟩, ds, h2, rfl⟩
theorem orAll_lt {u : UseFile} {L : List Request} {ds : List Int} {s : Nat} (j : Nat) (hs : s.testBit j = false) (hj : L.length ≤ j) : (orAll u L ds s).testBit j = false := by
  rw [orAll_bit, hs, Bool.false_or, List.any_eq_false]
  intro d _
  rw [meets_bit, List.getElem?_eq_none hj]; simp
theorem can_iff {u : UseFile} {land item : Int} {L : List Request} : can u land item L = true ↔ ∃ ds, Choice (shown u land item) ds ∧ ∀ r ∈ L, InW u r.day u.from_ ∨ ∃ d ∈ ds, InW u r.day d := by
  have key : ∀ ds, orAll u L ds (meets u L u.from_) = 2 ^ L.length - 1 ↔ ∀ r ∈ L, InW u r.day u.from_ ∨ ∃ d ∈ ds, InW u r.day d := by
    intro ds
    constructor
    · intro h r hr
      obtain ⟨j, hj⟩ := List.mem_iff_getElem?.1 hr
      have hjl := (List.getElem?_eq_some_iff.1 hj).1
      have hb : (orAll u L ds (meets u L u.from_)).testBit j = true := by rw [h, Nat.testBit_two_pow_sub_one]; simp [hjl]
      rw [orAll_bit, Bool.or_eq_true, meets_bit, hj, List.any_eq_true] at hb
      rcases hb with hb | ⟨d, hd, hb⟩
      · simp [isIn] at hb; exact .inl hb
      · rw [meets_bit, hj] at hb
        simp [isIn] at hb
        exact .inr ⟨d, hd, hb⟩
    · intro h
      apply Nat.eq_of_testBit_eq
      intro j
      rw [Nat.testBit_two_pow_sub_one]
      by_cases hj : j < L.length
      · have hr : L[j]? = some L[j] := List.getElem?_eq_getElem hj
        rw [orAll_bit, meets_bit, hr]
        simp only [Option.any_some, hj, decide_true]
        rcases h L[j] (List.getElem_mem _) with ⟨h1, h2⟩ | ⟨d, hd, h1, h2⟩
        · rw [show isIn u.from_ (window u L[j].day).first L[j].day = true by simp [isIn]; exact ⟨h1, h2⟩]; rfl
        · rw [Bool.or_eq_true]; right
          rw [List.any_eq_true]
          refine ⟨d, hd, ?_⟩
          rw [meets_bit, hr]
          simp [isIn]; exact ⟨h1, h2⟩
      · rw [orAll_lt j (by rw [meets_bit, List.getElem?_eq_none (by omega)]; rfl) (by omega)]
        simp [hj]
  unfold can
  rw [List.contains_iff_mem, reach_iff]
  constructor
  · rintro ⟨a, ha, ds, hc, hs⟩
    rw [List.mem_singleton] at ha
    subst ha
    exact ⟨ds, hc, (key ds).1 hs.symm⟩
  · rintro ⟨ds, hc, h⟩
    exact ⟨_, List.mem_singleton.2 rfl, ds, hc, ((key ds).2 h).symm⟩
end Go.TM
end
section
namespace Go.TM
open Go
theorem left_vals (u : UseFile) (k i d : Int) : left u k i d = 0 ∨ left u k i d = 1 ∨ left u k i d = 2 := by
  unfold left
  split
  · omega
  · split <;> omega
end Go.TM
end
section
namespace Go.TM
open Go
def rk (s : Int) : Int := if s = 2 then 0 else if s = 1 then 2 else 1
theorem rk_vals (s : Int) : 0 ≤ rk s ∧ rk s ≤ 2 := by unfold rk; split <;> (try split) <;> omega
theorem safe_one_iff {u : UseFile} {k i d : Int} (hd : 0 ≤ d) (hi : 1 ≤ u.idle) : safe u k i d = 1 ↔ InW u d u.from_ ∨ ∃ p ∈ shown u k i, (window u d).first ≤ p.days.first ∧ p.days.last ≤ d := by
  unfold safe
  by_cases e : isIn u.from_ (window u d).first d = true
  · rw [if_pos e]
    simp only [true_iff]
    exact .inl (by simpa [isIn, InW] using e)
  · rw [if_neg e, safeGo_one (by omega)]
    have h1 : ¬ InW u d u.from_ := fun h => e (by simp [isIn]; exact h)
    constructor
    · rintro ⟨p, hp, hin⟩; exact .inr ⟨p, hp, (inside_def _ _).1 hin⟩
    · rintro (h | ⟨p, hp, hin⟩)
      · exact absurd h h1
      · exact ⟨p, hp, (inside_def _ _).2 hin⟩
theorem safe_two_iff {u : UseFile} {k i d : Int} (hd : 0 ≤ d) (hi : 1 ≤ u.idle) (hv : ∀ p ∈ shown u k i, p.days.first ≤ p.days.last) : safe u k i d = 2 ↔ ¬ InW u d u.from_ ∧ ∀ p ∈ shown u k i, ¬ (p.days.first ≤ d ∧ (window u d).first ≤ p.days.last) := by
  have hwb := window_bound hi (u := u) hd
  have hwl : (window u d).last = d := rfl
  unfold safe
  by_cases e : isIn u.from_ (window u d).first d = true
  · rw [if_pos e]
    have : InW u d u.from_ := by simpa [isIn, InW] using e
    constructor
    · intro h; omega
    · intro h; exact absurd this h.1
  · rw [if_neg e]
    have h1 : ¬ InW u d u.from_ := fun h => e (by simp [isIn]; exact h)
    constructor
    · intro h
      obtain ⟨_, h2⟩ := safeGo_two h
      refine ⟨h1, fun p hp hm => ?_⟩
      have := (h2 p hp).1
      rw [(meets_def (by omega) (hv p hp)).2 ⟨by omega, hm.2⟩] at this; cases this
    · rintro ⟨_, h2⟩
      refine safeGo_two' fun p hp => ?_
      have hno := h2 p hp
      have hvp := hv p hp
      constructor
      · cases hm : meetsB (window u d) p.days with
        | false => rfl
        | true => exact absurd ((meets_def (by omega) hvp).1 hm) (by omega)
      · cases hm : insideB (window u d) p.days with
        | false => rfl
        | true => have := (inside_def _ _).1 hm; exact absurd ⟨by omega, by omega⟩ hno
def Valid (u : UseFile) : Prop := 1 ≤ u.idle ∧ (∀ p ∈ u.papers, p.days.first ≤ p.days.last) ∧ ∀ r ∈ u.requests, 0 ≤ r.day ∧ r.day ≤ 2000
theorem Valid.of {u : UseFile} (h : checkF u = 0) : Valid u := ⟨(num_ok (check_num h)).2.2.2.1, fun p hp => ((check_papers h).2 p hp).2.1, (check_requests h).2⟩
theorem Valid.sh {u : UseFile} (v : Valid u) {k i : Int} : ∀ p ∈ shown u k i, p.days.first ≤ p.days.last := fun p hp => v.2.1 p (List.mem_filter.1 hp).1
structure More (u o : UseFile) (k i : Int) : Prop where
  frm : o.from_ = u.from_
  win : ∀ d, 0 ≤ d → (window o d).first ≤ (window u d).first
  sub : ∀ p ∈ shown u k i, p ∈ shown o k i
  ch : ∀ ds, Choice (shown u k i) ds → ∃ ds', Choice (shown o k i) ds' ∧ ∀ d ∈ ds, d ∈ ds'
theorem More.inW {u o : UseFile} {k i : Int} (m : More u o k i) {d x : Int} (hd : 0 ≤ d) (h : InW u d x) : InW o d x := by
  have := m.win d hd
  unfold InW at *; omega
theorem More.safe {u o : UseFile} {k i : Int} (m : More u o k i) (vu : Valid u) (vo : Valid o) {d : Int} (hd : 0 ≤ d) : rk (safe u k i d) ≤ rk (safe o k i d) := by
  have ho := safe_vals o k i d
  have key1 : TM.safe u k i d = 1 → TM.safe o k i d = 1 := by
    rw [safe_one_iff hd vu.1, safe_one_iff hd vo.1]
    rintro (h | ⟨p, hp, h1, h2⟩)
    · exact .inl (by rw [m.frm]; exact m.inW hd h)
    · have := m.win d hd
      exact .inr ⟨p, m.sub p hp, by omega, h2⟩
  have key2 : TM.safe o k i d = 2 → TM.safe u k i d = 2 := by
    rw [safe_two_iff hd vu.1 vu.sh, safe_two_iff hd vo.1 vo.sh]
    rintro ⟨h1, h2⟩
    refine ⟨fun h => h1 (by rw [m.frm]; exact m.inW hd h), fun p hp hm => h2 p (m.sub p hp) ?_⟩
    have := m.win d hd
    omega
  rcases safe_vals u k i d with e | e | e
  · rcases ho with e' | e' | e'
    · rw [e, e']; exact Int.le_refl _
    · rw [e, e']; decide
    · rw [key2 e'] at e; omega
  · rw [e, key1 e]; exact Int.le_refl _
  · rw [e]; have := rk_vals (TM.safe o k i d); simp [rk]; exact this.1
theorem left_one_iff {u : UseFile} {k i d : Int} : left u k i d = 1 ↔ ∀ r ∈ against u k i d, safe u k i r.day = 1 := by
  unfold left
  by_cases e : ((against u k i d).all fun r => decide (safe u k i r.day = 1)) = true
  · rw [if_pos e]
    simp only [true_iff]
    intro r hr; simpa using List.all_eq_true.1 e r hr
  · rw [if_neg e]
    constructor
    · intro h; split at h <;> omega
    · intro h
      exact absurd (List.all_eq_true.2 fun r hr => by simpa using h r hr) e
theorem left_two_iff {u : UseFile} {k i d : Int} : left u k i d = 2 ↔ left u k i d ≠ 1 ∧ can u k i (against u k i d) = false := by
  unfold left
  by_cases e : ((against u k i d).all fun r => decide (safe u k i r.day = 1)) = true
  · rw [if_pos e]; simp
  · rw [if_neg e]
    cases hc : can u k i (against u k i d) <;> simp
theorem rk_le {a b : Int} (ha : a = 0 ∨ a = 1 ∨ a = 2) (hb : b = 0 ∨ b = 1 ∨ b = 2) (h1 : a = 1 → b = 1) (h2 : b = 2 → a = 2) : rk a ≤ rk b := by
  unfold rk
  rcases ha with rfl | rfl | rfl <;> rcases hb with rfl | rfl | rfl <;> simp at h1 h2 ⊢
theorem can_of_safe {u : UseFile} (vu : Valid u) {k i : Int} {L : List Request} (hL : ∀ r ∈ L, 0 ≤ r.day) (h : ∀ r ∈ L, safe u k i r.day = 1) : can u k i L = true := by
  rw [can_iff]
  have hch : ∀ ps : List Paper, (∀ p ∈ ps, p.days.first ≤ p.days.last) → Choice ps (ps.map fun p => p.days.first) := by
    intro ps
    induction ps with
    | nil => intro _; trivial
    | cons p ps ih => intro h; exact ⟨⟨Int.le_refl _, h p (by simp)⟩, ih fun q hq => h q (by simp [hq])⟩
  refine ⟨_, hch _ vu.sh, fun r hr => ?_⟩
  rcases (safe_one_iff (hL r hr) vu.1).1 (h r hr) with h1 | ⟨p, hp, h1, h2⟩
  · exact .inl h1
  · have := vu.sh p hp
    exact .inr ⟨_, List.mem_map.2 ⟨p, hp, rfl⟩, h1, by omega⟩
theorem More.left {u o : UseFile} {k i : Int} (m : More u o k i) (vu : Valid u) (vo : Valid o) (hr : o.requests = u.requests) (d : Int) : rk (left u k i d) ≤ rk (left o k i d) := by
  have hag : against o k i d = against u k i d := by unfold against; rw [hr]
  have hmem : ∀ r ∈ against u k i d, 0 ≤ r.day ∧ r.day ≤ 2000 := fun r h => vu.2.2 r (List.mem_filter.1 h).1
  refine rk_le (left_vals _ _ _ _) (left_vals _ _ _ _) ?_ ?_
  · rw [left_one_iff, left_one_iff, hag]
    intro h r hr'
    have := m.safe vu vo (hmem r hr').1
    rw [h r hr'] at this
    rcases safe_vals o k i r.day with e | e | e
    · rw [e] at this; exact absurd this (by decide)
    · exact e
    · rw [e] at this; exact absurd this (by decide)
  · intro h
    obtain ⟨h1, h2⟩ := left_two_iff.1 h
    rw [hag] at h2
    have hnc : can u k i (against u k i d) = false := by
      cases hc : can u k i (against u k i d) with
      | false => rfl
      | true =>
        obtain ⟨ds, c1, c2⟩ := can_iff.1 hc
        obtain ⟨ds', c3, c4⟩ := m.ch ds c1
        rw [can_iff.2 ⟨ds', c3, fun r hr' => ?_⟩] at h2
        · cases h2
        rcases c2 r hr' with hh | ⟨x, hx, hh⟩
        · exact .inl (by rw [m.frm]; exact m.inW (hmem r hr').1 hh)
        · exact .inr ⟨x, c4 x hx, m.inW (hmem r hr').1 hh⟩
    refine left_two_iff.2 ⟨fun h3 => ?_, hnc⟩
    rw [can_of_safe vu (fun r hr' => (hmem r hr').1) (left_one_iff.1 h3)] at hnc; cases hnc
end Go.TM
end
section
namespace Go.TM
open Go
theorem eachF_of {α : Type} {most : Int} {f : Nat → α → Int} {l : List α} (h1 : (l.length : Int) ≤ most) (h2 : ∀ (j : Nat) x, l[j]? = some x → f j x = 0) : eachF most f l = 0 := by
  unfold eachF
  rw [if_neg (by omega)]
  have key : ∀ (l : List α) (i : Nat), (∀ (j : Nat) x, l[j]? = some x → f (i + j) x = 0) → firstF f i l = 0 := by
    intro l
    induction l with
    | nil => intro i _; rfl
    | cons y l ih =>
      intro i h
      rw [firstF, if_neg (by have := h 0 y rfl; simp at this; simp [this])]
      refine ih (i + 1) fun j x hx => ?_
      have := h (j + 1) x (by simpa using hx)
      rw [show i + 1 + j = i + (j + 1) by omega]; exact this
  exact key l 0 fun j x hx => by rw [Nat.zero_add]; exact h2 j x hx
theorem check_withP {u : UseFile} (h : checkF u = 0) {ps : List Paper} (h1 : ps.length ≤ 8) (h2 : ∀ p ∈ ps, paperF u p = 0) : checkF { u with papers := ps } = 0 := by
  obtain ⟨a, b, _, d⟩ := check_parts h
  have hp : papersF { u with papers := ps } = 0 := by
    unfold papersF
    exact eachF_of (by show ((ps.length : Nat) : Int) ≤ 8; omega) fun j x hx => h2 x (List.mem_of_getElem? hx)
  have ha : numbersF { u with papers := ps } = 0 := a
  have hb : excusesF { u with papers := ps } = 0 := b
  have hd : requestsF { u with papers := ps } = 0 := d
  unfold checkF
  rw [ha, hb, hp, hd]
  rfl
theorem check_paper {u : UseFile} (h : checkF u = 0) : ∀ p ∈ u.papers, paperF u p = 0 := by
  obtain ⟨_, h2⟩ := eachF_zero (check_parts h).2.2.1
  intro p hp
  obtain ⟨j, hj⟩ := List.mem_iff_getElem?.1 hp
  exact h2 j p hj
end Go.TM
end
section
namespace Go.Proofs.YtldamlcehbdkdaaDoor
open Go Go.TM Go.Proofs
attribute [local irreducible] T.wp CV FWK
theorem c46 {h : LH} {f : FileC} {u : UseFile} (hu : FileR h.get f u) {pp : Option Addr} {pn pc : Nat} {pl : List Int} (hpl : Sl IntE 1 h.get pp pn pl) (hin : ∀ v ∈ pl, 0 ≤ v ∧ v < (u.papers.length : Int)) (hpl8 : pl.length ≤ 8) :
    Gr Tryd.prog 43 #[fileV f u, .slice pp pn pc] h fun r h' => ∃ f', r = fileV f' (withP u pl) ∧ FileR h'.get f' (withP u pl) := by
  refine w46 _ _ _ _ _ _ _ _ _ _ _ _ _ _ _ _ X0_ok ?_
  unfold n46
  have hn := hpl.1
  have hn5 := hu.papers.1
  refine t_loop (fun mm vs h' => h.le h' ∧ ∃ (i : Nat) (p : Option Addr) (n c : Nat), vs = [.int .i64 i, .int .i64 u.items, .int .i64 u.lands, .int .i64 u.from_, .int .i64 u.idle, .slice f.p4 f.n4 f.c4, .slice p n c, .slice f.p6 f.n6 f.c6] ∧ i ≤ pn ∧ mm = pn - i ∧
      Growing (PaperEnc h.get) 105 4 h.get h'.get p n c ((pl.take i).filterMap fun n => u.papers[n.toNat]?)) ⟨LH.le_refl _, 0, none, 0, 0, rfl, Nat.zero_le _, rfl, Growing.nil⟩ ?_
  rintro Y mm vs h₁ hY ⟨hle, i, p, n, c, rfl, hi, rfl, g⟩
  refine gZ ?_
  refine t_if (fun e1 => ?_) (fun e1 => ?_)
  · obtain ⟨v, a, hv, ha, e2⟩ := hpl.at (i := i) (by omega)
    unfold IntE at e2
    have hvr := hin v (List.mem_of_getElem? hv)
    have hvn : ((v.toNat : Nat) : Int) = v := by omega
    obtain ⟨x, b, hx, hb, e3, e4, e5, q, mq, cq, e6, e7⟩ := hu.papers.at (i := v.toNat) (by omega)
    have f2 := e2
    have e2 := Cells.cell?_le hle.1 e2
    have e3 := Cells.cell?_le hle.1 e3
    have e4 := Cells.cell?_le hle.1 e4
    have e5 := Cells.cell?_le hle.1 e5
    have e6 := Cells.cell?_le hle.1 e6
    have hnv : 0 ≤ v ∧ v < (f.n5 : Int) := by omega
    refine gZ ?_
    refine t_build und23 inf69 (by decide) (by decide) (cells := #[.int .i64 x.days.first, .int .i64 x.days.last, .int .i64 x.land, .slice q mq cq]) (by kernel_rfl) fun r hr => ?_
    have le2 : h₁.le _ := LH.upd_le (x := (true, .cells #[.int .i64 x.days.first, .int .i64 x.days.last, .int .i64 x.land, .slice q mq cq] 105 (0, 0))) hr
    have hng := g.count PaperEnc.len (by omega)
    have hlen : ((pl.take i).filterMap fun n => u.papers[n.toNat]?).length ≤ 8 := Nat.le_trans (List.length_filterMap_le _ _) (by rw [List.length_take]; omega)
    have f3 := Cells.cell?_le le2.1 e2
    refine gZ ?_
    refine t_grow (x := x) (ws := [.int .i64 x.days.first, .int .i64 x.days.last, .int .i64 x.land, .slice q mq cq]) rfl rfl und23 und23 inf69 rfl (by omega) (by omega) (g.le le2.1) (LH.le_trans hle le2) ⟨q, mq, cq, rfl, e7⟩ rfl ?_ ?_ ?_
    · intro j w hj
      rw [add_plain, Nat.zero_add]
      exact cell_upd (by simpa using hj)
    · intro w hw; simp at hw; rcases hw with rfl | rfl | rfl | rfl <;> rfl
    · intro p' c' h₂ hle2 _ g2
      have f4 := Cells.cell?_le hle2.1 f2
      refine gZ ?_
      refine t_again (hY (pn - (i + 1)) _ _ (by omega) ⟨hle2, i + 1, p', n + 1, c', ?_, by omega, rfl, by rw [withP_take hv hx]; exact g2⟩)
      rw [wrap_id (by omega) (by omega)]; rfl
  · refine gZ ?_
    have hpi : pl.take i = pl := List.take_of_length_le (by omega)
    rw [hpi] at g
    have hlen : (pl.filterMap fun n => u.papers[n.toNat]?).length ≤ 8 := Nat.le_trans (List.length_filterMap_le _ _) hpl8
    have hsl := g.sl PaperEnc.len (by omega) (PaperEnc.e (Rd.of_le hle.1)) (by omega)
    exact t_ret ⟨hle, { f with p5 := p, n5 := n, c5 := c }, rfl, hu.excuses.le SpanE.grow hle.1, hsl, hu.requests.le RequestE.grow hle.1⟩
theorem check_with {u : UseFile} (hck : checkF u = 0) {pl : List Int} (hpl8 : pl.length ≤ 8) : checkF (withP u pl) = 0 := by
  refine check_withP hck (Nat.le_trans (List.length_filterMap_le _ _) hpl8) fun p hp => ?_
  obtain ⟨v, _, hv⟩ := List.mem_filterMap.1 hp
  exact check_paper hck p (List.mem_of_getElem? hv)
end Go.Proofs.YtldamlcehbdkdaaDoor
end
section
namespace Go.Proofs.YtldamlcehbdkdaaDoor
open Go Go.TM Go.Proofs
theorem choice_sub {l m : List Paper} (h : m.Sublist l) : (∀ p ∈ l, p.days.first ≤ p.days.last) → ∀ ds, Choice m ds → ∃ ds', Choice l ds' ∧ ∀ d ∈ ds, d ∈ ds' := by
  induction h with
  | slnil => intro _ ds hc; exact ⟨ds, hc, fun d hd => hd⟩
  | @cons l₁ l₂ a h ih =>
    intro hv ds hc
    obtain ⟨ds', h1, h2⟩ := ih (fun p hp => hv p (by simp [hp])) ds hc
    exact ⟨a.days.first :: ds', ⟨⟨Int.le_refl _, hv a (by simp)⟩, h1⟩, fun d hd => List.mem_cons_of_mem _ (h2 d hd)⟩
  | @cons_cons l₁ l₂ a h ih =>
    intro hv ds hc
    cases ds with
    | nil => exact hc.elim
    | cons e ds =>
      obtain ⟨ds', h1, h2⟩ := ih (fun p hp => hv p (by simp [hp])) ds hc.2
      refine ⟨e :: ds', ⟨hc.1, h1⟩, fun d hd => ?_⟩
      rcases List.mem_cons.1 hd with rfl | hd
      · simp
      · exact List.mem_cons_of_mem _ (h2 d hd)
theorem more_sub {u : UseFile} {ps qs : List Paper} (h : ps.Sublist qs) (hv : ∀ p ∈ qs, p.days.first ≤ p.days.last) (k i : Int) : More { u with papers := ps } { u with papers := qs } k i := by
  have hf : (shown { u with papers := ps } k i).Sublist (shown { u with papers := qs } k i) := h.filter _
  exact ⟨rfl, fun d _ => Int.le_refl _, fun p hp => hf.subset hp, fun ds hds => choice_sub hf (fun p hp => hv p (List.mem_filter.1 hp).1) ds hds⟩
theorem filterMap_sub {α β : Type} {f : α → Option β} {l m : List α} (h : m.Sublist l) : (m.filterMap f).Sublist (l.filterMap f) := h.filterMap f
end Go.Proofs.YtldamlcehbdkdaaDoor
end
section
namespace Go.Proofs.YtldamlcehbdkdaaDoor
open Go Go.TM Go.Proofs
theorem lack_grow : Grow LackE := fun _ _ _ _ hl h => ⟨hl _ _ h.1, hl _ _ h.2.1, hl _ _ h.2.2.1, hl _ _ h.2.2.2⟩
theorem ev1 : window exU 20 = ⟨16, 20⟩ := by decide +kernel
theorem ev2 : window exU 25 = ⟨18, 25⟩ := by decide +kernel
theorem ev3 : safe exU 0 1 16 = 1 := by decide +kernel
theorem ev4 : safe exU 0 1 18 = 0 := by decide +kernel
theorem ev5 : safe exU 0 1 19 = 2 := by decide +kernel
theorem ev6 : weak exU 0 1 = 17 := by decide +kernel
theorem ev7 : weak exU 1 2 = 15 := by decide +kernel
theorem ev8 : leftAll exU 0 25 = [1, 2, 0] := by decide +kernel
theorem ev9 : lacks exU 0 20 = [⟨1, 0, ⟨16, 20⟩⟩, ⟨2, 0, ⟨16, 20⟩⟩] := by decide +kernel
theorem ev10 : enoughB exU 0 25 [0, 2] (leftAll exU 0 25) = false := by decide +kernel
theorem ev11 : ∀ i, i < 16 → okF exU 0 25 i = true → (∀ j, j < 16 → okF exU 0 25 j = true → fewerF (subsetL 4 i) (subsetL 4 j) ≤ 0) → subsetL 4 i = [1] := by decide +kernel
theorem ev12 : okF exU 0 25 2 = true := by decide +kernel
theorem exWindow20 : windowR exU 20 = .tuple #[.agg #[.int .i64 16, .int .i64 20], .int .i64 0] := by rw [windowR, if_neg (by decide +kernel), ev1]
theorem exWindow25 : windowR exU 25 = .tuple #[.agg #[.int .i64 18, .int .i64 25], .int .i64 0] := by rw [windowR, if_neg (by decide +kernel), ev2]
theorem exSafe16 : safeR exU 0 1 16 = .tuple #[.int .i64 1, .int .i64 0] := by rw [safeR, if_neg (by decide +kernel), ev3]
theorem exSafe18 : safeR exU 0 1 18 = .tuple #[.int .i64 0, .int .i64 0] := by rw [safeR, if_neg (by decide +kernel), ev4]
theorem exSafe19 : safeR exU 0 1 19 = .tuple #[.int .i64 2, .int .i64 0] := by rw [safeR, if_neg (by decide +kernel), ev5]
theorem exWeak1 : weakR exU 0 1 = .tuple #[.int .i64 17, .int .i64 0] := by rw [weakR, if_neg (by decide +kernel), ev6]
theorem exWeak2 : weakR exU 1 2 = .tuple #[.int .i64 15, .int .i64 0] := by rw [weakR, if_neg (by decide +kernel), ev7]
theorem exEnough : enoughR exU 0 25 [0, 2] = .tuple #[.bool false, .int .i64 0] := by rw [enoughR, if_neg (by decide +kernel), ev10]
theorem exOpen25 : openF exU [landQ exU 0, dayQ 25] = 0 := by decide +kernel
theorem exOpen20 : openF exU [landQ exU 0, dayQ 20] = 0 := by decide +kernel
attribute [local irreducible] T.wp CV FWK
set_option maxRecDepth 100000 in
theorem c16 {h : LH} (hch : h.chans = []) (hpe : h.pend = []) (hp : Parts h.get) : FW XT Tryd.prog 8 #[] h fun r h' => r = .bool true ∧ Rd h.get h'.get ∧ h'.chans = [] ∧ h'.pend = [] ∧ h'.todo = h.todo := by
  refine w16 XT_ok ?_
  unfold n16
  refine t_gr c52 ?_
  rintro _ h1 le1 ⟨f, rfl, hu⟩
  have hp := hp.le le1.1
  refine gZ ?_
  refine t_gr (c17 hp hu 20) ?_
  rintro _ h2 le2 rfl
  rw [exWindow20]
  refine gZ ?_
  have hp := hp.le le2.1
  have hu := hu.le le2.1
  refine t_gr (c17 hp hu 25) ?_
  rintro _ h3 le3 rfl
  rw [exWindow25]
  refine gZ ?_
  have hp := hp.le le3.1
  have hu := hu.le le3.1
  refine t_gr (c19 hp hu 0 1 16) ?_
  rintro _ h4 le4 rfl
  rw [exSafe16]
  refine gZ ?_
  have hp := hp.le le4.1
  have hu := hu.le le4.1
  refine t_gr (c19 hp hu 0 1 18) ?_
  rintro _ h5 le5 rfl
  rw [exSafe18]
  refine gZ ?_
  have hp := hp.le le5.1
  have hu := hu.le le5.1
  refine t_gr (c19 hp hu 0 1 19) ?_
  rintro _ h6 le6 rfl
  rw [exSafe19]
  refine gZ ?_
  have hp := hp.le le6.1
  have hu := hu.le le6.1
  refine t_gr (c21 hp hu 0 1) ?_
  rintro _ h7 le7 rfl
  rw [exWeak1]
  refine gZ ?_
  have hp := hp.le le7.1
  have hu := hu.le le7.1
  refine t_gr (c21 hp hu 1 2) ?_
  rintro _ h8 le8 rfl
  rw [exWeak2]
  refine gZ ?_
  have hp := hp.le le8.1
  have hu := hu.le le8.1
  refine t_gr (c23 hp hu 0 25) ?_
  rintro _ h9 le9 (⟨hne, _⟩ | ⟨_, lp, ln, lc, rfl, hl⟩)
  · exact absurd exOpen25 hne
  rw [ev8] at hl
  refine gZ ?_
  have hp := hp.le le9.1
  have hu := hu.le le9.1
  refine t_gr (c28 hp hu 0 20) ?_
  rintro _ h10 le10 (⟨hne, _⟩ | ⟨_, kp, kn, kc, rfl, hk⟩)
  · exact absurd exOpen20 hne
  rw [ev9] at hk
  refine gZ ?_
  have hp := hp.le le10.1
  have hu := hu.le le10.1
  have hl := hl.le IntE.grow le10.1
  have le := LH.le_trans (LH.le_trans (LH.le_trans (LH.le_trans (LH.le_trans (LH.le_trans (LH.le_trans (LH.le_trans (LH.le_trans le1 le2) le3) le4) le5) le6) le7) le8) le9) le10
  refine t_call (c33 (by rw [le.2.1, hch]) (by rw [le.2.2.1, hpe]) hp hu 0 25) ?_
  rintro _ h11 ⟨rd11, ch11, pe11, td11, ⟨hne, _⟩ | ⟨_, pp, pn, pc, rfl, hb, _⟩⟩
  · exact absurd exOpen25 hne
  have hpk : Sl IntE 1 h11.get pp pn [1] := by
    rcases hb with ⟨_, _, hno⟩ | ⟨i, a, rfl, hi, hok, hs, hmin⟩
    · have := hno 2 (by decide) (by simp)
      rw [ev12] at this; cases this
    · have e := ev11 i hi hok fun j hj hj2 => hmin j hj (by simp) hj2
      rw [← e]; exact hs
  refine gZ ?_
  have hp := hp.rd rd11
  have hu := hu.rd rd11
  have hl := hl.rd IntE.grow rd11
  have hk := hk.rd lack_grow rd11
  refine t_buildG und50 inf3 (by decide) (by decide) (cells := #[.int .i64 0, .int .i64 2]) (by kernel_rfl) fun r12 h12 le12 _ e12 => ?_
  refine gZ ?_
  have hp := hp.le le12.1
  have hu := hu.le le12.1
  refine t_gr (c31 hp hu 0 25 (pl := [0, 2]) (sl_ints (l := [0, 2]) rfl e12 (by show (2 : Nat) < _; omega))) ?_
  rintro _ h13 le13 rfl
  rw [exEnough]
  refine gZ ?_
  have le1113 := LH.le_trans le12 le13
  have hl := hl.le IntE.grow le1113.1
  have hk := hk.le lack_grow le1113.1
  have hpk := hpk.le IntE.grow le1113.1
  refine t_blk (fun vs h' => vs = [.bool false] ∧ h13 = h') ?_ ?_
  · iterate 11 refine t_cond (fun e => absurd e (by decide)) (fun _ => ?_)
    exact t_again ⟨rfl, rfl⟩
  rintro vs _ ⟨rfl, rfl⟩
  refine gZ ?_
  refine t_blk (fun vs h' => vs = [.bool false] ∧ h13.le h') ?_ ?_
  · refine t_pu (c42 _ _) ?_
    refine gZ ?_
    refine t_ne2 two30 g30 ?_
    refine gZ ?_
    refine t_cond (fun e => absurd e (by decide)) (fun _ => ?_)
    refine t_pu (c42 _ _) ?_
    refine gZ ?_
    refine t_ne2 two30 g30 ?_
    refine gZ ?_
    refine t_cond (fun e => absurd e (by decide)) (fun _ => ?_)
    refine gZ ?_
    refine t_cond (fun e => absurd e (by decide)) (fun _ => ?_)
    refine gZ ?_
    refine t_cond (fun e => absurd e (by decide)) (fun _ => ?_)
    refine gZ ?_
    refine t_cond (fun e => absurd e (by decide)) (fun _ => ?_)
    refine gZ ?_
    refine t_cond (fun e => absurd e (by decide)) (fun _ => ?_)
    refine gZ ?_
    refine t_cond (fun e => absurd e (by decide)) (fun _ => ?_)
    refine gZ ?_
    refine t_cond (fun e => absurd e (by decide)) (fun _ => ?_)
    refine gZ ?_
    refine t_buildG und50 inf3 (by decide) (by decide) (cells := #[.int .i64 1]) (by kernel_rfl) fun r14 h14 le14 _ e14 => ?_
    refine gZ ?_
    refine t_pu (c35 (hpk.le IntE.grow le14.1) (sl_ints (l := [1]) rfl e14 (by show (1 : Nat) < _; omega))) ?_
    refine gZ ?_
    refine t_cond (fun e => absurd e (by decide)) (fun _ => ?_)
    exact t_again ⟨rfl, le14⟩
  rintro vs h15 ⟨rfl, le15⟩
  have hl := hl.le IntE.grow le15.1
  have hk := hk.le lack_grow le15.1
  refine gZ ?_
  refine t_buildG und40 inf34 (by decide) (by decide) (cells := #[.int .i64 1, .int .i64 2, .int .i64 0]) (by kernel_rfl) fun r16 h16 le16 _ e16 => ?_
  refine gZ ?_
  refine t_pu (c25 (hl.le IntE.grow le16.1) (sl_ints (l := [1, 2, 0]) rfl e16 (by show (3 : Nat) < _; omega))) ?_
  refine gZ ?_
  refine t_cond (fun _ => ?_) (fun e => absurd e (by decide))
  refine gZ ?_
  refine t_pu (c42 _ _) ?_
  refine gZ ?_
  refine t_pu (c42 _ _) ?_
  refine gZ ?_
  refine t_buildG und45 inf79 (by decide) (by decide) (cells := #[.int .i64 1, .int .i64 0, .int .i64 16, .int .i64 20, .int .i64 2, .int .i64 0, .int .i64 16, .int .i64 20]) (by kernel_rfl) fun r17 h17 le17 _ e17 => ?_
  refine gZ ?_
  have le1617 := LH.le_trans le16 le17
  refine t_pu (c30 (hk.le lack_grow le1617.1) (b := [⟨1, 0, ⟨16, 20⟩⟩, ⟨2, 0, ⟨16, 20⟩⟩]) ?_) ?_
  · refine ⟨rfl, by show (2 : Nat) < _; omega, ?_⟩
    have cr : ∀ {i j : Nat} {v : Value}, (#[.int .i64 1, .int .i64 0, .int .i64 16, .int .i64 20, .int .i64 2, .int .i64 0, .int .i64 16, .int .i64 20] : Array Value)[i + j]? = some v → h17.get.cell? (Addr.add (Addr.add ⟨r17, 0, none⟩ i) j) = some v := by
      intro i j v hv
      rw [add_plain, add_plain, Nat.zero_add]; exact cell_row e17 hv
    intro i x hx
    match i, hx with
    | 0, hx => cases hx; exact ⟨_, rfl, cr rfl, cr rfl, cr rfl, cr rfl⟩
    | 1, hx => cases hx; exact ⟨_, rfl, cr rfl, cr rfl, cr rfl, cr rfl⟩
    | i + 2, hx => simp at hx
  refine gZ ?_
  have leZ := LH.le_trans (LH.le_trans le1113 le15) le1617
  refine t_ret ⟨by simp, (Rd.of_le le.1).trans (rd11.trans (Rd.of_le leZ.1)), by rw [leZ.2.1, ch11], by rw [leZ.2.2.1, pe11], by rw [leZ.2.2.2, td11, le.2.2.2]⟩
end Go.Proofs.YtldamlcehbdkdaaDoor
end
section
namespace Go.Proofs.YtldamlcehbdkdaaDoor
open Go Go.TM Go.Proofs
attribute [local irreducible] T.wp CV FWK
theorem LeftR.form {h' : Cells} {u : UseFile} {land day : Int} {r : Value} (hr : LeftR h' u land day r) : ∃ p n c, r = .tuple #[.slice p n c, .int .i64 (openF u [landQ u land, dayQ day])] ∧ Sl IntE 1 h' p n (if openF u [landQ u land, dayQ day] = 0 then leftAll u land day else []) := by
  rcases hr with ⟨h1, rfl⟩ | ⟨h1, p, n, c, rfl, s⟩
  · exact ⟨none, 0, 0, rfl, by rw [if_neg h1]; exact Sl.nil⟩
  · exact ⟨p, n, c, by rw [h1], by rw [if_pos h1]; exact s⟩
def Fin (h : LH) : Value → LH → Prop := fun r h' => r = .bool true ∧ h'.chans = [] ∧ h'.pend = [] ∧ h'.todo = h.todo
theorem fin_shown {h h' : LH} (hch : h.chans = []) (hpe : h.pend = []) (hp : Parts h.get) (hle : h.le h') : FW XT Tryd.prog 8 #[] h' (Fin h) := by
  refine FW.mono (c16 (by rw [hle.2.1, hch]) (by rw [hle.2.2.1, hpe]) (hp.le hle.1)) ?_
  rintro v h'' ⟨h1, _, h2, h3, h4⟩
  exact ⟨h1, h2, h3, by rw [h4, hle.2.2.2]⟩
theorem t_shown {h h' : LH} {k : Bool → T} {Q : Leaf → LH → Prop} (hch : h.chans = []) (hpe : h.pend = []) (hp : Parts h.get) (hle : h.le h') (hk : ∀ h'', h''.chans = [] ∧ h''.pend = [] ∧ h''.todo = h.todo → (k true).wp XT Tryd.prog Q h'') :
    (T.call false 8 #[] fun v => T.unB v k).wp XT Tryd.prog Q h' := by
  refine t_call (fin_shown hch hpe hp hle) ?_
  rintro _ h'' ⟨rfl, h2⟩
  exact gC (hk h'' h2)
end Go.Proofs.YtldamlcehbdkdaaDoor
end
section
namespace Go.Proofs.YtldamlcehbdkdaaDoor
open Go Go.TM Go.Proofs
attribute [local irreducible] T.wp CV FWK
theorem c36 {h : LH} {f : FileC} {u : UseFile} (hu : FileR h.get f u) : FW X0 Tryd.prog 5 #[fileV f u] h fun r h' => h = h' ∧ ∃ b : Bool, r = .bool b ∧ (b = true → checkF u = 0) := by
  refine w36 _ _ _ _ _ _ _ _ _ _ _ _ _ X0_ok ?_
  unfold n36
  refine t_call (c15 hu) ?_
  rintro _ _ ⟨rfl, b, rfl, hb⟩
  refine gZ ?_
  refine t_cond (fun _ => ?_) (fun _ => ?_)
  · refine t_pu (c27 hu) ?_
    refine gZ ?_
    exact t_ret ⟨rfl, _, rfl, fun e => by simpa using e⟩
  · exact t_ret ⟨rfl, _, rfl, fun e => by cases e⟩
theorem wrap_u16 {n : Int} (h : 0 ≤ n ∧ n ≤ 65535) : IntKind.i64.wrap n = n := wrap_id (by omega) (by omega)
theorem wrap_u8 {n : Int} (h : 0 ≤ n ∧ n ≤ 255) : IntKind.i64.wrap n = n := wrap_id (by omega) (by omega)
theorem tmod_nn {a b : Int} (ha : 0 ≤ a) : Int.tmod a b = a % b := by rw [Int.tmod_eq_emod_of_nonneg ha]
theorem mod_day {n : Int} : 0 ≤ n % 2001 ∧ n % 2001 ≤ 2000 := by omega
theorem c37 {h : LH} {n : Int} (hn : 0 ≤ n ∧ n ≤ 65535) : Pu Tryd.prog 9 #[.int .u16 n] h (.int .i64 (n % 2001)) := by
  refine w37 _ X0_ok ?_
  unfold n37
  refine gT (by omega) ?_
  rw [wrap_u16 hn, tmod_nn hn.1]
  exact t_ret ⟨rfl, rfl⟩
end Go.Proofs.YtldamlcehbdkdaaDoor
end
section
namespace Go.Proofs.YtldamlcehbdkdaaDoor
open Go Go.TM Go.Proofs
attribute [local irreducible] T.wp CV FWK
theorem openF_all {u : UseFile} (hck : checkF u = 0) : ∀ {l : List Int}, (∀ x ∈ l, x = 0) → openF u l = 0 := by
  intro l hl
  rw [openF, if_neg (by simp [hck])]
  have key : ∀ (l : List Int) (i : Nat), (∀ x ∈ l, x = 0) → firstF (fun _ x => x) i l = 0 := by
    intro l
    induction l with
    | nil => intro i _; rfl
    | cons y l ih =>
      intro i h
      rw [firstF, if_neg (by simp [h y (by simp)])]
      exact ih _ fun x hx => h x (by simp [hx])
  exact key l 0 hl
theorem landQ_ok {u : UseFile} {k : Int} (h : 0 ≤ k ∧ k < u.lands) : landQ u k = 0 := by
  unfold landQ isIn
  rw [if_pos]; simp; omega
theorem itemQ_ok {u : UseFile} {k : Int} (h : 0 ≤ k ∧ k < u.items) : itemQ u k = 0 := by
  unfold itemQ isIn
  rw [if_pos]; simp; omega
theorem dayQ_ok {d : Int} (h : 0 ≤ d ∧ d ≤ 2000) : dayQ d = 0 := by
  unfold dayQ isDay isIn
  rw [if_pos]; simp; omega
theorem safeR_ok {u : UseFile} (hck : checkF u = 0) {k i d : Int} (hk : 0 ≤ k ∧ k < u.lands) (hi : 0 ≤ i ∧ i < u.items) (hd : 0 ≤ d ∧ d ≤ 2000) : safeR u k i d = .tuple #[.int .i64 (safe u k i d), .int .i64 0] := by
  rw [safeR, if_neg]
  rw [openF_all hck (by intro x hx; simp at hx; rcases hx with rfl | rfl | rfl; exact landQ_ok hk; exact itemQ_ok hi; exact dayQ_ok hd)]; simp
theorem weakR_ok {u : UseFile} (hck : checkF u = 0) {k i : Int} (hk : 0 ≤ k ∧ k < u.lands) (hi : 0 ≤ i ∧ i < u.items) : weakR u k i = .tuple #[.int .i64 (weak u k i), .int .i64 0] := by
  rw [weakR, if_neg]
  rw [openF_all hck (by intro x hx; simp at hx; rcases hx with rfl | rfl; exact landQ_ok hk; exact itemQ_ok hi)]; simp
theorem leftQ_ok {u : UseFile} (hck : checkF u = 0) {k d : Int} (hk : 0 ≤ k ∧ k < u.lands) (hd : 0 ≤ d ∧ d ≤ 2000) : openF u [landQ u k, dayQ d] = 0 :=
  openF_all hck (by intro x hx; simp at hx; rcases hx with rfl | rfl; exact landQ_ok hk; exact dayQ_ok hd)
theorem weakGo_spec (f : Int → Bool) : ∀ (n : Nat) (d : Int), 0 ≤ d → (weakGo f n d = -1 ∧ ∀ x, d ≤ x → x < d + n → f x = false) ∨ (d ≤ weakGo f n d ∧ weakGo f n d < d + n ∧ f (weakGo f n d) = true ∧ ∀ x, d ≤ x → x < weakGo f n d → f x = false) := by
  intro n
  induction n with
  | zero => intro d _; exact .inl ⟨rfl, fun x h1 h2 => by omega⟩
  | succ n ih =>
    intro d hd
    rw [weakGo]
    by_cases e : f d = true
    · rw [if_pos e]
      exact .inr ⟨by omega, by omega, e, fun x h1 h2 => by omega⟩
    · rw [if_neg e]
      have hf : f d = false := by simpa using e
      rcases ih (d + 1) (by omega) with ⟨h1, h2⟩ | ⟨h1, h2, h3, h4⟩
      · refine .inl ⟨h1, fun x a b => ?_⟩
        by_cases ex : x = d
        · rw [ex]; exact hf
        · exact h2 x (by omega) (by omega)
      · refine .inr ⟨by omega, by omega, h3, fun x a b => ?_⟩
        by_cases ex : x = d
        · rw [ex]; exact hf
        · exact h4 x (by omega) b
theorem weak_spec {u : UseFile} (hck : checkF u = 0) (k i : Int) : (weak u k i = -1 ∧ ∀ d, u.from_ ≤ d → d ≤ 2000 → safe u k i d = 1) ∨ (u.from_ ≤ weak u k i ∧ weak u k i ≤ 2000 ∧ safe u k i (weak u k i) ≠ 1 ∧ ∀ d, u.from_ ≤ d → d < weak u k i → safe u k i d = 1) := by
  have hf := (num_ok (check_num hck)).2.2.1
  unfold weak
  rcases weakGo_spec (fun d => decide (safe u k i d ≠ 1)) (2001 - u.from_).toNat u.from_ hf.1 with ⟨h1, h2⟩ | ⟨h1, h2, h3, h4⟩
  · refine .inl ⟨h1, fun d a b => ?_⟩
    simpa using h2 d a (by omega)
  · refine .inr ⟨h1, by omega, by simpa using h3, fun d a b => ?_⟩
    simpa using h4 d a b
theorem mod_pos {n b : Int} (hb : 0 < b) : 0 ≤ n % b ∧ n % b < b := ⟨Int.emod_nonneg _ (by omega), Int.emod_lt_of_pos _ hb⟩
end Go.Proofs.YtldamlcehbdkdaaDoor
end
section
namespace Go.Proofs.YtldamlcehbdkdaaDoor
open Go Go.TM Go.Proofs
set_option linter.unusedVariables false
set_option maxRecDepth 100000
noncomputable def n43 (u_0 : Int) (u_1 : Int) (u_2 : Int) (u_3 : Int) (u_4p : Option Addr) (u_4n u_4c : Nat) (u_5p : Option Addr) (u_5n u_5c : Nat) (u_6p : Option Addr) (u_6n u_6c : Nat) (than_0 : Int) (than_1 : Int) (than_2 : Int) (than_3 : Int) (than_4p : Option Addr) (than_4n than_4c : Nat) (than_5p : Option Addr) (than_5n than_5c : Nat) (than_6p : Option Addr) (than_6n than_6c : Nat) (land : Int) (day : Int) : T := .call false 25 #[.agg #[.int .i64 u_0, .int .i64 u_1, .int .i64 u_2, .int .i64 u_3, .slice u_4p u_4n u_4c, .slice u_5p u_5n u_5c, .slice u_6p u_6n u_6c], .int .i64 land, .int .i64 day] fun v => .unTup v fun l => .unCons l fun v vs => .unS v fun a n c => .unCons vs fun v vs => .unI .i64 v fun n_1 => .unNil vs (.call false 25 #[.agg #[.int .i64 than_0, .int .i64 than_1, .int .i64 than_2, .int .i64 than_3, .slice than_4p than_4n than_4c, .slice than_5p than_5n than_5c, .slice than_6p than_6n than_6c], .int .i64 land, .int .i64 day] fun v => .unTup v fun l => .unCons l fun v vs => .unS v fun a_1 n_2 c_1 => .unCons vs fun v vs => .unI .i64 v fun n_3 => .unNil vs (.blk (bif n_1 != 0 then .leaf (.retn [.bool false]) else bif n_3 != 0 then .leaf (.retn [.bool false]) else .call false 40 #[.slice a n c, .slice a_1 n_2 c_1] fun v => .unB v fun b => bif !b then .leaf (.retn [.bool false]) else .leaf (.again [.bool false])) (fun vs => .popB vs fun b vs => .unNil vs (.loop [.bool b, .int .i64 0] (fun vs => .popB vs fun b vs => .popI .i64 vs fun n vs => .unNil vs (bif decide (n < u_0) then .call false 23 #[.agg #[.int .i64 u_0, .int .i64 u_1, .int .i64 u_2, .int .i64 u_3, .slice u_4p u_4n u_4c, .slice u_5p u_5n u_5c, .slice u_6p u_6n u_6c], .int .i64 land, .int .i64 n, .int .i64 day] fun v => .unTup v fun l => .unCons l fun v vs => .unI .i64 v fun n_4 => .unCons vs fun v vs => .unI .i64 v fun n_5 => .unNil vs (.call false 23 #[.agg #[.int .i64 than_0, .int .i64 than_1, .int .i64 than_2, .int .i64 than_3, .slice than_4p than_4n than_4c, .slice than_5p than_5n than_5c, .slice than_6p than_6n than_6c], .int .i64 land, .int .i64 n, .int .i64 day] fun v => .unTup v fun l => .unCons l fun v vs => .unI .i64 v fun n_6 => .unCons vs fun v vs => .unI .i64 v fun n_7 => .unNil vs (.call false 24 #[.agg #[.int .i64 u_0, .int .i64 u_1, .int .i64 u_2, .int .i64 u_3, .slice u_4p u_4n u_4c, .slice u_5p u_5n u_5c, .slice u_6p u_6n u_6c], .int .i64 land, .int .i64 n] fun v => .unTup v fun l => .unCons l fun v vs => .unI .i64 v fun n_8 => .unCons vs fun v vs => .unI .i64 v fun n_9 => .unNil vs (.call false 24 #[.agg #[.int .i64 than_0, .int .i64 than_1, .int .i64 than_2, .int .i64 than_3, .slice than_4p than_4n than_4c, .slice than_5p than_5n than_5c, .slice than_6p than_6n than_6c], .int .i64 land, .int .i64 n] fun v => .unTup v fun l => .unCons l fun v vs => .unI .i64 v fun n_10 => .unCons vs fun v vs => .unI .i64 v fun n_11 => .unNil vs (bif n_5 != 0 then .leaf (.retn [.bool false, .int .i64 n]) else bif n_7 != 0 then .leaf (.retn [.bool false, .int .i64 n]) else bif n_9 != 0 then .leaf (.retn [.bool false, .int .i64 n]) else bif n_11 != 0 then .leaf (.retn [.bool false, .int .i64 n]) else .call false 41 #[.int .i64 n_4, .int .i64 n_6] fun v => .unB v fun b_1 => bif b_1 then .leaf (.retn [.bool false, .int .i64 n]) else bif decide (n_8 ≥ 0) then bif decide (n_10 < 0) then .leaf (.retn [.bool false, .int .i64 n]) else bif decide (n_8 < n_10) then .leaf (.retn [.bool false, .int .i64 n]) else .leaf (.again [.bool b, .int .i64 (IntKind.wrap .i64 (n + 1))]) else .leaf (.again [.bool b, .int .i64 (IntKind.wrap .i64 (n + 1))]))))) else .leaf (.brk [.bool b, .int .i64 n]))) (fun vs => .popB vs fun b vs => .popI .i64 vs fun n vs => .unNil vs (.leaf (.ret (.bool true)))) (fun vs => .popB vs fun b vs => .popI .i64 vs fun n vs => .unNil vs (.leaf (.ret (.bool b)))) fun x x_1 => .fail)) (fun vs => .popB vs fun b vs => .unNil vs (.leaf (.ret (.bool b)))) fun x x_1 => .fail))
theorem t43 (u_0 : Int) (u_1 : Int) (u_2 : Int) (u_3 : Int) (u_4p : Option Addr) (u_4n u_4c : Nat) (u_5p : Option Addr) (u_5n u_5c : Nat) (u_6p : Option Addr) (u_6n u_6c : Nat) (than_0 : Int) (than_1 : Int) (than_2 : Int) (than_3 : Int) (than_4p : Option Addr) (than_4n than_4c : Nat) (than_5p : Option Addr) (than_5n than_5c : Nat) (than_6p : Option Addr) (than_6n than_6c : Nat) (land : Int) (day : Int) : ftree ({ P := Tryd.prog, priv := [4, 5], loops := [{ id := 0, slots := [(8, .bool), (13, .int .i64)], ro := [4, 5], outs := [] }], joins := [{ id := 5, slots := [(8, .bool)], ro := [4, 5], outs := [] }] }) Tryd.f11 [.agg #[.int .i64 u_0, .int .i64 u_1, .int .i64 u_2, .int .i64 u_3, .slice u_4p u_4n u_4c, .slice u_5p u_5n u_5c, .slice u_6p u_6n u_6c], .agg #[.int .i64 than_0, .int .i64 than_1, .int .i64 than_2, .int .i64 than_3, .slice than_4p than_4n than_4c, .slice than_5p than_5n than_5c, .slice than_6p than_6n than_6c], .int .i64 land, .int .i64 day] = n43 u_0 u_1 u_2 u_3 u_4p u_4n u_4c u_5p u_5n u_5c u_6p u_6n u_6c than_0 than_1 than_2 than_3 than_4p than_4n than_4c
    than_5p than_5n than_5c than_6p than_6n than_6c land day := by kernel_rfl
theorem w43 (u_0 : Int) (u_1 : Int) (u_2 : Int) (u_3 : Int) (u_4p : Option Addr) (u_4n u_4c : Nat) (u_5p : Option Addr) (u_5n u_5c : Nat) (u_6p : Option Addr) (u_6n u_6c : Nat) (than_0 : Int) (than_1 : Int) (than_2 : Int) (than_3 : Int) (than_4p : Option Addr) (than_4n than_4c : Nat) (than_5p : Option Addr) (than_5n than_5c : Nat) (than_6p : Option Addr) (than_6n than_6c : Nat) (land : Int) (day : Int) {X : XP} (hX : XOK X) {h : LH} {A : Value → LH → Prop} (hw : (n43 u_0 u_1 u_2 u_3 u_4p u_4n u_4c u_5p u_5n u_5c u_6p u_6n u_6c than_0 than_1 than_2 than_3 than_4p than_4n than_4c
    than_5p than_5n than_5c than_6p than_6n than_6c land day).wp X Tryd.prog (retQ A) h) : FWK X Tryd.prog .normal 11 #[.agg #[.int .i64 u_0, .int .i64 u_1, .int .i64 u_2, .int .i64 u_3, .slice u_4p u_4n u_4c, .slice u_5p u_5n u_5c, .slice u_6p u_6n u_6c], .agg #[.int .i64 than_0, .int .i64 than_1, .int .i64 than_2, .int .i64 than_3, .slice than_4p than_4n than_4c, .slice than_5p than_5n than_5c, .slice than_6p than_6n than_6c], .int .i64 land, .int .i64 day] h A := fwk_neat (t43 u_0 u_1 u_2 u_3 u_4p u_4n u_4c u_5p u_5n u_5c u_6p u_6n u_6c than_0 than_1 than_2 than_3 than_4p than_4n than_4c
    than_5p than_5n than_5c than_6p than_6n than_6c land day) (by simp) (by kernel_rfl) (by kernel_rfl) hX hw
noncomputable def n44 (lp : Option Addr) (ln lc : Nat) (ofp : Option Addr) (ofn ofc : Nat) : T := bif (↑ln : Int) != (↑ofn : Int) then .leaf (.ret (.bool false)) else .loop [.bool false, .int .i64 0] (fun vs => .popB vs fun b vs => .popI .i64 vs fun n vs => .unNil vs (bif decide (n < (↑ln : Int)) then .need (0 ≤ n ∧ n < (↑ln : Int)) (.someA lp fun a => .loadI .i64 (Addr.add a (Int.toNat n * 1)) fun n_1 => .need (0 ≤ n ∧ n < (↑ofn : Int)) (.someA ofp fun a_1 => .loadI .i64 (Addr.add a_1 (Int.toNat n * 1)) fun n_2 => .call false 41 #[.int .i64 n_1, .int .i64 n_2] fun v => .unB v fun b_1 => .need (0 ≤ n ∧ n < (↑ofn : Int)) (.someA ofp fun a_2 => .need (AV.val (.pointer (some (Addr.add a_2 (Int.toNat n * 1)))) = AV.val (.pointer (some (Addr.add a_1 (Int.toNat n * 1))))) (.nd (.int .i64 n) (.nd (.slice ofp ofn ofc) (.need (0 ≤ n ∧ n < (↑ln : Int)) (.someA lp fun a_3 => .need (AV.val (.pointer (some (Addr.add a_3 (Int.toNat n * 1)))) = AV.val (.pointer (some (Addr.add a (Int.toNat n * 1))))) (.nd (.int .i64 n) (.nd (.slice lp ln lc) (bif b_1 then .leaf (.retn [.bool false, .int .i64 n]) else .leaf (.again [.bool b, .int .i64 (IntKind.wrap .i64 (n + 1))]))))))))))) else .leaf (.brk [.bool b, .int .i64 n]))) (fun vs => .popB vs fun b vs => .popI .i64 vs fun n vs => .unNil vs (.leaf (.ret (.bool true)))) (fun vs => .popB vs fun b vs => .popI .i64 vs fun n vs => .unNil vs (.leaf (.ret (.bool b)))) fun x x_1 => .fail
theorem t44 (lp : Option Addr) (ln lc : Nat) (ofp : Option Addr) (ofn ofc : Nat) : ftree ({ P := Tryd.prog, priv := [], loops := [{ id := 0, slots := [(4, .bool), (5, .int .i64)], ro := [], outs := [] }], joins := [] }) Tryd.f40 [.slice lp ln lc, .slice ofp ofn ofc] = n44 lp ln lc ofp ofn ofc := by kernel_rfl
theorem w44 (lp : Option Addr) (ln lc : Nat) (ofp : Option Addr) (ofn ofc : Nat) {X : XP} (hX : XOK X) {h : LH} {A : Value → LH → Prop} (hw : (n44 lp ln lc ofp ofn ofc).wp X Tryd.prog (retQ A) h) : FWK X Tryd.prog .normal 40 #[.slice lp ln lc, .slice ofp ofn ofc] h A := fwk_neat (t44 lp ln lc ofp ofn ofc) (by simp) (by kernel_rfl) (by kernel_rfl) hX hw
noncomputable def n45 (a : Int) (b : Int) : T := .call false 78 #[.int .i64 a] fun v => .unI .i64 v fun n => .call false 78 #[.int .i64 b] fun v => .unI .i64 v fun n_1 => .leaf (.ret (.bool (decide (n < n_1))))
theorem t45 (a : Int) (b : Int) : ftree ({ P := Tryd.prog, priv := [], loops := [], joins := [] }) Tryd.f41 [.int .i64 a, .int .i64 b] = n45 a b := by kernel_rfl
theorem w45 (a : Int) (b : Int) {X : XP} (hX : XOK X) {h : LH} {A : Value → LH → Prop} (hw : (n45 a b).wp X Tryd.prog (retQ A) h) : FWK X Tryd.prog .normal 41 #[.int .i64 a, .int .i64 b] h A := fwk_neat (t45 a b) (by simp) (by kernel_rfl) (by kernel_rfl) hX hw
noncomputable def n77 (s : Int) : T := bif s == 2 then .leaf (.ret (.int .i64 0)) else bif s == 1 then .leaf (.ret (.int .i64 2)) else .leaf (.ret (.int .i64 1))
theorem t77 (s : Int) : ftree ({ P := Tryd.prog, priv := [], loops := [], joins := [] }) Tryd.f78 [.int .i64 s] = n77 s := by kernel_rfl
theorem w77 (s : Int) {X : XP} (hX : XOK X) {h : LH} {A : Value → LH → Prop} (hw : (n77 s).wp X Tryd.prog (retQ A) h) : FWK X Tryd.prog .normal 78 #[.int .i64 s] h A := fwk_neat (t77 s) (by simp) (by kernel_rfl) (by kernel_rfl) hX hw
end Go.Proofs.YtldamlcehbdkdaaDoor
end
section
namespace Go.Proofs.YtldamlcehbdkdaaDoor
open Go Go.TM Go.Proofs
attribute [local irreducible] T.wp CV FWK
theorem c77 {h : LH} (s : Int) : Pu Tryd.prog 78 #[.int .i64 s] h (.int .i64 (rk s)) := by
  refine w77 _ X0_ok ?_
  unfold n77 rk
  refine t_cond (fun e => ?_) (fun e => ?_)
  · have : s = 2 := by simpa using e
    exact t_ret ⟨by rw [if_pos this], rfl⟩
  · have h2 : s ≠ 2 := by simpa using e
    refine t_cond (fun e => ?_) (fun e => ?_)
    · have : s = 1 := by simpa using e
      exact t_ret ⟨by rw [if_neg h2, if_pos this], rfl⟩
    · have : s ≠ 1 := by simpa using e
      exact t_ret ⟨by rw [if_neg h2, if_neg this], rfl⟩
theorem c45 {h : LH} (a b : Int) : Pu Tryd.prog 41 #[.int .i64 a, .int .i64 b] h (.bool (decide (rk a < rk b))) := by
  refine w45 _ _ X0_ok ?_
  unfold n45
  refine t_pu (c77 a) ?_
  refine gZ ?_
  refine t_pu (c77 b) ?_
  refine gZ ?_
  exact t_ret ⟨rfl, rfl⟩
def NoLessP (a b : List Int) : Prop := a.length = b.length ∧ ∀ (i : Nat) x y, a[i]? = some x → b[i]? = some y → rk y ≤ rk x
theorem c44 {h : LH} {p q : Option Addr} {n c m d : Nat} {a b : List Int} (ha : Sl IntE 1 h.get p n a) (hb : Sl IntE 1 h.get q m b) (hn : NoLessP a b) : Pu Tryd.prog 40 #[.slice p n c, .slice q m d] h (.bool true) := by
  refine w44 _ _ _ _ _ _ X0_ok ?_
  unfold n44
  have hna := ha.1
  have hnb := hb.1
  have hba := ha.2.1
  have hl := hn.1
  refine t_cond (fun e => ?_) (fun _ => ?_)
  · simp at e; omega
  refine t_loop (fun mm vs h' => h = h' ∧ ∃ i : Nat, vs = [.bool false, .int .i64 i] ∧ i ≤ n ∧ mm = n - i) ⟨rfl, 0, rfl, Nat.zero_le _, rfl⟩ ?_
  rintro Y mm vs _ hY ⟨rfl, i, rfl, hi, rfl⟩
  refine gZ ?_
  refine t_if (fun e => ?_) (fun e => ?_)
  · obtain ⟨x, a1, hx, ha1, e1⟩ := ha.at (i := i) (by omega)
    obtain ⟨y, a2, hy, ha2, e2⟩ := hb.at (i := i) (by omega)
    unfold IntE at e1 e2
    have hr := hn.2 i x y hx hy
    refine gZ ?_
    refine t_pu (c45 _ _) ?_
    rw [decide_eq_false (by omega : ¬ rk x < rk y)]
    refine gZ ?_
    refine t_cond (fun e => by cases e) (fun _ => ?_)
    refine t_again (hY (n - (i + 1)) _ _ (by omega) ⟨rfl, i + 1, ?_, by omega, rfl⟩)
    rw [wrap_id (by omega) (by omega)]; rfl
  · refine gZ ?_
    exact t_ret ⟨rfl, rfl⟩
structure SaferP (u v : UseFile) (k d : Int) : Prop where
  items : v.items = u.items
  frm : v.from_ = u.from_
  safe : ∀ i e, 0 ≤ e → e ≤ 2000 → rk (safe v k i e) ≤ rk (safe u k i e)
  left : ∀ i, rk (left v k i d) ≤ rk (left u k i d)
theorem SaferP.noLess {u v : UseFile} {k d : Int} (s : SaferP u v k d) : NoLessP (leftAll u k d) (leftAll v k d) := by
  refine ⟨by unfold leftAll; simp [s.items], fun i x y hx hy => ?_⟩
  have hi : i < u.items.toNat := by
    have := (List.getElem?_eq_some_iff.1 hx).1
    unfold leftAll at this
    simpa using this
  unfold leftAll at hx hy
  rw [s.items] at hy
  rw [List.getElem?_map, List.getElem?_range hi] at hx hy
  simp at hx hy
  subst hx; subst hy
  exact s.left i
theorem rk_two {s : Int} : rk s = 2 ↔ s = 1 := by unfold rk; split <;> (try split) <;> omega
theorem SaferP.one {u v : UseFile} {k d : Int} (s : SaferP u v k d) {i e : Int} (h0 : 0 ≤ e) (h1 : e ≤ 2000) (h : TM.safe v k i e = 1) : TM.safe u k i e = 1 := by
  have := s.safe i e h0 h1
  rw [rk_two.2 h] at this
  have := (rk_vals (TM.safe u k i e)).2
  exact rk_two.1 (by omega)
theorem SaferP.weak {u v : UseFile} {k d : Int} (s : SaferP u v k d) (hu : checkF u = 0) (hv : checkF v = 0) (i : Int) : ¬ (weak u k i ≥ 0 ∧ (weak v k i < 0 ∨ weak u k i < weak v k i)) := by
  rintro ⟨h1, h2⟩
  have hfr := s.frm
  have hf := (num_ok (check_num hu)).2.2.1
  rcases weak_spec hu k i with ⟨a1, _⟩ | ⟨a1, a2, a3, _⟩
  · omega
  · refine a3 (s.one (by omega) a2 ?_)
    rcases weak_spec hv k i with ⟨b1, b2⟩ | ⟨b1, b2, b3, b4⟩
    · exact b2 _ (by rw [s.frm]; exact a1) a2
    · exact b4 _ (by rw [s.frm]; exact a1) (by omega)
theorem c43 {h : LH} (hp : Parts h.get) {f g : FileC} {u v : UseFile} (hu : FileR h.get f u) (hv : FileR h.get g v) (cu : checkF u = 0) (cv : checkF v = 0) {k d : Int} (hk : 0 ≤ k ∧ k < u.lands) (hkv : 0 ≤ k ∧ k < v.lands) (hd : 0 ≤ d ∧ d ≤ 2000) (s : SaferP u v k d) :
    Gr Tryd.prog 11 #[fileV f u, fileV g v, .int .i64 k, .int .i64 d] h fun r _ => r = .bool true := by
  refine w43 _ _ _ _ _ _ _ _ _ _ _ _ _ _ _ _ _ _ _ _ _ _ _ _ _ _ _ _ X0_ok ?_
  unfold n43
  refine t_gr (c23 hp hu k d) ?_
  intro r1 h1 le1 hr1
  obtain ⟨p1, n1, k1, rfl, s1⟩ := hr1.form
  rw [leftQ_ok cu hk hd, if_pos rfl] at s1
  rw [leftQ_ok cu hk hd]
  refine gZ ?_
  refine t_gr (c23 (hp.le le1.1) (hv.le le1.1) k d) ?_
  intro r2 h2 le2 hr2
  obtain ⟨p2, n2, k2, rfl, s2⟩ := hr2.form
  rw [leftQ_ok cv hkv hd, if_pos rfl] at s2
  rw [leftQ_ok cv hkv hd]
  refine gZ ?_
  have le12 := LH.le_trans le1 le2
  refine t_blk (fun vs h' => vs = [.bool false] ∧ h2 = h') ?_ ?_
  · refine t_cond (fun e => absurd e (by simp)) (fun _ => ?_)
    refine t_cond (fun e => absurd e (by simp)) (fun _ => ?_)
    refine t_pu (c44 (s1.le IntE.grow le2.1) s2 s.noLess) ?_
    refine gZ ?_
    refine t_cond (fun e => absurd e (by simp)) (fun _ => ?_)
    exact t_again ⟨rfl, rfl⟩
  rintro vs _ ⟨rfl, rfl⟩
  have hit := (num_ok (check_num cu)).1
  refine gZ ?_
  refine t_loop (fun mm vs h' => h2.le h' ∧ ∃ i : Nat, vs = [.bool false, .int .i64 i] ∧ i ≤ u.items.toNat ∧ mm = u.items.toNat - i) ⟨LH.le_refl _, 0, rfl, Nat.zero_le _, rfl⟩ ?_
  rintro Y mm vs h3 hY ⟨le3, i, rfl, hi, rfl⟩
  have le13 := LH.le_trans le12 le3
  refine gZ ?_
  refine t_if (fun e1 => ?_) (fun e1 => ?_)
  · have hiu : 0 ≤ (i : Int) ∧ (i : Int) < u.items := ⟨by omega, by omega⟩
    have hiv : 0 ≤ (i : Int) ∧ (i : Int) < v.items := by rw [s.items]; exact hiu
    refine t_gr (c19 (hp.le le13.1) (hu.le le13.1) k i d) ?_
    rintro _ h4 le4 rfl
    rw [safeR_ok cu hk hiu hd]
    have le14 := LH.le_trans le13 le4
    refine gZ ?_
    refine t_gr (c19 (hp.le le14.1) (hv.le le14.1) k i d) ?_
    rintro _ h5 le5 rfl
    rw [safeR_ok cv hkv hiv hd]
    have le15 := LH.le_trans le14 le5
    refine gZ ?_
    refine t_gr (c21 (hp.le le15.1) (hu.le le15.1) k i) ?_
    rintro _ h6 le6 rfl
    rw [weakR_ok cu hk hiu]
    have le16 := LH.le_trans le15 le6
    refine gZ ?_
    refine t_gr (c21 (hp.le le16.1) (hv.le le16.1) k i) ?_
    rintro _ h7 le7 rfl
    rw [weakR_ok cv hkv hiv]
    have le17 := LH.le_trans le16 le7
    refine gZ ?_
    have hw := s.weak cu cv i
    refine t_cond (fun e => absurd e (by simp)) (fun _ => ?_)
    refine t_cond (fun e => absurd e (by simp)) (fun _ => ?_)
    refine t_cond (fun e => absurd e (by simp)) (fun _ => ?_)
    refine t_cond (fun e => absurd e (by simp)) (fun _ => ?_)
    have hsf := s.safe i d hd.1 hd.2
    refine t_pu (c45 _ _) ?_
    rw [decide_eq_false (by omega : ¬ rk (safe u k i d) < rk (safe v k i d))]
    refine gZ ?_
    refine t_cond (fun e => by cases e) (fun _ => ?_)
    have next : Y [.bool false, .int .i64 (IntKind.wrap .i64 ((i : Int) + 1))] h7 := by
      refine hY (u.items.toNat - (i + 1)) _ _ (by omega) ⟨LH.le_trans (LH.le_trans (LH.le_trans (LH.le_trans le3 le4) le5) le6) le7, i + 1, ?_, by omega, rfl⟩
      rw [wrap_id (by omega) (by omega)]; rfl
    refine t_if (fun e2 => ?_) (fun _ => t_again next)
    refine t_if (fun e3 => absurd ⟨e2, .inl e3⟩ hw) (fun _ => ?_)
    refine t_if (fun e3 => absurd ⟨e2, .inr e3⟩ hw) (fun _ => t_again next)
  · refine gZ ?_
    exact t_ret ⟨le13, rfl⟩
end Go.Proofs.YtldamlcehbdkdaaDoor
end
section
namespace Go.Proofs.YtldamlcehbdkdaaDoor
open Go Go.TM Go.Proofs
def inL (n : Nat) (by_ : Int) (picks : List Int) : List Int := ((List.range n).filter fun i => decide (picks.getD i 0 % 200 ≤ by_)).map fun i : Nat => (i : Int)
theorem inL_sub {n : Nat} {x y : Int} {picks : List Int} (h : x ≤ y) : (inL n x picks).Sublist (inL n y picks) := by
  unfold inL
  refine List.Sublist.map _ ?_
  have : (List.range n).filter (fun i => decide (picks.getD i 0 % 200 ≤ x)) = ((List.range n).filter fun i => decide (picks.getD i 0 % 200 ≤ y)).filter fun i => decide (picks.getD i 0 % 200 ≤ x) := by
    rw [List.filter_filter]
    refine List.filter_congr fun i _ => ?_
    generalize picks.getD i 0 % 200 = v
    by_cases e : v ≤ x
    · have : v ≤ y := by omega
      simp [e, this]
    · simp [e]
  rw [this]
  exact List.filter_sublist
theorem inL_in {n : Nat} {y : Int} {picks : List Int} : (∀ v ∈ inL n y picks, 0 ≤ v ∧ v < (n : Int)) ∧ (inL n y picks).length ≤ n := by
  unfold inL
  refine ⟨fun v hv => ?_, ?_⟩
  · obtain ⟨i, hi, rfl⟩ := List.mem_map.1 hv
    have := List.mem_range.1 (List.mem_filter.1 hi).1
    omega
  · rw [List.length_map]
    exact Nat.le_trans (List.length_filter_le _ _) (by simp)
theorem in_time {u : UseFile} (hck : checkF u = 0) {x y : Int} (h : x ≤ y) {picks : List Int} (k d : Int) : SaferP (withP u (inL u.papers.length y picks)) (withP u (inL u.papers.length x picks)) k d := by
  have h8 := (check_papers hck).1
  have cx := check_with hck (pl := inL u.papers.length x picks) (Nat.le_trans inL_in.2 h8)
  have cy := check_with hck (pl := inL u.papers.length y picks) (Nat.le_trans inL_in.2 h8)
  have vx := Valid.of cx
  have vy := Valid.of cy
  have hm : ∀ i, More (withP u (inL u.papers.length x picks)) (withP u (inL u.papers.length y picks)) k i := fun i =>
    more_sub (u := u) (filterMap_sub (inL_sub h)) vy.2.1 k i
  exact ⟨rfl, rfl, fun i e he _ => (hm i).safe vx vy he, fun i => (hm i).left vx vy rfl d⟩
end Go.Proofs.YtldamlcehbdkdaaDoor
end
section
namespace Go.Proofs.YtldamlcehbdkdaaDoor
open Go Go.TM Go.Proofs
attribute [local irreducible] T.wp CV FWK
def SpanEnc (x : Span) (ws : List Value) : Prop := ws = [.int .i64 x.first, .int .i64 x.last]
theorem SpanEnc.len : ∀ x ws, SpanEnc x ws → ws.length = 2 := by rintro x _ rfl; rfl
theorem SpanEnc.e {h' : Cells} : ∀ a x ws, SpanEnc x ws → (∀ (j : Nat) w, ws[j]? = some w → h'.cell? (a.add j) = some w) → SpanE h' a x := by
  rintro a x _ rfl hc
  exact ⟨hc 0 _ rfl, hc 1 _ rfl⟩
theorem spanTold {h : Cells} : ToldE SpanE SpanEnc 2 h := by
  rintro a x ⟨h1, h2⟩
  refine ⟨_, rfl, rfl, fun j w hj => ?_, fun w hw => by simp at hw; rcases hw with rfl | rfl <;> rfl⟩
  match j, hj with
  | 0, hj => cases hj; exact h1
  | 1, hj => cases hj; exact h2
  | j + 2, hj => simp at hj
theorem row_stands {h h' : Cells} {r : Nat} {cs : Array Value} {el : TypeId} {ws : List Value} (hr : h r = some (true, .cells cs el (0, 0))) (hc : ∀ (j : Nat) w, ws[j]? = some w → cs[j]? = some w) (hk : h' r = h r) (j : Nat) (w : Value) (hj : ws[j]? = some w) : h'.cell? ((⟨r, 0, none⟩ : Addr).add j) = some w := by
  rw [add_plain, Nat.zero_add]
  unfold Cells.cell?
  rw [hk, hr]
  exact hc j w hj
section
variable {X : XP} {Q : Leaf → LH → Prop}
theorem copy_end1 {α : Type} {Enc : α → List Value → Prop} {h h₁ : LH} {K : Value → T} {tS el : TypeId} {s by_ : Nat} {z : Value} {p : Option Addr} {n c : Nat} {l : List α} {x : α} {ws : List Value} {r : Nat} {cs : Array Value} (hu : Tryd.prog.underlying tS = some (.slice el)) (hi : (Tryd.prog.info? el).map (fun i => (i.size, i.bytes, i.zero)) = some (s, by_, some z)) (hsz : z.cells.size = s) (hb : by_ ≤ 1024) (hn : n + 1 ≤ 2 ^ 30)
    (g : Growing Enc el s h.get h₁.get p n c l) (hle : h.le h₁) (he : Enc x ws) (hl : ws.length = s) (one : ∀ v ∈ ws, isOne v = true) (hr : h₁.get r = some (true, .cells cs el (0, 0))) (hc : ∀ (j : Nat) w, ws[j]? = some w → cs[j]? = some w)
    (hk : ∀ p' c' h', h.le h' → Growing Enc el s h.get h'.get p' (n + 1) c' (l ++ [x]) → (K (.slice p' (n + 1) c')).wp X Tryd.prog Q h') : (T.sem false (Builtin.append_ #[tS, tS] tS #[.slice p n c, .slice (some ⟨r, 0, none⟩) 1 1]) K).wp X Tryd.prog Q h₁ :=
  t_grow (h₀ := h) (x := x) (ws := ws) rfl rfl hu hu hi hsz hb hn g hle he hl (fun j v hj => row_stands hr hc rfl j v hj) one fun p' c' h' a _ b => hk p' c' h' a b
end
end Go.Proofs.YtldamlcehbdkdaaDoor
end
section
namespace Go.Proofs.YtldamlcehbdkdaaDoor
open Go Go.TM Go.Proofs
set_option linter.unusedVariables false
set_option maxRecDepth 100000
noncomputable def n1009 (u_0 : Int) (u_1 : Int) (u_2 : Int) (u_3 : Int) (u_4p : Option Addr) (u_4n u_4c : Nat) (u_5p : Option Addr) (u_5n u_5c : Nat) (u_6p : Option Addr) (u_6n u_6c : Nat) (land : Int) (day : Int) (c_0p : Option Addr) (c_0n c_0c : Nat) (c_1p : Option Addr) (c_1n c_1c : Nat) (start : Int) (short : Int) (long : Int) (unit : Int) (closure_0 : Int) (closure_1 : Int) (picksp : Option Addr) (picksn picksc : Nat) : T := .blk (.call false 5 #[.agg #[.int .i64 u_0, .int .i64 u_1, .int .i64 u_2, .int .i64 u_3, .slice u_4p u_4n u_4c, .slice u_5p u_5n u_5c, .slice u_6p u_6n u_6c]] fun v => .unB v fun b => bif !b then .call false 8 #[] fun v => .unB v fun b => .leaf (.retn [.bool b]) else .call false 6 #[.agg #[.slice c_0p c_0n c_0c, .slice c_1p c_1n c_1c]] fun v => .unB v fun b => bif b then .call false 8 #[] fun v => .unB v fun b => .leaf (.retn [.bool b]) else .call false 7 #[.agg #[.slice c_0p c_0n c_0c, .slice c_1p c_1n c_1c]] fun v => .unI .i64 v fun n => bif n != 0 then .call false 8 #[] fun v => .unB v fun b => .leaf (.retn [.bool b]) else .leaf (.again [.bool false])) (fun vs => .popB vs fun b vs => .unNil vs (.need (u_1 ≠ 0) (.call false 9 #[.int .u16 day] fun v => .unI .i64 v fun n => .need (u_1 ≠ 0) (.nd (.int .i64 (Int.tmod (IntKind.wrap .i64 land) u_1)) (.nd (.int .i64 u_1) (.need (AV.pp 10 1 = AV.pp 10 1) (.nd (.int .i64 (IntKind.wrap .i64 land)) (.nd (.int .u8 land) (.need ((3 : Int) ≠ 0) (.call false 10 #[.agg #[.slice c_0p c_0n c_0c, .slice c_1p c_1n c_1c], .int .i64 (IntKind.wrap .i64 start), .agg #[.int .i64 (IntKind.wrap .i64 (if long < short then long else short)), .int .i64 (IntKind.wrap .i64 (Int.tmod unit 3))]] fun v => .unTup v fun l => .unCons l fun v vs => .unI .i64 v fun n_1 => .unCons vs fun v vs => .unI .i64 v fun n_2 => .unNil vs (.call false 10 #[.agg #[.slice c_0p c_0n c_0c, .slice c_1p c_1n c_1c], .int .i64 (IntKind.wrap .i64 start), .agg #[.int .i64 (IntKind.wrap .i64 (if long > short then long else short)), .int .i64 (IntKind.wrap .i64 (Int.tmod unit 3))]] fun v => .unTup v fun l => .unCons l fun v vs => .unI .i64 v fun n_3 => .unCons vs fun v vs => .unI .i64 v fun n_4 => .unNil vs (.blk (bif n_2 != 0 then .nd (.bool (n_2 != 0)) (.nd (.int .i64 n_2) (.nd (.tuple #[]) (.nd (.tuple #[]) (.nd (.tuple #[]) (.nd (.tuple #[]) (.nd (.tuple #[]) (.nd (.bool true) (.nd (.bool (n_2 != 0)) (.nd (.int .i64 n_2) (.nd (.tuple #[]) (.nd (.tuple #[]) (.nd (.bool true) (.nd (.bool (n_2 != 0)) (.nd (.int .i64 n_2) (.nd (.bool true) (.nd (.bool (n_2 != 0)) (.nd (.int .i64 n_2) (.nd (.bool true) (.nd (.bool (n_2 != 0)) (.nd (.int .i64 n_2) (.leaf (.retn [.bool false])))))))))))))))))))))) else bif n_4 != 0 then .nd (.tuple #[]) (.nd (.tuple #[]) (.nd (.tuple #[]) (.nd (.tuple #[]) (.nd (.tuple #[]) (.nd (.bool (n_4 != 0)) (.nd (.bool (n_4 != 0)) (.nd (.int .i64 n_4) (.need (AV.val (.bool (n_2 != 0)) = AV.val (.bool false)) (.nd (.bool (n_2 != 0)) (.nd (.int .i64 n_2) (.nd (.tuple #[]) (.nd (.tuple #[]) (.nd (.bool (n_4 != 0)) (.nd (.bool (n_4 != 0)) (.nd (.int .i64 n_4) (.need (AV.val (.bool (n_2 != 0)) = AV.val (.bool false)) (.nd (.bool (n_2 != 0)) (.nd (.int .i64 n_2) (.nd (.bool (n_4 != 0)) (.nd (.bool (n_4 != 0)) (.nd (.int .i64 n_4) (.need (AV.val (.bool (n_2 != 0)) = AV.val (.bool false)) (.nd (.bool (n_2 != 0)) (.nd (.int .i64 n_2) (.nd (.bool (n_4 != 0)) (.nd (.bool (n_4 != 0)) (.nd (.int .i64 n_4) (.need (AV.val (.bool (n_2 != 0)) = AV.val (.bool false)) (.nd (.bool (n_2 != 0)) (.nd (.int .i64 n_2) (.leaf (.retn [.bool false])))))))))))))))))))))))))))))))) else .call false 12 #[.agg #[.int .i64 u_0, .int .i64 u_1, .int .i64 u_2, .int .i64 u_3, .slice u_4p u_4n u_4c, .slice u_5p u_5n u_5c, .slice u_6p u_6n u_6c], .int .i64 n_3, .slice picksp picksn picksc] fun v => .unAgg v fun l => .popI .i64 l fun n_5 vs => .popI .i64 vs fun n_6 vs => .popI .i64 vs fun n_7 vs => .popI .i64 vs fun n_8 vs => .popS vs fun a n_9 c vs => .popS vs fun a_1 n_10 c_1 vs => .popS vs fun a_2 n_11 c_2 vs => .unNil vs (.nd (.int .i64 n) (.nd (.int .i64 (Int.tmod (IntKind.wrap .i64 land) u_1)) (.nd (.slice picksp picksn picksc) (.nd (.int .i64 n_1) (.nd (.agg #[.int .i64 u_0, .int .i64 u_1, .int .i64 u_2, .int .i64 u_3, .slice u_4p u_4n u_4c, .slice u_5p u_5n u_5c, .slice u_6p u_6n u_6c]) (.nd (.bool (n_4 != 0)) (.nd (.bool (n_4 != 0)) (.nd (.int .i64 n_4) (.need (AV.val (.bool (n_2 != 0)) = AV.val (.bool false)) (.nd (.bool (n_2 != 0)) (.nd (.int .i64 n_2) (.call false 12 #[.agg #[.int .i64 u_0, .int .i64 u_1, .int .i64 u_2, .int .i64 u_3, .slice u_4p u_4n u_4c, .slice u_5p u_5n u_5c, .slice u_6p u_6n u_6c], .int .i64 n_1, .slice picksp picksn picksc] fun v => .unAgg v fun l => .popI .i64 l fun n_12 vs => .popI .i64 vs fun n_13 vs => .popI .i64 vs fun n_14 vs => .popI .i64 vs fun n_15 vs => .popS vs fun a_3 n_16 c_3 vs => .popS vs fun a_4 n_17 c_4 vs => .popS vs fun a_5 n_18 c_5 vs => .unNil vs (.nd (.int .i64 n) (.nd (.int .i64 (Int.tmod (IntKind.wrap .i64 land) u_1)) (.nd (.bool (n_4 != 0)) (.nd (.bool (n_4 != 0)) (.nd (.int .i64 n_4) (.need (AV.val (.bool (n_2 != 0)) = AV.val (.bool false)) (.nd (.bool (n_2 != 0)) (.nd (.int .i64 n_2) (.call false 11 #[.agg #[.int .i64 n_5, .int .i64 n_6, .int .i64 n_7, .int .i64 n_8, .slice a n_9 c, .slice a_1 n_10 c_1, .slice a_2 n_11 c_2], .agg #[.int .i64 n_12, .int .i64 n_13, .int .i64 n_14, .int .i64 n_15, .slice a_3 n_16 c_3, .slice a_4 n_17 c_4, .slice a_5 n_18 c_5], .int .i64 (Int.tmod (IntKind.wrap .i64 land) u_1), .int .i64 n] fun v => .unB v fun b_1 => .nd (.bool (n_4 != 0)) (.nd (.bool (n_4 != 0)) (.nd (.int .i64 n_4) (.need (AV.val (.bool (n_2 != 0)) = AV.val (.bool false)) (.nd (.bool (n_2 != 0)) (.nd (.int .i64 n_2) (bif !b_1 then .leaf (.retn [.bool false]) else .leaf (.again [.bool b]))))))))))))))))))))))))))))) (fun vs => .popB vs fun b vs => .unNil vs (.blk (.both (.sem false (Instr.buildSlice 22 0 #[]) fun v => .unS v fun a n c => .nd (.agg #[.int .i64 closure_0, .int .i64 closure_1]) (.nd (.slice c_1p c_1n c_1c) (.need (AV.pp 13 1 = AV.pp 13 1) (.both (.sem false (Builtin.append_ #[22, 22] 22 #[.slice a n c, .slice c_1p c_1n c_1c]) fun v => .unS v fun a n c => .nd (.agg #[.int .i64 closure_0, .int .i64 closure_1]) (.need (AV.pp 13 1 = AV.pp 13 1) (.sem false (Instr.buildSlice 22 1 #[(0, .agg #[.int .i64 closure_0, .int .i64 closure_1])]) fun v => .unS v fun a_1 n_5 c_1 => .need (AV.pp 13 1 = AV.pp 13 1) (.sem false (Builtin.append_ #[22, 22] 22 #[.slice a n c, .slice a_1 n_5 c_1]) fun v => .unS v fun a n c => .need (AV.pp 13 1 = AV.pp 13 1) (.leaf (.again [.slice c_0p c_0n c_0c, .slice a n c])))))) (.sem false (Instr.buildSlice 22 1 #[(0, .agg #[.int .i64 closure_0, .int .i64 closure_1])]) fun v => .unS v fun a_1 n_5 c_1 => .nd (.slice c_1p c_1n c_1c) (.need (AV.pp 13 1 = AV.pp 13 1) (.sem false (Builtin.append_ #[22, 22] 22 #[.slice a n c, .slice c_1p c_1n c_1c]) fun v => .unS v fun a n c => .need (AV.pp 13 1 = AV.pp 13 1) (.sem false (Builtin.append_ #[22, 22] 22 #[.slice a n c, .slice a_1 n_5 c_1]) fun v => .unS v fun a n c => .need (AV.pp 13 1 = AV.pp 13 1) (.leaf (.again [.slice c_0p c_0n c_0c, .slice a n c])))))))))) (.sem false (Instr.buildSlice 22 1 #[(0, .agg #[.int .i64 closure_0, .int .i64 closure_1])]) fun v => .unS v fun a n c => .nd (.slice c_1p c_1n c_1c) (.need (AV.pp 13 1 = AV.pp 13 1) (.sem false (Instr.buildSlice 22 0 #[]) fun v => .unS v fun a_1 n_5 c_1 => .nd (.slice c_1p c_1n c_1c) (.need (AV.pp 13 1 = AV.pp 13 1) (.sem false (Builtin.append_ #[22, 22] 22 #[.slice a_1 n_5 c_1, .slice c_1p c_1n c_1c]) fun v => .unS v fun a_2 n_6 c_2 => .need (AV.pp 13 1 = AV.pp 13 1) (.sem false (Builtin.append_ #[22, 22] 22 #[.slice a_2 n_6 c_2, .slice a n c]) fun v => .unS v fun a n c => .need (AV.pp 13 1 = AV.pp 13 1) (.leaf (.again [.slice c_0p c_0n c_0c, .slice a n c]))))))))) (fun vs => .popS vs fun a n_5 c vs => .popS vs fun a_1 n_6 c_1 vs => .unNil vs (.call false 7 #[.agg #[.slice a n_5 c, .slice a_1 n_6 c_1]] fun v => .unI .i64 v fun n_7 => bif n_7 != 0 then .call false 8 #[] fun v => .unB v fun b => .leaf (.ret (.bool b)) else .call false 10 #[.agg #[.slice a n_5 c, .slice a_1 n_6 c_1], .int .i64 (IntKind.wrap .i64 start), .agg #[.int .i64 (IntKind.wrap .i64 (if long < short then long else short)), .int .i64 (IntKind.wrap .i64 (Int.tmod unit 3))]] fun v => .unTup v fun l => .unCons l fun v vs => .unI .i64 v fun n_8 => .unCons vs fun v vs => .unI .i64 v fun n_9 => .unNil vs (bif n_9 == 0 then .call false 12 #[.agg #[.int .i64 u_0, .int .i64 u_1, .int .i64 u_2, .int .i64 u_3, .slice u_4p u_4n u_4c, .slice u_5p u_5n u_5c, .slice u_6p u_6n u_6c], .int .i64 n_8, .slice picksp picksn picksc] fun v => .unAgg v fun l => .popI .i64 l fun n_10 vs => .popI .i64 vs fun n_11 vs => .popI .i64 vs fun n_12 vs => .popI .i64 vs fun n_13 vs => .popS vs fun a n_14 c vs => .popS vs fun a_2 n_15 c_2 vs => .popS vs fun a_3 n_16 c_3 vs => .unNil vs (.nd (.int .i64 n) (.nd (.int .i64 (Int.tmod (IntKind.wrap .i64 land) u_1)) (.nd (.slice picksp picksn picksc) (.nd (.int .i64 n_1) (.nd (.agg #[.int .i64 u_0, .int .i64 u_1, .int .i64 u_2, .int .i64 u_3, .slice u_4p u_4n u_4c, .slice u_5p u_5n u_5c, .slice u_6p u_6n u_6c]) (.nd (.bool (n_9 == 0)) (.nd (.int .i64 n_9) (.call false 12 #[.agg #[.int .i64 u_0, .int .i64 u_1, .int .i64 u_2, .int .i64 u_3, .slice u_4p u_4n u_4c, .slice u_5p u_5n u_5c, .slice u_6p u_6n u_6c], .int .i64 n_1, .slice picksp picksn picksc] fun v => .unAgg v fun l => .popI .i64 l fun n_17 vs => .popI .i64 vs fun n_18 vs => .popI .i64 vs fun n_19 vs => .popI .i64 vs fun n_20 vs => .popS vs fun a_4 n_21 c_4 vs => .popS vs fun a_5 n_22 c_5 vs => .popS vs fun a_6 n_23 c_6 vs => .unNil vs (.nd (.int .i64 n) (.nd (.int .i64 (Int.tmod (IntKind.wrap .i64 land) u_1)) (.nd (.bool (n_9 == 0)) (.nd (.int .i64 n_9) (.call false 11 #[.agg #[.int .i64 n_10, .int .i64 n_11, .int .i64 n_12, .int .i64 n_13, .slice a n_14 c, .slice a_2 n_15 c_2, .slice a_3 n_16 c_3], .agg #[.int .i64 n_17, .int .i64 n_18, .int .i64 n_19, .int .i64 n_20, .slice a_4 n_21 c_4, .slice a_5 n_22 c_5, .slice a_6 n_23 c_6], .int .i64 (Int.tmod (IntKind.wrap .i64 land) u_1), .int .i64 n] fun v => .unB v fun b => .nd (.bool (n_9 == 0)) (.nd (.int .i64 n_9) (bif b then .call false 8 #[] fun v => .unB v fun b_1 => .nd (.bool b) (.nd (.bool (n_9 == 0)) (.nd (.int .i64 n_9) (.leaf (.ret (.bool b_1))))) else .nd (.bool b) (.nd (.bool (n_9 == 0)) (.nd (.int .i64 n_9) (.leaf (.ret (.bool false)))))))))))))))))))) else .nd (.tuple #[]) (.nd (.tuple #[]) (.nd (.tuple #[]) (.nd (.tuple #[]) (.nd (.tuple #[]) (.nd (.bool (n_9 == 0)) (.nd (.int .i64 n_9) (.nd (.tuple #[]) (.nd (.tuple #[]) (.nd (.bool (n_9 == 0)) (.nd (.int .i64 n_9) (.nd (.bool (n_9 == 0)) (.nd (.int .i64 n_9) (.nd (.bool false) (.nd (.bool (n_9 == 0)) (.nd (.int .i64 n_9) (.leaf (.ret (.bool false))))))))))))))))))))) (fun vs => .popS vs fun a n c vs => .popS vs fun a n c vs => .unNil vs (.leaf (.ret (.bool b)))) fun x x_1 => .fail)) (fun vs => .popB vs fun b vs => .unNil vs (.leaf (.ret (.bool b)))) fun x x_1 => .fail)))))))))))) (fun vs => .popB vs fun b vs => .unNil vs (.leaf (.ret (.bool b)))) fun x x_1 => .fail
theorem t1009 (u_0 : Int) (u_1 : Int) (u_2 : Int) (u_3 : Int) (u_4p : Option Addr) (u_4n u_4c : Nat) (u_5p : Option Addr) (u_5n u_5c : Nat) (u_6p : Option Addr) (u_6n u_6c : Nat) (land : Int) (day : Int) (c_0p : Option Addr) (c_0n c_0c : Nat) (c_1p : Option Addr) (c_1n c_1c : Nat) (start : Int) (short : Int) (long : Int) (unit : Int) (closure_0 : Int) (closure_1 : Int) (picksp : Option Addr) (picksn picksc : Nat) : ftree ({ P := Tryd.prog, priv := [10, 13, 18, 23, 24, 29], loops := [], joins := [{ id := 12, slots := [(122880, .slice), (122881, .slice)], ro := [10, 13, 18, 23, 24], outs := [] }, { id := 10, slots := [(20, .bool)], ro := [10, 13, 18, 23, 24], outs := [] }, { id := 3, slots := [(20, .bool)], ro := [10, 13, 18], outs := [] }] }) Tryd.f3 [.agg #[.int .i64 u_0, .int .i64 u_1, .int .i64 u_2, .int .i64 u_3, .slice u_4p u_4n u_4c, .slice u_5p u_5n u_5c, .slice u_6p u_6n u_6c], .int .u8 land, .int .u16 day, .agg #[.slice c_0p c_0n c_0c, .slice c_1p c_1n c_1c], .int .u8 start, .int .u8 short, .int .u8 long, .int .u8 unit, .agg #[.int .i64 closure_0, .int .i64 closure_1], .slice picksp picksn picksc] = n1009 u_0 u_1 u_2 u_3 u_4p u_4n u_4c u_5p u_5n u_5c u_6p u_6n u_6c land day c_0p c_0n c_0c c_1p c_1n c_1c start short long
    unit closure_0 closure_1 picksp picksn picksc := by kernel_rfl
theorem w1009 (u_0 : Int) (u_1 : Int) (u_2 : Int) (u_3 : Int) (u_4p : Option Addr) (u_4n u_4c : Nat) (u_5p : Option Addr) (u_5n u_5c : Nat) (u_6p : Option Addr) (u_6n u_6c : Nat) (land : Int) (day : Int) (c_0p : Option Addr) (c_0n c_0c : Nat) (c_1p : Option Addr) (c_1n c_1c : Nat) (start : Int) (short : Int) (long : Int) (unit : Int) (closure_0 : Int) (closure_1 : Int) (picksp : Option Addr) (picksn picksc : Nat) {X : XP} (hX : XOK X) {h : LH} {A : Value → LH → Prop} (hw : (n1009 u_0 u_1 u_2 u_3 u_4p u_4n u_4c u_5p u_5n u_5c u_6p u_6n u_6c land day c_0p c_0n c_0c c_1p c_1n c_1c start short long
    unit closure_0 closure_1 picksp picksn picksc).wp X Tryd.prog (retQ A) h) : FWK X Tryd.prog .normal 3 #[.agg #[.int .i64 u_0, .int .i64 u_1, .int .i64 u_2, .int .i64 u_3, .slice u_4p u_4n u_4c, .slice u_5p u_5n u_5c, .slice u_6p u_6n u_6c], .int .u8 land, .int .u16 day, .agg #[.slice c_0p c_0n c_0c, .slice c_1p c_1n c_1c], .int .u8 start, .int .u8 short, .int .u8 long, .int .u8 unit, .agg #[.int .i64 closure_0, .int .i64 closure_1], .slice picksp picksn picksc] h A := fwk_neat (t1009 u_0 u_1 u_2 u_3 u_4p u_4n u_4c u_5p u_5n u_5c u_6p u_6n u_6c land day c_0p c_0n c_0c c_1p c_1n c_1c start short long
    unit closure_0 closure_1 picksp picksn picksc) (by simp) (by kernel_rfl) (by kernel_rfl) hX hw
end Go.Proofs.YtldamlcehbdkdaaDoor
end
section
namespace Go.Proofs.YtldamlcehbdkdaaDoor
open Go Go.TM Go.Proofs
attribute [local irreducible] T.wp CV FWK
theorem calEnd_of {h h' : LH} {f : CalC} {c : CalD} {y : Span} (hc : CalR h.get f c) (hm : c.closures.length ≤ 6) {p : Option Addr} {n k : Nat} (hle : h.le h') (g : Growing SpanEnc 32 2 h.get h'.get p n k (c.closures ++ [y])) : CalEnd h f c y [.slice f.p0 f.n0 f.c0, .slice p n k] h' :=
  ⟨p, n, k, rfl, hle, (hc.le hle.1).closed, g.sl SpanEnc.len (by omega) SpanEnc.e (by simp; omega)⟩
theorem p50 {h : LH} {p : Option Addr} {n c : Nat} {l : List Int} (hl : Sl U16E 1 h.get p n l) (k : Nat) : FW X0 Tryd.prog 42 #[.slice p n c, .int .i64 k] h fun r h' => h = h' ∧ r = .int .i64 (l.getD k 0) ∧ 0 ≤ l.getD k 0 ∧ l.getD k 0 ≤ 65535 := by
  refine w50 _ _ _ _ X0_ok ?_
  unfold n50
  have hn := hl.1
  refine t_if (fun e => ?_) (fun e => ?_)
  · obtain ⟨x, a, hx, ha, e1, e2, e3⟩ := hl.at (i := k) (by omega)
    have hd : l.getD k 0 = x := by rw [List.getD_eq_getElem?_getD, hx]; rfl
    rw [hd]
    refine gZ ?_
    exact t_ret ⟨rfl, by rw [wrap_u16 ⟨e2, e3⟩], e2, e3⟩
  · have hd : l.getD k 0 = 0 := by rw [List.getD_eq_getElem?_getD, List.getElem?_eq_none (by omega)]; rfl
    rw [hd]
    exact t_ret ⟨rfl, rfl, by omega, by omega⟩
theorem inL_take {n : Nat} {b : Int} {picks : List Int} {i : Nat} (hi : i < n) : ((List.range n).take (i + 1)).filter (fun i => decide (picks.getD i 0 % 200 ≤ b)) = ((List.range n).take i).filter (fun i => decide (picks.getD i 0 % 200 ≤ b)) ++ (if decide (picks.getD i 0 % 200 ≤ b) then [i] else []) := by
  rw [List.take_add_one, List.getElem?_range hi, List.filter_append]
  congr 1
  simp only [Option.toList_some, List.filter_cons, List.filter_nil]
theorem c1041 {h : LH} {f : FileC} {u : UseFile} (hu : FileR h.get f u) (h8 : u.papers.length ≤ 8) (b : Int) {pp : Option Addr} {pn pc : Nat} {picks : List Int} (hpl : Sl U16E 1 h.get pp pn picks) :
    Gr Tryd.prog 12 #[fileV f u, .int .i64 b, .slice pp pn pc] h fun r h' => ∃ f', r = fileV f' (withP u (inL u.papers.length b picks)) ∧ FileR h'.get f' (withP u (inL u.papers.length b picks)) := by
  refine w1041 _ _ _ _ _ _ _ _ _ _ _ _ _ _ _ _ _ X0_ok ?_
  unfold n1041
  have hn5 := hu.papers.1
  refine t_loop (fun mm vs h' => h.le h' ∧ ∃ (i : Nat) (p : Option Addr) (n c : Nat), vs = [.slice p n c, .int .i64 i] ∧ i ≤ f.n5 ∧ mm = f.n5 - i ∧ Growing IntEnc 3 1 h.get h'.get p n c ((((List.range f.n5).take i).filter fun i => decide (picks.getD i 0 % 200 ≤ b)).map fun j : Nat => (j : Int)))
    ⟨LH.le_refl _, 0, none, 0, 0, rfl, Nat.zero_le _, rfl, Growing.nil⟩ ?_
  rintro Y mm vs h₁ hY ⟨hle, i, p, n, c, rfl, hi, rfl, g⟩
  refine gZ ?_
  refine t_if (fun e1 => ?_) (fun e1 => ?_)
  · have hst := inL_take (b := b) (picks := picks) (show i < f.n5 by omega)
    refine t_call (FW.top (p50 (hpl.le U16E.grow hle.1) i)) ?_
    rintro _ _ ⟨rfl, rfl, v1, v2⟩
    refine gZ ?_
    rw [tmod_nn v1]
    refine t_if (fun b1 => ?_) (fun b1 => ?_)
    · rw [if_pos (decide_eq_true b1)] at hst
      have hng := g.count IntEnc.len (by omega)
      rw [List.length_map] at hng
      have hlen : (((List.range f.n5).take i).filter fun i => decide (picks.getD i 0 % 200 ≤ b)).length ≤ 8 := Nat.le_trans (List.length_filter_le _ _) (by rw [List.length_take, List.length_range]; omega)
      refine t_pushI g hle (by omega) fun p' c' h₂ hle2 g2 => ?_
      refine gZ ?_
      refine t_again (hY (f.n5 - (i + 1)) _ _ (by omega) ⟨hle2, i + 1, p', n + 1, c', ?_, by omega, rfl, by rw [hst, List.map_append]; exact g2⟩)
      rw [wrap_id (by omega) (by omega)]; rfl
    · rw [if_neg (by simpa using b1), List.append_nil] at hst
      refine t_again (hY (f.n5 - (i + 1)) _ _ (by omega) ⟨hle, i + 1, p, n, c, ?_, by omega, rfl, by rw [hst]; exact g⟩)
      rw [wrap_id (by omega) (by omega)]; rfl
  · refine gZ ?_
    have htake : ((((List.range f.n5).take i).filter fun i => decide (picks.getD i 0 % 200 ≤ b)).map fun j : Nat => (j : Int)) = inL u.papers.length b picks := by
      rw [List.take_of_length_le (by simp; omega), hn5]; rfl
    rw [htake] at g
    have hin := inL_in (n := u.papers.length) (y := b) (picks := picks)
    have hng := g.count IntEnc.len (by omega)
    refine t_gr (c46 (hu.le hle.1) (g.sl IntEnc.len (by omega) IntEnc.e (by omega)) hin.1 (by omega)) ?_
    rintro _ h2 le2 ⟨f', rfl, ho⟩
    unfold fileV
    refine gZ ?_
    exact t_ret ⟨LH.le_trans hle le2, f', rfl, ho⟩
theorem unit_mod {u : Int} (hu : 0 ≤ u ∧ u ≤ 255) : IntKind.wrap .i64 (Int.tmod u 3) = u % 3 ∧ 0 ≤ u % 3 ∧ u % 3 ≤ 2 := by
  have h := mod_pos (n := u) (b := 3) (by omega)
  rw [tmod_nn hu.1, wrap_id (by omega) (by omega)]
  exact ⟨rfl, by omega, by omega⟩
set_option maxRecDepth 10000 in
theorem c1009 {h : LH} (hch : h.chans = []) (hpe : h.pend = []) (hls : Lens h.get) (hp : Parts h.get) {f : FileC} {u : UseFile} (hu : FileR h.get f u) (land : Int) (hl : 0 ≤ land ∧ land ≤ 255) (day : Int) (hd : 0 ≤ day ∧ day ≤ 65535)
    {g : CalC} {c : CalD} (hc : CalR h.get g c) (start : Int) (hs : 0 ≤ start ∧ start ≤ 255) (short : Int) (hsh : 0 ≤ short ∧ short ≤ 255) (long : Int) (hlo : 0 ≤ long ∧ long ≤ 255) (unit : Int) (hun : 0 ≤ unit ∧ unit ≤ 255) (ex : Span) {pp : Option Addr} {pn pc : Nat} {picks : List Int} (hpl : Sl U16E 1 h.get pp pn picks) :
    FW XT Tryd.prog 3 #[fileV f u, .int .u8 land, .int .u16 day, calV g, .int .u8 start, .int .u8 short, .int .u8 long, .int .u8 unit, .agg #[.int .i64 ex.first, .int .i64 ex.last], .slice pp pn pc] h (Fin h) := by
  refine w1009 _ _ _ _ _ _ _ _ _ _ _ _ _ _ _ _ _ _ _ _ _ _ _ _ _ _ _ _ _ _ XT_ok ?_
  unfold n1009
  refine t_blk (fun vs h' => vs = [.bool false] ∧ h = h' ∧ checkF u = 0 ∧ CalOk c) ?_ ?_
  · refine t_call (FW.top (c36 hu)) ?_
    rintro _ _ ⟨rfl, b, rfl, hb⟩
    refine gZ ?_
    refine t_cond (fun _ => ?_) (fun hbf => ?_)
    · refine t_shown hch hpe hp (LH.le_refl _) fun h' hh => ?_
      refine gI ?_
      refine gZ ?_
      exact t_ret ⟨rfl, hh⟩
    have hck := hb (by simpa using hbf)
    refine t_pu (c1038 g) ?_
    refine gZ ?_
    refine t_cond (fun _ => ?_) (fun _ => ?_)
    · refine t_shown hch hpe hp (LH.le_refl _) fun h' hh => ?_
      refine gI ?_
      refine gZ ?_
      exact t_ret ⟨rfl, hh⟩
    refine t_call (FW.top (c1039 hc)) ?_
    rintro _ _ ⟨rfl, w, rfl, hw⟩
    refine gZ ?_
    refine t_cond (fun _ => ?_) (fun e => ?_)
    · refine t_shown hch hpe hp (LH.le_refl _) fun h' hh => ?_
      refine gI ?_
      refine gZ ?_
      exact t_ret ⟨rfl, hh⟩
    · exact t_again ⟨rfl, rfl, hck, hw (by simpa using e)⟩
  rintro vs _ ⟨rfl, rfl, hck, ok⟩
  obtain ⟨⟨i1, i2⟩, ⟨l1, l2⟩, ⟨f1, f2⟩, ⟨d1, d2⟩⟩ := num_ok (check_num hck)
  have hl0 : u.lands ≠ 0 := by omega
  have h8 := (check_papers hck).1
  refine gZ ?_
  refine t_pu (c37 hd) ?_
  refine gZ ?_
  obtain ⟨eu, hu0, hu2⟩ := unit_mod hun
  rw [wrap_u8 hl, tmod_nn hl.1, wrap_u8 hs, eu]
  have hk := mod_pos (n := land) (b := u.lands) (by omega)
  have hday := mod_day (n := day)
  generalize land % u.lands = k at *
  generalize day % 2001 = d at *
  generalize unit % 3 = w at *
  have em : IntKind.wrap .i64 (if long < short then long else short) = (if long < short then long else short) := wrap_id (by split <;> omega) (by split <;> omega)
  have eM : IntKind.wrap .i64 (if long > short then long else short) = (if long > short then long else short) := wrap_id (by split <;> omega) (by split <;> omega)
  rw [em, eM]
  have hmn : 0 ≤ (if long < short then long else short) ∧ (if long < short then long else short) ≤ 999 := by split <;> omega
  have hmx : 0 ≤ (if long > short then long else short) ∧ (if long > short then long else short) ≤ 999 := by split <;> omega
  have hmm : (if long < short then long else short) ≤ (if long > short then long else short) := by split <;> split <;> omega
  generalize (if long < short then long else short) = a1 at *
  generalize (if long > short then long else short) = a2 at *
  refine t_gr (c1040 hls hc ok (s := start) ⟨hs.1, by omega⟩ hmn ⟨hu0, hu2⟩) ?_
  rintro _ h1 le1 ⟨x, rfl, hx⟩
  refine gZ ?_
  refine t_gr (c1040 (hls.le le1.1) (hc.le le1.1) ok (s := start) ⟨hs.1, by omega⟩ hmx ⟨hu0, hu2⟩) ?_
  rintro _ h2 le2 ⟨y, rfl, hy⟩
  refine gZ ?_
  have le02 := LH.le_trans le1 le2
  have hxy := hx.up hy hmm
  have checkW : ∀ b, checkF (withP u (inL u.papers.length b picks)) = 0 := fun b => check_with hck (Nat.le_trans inL_in.2 h8)
  refine t_blk (fun vs h' => vs = [.bool false] ∧ h.le h') ?_ ?_
  · refine t_cond (fun e => absurd e (by simp)) (fun _ => ?_)
    refine t_cond (fun e => absurd e (by simp)) (fun _ => ?_)
    refine t_gr (c1041 (hu.le le02.1) h8 y (hpl.le U16E.grow le02.1)) ?_
    rintro _ h3 le3 ⟨f3, rfl, ho3⟩
    have le03 := LH.le_trans le02 le3
    unfold fileV
    refine gZ ?_
    refine t_gr (c1041 (hu.le le03.1) h8 x (hpl.le U16E.grow le03.1)) ?_
    rintro _ h4 le4 ⟨f4, rfl, ho4⟩
    have le04 := LH.le_trans le03 le4
    unfold fileV
    refine gZ ?_
    refine t_gr (c43 (hp.le le04.1) (ho3.le le4.1) ho4 (checkW y) (checkW x) hk hk hday (in_time hck hxy k d)) ?_
    rintro _ h5 le5 rfl
    refine gZ ?_
    refine t_cond (fun e => absurd e (by simp)) (fun _ => ?_)
    exact t_again ⟨rfl, LH.le_trans le04 le5⟩
  rintro vs hB ⟨rfl, leB⟩
  clear le02 le2 le1
  refine gZ ?_
  have hcB := hc.le leB.1
  have hmany := ok.many
  have hn1 := hcB.closures.1
  refine t_blk (CalEnd hB g c ex) ?_ ?_
  · have ones : ∀ v ∈ [Value.int .i64 ex.first, .int .i64 ex.last], isOne v = true := by
      intro w hw; simp at hw; rcases hw with rfl | rfl <;> rfl
    have enc : SpanEnc ex [Value.int .i64 ex.first, .int .i64 ex.last] := rfl
    refine t_both ?_ ?_
    · refine t_build0G (h₀ := hB) (Enc := SpanEnc) und22 inf30 (LH.le_refl _) fun r0 h1 hr0 le1 g1 => ?_
      refine gZ ?_
      refine t_both ?_ ?_
      · refine t_copy (h₀ := hB) rfl rfl und22 und22 inf30 rfl (by omega) (by omega) g1 le1 (hcB.le le1.1).closures spanTold fun p2 c2 h3 le3 _ g2 => ?_
        refine gZ ?_
        refine t_buildG und22 inf30 (by decide) (by decide) (cells := #[.int .i64 ex.first, .int .i64 ex.last]) (by kernel_rfl) fun r h4 le4 hr4 e4 => ?_
        refine gZ ?_
        refine copy_end1 (h := hB) und22 inf30 rfl (by omega) (by omega) (g2.le le4.1) (LH.le_trans le3 le4) enc rfl ones e4 (fun j w hj => by simpa using hj) fun p' c' h' le' g' => ?_
        refine gZ ?_
        exact t_again (calEnd_of hcB hmany le' g')
      · refine t_buildG und22 inf30 (by decide) (by decide) (cells := #[.int .i64 ex.first, .int .i64 ex.last]) (by kernel_rfl) fun r h3 le3 hr3 e3 => ?_
        refine gZ ?_
        have le03 := LH.le_trans le1 le3
        refine t_copy (h₀ := hB) rfl rfl und22 und22 inf30 rfl (by omega) (by omega) (g1.le le3.1) le03 (hcB.le le03.1).closures spanTold fun p4 c4 h4 le4 kp g4 => ?_
        refine gZ ?_
        have hne : r ≠ r0 := by
          rintro rfl
          obtain ⟨vs, ⟨_, hh⟩, _⟩ := g1.row
          rcases hh with ⟨hh, _⟩ | ⟨r', cs, hh, h5, _⟩
          · cases hh
          · cases hh; rw [hr3] at h5; cases h5
        have e4 := kp r _ (fun a ha e => by cases ha; exact hne e.symm) e3
        refine copy_end1 (h := hB) und22 inf30 rfl (by omega) (by omega) g4 le4 enc rfl ones e4 (fun j w hj => by simpa using hj) fun p' c' h' le' g' => ?_
        refine gZ ?_
        exact t_again (calEnd_of hcB hmany le' g')
    · refine t_buildG und22 inf30 (by decide) (by decide) (cells := #[.int .i64 ex.first, .int .i64 ex.last]) (by kernel_rfl) fun r h1 le1 hr1 e1 => ?_
      refine gZ ?_
      refine t_build0G (h₀ := hB) (Enc := SpanEnc) und22 inf30 le1 fun r0 h3 hr0 le3 g3 => ?_
      refine gZ ?_
      have le03 := LH.le_trans le1 le3
      refine t_copy (h₀ := hB) rfl rfl und22 und22 inf30 rfl (by omega) (by omega) g3 le03 (hcB.le le03.1).closures spanTold fun p4 c4 h4 le4 kp g4 => ?_
      refine gZ ?_
      have hne : r ≠ r0 := by rintro rfl; rw [e1] at hr0; cases hr0
      have e4 := kp r _ (fun a ha e => by cases ha; exact hne e.symm) (le3.1 _ _ e1)
      refine copy_end1 (h := hB) und22 inf30 rfl (by omega) (by omega) g4 le4 enc rfl ones e4 (fun j w hj => by simpa using hj) fun p' c' h' le' g' => ?_
      refine gZ ?_
      exact t_again (calEnd_of hcB hmany le' g')
  rintro vs h3 ⟨p3, n3, k3, rfl, le3, ho⟩
  refine gZ ?_
  have le03 := LH.le_trans leB le3
  refine t_call (FW.top (c1039 ho)) ?_
  rintro _ _ ⟨rfl, w', rfl, hw'⟩
  refine gZ ?_
  refine t_cond (fun _ => ?_) (fun e => ?_)
  · refine t_shown hch hpe hp le03 fun h' hh => ?_
    refine gZ ?_
    exact t_ret ⟨rfl, hh⟩
  have ok' := hw' (by simpa using e)
  refine t_gr (c1040 (hls.le le03.1) ho ok' (s := start) ⟨hs.1, by omega⟩ hmn ⟨hu0, hu2⟩) ?_
  rintro _ h4 le4 ⟨z, rfl, hz⟩
  have le04 := LH.le_trans le03 le4
  have hz' : Te.EndsAt { c.cal with closures := c.cal.closures ++ [(ex.first, ex.last)] } start w a1 z := by
    have : ({ c with closures := c.closures ++ [ex] } : CalD).cal = { c.cal with closures := c.cal.closures ++ [(ex.first, ex.last)] } := by
      unfold CalD.cal; simp
    rw [← this]; exact hz
  have hxz := hx.closed hz'
  refine gZ ?_
  refine t_cond (fun _ => ?_) (fun e => absurd e (by simp))
  refine t_gr (c1041 (hu.le le04.1) h8 z (hpl.le U16E.grow le04.1)) ?_
  rintro _ h5 le5 ⟨f5, rfl, ho5⟩
  have le05 := LH.le_trans le04 le5
  unfold fileV
  refine gZ ?_
  refine t_gr (c1041 (hu.le le05.1) h8 x (hpl.le U16E.grow le05.1)) ?_
  rintro _ h6 le6 ⟨f6, rfl, ho6⟩
  have le06 := LH.le_trans le05 le6
  unfold fileV
  refine gZ ?_
  refine t_gr (c43 (hp.le le06.1) (ho5.le le6.1) ho6 (checkW z) (checkW x) hk hk hday (in_time hck hxz k d)) ?_
  rintro _ h7 le7 rfl
  refine gZ ?_
  refine t_cond (fun _ => ?_) (fun e => absurd e (by simp))
  refine t_shown hch hpe hp (LH.le_trans le06 le7) fun h' hh => ?_
  refine gZ ?_
  exact t_ret ⟨rfl, hh⟩
end Go.Proofs.YtldamlcehbdkdaaDoor
end
section
namespace Go.Proofs.YtldamlcehbdkdaaDoor
open Go Go.TM Go.Proofs Go.Proofs.YtldamlcehbdkdaaDoor.Tre Go.ChangeShapes Go.WideShapes Go.RowKit
set_option maxRecDepth 100000
theorem door_met (os : Os) (args : Array Value) : laidMetH Tryd.prog Rows.useTermsRow.laid ((World.doorLaid Tryd.prog 200 os).forCall (fun _ _ => 0) ⟨#[], args, []⟩).memory :=
  laidMetH_of_parts3 (fuel := 8) (laidMet_of_run' 8 (by kernel_rfl) (by kernel_rfl)) (by kernel_rfl) (by kernel_rfl)
theorem door_shaped (os : Os) (args : Array Value) : ((World.doorLaid Tryd.prog 200 os).forCall (fun _ _ => 0) ⟨#[], args, []⟩).Shaped Tryd.prog :=
  World.shaped_of_RefB (by kernel_rfl) (by kernel_rfl)
theorem useTerms_lifted (os : Os) (started : os.Started) (H : Type) (enc : TypeId × Value → H) :
    ReturnsInLeavingWide {} Tryd.checked os 3 .any (fun w args => (Rows.useTermsSpec.pre enc Tryd.prog Tryd.f3 [] false w args ∧ laidMetH Tryd.prog Rows.useTermsRow.laid w) ∧ sizedMet enc Tryd.prog Tryd.f3 (OpenSpec.ofChange Rows.useTermsSpec) false w args)
      (Rows.useTermsSpec.post enc Tryd.prog Tryd.f3 false true false false) := by
  refine row_leaving (C := Tryd.checked) (tb := 4) own started Tryd.func3 (by kernel_rfl) rfl lo ?_ (by kernel_rfl) Tryd.underlying4 ?_
    (ChangeSpec.witness_shaped (enc := enc) (C := Tryd.checked) (os := os) (X := fun w _ => laidMetH Tryd.prog Rows.useTermsRow.laid w) false (World.doorLaid Tryd.prog 200 os) #[noUse, .int .u8 0, .int .u16 0, .agg #[.slice none 0 0, .slice none 0 0], .int .u8 0, .int .u8 0, .int .u8 0, .int .u8 0, .agg #[.int .i64 0, .int .i64 0], .slice none 0 0] 8 rfl (door_shaped os _) (by kernel_rfl) (by kernel_rfl) (by kernel_rfl) (door_met os _)) ?_
  · exact fun t ht => of_decide_eq_true (List.all_eq_true.1 (show (Tryd.f3.params.toList.all fun t => decide (Tryd.prog.readableRec t = true ∧ t < Tryd.prog.types.size)) = true by kernel_rfl) t ht)
  · intro ds hd
    match ds, (show ds.length = 10 from hd) with
    | [d0, d1, d2, d3, d4, d5, d6, d7, d8, d9], _ => rfl
  · intro W base args ds ps hval0 hA0 hz0 hL
    have hval : ∀ (j : Nat) t v, Tryd.f3.params[j]? = some t → args[j]? = some v → Value.okWide Tryd.prog W .any base t v := hval0
    have hz : ∀ (j : Nat) t d, Tryd.f3.params.toList[j]? = some t → ds[j]? = some d → Light Tryd.prog t d := hz0
    have hA : DataW.TrodAll enc Tryd.prog W 0 (fun _ => true) true Tryd.f3.params.toList args.toList ds ps := hA0
    rw [Tryd.params3] at hval hz hA
    obtain ⟨v0, v1, v2, v3, v4, v5, v6, v7, v8, v9, d0, d1, d2, d3, d4, d5, d6, d7, d8, d9, q00, q01, q02, q03, q04, q05, q06, q07, q08, q09, rfl, rfl, rfl, h0, h1, h2, h3, h4, h5, h6, h7, h8, h9⟩ := trodAll10 hA
    obtain ⟨f0, u0, rfl, hu0⟩ := file_arg UT (hval 0 26 v0 rfl rfl) (hz 0 26 d0 rfl rfl) h0
    obtain ⟨x1, rfl, _, _, w1⟩ := open_int und5 (hval 1 5 v1 rfl rfl) h1
    obtain ⟨x2, rfl, _, _, w2⟩ := open_int und57 (hval 2 27 v2 rfl rfl) h2
    obtain ⟨f3, u3, rfl, hu3⟩ := cal_arg UT DT (hval 3 30 v3 rfl rfl) (hz 3 30 d3 rfl rfl) h3
    obtain ⟨x4, rfl, _, _, w4⟩ := open_int und5 (hval 4 5 v4 rfl rfl) h4
    obtain ⟨x5, rfl, _, _, w5⟩ := open_int und5 (hval 5 5 v5 rfl rfl) h5
    obtain ⟨x6, rfl, _, _, w6⟩ := open_int und5 (hval 6 5 v6 rfl rfl) h6
    obtain ⟨x7, rfl, _, _, w7⟩ := open_int und5 (hval 7 5 v7 rfl rfl) h7
    obtain ⟨x8, rfl⟩ := span_arg UT (hval 8 32 v8 rfl rfl) (hz 8 32 d8 rfl rfl) h8
    obtain ⟨p9, n9, k9, l9, rfl, s9⟩ := u16s_arg und58 und57 cells57 bytes57 (hval 9 33 v9 rfl rfl) (hz 9 33 d9 rfl rfl) h9
    exact FW.mono (c1009 (h := ⟨getW W, [], [], []⟩) rfl rfl (lens_of_laid hL (by repeat first | exact List.Mem.head _ | apply List.Mem.tail)) (parts_of_laid hL (by repeat first | exact List.Mem.head _ | apply List.Mem.tail)) hu0 x1 (wf_u8 w1) x2 (wf_u16 w2) hu3 x4 (wf_u8 w4) x5 (wf_u8 w5) x6 (wf_u8 w6) x7 (wf_u8 w7) x8 s9) fun r h' hq => ⟨hq.1, hq.2.2.1⟩
theorem useTerms_row : Rows.UseTermsSaid :=
  OpenClaim.holds_of_wide_leaving 3 Tryd.f3 rfl rfl rfl rfl rfl rfl rfl ⟨rfl, rfl, rfl, rfl, rfl⟩ rfl rfl rfl rfl rfl (by kernel_rfl) Tryd.func3 (by kernel_rfl)
    (of_decide_eq_true (by kernel_rfl)) (by unfold Func.isWrapper; first | (rw [if_pos (by decide +kernel)]; kernel_rfl) | (rw [if_neg (by decide +kernel)]; exact ⟨rfl, rfl⟩))
    (fun os started H enc _ => useTerms_lifted os started H enc)
theorem useTerms_holds : Rows.UseTermsCardSaid :=
  card_goes [.data, .funcs] true Rows.useTermsCard.stood.harness false useTerms_row (by kernel_rfl) useTerms_row_tie rfl ⟨rfl, rfl⟩ (by kernel_rfl) rfl
    (fun f fn hf hfn => by
      obtain rfl : f = 3 := Option.some.inj ((show Tryd.prog.funcNamed Rows.useTermsRow.func = some 3 by kernel_rfl).symm.trans hf) |>.symm
      obtain rfl : fn = Tryd.f3 := (Option.some.inj (Tryd.func3.symm.trans hfn)).symm
      exact ⟨by kernel_rfl, fun j t ht => by
        have hm := Array.mem_of_getElem? ht
        have := of_decide_eq_true (List.all_eq_true.1 (show (Tryd.f3.params.toList.all fun t => decide (Tryd.prog.wantsStandIn t = false)) = true by kernel_rfl) t (Array.mem_toList_iff.2 hm))
        exact this⟩)
    (by kernel_rfl)
end Go.Proofs.YtldamlcehbdkdaaDoor
end
#print axioms Go.Proofs.YtldamlcehbdkdaaDoor.useTerms_holds

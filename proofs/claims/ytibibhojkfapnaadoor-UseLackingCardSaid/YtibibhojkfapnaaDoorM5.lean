/- For every file, land, day and days of the windows the law UseLacking returns true: what is lacking is lacking, there is none just if all is always left, and once papers show it there is none. The tied card; no further condition. -/
import Derived.Test.YtibibhojkfapnaaDoorM4
set_option linter.all false
section
namespace Go.Proofs.YtibibhojkfapnaaDoor
open Go Go.TM Go.Proofs
attribute [local irreducible] T.wp CV FWK
def Sent (u : UseFile) (land day : Int) (i : Nat) (v : Value) (hv : Cells) : Prop :=
  if enoughB u land day (subsetL u.papers.length i) (leftAll u land day) then ∃ a n c, v = .slice (some a) n c ∧ Sl IntE 1 hv (some a) n (subsetL u.papers.length i) ∧ n ≤ c else v = .slice none 0 0
theorem subset_in {n i : Nat} : ∀ v ∈ subsetL n i, 0 ≤ v ∧ v < (n : Int) := by
  intro v hv
  unfold subsetL at hv
  obtain ⟨j, hj, rfl⟩ := List.mem_map.1 hv
  have := List.mem_range.1 (List.mem_filter.1 hj).1
  omega
theorem subset_len {n i : Nat} : (subsetL n i).length ≤ n := by
  unfold subsetL
  rw [List.length_map]
  exact Nat.le_trans (List.length_filter_le _ _) (by simp)
theorem bit_test {i j : Nat} (hi : i < 2 ^ 32) : (IntKind.wrap .i64 (((BitVec.ofInt 64 (Int.fdiv (i : Int) (2 ^ min (j : Int).toNat 64)) &&& BitVec.ofInt 64 1).toNat : Nat) : Int) == 1) = i.testBit j := by
  have hq : ∃ q : Nat, Int.fdiv (i : Int) (2 ^ min (j : Int).toNat 64) = (q : Int) ∧ q ≤ i ∧ q % 2 = (i / 2 ^ j) % 2 := by
    by_cases hj : j ≤ 64
    · have hm : min (j : Int).toNat 64 = j := by simp; omega
      refine ⟨i / 2 ^ j, ?_, Nat.div_le_self _ _, rfl⟩
      rw [hm]
      have : (2 ^ j : Int) = ((2 ^ j : Nat) : Int) := by simp
      rw [this, ← Int.ofNat_fdiv]
    · have hm : min (j : Int).toNat 64 = 64 := by simp; omega
      refine ⟨0, ?_, Nat.zero_le _, ?_⟩
      · rw [hm]
        have : (2 ^ 64 : Int) = ((2 ^ 64 : Nat) : Int) := by simp
        rw [this, ← Int.ofNat_fdiv]
        have : i / 2 ^ 64 = 0 := Nat.div_eq_of_lt (by omega)
        rw [this]
      · have : i / 2 ^ j = 0 := Nat.div_eq_of_lt (Nat.lt_of_lt_of_le hi (Nat.pow_le_pow_right (by omega) (by omega)))
        rw [this]
  obtain ⟨q, h1, h2, h3⟩ := hq
  rw [h1]
  have a1 : (BitVec.ofInt 64 (q : Int)).toNat = q := by rw [BitVec.toNat_ofInt]; omega
  have a2 : (BitVec.ofInt 64 1).toNat = 1 := rfl
  rw [BitVec.toNat_and, a1, a2, Nat.and_one_is_mod, wrap_id (by omega) (by omega), Nat.testBit_eq_decide_div_mod_eq, ← h3]
  by_cases e : q % 2 = 1
  · rw [e]; rfl
  · have : q % 2 = 0 := by omega
    rw [this]; rfl
theorem subset_take {n i j : Nat} (hj : j < n) : ((List.range n).take (j + 1)).filter (fun j => i.testBit j) = ((List.range n).take j).filter (fun j => i.testBit j) ++ (if i.testBit j then [j] else []) := by
  rw [List.take_succ_eq_append_getElem (by simpa using hj), List.filter_append]
  congr 1
  simp [List.filter_cons]
theorem c74 {hc : Cells} {c0 i : Nat} {z0 z1 z2 z3 z4 z5 : Addr} {f : FileC} {u : UseFile} {land day : Int} (hp : Parts hc) (hu : FileR hc f u) (hat : FileAt hc z0 f u) (hpap : u.papers.length ≤ 8) (hi : i < 2 ^ 32) (h1 : hc.cell? z1 = some (.int .i64 (i : Int))) (h2 : hc.cell? z2 = some (.int .i64 land)) (h3 : hc.cell? z3 = some (.int .i64 day))
    {ap : Option Addr} {an ac : Nat} (h4 : hc.cell? z4 = some (.slice ap an ac)) (hal : Sl IntE 1 hc ap an (leftAll u land day)) (h5 : hc.cell? z5 = some (.chan (some c0))) :
    FWK XW Tryd.prog .deferred 74 #[.pointer (some z0), .pointer (some z1), .pointer (some z2), .pointer (some z3), .pointer (some z4), .pointer (some z5)] ⟨hc, [], [], [(c0, Sent u land day i)]⟩ fun _ _ => False := by
  refine w74 _ _ _ _ _ _ XW_ok ?_
  unfold n74
  have hn5 := hu.papers.1
  refine t_build0 und50 inf3 fun b0 hb0 => ?_
  have le0 : LH.le ⟨hc, [], [], [(c0, Sent u land day i)]⟩ _ := LH.upd_le (x := (true, .cells #[] 3 (0, 0))) hb0
  (repeat (first | (with_reducible first | apply gA | apply gB | apply gC | apply gD | apply gE | apply gF | apply gG | apply gH | apply gI | apply gJ | apply gK | apply gL | apply gM | apply gN | apply gO | apply gP | apply gQ | apply gR) | ((with_reducible first | apply gT | apply gS2); first | exact rfl | assumption | omega | exact ⟨⟩) | ((with_reducible first | apply gL0 | apply gL1 | apply gL2 | apply gL3 | apply gL4); assumption)))
  have g5 := Cells.cell?_le le0.1 hat.f5
  refine gL1 g5 ?_
  refine t_loop (fun mm vs h' => LH.le ⟨hc, [], [], [(c0, Sent u land day i)]⟩ h' ∧ ∃ (j : Nat) (a : Addr) (n c : Nat), vs = [.slice (some a) n c, .int .i64 j] ∧ j ≤ f.n5 ∧ mm = f.n5 - j ∧ Growing IntEnc 3 1 hc h'.get (some a) n c (((List.range u.papers.length).take j).filter (fun j => i.testBit j) |>.map fun j : Nat => (j : Int)))
    ⟨le0, 0, _, 0, 0, rfl, Nat.zero_le _, rfl, ⟨[], ⟨rfl, .inr ⟨b0, #[], rfl, Cells.upd_self _ _ _, rfl, Nat.le_refl _, fun j v hv => by simp at hv⟩⟩, .nil⟩, fun a ha => by cases ha; exact hb0⟩ ?_
  rintro Y mm vs h₁ hY ⟨hle, j, a, n, c, rfl, hj, rfl, g⟩
  (repeat (first | (with_reducible first | apply gA | apply gB | apply gC | apply gD | apply gE | apply gF | apply gG | apply gH | apply gI | apply gJ | apply gK | apply gL | apply gM | apply gN | apply gO | apply gP | apply gQ | apply gR) | ((with_reducible first | apply gT | apply gS2); first | exact rfl | assumption | omega | exact ⟨⟩) | ((with_reducible first | apply gL0 | apply gL1 | apply gL2 | apply gL3 | apply gL4); assumption)))
  refine t_if (fun e1 => ?_) (fun e1 => ?_)
  · have k1 := Cells.cell?_le hle.1 h1
    refine gL0 k1 ?_
    (repeat (first | (with_reducible first | apply gA | apply gB | apply gC | apply gD | apply gE | apply gF | apply gG | apply gH | apply gI | apply gJ | apply gK | apply gL | apply gM | apply gN | apply gO | apply gP | apply gQ | apply gR) | ((with_reducible first | apply gT | apply gS2); first | exact rfl | assumption | omega | exact ⟨⟩) | ((with_reducible first | apply gL0 | apply gL1 | apply gL2 | apply gL3 | apply gL4); assumption)))
    rw [bit_test hi]
    have hst := subset_take (n := u.papers.length) (i := i) (j := j) (by omega)
    refine t_cond (fun b => ?_) (fun b => ?_)
    · rw [if_pos b] at hst
      refine t_build und50 inf3 (by decide) (by decide) (cells := #[.int .i64 (j : Int)]) (by kernel_rfl) fun r hr => ?_
      have le2 : h₁.le _ := LH.upd_le (x := (true, .cells #[.int .i64 (j : Int)] 3 (0, 0))) hr
      have hng := g.count IntEnc.len (by omega)
      have hlen : (((List.range u.papers.length).take j).filter (fun j => i.testBit j)).length ≤ 8 := Nat.le_trans (List.length_filter_le _ _) (by rw [List.length_take, List.length_range]; omega)
      rw [List.length_map] at hng
      (repeat (first | (with_reducible first | apply gA | apply gB | apply gC | apply gD | apply gE | apply gF | apply gG | apply gH | apply gI | apply gJ | apply gK | apply gL | apply gM | apply gN | apply gO | apply gP | apply gQ | apply gR) | ((with_reducible first | apply gT | apply gS2); first | exact rfl | assumption | omega | exact ⟨⟩) | ((with_reducible first | apply gL0 | apply gL1 | apply gL2 | apply gL3 | apply gL4); assumption)))
      refine t_grow (h₀ := ⟨hc, [], [], [(c0, Sent u land day i)]⟩) (x := (j : Int)) (ws := [.int .i64 (j : Int)]) rfl rfl und50 und50 inf3 rfl (by omega) (by omega) (g.le le2.1) (LH.le_trans hle le2) rfl rfl ?_ ?_ ?_
      · intro j w hj
        rw [add_plain, Nat.zero_add]
        exact cell_upd (by simpa using hj)
      · intro w hw; simp at hw; subst hw; rfl
      · intro p' c' h₂ hle2 _ g2
        (repeat (first | (with_reducible first | apply gA | apply gB | apply gC | apply gD | apply gE | apply gF | apply gG | apply gH | apply gI | apply gJ | apply gK | apply gL | apply gM | apply gN | apply gO | apply gP | apply gQ | apply gR) | ((with_reducible first | apply gT | apply gS2); first | exact rfl | assumption | omega | exact ⟨⟩) | ((with_reducible first | apply gL0 | apply gL1 | apply gL2 | apply gL3 | apply gL4); assumption)))
        obtain ⟨a', rfl⟩ : ∃ a', p' = some a' := by
          obtain ⟨vs, ⟨_, h6⟩, _⟩ := g2.row
          rcases h6 with ⟨_, h7, _⟩ | ⟨r, cs, h7, _⟩
          · omega
          · exact ⟨_, h7⟩
        refine t_again (hY (f.n5 - (j + 1)) _ _ (by omega) ⟨hle2, j + 1, a', n + 1, c', ?_, by omega, rfl, by rw [hst, List.map_append]; exact g2⟩)
        rw [wrap_id (by omega) (by omega)]; rfl
    · rw [if_neg (by rw [b]; simp), List.append_nil] at hst
      refine t_again (hY (f.n5 - (j + 1)) _ _ (by omega) ⟨hle, j + 1, a, n, c, ?_, by omega, rfl, by rw [hst]; exact g⟩)
      rw [wrap_id (by omega) (by omega)]; rfl
  · (repeat (first | (with_reducible first | apply gA | apply gB | apply gC | apply gD | apply gE | apply gF | apply gG | apply gH | apply gI | apply gJ | apply gK | apply gL | apply gM | apply gN | apply gO | apply gP | apply gQ | apply gR) | ((with_reducible first | apply gT | apply gS2); first | exact rfl | assumption | omega | exact ⟨⟩) | ((with_reducible first | apply gL0 | apply gL1 | apply gL2 | apply gL3 | apply gL4); assumption)))
    have htake : (((List.range u.papers.length).take j).filter (fun j => i.testBit j) |>.map fun j : Nat => (j : Int)) = subsetL u.papers.length i := by
      rw [List.take_of_length_le (by simp; omega)]; rfl
    rw [htake] at g
    obtain ⟨g0, g1, g2, g3, g4, g5, g6⟩ := hat.le hle.1
    have k2 := Cells.cell?_le hle.1 h2
    have k3 := Cells.cell?_le hle.1 h3
    have k4 := Cells.cell?_le hle.1 h4
    have k5 := Cells.cell?_le hle.1 h5
    (repeat (first | (with_reducible first | apply gA | apply gB | apply gC | apply gD | apply gE | apply gF | apply gG | apply gH | apply gI | apply gJ | apply gK | apply gL | apply gM | apply gN | apply gO | apply gP | apply gQ | apply gR) | ((with_reducible first | apply gT | apply gS2); first | exact rfl | assumption | omega | exact ⟨⟩) | ((with_reducible first | apply gL0 | apply gL1 | apply gL2 | apply gL3 | apply gL4); assumption)))
    have hsub := subset_len (n := u.papers.length) (i := i)
    have hll : (leftAll u land day).length = u.items.toNat := by unfold leftAll; rw [List.length_map, List.length_range]
    refine t_gr (c71 (hp.le hle.1) (hu.le hle.1) land day (g.sl IntEnc.len (by omega) IntEnc.e (by omega)) subset_in (by omega) (hal.le IntE.grow hle.1) hll) ?_
    rintro _ h₂ le2 rfl
    have k5 := Cells.cell?_le le2.1 k5
    (repeat (first | (with_reducible first | apply gA | apply gB | apply gC | apply gD | apply gE | apply gF | apply gG | apply gH | apply gI | apply gJ | apply gK | apply gL | apply gM | apply gN | apply gO | apply gP | apply gQ | apply gR) | ((with_reducible first | apply gT | apply gS2); first | exact rfl | assumption | omega | exact ⟨⟩) | ((with_reducible first | apply gL0 | apply gL1 | apply gL2 | apply gL3 | apply gL4); assumption)))
    have hle2 := LH.le_trans hle le2
    refine t_cond (fun b => ?_) (fun b => ?_)
    · refine t_loadC k5 ?_
      refine t_comm ?_
      refine commW_send (z := .tuple #[]) (φ := Sent u land day i) (s := []) (hv := fun _ => none) (hr := h₂.get) hle2.2.2.2 ?_ (fun r => .inl rfl) (fun r x hx => by cases hx) ?_ (fun _ => rfl) (fun h => absurd rfl h)
      · funext r; rfl
      · have b' : enoughB u land day (subsetL u.papers.length i) (leftAll u land day) = false := by simpa using b
        unfold Sent; rw [if_neg (by rw [b']; simp)]
    · refine t_loadC k5 ?_
      refine t_comm ?_
      have g7 := g.le le2.1
      obtain ⟨vs, ⟨o1, o2⟩, rows⟩ := g7.row
      rcases o2 with ⟨o3, _⟩ | ⟨r, cs, o3, o4, o5, o6, o7⟩
      · cases o3
      · cases o3
        refine commW_send (z := .tuple #[]) (φ := Sent u land day i) (s := []) (hv := fun b => if b = r then h₂.get b else none) (hr := fun b => if b = r then none else h₂.get b) hle2.2.2.2 ?_ (fun b => ?_) (fun b x hx => ?_) ?_ (fun _ => rfl) (fun h => absurd rfl h)
        · funext b
          unfold Cells.add
          by_cases e : b = r
          · subst e; simp [o4]
          · simp [e]
        · by_cases e : b = r
          · right; simp [e]
          · left; simp [e]
        · have hx' : (if b = r then h₂.get b else none) = some x := hx
          split at hx'
          · rename_i e; subst e; rw [o4] at hx'; cases hx'; rfl
          · cases hx'
        · have b' : enoughB u land day (subsetL u.papers.length i) (leftAll u land day) = true := by simpa using b
          unfold Sent; rw [if_pos b']
          refine ⟨_, _, _, rfl, ?_, o6⟩
          refine rows.sl IntEnc.len (by omega) IntEnc.e (el := 3) ⟨o1, .inr ⟨r, cs, rfl, ?_, o5, o6, o7⟩⟩ (by omega)
          show (if r = r then h₂.get r else none) = _
          rw [if_pos rfl]; exact o4
end Go.Proofs.YtibibhojkfapnaaDoor
end
section
namespace Go.TM
open Go Go.Conc
variable {P : Program}
theorem t_newSt {X : XP} {Q : Leaf → LH → Prop} {h : LH} {e : TypeId} {v₀ v : Value} {k : Nat → T} (h1 : isOne v = true) (hk : ∀ r, h.get r = none → (k r).wp X P Q { h with get := h.get.upd r (true, .cells #[v] e (0, 0)) }) :
    (T.new e #[v₀] fun r => T.store (Addr.add ⟨r, 0, none⟩ 0) v (k r)).wp X P Q h := by
  refine t_new fun r hr => ?_
  have own1 : (h.get.upd r (true, .cells #[v₀] e (0, 0))) r = some (true, .cells #[v₀] e (0, 0)) := Cells.upd_self _ _ _
  refine t_store h1 ⟨_, own1⟩ (v₀ := v₀) (by show Cells.cell? _ _ = _; exact cell_upd rfl) (Go.Proofs.YtibibhojkfapnaaDoor.frozen_plain (i := 0) own1) ?_
  have hset : (h.get.upd r (true, .cells #[v₀] e (0, 0))).setCell (Addr.add ⟨r, 0, none⟩ 0) v = h.get.upd r (true, .cells #[v] e (0, 0)) := by
    show Cells.setCell _ ⟨r, 0, none⟩ v = _
    rw [Go.Proofs.YtibibhojkfapnaaDoor.setCell_upd own1]
    funext b; unfold Cells.upd; by_cases e : b = r <;> simp [e]
  simp only [hset]
  exact hk r hr
theorem cell_freeze (F : Nat → Bool) (h : Cells) (a : Addr) : (freezeC F h).cell? a = h.cell? a := by
  unfold Cells.cell? freezeC
  cases h a.block with
  | none => rfl
  | some x => obtain ⟨m, o⟩ := x; cases o <;> rfl
theorem rd_freeze (F : Nat → Bool) (h : Cells) : Rd h (freezeC F h) := fun a v hc => by rw [cell_freeze]; exact hc
theorem rd_drop {h : Cells} {c s : Nat} (hs : h c = some (true, .chan 0 #[] false s s false)) : Rd h (dropC h c) := by
  intro a v hc
  unfold Cells.cell? dropC at *
  by_cases e : a.block = c
  · rw [e, hs] at hc; cases hc
  · rw [if_neg e]; exact hc
def Hand (c0 : Nat) (h : LH) : Prop := (h.chans = [] ∧ ∃ s, h.get c0 = some (true, .chan 0 #[] false s s false)) ∨ h.chans = [c0]
theorem spawnW_all {f : FuncId} {cap : Array Value} {h : LH} {Q : LH → Prop} (c0 : Nat) {φ : Value → Cells → Prop} (hst : Hand c0 h) (c : ∀ hc, Rd h.get hc → FWK XW P .deferred f cap ⟨hc, [], [], [(c0, φ)]⟩ fun _ _ => False)
    (hQ : ∀ h', Rd h.get h'.get → h'.chans = [c0] → h'.todo = h.todo → h'.pend = h.pend ++ [[(c0, φ)]] → Q h') : SpawnW XT P (.func (.func f) #[] cap) #[] h Q := by
  have key : ∀ h1 : LH, Rd h.get h1.get → h1.chans = [c0] → h1.todo = h.todo → h1.pend = h.pend → SpawnW XT P (.func (.func f) #[] cap) #[] h1 Q := by
    intro h1 r1 c1 t1 p1
    refine spawnW (fun _ => true) (freezeC (fun _ => true) h1.get) [(c0, φ)] (by simp) (hargs := cap) (by simp) ?_ ?_ (c _ (r1.trans (rd_freeze _ _))) ?_
    · intro r x hx
      refine ⟨?_, hx⟩
      unfold freezeC at hx
      cases hy : h1.get r with
      | none => rw [hy] at hx; cases hx
      | some y => rw [hy] at hx; simp at hx; rw [← hx]
    · intro y hy
      simp at hy; subst hy; rw [c1]; simp
    · exact hQ _ (r1.trans (rd_freeze _ _)) c1 t1 (by show h1.pend ++ _ = _; rw [p1])
  rcases hst with ⟨h1, s, h2⟩ | h1
  · refine SpawnW.opened c0 s h2 (key _ (rd_drop h2) ?_ rfl rfl)
    show c0 :: h.chans = _
    rw [h1]
  · exact key h (Rd.refl _) h1 rfl rfl
theorem commW_gather {last : Bool} {shape : CommShape} {c0 : Nat} {z : Value} {φ : Nat → Value → Cells → Prop} {rem : List Nat} {h : LH} {Q : Value → LH → Prop} (hp : h.pend = rem.map fun i => [(c0, φ i)]) (hc : h.chans = [c0]) (hne : rem ≠ [])
    (hQ : ∀ i rest v h₂, i ∈ rem → (∀ j, j ∈ rem → j = i ∨ j ∈ rest) → (∀ j, j ∈ rest → j ∈ rem) → rest.length + 1 = rem.length → h₂.todo = h.todo → h₂.pend = rest.map (fun i => [(c0, φ i)]) → ((rest ≠ [] ∧ h₂.chans = [c0]) ∨ (rest = [] ∧ h₂.chans = [] ∧ ∃ s, h₂.get c0 = some (true, .chan 0 #[] false s s false))) →
      (∃ hv, φ i v hv ∧ hv.le h₂.get) → h.get.le h₂.get → Q (commResult #[rcase c0 z] shape 0 v true) h₂) : CommW XT P last #[rcase c0 z] shape h Q := by
  refine CommW.closed (commW_recv ?_ (by rw [hp]; simpa using hne) ?_ ?_)
  · intro k cc hk
    cases k with
    | zero => simp at hk; subst hk; exact ⟨c0, z, rfl, by rw [hc]; simp⟩
    | succ k => simp at hk
  · intro s hs
    rw [hp] at hs
    obtain ⟨i, hi, rfl⟩ := List.mem_map.1 hs
    exact ⟨c0, φ i, [], 0, z, rfl, rfl⟩
  · intro pre ψ s post k c v hv z' hpe hcase hd hown hφ
    rw [hp] at hpe
    obtain ⟨l1, l2, rfl, hl1, hl2⟩ := List.map_eq_append_iff.1 hpe
    obtain ⟨i, l3, rfl, hi, hl3⟩ := List.map_eq_cons_iff.1 hl2
    cases hi
    have hk0 : k = 0 := by
      cases k with
      | zero => rfl
      | succ k => simp at hcase
    subst hk0
    have le1 : h.get.le (h.get.add hv) := Cells.le_add _ _
    have le2 : hv.le (h.get.add hv) := fun r x hr => Cells.add_right' hd hr
    have hpend : pre ++ cons' [] post = (l1 ++ l3).map fun i => [(c0, φ i)] := by
      show pre ++ post = _
      rw [← hl1, ← hl3, List.map_append]
    by_cases hn : l1 ++ l3 = []
    · right
      refine ⟨c0, by show c0 ∈ h.chans; rw [hc]; simp, by show pre ++ cons' [] post = []; rw [hpend, hn]; rfl, fun s hs => ?_⟩
      refine hQ i (l1 ++ l3) v _ (by simp) (fun j hj => ?_) (fun j hj => ?_) (by simp; omega) rfl hpend (.inr ⟨hn, ?_, s, Cells.upd_self _ _ _⟩) ⟨hv, hφ, ?_⟩ ?_
      · simp at hj ⊢; grind
      · simp at hj ⊢; grind
      · show h.chans.filter _ = []
        rw [hc]; simp
      · exact Cells.le_trans le2 (Cells.le_upd _ hs)
      · exact Cells.le_trans le1 (Cells.le_upd _ hs)
    · left
      refine hQ i (l1 ++ l3) v _ (by simp) (fun j hj => ?_) (fun j hj => ?_) (by simp; omega) rfl hpend (.inl ⟨hn, hc⟩) ⟨hv, hφ, le2⟩ le1
      · simp at hj ⊢; grind
      · simp at hj ⊢; grind
end Go.TM
namespace Go.Proofs.YtibibhojkfapnaaDoor
open Go Go.TM Go.Proofs
attribute [local irreducible] T.wp CV FWK
theorem Parts.rd {h h' : Cells} (hl : Rd h h') (p : Parts h) : Parts h' := fun j hj => hl _ _ (p j hj)
/-! ### fewerF is an order -/
theorem cmpI_neg (x y : Int) : cmpI y x = - cmpI x y := by unfold cmpI; repeat' split <;> omega
theorem cmpL_neg : ∀ a b : List Int, cmpL b a = - cmpL a b := by
  intro a
  induction a with
  | nil => intro b; cases b <;> rfl
  | cons x a ih =>
    intro b
    cases b with
    | nil => rfl
    | cons y b =>
      simp only [cmpL]
      rw [cmpI_neg x y, ih b]
      by_cases e : cmpI x y = 0
      · simp [e]
      · rw [if_pos (by omega), if_pos e]
theorem cmpL_trans : ∀ a b c : List Int, cmpL a b ≤ 0 → cmpL b c ≤ 0 → cmpL a c ≤ 0 := by
  intro a
  induction a with
  | nil => intro b c _ _; cases c <;> simp [cmpL]
  | cons x a ih =>
    intro b c h1 h2
    cases b with
    | nil => simp [cmpL] at h1
    | cons y b =>
      cases c with
      | nil => simp [cmpL] at h2
      | cons z c =>
        simp only [cmpL] at h1 h2 ⊢
        have := ih b c
        unfold cmpI at h1 h2 ⊢
        by_cases a1 : x < y
        · by_cases a2 : y < z
          · rw [if_pos (by rw [if_pos (show x < z by omega)]; omega), if_pos (show x < z by omega)]; omega
          · by_cases a3 : y = z
            · subst a3; simp [a1]
            · have : y > z := by omega
              simp [a2, this] at h2
        · by_cases a4 : x = y
          · subst a4
            simp at h1
            by_cases a2 : x < z
            · simp [a2]
            · by_cases a3 : x = z
              · subst a3; simp at h2 ⊢; exact this h1 h2
              · have : x > z := by omega
                simp [a2, this] at h2
          · have : x > y := by omega
            simp [a1, this] at h1
theorem fewer_neg (a b : List Int) : fewerF b a = - fewerF a b := by
  unfold fewerF
  by_cases e : a.length = b.length
  · rw [if_neg (by omega), if_neg (by omega), cmpL_neg a b]
  · rw [if_pos (by omega), if_pos (by omega)]; omega
theorem fewer_trans {a b c : List Int} (h1 : fewerF a b ≤ 0) (h2 : fewerF b c ≤ 0) : fewerF a c ≤ 0 := by
  unfold fewerF at *
  by_cases e1 : a.length = b.length
  · rw [if_neg (by omega)] at h1
    by_cases e2 : b.length = c.length
    · rw [if_neg (by omega)] at h2
      rw [if_neg (by omega)]
      exact cmpL_trans a b c h1 h2
    · rw [if_pos (by omega)] at h2
      rw [if_pos (by omega)]; omega
  · rw [if_pos (by omega)] at h1
    by_cases e2 : b.length = c.length
    · rw [if_pos (by omega)]; omega
    · rw [if_pos (by omega)] at h2
      rw [if_pos (by omega)]; omega
theorem fewer_self (a : List Int) : fewerF a a ≤ 0 := by
  have := fewer_neg a a
  omega
def okF (u : UseFile) (land day : Int) (i : Nat) : Bool := enoughB u land day (subsetL u.papers.length i) (leftAll u land day)
def BestR (h : Cells) (u : UseFile) (land day : Int) (rem : List Nat) (p : Option Addr) (n : Nat) : Prop :=
  (p = none ∧ n = 0 ∧ ∀ j, j < 2 ^ u.papers.length → j ∉ rem → okF u land day j = false) ∨
  (∃ i a, p = some a ∧ i < 2 ^ u.papers.length ∧ okF u land day i = true ∧ Sl IntE 1 h (some a) n (subsetL u.papers.length i) ∧ ∀ j, j < 2 ^ u.papers.length → j ∉ rem → okF u land day j = true → fewerF (subsetL u.papers.length i) (subsetL u.papers.length j) ≤ 0)
def KeepR (h' : Cells) (u : UseFile) (land day : Int) (r : Value) : Prop :=
  (openF u [landQ u land, dayQ day] ≠ 0 ∧ r = .tuple #[.slice none 0 0, .int .i64 (openF u [landQ u land, dayQ day])]) ∨
  (openF u [landQ u land, dayQ day] = 0 ∧ ∃ p n c, r = .tuple #[.slice p n c, .int .i64 0] ∧ BestR h' u land day [] p n ∧ n ≤ c)
theorem BestR.skip {h h' : Cells} {u : UseFile} {land day : Int} {rem rest : List Nat} {p : Option Addr} {n i : Nat} (b : BestR h u land day rem p n) (hr : ∀ j, j ∈ rem → j = i ∨ j ∈ rest) (hi : okF u land day i = false) (hrd : Rd h h') : BestR h' u land day rest p n := by
  rcases b with ⟨h1, h2, h3⟩ | ⟨k, a, h1, h2, h3, h4, h5⟩
  · refine .inl ⟨h1, h2, fun j hj hn => ?_⟩
    by_cases e : j = i
    · rw [e]; exact hi
    · exact h3 j hj fun hm => (hr j hm).elim e hn
  · refine .inr ⟨k, a, h1, h2, h3, h4.rd IntE.grow hrd, fun j hj hn ho => ?_⟩
    by_cases e : j = i
    · rw [e] at ho; exact absurd ho (by rw [hi]; simp)
    · exact h5 j hj (fun hm => (hr j hm).elim e hn) ho
theorem BestR.take {h h' : Cells} {u : UseFile} {land day : Int} {rem rest : List Nat} {p : Option Addr} {n i n' : Nat} {a : Addr} (b : BestR h u land day rem p n) (hr : ∀ j, j ∈ rem → j = i ∨ j ∈ rest) (hi : okF u land day i = true) (hlt : i < 2 ^ u.papers.length) (hs : Sl IntE 1 h' (some a) n' (subsetL u.papers.length i))
    (hb : p = none ∨ ∀ k, okF u land day k = true → Sl IntE 1 h p n (subsetL u.papers.length k) → fewerF (subsetL u.papers.length i) (subsetL u.papers.length k) ≤ 0) : BestR h' u land day rest (some a) n' := by
  rcases b with ⟨h1, h2, h3⟩ | ⟨k, a', h1, h2, h3, h4, h5⟩
  · refine .inr ⟨i, a, rfl, hlt, hi, hs, fun j hj hn ho => ?_⟩
    by_cases e : j = i
    · rw [e]; exact fewer_self _
    · have := h3 j hj fun hm => (hr j hm).elim e hn
      rw [this] at ho; cases ho
  · have hle := hb.resolve_left (by rw [h1]; simp) k h3 (by rw [h1]; exact h4)
    refine .inr ⟨i, a, rfl, hlt, hi, hs, fun j hj hn ho => ?_⟩
    by_cases e : j = i
    · rw [e]; exact fewer_self _
    · exact fewer_trans hle (h5 j hj (fun hm => (hr j hm).elim e hn) ho)
theorem BestR.stay {h h' : Cells} {u : UseFile} {land day : Int} {rem rest : List Nat} {p : Option Addr} {n i : Nat} (b : BestR h u land day rem p n) (hr : ∀ j, j ∈ rem → j = i ∨ j ∈ rest) (hp : p ≠ none) (hrd : Rd h h')
    (hb : ∀ k, Sl IntE 1 h p n (subsetL u.papers.length k) → fewerF (subsetL u.papers.length k) (subsetL u.papers.length i) ≤ 0) : BestR h' u land day rest p n := by
  rcases b with ⟨h1, h2, h3⟩ | ⟨k, a', h1, h2, h3, h4, h5⟩
  · exact absurd h1 hp
  · refine .inr ⟨k, a', h1, h2, h3, h4.rd IntE.grow hrd, fun j hj hn ho => ?_⟩
    by_cases e : j = i
    · rw [e]; exact hb k (by rw [h1]; exact h4)
    · exact h5 j hj (fun hm => (hr j hm).elim e hn) ho
theorem Sl.same {h : Cells} {p : Option Addr} {n : Nat} {a b : List Int} (ha : Sl IntE 1 h p n a) (hb : Sl IntE 1 h p n b) : a = b := by
  refine List.ext_getElem (by rw [← ha.1, ← hb.1]) fun i h1 h2 => ?_
  obtain ⟨x, c, e1, e2, e3⟩ := ha.at (i := i) (by rw [ha.1]; exact h1)
  obtain ⟨y, d, e4, e5, e6⟩ := hb.at (i := i) (by rw [hb.1]; exact h2)
  rw [e2] at e5; cases e5
  unfold IntE at e3 e6
  rw [e3] at e6; cases e6
  rw [List.getElem?_eq_getElem h1] at e1
  rw [List.getElem?_eq_getElem h2] at e4
  exact (Option.some.inj e1).trans (Option.some.inj e4).symm
theorem sets_wrap {n : Nat} (hn : n ≤ 8) : IntKind.wrap .i64 (1 * 2 ^ min (Int.toNat (n : Int)) 64) = ((2 ^ n : Nat) : Int) := by
  have e : min (Int.toNat (n : Int)) 64 = n := by simp; omega
  have h2 : (2 : Nat) ^ n ≤ 2 ^ 8 := Nat.pow_le_pow_right (by omega) hn
  have e2 : (1 : Int) * 2 ^ n = ((2 ^ n : Nat) : Int) := by simp
  rw [e, e2]
  generalize 2 ^ n = m at h2
  rw [wrap_id (by omega) (by omega)]
set_option maxRecDepth 100000 in
theorem c33 {h : LH} (hch : h.chans = []) (hpe : h.pend = []) {f : FileC} {u : UseFile} (hp : Parts h.get) (hu : FileR h.get f u) (land day : Int) :
    FW XT Tryd.prog 33 #[fileV f u, .int .i64 land, .int .i64 day] h fun r h' => Rd h.get h'.get ∧ h'.chans = [] ∧ h'.pend = [] ∧ h'.todo = h.todo ∧ KeepR h'.get u land day r := by
  refine w33 _ _ _ _ _ _ _ _ _ _ _ _ _ _ _ XT_ok ?_
  unfold n33
  refine t_new fun r hr => ?_
  have le0 : h.le _ := LH.upd_le (x := (true, .cells #[.int .i64 u.items, .int .i64 u.lands, .int .i64 u.from_, .int .i64 u.idle, .slice f.p4 f.n4 f.c4, .slice f.p5 f.n5 f.c5, .slice f.p6 f.n6 f.c6] 26 (0, 0))) hr
  have hat : FileAt (h.get.upd r (true, .cells #[.int .i64 u.items, .int .i64 u.lands, .int .i64 u.from_, .int .i64 u.idle, .slice f.p4 f.n4 f.c4, .slice f.p5 f.n5 f.c5, .slice f.p6 f.n6 f.c6] 26 (0, 0))) ⟨r, 0, none⟩ f u :=
    ⟨cell_upd rfl, cell_upd rfl, cell_upd rfl, cell_upd rfl, cell_upd rfl, cell_upd rfl, cell_upd rfl⟩
  generalize hh0 : ({ h with get := h.get.upd r (true, .cells #[.int .i64 u.items, .int .i64 u.lands, .int .i64 u.from_, .int .i64 u.idle, .slice f.p4 f.n4 f.c4, .slice f.p5 f.n5 f.c5, .slice f.p6 f.n6 f.c6] 26 (0, 0)) } : LH) = h0 at le0 ⊢
  have hat : FileAt h0.get ⟨r, 0, none⟩ f u := by rw [← hh0]; exact hat
  refine t_new fun r1 hr1 => ?_
  have le1 : h0.le _ := LH.upd_le (x := (true, .cells #[.int .i64 land] 3 (0, 0))) hr1
  have z1 : Cells.cell? (h0.get.upd r1 (true, .cells #[.int .i64 land] 3 (0, 0))) ⟨r1, 0, none⟩ = some (.int .i64 land) := cell_upd rfl
  refine t_new fun r2 hr2 => ?_
  have le2 := LH.upd_le (h := { h0 with get := h0.get.upd r1 (true, .cells #[.int .i64 land] 3 (0, 0)) }) (x := (true, .cells #[.int .i64 day] 3 (0, 0))) hr2
  have z2 : Cells.cell? ((h0.get.upd r1 (true, .cells #[.int .i64 land] 3 (0, 0))).upd r2 (true, .cells #[.int .i64 day] 3 (0, 0))) ⟨r2, 0, none⟩ = some (.int .i64 day) := cell_upd rfl
  have z1 := Cells.cell?_le le2.1 z1
  have hat := hat.le (LH.le_trans le1 le2).1
  obtain ⟨g0, g1, g2, g3, g4, g5, g6⟩ := id hat
  have le02 := LH.le_trans le0 (LH.le_trans le1 le2)
  (repeat (first | (with_reducible first | apply gA | apply gB | apply gC | apply gD | apply gE | apply gF | apply gG | apply gH | apply gI | apply gJ | apply gK | apply gL | apply gM | apply gN | apply gO | apply gP | apply gQ | apply gR) | ((with_reducible first | apply gT | apply gS2); first | exact rfl | assumption | omega | exact ⟨⟩) | ((with_reducible first | apply gL0 | apply gL1 | apply gL2 | apply gL3 | apply gL4); assumption)))
  refine t_gr (c58 u land) ?_
  rintro v0 h₁ le3 ⟨q0, a0⟩
  have z1 := Cells.cell?_le le3.1 z1
  have z2 := Cells.cell?_le le3.1 z2
  have hat := hat.le le3.1
  obtain ⟨g0, g1, g2, g3, g4, g5, g6⟩ := id hat
  (repeat (first | (with_reducible first | apply gA | apply gB | apply gC | apply gD | apply gE | apply gF | apply gG | apply gH | apply gI | apply gJ | apply gK | apply gL | apply gM | apply gN | apply gO | apply gP | apply gQ | apply gR) | ((with_reducible first | apply gT | apply gS2); first | exact rfl | assumption | omega | exact ⟨⟩) | ((with_reducible first | apply gL0 | apply gL1 | apply gL2 | apply gL3 | apply gL4); assumption)))
  refine t_gr (c54 u day) ?_
  rintro v1 h₂ le4 ⟨q1, a1⟩
  have z1 := Cells.cell?_le le4.1 z1
  have z2 := Cells.cell?_le le4.1 z2
  have hat := hat.le le4.1
  obtain ⟨g0, g1, g2, g3, g4, g5, g6⟩ := id hat
  (repeat (first | (with_reducible first | apply gA | apply gB | apply gC | apply gD | apply gE | apply gF | apply gG | apply gH | apply gI | apply gJ | apply gK | apply gL | apply gM | apply gN | apply gO | apply gP | apply gQ | apply gR) | ((with_reducible first | apply gT | apply gS2); first | exact rfl | assumption | omega | exact ⟨⟩) | ((with_reducible first | apply gL0 | apply gL1 | apply gL2 | apply gL3 | apply gL4); assumption)))
  refine asks2 q0 (a0.le le4) q1 a1 fun r' h₃ le5 hs => ?_
  have z1 := Cells.cell?_le le5.1 z1
  have z2 := Cells.cell?_le le5.1 z2
  have hat := hat.le le5.1
  obtain ⟨g0, g1, g2, g3, g4, g5, g6⟩ := id hat
  (repeat (first | (with_reducible first | apply gA | apply gB | apply gC | apply gD | apply gE | apply gF | apply gG | apply gH | apply gI | apply gJ | apply gK | apply gL | apply gM | apply gN | apply gO | apply gP | apply gQ | apply gR) | ((with_reducible first | apply gT | apply gS2); first | exact rfl | assumption | omega | exact ⟨⟩) | ((with_reducible first | apply gL0 | apply gL1 | apply gL2 | apply gL3 | apply gL4); assumption)))
  have le03 := LH.le_trans le02 (LH.le_trans (LH.le_trans le3 le4) le5)
  refine t_call (FW.top (c53 (f := f) (hp.le le03.1) (hu.le le03.1) hs)) ?_
  rintro v h₄ ⟨le6, ⟨hne, rfl⟩ | ⟨ho, d, m, rfl, hd, hm, k⟩⟩
  · (repeat (first | (with_reducible first | apply gA | apply gB | apply gC | apply gD | apply gE | apply gF | apply gG | apply gH | apply gI | apply gJ | apply gK | apply gL | apply gM | apply gN | apply gO | apply gP | apply gQ | apply gR) | ((with_reducible first | apply gT | apply gS2); first | exact rfl | assumption | omega | exact ⟨⟩) | ((with_reducible first | apply gL0 | apply gL1 | apply gL2 | apply gL3 | apply gL4); assumption)))
    have le04 := LH.le_trans le03 le6
    refine t_cond (fun _ => ?_) (fun e => absurd (by simpa using e) hne)
    exact t_ret ⟨Rd.of_le le04.1, by rw [le04.2.1, hch], by rw [le04.2.2.1, hpe], le04.2.2.2, .inl ⟨hne, rfl⟩⟩
  (repeat (first | (with_reducible first | apply gA | apply gB | apply gC | apply gD | apply gE | apply gF | apply gG | apply gH | apply gI | apply gJ | apply gK | apply gL | apply gM | apply gN | apply gO | apply gP | apply gQ | apply gR) | ((with_reducible first | apply gT | apply gS2); first | exact rfl | assumption | omega | exact ⟨⟩) | ((with_reducible first | apply gL0 | apply gL1 | apply gL2 | apply gL3 | apply gL4); assumption)))
  refine t_cond (fun e => by cases e) (fun _ => ?_)
  have hck := (open_num ho).2
  have z1' := Cells.cell?_le le6.1 z1
  have z2' := Cells.cell?_le le6.1 z2
  (repeat (first | (with_reducible first | apply gA | apply gB | apply gC | apply gD | apply gE | apply gF | apply gG | apply gH | apply gI | apply gJ | apply gK | apply gL | apply gM | apply gN | apply gO | apply gP | apply gQ | apply gR) | ((with_reducible first | apply gT | apply gS2); first | exact rfl | assumption | omega | exact ⟨⟩) | ((with_reducible first | apply gL0 | apply gL1 | apply gL2 | apply gL3 | apply gL4); assumption)))
  refine t_de (c63 k hck land day) ?_
  rintro _ h₅ mv k5 ⟨p0, n0, c0, rfl, gl⟩
  have le35 := Mv.le_of le6 hm mv
  have le05 := LH.le_trans le03 le35
  have hitn := (num_ok (open_num ho).1).1
  have hll : (leftAll u land day).length = u.items.toNat := by unfold leftAll; rw [List.length_map, List.length_range]
  have hsl : Sl IntE 1 h₅.get p0 n0 (leftAll u land day) := gl.sl IntEnc.len (by omega) IntEnc.e (by omega)
  have hpap := (check_papers hck).1
  have hu5 := hu.le le05.1
  have hn5 := hu5.papers.1
  (repeat (first | (with_reducible first | apply gA | apply gB | apply gC | apply gD | apply gE | apply gF | apply gG | apply gH | apply gI | apply gJ | apply gK | apply gL | apply gM | apply gN | apply gO | apply gP | apply gQ | apply gR) | ((with_reducible first | apply gT | apply gS2); first | exact rfl | assumption | omega | exact ⟨⟩) | ((with_reducible first | apply gL0 | apply gL1 | apply gL2 | apply gL3 | apply gL4); assumption)))
  refine t_newSt rfl fun r3 hr3 => ?_
  have le7 := LH.upd_le (x := (true, .cells #[.slice p0 n0 c0] 40 (0, 0))) hr3
  have z3 : Cells.cell? (h₅.get.upd r3 (true, .cells #[.slice p0 n0 c0] 40 (0, 0))) ⟨r3, 0, none⟩ = some (.slice p0 n0 c0) := cell_upd rfl
  refine t_makeChan und104 inf50 fun q hq => ?_
  have le8 := LH.upd_le (x := (true, .chan 0 #[] false 0 0 false)) hq
  refine t_unC ?_
  refine t_newSt rfl fun r4 hr4 => ?_
  have le9 := LH.upd_le (x := (true, .cells #[.chan (some q)] 104 (0, 0))) hr4
  have le38 := LH.le_trans le35 (LH.le_trans (LH.le_trans le7 le8) le9)
  have z1 := Cells.cell?_le le38.1 z1
  have z2 := Cells.cell?_le le38.1 z2
  have z3 := Cells.cell?_le (LH.le_trans le8 le9).1 z3
  have hat := hat.le le38.1
  obtain ⟨g0, g1, g2, g3, g4, g5, g6⟩ := id hat
  have hsl := hsl.le IntE.grow (LH.le_trans (LH.le_trans le7 le8) le9).1
  have le08 := LH.le_trans le03 le38
  have z4 : Cells.cell? (((h₅.get.upd r3 (true, .cells #[.slice p0 n0 c0] 40 (0, 0))).upd q (true, .chan 0 #[] false 0 0 false)).upd r4 (true, .cells #[.chan (some q)] 104 (0, 0))) ⟨r4, 0, none⟩ = some (.chan (some q)) := cell_upd rfl
  have hq' := le9.1 q _ (Cells.upd_self _ _ _)
  refine gL1 g5 ?_
  have h256 : 2 ^ f.n5 ≤ 2 ^ 8 := Nat.pow_le_pow_right (by omega) (by omega)
  have hNe : (2 : Nat) ^ f.n5 = 2 ^ u.papers.length := by rw [hn5]
  rw [sets_wrap (by omega)]
  generalize hN : (2 : Nat) ^ f.n5 = N at h256 hNe ⊢
  (repeat (first | (with_reducible first | apply gA | apply gB | apply gC | apply gD | apply gE | apply gF | apply gG | apply gH | apply gI | apply gJ | apply gK | apply gL | apply gM | apply gN | apply gO | apply gP | apply gQ | apply gR) | ((with_reducible first | apply gT | apply gS2); first | exact rfl | assumption | omega | exact ⟨⟩) | ((with_reducible first | apply gL0 | apply gL1 | apply gL2 | apply gL3 | apply gL4); assumption)))
  refine t_loop (fun mm vs h' => ∃ j : Nat, vs = [.int .i64 j] ∧ j ≤ N ∧ mm = N - j ∧ Rd (((h₅.get.upd r3 (true, .cells #[.slice p0 n0 c0] 40 (0, 0))).upd q (true, .chan 0 #[] false 0 0 false)).upd r4 (true, .cells #[.chan (some q)] 104 (0, 0))) h'.get ∧ h'.todo = h.todo ∧ h'.pend = (List.range j).map (fun i => [(q, Sent u land day i)]) ∧ Hand q h' ∧ (0 < j → h'.chans = [q]))
    ⟨0, rfl, Nat.zero_le _, rfl, Rd.refl _, le08.2.2.2, by rw [le08.2.2.1, hpe]; rfl, .inl ⟨by rw [le08.2.1, hch], 0, hq'⟩, fun hh => absurd hh (by omega)⟩ ?_
  rintro Y mm vs h₇ hY ⟨j, rfl, hj, rfl, rd7, td7, pd7, hand7, ch7⟩
  (repeat (first | (with_reducible first | apply gA | apply gB | apply gC | apply gD | apply gE | apply gF | apply gG | apply gH | apply gI | apply gJ | apply gK | apply gL | apply gM | apply gN | apply gO | apply gP | apply gQ | apply gR) | ((with_reducible first | apply gT | apply gS2); first | exact rfl | assumption | omega | exact ⟨⟩) | ((with_reducible first | apply gL0 | apply gL1 | apply gL2 | apply gL3 | apply gL4); assumption)))
  refine t_if (fun e1 => ?_) (fun e1 => ?_)
  · refine t_newSt rfl fun r5 hr5 => ?_
    have le10 := LH.upd_le (x := (true, .cells #[.int .i64 (j : Int)] 3 (0, 0))) hr5
    have z5 : Cells.cell? (h₇.get.upd r5 (true, .cells #[.int .i64 (j : Int)] 3 (0, 0))) ⟨r5, 0, none⟩ = some (.int .i64 (j : Int)) := cell_upd rfl
    have hand8 : Hand q { h₇ with get := h₇.get.upd r5 (true, .cells #[.int .i64 (j : Int)] 3 (0, 0)) } := by
      rcases hand7 with ⟨a1, s, a2⟩ | a1
      · exact .inl ⟨a1, s, le10.1 _ _ a2⟩
      · exact .inr a1
    have rd8 := rd7.trans (Rd.of_le le10.1)
    refine t_spawn (spawnW_all q (φ := Sent u land day j) hand8 (fun hc hrd => ?_) (fun h₈ r8 c8 t8 p8 => ?_))
    · have rdc := rd8.trans hrd
      exact c74 ((hp.le le08.1).rd rdc) ((hu.le le08.1).rd rdc) (hat.rd rdc) hpap (by omega) (hrd _ _ z5) (rdc _ _ z1) (rdc _ _ z2) (rdc _ _ z3) (hsl.rd IntE.grow rdc) (rdc _ _ z4)
    · refine t_again (hY (N - (j + 1)) _ _ (by omega) ⟨j + 1, ?_, by omega, rfl, rd8.trans r8, t8.trans td7, ?_, .inr c8, fun _ => c8⟩)
      · rw [wrap_id (by omega) (by omega)]; rfl
      · rw [p8, pd7, List.range_succ, List.map_append]; rfl
  · (repeat (first | (with_reducible first | apply gA | apply gB | apply gC | apply gD | apply gE | apply gF | apply gG | apply gH | apply gI | apply gJ | apply gK | apply gL | apply gM | apply gN | apply gO | apply gP | apply gQ | apply gR) | ((with_reducible first | apply gT | apply gS2); first | exact rfl | assumption | omega | exact ⟨⟩) | ((with_reducible first | apply gL0 | apply gL1 | apply gL2 | apply gL3 | apply gL4); assumption)))
    have hjN : j = N := by omega
    subst hjN
    have hpos : 0 < j := by rw [hNe]; exact Nat.pow_pos (by omega)
    refine t_loop (fun mm vs h' => ∃ (k : Nat) (rem : List Nat) (p : Option Addr) (n c : Nat), vs = [.slice p n c, .int .i64 k] ∧ rem.length + k = j ∧ mm = j - k ∧ (∀ i ∈ rem, i < j) ∧ Rd (((h₅.get.upd r3 (true, .cells #[.slice p0 n0 c0] 40 (0, 0))).upd q (true, .chan 0 #[] false 0 0 false)).upd r4 (true, .cells #[.chan (some q)] 104 (0, 0))) h'.get ∧ h'.todo = h.todo ∧ h'.pend = rem.map (fun i => [(q, Sent u land day i)]) ∧
        ((rem ≠ [] ∧ h'.chans = [q]) ∨ (rem = [] ∧ h'.chans = [] ∧ ∃ s, h'.get q = some (true, .chan 0 #[] false s s false))) ∧ BestR h'.get u land day rem p n ∧ n ≤ c)
      ⟨0, List.range j, none, 0, 0, rfl, by simp, rfl, fun i hi => List.mem_range.1 hi, rd7, td7, pd7, .inl ⟨by simp; omega, ch7 hpos⟩, .inl ⟨rfl, rfl, fun i hi hn => absurd (List.mem_range.2 (by omega)) hn⟩, Nat.le_refl _⟩ ?_
    rintro Y2 mm vs h₈ hY2 ⟨k, rem, p, n, c, rfl, hk, rfl, hrem, rd8, td8, pd8, hst8, best, hcap⟩
    (repeat (first | (with_reducible first | apply gA | apply gB | apply gC | apply gD | apply gE | apply gF | apply gG | apply gH | apply gI | apply gJ | apply gK | apply gL | apply gM | apply gN | apply gO | apply gP | apply gQ | apply gR) | ((with_reducible first | apply gT | apply gS2); first | exact rfl | assumption | omega | exact ⟨⟩) | ((with_reducible first | apply gL0 | apply gL1 | apply gL2 | apply gL3 | apply gL4); assumption)))
    refine t_if (fun e2 => ?_) (fun e2 => ?_)
    · have hne : rem ≠ [] := by rintro rfl; simp at hk; omega
      have hc8 : h₈.chans = [q] := by
        rcases hst8 with ⟨_, a⟩ | ⟨a, _⟩
        · exact a
        · exact absurd a hne
      refine t_loadC (rd8 _ _ z4) ?_
      refine t_comm (commW_gather (φ := Sent u land day) pd8 hc8 hne ?_)
      intro i rest v h₉ hi h1 h2 hlen ht hpd hst ⟨hv, hsent, hle⟩ hle9
      have hcr : commResult #[Conc.rcase q (.slice none 0 0)] (CommShape.recv false) 0 v true = v := rfl
      rw [hcr]
      have rd9 := Rd.of_le hle9
      have next : ∀ p' n' c', BestR h₉.get u land day rest p' n' → n' ≤ c' → Y2 [.slice p' n' c', .int .i64 (IntKind.wrap .i64 ((k : Int) + 1))] h₉ := by
        intro p' n' c' hb hcap'
        refine hY2 (j - (k + 1)) _ _ (by omega) ⟨k + 1, rest, p', n', c', ?_, by omega, rfl, fun i hi => hrem i (h2 i hi), rd8.trans rd9, ht.trans td8, hpd, hst, hb, hcap'⟩
        rw [wrap_id (by omega) (by omega)]; rfl
      change (if okF u land day i = true then _ else _) at hsent
      by_cases ok : okF u land day i = true
      · rw [if_pos ok] at hsent
        obtain ⟨a, n', c', rfl, hs9, hcap9⟩ := hsent
        have hs9 := hs9.rd IntE.grow (Rd.of_le hle)
        (repeat (first | (with_reducible first | apply gA | apply gB | apply gC | apply gD | apply gE | apply gF | apply gG | apply gH | apply gI | apply gJ | apply gK | apply gL | apply gM | apply gN | apply gO | apply gP | apply gQ | apply gR) | ((with_reducible first | apply gT | apply gS2); first | exact rfl | assumption | omega | exact ⟨⟩) | ((with_reducible first | apply gL0 | apply gL1 | apply gL2 | apply gL3 | apply gL4); assumption)))
        refine t_neNil und50 ?_
        (repeat (first | (with_reducible first | apply gA | apply gB | apply gC | apply gD | apply gE | apply gF | apply gG | apply gH | apply gI | apply gJ | apply gK | apply gL | apply gM | apply gN | apply gO | apply gP | apply gQ | apply gR) | ((with_reducible first | apply gT | apply gS2); first | exact rfl | assumption | omega | exact ⟨⟩) | ((with_reducible first | apply gL0 | apply gL1 | apply gL2 | apply gL3 | apply gL4); assumption)))
        refine t_cond (fun _ => ?_) (fun e => by cases e)
        refine t_eqNil und50 ?_
        (repeat (first | (with_reducible first | apply gA | apply gB | apply gC | apply gD | apply gE | apply gF | apply gG | apply gH | apply gI | apply gJ | apply gK | apply gL | apply gM | apply gN | apply gO | apply gP | apply gQ | apply gR) | ((with_reducible first | apply gT | apply gS2); first | exact rfl | assumption | omega | exact ⟨⟩) | ((with_reducible first | apply gL0 | apply gL1 | apply gL2 | apply gL3 | apply gL4); assumption)))
        refine t_cond (fun b => ?_) (fun b => ?_)
        · exact t_again (next _ _ _ (best.take h1 ok (by have := hrem i hi; omega) hs9 (.inl (by simpa using b))) hcap9)
        · have hpn : p ≠ none := by rintro rfl; cases b
          obtain ⟨k', a', hk', hs'⟩ : ∃ k' a', p = some a' ∧ Sl IntE 1 h₈.get (some a') n (subsetL u.papers.length k') := by
            rcases best with ⟨b1, _⟩ | ⟨k', a', b1, _, _, b4, _⟩
            · exact absurd b1 hpn
            · exact ⟨k', a', b1, b4⟩
          subst hk'
          have hs'9 := hs'.rd IntE.grow rd9
          refine t_pu (c75 hs9 hs'9) ?_
          have same : ∀ k2, Sl IntE 1 h₈.get (some a') n (subsetL u.papers.length k2) → subsetL u.papers.length k2 = subsetL u.papers.length k' := by
            intro k2 h3
            exact Sl.same h3 hs'
          (repeat (first | (with_reducible first | apply gA | apply gB | apply gC | apply gD | apply gE | apply gF | apply gG | apply gH | apply gI | apply gJ | apply gK | apply gL | apply gM | apply gN | apply gO | apply gP | apply gQ | apply gR) | ((with_reducible first | apply gT | apply gS2); first | exact rfl | assumption | omega | exact ⟨⟩) | ((with_reducible first | apply gL0 | apply gL1 | apply gL2 | apply gL3 | apply gL4); assumption)))
          refine t_if (fun e3 => ?_) (fun e3 => ?_)
          · refine t_again (next _ _ _ (best.take h1 ok (by have := hrem i hi; omega) hs9 (.inr fun k2 _ h3 => ?_)) hcap9)
            rw [same k2 h3]; omega
          · refine t_again (next _ _ _ (best.stay h1 hpn rd9 fun k2 h3 => ?_) hcap)
            rw [same k2 h3, fewer_neg]; omega
      · rw [if_neg ok] at hsent
        subst hsent
        (repeat (first | (with_reducible first | apply gA | apply gB | apply gC | apply gD | apply gE | apply gF | apply gG | apply gH | apply gI | apply gJ | apply gK | apply gL | apply gM | apply gN | apply gO | apply gP | apply gQ | apply gR) | ((with_reducible first | apply gT | apply gS2); first | exact rfl | assumption | omega | exact ⟨⟩) | ((with_reducible first | apply gL0 | apply gL1 | apply gL2 | apply gL3 | apply gL4); assumption)))
        refine t_neNil und50 ?_
        (repeat (first | (with_reducible first | apply gA | apply gB | apply gC | apply gD | apply gE | apply gF | apply gG | apply gH | apply gI | apply gJ | apply gK | apply gL | apply gM | apply gN | apply gO | apply gP | apply gQ | apply gR) | ((with_reducible first | apply gT | apply gS2); first | exact rfl | assumption | omega | exact ⟨⟩) | ((with_reducible first | apply gL0 | apply gL1 | apply gL2 | apply gL3 | apply gL4); assumption)))
        refine t_cond (fun e => by cases e) (fun _ => ?_)
        exact t_again (next _ _ _ (best.skip h1 (by simpa using ok) rd9) hcap)
    · (repeat (first | (with_reducible first | apply gA | apply gB | apply gC | apply gD | apply gE | apply gF | apply gG | apply gH | apply gI | apply gJ | apply gK | apply gL | apply gM | apply gN | apply gO | apply gP | apply gQ | apply gR) | ((with_reducible first | apply gT | apply gS2); first | exact rfl | assumption | omega | exact ⟨⟩) | ((with_reducible first | apply gL0 | apply gL1 | apply gL2 | apply gL3 | apply gL4); assumption)))
      have hrem0 : rem = [] := List.length_eq_zero_iff.1 (by omega)
      subst hrem0
      obtain ⟨hc8, s, hq8⟩ : h₈.chans = [] ∧ ∃ s, h₈.get q = some (true, .chan 0 #[] false s s false) := by
        rcases hst8 with ⟨a, _⟩ | ⟨_, a, b⟩
        · exact absurd rfl a
        · exact ⟨a, b⟩
      refine t_loadC (rd8 _ _ z4) ?_
      refine t_close hq8 ?_
      have rd9 : Rd h₈.get (h₈.get.upd q (true, .chan 0 #[] true s s false)) := by
        intro a v hc
        have hne : a.block ≠ q := by
          intro e
          unfold Cells.cell? at hc
          rw [e, hq8] at hc; cases hc
        unfold Cells.cell? at hc ⊢
        rw [Cells.upd_ne _ _ hne]; exact hc
      have b9 : BestR (h₈.get.upd q (true, .chan 0 #[] true s s false)) u land day [] p n := by
        rcases best with b1 | ⟨k2, a, b1, b2, b3, b4, b5⟩
        · exact .inl b1
        · exact .inr ⟨k2, a, b1, b2, b3, b4.rd IntE.grow rd9, b5⟩
      exact t_ret ⟨((Rd.of_le le08.1).trans rd8).trans rd9, hc8, pd8, td8, .inr ⟨ho, p, n, c, rfl, b9, hcap⟩⟩
end Go.Proofs.YtibibhojkfapnaaDoor
end
section
namespace Go.Proofs.YtibibhojkfapnaaDoor
open Go Go.TM Go.Proofs
set_option linter.unusedVariables false
set_option maxRecDepth 100000
noncomputable def n16  : T := .call false 52 #[] fun v => .unAgg v fun l => .popI .i64 l fun n vs => .popI .i64 vs fun n_1 vs => .popI .i64 vs fun n_2 vs => .popI .i64 vs fun n_3 vs => .popS vs fun a n_4 c vs => .popS vs fun a_1 n_5 c_1 vs => .popS vs fun a_2 n_6 c_2 vs => .unNil vs (.call false 17 #[.agg #[.int .i64 n, .int .i64 n_1, .int .i64 n_2, .int .i64 n_3, .slice a n_4 c, .slice a_1 n_5 c_1, .slice a_2 n_6 c_2], .int .i64 20] fun v => .unTup v fun l => .unCons l fun v vs => .unAgg v fun l => .popI .i64 l fun n_7 vs_1 => .popI .i64 vs_1 fun n_8 vs_2 => .unNil vs_2 (.unCons vs fun v vs => .unI .i64 v fun n_9 => .unNil vs (.call false 17 #[.agg #[.int .i64 n, .int .i64 n_1, .int .i64 n_2, .int .i64 n_3, .slice a n_4 c, .slice a_1 n_5 c_1, .slice a_2 n_6 c_2], .int .i64 25] fun v => .unTup v fun l => .unCons l fun v vs => .unAgg v fun l => .popI .i64 l fun n_10 vs_3 => .popI .i64 vs_3 fun n_11 vs_4 => .unNil vs_4 (.unCons vs fun v vs => .unI .i64 v fun n_12 => .unNil vs (.call false 19 #[.agg #[.int .i64 n, .int .i64 n_1, .int .i64 n_2, .int .i64 n_3, .slice a n_4 c, .slice a_1 n_5 c_1, .slice a_2 n_6 c_2], .int .i64 0, .int .i64 1, .int .i64 16] fun v => .unTup v fun l => .unCons l fun v vs => .unI .i64 v fun n_13 => .unCons vs fun v vs => .unI .i64 v fun n_14 => .unNil vs (.call false 19 #[.agg #[.int .i64 n, .int .i64 n_1, .int .i64 n_2, .int .i64 n_3, .slice a n_4 c, .slice a_1 n_5 c_1, .slice a_2 n_6 c_2], .int .i64 0, .int .i64 1, .int .i64 18] fun v => .unTup v fun l => .unCons l fun v vs => .unI .i64 v fun n_15 => .unCons vs fun v vs => .unI .i64 v fun n_16 => .unNil vs (.call false 19 #[.agg #[.int .i64 n, .int .i64 n_1, .int .i64 n_2, .int .i64 n_3, .slice a n_4 c, .slice a_1 n_5 c_1, .slice a_2 n_6 c_2], .int .i64 0, .int .i64 1, .int .i64 19] fun v => .unTup v fun l => .unCons l fun v vs => .unI .i64 v fun n_17 => .unCons vs fun v vs => .unI .i64 v fun n_18 => .unNil vs (.call false 21 #[.agg #[.int .i64 n, .int .i64 n_1, .int .i64 n_2, .int .i64 n_3, .slice a n_4 c, .slice a_1 n_5 c_1, .slice a_2 n_6 c_2], .int .i64 0, .int .i64 1] fun v => .unTup v fun l => .unCons l fun v vs => .unI .i64 v fun n_19 => .unCons vs fun v vs => .unI .i64 v fun n_20 => .unNil vs (.call false 21 #[.agg #[.int .i64 n, .int .i64 n_1, .int .i64 n_2, .int .i64 n_3, .slice a n_4 c, .slice a_1 n_5 c_1, .slice a_2 n_6 c_2], .int .i64 1, .int .i64 2] fun v => .unTup v fun l => .unCons l fun v vs => .unI .i64 v fun n_21 => .unCons vs fun v vs => .unI .i64 v fun n_22 => .unNil vs (.call false 23 #[.agg #[.int .i64 n, .int .i64 n_1, .int .i64 n_2, .int .i64 n_3, .slice a n_4 c, .slice a_1 n_5 c_1, .slice a_2 n_6 c_2], .int .i64 0, .int .i64 25] fun v => .unTup v fun l => .unCons l fun v vs => .unS v fun a_3 n_23 c_3 => .unCons vs fun v vs => .unI .i64 v fun n_24 => .unNil vs (.call false 28 #[.agg #[.int .i64 n, .int .i64 n_1, .int .i64 n_2, .int .i64 n_3, .slice a n_4 c, .slice a_1 n_5 c_1, .slice a_2 n_6 c_2], .int .i64 0, .int .i64 20] fun v => .unTup v fun l => .unCons l fun v vs => .unS v fun a_4 n_25 c_4 => .unCons vs fun v vs => .unI .i64 v fun n_26 => .unNil vs (.call false 33 #[.agg #[.int .i64 n, .int .i64 n_1, .int .i64 n_2, .int .i64 n_3, .slice a n_4 c, .slice a_1 n_5 c_1, .slice a_2 n_6 c_2], .int .i64 0, .int .i64 25] fun v => .unTup v fun l => .unCons l fun v vs => .unS v fun a_5 n_27 c_5 => .unCons vs fun v vs => .unI .i64 v fun n_28 => .unNil vs (.sem false (Instr.buildSlice 50 2 #[(0, .int .i64 0), (1, .int .i64 2)]) fun v => .unS v fun a_6 n_29 c_6 => .call false 31 #[.agg #[.int .i64 n, .int .i64 n_1, .int .i64 n_2, .int .i64 n_3, .slice a n_4 c, .slice a_1 n_5 c_1, .slice a_2 n_6 c_2], .int .i64 0, .int .i64 25, .slice a_6 n_29 c_6] fun v => .unTup v fun l => .unCons l fun v vs => .unB v fun b => .unCons vs fun v vs => .unI .i64 v fun n => .unNil vs (.blk (bif n_9 != 0 then .leaf (.retn [.bool false]) else bif n_12 != 0 then .leaf (.retn [.bool false]) else bif n_14 != 0 then .leaf (.retn [.bool false]) else bif n_16 != 0 then .leaf (.retn [.bool false]) else bif n_18 != 0 then .leaf (.retn [.bool false]) else bif n_20 != 0 then .leaf (.retn [.bool false]) else bif n_22 != 0 then .leaf (.retn [.bool false]) else bif n_24 != 0 then .leaf (.retn [.bool false]) else bif n_26 != 0 then .leaf (.retn [.bool false]) else bif n_28 != 0 then .leaf (.retn [.bool false]) else bif n != 0 then .leaf (.retn [.bool false]) else .leaf (.again [.bool false])) (fun vs => .popB vs fun b_1 vs => .unNil vs (.blk (.call false 42 #[.int .i64 16, .int .i64 20] fun v => .unAgg v fun l => .popI .i64 l fun n vs => .popI .i64 vs fun n_30 vs => .unNil vs (.nd (.agg #[.int .i64 n_7, .int .i64 n_8]) (.sem false (Sem.bind (eqGuard BinOp.neq 30 (Operand.tmp 123) (Operand.tmp 124) (.agg #[.int .i64 n_7, .int .i64 n_8]) (.agg #[.int .i64 n, .int .i64 n_30])) fun __r => binOp BinOp.neq 30 (.agg #[.int .i64 n_7, .int .i64 n_8]) (.agg #[.int .i64 n, .int .i64 n_30])) fun v => .unB v fun b_2 => bif b_2 then .nd (.tuple #[]) (.nd (.bool true) (.nd (.bool true) (.nd (.bool true) (.nd (.bool true) (.nd (.bool true) (.nd (.bool true) (.nd (.bool true) (.nd (.bool true) (.nd (.bool true) (.nd (.bool true) (.nd (.bool true) (.nd (.bool true) (.nd (.bool true) (.nd (.bool true) (.nd (.bool true) (.nd (.tuple #[]) (.nd (.bool true) (.nd (.tuple #[]) (.nd (.bool true) (.nd (.bool true) (.nd (.bool true) (.nd (.bool true) (.nd (.bool true) (.nd (.bool true) (.nd (.bool true) (.nd (.bool true) (.nd (.tuple #[]) (.nd (.bool true) (.nd (.bool true) (.nd (.bool true) (.nd (.bool true) (.nd (.bool true) (.nd (.bool true) (.nd (.bool true) (.nd (.bool true) (.nd (.tuple #[]) (.nd (.bool true) (.nd (.bool true) (.nd (.bool true) (.nd (.bool true) (.nd (.bool true) (.nd (.bool true) (.nd (.bool true) (.leaf (.retn [.bool false]))))))))))))))))))))))))))))))))))))))))))))) else .call false 42 #[.int .i64 18, .int .i64 25] fun v => .unAgg v fun l => .popI .i64 l fun n vs => .popI .i64 vs fun n_31 vs => .unNil vs (.nd (.agg #[.int .i64 n_10, .int .i64 n_11]) (.sem false (Sem.bind (eqGuard BinOp.neq 30 (Operand.tmp 127) (Operand.tmp 128) (.agg #[.int .i64 n_10, .int .i64 n_11]) (.agg #[.int .i64 n, .int .i64 n_31])) fun __r => binOp BinOp.neq 30 (.agg #[.int .i64 n_10, .int .i64 n_11]) (.agg #[.int .i64 n, .int .i64 n_31])) fun v => .unB v fun b_3 => bif b_3 then .nd (.bool b_3) (.nd (.bool true) (.nd (.bool b_3) (.nd (.bool true) (.nd (.bool true) (.nd (.bool b_3) (.nd (.bool true) (.nd (.bool true) (.nd (.bool true) (.nd (.bool b_3) (.nd (.bool true) (.nd (.bool true) (.nd (.bool true) (.nd (.bool true) (.nd (.bool b_3) (.nd (.tuple #[]) (.nd (.bool true) (.nd (.tuple #[]) (.nd (.bool true) (.nd (.bool true) (.nd (.bool true) (.nd (.bool true) (.nd (.bool true) (.nd (.bool true) (.nd (.bool b_3) (.nd (.bool true) (.nd (.tuple #[]) (.nd (.bool true) (.nd (.bool true) (.nd (.bool true) (.nd (.bool true) (.nd (.bool true) (.nd (.bool true) (.nd (.bool b_3) (.nd (.bool true) (.nd (.tuple #[]) (.nd (.bool true) (.nd (.bool true) (.nd (.bool true) (.nd (.bool true) (.nd (.bool true) (.nd (.bool true) (.nd (.bool b_3) (.leaf (.retn [.bool false])))))))))))))))))))))))))))))))))))))))))))) else bif n_13 != 1 then .nd (.bool (n_13 != 1)) (.nd (.bool (n_13 != 1)) (.nd (.int .i64 n_13) (.need (AV.val (.bool b_3) = AV.val (.bool false)) (.nd (.bool b_3) (.nd (.bool true) (.nd (.bool (n_13 != 1)) (.nd (.bool (n_13 != 1)) (.nd (.int .i64 n_13) (.need (AV.val (.bool b_3) = AV.val (.bool false)) (.nd (.bool b_3) (.nd (.bool true) (.nd (.bool true) (.nd (.bool (n_13 != 1)) (.nd (.bool (n_13 != 1)) (.nd (.int .i64 n_13) (.need (AV.val (.bool b_3) = AV.val (.bool false)) (.nd (.bool b_3) (.nd (.bool true) (.nd (.bool true) (.nd (.bool true) (.nd (.bool (n_13 != 1)) (.nd (.bool (n_13 != 1)) (.nd (.int .i64 n_13) (.need (AV.val (.bool b_3) = AV.val (.bool false)) (.nd (.bool b_3) (.nd (.tuple #[]) (.nd (.bool true) (.nd (.tuple #[]) (.nd (.bool true) (.nd (.bool true) (.nd (.bool true) (.nd (.bool true) (.nd (.bool true) (.nd (.bool (n_13 != 1)) (.nd (.bool (n_13 != 1)) (.nd (.int .i64 n_13) (.need (AV.val (.bool b_3) = AV.val (.bool false)) (.nd (.bool b_3) (.nd (.bool true) (.nd (.tuple #[]) (.nd (.bool true) (.nd (.bool true) (.nd (.bool true) (.nd (.bool true) (.nd (.bool true) (.nd (.bool (n_13 != 1)) (.nd (.bool (n_13 != 1)) (.nd (.int .i64 n_13) (.need (AV.val (.bool b_3) = AV.val (.bool false)) (.nd (.bool b_3) (.nd (.bool true) (.nd (.tuple #[]) (.nd (.bool true) (.nd (.bool true) (.nd (.bool true) (.nd (.bool true) (.nd (.bool true) (.nd (.bool (n_13 != 1)) (.nd (.bool (n_13 != 1)) (.nd (.int .i64 n_13) (.need (AV.val (.bool b_3) = AV.val (.bool false)) (.nd (.bool b_3) (.leaf (.retn [.bool false])))))))))))))))))))))))))))))))))))))))))))))))))))))))))))))))) else bif n_15 != 0 then .nd (.bool (n_15 != 0)) (.nd (.bool (n_15 != 0)) (.nd (.int .i64 n_15) (.need (AV.val (.bool (n_13 != 1)) = AV.val (.bool false)) (.nd (.bool (n_13 != 1)) (.nd (.bool (n_13 != 1)) (.nd (.int .i64 n_13) (.need (AV.val (.bool b_3) = AV.val (.bool false)) (.nd (.bool b_3) (.nd (.bool true) (.nd (.bool (n_15 != 0)) (.nd (.bool (n_15 != 0)) (.nd (.int .i64 n_15) (.need (AV.val (.bool (n_13 != 1)) = AV.val (.bool false)) (.nd (.bool (n_13 != 1)) (.nd (.bool (n_13 != 1)) (.nd (.int .i64 n_13) (.need (AV.val (.bool b_3) = AV.val (.bool false)) (.nd (.bool b_3) (.nd (.bool true) (.nd (.bool true) (.nd (.bool (n_15 != 0)) (.nd (.bool (n_15 != 0)) (.nd (.int .i64 n_15) (.need (AV.val (.bool (n_13 != 1)) = AV.val (.bool false)) (.nd (.bool (n_13 != 1)) (.nd (.bool (n_13 != 1)) (.nd (.int .i64 n_13) (.need (AV.val (.bool b_3) = AV.val (.bool false)) (.nd (.bool b_3) (.nd (.tuple #[]) (.nd (.bool true) (.nd (.tuple #[]) (.nd (.bool true) (.nd (.bool true) (.nd (.bool true) (.nd (.bool true) (.nd (.bool (n_15 != 0)) (.nd (.bool (n_15 != 0)) (.nd (.int .i64 n_15) (.need (AV.val (.bool (n_13 != 1)) = AV.val (.bool false)) (.nd (.bool (n_13 != 1)) (.nd (.bool (n_13 != 1)) (.nd (.int .i64 n_13) (.need (AV.val (.bool b_3) = AV.val (.bool false)) (.nd (.bool b_3) (.nd (.bool true) (.nd (.tuple #[]) (.nd (.bool true) (.nd (.bool true) (.nd (.bool true) (.nd (.bool true) (.nd (.bool (n_15 != 0)) (.nd (.bool (n_15 != 0)) (.nd (.int .i64 n_15) (.need (AV.val (.bool (n_13 != 1)) = AV.val (.bool false)) (.nd (.bool (n_13 != 1)) (.nd (.bool (n_13 != 1)) (.nd (.int .i64 n_13) (.need (AV.val (.bool b_3) = AV.val (.bool false)) (.nd (.bool b_3) (.nd (.bool true) (.nd (.tuple #[]) (.nd (.bool true) (.nd (.bool true) (.nd (.bool true) (.nd (.bool true) (.nd (.bool (n_15 != 0)) (.nd (.bool (n_15 != 0)) (.nd (.int .i64 n_15) (.need (AV.val (.bool (n_13 != 1)) = AV.val (.bool false)) (.nd (.bool (n_13 != 1)) (.nd (.bool (n_13 != 1)) (.nd (.int .i64 n_13) (.need (AV.val (.bool b_3) = AV.val (.bool false)) (.nd (.bool b_3) (.leaf (.retn [.bool false]))))))))))))))))))))))))))))))))))))))))))))))))))))))))))))))))))))))))))))) else bif n_17 != 2 then .nd (.bool (n_17 != 2)) (.nd (.bool (n_17 != 2)) (.nd (.int .i64 n_17) (.need (AV.val (.bool (n_15 != 0)) = AV.val (.bool false)) (.nd (.bool (n_15 != 0)) (.nd (.bool (n_15 != 0)) (.nd (.int .i64 n_15) (.need (AV.val (.bool (n_13 != 1)) = AV.val (.bool false)) (.nd (.bool (n_13 != 1)) (.nd (.bool (n_13 != 1)) (.nd (.int .i64 n_13) (.need (AV.val (.bool b_3) = AV.val (.bool false)) (.nd (.bool b_3) (.nd (.bool true) (.nd (.bool (n_17 != 2)) (.nd (.bool (n_17 != 2)) (.nd (.int .i64 n_17) (.need (AV.val (.bool (n_15 != 0)) = AV.val (.bool false)) (.nd (.bool (n_15 != 0)) (.nd (.bool (n_15 != 0)) (.nd (.int .i64 n_15) (.need (AV.val (.bool (n_13 != 1)) = AV.val (.bool false)) (.nd (.bool (n_13 != 1)) (.nd (.bool (n_13 != 1)) (.nd (.int .i64 n_13) (.need (AV.val (.bool b_3) = AV.val (.bool false)) (.nd (.bool b_3) (.nd (.tuple #[]) (.nd (.bool true) (.nd (.tuple #[]) (.nd (.bool true) (.nd (.bool true) (.nd (.bool true) (.nd (.bool (n_17 != 2)) (.nd (.bool (n_17 != 2)) (.nd (.int .i64 n_17) (.need (AV.val (.bool (n_15 != 0)) = AV.val (.bool false)) (.nd (.bool (n_15 != 0)) (.nd (.bool (n_15 != 0)) (.nd (.int .i64 n_15) (.need (AV.val (.bool (n_13 != 1)) = AV.val (.bool false)) (.nd (.bool (n_13 != 1)) (.nd (.bool (n_13 != 1)) (.nd (.int .i64 n_13) (.need (AV.val (.bool b_3) = AV.val (.bool false)) (.nd (.bool b_3) (.nd (.bool true) (.nd (.tuple #[]) (.nd (.bool true) (.nd (.bool true) (.nd (.bool true) (.nd (.bool (n_17 != 2)) (.nd (.bool (n_17 != 2)) (.nd (.int .i64 n_17) (.need (AV.val (.bool (n_15 != 0)) = AV.val (.bool false)) (.nd (.bool (n_15 != 0)) (.nd (.bool (n_15 != 0)) (.nd (.int .i64 n_15) (.need (AV.val (.bool (n_13 != 1)) = AV.val (.bool false)) (.nd (.bool (n_13 != 1)) (.nd (.bool (n_13 != 1)) (.nd (.int .i64 n_13) (.need (AV.val (.bool b_3) = AV.val (.bool false)) (.nd (.bool b_3) (.nd (.bool true) (.nd (.tuple #[]) (.nd (.bool true) (.nd (.bool true) (.nd (.bool true) (.nd (.bool (n_17 != 2)) (.nd (.bool (n_17 != 2)) (.nd (.int .i64 n_17) (.need (AV.val (.bool (n_15 != 0)) = AV.val (.bool false)) (.nd (.bool (n_15 != 0)) (.nd (.bool (n_15 != 0)) (.nd (.int .i64 n_15) (.need (AV.val (.bool (n_13 != 1)) = AV.val (.bool false)) (.nd (.bool (n_13 != 1)) (.nd (.bool (n_13 != 1)) (.nd (.int .i64 n_13) (.need (AV.val (.bool b_3) = AV.val (.bool false)) (.nd (.bool b_3) (.leaf (.retn [.bool false]))))))))))))))))))))))))))))))))))))))))))))))))))))))))))))))))))))))))))))))))))) else bif n_19 != 17 then .nd (.bool (n_19 != 17)) (.nd (.bool (n_19 != 17)) (.nd (.int .i64 n_19) (.need (AV.val (.bool (n_17 != 2)) = AV.val (.bool false)) (.nd (.bool (n_17 != 2)) (.nd (.bool (n_17 != 2)) (.nd (.int .i64 n_17) (.need (AV.val (.bool (n_15 != 0)) = AV.val (.bool false)) (.nd (.bool (n_15 != 0)) (.nd (.bool (n_15 != 0)) (.nd (.int .i64 n_15) (.need (AV.val (.bool (n_13 != 1)) = AV.val (.bool false)) (.nd (.bool (n_13 != 1)) (.nd (.bool (n_13 != 1)) (.nd (.int .i64 n_13) (.need (AV.val (.bool b_3) = AV.val (.bool false)) (.nd (.bool b_3) (.nd (.tuple #[]) (.nd (.bool true) (.nd (.tuple #[]) (.nd (.bool true) (.nd (.bool true) (.nd (.bool (n_19 != 17)) (.nd (.bool (n_19 != 17)) (.nd (.int .i64 n_19) (.need (AV.val (.bool (n_17 != 2)) = AV.val (.bool false)) (.nd (.bool (n_17 != 2)) (.nd (.bool (n_17 != 2)) (.nd (.int .i64 n_17) (.need (AV.val (.bool (n_15 != 0)) = AV.val (.bool false)) (.nd (.bool (n_15 != 0)) (.nd (.bool (n_15 != 0)) (.nd (.int .i64 n_15) (.need (AV.val (.bool (n_13 != 1)) = AV.val (.bool false)) (.nd (.bool (n_13 != 1)) (.nd (.bool (n_13 != 1)) (.nd (.int .i64 n_13) (.need (AV.val (.bool b_3) = AV.val (.bool false)) (.nd (.bool b_3) (.nd (.bool true) (.nd (.tuple #[]) (.nd (.bool true) (.nd (.bool true) (.nd (.bool (n_19 != 17)) (.nd (.bool (n_19 != 17)) (.nd (.int .i64 n_19) (.need (AV.val (.bool (n_17 != 2)) = AV.val (.bool false)) (.nd (.bool (n_17 != 2)) (.nd (.bool (n_17 != 2)) (.nd (.int .i64 n_17) (.need (AV.val (.bool (n_15 != 0)) = AV.val (.bool false)) (.nd (.bool (n_15 != 0)) (.nd (.bool (n_15 != 0)) (.nd (.int .i64 n_15) (.need (AV.val (.bool (n_13 != 1)) = AV.val (.bool false)) (.nd (.bool (n_13 != 1)) (.nd (.bool (n_13 != 1)) (.nd (.int .i64 n_13) (.need (AV.val (.bool b_3) = AV.val (.bool false)) (.nd (.bool b_3) (.nd (.bool true) (.nd (.tuple #[]) (.nd (.bool true) (.nd (.bool true) (.nd (.bool (n_19 != 17)) (.nd (.bool (n_19 != 17)) (.nd (.int .i64 n_19) (.need (AV.val (.bool (n_17 != 2)) = AV.val (.bool false)) (.nd (.bool (n_17 != 2)) (.nd (.bool (n_17 != 2)) (.nd (.int .i64 n_17) (.need (AV.val (.bool (n_15 != 0)) = AV.val (.bool false)) (.nd (.bool (n_15 != 0)) (.nd (.bool (n_15 != 0)) (.nd (.int .i64 n_15) (.need (AV.val (.bool (n_13 != 1)) = AV.val (.bool false)) (.nd (.bool (n_13 != 1)) (.nd (.bool (n_13 != 1)) (.nd (.int .i64 n_13) (.need (AV.val (.bool b_3) = AV.val (.bool false)) (.nd (.bool b_3) (.leaf (.retn [.bool false])))))))))))))))))))))))))))))))))))))))))))))))))))))))))))))))))))))))))))))))))) else bif n_21 != 15 then .nd (.tuple #[]) (.nd (.bool true) (.nd (.tuple #[]) (.need (AV.val (.bool (n_21 != 15)) = AV.val (.bool true)) (.nd (.bool (n_21 != 15)) (.nd (.bool (n_21 != 15)) (.nd (.int .i64 n_21) (.need (AV.val (.bool (n_19 != 17)) = AV.val (.bool false)) (.nd (.bool (n_19 != 17)) (.nd (.bool (n_19 != 17)) (.nd (.int .i64 n_19) (.need (AV.val (.bool (n_17 != 2)) = AV.val (.bool false)) (.nd (.bool (n_17 != 2)) (.nd (.bool (n_17 != 2)) (.nd (.int .i64 n_17) (.need (AV.val (.bool (n_15 != 0)) = AV.val (.bool false)) (.nd (.bool (n_15 != 0)) (.nd (.bool (n_15 != 0)) (.nd (.int .i64 n_15) (.need (AV.val (.bool (n_13 != 1)) = AV.val (.bool false)) (.nd (.bool (n_13 != 1)) (.nd (.bool (n_13 != 1)) (.nd (.int .i64 n_13) (.need (AV.val (.bool b_3) = AV.val (.bool false)) (.nd (.bool b_3) (.nd (.bool true) (.nd (.tuple #[]) (.need (AV.val (.bool (n_21 != 15)) = AV.val (.bool true)) (.nd (.bool (n_21 != 15)) (.nd (.bool (n_21 != 15)) (.nd (.int .i64 n_21) (.need (AV.val (.bool (n_19 != 17)) = AV.val (.bool false)) (.nd (.bool (n_19 != 17)) (.nd (.bool (n_19 != 17)) (.nd (.int .i64 n_19) (.need (AV.val (.bool (n_17 != 2)) = AV.val (.bool false)) (.nd (.bool (n_17 != 2)) (.nd (.bool (n_17 != 2)) (.nd (.int .i64 n_17) (.need (AV.val (.bool (n_15 != 0)) = AV.val (.bool false)) (.nd (.bool (n_15 != 0)) (.nd (.bool (n_15 != 0)) (.nd (.int .i64 n_15) (.need (AV.val (.bool (n_13 != 1)) = AV.val (.bool false)) (.nd (.bool (n_13 != 1)) (.nd (.bool (n_13 != 1)) (.nd (.int .i64 n_13) (.need (AV.val (.bool b_3) = AV.val (.bool false)) (.nd (.bool b_3) (.nd (.bool true) (.nd (.tuple #[]) (.need (AV.val (.bool (n_21 != 15)) = AV.val (.bool true)) (.nd (.bool (n_21 != 15)) (.nd (.bool (n_21 != 15)) (.nd (.int .i64 n_21) (.need (AV.val (.bool (n_19 != 17)) = AV.val (.bool false)) (.nd (.bool (n_19 != 17)) (.nd (.bool (n_19 != 17)) (.nd (.int .i64 n_19) (.need (AV.val (.bool (n_17 != 2)) = AV.val (.bool false)) (.nd (.bool (n_17 != 2)) (.nd (.bool (n_17 != 2)) (.nd (.int .i64 n_17) (.need (AV.val (.bool (n_15 != 0)) = AV.val (.bool false)) (.nd (.bool (n_15 != 0)) (.nd (.bool (n_15 != 0)) (.nd (.int .i64 n_15) (.need (AV.val (.bool (n_13 != 1)) = AV.val (.bool false)) (.nd (.bool (n_13 != 1)) (.nd (.bool (n_13 != 1)) (.nd (.int .i64 n_13) (.need (AV.val (.bool b_3) = AV.val (.bool false)) (.nd (.bool b_3) (.leaf (.retn [.bool false])))))))))))))))))))))))))))))))))))))))))))))))))))))))))))))))))))))))))) else bif b then .nd (.tuple #[]) (.nd (.bool b) (.nd (.bool b) (.need (AV.val (.bool (n_21 != 15)) = AV.val (.bool false)) (.nd (.bool (n_21 != 15)) (.nd (.bool (n_21 != 15)) (.nd (.int .i64 n_21) (.need (AV.val (.bool (n_19 != 17)) = AV.val (.bool false)) (.nd (.bool (n_19 != 17)) (.nd (.bool (n_19 != 17)) (.nd (.int .i64 n_19) (.need (AV.val (.bool (n_17 != 2)) = AV.val (.bool false)) (.nd (.bool (n_17 != 2)) (.nd (.bool (n_17 != 2)) (.nd (.int .i64 n_17) (.need (AV.val (.bool (n_15 != 0)) = AV.val (.bool false)) (.nd (.bool (n_15 != 0)) (.nd (.bool (n_15 != 0)) (.nd (.int .i64 n_15) (.need (AV.val (.bool (n_13 != 1)) = AV.val (.bool false)) (.nd (.bool (n_13 != 1)) (.nd (.bool (n_13 != 1)) (.nd (.int .i64 n_13) (.need (AV.val (.bool b_3) = AV.val (.bool false)) (.nd (.bool b_3) (.nd (.bool b) (.nd (.bool b) (.need (AV.val (.bool (n_21 != 15)) = AV.val (.bool false)) (.nd (.bool (n_21 != 15)) (.nd (.bool (n_21 != 15)) (.nd (.int .i64 n_21) (.need (AV.val (.bool (n_19 != 17)) = AV.val (.bool false)) (.nd (.bool (n_19 != 17)) (.nd (.bool (n_19 != 17)) (.nd (.int .i64 n_19) (.need (AV.val (.bool (n_17 != 2)) = AV.val (.bool false)) (.nd (.bool (n_17 != 2)) (.nd (.bool (n_17 != 2)) (.nd (.int .i64 n_17) (.need (AV.val (.bool (n_15 != 0)) = AV.val (.bool false)) (.nd (.bool (n_15 != 0)) (.nd (.bool (n_15 != 0)) (.nd (.int .i64 n_15) (.need (AV.val (.bool (n_13 != 1)) = AV.val (.bool false)) (.nd (.bool (n_13 != 1)) (.nd (.bool (n_13 != 1)) (.nd (.int .i64 n_13) (.need (AV.val (.bool b_3) = AV.val (.bool false)) (.nd (.bool b_3) (.nd (.bool b) (.nd (.bool b) (.need (AV.val (.bool (n_21 != 15)) = AV.val (.bool false)) (.nd (.bool (n_21 != 15)) (.nd (.bool (n_21 != 15)) (.nd (.int .i64 n_21) (.need (AV.val (.bool (n_19 != 17)) = AV.val (.bool false)) (.nd (.bool (n_19 != 17)) (.nd (.bool (n_19 != 17)) (.nd (.int .i64 n_19) (.need (AV.val (.bool (n_17 != 2)) = AV.val (.bool false)) (.nd (.bool (n_17 != 2)) (.nd (.bool (n_17 != 2)) (.nd (.int .i64 n_17) (.need (AV.val (.bool (n_15 != 0)) = AV.val (.bool false)) (.nd (.bool (n_15 != 0)) (.nd (.bool (n_15 != 0)) (.nd (.int .i64 n_15) (.need (AV.val (.bool (n_13 != 1)) = AV.val (.bool false)) (.nd (.bool (n_13 != 1)) (.nd (.bool (n_13 != 1)) (.nd (.int .i64 n_13) (.need (AV.val (.bool b_3) = AV.val (.bool false)) (.nd (.bool b_3) (.leaf (.retn [.bool false])))))))))))))))))))))))))))))))))))))))))))))))))))))))))))))))))))))))))) else .sem false (Instr.buildSlice 50 1 #[(0, .int .i64 1)]) fun v => .unS v fun a n c => .nd (.slice a_5 n_27 c_5) (.nd (.bool b) (.nd (.bool b) (.need (AV.val (.bool (n_21 != 15)) = AV.val (.bool false)) (.nd (.bool (n_21 != 15)) (.nd (.bool (n_21 != 15)) (.nd (.int .i64 n_21) (.need (AV.val (.bool (n_19 != 17)) = AV.val (.bool false)) (.nd (.bool (n_19 != 17)) (.nd (.bool (n_19 != 17)) (.nd (.int .i64 n_19) (.need (AV.val (.bool (n_17 != 2)) = AV.val (.bool false)) (.nd (.bool (n_17 != 2)) (.nd (.bool (n_17 != 2)) (.nd (.int .i64 n_17) (.need (AV.val (.bool (n_15 != 0)) = AV.val (.bool false)) (.nd (.bool (n_15 != 0)) (.nd (.bool (n_15 != 0)) (.nd (.int .i64 n_15) (.need (AV.val (.bool (n_13 != 1)) = AV.val (.bool false)) (.nd (.bool (n_13 != 1)) (.nd (.bool (n_13 != 1)) (.nd (.int .i64 n_13) (.need (AV.val (.bool b_3) = AV.val (.bool false)) (.nd (.bool b_3) (.call false 35 #[.slice a_5 n_27 c_5, .slice a n c] fun v => .unB v fun b_4 => .nd (.bool b) (.nd (.bool b) (.need (AV.val (.bool (n_21 != 15)) = AV.val (.bool false)) (.nd (.bool (n_21 != 15)) (.nd (.bool (n_21 != 15)) (.nd (.int .i64 n_21) (.need (AV.val (.bool (n_19 != 17)) = AV.val (.bool false)) (.nd (.bool (n_19 != 17)) (.nd (.bool (n_19 != 17)) (.nd (.int .i64 n_19) (.need (AV.val (.bool (n_17 != 2)) = AV.val (.bool false)) (.nd (.bool (n_17 != 2)) (.nd (.bool (n_17 != 2)) (.nd (.int .i64 n_17) (.need (AV.val (.bool (n_15 != 0)) = AV.val (.bool false)) (.nd (.bool (n_15 != 0)) (.nd (.bool (n_15 != 0)) (.nd (.int .i64 n_15) (.need (AV.val (.bool (n_13 != 1)) = AV.val (.bool false)) (.nd (.bool (n_13 != 1)) (.nd (.bool (n_13 != 1)) (.nd (.int .i64 n_13) (.need (AV.val (.bool b_3) = AV.val (.bool false)) (.nd (.bool b_3) (bif !b_4 then .leaf (.retn [.bool false]) else .leaf (.again [.bool b_1]))))))))))))))))))))))))))))))))))))))))))))))))))))))) (fun vs => .popB vs fun b vs => .unNil vs (.sem false (Instr.buildSlice 40 3 #[(0, .int .i64 1), (1, .int .i64 2), (2, .int .i64 0)]) fun v => .unS v fun a n c => .call false 25 #[.slice a_3 n_23 c_3, .slice a n c] fun v => .unB v fun b => bif b then .call false 42 #[.int .i64 16, .int .i64 20] fun v => .unAgg v fun l => .popI .i64 l fun n vs => .popI .i64 vs fun n_30 vs => .unNil vs (.call false 42 #[.int .i64 16, .int .i64 20] fun v => .unAgg v fun l => .popI .i64 l fun n_31 vs => .popI .i64 vs fun n_32 vs => .unNil vs (.sem false (Instr.buildSlice 45 2 #[(0, .agg #[.int .i64 1, .int .i64 0, .int .i64 n, .int .i64 n_30]), (1, .agg #[.int .i64 2, .int .i64 0, .int .i64 n_31, .int .i64 n_32])]) fun v => .unS v fun a n c => .call false 30 #[.slice a_4 n_25 c_4, .slice a n c] fun v => .unB v fun b => .leaf (.ret (.bool b)))) else .leaf (.ret (.bool false)))) (fun vs => .popB vs fun b vs => .unNil vs (.leaf (.ret (.bool b)))) fun x x_1 => .fail)) (fun vs => .popB vs fun b vs => .unNil vs (.leaf (.ret (.bool b)))) fun x x_1 => .fail))))))))))))))
theorem t16  : ftree ({ P := Tryd.prog, priv := [1, 2, 4], loops := [], joins := [{ id := 17, slots := [(0, .bool)], ro := [1, 2, 4], outs := [] }, { id := 15, slots := [(0, .bool)], ro := [1, 2, 4], outs := [] }] }) Tryd.f16 [] = n16  := by kernel_rfl
theorem w16  {X : XP} (hX : XOK X) {h : LH} {A : Value → LH → Prop} (hw : (n16 ).wp X Tryd.prog (retQ A) h) : FWK X Tryd.prog .normal 16 #[] h A := fwk_neat (t16 ) (by simp) (by kernel_rfl) (by kernel_rfl) hX hw
end Go.Proofs.YtibibhojkfapnaaDoor
end
section
namespace Go.Proofs.YtibibhojkfapnaaDoor
open Go Go.TM Go.Proofs
attribute [local irreducible] T.wp CV FWK
def exU : UseFile := ⟨3, 2, 10, 5, [⟨21, 23⟩], [⟨⟨12, 14⟩, 0, [0, 1]⟩, ⟨⟨19, 19⟩, 0, [0]⟩, ⟨⟨17, 26⟩, 0, [2]⟩, ⟨⟨18, 18⟩, 1, [0, 1]⟩], [⟨20, 0, [0, 1, 2]⟩, ⟨25, 0, [0, 2]⟩]⟩
theorem c42 {h : LH} (a b : Int) : Pu Tryd.prog 42 #[.int .i64 a, .int .i64 b] h (.agg #[.int .i64 a, .int .i64 b]) := by
  refine w42 _ _ X0_ok ?_
  unfold n42
  exact t_ret ⟨rfl, rfl⟩
theorem c35 {h : LH} {p q : Option Addr} {n c m d : Nat} {a b : List Int} (ha : Sl IntE 1 h.get p n a) (hb : Sl IntE 1 h.get q m b) : Pu Tryd.prog 35 #[.slice p n c, .slice q m d] h (.bool (decide (a = b))) := by
  refine w35 _ _ _ _ _ _ X0_ok ?_
  unfold n35
  have hn := ha.1
  have hm := hb.1
  have hbn := ha.2.1
  have hbm := hb.2.1
  refine t_cond (fun e => ?_) (fun e => ?_)
  · have : a ≠ b := by rintro rfl; simp at e; omega
    exact t_ret ⟨by simp [this], rfl⟩
  have hnm : n = m := by simp at e; omega
  refine t_loop (fun mm vs h' => h = h' ∧ ∃ i : Nat, vs = [.bool false, .int .i64 i] ∧ i ≤ n ∧ mm = n - i ∧ a.take i = b.take i) ⟨rfl, 0, rfl, Nat.zero_le _, rfl, rfl⟩ ?_
  rintro Y mm vs _ hY ⟨rfl, i, rfl, hi, rfl, hc⟩
  (repeat (first | (with_reducible first | apply gA | apply gB | apply gC | apply gD | apply gE | apply gF | apply gG | apply gH | apply gI | apply gJ | apply gK | apply gL | apply gM | apply gN | apply gO | apply gP | apply gQ | apply gR) | ((with_reducible first | apply gT | apply gS2); first | exact rfl | assumption | omega | exact ⟨⟩) | ((with_reducible first | apply gL0 | apply gL1 | apply gL2 | apply gL3 | apply gL4); assumption)))
  refine t_if (fun e => ?_) (fun e => ?_)
  · obtain ⟨x, a1, hx, ha1, e1⟩ := ha.at (i := i) (by omega)
    obtain ⟨y, a2, hy, ha2, e2⟩ := hb.at (i := i) (by omega)
    unfold IntE at e1 e2
    (repeat (first | (with_reducible first | apply gA | apply gB | apply gC | apply gD | apply gE | apply gF | apply gG | apply gH | apply gI | apply gJ | apply gK | apply gL | apply gM | apply gN | apply gO | apply gP | apply gQ | apply gR) | ((with_reducible first | apply gT | apply gS2); first | exact rfl | assumption | omega | exact ⟨⟩) | ((with_reducible first | apply gL0 | apply gL1 | apply gL2 | apply gL3 | apply gL4); assumption)))
    refine t_cond (fun b1 => ?_) (fun b1 => ?_)
    · (repeat (first | (with_reducible first | apply gA | apply gB | apply gC | apply gD | apply gE | apply gF | apply gG | apply gH | apply gI | apply gJ | apply gK | apply gL | apply gM | apply gN | apply gO | apply gP | apply gQ | apply gR) | ((with_reducible first | apply gT | apply gS2); first | exact rfl | assumption | omega | exact ⟨⟩) | ((with_reducible first | apply gL0 | apply gL1 | apply gL2 | apply gL3 | apply gL4); assumption)))
      have : a ≠ b := by rintro rfl; rw [hx] at hy; cases hy; simp at b1
      exact t_ret ⟨by simp [this], rfl⟩
    · have b2 : x = y := by simpa using b1
      refine t_again (hY (n - (i + 1)) _ _ (by omega) ⟨rfl, i + 1, ?_, by omega, rfl, ?_⟩)
      · rw [wrap_id (by omega) (by omega)]; rfl
      · rw [List.take_add_one, List.take_add_one, hc, hx, hy, b2]
  · (repeat (first | (with_reducible first | apply gA | apply gB | apply gC | apply gD | apply gE | apply gF | apply gG | apply gH | apply gI | apply gJ | apply gK | apply gL | apply gM | apply gN | apply gO | apply gP | apply gQ | apply gR) | ((with_reducible first | apply gT | apply gS2); first | exact rfl | assumption | omega | exact ⟨⟩) | ((with_reducible first | apply gL0 | apply gL1 | apply gL2 | apply gL3 | apply gL4); assumption)))
    rw [List.take_of_length_le (by omega), List.take_of_length_le (by omega)] at hc
    exact t_ret ⟨by simp [hc], rfl⟩
theorem c25 {h : LH} {p q : Option Addr} {n c m d : Nat} {a b : List Int} (ha : Sl IntE 1 h.get p n a) (hb : Sl IntE 1 h.get q m b) : Pu Tryd.prog 25 #[.slice p n c, .slice q m d] h (.bool (decide (a = b))) := by
  refine w25 _ _ _ _ _ _ X0_ok ?_
  unfold n25
  have hn := ha.1
  have hm := hb.1
  have hbn := ha.2.1
  have hbm := hb.2.1
  refine t_cond (fun e => ?_) (fun e => ?_)
  · have : a ≠ b := by rintro rfl; simp at e; omega
    exact t_ret ⟨by simp [this], rfl⟩
  have hnm : n = m := by simp at e; omega
  refine t_loop (fun mm vs h' => h = h' ∧ ∃ i : Nat, vs = [.bool false, .int .i64 i] ∧ i ≤ n ∧ mm = n - i ∧ a.take i = b.take i) ⟨rfl, 0, rfl, Nat.zero_le _, rfl, rfl⟩ ?_
  rintro Y mm vs _ hY ⟨rfl, i, rfl, hi, rfl, hc⟩
  (repeat (first | (with_reducible first | apply gA | apply gB | apply gC | apply gD | apply gE | apply gF | apply gG | apply gH | apply gI | apply gJ | apply gK | apply gL | apply gM | apply gN | apply gO | apply gP | apply gQ | apply gR) | ((with_reducible first | apply gT | apply gS2); first | exact rfl | assumption | omega | exact ⟨⟩) | ((with_reducible first | apply gL0 | apply gL1 | apply gL2 | apply gL3 | apply gL4); assumption)))
  refine t_if (fun e => ?_) (fun e => ?_)
  · obtain ⟨x, a1, hx, ha1, e1⟩ := ha.at (i := i) (by omega)
    obtain ⟨y, a2, hy, ha2, e2⟩ := hb.at (i := i) (by omega)
    unfold IntE at e1 e2
    (repeat (first | (with_reducible first | apply gA | apply gB | apply gC | apply gD | apply gE | apply gF | apply gG | apply gH | apply gI | apply gJ | apply gK | apply gL | apply gM | apply gN | apply gO | apply gP | apply gQ | apply gR) | ((with_reducible first | apply gT | apply gS2); first | exact rfl | assumption | omega | exact ⟨⟩) | ((with_reducible first | apply gL0 | apply gL1 | apply gL2 | apply gL3 | apply gL4); assumption)))
    refine t_cond (fun b1 => ?_) (fun b1 => ?_)
    · (repeat (first | (with_reducible first | apply gA | apply gB | apply gC | apply gD | apply gE | apply gF | apply gG | apply gH | apply gI | apply gJ | apply gK | apply gL | apply gM | apply gN | apply gO | apply gP | apply gQ | apply gR) | ((with_reducible first | apply gT | apply gS2); first | exact rfl | assumption | omega | exact ⟨⟩) | ((with_reducible first | apply gL0 | apply gL1 | apply gL2 | apply gL3 | apply gL4); assumption)))
      have : a ≠ b := by rintro rfl; rw [hx] at hy; cases hy; simp at b1
      exact t_ret ⟨by simp [this], rfl⟩
    · have b2 : x = y := by simpa using b1
      refine t_again (hY (n - (i + 1)) _ _ (by omega) ⟨rfl, i + 1, ?_, by omega, rfl, ?_⟩)
      · rw [wrap_id (by omega) (by omega)]; rfl
      · rw [List.take_add_one, List.take_add_one, hc, hx, hy, b2]
  · (repeat (first | (with_reducible first | apply gA | apply gB | apply gC | apply gD | apply gE | apply gF | apply gG | apply gH | apply gI | apply gJ | apply gK | apply gL | apply gM | apply gN | apply gO | apply gP | apply gQ | apply gR) | ((with_reducible first | apply gT | apply gS2); first | exact rfl | assumption | omega | exact ⟨⟩) | ((with_reducible first | apply gL0 | apply gL1 | apply gL2 | apply gL3 | apply gL4); assumption)))
    rw [List.take_of_length_le (by omega), List.take_of_length_le (by omega)] at hc
    exact t_ret ⟨by simp [hc], rfl⟩
end Go.Proofs.YtibibhojkfapnaaDoor
end
section
namespace Go.Proofs.YtibibhojkfapnaaDoor
open Go Go.TM Go.Proofs
attribute [local irreducible] T.wp CV FWK
theorem t_buildG {X : XP} {Q : Leaf → LH → Prop} {h : LH} {k : Value → T} {t el : TypeId} {n s b : Nat} {parts : Array (Nat × Value)} {z : Value} {cells : Array Value} (hu : Tryd.prog.underlying t = some (.slice el)) (hi : (Tryd.prog.info? el).map (fun i => (i.size, i.bytes, i.zero)) = some (s, b, some z)) (hn : n * s ≤ 2 ^ 24) (hpos : n * s ≠ 0)
    (hf : Instr.fill (fun i => some (i * s, s)) ((Array.range (n * s)).map (z.cells[· % z.cells.size]!)) parts.toList = some cells)
    (hk : ∀ r h', h.le h' → h.get r = none → h'.get r = some (true, .cells cells el (0, 0)) → (k (.slice (some ⟨r, 0, none⟩) n n)).wp X Tryd.prog Q h') : (T.sem false (Instr.buildSlice t n parts) k).wp X Tryd.prog Q h :=
  t_build hu hi hn hpos hf fun r hr => hk r _ (LH.upd_le hr) hr (Cells.upd_self _ _ _)
theorem sl_ints {h : Cells} {r : Nat} {m : Bool} {el : TypeId} {l : List Int} {cs : Array Value} (hcs : cs = (l.map (Value.int .i64)).toArray) (hr : h r = some (m, .cells cs el (0, 0))) (hb : l.length < 4611686018427387904) : Sl IntE 1 h (some ⟨r, 0, none⟩) l.length l := by
  refine ⟨rfl, hb, fun i x hx => ⟨_, rfl, ?_⟩⟩
  unfold IntE
  rw [add_plain, add_plain]
  subst hcs
  simp [Cells.cell?, hr, hx]
theorem cell_row {h : Cells} {r i : Nat} {m : Bool} {cs : Array Value} {el : TypeId} {v : Value} (hr : h r = some (m, .cells cs el (0, 0))) (hv : cs[i]? = some v) : h.cell? ⟨r, i, none⟩ = some v := by
  simp [Cells.cell?, hr, hv]
theorem exRep {h : Cells} {r1 r2 r3 r4 r5 r6 r7 r8 r9 : Nat} (e1 : h r1 = some (true, .cells #[.int .i64 21, .int .i64 23] 30 (0, 0))) (e2 : h r2 = some (true, .cells #[.int .i64 0, .int .i64 1] 3 (0, 0))) (e3 : h r3 = some (true, .cells #[.int .i64 0] 3 (0, 0))) (e4 : h r4 = some (true, .cells #[.int .i64 2] 3 (0, 0))) (e5 : h r5 = some (true, .cells #[.int .i64 0, .int .i64 1] 3 (0, 0)))
    (e6 : h r6 = some (true, .cells #[.int .i64 12, .int .i64 14, .int .i64 0, .slice (some ⟨r2, 0, none⟩) 2 2, .int .i64 19, .int .i64 19, .int .i64 0, .slice (some ⟨r3, 0, none⟩) 1 1, .int .i64 17, .int .i64 26, .int .i64 0, .slice (some ⟨r4, 0, none⟩) 1 1, .int .i64 18, .int .i64 18, .int .i64 1, .slice (some ⟨r5, 0, none⟩) 2 2] 69 (0, 0)))
    (e7 : h r7 = some (true, .cells #[.int .i64 0, .int .i64 1, .int .i64 2] 3 (0, 0))) (e8 : h r8 = some (true, .cells #[.int .i64 0, .int .i64 2] 3 (0, 0))) (e9 : h r9 = some (true, .cells #[.int .i64 20, .int .i64 0, .slice (some ⟨r7, 0, none⟩) 3 3, .int .i64 25, .int .i64 0, .slice (some ⟨r8, 0, none⟩) 2 2] 64 (0, 0))) :
    FileR h ⟨some ⟨r1, 0, none⟩, 1, 1, some ⟨r6, 0, none⟩, 4, 4, some ⟨r9, 0, none⟩, 2, 2⟩ exU := by
  have cr : ∀ {r i j : Nat} {m : Bool} {cs : Array Value} {el : TypeId} {v : Value}, h r = some (m, .cells cs el (0, 0)) → cs[i + j]? = some v → h.cell? (Addr.add (Addr.add ⟨r, 0, none⟩ i) j) = some v := by
    intro r i j m cs el v hr hv
    rw [add_plain, add_plain, Nat.zero_add]; exact cell_row hr hv
  refine ⟨⟨rfl, by show (1 : Nat) < _; omega, ?_⟩, ⟨rfl, by show (4 : Nat) < _; omega, ?_⟩, ⟨rfl, by show (2 : Nat) < _; omega, ?_⟩⟩
  · intro i x hx
    match i, hx with
    | 0, hx => cases hx; exact ⟨_, rfl, cr e1 rfl, cr e1 rfl⟩
    | i + 1, hx => simp [exU] at hx
  · intro i x hx
    match i, hx with
    | 0, hx => cases hx; exact ⟨_, rfl, cr e6 rfl, cr e6 rfl, cr e6 rfl, _, _, _, cr e6 rfl, sl_ints (l := [0, 1]) rfl e2 (by show (2 : Nat) < _; omega)⟩
    | 1, hx => cases hx; exact ⟨_, rfl, cr e6 rfl, cr e6 rfl, cr e6 rfl, _, _, _, cr e6 rfl, sl_ints (l := [0]) rfl e3 (by show (1 : Nat) < _; omega)⟩
    | 2, hx => cases hx; exact ⟨_, rfl, cr e6 rfl, cr e6 rfl, cr e6 rfl, _, _, _, cr e6 rfl, sl_ints (l := [2]) rfl e4 (by show (1 : Nat) < _; omega)⟩
    | 3, hx => cases hx; exact ⟨_, rfl, cr e6 rfl, cr e6 rfl, cr e6 rfl, _, _, _, cr e6 rfl, sl_ints (l := [0, 1]) rfl e5 (by show (2 : Nat) < _; omega)⟩
    | i + 4, hx => simp [exU] at hx
  · intro i x hx
    match i, hx with
    | 0, hx => cases hx; exact ⟨_, rfl, cr e9 rfl, cr e9 rfl, _, _, _, cr e9 rfl, sl_ints (l := [0, 1, 2]) rfl e7 (by show (3 : Nat) < _; omega)⟩
    | 1, hx => cases hx; exact ⟨_, rfl, cr e9 rfl, cr e9 rfl, _, _, _, cr e9 rfl, sl_ints (l := [0, 2]) rfl e8 (by show (2 : Nat) < _; omega)⟩
    | i + 2, hx => simp [exU] at hx
set_option maxRecDepth 100000 in
theorem c52 {h : LH} : Gr Tryd.prog 52 #[] h fun r h' => ∃ f, r = fileV f exU ∧ FileR h'.get f exU := by
  refine w52 X0_ok ?_
  unfold n52
  refine t_pu (c42 _ _) ?_
  (repeat (first | (with_reducible first | apply gA | apply gB | apply gC | apply gD | apply gE | apply gF | apply gG | apply gH | apply gI | apply gJ | apply gK | apply gL | apply gM | apply gN | apply gO | apply gP | apply gQ | apply gR) | ((with_reducible first | apply gT | apply gS2); first | exact rfl | assumption | omega | exact ⟨⟩) | ((with_reducible first | apply gL0 | apply gL1 | apply gL2 | apply gL3 | apply gL4); assumption)))
  refine t_buildG und22 inf30 (by decide) (by decide) (cells := #[.int .i64 21, .int .i64 23]) (by kernel_rfl) fun r1 h1 le1 _ e1 => ?_
  (repeat (first | (with_reducible first | apply gA | apply gB | apply gC | apply gD | apply gE | apply gF | apply gG | apply gH | apply gI | apply gJ | apply gK | apply gL | apply gM | apply gN | apply gO | apply gP | apply gQ | apply gR) | ((with_reducible first | apply gT | apply gS2); first | exact rfl | assumption | omega | exact ⟨⟩) | ((with_reducible first | apply gL0 | apply gL1 | apply gL2 | apply gL3 | apply gL4); assumption)))
  refine t_pu (c42 _ _) ?_
  (repeat (first | (with_reducible first | apply gA | apply gB | apply gC | apply gD | apply gE | apply gF | apply gG | apply gH | apply gI | apply gJ | apply gK | apply gL | apply gM | apply gN | apply gO | apply gP | apply gQ | apply gR) | ((with_reducible first | apply gT | apply gS2); first | exact rfl | assumption | omega | exact ⟨⟩) | ((with_reducible first | apply gL0 | apply gL1 | apply gL2 | apply gL3 | apply gL4); assumption)))
  refine t_buildG und50 inf3 (by decide) (by decide) (cells := #[.int .i64 0, .int .i64 1]) (by kernel_rfl) fun r2 h2 le2 _ e2 => ?_
  (repeat (first | (with_reducible first | apply gA | apply gB | apply gC | apply gD | apply gE | apply gF | apply gG | apply gH | apply gI | apply gJ | apply gK | apply gL | apply gM | apply gN | apply gO | apply gP | apply gQ | apply gR) | ((with_reducible first | apply gT | apply gS2); first | exact rfl | assumption | omega | exact ⟨⟩) | ((with_reducible first | apply gL0 | apply gL1 | apply gL2 | apply gL3 | apply gL4); assumption)))
  refine t_pu (c42 _ _) ?_
  (repeat (first | (with_reducible first | apply gA | apply gB | apply gC | apply gD | apply gE | apply gF | apply gG | apply gH | apply gI | apply gJ | apply gK | apply gL | apply gM | apply gN | apply gO | apply gP | apply gQ | apply gR) | ((with_reducible first | apply gT | apply gS2); first | exact rfl | assumption | omega | exact ⟨⟩) | ((with_reducible first | apply gL0 | apply gL1 | apply gL2 | apply gL3 | apply gL4); assumption)))
  refine t_buildG und50 inf3 (by decide) (by decide) (cells := #[.int .i64 0]) (by kernel_rfl) fun r3 h3 le3 _ e3 => ?_
  (repeat (first | (with_reducible first | apply gA | apply gB | apply gC | apply gD | apply gE | apply gF | apply gG | apply gH | apply gI | apply gJ | apply gK | apply gL | apply gM | apply gN | apply gO | apply gP | apply gQ | apply gR) | ((with_reducible first | apply gT | apply gS2); first | exact rfl | assumption | omega | exact ⟨⟩) | ((with_reducible first | apply gL0 | apply gL1 | apply gL2 | apply gL3 | apply gL4); assumption)))
  refine t_pu (c42 _ _) ?_
  (repeat (first | (with_reducible first | apply gA | apply gB | apply gC | apply gD | apply gE | apply gF | apply gG | apply gH | apply gI | apply gJ | apply gK | apply gL | apply gM | apply gN | apply gO | apply gP | apply gQ | apply gR) | ((with_reducible first | apply gT | apply gS2); first | exact rfl | assumption | omega | exact ⟨⟩) | ((with_reducible first | apply gL0 | apply gL1 | apply gL2 | apply gL3 | apply gL4); assumption)))
  refine t_buildG und50 inf3 (by decide) (by decide) (cells := #[.int .i64 2]) (by kernel_rfl) fun r4 h4 le4 _ e4 => ?_
  (repeat (first | (with_reducible first | apply gA | apply gB | apply gC | apply gD | apply gE | apply gF | apply gG | apply gH | apply gI | apply gJ | apply gK | apply gL | apply gM | apply gN | apply gO | apply gP | apply gQ | apply gR) | ((with_reducible first | apply gT | apply gS2); first | exact rfl | assumption | omega | exact ⟨⟩) | ((with_reducible first | apply gL0 | apply gL1 | apply gL2 | apply gL3 | apply gL4); assumption)))
  refine t_pu (c42 _ _) ?_
  (repeat (first | (with_reducible first | apply gA | apply gB | apply gC | apply gD | apply gE | apply gF | apply gG | apply gH | apply gI | apply gJ | apply gK | apply gL | apply gM | apply gN | apply gO | apply gP | apply gQ | apply gR) | ((with_reducible first | apply gT | apply gS2); first | exact rfl | assumption | omega | exact ⟨⟩) | ((with_reducible first | apply gL0 | apply gL1 | apply gL2 | apply gL3 | apply gL4); assumption)))
  refine t_buildG und50 inf3 (by decide) (by decide) (cells := #[.int .i64 0, .int .i64 1]) (by kernel_rfl) fun r5 h5 le5 _ e5 => ?_
  (repeat (first | (with_reducible first | apply gA | apply gB | apply gC | apply gD | apply gE | apply gF | apply gG | apply gH | apply gI | apply gJ | apply gK | apply gL | apply gM | apply gN | apply gO | apply gP | apply gQ | apply gR) | ((with_reducible first | apply gT | apply gS2); first | exact rfl | assumption | omega | exact ⟨⟩) | ((with_reducible first | apply gL0 | apply gL1 | apply gL2 | apply gL3 | apply gL4); assumption)))
  refine t_buildG und23 inf69 (by decide) (by decide) (cells := #[.int .i64 12, .int .i64 14, .int .i64 0, .slice (some ⟨r2, 0, none⟩) 2 2, .int .i64 19, .int .i64 19, .int .i64 0, .slice (some ⟨r3, 0, none⟩) 1 1, .int .i64 17, .int .i64 26, .int .i64 0, .slice (some ⟨r4, 0, none⟩) 1 1, .int .i64 18, .int .i64 18, .int .i64 1, .slice (some ⟨r5, 0, none⟩) 2 2]) (by kernel_rfl) fun r6 h6 le6 _ e6 => ?_
  (repeat (first | (with_reducible first | apply gA | apply gB | apply gC | apply gD | apply gE | apply gF | apply gG | apply gH | apply gI | apply gJ | apply gK | apply gL | apply gM | apply gN | apply gO | apply gP | apply gQ | apply gR) | ((with_reducible first | apply gT | apply gS2); first | exact rfl | assumption | omega | exact ⟨⟩) | ((with_reducible first | apply gL0 | apply gL1 | apply gL2 | apply gL3 | apply gL4); assumption)))
  refine t_buildG und50 inf3 (by decide) (by decide) (cells := #[.int .i64 0, .int .i64 1, .int .i64 2]) (by kernel_rfl) fun r7 h7 le7 _ e7 => ?_
  (repeat (first | (with_reducible first | apply gA | apply gB | apply gC | apply gD | apply gE | apply gF | apply gG | apply gH | apply gI | apply gJ | apply gK | apply gL | apply gM | apply gN | apply gO | apply gP | apply gQ | apply gR) | ((with_reducible first | apply gT | apply gS2); first | exact rfl | assumption | omega | exact ⟨⟩) | ((with_reducible first | apply gL0 | apply gL1 | apply gL2 | apply gL3 | apply gL4); assumption)))
  refine t_buildG und50 inf3 (by decide) (by decide) (cells := #[.int .i64 0, .int .i64 2]) (by kernel_rfl) fun r8 h8 le8 _ e8 => ?_
  (repeat (first | (with_reducible first | apply gA | apply gB | apply gC | apply gD | apply gE | apply gF | apply gG | apply gH | apply gI | apply gJ | apply gK | apply gL | apply gM | apply gN | apply gO | apply gP | apply gQ | apply gR) | ((with_reducible first | apply gT | apply gS2); first | exact rfl | assumption | omega | exact ⟨⟩) | ((with_reducible first | apply gL0 | apply gL1 | apply gL2 | apply gL3 | apply gL4); assumption)))
  refine t_buildG und24 inf64 (by decide) (by decide) (cells := #[.int .i64 20, .int .i64 0, .slice (some ⟨r7, 0, none⟩) 3 3, .int .i64 25, .int .i64 0, .slice (some ⟨r8, 0, none⟩) 2 2]) (by kernel_rfl) fun r9 h9 le9 _ e9 => ?_
  (repeat (first | (with_reducible first | apply gA | apply gB | apply gC | apply gD | apply gE | apply gF | apply gG | apply gH | apply gI | apply gJ | apply gK | apply gL | apply gM | apply gN | apply gO | apply gP | apply gQ | apply gR) | ((with_reducible first | apply gT | apply gS2); first | exact rfl | assumption | omega | exact ⟨⟩) | ((with_reducible first | apply gL0 | apply gL1 | apply gL2 | apply gL3 | apply gL4); assumption)))
  have l89 := le9
  have l79 := LH.le_trans le8 l89
  have l69 := LH.le_trans le7 l79
  have l59 := LH.le_trans le6 l69
  have l49 := LH.le_trans le5 l59
  have l39 := LH.le_trans le4 l49
  have l29 := LH.le_trans le3 l39
  have l19 := LH.le_trans le2 l29
  have e1 := l19.1 _ _ e1
  have e2 := l29.1 _ _ e2
  have e3 := l39.1 _ _ e3
  have e4 := l49.1 _ _ e4
  have e5 := l59.1 _ _ e5
  have e6 := l69.1 _ _ e6
  have e7 := l79.1 _ _ e7
  have e8 := l89.1 _ _ e8
  refine t_ret ⟨LH.le_trans le1 l19, ⟨some ⟨r1, 0, none⟩, 1, 1, some ⟨r6, 0, none⟩, 4, 4, some ⟨r9, 0, none⟩, 2, 2⟩, rfl, ?_⟩
  exact exRep e1 e2 e3 e4 e5 e6 e7 e8 e9
end Go.Proofs.YtibibhojkfapnaaDoor
end
section
namespace Go.TM
open Go Go.Conc
variable {P : Program} {E : Halt → Cells → Prop} {h : Cells}
theorem lwp_equalIn2 {Q : Bool → Cells → Prop} {t : TypeId} {k : Nat} {a b c d : Int} (ht : twoInts P t = true) (hq : Q (decide (a = c ∧ b = d)) h) : Sem.lwp P (Op.equalIn (k + 1 + 1) t (.agg #[.int .i64 a, .int .i64 b]) (.agg #[.int .i64 c, .int .i64 d])) Q E h := by
  obtain ⟨f, g, hu, n1, n2, i1, i2, o1, o2, hs⟩ := twoInts_spec ht
  rw [Op.equalIn]
  rw [lwp_bind, lwp_underlying hu]
  simp only [lwp_bind, lwp_program, hs, Bool.false_eq_true, if_false, List.forIn_toArray, List.forIn_cons, List.forIn_nil, n1, n2, ne_eq, not_false_eq_true, if_true]
  refine lwp_partI i1 (v := .int .i64 a) (by rw [o1]; rfl) ?_
  refine lwp_partI i1 (v := .int .i64 c) (by rw [o1]; rfl) ?_
  refine lwp_equalI i1 ?_
  by_cases e1 : a = c
  · subst e1
    simp only [beq_self_eq_true, Bool.not_true, Bool.false_eq_true, if_false, lwp_pure, lwp_bind]
    refine lwp_partI i2 (v := .int .i64 b) (by rw [o2]; rfl) ?_
    refine lwp_partI i2 (v := .int .i64 d) (by rw [o2]; rfl) ?_
    refine lwp_equalI i2 ?_
    by_cases e2 : b = d
    · subst e2
      simpa [lwp_pure] using hq
    · have e3 : (b == d) = false := by simpa using e2
      simpa [lwp_pure, e2, e3] using hq
  · have e3 : (a == c) = false := by simpa using e1
    simpa [lwp_pure, e1, e3] using hq
def twoAndTwo (P : Program) (t : TypeId) : Bool := match P.underlying t with
  | some (.struct fs) => (match fs.toList with
    | [a, b, w] => a.name != "_" && b.name != "_" && w.name != "_" && isI64 P a.type && isI64 P b.type && twoInts P w.type && Nat.beq a.offset 0 && Nat.beq b.offset 1 && Nat.beq w.offset 2 && (match P.info? w.type with | some i => Nat.beq i.size 2 | none => false)
    | _ => false) && !P.stoodInHeld t
  | _ => false
theorem twoInts_agg {t : TypeId} (ht : twoInts P t = true) : isAggT P t = true := by
  obtain ⟨f, g, hu, _⟩ := twoInts_spec ht
  unfold isAggT; rw [hu]
theorem lwp_part2 {Q : Value → Cells → Prop} {t : TypeId} {cs : Array Value} {o : Nat} {i : TypeInfo} (ht : twoInts P t = true) (hi : P.info? t = some i) (hs : i.size = 2) (hq : Q (.agg (cs.extract o (o + 2))) h) : Sem.lwp P (part t cs o) Q E h := by
  unfold part
  rw [lwp_bind, lwp_isAgg_true (twoInts_agg ht)]
  simp only [if_true, lwp_bind, lwp_sizeOf hi, hs, lwp_pure]
  exact hq
theorem lwp_equal4 {Q : Bool → Cells → Prop} {t : TypeId} {a b c d a' b' c' d' : Int} (ht : twoAndTwo P t = true) (hq : Q (decide (a = a' ∧ b = b' ∧ c = c' ∧ d = d')) h) : Sem.lwp P (Op.equal t (.agg #[.int .i64 a, .int .i64 b, .int .i64 c, .int .i64 d]) (.agg #[.int .i64 a', .int .i64 b', .int .i64 c', .int .i64 d'])) Q E h := by
  unfold twoAndTwo at ht
  split at ht
  next fs hu =>
    simp only [Bool.and_eq_true, Bool.not_eq_true'] at ht
    obtain ⟨h1, hs⟩ := ht
    split at h1
    next x y w hfs =>
      simp only [Bool.and_eq_true, bne_iff_ne] at h1
      obtain ⟨⟨⟨⟨⟨⟨⟨⟨⟨n1, n2⟩, n3⟩, i1⟩, i2⟩, i3⟩, o1⟩, o2⟩, o3⟩, sz⟩ := h1
      have hfs' : fs = #[x, y, w] := by rw [← hfs]
      subst hfs'
      have o1 := nbeq_true o1
      have o2 := nbeq_true o2
      have o3 := nbeq_true o3
      cases hi : P.info? w.type with
      | none => rw [hi] at sz; cases sz
      | some inf =>
        rw [hi] at sz
        have sz := nbeq_true sz
        unfold Op.equal
        have hmd : Op.maxDepth = 9997 + 1 + 1 + 1 := rfl
        rw [hmd, Op.equalIn]
        rw [lwp_bind, lwp_underlying hu]
        simp only [lwp_bind, lwp_program, hs, Bool.false_eq_true, if_false, List.forIn_toArray, List.forIn_cons, List.forIn_nil, n1, n2, n3, ne_eq, not_false_eq_true, if_true]
        refine lwp_partI i1 (v := .int .i64 a) (by rw [o1]; rfl) ?_
        refine lwp_partI i1 (v := .int .i64 a') (by rw [o1]; rfl) ?_
        refine lwp_equalI i1 ?_
        by_cases e1 : a = a'
        · subst e1
          simp only [beq_self_eq_true, Bool.not_true, Bool.false_eq_true, if_false, lwp_pure, lwp_bind]
          refine lwp_partI i2 (v := .int .i64 b) (by rw [o2]; rfl) ?_
          refine lwp_partI i2 (v := .int .i64 b') (by rw [o2]; rfl) ?_
          refine lwp_equalI i2 ?_
          by_cases e2 : b = b'
          · subst e2
            simp only [beq_self_eq_true, Bool.not_true, Bool.false_eq_true, if_false, lwp_pure, lwp_bind]
            refine lwp_part2 i3 hi sz ?_
            refine lwp_part2 i3 hi sz ?_
            rw [o3]
            refine lwp_equalIn2 (a := c) (b := d) (c := c') (d := d') i3 ?_
            by_cases e3 : c = c' ∧ d = d'
            · simpa [lwp_pure, e3] using hq
            · simpa [lwp_pure, e3] using hq
          · have e3 : (b == b') = false := by simpa using e2
            simpa [lwp_pure, e2, e3] using hq
        · have e3 : (a == a') = false := by simpa using e1
          simpa [lwp_pure, e1, e3] using hq
    next => cases h1
  next => cases ht
variable {X : XP} {Q : Leaf → LH → Prop}
theorem t_ne4 {h : LH} {K : Value → T} {t : TypeId} {x y : Operand} {a b c d a' b' c' d' : Int} (ht : twoAndTwo P t = true) (hg : P.eqGuardType P.depth t = false) (hk : (K (.bool (!decide (a = a' ∧ b = b' ∧ c = c' ∧ d = d')))).wp X P Q h) :
    (T.sem false (Sem.bind (eqGuard .neq t x y (.agg #[.int .i64 a, .int .i64 b, .int .i64 c, .int .i64 d]) (.agg #[.int .i64 a', .int .i64 b', .int .i64 c', .int .i64 d'])) fun _ => binOp .neq t (.agg #[.int .i64 a, .int .i64 b, .int .i64 c, .int .i64 d]) (.agg #[.int .i64 a', .int .i64 b', .int .i64 c', .int .i64 d'])) K).wp X P Q h := by
  refine t_sem (A := fun w h' => w = .bool (!decide (a = a' ∧ b = b' ∧ c = c' ∧ d = d')) ∧ h' = h.get) (Sem.lwp_bind _ _ ?_) (by rintro w h' ⟨rfl, rfl⟩; exact hk)
  unfold eqGuard
  simp only [Bool.not_true, Bool.false_eq_true, if_false, lwp_bind, lwp_program, hg, Bool.not_false, if_true, lwp_pure]
  unfold binOp
  rw [lwp_bind]
  exact lwp_equal4 ht ⟨rfl, rfl⟩
end Go.TM
end
section
namespace Go.Proofs.YtibibhojkfapnaaDoor
open Go Go.TM Go.Proofs
attribute [local irreducible] T.wp CV FWK
theorem two79 : twoAndTwo Tryd.prog 79 = true := by kernel_rfl
theorem g79 : Tryd.prog.eqGuardType Tryd.prog.depth 79 = false := by kernel_rfl
theorem c30 {h : LH} {p q : Option Addr} {n c m d : Nat} {a b : List Lack} (ha : Sl LackE 4 h.get p n a) (hb : Sl LackE 4 h.get q m b) : Pu Tryd.prog 30 #[.slice p n c, .slice q m d] h (.bool (decide (a = b))) := by
  refine w30 _ _ _ _ _ _ X0_ok ?_
  unfold n30
  have hn := ha.1
  have hm := hb.1
  have hbn := ha.2.1
  have hbm := hb.2.1
  refine t_cond (fun e => ?_) (fun e => ?_)
  · have : a ≠ b := by rintro rfl; simp at e; omega
    exact t_ret ⟨by simp [this], rfl⟩
  have hnm : n = m := by simp at e; omega
  refine t_loop (fun mm vs h' => h = h' ∧ ∃ i : Nat, vs = [.bool false, .int .i64 i] ∧ i ≤ n ∧ mm = n - i ∧ a.take i = b.take i) ⟨rfl, 0, rfl, Nat.zero_le _, rfl, rfl⟩ ?_
  rintro Y mm vs _ hY ⟨rfl, i, rfl, hi, rfl, hc⟩
  (repeat (first | (with_reducible first | apply gA | apply gB | apply gC | apply gD | apply gE | apply gF | apply gG | apply gH | apply gI | apply gJ | apply gK | apply gL | apply gM | apply gN | apply gO | apply gP | apply gQ | apply gR) | ((with_reducible first | apply gT | apply gS2); first | exact rfl | assumption | omega | exact ⟨⟩) | ((with_reducible first | apply gL0 | apply gL1 | apply gL2 | apply gL3 | apply gL4); assumption)))
  refine t_if (fun e => ?_) (fun e => ?_)
  · obtain ⟨x, a1, hx, ha1, e1, e2, e3, e4⟩ := ha.at (i := i) (by omega)
    obtain ⟨y, a2, hy, ha2, f1, f2, f3, f4⟩ := hb.at (i := i) (by omega)
    (repeat (first | (with_reducible first | apply gA | apply gB | apply gC | apply gD | apply gE | apply gF | apply gG | apply gH | apply gI | apply gJ | apply gK | apply gL | apply gM | apply gN | apply gO | apply gP | apply gQ | apply gR) | ((with_reducible first | apply gT | apply gS2); first | exact rfl | assumption | omega | exact ⟨⟩) | ((with_reducible first | apply gL0 | apply gL1 | apply gL2 | apply gL3 | apply gL4); assumption)))
    refine t_ne4 two79 g79 ?_
    (repeat (first | (with_reducible first | apply gA | apply gB | apply gC | apply gD | apply gE | apply gF | apply gG | apply gH | apply gI | apply gJ | apply gK | apply gL | apply gM | apply gN | apply gO | apply gP | apply gQ | apply gR) | ((with_reducible first | apply gT | apply gS2); first | exact rfl | assumption | omega | exact ⟨⟩) | ((with_reducible first | apply gL0 | apply gL1 | apply gL2 | apply gL3 | apply gL4); assumption)))
    refine t_cond (fun b1 => ?_) (fun b1 => ?_)
    · (repeat (first | (with_reducible first | apply gA | apply gB | apply gC | apply gD | apply gE | apply gF | apply gG | apply gH | apply gI | apply gJ | apply gK | apply gL | apply gM | apply gN | apply gO | apply gP | apply gQ | apply gR) | ((with_reducible first | apply gT | apply gS2); first | exact rfl | assumption | omega | exact ⟨⟩) | ((with_reducible first | apply gL0 | apply gL1 | apply gL2 | apply gL3 | apply gL4); assumption)))
      have : a ≠ b := by rintro rfl; rw [hx] at hy; cases hy; simp at b1
      exact t_ret ⟨by simp [this], rfl⟩
    · have b2 : x = y := by
        obtain ⟨x1, x2, x3, x4⟩ := x
        obtain ⟨y1, y2, y3, y4⟩ := y
        simp at b1
        obtain ⟨rfl, rfl, rfl, rfl⟩ := b1
        rfl
      refine t_again (hY (n - (i + 1)) _ _ (by omega) ⟨rfl, i + 1, ?_, by omega, rfl, ?_⟩)
      · rw [wrap_id (by omega) (by omega)]; rfl
      · rw [List.take_add_one, List.take_add_one, hc, hx, hy, b2]
  · (repeat (first | (with_reducible first | apply gA | apply gB | apply gC | apply gD | apply gE | apply gF | apply gG | apply gH | apply gI | apply gJ | apply gK | apply gL | apply gM | apply gN | apply gO | apply gP | apply gQ | apply gR) | ((with_reducible first | apply gT | apply gS2); first | exact rfl | assumption | omega | exact ⟨⟩) | ((with_reducible first | apply gL0 | apply gL1 | apply gL2 | apply gL3 | apply gL4); assumption)))
    rw [List.take_of_length_le (by omega), List.take_of_length_le (by omega)] at hc
    exact t_ret ⟨by simp [hc], rfl⟩
theorem c15 {h : LH} {f : FileC} {u : UseFile} (hu : FileR h.get f u) : FW X0 Tryd.prog 15 #[fileV f u] h fun r h' => h = h' ∧ ∃ b : Bool, r = .bool b ∧ (b = false → u.excuses.length ≤ 20 ∧ u.papers.length ≤ 20 ∧ u.requests.length ≤ 20) := by
  refine w15 _ _ _ _ _ _ _ _ _ _ _ _ _ X0_ok ?_
  unfold n15
  have x0 := hu.excuses.1
  have p0 := hu.papers.1
  have r0 := hu.requests.1
  have pb := hu.papers.2.1
  have rb := hu.requests.2.1
  refine t_blk (fun vs h' => vs = [.bool false] ∧ h = h' ∧ u.excuses.length ≤ 20 ∧ u.papers.length ≤ 20 ∧ u.requests.length ≤ 20) ?_ ?_
  · refine t_if (fun e1 => ?_) (fun e1 => ?_)
    · (repeat (first | (with_reducible first | apply gA | apply gB | apply gC | apply gD | apply gE | apply gF | apply gG | apply gH | apply gI | apply gJ | apply gK | apply gL | apply gM | apply gN | apply gO | apply gP | apply gQ | apply gR) | ((with_reducible first | apply gT | apply gS2); first | exact rfl | assumption | omega | exact ⟨⟩) | ((with_reducible first | apply gL0 | apply gL1 | apply gL2 | apply gL3 | apply gL4); assumption)))
      exact t_ret ⟨rfl, true, rfl, fun e => by cases e⟩
    refine t_if (fun e2 => ?_) (fun e2 => ?_)
    · (repeat (first | (with_reducible first | apply gA | apply gB | apply gC | apply gD | apply gE | apply gF | apply gG | apply gH | apply gI | apply gJ | apply gK | apply gL | apply gM | apply gN | apply gO | apply gP | apply gQ | apply gR) | ((with_reducible first | apply gT | apply gS2); first | exact rfl | assumption | omega | exact ⟨⟩) | ((with_reducible first | apply gL0 | apply gL1 | apply gL2 | apply gL3 | apply gL4); assumption)))
      exact t_ret ⟨rfl, true, rfl, fun e => by cases e⟩
    refine t_if (fun e3 => ?_) (fun e3 => ?_)
    · (repeat (first | (with_reducible first | apply gA | apply gB | apply gC | apply gD | apply gE | apply gF | apply gG | apply gH | apply gI | apply gJ | apply gK | apply gL | apply gM | apply gN | apply gO | apply gP | apply gQ | apply gR) | ((with_reducible first | apply gT | apply gS2); first | exact rfl | assumption | omega | exact ⟨⟩) | ((with_reducible first | apply gL0 | apply gL1 | apply gL2 | apply gL3 | apply gL4); assumption)))
      exact t_ret ⟨rfl, true, rfl, fun e => by cases e⟩
    exact t_again ⟨rfl, rfl, by omega, by omega, by omega⟩
  rintro vs _ ⟨rfl, rfl, h1, h2, h3⟩
  (repeat (first | (with_reducible first | apply gA | apply gB | apply gC | apply gD | apply gE | apply gF | apply gG | apply gH | apply gI | apply gJ | apply gK | apply gL | apply gM | apply gN | apply gO | apply gP | apply gQ | apply gR) | ((with_reducible first | apply gT | apply gS2); first | exact rfl | assumption | omega | exact ⟨⟩) | ((with_reducible first | apply gL0 | apply gL1 | apply gL2 | apply gL3 | apply gL4); assumption)))
  refine t_loop (fun mm vs h' => h = h' ∧ ∃ i : Nat, vs = [.bool false, .int .i64 i] ∧ i ≤ f.n5 ∧ mm = f.n5 - i) ⟨rfl, 0, rfl, Nat.zero_le _, rfl⟩ ?_
  rintro Y mm vs _ hY ⟨rfl, i, rfl, hi, rfl⟩
  (repeat (first | (with_reducible first | apply gA | apply gB | apply gC | apply gD | apply gE | apply gF | apply gG | apply gH | apply gI | apply gJ | apply gK | apply gL | apply gM | apply gN | apply gO | apply gP | apply gQ | apply gR) | ((with_reducible first | apply gT | apply gS2); first | exact rfl | assumption | omega | exact ⟨⟩) | ((with_reducible first | apply gL0 | apply gL1 | apply gL2 | apply gL3 | apply gL4); assumption)))
  refine t_if (fun e => ?_) (fun e => ?_)
  · obtain ⟨x, a1, hx, ha1, e1, e2, e3, q, m, c, e4, e5⟩ := hu.papers.at (i := i) (by omega)
    (repeat (first | (with_reducible first | apply gA | apply gB | apply gC | apply gD | apply gE | apply gF | apply gG | apply gH | apply gI | apply gJ | apply gK | apply gL | apply gM | apply gN | apply gO | apply gP | apply gQ | apply gR) | ((with_reducible first | apply gT | apply gS2); first | exact rfl | assumption | omega | exact ⟨⟩) | ((with_reducible first | apply gL0 | apply gL1 | apply gL2 | apply gL3 | apply gL4); assumption)))
    refine t_if (fun e6 => ?_) (fun e6 => ?_)
    · (repeat (first | (with_reducible first | apply gA | apply gB | apply gC | apply gD | apply gE | apply gF | apply gG | apply gH | apply gI | apply gJ | apply gK | apply gL | apply gM | apply gN | apply gO | apply gP | apply gQ | apply gR) | ((with_reducible first | apply gT | apply gS2); first | exact rfl | assumption | omega | exact ⟨⟩) | ((with_reducible first | apply gL0 | apply gL1 | apply gL2 | apply gL3 | apply gL4); assumption)))
      exact t_ret ⟨rfl, true, rfl, fun e => by cases e⟩
    · refine t_again (hY (f.n5 - (i + 1)) _ _ (by omega) ⟨rfl, i + 1, ?_, by omega, rfl⟩)
      rw [wrap_id (by omega) (by omega)]; rfl
  · (repeat (first | (with_reducible first | apply gA | apply gB | apply gC | apply gD | apply gE | apply gF | apply gG | apply gH | apply gI | apply gJ | apply gK | apply gL | apply gM | apply gN | apply gO | apply gP | apply gQ | apply gR) | ((with_reducible first | apply gT | apply gS2); first | exact rfl | assumption | omega | exact ⟨⟩) | ((with_reducible first | apply gL0 | apply gL1 | apply gL2 | apply gL3 | apply gL4); assumption)))
    refine t_loop (fun mm vs h' => h = h' ∧ ∃ i : Nat, vs = [.bool false, .int .i64 i] ∧ i ≤ f.n6 ∧ mm = f.n6 - i) ⟨rfl, 0, rfl, Nat.zero_le _, rfl⟩ ?_
    rintro Y2 mm vs _ hY2 ⟨rfl, i, rfl, hi, rfl⟩
    (repeat (first | (with_reducible first | apply gA | apply gB | apply gC | apply gD | apply gE | apply gF | apply gG | apply gH | apply gI | apply gJ | apply gK | apply gL | apply gM | apply gN | apply gO | apply gP | apply gQ | apply gR) | ((with_reducible first | apply gT | apply gS2); first | exact rfl | assumption | omega | exact ⟨⟩) | ((with_reducible first | apply gL0 | apply gL1 | apply gL2 | apply gL3 | apply gL4); assumption)))
    refine t_if (fun e => ?_) (fun e => ?_)
    · obtain ⟨x, a1, hx, ha1, e1, e2, q, m, c, e4, e5⟩ := hu.requests.at (i := i) (by omega)
      (repeat (first | (with_reducible first | apply gA | apply gB | apply gC | apply gD | apply gE | apply gF | apply gG | apply gH | apply gI | apply gJ | apply gK | apply gL | apply gM | apply gN | apply gO | apply gP | apply gQ | apply gR) | ((with_reducible first | apply gT | apply gS2); first | exact rfl | assumption | omega | exact ⟨⟩) | ((with_reducible first | apply gL0 | apply gL1 | apply gL2 | apply gL3 | apply gL4); assumption)))
      refine t_if (fun e6 => ?_) (fun e6 => ?_)
      · (repeat (first | (with_reducible first | apply gA | apply gB | apply gC | apply gD | apply gE | apply gF | apply gG | apply gH | apply gI | apply gJ | apply gK | apply gL | apply gM | apply gN | apply gO | apply gP | apply gQ | apply gR) | ((with_reducible first | apply gT | apply gS2); first | exact rfl | assumption | omega | exact ⟨⟩) | ((with_reducible first | apply gL0 | apply gL1 | apply gL2 | apply gL3 | apply gL4); assumption)))
        exact t_ret ⟨rfl, true, rfl, fun e => by cases e⟩
      · refine t_again (hY2 (f.n6 - (i + 1)) _ _ (by omega) ⟨rfl, i + 1, ?_, by omega, rfl⟩)
        rw [wrap_id (by omega) (by omega)]; rfl
    · (repeat (first | (with_reducible first | apply gA | apply gB | apply gC | apply gD | apply gE | apply gF | apply gG | apply gH | apply gI | apply gJ | apply gK | apply gL | apply gM | apply gN | apply gO | apply gP | apply gQ | apply gR) | ((with_reducible first | apply gT | apply gS2); first | exact rfl | assumption | omega | exact ⟨⟩) | ((with_reducible first | apply gL0 | apply gL1 | apply gL2 | apply gL3 | apply gL4); assumption)))
      exact t_ret ⟨rfl, false, rfl, fun _ => ⟨h1, h2, h3⟩⟩
end Go.Proofs.YtibibhojkfapnaaDoor
end
section
namespace Go.Proofs.YtibibhojkfapnaaDoor
open Go Go.TM Go.Proofs
theorem lack_grow : Grow LackE := fun _ _ _ _ hl h => ⟨hl _ _ h.1, hl _ _ h.2.1, hl _ _ h.2.2.1, hl _ _ h.2.2.2⟩
theorem ev1 : window exU 20 = ⟨16, 20⟩ := by decide +kernel
theorem ev2 : window exU 25 = ⟨18, 25⟩ := by decide +kernel
theorem ev3 : safe exU 0 1 16 = 1 := by decide +kernel
theorem ev4 : safe exU 0 1 18 = 0 := by decide +kernel
theorem ev5 : safe exU 0 1 19 = 2 := by decide +kernel
theorem ev6 : weak exU 0 1 = 17 := by decide +kernel
theorem ev7 : weak exU 1 2 = 15 := by decide +kernel
theorem ev8 : leftAll exU 0 25 = [1, 2, 0] := by decide +kernel
theorem ev9 : lacks exU 0 20 = [⟨1, 0, ⟨16, 20⟩⟩, ⟨2, 0, ⟨16, 20⟩⟩] := by decide +kernel
theorem ev10 : enoughB exU 0 25 [0, 2] (leftAll exU 0 25) = false := by decide +kernel
theorem ev11 : ∀ i, i < 16 → okF exU 0 25 i = true → (∀ j, j < 16 → okF exU 0 25 j = true → fewerF (subsetL 4 i) (subsetL 4 j) ≤ 0) → subsetL 4 i = [1] := by decide +kernel
theorem ev12 : okF exU 0 25 2 = true := by decide +kernel
theorem exWindow20 : windowR exU 20 = .tuple #[.agg #[.int .i64 16, .int .i64 20], .int .i64 0] := by rw [windowR, if_neg (by decide +kernel), ev1]
theorem exWindow25 : windowR exU 25 = .tuple #[.agg #[.int .i64 18, .int .i64 25], .int .i64 0] := by rw [windowR, if_neg (by decide +kernel), ev2]
theorem exSafe16 : safeR exU 0 1 16 = .tuple #[.int .i64 1, .int .i64 0] := by rw [safeR, if_neg (by decide +kernel), ev3]
theorem exSafe18 : safeR exU 0 1 18 = .tuple #[.int .i64 0, .int .i64 0] := by rw [safeR, if_neg (by decide +kernel), ev4]
theorem exSafe19 : safeR exU 0 1 19 = .tuple #[.int .i64 2, .int .i64 0] := by rw [safeR, if_neg (by decide +kernel), ev5]
theorem exWeak1 : weakR exU 0 1 = .tuple #[.int .i64 17, .int .i64 0] := by rw [weakR, if_neg (by decide +kernel), ev6]
theorem exWeak2 : weakR exU 1 2 = .tuple #[.int .i64 15, .int .i64 0] := by rw [weakR, if_neg (by decide +kernel), ev7]
theorem exEnough : enoughR exU 0 25 [0, 2] = .tuple #[.bool false, .int .i64 0] := by rw [enoughR, if_neg (by decide +kernel), ev10]
theorem exOpen25 : openF exU [landQ exU 0, dayQ 25] = 0 := by decide +kernel
theorem exOpen20 : openF exU [landQ exU 0, dayQ 20] = 0 := by decide +kernel
attribute [local irreducible] T.wp CV FWK
set_option maxRecDepth 100000 in
theorem c16 {h : LH} (hch : h.chans = []) (hpe : h.pend = []) (hp : Parts h.get) : FW XT Tryd.prog 16 #[] h fun r h' => r = .bool true ∧ Rd h.get h'.get ∧ h'.chans = [] ∧ h'.pend = [] ∧ h'.todo = h.todo := by
  refine w16 XT_ok ?_
  unfold n16
  refine t_gr c52 ?_
  rintro _ h1 le1 ⟨f, rfl, hu⟩
  have hp := hp.le le1.1
  (repeat (first | (with_reducible first | apply gA | apply gB | apply gC | apply gD | apply gE | apply gF | apply gG | apply gH | apply gI | apply gJ | apply gK | apply gL | apply gM | apply gN | apply gO | apply gP | apply gQ | apply gR) | ((with_reducible first | apply gT | apply gS2); first | exact rfl | assumption | omega | exact ⟨⟩) | ((with_reducible first | apply gL0 | apply gL1 | apply gL2 | apply gL3 | apply gL4); assumption)))
  refine t_gr (c17 hp hu 20) ?_
  rintro _ h2 le2 rfl
  rw [exWindow20]
  (repeat (first | (with_reducible first | apply gA | apply gB | apply gC | apply gD | apply gE | apply gF | apply gG | apply gH | apply gI | apply gJ | apply gK | apply gL | apply gM | apply gN | apply gO | apply gP | apply gQ | apply gR) | ((with_reducible first | apply gT | apply gS2); first | exact rfl | assumption | omega | exact ⟨⟩) | ((with_reducible first | apply gL0 | apply gL1 | apply gL2 | apply gL3 | apply gL4); assumption)))
  have hp := hp.le le2.1
  have hu := hu.le le2.1
  refine t_gr (c17 hp hu 25) ?_
  rintro _ h3 le3 rfl
  rw [exWindow25]
  (repeat (first | (with_reducible first | apply gA | apply gB | apply gC | apply gD | apply gE | apply gF | apply gG | apply gH | apply gI | apply gJ | apply gK | apply gL | apply gM | apply gN | apply gO | apply gP | apply gQ | apply gR) | ((with_reducible first | apply gT | apply gS2); first | exact rfl | assumption | omega | exact ⟨⟩) | ((with_reducible first | apply gL0 | apply gL1 | apply gL2 | apply gL3 | apply gL4); assumption)))
  have hp := hp.le le3.1
  have hu := hu.le le3.1
  refine t_gr (c19 hp hu 0 1 16) ?_
  rintro _ h4 le4 rfl
  rw [exSafe16]
  (repeat (first | (with_reducible first | apply gA | apply gB | apply gC | apply gD | apply gE | apply gF | apply gG | apply gH | apply gI | apply gJ | apply gK | apply gL | apply gM | apply gN | apply gO | apply gP | apply gQ | apply gR) | ((with_reducible first | apply gT | apply gS2); first | exact rfl | assumption | omega | exact ⟨⟩) | ((with_reducible first | apply gL0 | apply gL1 | apply gL2 | apply gL3 | apply gL4); assumption)))
  have hp := hp.le le4.1
  have hu := hu.le le4.1
  refine t_gr (c19 hp hu 0 1 18) ?_
  rintro _ h5 le5 rfl
  rw [exSafe18]
  (repeat (first | (with_reducible first | apply gA | apply gB | apply gC | apply gD | apply gE | apply gF | apply gG | apply gH | apply gI | apply gJ | apply gK | apply gL | apply gM | apply gN | apply gO | apply gP | apply gQ | apply gR) | ((with_reducible first | apply gT | apply gS2); first | exact rfl | assumption | omega | exact ⟨⟩) | ((with_reducible first | apply gL0 | apply gL1 | apply gL2 | apply gL3 | apply gL4); assumption)))
  have hp := hp.le le5.1
  have hu := hu.le le5.1
  refine t_gr (c19 hp hu 0 1 19) ?_
  rintro _ h6 le6 rfl
  rw [exSafe19]
  (repeat (first | (with_reducible first | apply gA | apply gB | apply gC | apply gD | apply gE | apply gF | apply gG | apply gH | apply gI | apply gJ | apply gK | apply gL | apply gM | apply gN | apply gO | apply gP | apply gQ | apply gR) | ((with_reducible first | apply gT | apply gS2); first | exact rfl | assumption | omega | exact ⟨⟩) | ((with_reducible first | apply gL0 | apply gL1 | apply gL2 | apply gL3 | apply gL4); assumption)))
  have hp := hp.le le6.1
  have hu := hu.le le6.1
  refine t_gr (c21 hp hu 0 1) ?_
  rintro _ h7 le7 rfl
  rw [exWeak1]
  (repeat (first | (with_reducible first | apply gA | apply gB | apply gC | apply gD | apply gE | apply gF | apply gG | apply gH | apply gI | apply gJ | apply gK | apply gL | apply gM | apply gN | apply gO | apply gP | apply gQ | apply gR) | ((with_reducible first | apply gT | apply gS2); first | exact rfl | assumption | omega | exact ⟨⟩) | ((with_reducible first | apply gL0 | apply gL1 | apply gL2 | apply gL3 | apply gL4); assumption)))
  have hp := hp.le le7.1
  have hu := hu.le le7.1
  refine t_gr (c21 hp hu 1 2) ?_
  rintro _ h8 le8 rfl
  rw [exWeak2]
  (repeat (first | (with_reducible first | apply gA | apply gB | apply gC | apply gD | apply gE | apply gF | apply gG | apply gH | apply gI | apply gJ | apply gK | apply gL | apply gM | apply gN | apply gO | apply gP | apply gQ | apply gR) | ((with_reducible first | apply gT | apply gS2); first | exact rfl | assumption | omega | exact ⟨⟩) | ((with_reducible first | apply gL0 | apply gL1 | apply gL2 | apply gL3 | apply gL4); assumption)))
  have hp := hp.le le8.1
  have hu := hu.le le8.1
  refine t_gr (c23 hp hu 0 25) ?_
  rintro _ h9 le9 (⟨hne, _⟩ | ⟨_, lp, ln, lc, rfl, hl⟩)
  · exact absurd exOpen25 hne
  rw [ev8] at hl
  (repeat (first | (with_reducible first | apply gA | apply gB | apply gC | apply gD | apply gE | apply gF | apply gG | apply gH | apply gI | apply gJ | apply gK | apply gL | apply gM | apply gN | apply gO | apply gP | apply gQ | apply gR) | ((with_reducible first | apply gT | apply gS2); first | exact rfl | assumption | omega | exact ⟨⟩) | ((with_reducible first | apply gL0 | apply gL1 | apply gL2 | apply gL3 | apply gL4); assumption)))
  have hp := hp.le le9.1
  have hu := hu.le le9.1
  refine t_gr (c28 hp hu 0 20) ?_
  rintro _ h10 le10 (⟨hne, _⟩ | ⟨_, kp, kn, kc, rfl, hk⟩)
  · exact absurd exOpen20 hne
  rw [ev9] at hk
  (repeat (first | (with_reducible first | apply gA | apply gB | apply gC | apply gD | apply gE | apply gF | apply gG | apply gH | apply gI | apply gJ | apply gK | apply gL | apply gM | apply gN | apply gO | apply gP | apply gQ | apply gR) | ((with_reducible first | apply gT | apply gS2); first | exact rfl | assumption | omega | exact ⟨⟩) | ((with_reducible first | apply gL0 | apply gL1 | apply gL2 | apply gL3 | apply gL4); assumption)))
  have hp := hp.le le10.1
  have hu := hu.le le10.1
  have hl := hl.le IntE.grow le10.1
  have le := LH.le_trans (LH.le_trans (LH.le_trans (LH.le_trans (LH.le_trans (LH.le_trans (LH.le_trans (LH.le_trans (LH.le_trans le1 le2) le3) le4) le5) le6) le7) le8) le9) le10
  refine t_call (c33 (by rw [le.2.1, hch]) (by rw [le.2.2.1, hpe]) hp hu 0 25) ?_
  rintro _ h11 ⟨rd11, ch11, pe11, td11, ⟨hne, _⟩ | ⟨_, pp, pn, pc, rfl, hb, _⟩⟩
  · exact absurd exOpen25 hne
  have hpk : Sl IntE 1 h11.get pp pn [1] := by
    rcases hb with ⟨_, _, hno⟩ | ⟨i, a, rfl, hi, hok, hs, hmin⟩
    · have := hno 2 (by decide) (by simp)
      rw [ev12] at this; cases this
    · have e := ev11 i hi hok fun j hj hj2 => hmin j hj (by simp) hj2
      rw [← e]; exact hs
  (repeat (first | (with_reducible first | apply gA | apply gB | apply gC | apply gD | apply gE | apply gF | apply gG | apply gH | apply gI | apply gJ | apply gK | apply gL | apply gM | apply gN | apply gO | apply gP | apply gQ | apply gR) | ((with_reducible first | apply gT | apply gS2); first | exact rfl | assumption | omega | exact ⟨⟩) | ((with_reducible first | apply gL0 | apply gL1 | apply gL2 | apply gL3 | apply gL4); assumption)))
  have hp := hp.rd rd11
  have hu := hu.rd rd11
  have hl := hl.rd IntE.grow rd11
  have hk := hk.rd lack_grow rd11
  refine t_buildG und50 inf3 (by decide) (by decide) (cells := #[.int .i64 0, .int .i64 2]) (by kernel_rfl) fun r12 h12 le12 _ e12 => ?_
  (repeat (first | (with_reducible first | apply gA | apply gB | apply gC | apply gD | apply gE | apply gF | apply gG | apply gH | apply gI | apply gJ | apply gK | apply gL | apply gM | apply gN | apply gO | apply gP | apply gQ | apply gR) | ((with_reducible first | apply gT | apply gS2); first | exact rfl | assumption | omega | exact ⟨⟩) | ((with_reducible first | apply gL0 | apply gL1 | apply gL2 | apply gL3 | apply gL4); assumption)))
  have hp := hp.le le12.1
  have hu := hu.le le12.1
  refine t_gr (c31 hp hu 0 25 (pl := [0, 2]) (sl_ints (l := [0, 2]) rfl e12 (by show (2 : Nat) < _; omega))) ?_
  rintro _ h13 le13 rfl
  rw [exEnough]
  (repeat (first | (with_reducible first | apply gA | apply gB | apply gC | apply gD | apply gE | apply gF | apply gG | apply gH | apply gI | apply gJ | apply gK | apply gL | apply gM | apply gN | apply gO | apply gP | apply gQ | apply gR) | ((with_reducible first | apply gT | apply gS2); first | exact rfl | assumption | omega | exact ⟨⟩) | ((with_reducible first | apply gL0 | apply gL1 | apply gL2 | apply gL3 | apply gL4); assumption)))
  have le1113 := LH.le_trans le12 le13
  have hl := hl.le IntE.grow le1113.1
  have hk := hk.le lack_grow le1113.1
  have hpk := hpk.le IntE.grow le1113.1
  refine t_blk (fun vs h' => vs = [.bool false] ∧ h13 = h') ?_ ?_
  · iterate 11 refine t_cond (fun e => absurd e (by decide)) (fun _ => ?_)
    exact t_again ⟨rfl, rfl⟩
  rintro vs _ ⟨rfl, rfl⟩
  (repeat (first | (with_reducible first | apply gA | apply gB | apply gC | apply gD | apply gE | apply gF | apply gG | apply gH | apply gI | apply gJ | apply gK | apply gL | apply gM | apply gN | apply gO | apply gP | apply gQ | apply gR) | ((with_reducible first | apply gT | apply gS2); first | exact rfl | assumption | omega | exact ⟨⟩) | ((with_reducible first | apply gL0 | apply gL1 | apply gL2 | apply gL3 | apply gL4); assumption)))
  refine t_blk (fun vs h' => vs = [.bool false] ∧ h13.le h') ?_ ?_
  · refine t_pu (c42 _ _) ?_
    (repeat (first | (with_reducible first | apply gA | apply gB | apply gC | apply gD | apply gE | apply gF | apply gG | apply gH | apply gI | apply gJ | apply gK | apply gL | apply gM | apply gN | apply gO | apply gP | apply gQ | apply gR) | ((with_reducible first | apply gT | apply gS2); first | exact rfl | assumption | omega | exact ⟨⟩) | ((with_reducible first | apply gL0 | apply gL1 | apply gL2 | apply gL3 | apply gL4); assumption)))
    refine t_ne2 two30 g30 ?_
    (repeat (first | (with_reducible first | apply gA | apply gB | apply gC | apply gD | apply gE | apply gF | apply gG | apply gH | apply gI | apply gJ | apply gK | apply gL | apply gM | apply gN | apply gO | apply gP | apply gQ | apply gR) | ((with_reducible first | apply gT | apply gS2); first | exact rfl | assumption | omega | exact ⟨⟩) | ((with_reducible first | apply gL0 | apply gL1 | apply gL2 | apply gL3 | apply gL4); assumption)))
    refine t_cond (fun e => absurd e (by decide)) (fun _ => ?_)
    refine t_pu (c42 _ _) ?_
    (repeat (first | (with_reducible first | apply gA | apply gB | apply gC | apply gD | apply gE | apply gF | apply gG | apply gH | apply gI | apply gJ | apply gK | apply gL | apply gM | apply gN | apply gO | apply gP | apply gQ | apply gR) | ((with_reducible first | apply gT | apply gS2); first | exact rfl | assumption | omega | exact ⟨⟩) | ((with_reducible first | apply gL0 | apply gL1 | apply gL2 | apply gL3 | apply gL4); assumption)))
    refine t_ne2 two30 g30 ?_
    (repeat (first | (with_reducible first | apply gA | apply gB | apply gC | apply gD | apply gE | apply gF | apply gG | apply gH | apply gI | apply gJ | apply gK | apply gL | apply gM | apply gN | apply gO | apply gP | apply gQ | apply gR) | ((with_reducible first | apply gT | apply gS2); first | exact rfl | assumption | omega | exact ⟨⟩) | ((with_reducible first | apply gL0 | apply gL1 | apply gL2 | apply gL3 | apply gL4); assumption)))
    refine t_cond (fun e => absurd e (by decide)) (fun _ => ?_)
    (repeat (first | (with_reducible first | apply gA | apply gB | apply gC | apply gD | apply gE | apply gF | apply gG | apply gH | apply gI | apply gJ | apply gK | apply gL | apply gM | apply gN | apply gO | apply gP | apply gQ | apply gR) | ((with_reducible first | apply gT | apply gS2); first | exact rfl | assumption | omega | exact ⟨⟩) | ((with_reducible first | apply gL0 | apply gL1 | apply gL2 | apply gL3 | apply gL4); assumption)))
    refine t_cond (fun e => absurd e (by decide)) (fun _ => ?_)
    (repeat (first | (with_reducible first | apply gA | apply gB | apply gC | apply gD | apply gE | apply gF | apply gG | apply gH | apply gI | apply gJ | apply gK | apply gL | apply gM | apply gN | apply gO | apply gP | apply gQ | apply gR) | ((with_reducible first | apply gT | apply gS2); first | exact rfl | assumption | omega | exact ⟨⟩) | ((with_reducible first | apply gL0 | apply gL1 | apply gL2 | apply gL3 | apply gL4); assumption)))
    refine t_cond (fun e => absurd e (by decide)) (fun _ => ?_)
    (repeat (first | (with_reducible first | apply gA | apply gB | apply gC | apply gD | apply gE | apply gF | apply gG | apply gH | apply gI | apply gJ | apply gK | apply gL | apply gM | apply gN | apply gO | apply gP | apply gQ | apply gR) | ((with_reducible first | apply gT | apply gS2); first | exact rfl | assumption | omega | exact ⟨⟩) | ((with_reducible first | apply gL0 | apply gL1 | apply gL2 | apply gL3 | apply gL4); assumption)))
    refine t_cond (fun e => absurd e (by decide)) (fun _ => ?_)
    (repeat (first | (with_reducible first | apply gA | apply gB | apply gC | apply gD | apply gE | apply gF | apply gG | apply gH | apply gI | apply gJ | apply gK | apply gL | apply gM | apply gN | apply gO | apply gP | apply gQ | apply gR) | ((with_reducible first | apply gT | apply gS2); first | exact rfl | assumption | omega | exact ⟨⟩) | ((with_reducible first | apply gL0 | apply gL1 | apply gL2 | apply gL3 | apply gL4); assumption)))
    refine t_cond (fun e => absurd e (by decide)) (fun _ => ?_)
    (repeat (first | (with_reducible first | apply gA | apply gB | apply gC | apply gD | apply gE | apply gF | apply gG | apply gH | apply gI | apply gJ | apply gK | apply gL | apply gM | apply gN | apply gO | apply gP | apply gQ | apply gR) | ((with_reducible first | apply gT | apply gS2); first | exact rfl | assumption | omega | exact ⟨⟩) | ((with_reducible first | apply gL0 | apply gL1 | apply gL2 | apply gL3 | apply gL4); assumption)))
    refine t_cond (fun e => absurd e (by decide)) (fun _ => ?_)
    (repeat (first | (with_reducible first | apply gA | apply gB | apply gC | apply gD | apply gE | apply gF | apply gG | apply gH | apply gI | apply gJ | apply gK | apply gL | apply gM | apply gN | apply gO | apply gP | apply gQ | apply gR) | ((with_reducible first | apply gT | apply gS2); first | exact rfl | assumption | omega | exact ⟨⟩) | ((with_reducible first | apply gL0 | apply gL1 | apply gL2 | apply gL3 | apply gL4); assumption)))
    refine t_cond (fun e => absurd e (by decide)) (fun _ => ?_)
    (repeat (first | (with_reducible first | apply gA | apply gB | apply gC | apply gD | apply gE | apply gF | apply gG | apply gH | apply gI | apply gJ | apply gK | apply gL | apply gM | apply gN | apply gO | apply gP | apply gQ | apply gR) | ((with_reducible first | apply gT | apply gS2); first | exact rfl | assumption | omega | exact ⟨⟩) | ((with_reducible first | apply gL0 | apply gL1 | apply gL2 | apply gL3 | apply gL4); assumption)))
    refine t_buildG und50 inf3 (by decide) (by decide) (cells := #[.int .i64 1]) (by kernel_rfl) fun r14 h14 le14 _ e14 => ?_
    (repeat (first | (with_reducible first | apply gA | apply gB | apply gC | apply gD | apply gE | apply gF | apply gG | apply gH | apply gI | apply gJ | apply gK | apply gL | apply gM | apply gN | apply gO | apply gP | apply gQ | apply gR) | ((with_reducible first | apply gT | apply gS2); first | exact rfl | assumption | omega | exact ⟨⟩) | ((with_reducible first | apply gL0 | apply gL1 | apply gL2 | apply gL3 | apply gL4); assumption)))
    refine t_pu (c35 (hpk.le IntE.grow le14.1) (sl_ints (l := [1]) rfl e14 (by show (1 : Nat) < _; omega))) ?_
    (repeat (first | (with_reducible first | apply gA | apply gB | apply gC | apply gD | apply gE | apply gF | apply gG | apply gH | apply gI | apply gJ | apply gK | apply gL | apply gM | apply gN | apply gO | apply gP | apply gQ | apply gR) | ((with_reducible first | apply gT | apply gS2); first | exact rfl | assumption | omega | exact ⟨⟩) | ((with_reducible first | apply gL0 | apply gL1 | apply gL2 | apply gL3 | apply gL4); assumption)))
    refine t_cond (fun e => absurd e (by decide)) (fun _ => ?_)
    exact t_again ⟨rfl, le14⟩
  rintro vs h15 ⟨rfl, le15⟩
  have hl := hl.le IntE.grow le15.1
  have hk := hk.le lack_grow le15.1
  (repeat (first | (with_reducible first | apply gA | apply gB | apply gC | apply gD | apply gE | apply gF | apply gG | apply gH | apply gI | apply gJ | apply gK | apply gL | apply gM | apply gN | apply gO | apply gP | apply gQ | apply gR) | ((with_reducible first | apply gT | apply gS2); first | exact rfl | assumption | omega | exact ⟨⟩) | ((with_reducible first | apply gL0 | apply gL1 | apply gL2 | apply gL3 | apply gL4); assumption)))
  refine t_buildG und40 inf34 (by decide) (by decide) (cells := #[.int .i64 1, .int .i64 2, .int .i64 0]) (by kernel_rfl) fun r16 h16 le16 _ e16 => ?_
  (repeat (first | (with_reducible first | apply gA | apply gB | apply gC | apply gD | apply gE | apply gF | apply gG | apply gH | apply gI | apply gJ | apply gK | apply gL | apply gM | apply gN | apply gO | apply gP | apply gQ | apply gR) | ((with_reducible first | apply gT | apply gS2); first | exact rfl | assumption | omega | exact ⟨⟩) | ((with_reducible first | apply gL0 | apply gL1 | apply gL2 | apply gL3 | apply gL4); assumption)))
  refine t_pu (c25 (hl.le IntE.grow le16.1) (sl_ints (l := [1, 2, 0]) rfl e16 (by show (3 : Nat) < _; omega))) ?_
  (repeat (first | (with_reducible first | apply gA | apply gB | apply gC | apply gD | apply gE | apply gF | apply gG | apply gH | apply gI | apply gJ | apply gK | apply gL | apply gM | apply gN | apply gO | apply gP | apply gQ | apply gR) | ((with_reducible first | apply gT | apply gS2); first | exact rfl | assumption | omega | exact ⟨⟩) | ((with_reducible first | apply gL0 | apply gL1 | apply gL2 | apply gL3 | apply gL4); assumption)))
  refine t_cond (fun _ => ?_) (fun e => absurd e (by decide))
  (repeat (first | (with_reducible first | apply gA | apply gB | apply gC | apply gD | apply gE | apply gF | apply gG | apply gH | apply gI | apply gJ | apply gK | apply gL | apply gM | apply gN | apply gO | apply gP | apply gQ | apply gR) | ((with_reducible first | apply gT | apply gS2); first | exact rfl | assumption | omega | exact ⟨⟩) | ((with_reducible first | apply gL0 | apply gL1 | apply gL2 | apply gL3 | apply gL4); assumption)))
  refine t_pu (c42 _ _) ?_
  (repeat (first | (with_reducible first | apply gA | apply gB | apply gC | apply gD | apply gE | apply gF | apply gG | apply gH | apply gI | apply gJ | apply gK | apply gL | apply gM | apply gN | apply gO | apply gP | apply gQ | apply gR) | ((with_reducible first | apply gT | apply gS2); first | exact rfl | assumption | omega | exact ⟨⟩) | ((with_reducible first | apply gL0 | apply gL1 | apply gL2 | apply gL3 | apply gL4); assumption)))
  refine t_pu (c42 _ _) ?_
  (repeat (first | (with_reducible first | apply gA | apply gB | apply gC | apply gD | apply gE | apply gF | apply gG | apply gH | apply gI | apply gJ | apply gK | apply gL | apply gM | apply gN | apply gO | apply gP | apply gQ | apply gR) | ((with_reducible first | apply gT | apply gS2); first | exact rfl | assumption | omega | exact ⟨⟩) | ((with_reducible first | apply gL0 | apply gL1 | apply gL2 | apply gL3 | apply gL4); assumption)))
  refine t_buildG und45 inf79 (by decide) (by decide) (cells := #[.int .i64 1, .int .i64 0, .int .i64 16, .int .i64 20, .int .i64 2, .int .i64 0, .int .i64 16, .int .i64 20]) (by kernel_rfl) fun r17 h17 le17 _ e17 => ?_
  (repeat (first | (with_reducible first | apply gA | apply gB | apply gC | apply gD | apply gE | apply gF | apply gG | apply gH | apply gI | apply gJ | apply gK | apply gL | apply gM | apply gN | apply gO | apply gP | apply gQ | apply gR) | ((with_reducible first | apply gT | apply gS2); first | exact rfl | assumption | omega | exact ⟨⟩) | ((with_reducible first | apply gL0 | apply gL1 | apply gL2 | apply gL3 | apply gL4); assumption)))
  have le1617 := LH.le_trans le16 le17
  refine t_pu (c30 (hk.le lack_grow le1617.1) (b := [⟨1, 0, ⟨16, 20⟩⟩, ⟨2, 0, ⟨16, 20⟩⟩]) ?_) ?_
  · refine ⟨rfl, by show (2 : Nat) < _; omega, ?_⟩
    have cr : ∀ {i j : Nat} {v : Value}, (#[.int .i64 1, .int .i64 0, .int .i64 16, .int .i64 20, .int .i64 2, .int .i64 0, .int .i64 16, .int .i64 20] : Array Value)[i + j]? = some v → h17.get.cell? (Addr.add (Addr.add ⟨r17, 0, none⟩ i) j) = some v := by
      intro i j v hv
      rw [add_plain, add_plain, Nat.zero_add]; exact cell_row e17 hv
    intro i x hx
    match i, hx with
    | 0, hx => cases hx; exact ⟨_, rfl, cr rfl, cr rfl, cr rfl, cr rfl⟩
    | 1, hx => cases hx; exact ⟨_, rfl, cr rfl, cr rfl, cr rfl, cr rfl⟩
    | i + 2, hx => simp at hx
  (repeat (first | (with_reducible first | apply gA | apply gB | apply gC | apply gD | apply gE | apply gF | apply gG | apply gH | apply gI | apply gJ | apply gK | apply gL | apply gM | apply gN | apply gO | apply gP | apply gQ | apply gR) | ((with_reducible first | apply gT | apply gS2); first | exact rfl | assumption | omega | exact ⟨⟩) | ((with_reducible first | apply gL0 | apply gL1 | apply gL2 | apply gL3 | apply gL4); assumption)))
  have leZ := LH.le_trans (LH.le_trans le1113 le15) le1617
  refine t_ret ⟨by simp, (Rd.of_le le.1).trans (rd11.trans (Rd.of_le leZ.1)), by rw [leZ.2.1, ch11], by rw [leZ.2.2.1, pe11], by rw [leZ.2.2.2, td11, le.2.2.2]⟩
end Go.Proofs.YtibibhojkfapnaaDoor
end
section
namespace Go.Proofs.YtibibhojkfapnaaDoor
open Go Go.TM Go.Proofs
attribute [local irreducible] T.wp CV FWK
theorem LeftR.form {h' : Cells} {u : UseFile} {land day : Int} {r : Value} (hr : LeftR h' u land day r) : ∃ p n c, r = .tuple #[.slice p n c, .int .i64 (openF u [landQ u land, dayQ day])] ∧ Sl IntE 1 h' p n (if openF u [landQ u land, dayQ day] = 0 then leftAll u land day else []) := by
  rcases hr with ⟨h1, rfl⟩ | ⟨h1, p, n, c, rfl, s⟩
  · exact ⟨none, 0, 0, rfl, by rw [if_neg h1]; exact Sl.nil⟩
  · exact ⟨p, n, c, by rw [h1], by rw [if_pos h1]; exact s⟩
theorem LacksR.form {h' : Cells} {u : UseFile} {land day : Int} {r : Value} (hr : LacksR h' u land day r) : ∃ p n c, r = .tuple #[.slice p n c, .int .i64 (openF u [landQ u land, dayQ day])] ∧ Sl LackE 4 h' p n (if openF u [landQ u land, dayQ day] = 0 then lacks u land day else []) := by
  rcases hr with ⟨h1, rfl⟩ | ⟨h1, p, n, c, rfl, s⟩
  · exact ⟨none, 0, 0, rfl, by rw [if_neg h1]; exact Sl.nil⟩
  · exact ⟨p, n, c, by rw [h1], by rw [if_pos h1]; exact s⟩
theorem LackE.grow : Grow LackE := fun _ _ _ _ hl h => ⟨hl _ _ h.1, hl _ _ h.2.1, hl _ _ h.2.2.1, hl _ _ h.2.2.2⟩
def Fin (h : LH) : Value → LH → Prop := fun r h' => r = .bool true ∧ h'.chans = [] ∧ h'.pend = [] ∧ h'.todo = h.todo
theorem fin_shown {h h' : LH} (hch : h.chans = []) (hpe : h.pend = []) (hp : Parts h.get) (hle : h.le h') : FW XT Tryd.prog 16 #[] h' (Fin h) := by
  refine FW.mono (c16 (by rw [hle.2.1, hch]) (by rw [hle.2.2.1, hpe]) (hp.le hle.1)) ?_
  rintro v h'' ⟨h1, _, h2, h3, h4⟩
  exact ⟨h1, h2, h3, by rw [h4, hle.2.2.2]⟩
theorem t_shown {h h' : LH} {k : Bool → T} {Q : Leaf → LH → Prop} (hch : h.chans = []) (hpe : h.pend = []) (hp : Parts h.get) (hle : h.le h') (hk : ∀ h'', h''.chans = [] ∧ h''.pend = [] ∧ h''.todo = h.todo → (k true).wp XT Tryd.prog Q h'') :
    (T.call false 16 #[] fun v => T.unB v k).wp XT Tryd.prog Q h' := by
  refine t_call (fin_shown hch hpe hp hle) ?_
  rintro _ h'' ⟨rfl, h2⟩
  exact gC (hk h'' h2)
end Go.Proofs.YtibibhojkfapnaaDoor
end
section
namespace Go.TM
open Go
def cum (c : Int → Bool) : Nat → Int
  | 0 => 0
  | n + 1 => cum c n + (if c ((n + 1 : Nat) : Int) then 1 else 0)
theorem firstDay_spec (c : Int → Bool) (idle : Int) : ∀ (d : Nat) (n : Int), n < idle → ∃ w : Nat, firstDay c idle d n = w ∧ w ≤ d ∧ n + cum c d - cum c w < idle ∧ (1 ≤ w → n + cum c d - cum c (w - 1) ≥ idle) := by
  intro d
  induction d with
  | zero => intro n hn; exact ⟨0, rfl, Nat.le_refl _, by omega, fun h => by omega⟩
  | succ d ih =>
    intro n hn
    have hc : (if c ((d + 1 : Nat) : Int) then n + 1 else n) + cum c d = n + cum c (d + 1) := by
      rw [cum]; split <;> omega
    rw [firstDay]
    by_cases e : (if c ((d + 1 : Nat) : Int) then n + 1 else n) ≥ idle
    · rw [if_pos e]
      refine ⟨d + 1, rfl, Nat.le_refl _, by omega, fun _ => ?_⟩
      rw [Nat.add_sub_cancel]; omega
    · rw [if_neg e]
      obtain ⟨w, h1, h2, h3, h4⟩ := ih _ (by omega : (if c ((d + 1 : Nat) : Int) then n + 1 else n) < idle)
      exact ⟨w, h1, by omega, by omega, fun h => by have := h4 h; omega⟩
def cnt (u : UseFile) (a d : Int) : Int := cum (counts u) d.toNat - cum (counts u) a.toNat
theorem window_bound {u : UseFile} (hi : 1 ≤ u.idle) {day : Int} (hd : 0 ≤ day) : 0 ≤ (window u day).first ∧ (window u day).first ≤ day ∧ (window u day).last = day ∧ cnt u (window u day).first day < u.idle ∧ (1 ≤ (window u day).first → cnt u ((window u day).first - 1) day ≥ u.idle) := by
  obtain ⟨w, h1, h2, h3, h4⟩ := firstDay_spec (counts u) u.idle day.toNat 0 (by omega)
  unfold window cnt
  simp only [h1]
  refine ⟨by omega, by omega, trivial, ?_, fun h => ?_⟩
  · rw [show ((w : Nat) : Int).toNat = w by omega]; omega
  · have := h4 (by omega)
    rw [show (((w : Nat) : Int) - 1).toNat = w - 1 by omega]; omega
end Go.TM
end
section
namespace Go.Proofs.YtibibhojkfapnaaDoor
open Go Go.TM Go.Proofs
attribute [local irreducible] T.wp CV FWK
theorem c36 {h : LH} {f : FileC} {u : UseFile} (hu : FileR h.get f u) : FW X0 Tryd.prog 36 #[fileV f u] h fun r h' => h = h' ∧ ∃ b : Bool, r = .bool b ∧ (b = true → checkF u = 0) := by
  refine w36 _ _ _ _ _ _ _ _ _ _ _ _ _ X0_ok ?_
  unfold n36
  refine t_call (c15 hu) ?_
  rintro _ _ ⟨rfl, b, rfl, hb⟩
  (repeat (first | (with_reducible first | apply gA | apply gB | apply gC | apply gD | apply gE | apply gF | apply gG | apply gH | apply gI | apply gJ | apply gK | apply gL | apply gM | apply gN | apply gO | apply gP | apply gQ | apply gR) | ((with_reducible first | apply gT | apply gS2); first | exact rfl | assumption | omega | exact ⟨⟩) | ((with_reducible first | apply gL0 | apply gL1 | apply gL2 | apply gL3 | apply gL4); assumption)))
  refine t_cond (fun _ => ?_) (fun _ => ?_)
  · refine t_pu (c27 hu) ?_
    (repeat (first | (with_reducible first | apply gA | apply gB | apply gC | apply gD | apply gE | apply gF | apply gG | apply gH | apply gI | apply gJ | apply gK | apply gL | apply gM | apply gN | apply gO | apply gP | apply gQ | apply gR) | ((with_reducible first | apply gT | apply gS2); first | exact rfl | assumption | omega | exact ⟨⟩) | ((with_reducible first | apply gL0 | apply gL1 | apply gL2 | apply gL3 | apply gL4); assumption)))
    exact t_ret ⟨rfl, _, rfl, fun e => by simpa using e⟩
  · exact t_ret ⟨rfl, _, rfl, fun e => by cases e⟩
theorem wrap_u16 {n : Int} (h : 0 ≤ n ∧ n ≤ 65535) : IntKind.i64.wrap n = n := wrap_id (by omega) (by omega)
theorem wrap_u8 {n : Int} (h : 0 ≤ n ∧ n ≤ 255) : IntKind.i64.wrap n = n := wrap_id (by omega) (by omega)
theorem tmod_nn {a b : Int} (ha : 0 ≤ a) : Int.tmod a b = a % b := by rw [Int.tmod_eq_emod_of_nonneg ha]
theorem mod_day {n : Int} : 0 ≤ n % 2001 ∧ n % 2001 ≤ 2000 := by omega
theorem c37 {h : LH} {n : Int} (hn : 0 ≤ n ∧ n ≤ 65535) : Pu Tryd.prog 37 #[.int .u16 n] h (.int .i64 (n % 2001)) := by
  refine w37 _ X0_ok ?_
  unfold n37
  refine gT (by omega) ?_
  rw [wrap_u16 hn, tmod_nn hn.1]
  exact t_ret ⟨rfl, rfl⟩
theorem windowR_ok {u : UseFile} (hck : checkF u = 0) {day : Int} (hd : 0 ≤ day ∧ day ≤ 2000) : windowR u day = .tuple #[.agg #[.int .i64 (window u day).first, .int .i64 day], .int .i64 0] := by
  have h1 : dayQ day = 0 := by simp [dayQ, isDay, isIn, hd]
  have h2 : openF u [dayQ day] = 0 := by rw [openF_one hck, h1]
  unfold windowR
  rw [if_neg (by rw [h2]; simp)]
end Go.Proofs.YtibibhojkfapnaaDoor
end
section
namespace Go.Proofs.YtibibhojkfapnaaDoor
open Go Go.TM Go.Proofs
attribute [local irreducible] T.wp CV FWK
theorem openF_all {u : UseFile} (hck : checkF u = 0) : ∀ {l : List Int}, (∀ x ∈ l, x = 0) → openF u l = 0 := by
  intro l hl
  rw [openF, if_neg (by simp [hck])]
  have key : ∀ (l : List Int) (i : Nat), (∀ x ∈ l, x = 0) → firstF (fun _ x => x) i l = 0 := by
    intro l
    induction l with
    | nil => intro i _; rfl
    | cons y l ih =>
      intro i h
      rw [firstF, if_neg (by simp [h y (by simp)])]
      exact ih _ fun x hx => h x (by simp [hx])
  exact key l 0 hl
theorem landQ_ok {u : UseFile} {k : Int} (h : 0 ≤ k ∧ k < u.lands) : landQ u k = 0 := by
  unfold landQ isIn
  rw [if_pos]; simp; omega
theorem itemQ_ok {u : UseFile} {k : Int} (h : 0 ≤ k ∧ k < u.items) : itemQ u k = 0 := by
  unfold itemQ isIn
  rw [if_pos]; simp; omega
theorem dayQ_ok {d : Int} (h : 0 ≤ d ∧ d ≤ 2000) : dayQ d = 0 := by
  unfold dayQ isDay isIn
  rw [if_pos]; simp; omega
theorem safeR_ok {u : UseFile} (hck : checkF u = 0) {k i d : Int} (hk : 0 ≤ k ∧ k < u.lands) (hi : 0 ≤ i ∧ i < u.items) (hd : 0 ≤ d ∧ d ≤ 2000) : safeR u k i d = .tuple #[.int .i64 (safe u k i d), .int .i64 0] := by
  rw [safeR, if_neg]
  rw [openF_all hck (by intro x hx; simp at hx; rcases hx with rfl | rfl | rfl; exact landQ_ok hk; exact itemQ_ok hi; exact dayQ_ok hd)]; simp
theorem leftQ_ok {u : UseFile} (hck : checkF u = 0) {k d : Int} (hk : 0 ≤ k ∧ k < u.lands) (hd : 0 ≤ d ∧ d ≤ 2000) : openF u [landQ u k, dayQ d] = 0 :=
  openF_all hck (by intro x hx; simp at hx; rcases hx with rfl | rfl; exact landQ_ok hk; exact dayQ_ok hd)
theorem mod_pos {n b : Int} (hb : 0 < b) : 0 ≤ n % b ∧ n % b < b := ⟨Int.emod_nonneg _ (by omega), Int.emod_lt_of_pos _ hb⟩
end Go.Proofs.YtibibhojkfapnaaDoor
end
section
namespace Go.TM
open Go
theorem safeGo_one {w : Span} : ∀ {l : List Paper} {out : Int}, out ≠ 1 → (safeGo w l out = 1 ↔ ∃ p ∈ l, insideB w p.days = true) := by
  intro l
  induction l with
  | nil => intro out h; simp [safeGo, h]
  | cons p l ih =>
    intro out h
    rw [safeGo]
    by_cases e : insideB w p.days = true
    · rw [if_pos e]; simp [e]
    · rw [if_neg e, ih (by split <;> omega)]
      simp [e]
def InW (u : UseFile) (day d : Int) : Prop := (window u day).first ≤ d ∧ d ≤ day
theorem inside_def (w x : Span) : insideB w x = true ↔ w.first ≤ x.first ∧ x.last ≤ w.last := by
  unfold insideB mx mn
  rw [decide_eq_true_eq]
  constructor
  · rintro ⟨h1, h2⟩; split at h1 <;> split at h2 <;> omega
  · rintro ⟨h1, h2⟩; constructor
    · split <;> omega
    · split <;> omega
end Go.TM
end
section
namespace Go.TM
open Go
theorem safe_one_iff {u : UseFile} {k i d : Int} (hd : 0 ≤ d) (hi : 1 ≤ u.idle) : safe u k i d = 1 ↔ InW u d u.from_ ∨ ∃ p ∈ shown u k i, (window u d).first ≤ p.days.first ∧ p.days.last ≤ d := by
  unfold safe
  by_cases e : isIn u.from_ (window u d).first d = true
  · rw [if_pos e]
    simp only [true_iff]
    exact .inl (by simpa [isIn, InW] using e)
  · rw [if_neg e, safeGo_one (by omega)]
    have h1 : ¬ InW u d u.from_ := fun h => e (by simp [isIn]; exact h)
    constructor
    · rintro ⟨p, hp, hin⟩; exact .inr ⟨p, hp, (inside_def _ _).1 hin⟩
    · rintro (h | ⟨p, hp, hin⟩)
      · exact absurd h h1
      · exact ⟨p, hp, (inside_def _ _).2 hin⟩
theorem left_one_iff {u : UseFile} {k i d : Int} : left u k i d = 1 ↔ ∀ r ∈ against u k i d, safe u k i r.day = 1 := by
  unfold left
  by_cases e : ((against u k i d).all fun r => decide (safe u k i r.day = 1)) = true
  · rw [if_pos e]
    simp only [true_iff]
    intro r hr; simpa using List.all_eq_true.1 e r hr
  · rw [if_neg e]
    constructor
    · intro h; split at h <;> omega
    · intro h
      exact absurd (List.all_eq_true.2 fun r hr => by simpa using h r hr) e
end Go.TM
end
section
namespace Go.TM
open Go Go.Conc
theorem Addr.add_add' (a : Addr) (x y : Nat) : (a.add x).add y = a.add (x + y) := by
  unfold Addr.add
  by_cases h1 : x = 0
  · subst h1; simp
  · by_cases h2 : y = 0
    · subst h2; simp [h1]
    · simp [h1, h2]; omega
def ToldE {α : Type} (E : Cells → Addr → α → Prop) (Enc : α → List Value → Prop) (k : Nat) (h : Cells) : Prop := ∀ a x, E h a x → ∃ ws, Enc x ws ∧ ws.length = k ∧ (∀ (j : Nat) w, ws[j]? = some w → h.cell? (a.add j) = some w) ∧ ∀ w ∈ ws, isOne w = true
theorem flat {α : Type} {E : Cells → Addr → α → Prop} {Enc : α → List Value → Prop} {k : Nat} {h : Cells} (he : ToldE E Enc k h) {b : Addr} {n : Nat} {l : List α} (s : Sl E k h (some b) n l) : ∀ i, i ≤ l.length → ∃ vs, Rows Enc vs (l.take i) ∧ vs.length = i * k ∧ (∀ (t : Nat) v, vs[t]? = some v → h.cell? (b.add t) = some v) ∧ ∀ v ∈ vs, isOne v = true := by
  intro i
  induction i with
  | zero => intro _; exact ⟨[], .nil, by simp, fun t v hv => by simp at hv, fun v hv => by simp at hv⟩
  | succ i ih =>
    intro hi
    obtain ⟨vs, h1, h2, h3, h4⟩ := ih (by omega)
    obtain ⟨x, a, hx, ha, hE⟩ := s.at (i := i) (by rw [s.1]; omega)
    cases ha
    obtain ⟨ws, w1, w2, w3, w4⟩ := he _ _ hE
    refine ⟨vs ++ ws, ?_, by rw [List.length_append, h2, w2, Nat.add_mul]; omega, fun t v hv => ?_, fun v hv => ?_⟩
    · rw [List.take_add_one, hx]; exact h1.snoc w1
    · by_cases ht : t < vs.length
      · rw [List.getElem?_append_left ht] at hv; exact h3 t v hv
      · rw [List.getElem?_append_right (by omega)] at hv
        have := w3 _ v hv
        rw [Addr.add_add'] at this
        rw [show t = i * k + (t - vs.length) by omega]; exact this
    · rcases List.mem_append.1 hv with hv | hv
      · exact h4 v hv
      · exact w4 v hv
theorem Rows.append {α : Type} {Enc : α → List Value → Prop} {vs : List Value} {l : List α} (r : Rows Enc vs l) {ws : List Value} {l' : List α} (r' : Rows Enc ws l') : Rows Enc (vs ++ ws) (l ++ l') := by
  induction r' with
  | nil => simpa using r
  | snoc r' he ih => rw [← List.append_assoc, ← List.append_assoc]; exact ih.snoc he
section
variable {P : Program} {X : XP} {Q : Leaf → LH → Prop}
theorem t_append0 {h : LH} {k : Value → T} {ts : Array TypeId} {ty sT xT el xe : TypeId} {s by_ : Nat} {z : Option Value} {p q : Option Addr} {n c mc : Nat} (h0 : ts[0]? = some sT) (h1 : ts[1]? = some xT) (hu : P.underlying sT = some (.slice el)) (hx : P.underlying xT = some (.slice xe))
    (hi : (P.info? el).map (fun i => (i.size, i.bytes, i.zero)) = some (s, by_, z)) (hnc : n ≤ c) (hk : (k (.slice p n c)).wp X P Q h) : (T.sem false (Builtin.append_ ts ty #[.slice p n c, .slice q 0 mc]) k).wp X P Q h := by
  obtain ⟨inf, g1, _, _, _⟩ := info_of hi
  refine t_sem (A := fun v h' => v = .slice p n c ∧ h' = h.get) ?_ (by rintro v h' ⟨rfl, rfl⟩; exact hk)
  unfold Builtin.append_
  rw [h0, h1]
  simp only [List.getElem?_toArray, List.getElem?_cons_zero, List.getElem?_cons_succ]
  simp only [lwp_bind, lwp_underlying hu, lwp_sizeOf g1, lwp_underlying hx, lwp_pure, Bool.false_eq_true, if_false, Bool.not_false, if_true, Builtin.lenOf, Nat.add_zero, if_pos hnc]
  cases q with
  | none =>
    simp only [Builtin.firstCells, lwp_pure]
    cases p with
    | none => exact ⟨rfl, rfl⟩
    | some a => exact ⟨rfl, rfl⟩
  | some b =>
    simp only [Builtin.firstCells, Nat.zero_mul]
    refine lwp_loads (l := []) rfl (fun t v hv => by simp at hv) ?_
    cases p with
    | none => exact ⟨rfl, rfl⟩
    | some a => exact ⟨rfl, rfl⟩
theorem OwnRow.le_cap {el : TypeId} {k : Nat} {h : Cells} {p : Option Addr} {n c : Nat} {vs : List Value} (o : OwnRow el k h p n c vs) : n ≤ c := by
  rcases o.2 with ⟨_, h1, h2⟩ | ⟨_, _, _, _, _, h, _⟩
  · omega
  · exact h
theorem t_copy {α : Type} {E : Cells → Addr → α → Prop} {Enc : α → List Value → Prop} {h h₀ : LH} {k : Value → T} {ts : Array TypeId} {ty sT xT el xe : TypeId} {s by_ : Nat} {z : Value} {p q : Option Addr} {n c m mc : Nat} {l l1 : List α} (h0 : ts[0]? = some sT) (h1 : ts[1]? = some xT) (hu : P.underlying sT = some (.slice el)) (hx : P.underlying xT = some (.slice xe))
    (hi : (P.info? el).map (fun i => (i.size, i.bytes, i.zero)) = some (s, by_, some z)) (hsz : z.cells.size = s) (hb : by_ ≤ 1024) (hn : n + m ≤ 2 ^ 30) (g : Growing Enc el s h₀.get h.get p n c l) (hle : h₀.le h) (src : Sl E s h.get q m l1) (he : ToldE E Enc s h.get)
    (hk : ∀ p' c' h', h₀.le h' → (∀ r y, (∀ a, p = some a → a.block ≠ r) → h.get r = some y → h'.get r = some y) → Growing Enc el s h₀.get h'.get p' (n + m) c' (l ++ l1) → (k (.slice p' (n + m) c')).wp X P Q h') : (T.sem false (Builtin.append_ ts ty #[.slice p n c, .slice q m mc]) k).wp X P Q h := by
  obtain ⟨vs, o, r⟩ := g.row
  by_cases hm : m = 0
  · subst hm
    have hl1 : l1 = [] := List.eq_nil_of_length_eq_zero src.1.symm
    subst hl1
    refine t_append0 h0 h1 hu hx hi o.le_cap ?_
    have := hk p c h hle (fun r y _ hy => hy) (by rw [List.append_nil]; exact g)
    exact this
  · obtain ⟨x, b, _, hb', _⟩ := src.at (i := 0) (by omega)
    subst hb'
    obtain ⟨ws, w1, w2, w3, w4⟩ := flat he src l1.length (Nat.le_refl _)
    rw [List.take_length] at w1
    have hm' := src.1
    refine t_append h0 h1 hu hx hi hsz hb hn o (by rw [w2, hm']) w3 w4 (by omega) fun p' c' h' a b c => ?_
    obtain ⟨l1', l2'⟩ := after_append hle.1 g.new b c
    exact hk p' c' _ ⟨l1', hle.2⟩ (fun r y hr hy => b r y hy hr) ⟨⟨vs ++ ws, a, r.append w1⟩, l2'⟩
theorem t_build0G {α : Type} {Enc : α → List Value → Prop} {h h₀ : LH} {K : Value → T} {t el : TypeId} {s b : Nat} {z : Option Value} (hu : P.underlying t = some (.slice el)) (hi : (P.info? el).map (fun i => (i.size, i.bytes, i.zero)) = some (s, b, z)) (hle : h₀.le h)
    (hk : ∀ r h', h.get r = none → h.le h' → Growing Enc el s h₀.get h'.get (some ⟨r, 0, none⟩) 0 0 [] → (K (.slice (some ⟨r, 0, none⟩) 0 0)).wp X P Q h') : (T.sem false (Instr.buildSlice t 0 #[]) K).wp X P Q h := by
  refine t_build0 hu hi fun r hr => ?_
  refine hk r _ hr (LH.upd_le hr) ⟨⟨[], ⟨by simp, .inr ⟨r, #[], rfl, Cells.upd_self _ _ _, by simp, Nat.le_refl _, fun j v hv => by simp at hv⟩⟩, .nil⟩, fun a ha => ?_⟩
  cases ha
  cases hx : h₀.get r with
  | none => rfl
  | some x => rw [hle.1 _ _ hx] at hr; cases hr
end
end Go.TM
end
section
namespace Go.Proofs.YtibibhojkfapnaaDoor
open Go Go.TM Go.Proofs
attribute [local irreducible] T.wp CV FWK
def PaperB (h0 : Cells) (h : Cells) (a : Addr) (x : Paper) : Prop := ∃ q m c, (∀ (j : Nat) w, [Value.int .i64 x.days.first, .int .i64 x.days.last, .int .i64 x.land, .slice q m c][j]? = some w → h.cell? (a.add j) = some w) ∧ Sl IntE 1 h0 q m x.items
theorem paperTold {h0 h : Cells} : ToldE (PaperB h0) (PaperEnc h0) 4 h := by
  rintro a x ⟨q, m, c, h1, h2⟩
  exact ⟨_, ⟨q, m, c, rfl, h2⟩, rfl, h1, fun w hw => by simp at hw; rcases hw with rfl | rfl | rfl | rfl <;> rfl⟩
theorem PaperB.of {h0 h : Cells} (hr : Rd h0 h) {p : Option Addr} {n : Nat} {l : List Paper} (s : Sl PaperE 4 h0 p n l) : Sl (PaperB h0) 4 h p n l := by
  refine ⟨s.1, s.2.1, fun i x hx => ?_⟩
  obtain ⟨a, ha, h1, h2, h3, q, m, c, h4, h5⟩ := s.2.2 i x hx
  refine ⟨a, ha, q, m, c, fun j w hj => ?_, h5⟩
  match j, hj with
  | 0, hj => cases hj; exact hr _ _ h1
  | 1, hj => cases hj; exact hr _ _ h2
  | 2, hj => cases hj; exact hr _ _ h3
  | 3, hj => cases hj; exact hr _ _ h4
  | j + 4, hj => simp at hj
theorem row_stands {h h' : Cells} {r : Nat} {cs : Array Value} {el : TypeId} {ws : List Value} (hr : h r = some (true, .cells cs el (0, 0))) (hc : ∀ (j : Nat) w, ws[j]? = some w → cs[j]? = some w) (hk : h' r = h r) (j : Nat) (w : Value) (hj : ws[j]? = some w) : h'.cell? ((⟨r, 0, none⟩ : Addr).add j) = some w := by
  rw [add_plain, Nat.zero_add]
  unfold Cells.cell?
  rw [hk, hr]
  exact hc j w hj
section
variable {X : XP} {Q : Leaf → LH → Prop}
end
end Go.Proofs.YtibibhojkfapnaaDoor
end
section
namespace Go.Proofs.YtibibhojkfapnaaDoor
open Go Go.TM Go.Proofs
attribute [local irreducible] T.wp CV FWK
theorem c50 {h : LH} {p : Option Addr} {n c : Nat} {l : List Int} (hl : Sl U16E 1 h.get p n l) (k : Nat) : FW X0 Tryd.prog 50 #[.slice p n c, .int .i64 k] h fun r h' => h = h' ∧ ∃ v : Int, r = .int .i64 v ∧ 0 ≤ v ∧ v ≤ 65535 := by
  refine w50 _ _ _ _ X0_ok ?_
  unfold n50
  refine t_if (fun e => ?_) (fun e => ?_)
  · obtain ⟨x, a, hx, ha, e1, e2, e3⟩ := hl.at (i := k) (by omega)
    (repeat (first | (with_reducible first | apply gA | apply gB | apply gC | apply gD | apply gE | apply gF | apply gG | apply gH | apply gI | apply gJ | apply gK | apply gL | apply gM | apply gN | apply gO | apply gP | apply gQ | apply gR) | ((with_reducible first | apply gT | apply gS2); first | exact rfl | assumption | omega | exact ⟨⟩) | ((with_reducible first | apply gL0 | apply gL1 | apply gL2 | apply gL3 | apply gL4); assumption)))
    exact t_ret ⟨rfl, _, rfl, by rw [wrap_u16 ⟨e2, e3⟩]; exact ⟨e2, e3⟩⟩
  · exact t_ret ⟨rfl, 0, rfl, by omega, by omega⟩
end Go.Proofs.YtibibhojkfapnaaDoor
end
section
namespace Go.TM
open Go Go.Conc
section
variable {P : Program} {X : XP} {Q : Leaf → LH → Prop}
end
theorem Rows.mono {α : Type} {Enc Enc' : α → List Value → Prop} (he : ∀ x ws, Enc x ws → Enc' x ws) {vs : List Value} {l : List α} (r : Rows Enc vs l) : Rows Enc' vs l := by
  induction r with
  | nil => exact .nil
  | snoc r h ih => exact ih.snoc (he _ _ h)
theorem Growing.mono {α : Type} {Enc Enc' : α → List Value → Prop} (he : ∀ x ws, Enc x ws → Enc' x ws) {el : TypeId} {k : Nat} {h₀ h : Cells} {p : Option Addr} {n c : Nat} {l : List α} (g : Growing Enc el k h₀ h p n c l) : Growing Enc' el k h₀ h p n c l := by
  obtain ⟨vs, h1, h2⟩ := g.row
  exact ⟨⟨vs, h1, h2.mono he⟩, g.new⟩
section
variable {P : Program} {X : XP} {Q : Leaf → LH → Prop}
end
end Go.TM
end
section
namespace Go.TM
open Go
theorem eachF_of {α : Type} {most : Int} {f : Nat → α → Int} {l : List α} (h1 : (l.length : Int) ≤ most) (h2 : ∀ (j : Nat) x, l[j]? = some x → f j x = 0) : eachF most f l = 0 := by
  unfold eachF
  rw [if_neg (by omega)]
  have key : ∀ (l : List α) (i : Nat), (∀ (j : Nat) x, l[j]? = some x → f (i + j) x = 0) → firstF f i l = 0 := by
    intro l
    induction l with
    | nil => intro i _; rfl
    | cons y l ih =>
      intro i h
      rw [firstF, if_neg (by have := h 0 y rfl; simp at this; simp [this])]
      refine ih (i + 1) fun j x hx => ?_
      have := h (j + 1) x (by simpa using hx)
      rw [show i + 1 + j = i + (j + 1) by omega]; exact this
  exact key l 0 fun j x hx => by rw [Nat.zero_add]; exact h2 j x hx
theorem check_withP {u : UseFile} (h : checkF u = 0) {ps : List Paper} (h1 : ps.length ≤ 8) (h2 : ∀ p ∈ ps, paperF u p = 0) : checkF { u with papers := ps } = 0 := by
  obtain ⟨a, b, _, d⟩ := check_parts h
  have hp : papersF { u with papers := ps } = 0 := by
    unfold papersF
    exact eachF_of (by show ((ps.length : Nat) : Int) ≤ 8; omega) fun j x hx => h2 x (List.mem_of_getElem? hx)
  have ha : numbersF { u with papers := ps } = 0 := a
  have hb : excusesF { u with papers := ps } = 0 := b
  have hd : requestsF { u with papers := ps } = 0 := d
  unfold checkF
  rw [ha, hb, hp, hd]
  rfl
theorem check_paper {u : UseFile} (h : checkF u = 0) : ∀ p ∈ u.papers, paperF u p = 0 := by
  obtain ⟨_, h2⟩ := eachF_zero (check_parts h).2.2.1
  intro p hp
  obtain ⟨j, hj⟩ := List.mem_iff_getElem?.1 hp
  exact h2 j p hj
end Go.TM
end
section
namespace Go.TM
open Go
def LackIs (u : UseFile) (k d : Int) (j : Nat) (r : Request) (x : Lack) : Prop := u.requests[j]? = some r ∧ r.land = k ∧ r.day ≤ d ∧ x.item ∈ r.items ∧ safe u k x.item r.day ≠ 1 ∧ x.request = (j : Int) ∧ x.window = window u r.day
theorem lack_go {u : UseFile} {k d : Int} {x : Lack} : ∀ {l : List Request} {i : Nat}, x ∈ lacksGo u k d l i ↔ ∃ (j : Nat) (r : Request), l[j]? = some r ∧ r.land = k ∧ r.day ≤ d ∧ x.item ∈ r.items ∧ safe u k x.item r.day ≠ 1 ∧ x.request = ((i + j : Nat) : Int) ∧ x.window = window u r.day
  | [], i => by simp [lacksGo]
  | y :: l, i => by
    rw [lacksGo, List.mem_append, lack_go]
    have hone : x ∈ lacksOf u k d i y ↔ y.land = k ∧ y.day ≤ d ∧ x.item ∈ y.items ∧ safe u k x.item y.day ≠ 1 ∧ x.request = (i : Int) ∧ x.window = window u y.day := by
      unfold lacksOf
      by_cases e : y.land ≠ k ∨ y.day > d
      · rw [if_pos e]
        constructor
        · intro h; simp at h
        · rintro ⟨h1, h2, _⟩; omega
      · rw [if_neg e]
        rw [List.mem_map]
        constructor
        · rintro ⟨n, hn, rfl⟩
          rw [List.mem_filter] at hn
          exact ⟨by omega, by omega, hn.1, by simpa using hn.2, rfl, rfl⟩
        · rintro ⟨_, _, h3, h4, h5, h6⟩
          refine ⟨x.item, List.mem_filter.2 ⟨h3, by simpa using h4⟩, ?_⟩
          obtain ⟨a, b, c⟩ := x
          simp only at h5 h6
          subst h5; subst h6; rfl
    rw [hone]
    constructor
    · rintro (h | ⟨j, r, h1, h2⟩)
      · exact ⟨0, y, rfl, h⟩
      · exact ⟨j + 1, r, by simpa using h1, by rw [show i + (j + 1) = i + 1 + j by omega]; exact h2⟩
    · rintro ⟨j, r, h1, h2⟩
      cases j with
      | zero => simp at h1; subst h1; exact .inl h2
      | succ j => exact .inr ⟨j, r, by simpa using h1, by rw [show i + 1 + j = i + (j + 1) by omega]; exact h2⟩
theorem lack_iff {u : UseFile} {k d : Int} {x : Lack} : x ∈ lacks u k d ↔ ∃ j r, LackIs u k d j r x := by
  unfold lacks LackIs
  rw [lack_go]
  simp only [Nat.zero_add]
theorem against_iff {u : UseFile} {k i d : Int} {r : Request} : r ∈ against u k i d ↔ r ∈ u.requests ∧ r.land = k ∧ r.day ≤ d ∧ i ∈ r.items := by
  unfold against agB
  rw [List.mem_filter]
  simp
theorem item_in {u : UseFile} (hck : checkF u = 0) {r : Request} (hr : r ∈ u.requests) {i : Int} (hi : i ∈ r.items) : 0 ≤ i ∧ i < u.items := by
  obtain ⟨_, h2⟩ := eachF_zero (check_parts hck).2.2.2
  obtain ⟨j, hj⟩ := List.mem_iff_getElem?.1 hr
  have := h2 j r hj
  unfold requestF at this
  obtain ⟨n, hn⟩ := List.mem_iff_getElem?.1 hi
  have key : ∀ (c1 c2 c3 : Prop) [Decidable c1] [Decidable c2] [Decidable c3] (x : Int), (if c1 then (1 : Int) else if c2 then 7 else if c3 then 6 else x) = 0 → x = 0 := by
    intro c1 c2 c3 _ _ _ x hx
    by_cases a1 : c1
    · rw [if_pos a1] at hx; cases hx
    · rw [if_neg a1] at hx
      by_cases a2 : c2
      · rw [if_pos a2] at hx; cases hx
      · rw [if_neg a2] at hx
        by_cases a3 : c3
        · rw [if_pos a3] at hx; cases hx
        · rw [if_neg a3] at hx; exact hx
  have h3 := firstF_zero' (key _ _ _ _ this) n i hn
  unfold riseF at h3
  split at h3
  · cases h3
  · rename_i h4
    simp [isIn] at h4
    omega
theorem lacks_nil {u : UseFile} (hck : checkF u = 0) (k d : Int) : lacks u k d = [] ↔ ∀ x ∈ leftAll u k d, x = 1 := by
  unfold leftAll
  constructor
  · intro h x hx
    obtain ⟨i, hi, rfl⟩ := List.mem_map.1 hx
    rw [left_one_iff]
    intro r hr
    obtain ⟨h1, h2, h3, h4⟩ := against_iff.1 hr
    obtain ⟨j, hj⟩ := List.mem_iff_getElem?.1 h1
    apply Classical.byContradiction
    intro hs
    have : (⟨(i : Int), (j : Int), window u r.day⟩ : Lack) ∈ lacks u k d := lack_iff.2 ⟨j, r, hj, h2, h3, h4, hs, rfl, rfl⟩
    rw [h] at this
    simp at this
  · intro h
    apply List.eq_nil_iff_forall_not_mem.2
    intro x hx
    obtain ⟨j, r, h1, h2, h3, h4, h5, h6, h7⟩ := lack_iff.1 hx
    have hr := List.mem_of_getElem? h1
    obtain ⟨b1, b2⟩ := item_in hck hr h4
    have e : ((x.item.toNat : Nat) : Int) = x.item := by omega
    have := h (left u k x.item d) (List.mem_map.2 ⟨x.item.toNat, by rw [List.mem_range]; omega, by rw [e]⟩)
    exact h5 (left_one_iff.1 this r (against_iff.2 ⟨hr, h2, h3, h4⟩))
def FillP (k : Int) (x : Lack) (p : Paper) : Prop := ∃ e, x.window.first ≤ e ∧ e ≤ x.window.last ∧ p = ⟨⟨e, e⟩, k, [x.item]⟩
def Fills (k : Int) : List Lack → List Paper → Prop
  | [], [] => True
  | x :: xs, p :: ps => FillP k x p ∧ Fills k xs ps
  | _, _ => False
theorem Fills.snoc {k : Int} {y : Lack} {q : Paper} (hy : FillP k y q) : ∀ {xs : List Lack} {ps : List Paper}, Fills k xs ps → Fills k (xs ++ [y]) (ps ++ [q])
  | [], [], _ => ⟨hy, trivial⟩
  | _ :: _, _ :: _, h => ⟨h.1, Fills.snoc hy h.2⟩
  | [], _ :: _, h => h.elim
  | _ :: _, [], h => h.elim
theorem Fills.len {k : Int} : ∀ {xs : List Lack} {ps : List Paper}, Fills k xs ps → ps.length = xs.length
  | [], [], _ => rfl
  | _ :: _, _ :: _, h => by simp [Fills.len h.2]
  | [], _ :: _, h => h.elim
  | _ :: _, [], h => h.elim
theorem Fills.to {k : Int} : ∀ {xs : List Lack} {ps : List Paper}, Fills k xs ps → ∀ x ∈ xs, ∃ p ∈ ps, FillP k x p
  | [], [], _, x, hx => by simp at hx
  | y :: xs, p :: ps, h, x, hx => by
    rcases List.mem_cons.1 hx with rfl | hx
    · exact ⟨p, by simp, h.1⟩
    · obtain ⟨q, h1, h2⟩ := Fills.to h.2 x hx
      exact ⟨q, by simp [h1], h2⟩
  | [], _ :: _, h, _, _ => h.elim
  | _ :: _, [], h, _, _ => h.elim
theorem Fills.from {k : Int} : ∀ {xs : List Lack} {ps : List Paper}, Fills k xs ps → ∀ p ∈ ps, ∃ x ∈ xs, FillP k x p
  | [], [], _, p, hp => by simp at hp
  | y :: xs, p :: ps, h, q, hq => by
    rcases List.mem_cons.1 hq with rfl | hq
    · exact ⟨y, by simp, h.1⟩
    · obtain ⟨x, h1, h2⟩ := Fills.from h.2 q hq
      exact ⟨x, by simp [h1], h2⟩
  | [], _ :: _, h, _, _ => h.elim
  | _ :: _, [], h, _, _ => h.elim
theorem lack_facts {u : UseFile} (hck : checkF u = 0) {k d : Int} {x : Lack} (hx : x ∈ lacks u k d) : ∃ (j : Nat) (r : Request), u.requests[j]? = some r ∧ x.request = (j : Int) ∧ r.land = k ∧ r.day ≤ d ∧ r.items.contains x.item = true ∧ x.window = window u r.day ∧ safe u k x.item r.day ≠ 1 ∧ (0 ≤ x.item ∧ x.item < u.items) ∧ 0 ≤ x.window.first ∧ x.window.first ≤ x.window.last ∧ x.window.last = r.day ∧ 0 ≤ r.day ∧ r.day ≤ 2000 := by
  obtain ⟨j, r, h1, h2, h3, h4, h5, h6, h7⟩ := lack_iff.1 hx
  have hr := List.mem_of_getElem? h1
  have hd := (check_requests hck).2 r hr
  have hi := (num_ok (check_num hck)).2.2.2.1
  obtain ⟨b1, b2, b3, _⟩ := window_bound hi (u := u) hd.1
  exact ⟨j, r, h1, h6, h2, h3, by simpa using h4, h7, h5, item_in hck hr h4, by rw [h7]; exact b1, by rw [h7]; omega, by rw [h7]; exact b3, hd.1, hd.2⟩
theorem fills_check {u : UseFile} (hck : checkF u = 0) {k d : Int} (hk : 0 ≤ k ∧ k < u.lands) {ps : List Paper} (h : Fills k (lacks u k d) ps) (h8 : (u.papers ++ ps).length ≤ 8) : checkF { u with papers := u.papers ++ ps } = 0 := by
  refine check_withP hck h8 fun p hp => ?_
  rcases List.mem_append.1 hp with hp | hp
  · exact check_paper hck p hp
  · obtain ⟨x, hx, e, h1, h2, rfl⟩ := h.from p hp
    obtain ⟨j, r, _, _, _, _, _, _, _, ⟨i1, i2⟩, w1, w2, w3, _, w5⟩ := lack_facts hck hx
    unfold paperF
    rw [if_neg (by simp [isSpan, isDay, isIn]; omega), if_neg (by simp [isIn]; omega)]
    show firstF _ 0 [x.item] = 0
    rw [firstF, if_neg (by simp [riseF, isIn]; omega)]
    rfl
theorem fills_none {u : UseFile} (hck : checkF u = 0) {k d : Int} {ps : List Paper} (h : Fills k (lacks u k d) ps) : lacks { u with papers := u.papers ++ ps } k d = [] := by
  apply List.eq_nil_iff_forall_not_mem.2
  intro x hx
  obtain ⟨j, r, h1, h2, h3, h4, h5, h6, h7⟩ := lack_iff.1 hx
  have h1' : u.requests[j]? = some r := h1
  have hd := (check_requests hck).2 r (List.mem_of_getElem? h1')
  have hi := (num_ok (check_num hck)).2.2.2.1
  apply h5
  rw [safe_one_iff (u := { u with papers := u.papers ++ ps }) hd.1 hi]
  by_cases hs : safe u k x.item r.day = 1
  · rcases (safe_one_iff hd.1 hi).1 hs with hh | ⟨p, hp, g1, g2⟩
    · exact .inl hh
    · refine .inr ⟨p, ?_, g1, g2⟩
      unfold shown at hp ⊢
      rw [List.mem_filter] at hp ⊢
      exact ⟨List.mem_append_left _ hp.1, hp.2⟩
  · obtain ⟨p, hp, e, g1, g2, rfl⟩ := h.to ⟨x.item, (j : Int), window u r.day⟩ (lack_iff.2 ⟨j, r, h1', h2, h3, h4, hs, rfl, rfl⟩)
    refine .inr ⟨⟨⟨e, e⟩, k, [x.item]⟩, ?_, g1, g2⟩
    unfold shown
    rw [List.mem_filter]
    exact ⟨List.mem_append_right _ hp, by simp [showsB]⟩
end Go.TM
end
section
namespace Go.Proofs.YtibibhojkfapnaaDoor
open Go Go.TM Go.Proofs
set_option linter.unusedVariables false
set_option maxRecDepth 100000
noncomputable def n12 (u_0 : Int) (u_1 : Int) (u_2 : Int) (u_3 : Int) (u_4p : Option Addr) (u_4n u_4c : Nat) (u_5p : Option Addr) (u_5n u_5c : Nat) (u_6p : Option Addr) (u_6n u_6c : Nat) (land : Int) (day : Int) (picksp : Option Addr) (picksn picksc : Nat) : T := .call false 36 #[.agg #[.int .i64 u_0, .int .i64 u_1, .int .i64 u_2, .int .i64 u_3, .slice u_4p u_4n u_4c, .slice u_5p u_5n u_5c, .slice u_6p u_6n u_6c]] fun v => .unB v fun b => bif !b then .call false 16 #[] fun v => .unB v fun b => .leaf (.ret (.bool b)) else .need (u_1 ≠ 0) (.call false 37 #[.int .u16 day] fun v => .unI .i64 v fun n => .need (u_1 ≠ 0) (.nd (.int .i64 (Int.tmod (IntKind.wrap .i64 land) u_1)) (.nd (.int .i64 u_1) (.need (AV.pp 4 1 = AV.pp 4 1) (.nd (.int .i64 (IntKind.wrap .i64 land)) (.nd (.int .u8 land) (.call false 28 #[.agg #[.int .i64 u_0, .int .i64 u_1, .int .i64 u_2, .int .i64 u_3, .slice u_4p u_4n u_4c, .slice u_5p u_5n u_5c, .slice u_6p u_6n u_6c], .int .i64 (Int.tmod (IntKind.wrap .i64 land) u_1), .int .i64 n] fun v => .unTup v fun l => .unCons l fun v vs => .unS v fun a n_1 c => .unCons vs fun v vs => .unI .i64 v fun n_2 => .unNil vs (.call false 23 #[.agg #[.int .i64 u_0, .int .i64 u_1, .int .i64 u_2, .int .i64 u_3, .slice u_4p u_4n u_4c, .slice u_5p u_5n u_5c, .slice u_6p u_6n u_6c], .int .i64 (Int.tmod (IntKind.wrap .i64 land) u_1), .int .i64 n] fun v => .unTup v fun l => .unCons l fun v vs => .unS v fun a_1 n_3 c => .unCons vs fun v vs => .unI .i64 v fun n_4 => .unNil vs (.blk (bif n_2 != 0 then .leaf (.retn [.bool false]) else bif n_4 != 0 then .leaf (.retn [.bool false]) else .leaf (.again [.bool false])) (fun vs => .popB vs fun b vs => .unNil vs (.loop [.bool true, .int .i64 0] (fun vs => .popB vs fun b vs => .popI .i64 vs fun n vs => .unNil vs (bif decide (n < (↑n_3 : Int)) then bif b then .need (0 ≤ n ∧ n < (↑n_3 : Int)) (.someA a_1 fun a => .loadI .i64 (Addr.add a (Int.toNat n * 1)) fun n_5 => .leaf (.again [.bool (n_5 == 1), .int .i64 (IntKind.wrap .i64 (n + 1))])) else .leaf (.again [.bool false, .int .i64 (IntKind.wrap .i64 (n + 1))]) else .leaf (.brk [.bool b, .int .i64 n]))) (fun vs => .popB vs fun b_1 vs => .popI .i64 vs fun n_5 vs => .unNil vs (bif !b_1 == ((↑n_1 : Int) == 0) then .leaf (.ret (.bool false)) else .loop [.bool b, .int .i64 0, .int .i64 u_0, .int .i64 u_1, .int .i64 u_2, .int .i64 u_3, .slice u_4p u_4n u_4c, .slice u_5p u_5n u_5c, .slice u_6p u_6n u_6c] (fun vs => .popB vs fun b vs => .popI .i64 vs fun n_6 vs => .popI .i64 vs fun n_7 vs => .popI .i64 vs fun n_8 vs => .popI .i64 vs fun n_9 vs => .popI .i64 vs fun n_10 vs => .popS vs fun a_2 n_11 c vs => .popS vs fun a_3 n_12 c_1 vs => .popS vs fun a_4 n_13 c_2 vs => .unNil vs (bif decide (n_6 < (↑n_1 : Int)) then .need (0 ≤ n_6 ∧ n_6 < (↑n_1 : Int)) (.someA a fun a => .loadI .i64 (Addr.add (Addr.add a (Int.toNat n_6 * 4)) 0) fun n_14 => .loadI .i64 (Addr.add (Addr.add a (Int.toNat n_6 * 4)) 1) fun n_15 => .loadI .i64 (Addr.add (Addr.add a (Int.toNat n_6 * 4)) 2) fun n_16 => .loadI .i64 (Addr.add (Addr.add a (Int.toNat n_6 * 4)) 3) fun n_17 => .blk (.call false 49 #[.int .i64 n_15, .int .i64 0, .int .i64 (IntKind.wrap .i64 ((↑u_6n : Int) - 1))] fun v => .unB v fun b_2 => .nd (.int .i64 (↑u_6n : Int)) (.nd (.slice u_6p u_6n u_6c) (.need (AV.pp 4 6 = AV.pp 4 6) (.need (AV.pp 19 1 = AV.pp 19 1) (bif !b_2 then .nd (.tuple #[]) (.nd (.tuple #[]) (.nd (.bool !b_2) (.nd (.int .i64 (↑u_6n : Int)) (.nd (.slice u_6p u_6n u_6c) (.need (AV.pp 4 6 = AV.pp 4 6) (.need (AV.pp 19 1 = AV.pp 19 1) (.nd (.tuple #[]) (.nd (.tuple #[]) (.nd (.tuple #[]) (.nd (.tuple #[]) (.nd (.bool true) (.nd (.tuple #[]) (.nd (.tuple #[]) (.nd (.bool !b_2) (.nd (.int .i64 (↑u_6n : Int)) (.nd (.slice u_6p u_6n u_6c) (.need (AV.pp 4 6 = AV.pp 4 6) (.need (AV.pp 19 1 = AV.pp 19 1) (.nd (.tuple #[]) (.nd (.tuple #[]) (.nd (.tuple #[]) (.nd (.tuple #[]) (.nd (.tuple #[]) (.nd (.tuple #[]) (.nd (.tuple #[]) (.nd (.tuple #[]) (.nd (.bool true) (.nd (.tuple #[]) (.nd (.tuple #[]) (.nd (.tuple #[]) (.nd (.tuple #[]) (.nd (.bool true) (.nd (.tuple #[]) (.nd (.tuple #[]) (.nd (.bool !b_2) (.nd (.int .i64 (↑u_6n : Int)) (.nd (.slice u_6p u_6n u_6c) (.need (AV.pp 4 6 = AV.pp 4 6) (.need (AV.pp 19 1 = AV.pp 19 1) (.nd (.tuple #[]) (.nd (.tuple #[]) (.nd (.tuple #[]) (.nd (.tuple #[]) (.nd (.tuple #[]) (.nd (.tuple #[]) (.nd (.bool true) (.nd (.tuple #[]) (.nd (.tuple #[]) (.nd (.tuple #[]) (.nd (.tuple #[]) (.nd (.tuple #[]) (.nd (.tuple #[]) (.nd (.tuple #[]) (.nd (.tuple #[]) (.nd (.bool true) (.nd (.tuple #[]) (.nd (.tuple #[]) (.nd (.tuple #[]) (.nd (.tuple #[]) (.nd (.bool true) (.nd (.tuple #[]) (.nd (.tuple #[]) (.nd (.bool !b_2) (.nd (.int .i64 (↑u_6n : Int)) (.nd (.slice u_6p u_6n u_6c) (.need (AV.pp 4 6 = AV.pp 4 6) (.need (AV.pp 19 1 = AV.pp 19 1) (.nd (.tuple #[]) (.nd (.tuple #[]) (.nd (.tuple #[]) (.nd (.tuple #[]) (.nd (.tuple #[]) (.nd (.tuple #[]) (.nd (.bool true) (.nd (.tuple #[]) (.nd (.tuple #[]) (.nd (.tuple #[]) (.nd (.tuple #[]) (.nd (.tuple #[]) (.nd (.tuple #[]) (.nd (.bool true) (.nd (.tuple #[]) (.nd (.tuple #[]) (.nd (.tuple #[]) (.nd (.tuple #[]) (.nd (.tuple #[]) (.nd (.tuple #[]) (.nd (.tuple #[]) (.nd (.tuple #[]) (.nd (.bool true) (.nd (.tuple #[]) (.nd (.tuple #[]) (.nd (.tuple #[]) (.nd (.tuple #[]) (.nd (.bool true) (.nd (.tuple #[]) (.nd (.tuple #[]) (.nd (.bool !b_2) (.nd (.int .i64 (↑u_6n : Int)) (.nd (.slice u_6p u_6n u_6c) (.need (AV.pp 4 6 = AV.pp 4 6) (.need (AV.pp 19 1 = AV.pp 19 1) (.nd (.tuple #[]) (.nd (.tuple #[]) (.nd (.tuple #[]) (.nd (.tuple #[]) (.nd (.tuple #[]) (.nd (.tuple #[]) (.nd (.tuple #[]) (.nd (.bool true) (.nd (.tuple #[]) (.nd (.tuple #[]) (.nd (.tuple #[]) (.nd (.tuple #[]) (.nd (.tuple #[]) (.nd (.tuple #[]) (.nd (.bool true) (.nd (.tuple #[]) (.nd (.tuple #[]) (.nd (.tuple #[]) (.nd (.tuple #[]) (.nd (.tuple #[]) (.nd (.tuple #[]) (.nd (.bool true) (.nd (.tuple #[]) (.nd (.tuple #[]) (.nd (.tuple #[]) (.nd (.tuple #[]) (.nd (.tuple #[]) (.nd (.tuple #[]) (.nd (.tuple #[]) (.nd (.tuple #[]) (.nd (.bool true) (.nd (.tuple #[]) (.nd (.tuple #[]) (.nd (.tuple #[]) (.nd (.tuple #[]) (.nd (.bool true) (.nd (.tuple #[]) (.nd (.tuple #[]) (.nd (.bool !b_2) (.nd (.int .i64 (↑u_6n : Int)) (.nd (.slice u_6p u_6n u_6c) (.need (AV.pp 4 6 = AV.pp 4 6) (.need (AV.pp 19 1 = AV.pp 19 1) (.nd (.tuple #[]) (.nd (.tuple #[]) (.nd (.tuple #[]) (.nd (.tuple #[]) (.nd (.tuple #[]) (.nd (.tuple #[]) (.nd (.tuple #[]) (.nd (.bool true) (.nd (.tuple #[]) (.nd (.tuple #[]) (.nd (.tuple #[]) (.nd (.tuple #[]) (.nd (.tuple #[]) (.nd (.tuple #[]) (.nd (.bool true) (.nd (.tuple #[]) (.nd (.tuple #[]) (.nd (.tuple #[]) (.nd (.tuple #[]) (.nd (.tuple #[]) (.nd (.tuple #[]) (.nd (.bool true) (.nd (.tuple #[]) (.nd (.tuple #[]) (.nd (.tuple #[]) (.nd (.tuple #[]) (.nd (.tuple #[]) (.nd (.tuple #[]) (.nd (.tuple #[]) (.nd (.tuple #[]) (.nd (.bool true) (.nd (.tuple #[]) (.nd (.tuple #[]) (.nd (.tuple #[]) (.nd (.tuple #[]) (.nd (.bool true) (.nd (.tuple #[]) (.nd (.tuple #[]) (.nd (.bool !b_2) (.nd (.int .i64 (↑u_6n : Int)) (.nd (.slice u_6p u_6n u_6c) (.need (AV.pp 4 6 = AV.pp 4 6) (.need (AV.pp 19 1 = AV.pp 19 1) (.leaf (.retn [.bool false])))))))))))))))))))))))))))))))))))))))))))))))))))))))))))))))))))))))))))))))))))))))))))))))))))))))))))))))))))))))))))))))))))))))))))))))))))))))))))))))))))))))))))))))))))))))))))))) else bif decide (n_16 < 0) then .nd (.tuple #[]) (.nd (.tuple #[]) (.nd (.tuple #[]) (.nd (.tuple #[]) (.nd (.bool (decide (n_16 < 0))) (.nd (.bool (decide (n_16 < 0))) (.nd (.int .i64 n_16) (.need (AV.pp 19 2 = AV.pp 19 2) (.need (AV.pp 19 2 = AV.pp 19 2) (.need (AV.val (.bool !b_2) = AV.val (.bool false)) (.nd (.bool !b_2) (.nd (.int .i64 (↑u_6n : Int)) (.nd (.slice u_6p u_6n u_6c) (.need (AV.pp 4 6 = AV.pp 4 6) (.need (AV.pp 19 1 = AV.pp 19 1) (.nd (.tuple #[]) (.nd (.tuple #[]) (.nd (.tuple #[]) (.nd (.tuple #[]) (.nd (.tuple #[]) (.nd (.tuple #[]) (.nd (.tuple #[]) (.nd (.tuple #[]) (.nd (.bool true) (.nd (.tuple #[]) (.nd (.tuple #[]) (.nd (.tuple #[]) (.nd (.tuple #[]) (.nd (.bool (decide (n_16 < 0))) (.nd (.bool (decide (n_16 < 0))) (.nd (.int .i64 n_16) (.need (AV.pp 19 2 = AV.pp 19 2) (.need (AV.pp 19 2 = AV.pp 19 2) (.need (AV.val (.bool !b_2) = AV.val (.bool false)) (.nd (.bool !b_2) (.nd (.int .i64 (↑u_6n : Int)) (.nd (.slice u_6p u_6n u_6c) (.need (AV.pp 4 6 = AV.pp 4 6) (.need (AV.pp 19 1 = AV.pp 19 1) (.nd (.tuple #[]) (.nd (.tuple #[]) (.nd (.tuple #[]) (.nd (.tuple #[]) (.nd (.tuple #[]) (.nd (.tuple #[]) (.nd (.bool true) (.nd (.tuple #[]) (.nd (.tuple #[]) (.nd (.tuple #[]) (.nd (.tuple #[]) (.nd (.tuple #[]) (.nd (.tuple #[]) (.nd (.tuple #[]) (.nd (.tuple #[]) (.nd (.bool true) (.nd (.tuple #[]) (.nd (.tuple #[]) (.nd (.tuple #[]) (.nd (.tuple #[]) (.nd (.bool (decide (n_16 < 0))) (.nd (.bool (decide (n_16 < 0))) (.nd (.int .i64 n_16) (.need (AV.pp 19 2 = AV.pp 19 2) (.need (AV.pp 19 2 = AV.pp 19 2) (.need (AV.val (.bool !b_2) = AV.val (.bool false)) (.nd (.bool !b_2) (.nd (.int .i64 (↑u_6n : Int)) (.nd (.slice u_6p u_6n u_6c) (.need (AV.pp 4 6 = AV.pp 4 6) (.need (AV.pp 19 1 = AV.pp 19 1) (.nd (.tuple #[]) (.nd (.tuple #[]) (.nd (.tuple #[]) (.nd (.tuple #[]) (.nd (.tuple #[]) (.nd (.tuple #[]) (.nd (.bool true) (.nd (.tuple #[]) (.nd (.tuple #[]) (.nd (.tuple #[]) (.nd (.tuple #[]) (.nd (.tuple #[]) (.nd (.tuple #[]) (.nd (.bool true) (.nd (.tuple #[]) (.nd (.tuple #[]) (.nd (.tuple #[]) (.nd (.tuple #[]) (.nd (.tuple #[]) (.nd (.tuple #[]) (.nd (.tuple #[]) (.nd (.tuple #[]) (.nd (.bool true) (.nd (.tuple #[]) (.nd (.tuple #[]) (.nd (.tuple #[]) (.nd (.tuple #[]) (.nd (.bool (decide (n_16 < 0))) (.nd (.bool (decide (n_16 < 0))) (.nd (.int .i64 n_16) (.need (AV.pp 19 2 = AV.pp 19 2) (.need (AV.pp 19 2 = AV.pp 19 2) (.need (AV.val (.bool !b_2) = AV.val (.bool false)) (.nd (.bool !b_2) (.nd (.int .i64 (↑u_6n : Int)) (.nd (.slice u_6p u_6n u_6c) (.need (AV.pp 4 6 = AV.pp 4 6) (.need (AV.pp 19 1 = AV.pp 19 1) (.nd (.tuple #[]) (.nd (.tuple #[]) (.nd (.tuple #[]) (.nd (.tuple #[]) (.nd (.tuple #[]) (.nd (.tuple #[]) (.nd (.tuple #[]) (.nd (.bool true) (.nd (.tuple #[]) (.nd (.tuple #[]) (.nd (.tuple #[]) (.nd (.tuple #[]) (.nd (.tuple #[]) (.nd (.tuple #[]) (.nd (.bool true) (.nd (.tuple #[]) (.nd (.tuple #[]) (.nd (.tuple #[]) (.nd (.tuple #[]) (.nd (.tuple #[]) (.nd (.tuple #[]) (.nd (.bool true) (.nd (.tuple #[]) (.nd (.tuple #[]) (.nd (.tuple #[]) (.nd (.tuple #[]) (.nd (.tuple #[]) (.nd (.tuple #[]) (.nd (.tuple #[]) (.nd (.tuple #[]) (.nd (.bool true) (.nd (.tuple #[]) (.nd (.tuple #[]) (.nd (.tuple #[]) (.nd (.tuple #[]) (.nd (.bool (decide (n_16 < 0))) (.nd (.bool (decide (n_16 < 0))) (.nd (.int .i64 n_16) (.need (AV.pp 19 2 = AV.pp 19 2) (.need (AV.pp 19 2 = AV.pp 19 2) (.need (AV.val (.bool !b_2) = AV.val (.bool false)) (.nd (.bool !b_2) (.nd (.int .i64 (↑u_6n : Int)) (.nd (.slice u_6p u_6n u_6c) (.need (AV.pp 4 6 = AV.pp 4 6) (.need (AV.pp 19 1 = AV.pp 19 1) (.nd (.tuple #[]) (.nd (.tuple #[]) (.nd (.tuple #[]) (.nd (.tuple #[]) (.nd (.tuple #[]) (.nd (.tuple #[]) (.nd (.tuple #[]) (.nd (.bool true) (.nd (.tuple #[]) (.nd (.tuple #[]) (.nd (.tuple #[]) (.nd (.tuple #[]) (.nd (.tuple #[]) (.nd (.tuple #[]) (.nd (.bool true) (.nd (.tuple #[]) (.nd (.tuple #[]) (.nd (.tuple #[]) (.nd (.tuple #[]) (.nd (.tuple #[]) (.nd (.tuple #[]) (.nd (.bool true) (.nd (.tuple #[]) (.nd (.tuple #[]) (.nd (.tuple #[]) (.nd (.tuple #[]) (.nd (.tuple #[]) (.nd (.tuple #[]) (.nd (.tuple #[]) (.nd (.tuple #[]) (.nd (.bool true) (.nd (.tuple #[]) (.nd (.tuple #[]) (.nd (.tuple #[]) (.nd (.tuple #[]) (.nd (.bool (decide (n_16 < 0))) (.nd (.bool (decide (n_16 < 0))) (.nd (.int .i64 n_16) (.need (AV.pp 19 2 = AV.pp 19 2) (.need (AV.pp 19 2 = AV.pp 19 2) (.need (AV.val (.bool !b_2) = AV.val (.bool false)) (.nd (.bool !b_2) (.nd (.int .i64 (↑u_6n : Int)) (.nd (.slice u_6p u_6n u_6c) (.need (AV.pp 4 6 = AV.pp 4 6) (.need (AV.pp 19 1 = AV.pp 19 1) (.leaf (.retn [.bool false]))))))))))))))))))))))))))))))))))))))))))))))))))))))))))))))))))))))))))))))))))))))))))))))))))))))))))))))))))))))))))))))))))))))))))))))))))))))))))))))))))))))))))))))))))))))))))))))))))))))))) else bif decide (n_16 > n_17) then .nd (.tuple #[]) (.nd (.tuple #[]) (.nd (.tuple #[]) (.nd (.tuple #[]) (.nd (.tuple #[]) (.nd (.tuple #[]) (.nd (.tuple #[]) (.nd (.tuple #[]) (.nd (.bool (decide (n_16 > n_17))) (.nd (.bool (decide (n_16 > n_17))) (.nd (.int .i64 n_17) (.need (AV.pp 19 3 = AV.pp 19 3) (.need (AV.pp 19 2 = AV.pp 19 2) (.nd (.int .i64 n_16) (.need (AV.pp 19 2 = AV.pp 19 2) (.need (AV.pp 19 2 = AV.pp 19 2) (.need (AV.val (.bool (decide (n_16 < 0))) = AV.val (.bool false)) (.nd (.bool (decide (n_16 < 0))) (.nd (.bool (decide (n_16 < 0))) (.nd (.int .i64 n_16) (.need (AV.pp 19 2 = AV.pp 19 2) (.need (AV.pp 19 2 = AV.pp 19 2) (.need (AV.val (.bool !b_2) = AV.val (.bool false)) (.nd (.bool !b_2) (.nd (.int .i64 (↑u_6n : Int)) (.nd (.slice u_6p u_6n u_6c) (.need (AV.pp 4 6 = AV.pp 4 6) (.need (AV.pp 19 1 = AV.pp 19 1) (.nd (.tuple #[]) (.nd (.tuple #[]) (.nd (.tuple #[]) (.nd (.tuple #[]) (.nd (.tuple #[]) (.nd (.tuple #[]) (.nd (.bool true) (.nd (.tuple #[]) (.nd (.tuple #[]) (.nd (.tuple #[]) (.nd (.tuple #[]) (.nd (.tuple #[]) (.nd (.tuple #[]) (.nd (.tuple #[]) (.nd (.tuple #[]) (.nd (.bool (decide (n_16 > n_17))) (.nd (.bool (decide (n_16 > n_17))) (.nd (.int .i64 n_17) (.need (AV.pp 19 3 = AV.pp 19 3) (.need (AV.pp 19 2 = AV.pp 19 2) (.nd (.int .i64 n_16) (.need (AV.pp 19 2 = AV.pp 19 2) (.need (AV.pp 19 2 = AV.pp 19 2) (.need (AV.val (.bool (decide (n_16 < 0))) = AV.val (.bool false)) (.nd (.bool (decide (n_16 < 0))) (.nd (.bool (decide (n_16 < 0))) (.nd (.int .i64 n_16) (.need (AV.pp 19 2 = AV.pp 19 2) (.need (AV.pp 19 2 = AV.pp 19 2) (.need (AV.val (.bool !b_2) = AV.val (.bool false)) (.nd (.bool !b_2) (.nd (.int .i64 (↑u_6n : Int)) (.nd (.slice u_6p u_6n u_6c) (.need (AV.pp 4 6 = AV.pp 4 6) (.need (AV.pp 19 1 = AV.pp 19 1) (.nd (.tuple #[]) (.nd (.tuple #[]) (.nd (.tuple #[]) (.nd (.tuple #[]) (.nd (.tuple #[]) (.nd (.tuple #[]) (.nd (.bool true) (.nd (.tuple #[]) (.nd (.tuple #[]) (.nd (.tuple #[]) (.nd (.tuple #[]) (.nd (.tuple #[]) (.nd (.tuple #[]) (.nd (.bool true) (.nd (.tuple #[]) (.nd (.tuple #[]) (.nd (.tuple #[]) (.nd (.tuple #[]) (.nd (.tuple #[]) (.nd (.tuple #[]) (.nd (.tuple #[]) (.nd (.tuple #[]) (.nd (.bool (decide (n_16 > n_17))) (.nd (.bool (decide (n_16 > n_17))) (.nd (.int .i64 n_17) (.need (AV.pp 19 3 = AV.pp 19 3) (.need (AV.pp 19 2 = AV.pp 19 2) (.nd (.int .i64 n_16) (.need (AV.pp 19 2 = AV.pp 19 2) (.need (AV.pp 19 2 = AV.pp 19 2) (.need (AV.val (.bool (decide (n_16 < 0))) = AV.val (.bool false)) (.nd (.bool (decide (n_16 < 0))) (.nd (.bool (decide (n_16 < 0))) (.nd (.int .i64 n_16) (.need (AV.pp 19 2 = AV.pp 19 2) (.need (AV.pp 19 2 = AV.pp 19 2) (.need (AV.val (.bool !b_2) = AV.val (.bool false)) (.nd (.bool !b_2) (.nd (.int .i64 (↑u_6n : Int)) (.nd (.slice u_6p u_6n u_6c) (.need (AV.pp 4 6 = AV.pp 4 6) (.need (AV.pp 19 1 = AV.pp 19 1) (.nd (.tuple #[]) (.nd (.tuple #[]) (.nd (.tuple #[]) (.nd (.tuple #[]) (.nd (.tuple #[]) (.nd (.tuple #[]) (.nd (.tuple #[]) (.nd (.bool true) (.nd (.tuple #[]) (.nd (.tuple #[]) (.nd (.tuple #[]) (.nd (.tuple #[]) (.nd (.tuple #[]) (.nd (.tuple #[]) (.nd (.bool true) (.nd (.tuple #[]) (.nd (.tuple #[]) (.nd (.tuple #[]) (.nd (.tuple #[]) (.nd (.tuple #[]) (.nd (.tuple #[]) (.nd (.bool true) (.nd (.tuple #[]) (.nd (.tuple #[]) (.nd (.tuple #[]) (.nd (.tuple #[]) (.nd (.tuple #[]) (.nd (.tuple #[]) (.nd (.tuple #[]) (.nd (.tuple #[]) (.nd (.bool (decide (n_16 > n_17))) (.nd (.bool (decide (n_16 > n_17))) (.nd (.int .i64 n_17) (.need (AV.pp 19 3 = AV.pp 19 3) (.need (AV.pp 19 2 = AV.pp 19 2) (.nd (.int .i64 n_16) (.need (AV.pp 19 2 = AV.pp 19 2) (.need (AV.pp 19 2 = AV.pp 19 2) (.need (AV.val (.bool (decide (n_16 < 0))) = AV.val (.bool false)) (.nd (.bool (decide (n_16 < 0))) (.nd (.bool (decide (n_16 < 0))) (.nd (.int .i64 n_16) (.need (AV.pp 19 2 = AV.pp 19 2) (.need (AV.pp 19 2 = AV.pp 19 2) (.need (AV.val (.bool !b_2) = AV.val (.bool false)) (.nd (.bool !b_2) (.nd (.int .i64 (↑u_6n : Int)) (.nd (.slice u_6p u_6n u_6c) (.need (AV.pp 4 6 = AV.pp 4 6) (.need (AV.pp 19 1 = AV.pp 19 1) (.nd (.tuple #[]) (.nd (.tuple #[]) (.nd (.tuple #[]) (.nd (.tuple #[]) (.nd (.tuple #[]) (.nd (.tuple #[]) (.nd (.tuple #[]) (.nd (.bool true) (.nd (.tuple #[]) (.nd (.tuple #[]) (.nd (.tuple #[]) (.nd (.tuple #[]) (.nd (.tuple #[]) (.nd (.tuple #[]) (.nd (.bool true) (.nd (.tuple #[]) (.nd (.tuple #[]) (.nd (.tuple #[]) (.nd (.tuple #[]) (.nd (.tuple #[]) (.nd (.tuple #[]) (.nd (.bool true) (.nd (.tuple #[]) (.nd (.tuple #[]) (.nd (.tuple #[]) (.nd (.tuple #[]) (.nd (.tuple #[]) (.nd (.tuple #[]) (.nd (.tuple #[]) (.nd (.tuple #[]) (.nd (.bool (decide (n_16 > n_17))) (.nd (.bool (decide (n_16 > n_17))) (.nd (.int .i64 n_17) (.need (AV.pp 19 3 = AV.pp 19 3) (.need (AV.pp 19 2 = AV.pp 19 2) (.nd (.int .i64 n_16) (.need (AV.pp 19 2 = AV.pp 19 2) (.need (AV.pp 19 2 = AV.pp 19 2) (.need (AV.val (.bool (decide (n_16 < 0))) = AV.val (.bool false)) (.nd (.bool (decide (n_16 < 0))) (.nd (.bool (decide (n_16 < 0))) (.nd (.int .i64 n_16) (.need (AV.pp 19 2 = AV.pp 19 2) (.need (AV.pp 19 2 = AV.pp 19 2) (.need (AV.val (.bool !b_2) = AV.val (.bool false)) (.nd (.bool !b_2) (.nd (.int .i64 (↑u_6n : Int)) (.nd (.slice u_6p u_6n u_6c) (.need (AV.pp 4 6 = AV.pp 4 6) (.need (AV.pp 19 1 = AV.pp 19 1) (.leaf (.retn [.bool false])))))))))))))))))))))))))))))))))))))))))))))))))))))))))))))))))))))))))))))))))))))))))))))))))))))))))))))))))))))))))))))))))))))))))))))))))))))))))))))))))))))))))))))))))))))))))))))))))))))))))))))) else .need (0 ≤ n_15 ∧ n_15 < (↑u_6n : Int)) (.someA u_6p fun a => .loadI .i64 (Addr.add (Addr.add a (Int.toNat n_15 * 3)) 0) fun n_18 => bif n_17 != n_18 then .nd (.tuple #[]) (.nd (.tuple #[]) (.nd (.tuple #[]) (.nd (.tuple #[]) (.nd (.tuple #[]) (.nd (.tuple #[]) (.nd (.bool (n_17 != n_18)) (.nd (.bool (n_17 != n_18)) (.loadI .i64 (Addr.add (Addr.add a (Int.toNat n_15 * 3)) 0) fun n => .need (AV.val (.int .i64 n) = AV.val (.int .i64 n_18)) (.nd (.pointer (some (Addr.add (Addr.add a (Int.toNat n_15 * 3)) 0))) (.need (0 ≤ n_15 ∧ n_15 < (↑u_6n : Int)) (.someA u_6p fun a_5 => .need (AV.val (.pointer (some (Addr.add a_5 (Int.toNat n_15 * 3)))) = AV.val (.pointer (some (Addr.add a (Int.toNat n_15 * 3))))) (.nd (.int .i64 n_15) (.need (AV.pp 19 1 = AV.pp 19 1) (.nd (.slice u_6p u_6n u_6c) (.need (AV.pp 4 6 = AV.pp 4 6) (.nd (.int .i64 n_17) (.need (AV.pp 19 3 = AV.pp 19 3) (.need (AV.pp 19 2 = AV.pp 19 2) (.need (AV.val (.bool (decide (n_16 > n_17))) = AV.val (.bool false)) (.nd (.bool (decide (n_16 > n_17))) (.nd (.bool (decide (n_16 > n_17))) (.nd (.int .i64 n_17) (.need (AV.pp 19 3 = AV.pp 19 3) (.need (AV.pp 19 2 = AV.pp 19 2) (.nd (.int .i64 n_16) (.need (AV.pp 19 2 = AV.pp 19 2) (.need (AV.pp 19 2 = AV.pp 19 2) (.need (AV.val (.bool (decide (n_16 < 0))) = AV.val (.bool false)) (.nd (.bool (decide (n_16 < 0))) (.nd (.bool (decide (n_16 < 0))) (.nd (.int .i64 n_16) (.need (AV.pp 19 2 = AV.pp 19 2) (.need (AV.pp 19 2 = AV.pp 19 2) (.need (AV.val (.bool !b_2) = AV.val (.bool false)) (.nd (.bool !b_2) (.nd (.int .i64 (↑u_6n : Int)) (.nd (.slice u_6p u_6n u_6c) (.need (AV.pp 4 6 = AV.pp 4 6) (.need (AV.pp 19 1 = AV.pp 19 1) (.nd (.tuple #[]) (.nd (.tuple #[]) (.nd (.tuple #[]) (.nd (.tuple #[]) (.nd (.tuple #[]) (.nd (.tuple #[]) (.nd (.bool true) (.nd (.tuple #[]) (.nd (.tuple #[]) (.nd (.tuple #[]) (.nd (.tuple #[]) (.nd (.tuple #[]) (.nd (.tuple #[]) (.nd (.bool (n_17 != n_18)) (.nd (.bool (n_17 != n_18)) (.loadI .i64 (Addr.add (Addr.add a (Int.toNat n_15 * 3)) 0) fun n => .need (AV.val (.int .i64 n) = AV.val (.int .i64 n_18)) (.nd (.pointer (some (Addr.add (Addr.add a (Int.toNat n_15 * 3)) 0))) (.need (0 ≤ n_15 ∧ n_15 < (↑u_6n : Int)) (.someA u_6p fun a_6 => .need (AV.val (.pointer (some (Addr.add a_6 (Int.toNat n_15 * 3)))) = AV.val (.pointer (some (Addr.add a (Int.toNat n_15 * 3))))) (.nd (.int .i64 n_15) (.need (AV.pp 19 1 = AV.pp 19 1) (.nd (.slice u_6p u_6n u_6c) (.need (AV.pp 4 6 = AV.pp 4 6) (.nd (.int .i64 n_17) (.need (AV.pp 19 3 = AV.pp 19 3) (.need (AV.pp 19 2 = AV.pp 19 2) (.need (AV.val (.bool (decide (n_16 > n_17))) = AV.val (.bool false)) (.nd (.bool (decide (n_16 > n_17))) (.nd (.bool (decide (n_16 > n_17))) (.nd (.int .i64 n_17) (.need (AV.pp 19 3 = AV.pp 19 3) (.need (AV.pp 19 2 = AV.pp 19 2) (.nd (.int .i64 n_16) (.need (AV.pp 19 2 = AV.pp 19 2) (.need (AV.pp 19 2 = AV.pp 19 2) (.need (AV.val (.bool (decide (n_16 < 0))) = AV.val (.bool false)) (.nd (.bool (decide (n_16 < 0))) (.nd (.bool (decide (n_16 < 0))) (.nd (.int .i64 n_16) (.need (AV.pp 19 2 = AV.pp 19 2) (.need (AV.pp 19 2 = AV.pp 19 2) (.need (AV.val (.bool !b_2) = AV.val (.bool false)) (.nd (.bool !b_2) (.nd (.int .i64 (↑u_6n : Int)) (.nd (.slice u_6p u_6n u_6c) (.need (AV.pp 4 6 = AV.pp 4 6) (.need (AV.pp 19 1 = AV.pp 19 1) (.nd (.tuple #[]) (.nd (.tuple #[]) (.nd (.tuple #[]) (.nd (.tuple #[]) (.nd (.tuple #[]) (.nd (.tuple #[]) (.nd (.tuple #[]) (.nd (.bool true) (.nd (.tuple #[]) (.nd (.tuple #[]) (.nd (.tuple #[]) (.nd (.tuple #[]) (.nd (.tuple #[]) (.nd (.tuple #[]) (.nd (.bool true) (.nd (.tuple #[]) (.nd (.tuple #[]) (.nd (.tuple #[]) (.nd (.tuple #[]) (.nd (.tuple #[]) (.nd (.tuple #[]) (.nd (.bool (n_17 != n_18)) (.nd (.bool (n_17 != n_18)) (.loadI .i64 (Addr.add (Addr.add a (Int.toNat n_15 * 3)) 0) fun n => .need (AV.val (.int .i64 n) = AV.val (.int .i64 n_18)) (.nd (.pointer (some (Addr.add (Addr.add a (Int.toNat n_15 * 3)) 0))) (.need (0 ≤ n_15 ∧ n_15 < (↑u_6n : Int)) (.someA u_6p fun a_7 => .need (AV.val (.pointer (some (Addr.add a_7 (Int.toNat n_15 * 3)))) = AV.val (.pointer (some (Addr.add a (Int.toNat n_15 * 3))))) (.nd (.int .i64 n_15) (.need (AV.pp 19 1 = AV.pp 19 1) (.nd (.slice u_6p u_6n u_6c) (.need (AV.pp 4 6 = AV.pp 4 6) (.nd (.int .i64 n_17) (.need (AV.pp 19 3 = AV.pp 19 3) (.need (AV.pp 19 2 = AV.pp 19 2) (.need (AV.val (.bool (decide (n_16 > n_17))) = AV.val (.bool false)) (.nd (.bool (decide (n_16 > n_17))) (.nd (.bool (decide (n_16 > n_17))) (.nd (.int .i64 n_17) (.need (AV.pp 19 3 = AV.pp 19 3) (.need (AV.pp 19 2 = AV.pp 19 2) (.nd (.int .i64 n_16) (.need (AV.pp 19 2 = AV.pp 19 2) (.need (AV.pp 19 2 = AV.pp 19 2) (.need (AV.val (.bool (decide (n_16 < 0))) = AV.val (.bool false)) (.nd (.bool (decide (n_16 < 0))) (.nd (.bool (decide (n_16 < 0))) (.nd (.int .i64 n_16) (.need (AV.pp 19 2 = AV.pp 19 2) (.need (AV.pp 19 2 = AV.pp 19 2) (.need (AV.val (.bool !b_2) = AV.val (.bool false)) (.nd (.bool !b_2) (.nd (.int .i64 (↑u_6n : Int)) (.nd (.slice u_6p u_6n u_6c) (.need (AV.pp 4 6 = AV.pp 4 6) (.need (AV.pp 19 1 = AV.pp 19 1) (.nd (.tuple #[]) (.nd (.tuple #[]) (.nd (.tuple #[]) (.nd (.tuple #[]) (.nd (.tuple #[]) (.nd (.tuple #[]) (.nd (.tuple #[]) (.nd (.bool true) (.nd (.tuple #[]) (.nd (.tuple #[]) (.nd (.tuple #[]) (.nd (.tuple #[]) (.nd (.tuple #[]) (.nd (.tuple #[]) (.nd (.bool true) (.nd (.tuple #[]) (.nd (.tuple #[]) (.nd (.tuple #[]) (.nd (.tuple #[]) (.nd (.tuple #[]) (.nd (.tuple #[]) (.nd (.bool (n_17 != n_18)) (.nd (.bool (n_17 != n_18)) (.loadI .i64 (Addr.add (Addr.add a (Int.toNat n_15 * 3)) 0) fun n => .need (AV.val (.int .i64 n) = AV.val (.int .i64 n_18)) (.nd (.pointer (some (Addr.add (Addr.add a (Int.toNat n_15 * 3)) 0))) (.need (0 ≤ n_15 ∧ n_15 < (↑u_6n : Int)) (.someA u_6p fun a_8 => .need (AV.val (.pointer (some (Addr.add a_8 (Int.toNat n_15 * 3)))) = AV.val (.pointer (some (Addr.add a (Int.toNat n_15 * 3))))) (.nd (.int .i64 n_15) (.need (AV.pp 19 1 = AV.pp 19 1) (.nd (.slice u_6p u_6n u_6c) (.need (AV.pp 4 6 = AV.pp 4 6) (.nd (.int .i64 n_17) (.need (AV.pp 19 3 = AV.pp 19 3) (.need (AV.pp 19 2 = AV.pp 19 2) (.need (AV.val (.bool (decide (n_16 > n_17))) = AV.val (.bool false)) (.nd (.bool (decide (n_16 > n_17))) (.nd (.bool (decide (n_16 > n_17))) (.nd (.int .i64 n_17) (.need (AV.pp 19 3 = AV.pp 19 3) (.need (AV.pp 19 2 = AV.pp 19 2) (.nd (.int .i64 n_16) (.need (AV.pp 19 2 = AV.pp 19 2) (.need (AV.pp 19 2 = AV.pp 19 2) (.need (AV.val (.bool (decide (n_16 < 0))) = AV.val (.bool false)) (.nd (.bool (decide (n_16 < 0))) (.nd (.bool (decide (n_16 < 0))) (.nd (.int .i64 n_16) (.need (AV.pp 19 2 = AV.pp 19 2) (.need (AV.pp 19 2 = AV.pp 19 2) (.need (AV.val (.bool !b_2) = AV.val (.bool false)) (.nd (.bool !b_2) (.nd (.int .i64 (↑u_6n : Int)) (.nd (.slice u_6p u_6n u_6c) (.need (AV.pp 4 6 = AV.pp 4 6) (.need (AV.pp 19 1 = AV.pp 19 1) (.leaf (.retn [.bool false])))))))))))))))))))))))))))))))))))))))))))))))))))))))))))))))))))))))))))))))))))))))))))))))))))))))))))))))))))))))))))))))))))))))))))))))))))))))))))))))))))))))))))))))))))))))))))))))))))))) else .need (0 ≤ n_15 ∧ n_15 < (↑u_6n : Int)) (.someA u_6p fun a_5 => .loadI .i64 (Addr.add (Addr.add a_5 (Int.toNat n_15 * 3)) 1) fun n_19 => bif n_19 != Int.tmod (IntKind.wrap .i64 land) u_1 then .nd (.tuple #[]) (.nd (.tuple #[]) (.nd (.tuple #[]) (.nd (.tuple #[]) (.nd (.tuple #[]) (.nd (.tuple #[]) (.nd (.bool (n_19 != Int.tmod (IntKind.wrap .i64 land) u_1)) (.nd (.bool (n_19 != Int.tmod (IntKind.wrap .i64 land) u_1)) (.nd (.int .i64 (Int.tmod (IntKind.wrap .i64 land) u_1)) (.loadI .i64 (Addr.add (Addr.add a_5 (Int.toNat n_15 * 3)) 1) fun n => .need (AV.val (.int .i64 n) = AV.val (.int .i64 n_19)) (.nd (.pointer (some (Addr.add (Addr.add a_5 (Int.toNat n_15 * 3)) 1))) (.need (0 ≤ n_15 ∧ n_15 < (↑u_6n : Int)) (.someA u_6p fun a_6 => .need (AV.val (.pointer (some (Addr.add a_6 (Int.toNat n_15 * 3)))) = AV.val (.pointer (some (Addr.add a_5 (Int.toNat n_15 * 3))))) (.nd (.int .i64 n_15) (.need (AV.pp 19 1 = AV.pp 19 1) (.nd (.slice u_6p u_6n u_6c) (.need (AV.pp 4 6 = AV.pp 4 6) (.need (AV.val (.bool (n_17 != n_18)) = AV.val (.bool false)) (.nd (.bool (n_17 != n_18)) (.nd (.bool (n_17 != n_18)) (.loadI .i64 (Addr.add (Addr.add a (Int.toNat n_15 * 3)) 0) fun n => .need (AV.val (.int .i64 n) = AV.val (.int .i64 n_18)) (.nd (.pointer (some (Addr.add (Addr.add a (Int.toNat n_15 * 3)) 0))) (.need (0 ≤ n_15 ∧ n_15 < (↑u_6n : Int)) (.someA u_6p fun a_7 => .need (AV.val (.pointer (some (Addr.add a_7 (Int.toNat n_15 * 3)))) = AV.val (.pointer (some (Addr.add a (Int.toNat n_15 * 3))))) (.nd (.int .i64 n_15) (.need (AV.pp 19 1 = AV.pp 19 1) (.nd (.slice u_6p u_6n u_6c) (.need (AV.pp 4 6 = AV.pp 4 6) (.nd (.int .i64 n_17) (.need (AV.pp 19 3 = AV.pp 19 3) (.need (AV.pp 19 2 = AV.pp 19 2) (.need (AV.val (.bool (decide (n_16 > n_17))) = AV.val (.bool false)) (.nd (.bool (decide (n_16 > n_17))) (.nd (.bool (decide (n_16 > n_17))) (.nd (.int .i64 n_17) (.need (AV.pp 19 3 = AV.pp 19 3) (.need (AV.pp 19 2 = AV.pp 19 2) (.nd (.int .i64 n_16) (.need (AV.pp 19 2 = AV.pp 19 2) (.need (AV.pp 19 2 = AV.pp 19 2) (.need (AV.val (.bool (decide (n_16 < 0))) = AV.val (.bool false)) (.nd (.bool (decide (n_16 < 0))) (.nd (.bool (decide (n_16 < 0))) (.nd (.int .i64 n_16) (.need (AV.pp 19 2 = AV.pp 19 2) (.need (AV.pp 19 2 = AV.pp 19 2) (.need (AV.val (.bool !b_2) = AV.val (.bool false)) (.nd (.bool !b_2) (.nd (.int .i64 (↑u_6n : Int)) (.nd (.slice u_6p u_6n u_6c) (.need (AV.pp 4 6 = AV.pp 4 6) (.need (AV.pp 19 1 = AV.pp 19 1) (.nd (.tuple #[]) (.nd (.tuple #[]) (.nd (.tuple #[]) (.nd (.tuple #[]) (.nd (.tuple #[]) (.nd (.tuple #[]) (.nd (.tuple #[]) (.nd (.bool true) (.nd (.tuple #[]) (.nd (.tuple #[]) (.nd (.tuple #[]) (.nd (.tuple #[]) (.nd (.tuple #[]) (.nd (.tuple #[]) (.nd (.bool (n_19 != Int.tmod (IntKind.wrap .i64 land) u_1)) (.nd (.bool (n_19 != Int.tmod (IntKind.wrap .i64 land) u_1)) (.nd (.int .i64 (Int.tmod (IntKind.wrap .i64 land) u_1)) (.loadI .i64 (Addr.add (Addr.add a_5 (Int.toNat n_15 * 3)) 1) fun n => .need (AV.val (.int .i64 n) = AV.val (.int .i64 n_19)) (.nd (.pointer (some (Addr.add (Addr.add a_5 (Int.toNat n_15 * 3)) 1))) (.need (0 ≤ n_15 ∧ n_15 < (↑u_6n : Int)) (.someA u_6p fun a_8 => .need (AV.val (.pointer (some (Addr.add a_8 (Int.toNat n_15 * 3)))) = AV.val (.pointer (some (Addr.add a_5 (Int.toNat n_15 * 3))))) (.nd (.int .i64 n_15) (.need (AV.pp 19 1 = AV.pp 19 1) (.nd (.slice u_6p u_6n u_6c) (.need (AV.pp 4 6 = AV.pp 4 6) (.need (AV.val (.bool (n_17 != n_18)) = AV.val (.bool false)) (.nd (.bool (n_17 != n_18)) (.nd (.bool (n_17 != n_18)) (.loadI .i64 (Addr.add (Addr.add a (Int.toNat n_15 * 3)) 0) fun n => .need (AV.val (.int .i64 n) = AV.val (.int .i64 n_18)) (.nd (.pointer (some (Addr.add (Addr.add a (Int.toNat n_15 * 3)) 0))) (.need (0 ≤ n_15 ∧ n_15 < (↑u_6n : Int)) (.someA u_6p fun a_9 => .need (AV.val (.pointer (some (Addr.add a_9 (Int.toNat n_15 * 3)))) = AV.val (.pointer (some (Addr.add a (Int.toNat n_15 * 3))))) (.nd (.int .i64 n_15) (.need (AV.pp 19 1 = AV.pp 19 1) (.nd (.slice u_6p u_6n u_6c) (.need (AV.pp 4 6 = AV.pp 4 6) (.nd (.int .i64 n_17) (.need (AV.pp 19 3 = AV.pp 19 3) (.need (AV.pp 19 2 = AV.pp 19 2) (.need (AV.val (.bool (decide (n_16 > n_17))) = AV.val (.bool false)) (.nd (.bool (decide (n_16 > n_17))) (.nd (.bool (decide (n_16 > n_17))) (.nd (.int .i64 n_17) (.need (AV.pp 19 3 = AV.pp 19 3) (.need (AV.pp 19 2 = AV.pp 19 2) (.nd (.int .i64 n_16) (.need (AV.pp 19 2 = AV.pp 19 2) (.need (AV.pp 19 2 = AV.pp 19 2) (.need (AV.val (.bool (decide (n_16 < 0))) = AV.val (.bool false)) (.nd (.bool (decide (n_16 < 0))) (.nd (.bool (decide (n_16 < 0))) (.nd (.int .i64 n_16) (.need (AV.pp 19 2 = AV.pp 19 2) (.need (AV.pp 19 2 = AV.pp 19 2) (.need (AV.val (.bool !b_2) = AV.val (.bool false)) (.nd (.bool !b_2) (.nd (.int .i64 (↑u_6n : Int)) (.nd (.slice u_6p u_6n u_6c) (.need (AV.pp 4 6 = AV.pp 4 6) (.need (AV.pp 19 1 = AV.pp 19 1) (.nd (.tuple #[]) (.nd (.tuple #[]) (.nd (.tuple #[]) (.nd (.tuple #[]) (.nd (.tuple #[]) (.nd (.tuple #[]) (.nd (.tuple #[]) (.nd (.bool true) (.nd (.tuple #[]) (.nd (.tuple #[]) (.nd (.tuple #[]) (.nd (.tuple #[]) (.nd (.tuple #[]) (.nd (.tuple #[]) (.nd (.bool (n_19 != Int.tmod (IntKind.wrap .i64 land) u_1)) (.nd (.bool (n_19 != Int.tmod (IntKind.wrap .i64 land) u_1)) (.nd (.int .i64 (Int.tmod (IntKind.wrap .i64 land) u_1)) (.loadI .i64 (Addr.add (Addr.add a_5 (Int.toNat n_15 * 3)) 1) fun n => .need (AV.val (.int .i64 n) = AV.val (.int .i64 n_19)) (.nd (.pointer (some (Addr.add (Addr.add a_5 (Int.toNat n_15 * 3)) 1))) (.need (0 ≤ n_15 ∧ n_15 < (↑u_6n : Int)) (.someA u_6p fun a_10 => .need (AV.val (.pointer (some (Addr.add a_10 (Int.toNat n_15 * 3)))) = AV.val (.pointer (some (Addr.add a_5 (Int.toNat n_15 * 3))))) (.nd (.int .i64 n_15) (.need (AV.pp 19 1 = AV.pp 19 1) (.nd (.slice u_6p u_6n u_6c) (.need (AV.pp 4 6 = AV.pp 4 6) (.need (AV.val (.bool (n_17 != n_18)) = AV.val (.bool false)) (.nd (.bool (n_17 != n_18)) (.nd (.bool (n_17 != n_18)) (.loadI .i64 (Addr.add (Addr.add a (Int.toNat n_15 * 3)) 0) fun n => .need (AV.val (.int .i64 n) = AV.val (.int .i64 n_18)) (.nd (.pointer (some (Addr.add (Addr.add a (Int.toNat n_15 * 3)) 0))) (.need (0 ≤ n_15 ∧ n_15 < (↑u_6n : Int)) (.someA u_6p fun a_11 => .need (AV.val (.pointer (some (Addr.add a_11 (Int.toNat n_15 * 3)))) = AV.val (.pointer (some (Addr.add a (Int.toNat n_15 * 3))))) (.nd (.int .i64 n_15) (.need (AV.pp 19 1 = AV.pp 19 1) (.nd (.slice u_6p u_6n u_6c) (.need (AV.pp 4 6 = AV.pp 4 6) (.nd (.int .i64 n_17) (.need (AV.pp 19 3 = AV.pp 19 3) (.need (AV.pp 19 2 = AV.pp 19 2) (.need (AV.val (.bool (decide (n_16 > n_17))) = AV.val (.bool false)) (.nd (.bool (decide (n_16 > n_17))) (.nd (.bool (decide (n_16 > n_17))) (.nd (.int .i64 n_17) (.need (AV.pp 19 3 = AV.pp 19 3) (.need (AV.pp 19 2 = AV.pp 19 2) (.nd (.int .i64 n_16) (.need (AV.pp 19 2 = AV.pp 19 2) (.need (AV.pp 19 2 = AV.pp 19 2) (.need (AV.val (.bool (decide (n_16 < 0))) = AV.val (.bool false)) (.nd (.bool (decide (n_16 < 0))) (.nd (.bool (decide (n_16 < 0))) (.nd (.int .i64 n_16) (.need (AV.pp 19 2 = AV.pp 19 2) (.need (AV.pp 19 2 = AV.pp 19 2) (.need (AV.val (.bool !b_2) = AV.val (.bool false)) (.nd (.bool !b_2) (.nd (.int .i64 (↑u_6n : Int)) (.nd (.slice u_6p u_6n u_6c) (.need (AV.pp 4 6 = AV.pp 4 6) (.need (AV.pp 19 1 = AV.pp 19 1) (.leaf (.retn [.bool false]))))))))))))))))))))))))))))))))))))))))))))))))))))))))))))))))))))))))))))))))))))))))))))))))))))))))))))))))))))))))))))))))))))))))))))))))))))))))))))))))))))))))))))) else .need (0 ≤ n_15 ∧ n_15 < (↑u_6n : Int)) (.someA u_6p fun a_6 => .loadI .i64 (Addr.add (Addr.add a_6 (Int.toNat n_15 * 3)) 0) fun n_20 => bif decide (n_20 > n) then .nd (.tuple #[]) (.nd (.tuple #[]) (.nd (.tuple #[]) (.nd (.tuple #[]) (.nd (.tuple #[]) (.nd (.tuple #[]) (.nd (.tuple #[]) (.nd (.bool (decide (n_20 > n))) (.nd (.bool (decide (n_20 > n))) (.nd (.int .i64 n) (.loadI .i64 (Addr.add (Addr.add a_6 (Int.toNat n_15 * 3)) 0) fun n_21 => .need (AV.val (.int .i64 n_21) = AV.val (.int .i64 n_20)) (.nd (.pointer (some (Addr.add (Addr.add a_6 (Int.toNat n_15 * 3)) 0))) (.need (0 ≤ n_15 ∧ n_15 < (↑u_6n : Int)) (.someA u_6p fun a_7 => .need (AV.val (.pointer (some (Addr.add a_7 (Int.toNat n_15 * 3)))) = AV.val (.pointer (some (Addr.add a_6 (Int.toNat n_15 * 3))))) (.nd (.int .i64 n_15) (.need (AV.pp 19 1 = AV.pp 19 1) (.nd (.slice u_6p u_6n u_6c) (.need (AV.pp 4 6 = AV.pp 4 6) (.need (AV.val (.bool (n_19 != Int.tmod (IntKind.wrap .i64 land) u_1)) = AV.val (.bool false)) (.nd (.bool (n_19 != Int.tmod (IntKind.wrap .i64 land) u_1)) (.nd (.bool (n_19 != Int.tmod (IntKind.wrap .i64 land) u_1)) (.nd (.int .i64 (Int.tmod (IntKind.wrap .i64 land) u_1)) (.loadI .i64 (Addr.add (Addr.add a_5 (Int.toNat n_15 * 3)) 1) fun n_22 => .need (AV.val (.int .i64 n_22) = AV.val (.int .i64 n_19)) (.nd (.pointer (some (Addr.add (Addr.add a_5 (Int.toNat n_15 * 3)) 1))) (.need (0 ≤ n_15 ∧ n_15 < (↑u_6n : Int)) (.someA u_6p fun a_8 => .need (AV.val (.pointer (some (Addr.add a_8 (Int.toNat n_15 * 3)))) = AV.val (.pointer (some (Addr.add a_5 (Int.toNat n_15 * 3))))) (.nd (.int .i64 n_15) (.need (AV.pp 19 1 = AV.pp 19 1) (.nd (.slice u_6p u_6n u_6c) (.need (AV.pp 4 6 = AV.pp 4 6) (.need (AV.val (.bool (n_17 != n_18)) = AV.val (.bool false)) (.nd (.bool (n_17 != n_18)) (.nd (.bool (n_17 != n_18)) (.loadI .i64 (Addr.add (Addr.add a (Int.toNat n_15 * 3)) 0) fun n_23 => .need (AV.val (.int .i64 n_23) = AV.val (.int .i64 n_18)) (.nd (.pointer (some (Addr.add (Addr.add a (Int.toNat n_15 * 3)) 0))) (.need (0 ≤ n_15 ∧ n_15 < (↑u_6n : Int)) (.someA u_6p fun a_9 => .need (AV.val (.pointer (some (Addr.add a_9 (Int.toNat n_15 * 3)))) = AV.val (.pointer (some (Addr.add a (Int.toNat n_15 * 3))))) (.nd (.int .i64 n_15) (.need (AV.pp 19 1 = AV.pp 19 1) (.nd (.slice u_6p u_6n u_6c) (.need (AV.pp 4 6 = AV.pp 4 6) (.nd (.int .i64 n_17) (.need (AV.pp 19 3 = AV.pp 19 3) (.need (AV.pp 19 2 = AV.pp 19 2) (.need (AV.val (.bool (decide (n_16 > n_17))) = AV.val (.bool false)) (.nd (.bool (decide (n_16 > n_17))) (.nd (.bool (decide (n_16 > n_17))) (.nd (.int .i64 n_17) (.need (AV.pp 19 3 = AV.pp 19 3) (.need (AV.pp 19 2 = AV.pp 19 2) (.nd (.int .i64 n_16) (.need (AV.pp 19 2 = AV.pp 19 2) (.need (AV.pp 19 2 = AV.pp 19 2) (.need (AV.val (.bool (decide (n_16 < 0))) = AV.val (.bool false)) (.nd (.bool (decide (n_16 < 0))) (.nd (.bool (decide (n_16 < 0))) (.nd (.int .i64 n_16) (.need (AV.pp 19 2 = AV.pp 19 2) (.need (AV.pp 19 2 = AV.pp 19 2) (.need (AV.val (.bool !b_2) = AV.val (.bool false)) (.nd (.bool !b_2) (.nd (.int .i64 (↑u_6n : Int)) (.nd (.slice u_6p u_6n u_6c) (.need (AV.pp 4 6 = AV.pp 4 6) (.need (AV.pp 19 1 = AV.pp 19 1) (.nd (.tuple #[]) (.nd (.tuple #[]) (.nd (.tuple #[]) (.nd (.tuple #[]) (.nd (.tuple #[]) (.nd (.tuple #[]) (.nd (.tuple #[]) (.nd (.bool (decide (n_20 > n))) (.nd (.bool (decide (n_20 > n))) (.nd (.int .i64 n) (.loadI .i64 (Addr.add (Addr.add a_6 (Int.toNat n_15 * 3)) 0) fun n => .need (AV.val (.int .i64 n) = AV.val (.int .i64 n_20)) (.nd (.pointer (some (Addr.add (Addr.add a_6 (Int.toNat n_15 * 3)) 0))) (.need (0 ≤ n_15 ∧ n_15 < (↑u_6n : Int)) (.someA u_6p fun a_10 => .need (AV.val (.pointer (some (Addr.add a_10 (Int.toNat n_15 * 3)))) = AV.val (.pointer (some (Addr.add a_6 (Int.toNat n_15 * 3))))) (.nd (.int .i64 n_15) (.need (AV.pp 19 1 = AV.pp 19 1) (.nd (.slice u_6p u_6n u_6c) (.need (AV.pp 4 6 = AV.pp 4 6) (.need (AV.val (.bool (n_19 != Int.tmod (IntKind.wrap .i64 land) u_1)) = AV.val (.bool false)) (.nd (.bool (n_19 != Int.tmod (IntKind.wrap .i64 land) u_1)) (.nd (.bool (n_19 != Int.tmod (IntKind.wrap .i64 land) u_1)) (.nd (.int .i64 (Int.tmod (IntKind.wrap .i64 land) u_1)) (.loadI .i64 (Addr.add (Addr.add a_5 (Int.toNat n_15 * 3)) 1) fun n => .need (AV.val (.int .i64 n) = AV.val (.int .i64 n_19)) (.nd (.pointer (some (Addr.add (Addr.add a_5 (Int.toNat n_15 * 3)) 1))) (.need (0 ≤ n_15 ∧ n_15 < (↑u_6n : Int)) (.someA u_6p fun a_11 => .need (AV.val (.pointer (some (Addr.add a_11 (Int.toNat n_15 * 3)))) = AV.val (.pointer (some (Addr.add a_5 (Int.toNat n_15 * 3))))) (.nd (.int .i64 n_15) (.need (AV.pp 19 1 = AV.pp 19 1) (.nd (.slice u_6p u_6n u_6c) (.need (AV.pp 4 6 = AV.pp 4 6) (.need (AV.val (.bool (n_17 != n_18)) = AV.val (.bool false)) (.nd (.bool (n_17 != n_18)) (.nd (.bool (n_17 != n_18)) (.loadI .i64 (Addr.add (Addr.add a (Int.toNat n_15 * 3)) 0) fun n => .need (AV.val (.int .i64 n) = AV.val (.int .i64 n_18)) (.nd (.pointer (some (Addr.add (Addr.add a (Int.toNat n_15 * 3)) 0))) (.need (0 ≤ n_15 ∧ n_15 < (↑u_6n : Int)) (.someA u_6p fun a_12 => .need (AV.val (.pointer (some (Addr.add a_12 (Int.toNat n_15 * 3)))) = AV.val (.pointer (some (Addr.add a (Int.toNat n_15 * 3))))) (.nd (.int .i64 n_15) (.need (AV.pp 19 1 = AV.pp 19 1) (.nd (.slice u_6p u_6n u_6c) (.need (AV.pp 4 6 = AV.pp 4 6) (.nd (.int .i64 n_17) (.need (AV.pp 19 3 = AV.pp 19 3) (.need (AV.pp 19 2 = AV.pp 19 2) (.need (AV.val (.bool (decide (n_16 > n_17))) = AV.val (.bool false)) (.nd (.bool (decide (n_16 > n_17))) (.nd (.bool (decide (n_16 > n_17))) (.nd (.int .i64 n_17) (.need (AV.pp 19 3 = AV.pp 19 3) (.need (AV.pp 19 2 = AV.pp 19 2) (.nd (.int .i64 n_16) (.need (AV.pp 19 2 = AV.pp 19 2) (.need (AV.pp 19 2 = AV.pp 19 2) (.need (AV.val (.bool (decide (n_16 < 0))) = AV.val (.bool false)) (.nd (.bool (decide (n_16 < 0))) (.nd (.bool (decide (n_16 < 0))) (.nd (.int .i64 n_16) (.need (AV.pp 19 2 = AV.pp 19 2) (.need (AV.pp 19 2 = AV.pp 19 2) (.need (AV.val (.bool !b_2) = AV.val (.bool false)) (.nd (.bool !b_2) (.nd (.int .i64 (↑u_6n : Int)) (.nd (.slice u_6p u_6n u_6c) (.need (AV.pp 4 6 = AV.pp 4 6) (.need (AV.pp 19 1 = AV.pp 19 1) (.leaf (.retn [.bool false]))))))))))))))))))))))))))))))))))))))))))))))))))))))))))))))))))))))))))))))))))))))))))))))))))))))))))))))))))))))))))))))))))) else .need (0 ≤ n_15 ∧ n_15 < (↑u_6n : Int)) (.someA u_6p fun a_7 => .loadS (Addr.add (Addr.add a_7 (Int.toNat n_15 * 3)) 2) fun p n_21 c => .call false 41 #[.slice p n_21 c, .int .i64 n_14] fun v => .unB v fun b_3 => .need (AV.pp 19 0 = AV.pp 19 0) (.nd (.pointer (some (Addr.add (Addr.add a_7 (Int.toNat n_15 * 3)) 2))) (.need (0 ≤ n_15 ∧ n_15 < (↑u_6n : Int)) (.someA u_6p fun a_8 => .need (AV.val (.pointer (some (Addr.add a_8 (Int.toNat n_15 * 3)))) = AV.val (.pointer (some (Addr.add a_7 (Int.toNat n_15 * 3))))) (.nd (.int .i64 n_15) (.need (AV.pp 19 1 = AV.pp 19 1) (.nd (.slice u_6p u_6n u_6c) (.need (AV.pp 4 6 = AV.pp 4 6) (.nd (.bool (decide (n_20 > n))) (.nd (.bool (decide (n_20 > n))) (.nd (.int .i64 n) (.loadI .i64 (Addr.add (Addr.add a_6 (Int.toNat n_15 * 3)) 0) fun n => .need (AV.val (.int .i64 n) = AV.val (.int .i64 n_20)) (.nd (.pointer (some (Addr.add (Addr.add a_6 (Int.toNat n_15 * 3)) 0))) (.need (0 ≤ n_15 ∧ n_15 < (↑u_6n : Int)) (.someA u_6p fun a_9 => .need (AV.val (.pointer (some (Addr.add a_9 (Int.toNat n_15 * 3)))) = AV.val (.pointer (some (Addr.add a_6 (Int.toNat n_15 * 3))))) (.nd (.int .i64 n_15) (.need (AV.pp 19 1 = AV.pp 19 1) (.nd (.slice u_6p u_6n u_6c) (.need (AV.pp 4 6 = AV.pp 4 6) (.need (AV.val (.bool (n_19 != Int.tmod (IntKind.wrap .i64 land) u_1)) = AV.val (.bool false)) (.nd (.bool (n_19 != Int.tmod (IntKind.wrap .i64 land) u_1)) (.nd (.bool (n_19 != Int.tmod (IntKind.wrap .i64 land) u_1)) (.nd (.int .i64 (Int.tmod (IntKind.wrap .i64 land) u_1)) (.loadI .i64 (Addr.add (Addr.add a_5 (Int.toNat n_15 * 3)) 1) fun n => .need (AV.val (.int .i64 n) = AV.val (.int .i64 n_19)) (.nd (.pointer (some (Addr.add (Addr.add a_5 (Int.toNat n_15 * 3)) 1))) (.need (0 ≤ n_15 ∧ n_15 < (↑u_6n : Int)) (.someA u_6p fun a_10 => .need (AV.val (.pointer (some (Addr.add a_10 (Int.toNat n_15 * 3)))) = AV.val (.pointer (some (Addr.add a_5 (Int.toNat n_15 * 3))))) (.nd (.int .i64 n_15) (.need (AV.pp 19 1 = AV.pp 19 1) (.nd (.slice u_6p u_6n u_6c) (.need (AV.pp 4 6 = AV.pp 4 6) (.need (AV.val (.bool (n_17 != n_18)) = AV.val (.bool false)) (.nd (.bool (n_17 != n_18)) (.nd (.bool (n_17 != n_18)) (.loadI .i64 (Addr.add (Addr.add a (Int.toNat n_15 * 3)) 0) fun n => .need (AV.val (.int .i64 n) = AV.val (.int .i64 n_18)) (.nd (.pointer (some (Addr.add (Addr.add a (Int.toNat n_15 * 3)) 0))) (.need (0 ≤ n_15 ∧ n_15 < (↑u_6n : Int)) (.someA u_6p fun a_11 => .need (AV.val (.pointer (some (Addr.add a_11 (Int.toNat n_15 * 3)))) = AV.val (.pointer (some (Addr.add a (Int.toNat n_15 * 3))))) (.nd (.int .i64 n_15) (.need (AV.pp 19 1 = AV.pp 19 1) (.nd (.slice u_6p u_6n u_6c) (.need (AV.pp 4 6 = AV.pp 4 6) (.nd (.int .i64 n_17) (.need (AV.pp 19 3 = AV.pp 19 3) (.need (AV.pp 19 2 = AV.pp 19 2) (.need (AV.val (.bool (decide (n_16 > n_17))) = AV.val (.bool false)) (.nd (.bool (decide (n_16 > n_17))) (.nd (.bool (decide (n_16 > n_17))) (.nd (.int .i64 n_17) (.need (AV.pp 19 3 = AV.pp 19 3) (.need (AV.pp 19 2 = AV.pp 19 2) (.nd (.int .i64 n_16) (.need (AV.pp 19 2 = AV.pp 19 2) (.need (AV.pp 19 2 = AV.pp 19 2) (.need (AV.val (.bool (decide (n_16 < 0))) = AV.val (.bool false)) (.nd (.bool (decide (n_16 < 0))) (.nd (.bool (decide (n_16 < 0))) (.nd (.int .i64 n_16) (.need (AV.pp 19 2 = AV.pp 19 2) (.need (AV.pp 19 2 = AV.pp 19 2) (.need (AV.val (.bool !b_2) = AV.val (.bool false)) (.nd (.bool !b_2) (.nd (.int .i64 (↑u_6n : Int)) (.nd (.slice u_6p u_6n u_6c) (.need (AV.pp 4 6 = AV.pp 4 6) (.need (AV.pp 19 1 = AV.pp 19 1) (bif !b_3 then .leaf (.retn [.bool false]) else .leaf (.again [.bool b])))))))))))))))))))))))))))))))))))))))))))))))))))))))))))))))))))))))))))) (fun vs => .popB vs fun b vs => .unNil vs (.call false 19 #[.agg #[.int .i64 u_0, .int .i64 u_1, .int .i64 u_2, .int .i64 u_3, .slice u_4p u_4n u_4c, .slice u_5p u_5n u_5c, .slice u_6p u_6n u_6c], .int .i64 (Int.tmod (IntKind.wrap .i64 land) u_1), .int .i64 n_14, .int .i64 n_17] fun v => .unTup v fun l => .unCons l fun v vs => .unI .i64 v fun n => .unCons vs fun v vs => .unI .i64 v fun n_18 => .unNil vs (.call false 17 #[.agg #[.int .i64 u_0, .int .i64 u_1, .int .i64 u_2, .int .i64 u_3, .slice u_4p u_4n u_4c, .slice u_5p u_5n u_5c, .slice u_6p u_6n u_6c], .int .i64 n_17] fun v => .unTup v fun l => .unCons l fun v vs => .unAgg v fun l => .popI .i64 l fun n_19 vs_1 => .popI .i64 vs_1 fun n_20 vs_2 => .unNil vs_2 (.unCons vs fun v vs => .unI .i64 v fun n_21 => .unNil vs (.blk (bif n_18 != 0 then .leaf (.retn [.bool false]) else bif n_21 != 0 then .leaf (.retn [.bool false]) else bif n == 1 then .leaf (.retn [.bool false]) else .sem false (Sem.bind (eqGuard BinOp.neq 30 (Operand.tmp 188) (Operand.tmp 190) (.agg #[.int .i64 n_19, .int .i64 n_20]) (.agg #[.int .i64 n_16, .int .i64 n_17])) fun __r => binOp BinOp.neq 30 (.agg #[.int .i64 n_19, .int .i64 n_20]) (.agg #[.int .i64 n_16, .int .i64 n_17])) fun v => .unB v fun b_2 => bif b_2 then .leaf (.retn [.bool false]) else .leaf (.again [.bool b])) (fun vs => .popB vs fun b vs => .unNil vs (.call false 50 #[.slice picksp picksn picksc, .int .i64 n_6] fun v => .unI .i64 v fun n => .nd (.int .i64 (IntKind.wrap .i64 (IntKind.wrap .i64 (n_17 - n_16) + 1))) (.nd (.int .i64 (IntKind.wrap .i64 (n_17 - n_16))) (.nd (.int .i64 n_16) (.need (AV.pp 19 2 = AV.pp 19 2) (.need (AV.pp 19 2 = AV.pp 19 2) (.nd (.int .i64 n_17) (.need (AV.pp 19 3 = AV.pp 19 3) (.need (AV.pp 19 2 = AV.pp 19 2) (.nd (.int .i64 n_16) (.need (AV.pp 19 2 = AV.pp 19 2) (.need (AV.pp 19 2 = AV.pp 19 2) (.need (IntKind.wrap .i64 (IntKind.wrap .i64 (n_17 - n_16) + 1) ≠ 0) (.both (.sem false (Instr.buildSlice 23 0 #[]) fun v => .unS v fun a n_22 c_3 => .nd (.int .i64 n_14) (.need (AV.pp 19 0 = AV.pp 19 0) (.nd (.int .i64 (Int.tmod (IntKind.wrap .i64 land) u_1)) (.nd (.int .i64 (IntKind.wrap .i64 (n_16 + Int.tmod n (IntKind.wrap .i64 (IntKind.wrap .i64 (n_17 - n_16) + 1))))) (.nd (.int .i64 (IntKind.wrap .i64 (n_16 + Int.tmod n (IntKind.wrap .i64 (IntKind.wrap .i64 (n_17 - n_16) + 1))))) (.nd (.slice a_3 n_12 c_1) (.need (AV.pp 17 5 = AV.pp 17 5) (.both (.sem false (Builtin.append_ #[23, 23] 23 #[.slice a n_22 c_3, .slice a_3 n_12 c_1]) fun v => .unS v fun a n_23 c_4 => .nd (.int .i64 n_14) (.need (AV.pp 19 0 = AV.pp 19 0) (.nd (.int .i64 (Int.tmod (IntKind.wrap .i64 land) u_1)) (.nd (.int .i64 (IntKind.wrap .i64 (n_16 + Int.tmod n (IntKind.wrap .i64 (IntKind.wrap .i64 (n_17 - n_16) + 1))))) (.nd (.int .i64 (IntKind.wrap .i64 (n_16 + Int.tmod n (IntKind.wrap .i64 (IntKind.wrap .i64 (n_17 - n_16) + 1))))) (.need (AV.pp 17 5 = AV.pp 17 5) (.both (.call false 42 #[.int .i64 (IntKind.wrap .i64 (n_16 + Int.tmod n (IntKind.wrap .i64 (IntKind.wrap .i64 (n_17 - n_16) + 1)))), .int .i64 (IntKind.wrap .i64 (n_16 + Int.tmod n (IntKind.wrap .i64 (IntKind.wrap .i64 (n_17 - n_16) + 1))))] fun v => .unAgg v fun l => .popI .i64 l fun n vs => .popI .i64 vs fun n_24 vs => .unNil vs (.nd (.int .i64 n_14) (.need (AV.pp 19 0 = AV.pp 19 0) (.nd (.int .i64 (Int.tmod (IntKind.wrap .i64 land) u_1)) (.need (AV.pp 17 5 = AV.pp 17 5) (.sem false (Instr.buildSlice 50 1 #[(0, .int .i64 n_14)]) fun v => .unS v fun a_5 n_25 c_5 => .need (AV.pp 19 0 = AV.pp 19 0) (.nd (.int .i64 (Int.tmod (IntKind.wrap .i64 land) u_1)) (.need (AV.pp 17 5 = AV.pp 17 5) (.sem false (Instr.buildSlice 23 1 #[(0, .agg #[.int .i64 n, .int .i64 n_24, .int .i64 (Int.tmod (IntKind.wrap .i64 land) u_1), .slice a_5 n_25 c_5])]) fun v => .unS v fun a_6 n c_6 => .need (AV.pp 19 0 = AV.pp 19 0) (.nd (.int .i64 (Int.tmod (IntKind.wrap .i64 land) u_1)) (.need (AV.pp 17 5 = AV.pp 17 5) (.sem false (Builtin.append_ #[23, 23] 23 #[.slice a n_23 c_4, .slice a_6 n c_6]) fun v => .unS v fun a n c_7 => .need (AV.pp 19 0 = AV.pp 19 0) (.nd (.int .i64 (Int.tmod (IntKind.wrap .i64 land) u_1)) (.need (AV.pp 17 5 = AV.pp 17 5) (.leaf (.again [.bool b, .int .i64 (IntKind.wrap .i64 (n_6 + 1)), .int .i64 n_7, .int .i64 n_8, .int .i64 n_9, .int .i64 n_10, .slice a_2 n_11 c, .slice a n c_7, .slice a_4 n_13 c_2])))))))))))))))) (.sem false (Instr.buildSlice 50 1 #[(0, .int .i64 n_14)]) fun v => .unS v fun a_5 n_24 c_5 => .need (AV.pp 19 0 = AV.pp 19 0) (.nd (.int .i64 (Int.tmod (IntKind.wrap .i64 land) u_1)) (.nd (.int .i64 (IntKind.wrap .i64 (n_16 + Int.tmod n (IntKind.wrap .i64 (IntKind.wrap .i64 (n_17 - n_16) + 1))))) (.nd (.int .i64 (IntKind.wrap .i64 (n_16 + Int.tmod n (IntKind.wrap .i64 (IntKind.wrap .i64 (n_17 - n_16) + 1))))) (.need (AV.pp 17 5 = AV.pp 17 5) (.call false 42 #[.int .i64 (IntKind.wrap .i64 (n_16 + Int.tmod n (IntKind.wrap .i64 (IntKind.wrap .i64 (n_17 - n_16) + 1)))), .int .i64 (IntKind.wrap .i64 (n_16 + Int.tmod n (IntKind.wrap .i64 (IntKind.wrap .i64 (n_17 - n_16) + 1))))] fun v => .unAgg v fun l => .popI .i64 l fun n vs => .popI .i64 vs fun n_25 vs => .unNil vs (.need (AV.pp 19 0 = AV.pp 19 0) (.nd (.int .i64 (Int.tmod (IntKind.wrap .i64 land) u_1)) (.need (AV.pp 17 5 = AV.pp 17 5) (.sem false (Instr.buildSlice 23 1 #[(0, .agg #[.int .i64 n, .int .i64 n_25, .int .i64 (Int.tmod (IntKind.wrap .i64 land) u_1), .slice a_5 n_24 c_5])]) fun v => .unS v fun a_6 n c_6 => .need (AV.pp 19 0 = AV.pp 19 0) (.nd (.int .i64 (Int.tmod (IntKind.wrap .i64 land) u_1)) (.need (AV.pp 17 5 = AV.pp 17 5) (.sem false (Builtin.append_ #[23, 23] 23 #[.slice a n_23 c_4, .slice a_6 n c_6]) fun v => .unS v fun a n c_7 => .need (AV.pp 19 0 = AV.pp 19 0) (.nd (.int .i64 (Int.tmod (IntKind.wrap .i64 land) u_1)) (.need (AV.pp 17 5 = AV.pp 17 5) (.leaf (.again [.bool b, .int .i64 (IntKind.wrap .i64 (n_6 + 1)), .int .i64 n_7, .int .i64 n_8, .int .i64 n_9, .int .i64 n_10, .slice a_2 n_11 c, .slice a n c_7, .slice a_4 n_13 c_2])))))))))))))))))))))))) (.sem false (Instr.buildSlice 50 1 #[(0, .int .i64 n_14)]) fun v => .unS v fun a_5 n_23 c_4 => .need (AV.pp 19 0 = AV.pp 19 0) (.nd (.int .i64 (Int.tmod (IntKind.wrap .i64 land) u_1)) (.nd (.int .i64 (IntKind.wrap .i64 (n_16 + Int.tmod n (IntKind.wrap .i64 (IntKind.wrap .i64 (n_17 - n_16) + 1))))) (.nd (.int .i64 (IntKind.wrap .i64 (n_16 + Int.tmod n (IntKind.wrap .i64 (IntKind.wrap .i64 (n_17 - n_16) + 1))))) (.nd (.slice a_3 n_12 c_1) (.need (AV.pp 17 5 = AV.pp 17 5) (.sem false (Builtin.append_ #[23, 23] 23 #[.slice a n_22 c_3, .slice a_3 n_12 c_1]) fun v => .unS v fun a n_24 c_5 => .need (AV.pp 19 0 = AV.pp 19 0) (.nd (.int .i64 (Int.tmod (IntKind.wrap .i64 land) u_1)) (.nd (.int .i64 (IntKind.wrap .i64 (n_16 + Int.tmod n (IntKind.wrap .i64 (IntKind.wrap .i64 (n_17 - n_16) + 1))))) (.nd (.int .i64 (IntKind.wrap .i64 (n_16 + Int.tmod n (IntKind.wrap .i64 (IntKind.wrap .i64 (n_17 - n_16) + 1))))) (.need (AV.pp 17 5 = AV.pp 17 5) (.call false 42 #[.int .i64 (IntKind.wrap .i64 (n_16 + Int.tmod n (IntKind.wrap .i64 (IntKind.wrap .i64 (n_17 - n_16) + 1)))), .int .i64 (IntKind.wrap .i64 (n_16 + Int.tmod n (IntKind.wrap .i64 (IntKind.wrap .i64 (n_17 - n_16) + 1))))] fun v => .unAgg v fun l => .popI .i64 l fun n vs => .popI .i64 vs fun n_25 vs => .unNil vs (.need (AV.pp 19 0 = AV.pp 19 0) (.nd (.int .i64 (Int.tmod (IntKind.wrap .i64 land) u_1)) (.need (AV.pp 17 5 = AV.pp 17 5) (.sem false (Instr.buildSlice 23 1 #[(0, .agg #[.int .i64 n, .int .i64 n_25, .int .i64 (Int.tmod (IntKind.wrap .i64 land) u_1), .slice a_5 n_23 c_4])]) fun v => .unS v fun a_6 n c_6 => .need (AV.pp 19 0 = AV.pp 19 0) (.nd (.int .i64 (Int.tmod (IntKind.wrap .i64 land) u_1)) (.need (AV.pp 17 5 = AV.pp 17 5) (.sem false (Builtin.append_ #[23, 23] 23 #[.slice a n_24 c_5, .slice a_6 n c_6]) fun v => .unS v fun a n c_7 => .need (AV.pp 19 0 = AV.pp 19 0) (.nd (.int .i64 (Int.tmod (IntKind.wrap .i64 land) u_1)) (.need (AV.pp 17 5 = AV.pp 17 5) (.leaf (.again [.bool b, .int .i64 (IntKind.wrap .i64 (n_6 + 1)), .int .i64 n_7, .int .i64 n_8, .int .i64 n_9, .int .i64 n_10, .slice a_2 n_11 c, .slice a n c_7, .slice a_4 n_13 c_2]))))))))))))))))))))))))))))))) (.sem false (Instr.buildSlice 50 1 #[(0, .int .i64 n_14)]) fun v => .unS v fun a n_22 c_3 => .need (AV.pp 19 0 = AV.pp 19 0) (.nd (.int .i64 (Int.tmod (IntKind.wrap .i64 land) u_1)) (.nd (.int .i64 (IntKind.wrap .i64 (n_16 + Int.tmod n (IntKind.wrap .i64 (IntKind.wrap .i64 (n_17 - n_16) + 1))))) (.nd (.int .i64 (IntKind.wrap .i64 (n_16 + Int.tmod n (IntKind.wrap .i64 (IntKind.wrap .i64 (n_17 - n_16) + 1))))) (.nd (.slice a_3 n_12 c_1) (.need (AV.pp 17 5 = AV.pp 17 5) (.sem false (Instr.buildSlice 23 0 #[]) fun v => .unS v fun a_5 n_23 c_4 => .need (AV.pp 19 0 = AV.pp 19 0) (.nd (.int .i64 (Int.tmod (IntKind.wrap .i64 land) u_1)) (.nd (.int .i64 (IntKind.wrap .i64 (n_16 + Int.tmod n (IntKind.wrap .i64 (IntKind.wrap .i64 (n_17 - n_16) + 1))))) (.nd (.int .i64 (IntKind.wrap .i64 (n_16 + Int.tmod n (IntKind.wrap .i64 (IntKind.wrap .i64 (n_17 - n_16) + 1))))) (.nd (.slice a_3 n_12 c_1) (.need (AV.pp 17 5 = AV.pp 17 5) (.sem false (Builtin.append_ #[23, 23] 23 #[.slice a_5 n_23 c_4, .slice a_3 n_12 c_1]) fun v => .unS v fun a_6 n_24 c_5 => .need (AV.pp 19 0 = AV.pp 19 0) (.nd (.int .i64 (Int.tmod (IntKind.wrap .i64 land) u_1)) (.nd (.int .i64 (IntKind.wrap .i64 (n_16 + Int.tmod n (IntKind.wrap .i64 (IntKind.wrap .i64 (n_17 - n_16) + 1))))) (.nd (.int .i64 (IntKind.wrap .i64 (n_16 + Int.tmod n (IntKind.wrap .i64 (IntKind.wrap .i64 (n_17 - n_16) + 1))))) (.need (AV.pp 17 5 = AV.pp 17 5) (.call false 42 #[.int .i64 (IntKind.wrap .i64 (n_16 + Int.tmod n (IntKind.wrap .i64 (IntKind.wrap .i64 (n_17 - n_16) + 1)))), .int .i64 (IntKind.wrap .i64 (n_16 + Int.tmod n (IntKind.wrap .i64 (IntKind.wrap .i64 (n_17 - n_16) + 1))))] fun v => .unAgg v fun l => .popI .i64 l fun n vs => .popI .i64 vs fun n_25 vs => .unNil vs (.need (AV.pp 19 0 = AV.pp 19 0) (.nd (.int .i64 (Int.tmod (IntKind.wrap .i64 land) u_1)) (.need (AV.pp 17 5 = AV.pp 17 5) (.sem false (Instr.buildSlice 23 1 #[(0, .agg #[.int .i64 n, .int .i64 n_25, .int .i64 (Int.tmod (IntKind.wrap .i64 land) u_1), .slice a n_22 c_3])]) fun v => .unS v fun a n c_6 => .need (AV.pp 19 0 = AV.pp 19 0) (.nd (.int .i64 (Int.tmod (IntKind.wrap .i64 land) u_1)) (.need (AV.pp 17 5 = AV.pp 17 5) (.sem false (Builtin.append_ #[23, 23] 23 #[.slice a_6 n_24 c_5, .slice a n c_6]) fun v => .unS v fun a n c_7 => .need (AV.pp 19 0 = AV.pp 19 0) (.nd (.int .i64 (Int.tmod (IntKind.wrap .i64 land) u_1)) (.need (AV.pp 17 5 = AV.pp 17 5) (.leaf (.again [.bool b, .int .i64 (IntKind.wrap .i64 (n_6 + 1)), .int .i64 n_7, .int .i64 n_8, .int .i64 n_9, .int .i64 n_10, .slice a_2 n_11 c, .slice a n c_7, .slice a_4 n_13 c_2]))))))))))))))))))))))))))))))))))))))))))) (fun vs => .popB vs fun b vs => .unNil vs (.leaf (.retn [.bool b, .int .i64 n_6, .int .i64 n_7, .int .i64 n_8, .int .i64 n_9, .int .i64 n_10, .slice a_2 n_11 c, .slice a_3 n_12 c_1, .slice a_4 n_13 c_2]))) fun x x_1 => .fail))))) (fun vs => .popB vs fun b vs => .unNil vs (.leaf (.retn [.bool b, .int .i64 n_6, .int .i64 n_7, .int .i64 n_8, .int .i64 n_9, .int .i64 n_10, .slice a_2 n_11 c, .slice a_3 n_12 c_1, .slice a_4 n_13 c_2]))) fun x x_1 => .fail) else .leaf (.brk [.bool b, .int .i64 n_6, .int .i64 n_7, .int .i64 n_8, .int .i64 n_9, .int .i64 n_10, .slice a_2 n_11 c, .slice a_3 n_12 c_1, .slice a_4 n_13 c_2]))) (fun vs => .popB vs fun b vs => .popI .i64 vs fun n_6 vs => .popI .i64 vs fun n_7 vs => .popI .i64 vs fun n_8 vs => .popI .i64 vs fun n_9 vs => .popI .i64 vs fun n_10 vs => .popS vs fun a n_11 c vs => .popS vs fun a_2 n_12 c_1 vs => .popS vs fun a_3 n_13 c_2 vs => .unNil vs (bif decide ((↑n_12 : Int) > 8) then .call false 16 #[] fun v => .unB v fun b => .leaf (.ret (.bool b)) else .call false 28 #[.agg #[.int .i64 n_7, .int .i64 n_8, .int .i64 n_9, .int .i64 n_10, .slice a n_11 c, .slice a_2 n_12 c_1, .slice a_3 n_13 c_2], .int .i64 (Int.tmod (IntKind.wrap .i64 land) u_1), .int .i64 n] fun v => .unTup v fun l => .unCons l fun v vs => .unS v fun a n c => .unCons vs fun v vs => .unI .i64 v fun n_14 => .unNil vs (bif n_14 == 0 then bif (↑n : Int) == 0 then .call false 16 #[] fun v => .unB v fun b => .leaf (.ret (.bool b)) else .leaf (.ret (.bool false)) else .leaf (.ret (.bool false))))) (fun vs => .popB vs fun b vs => .popI .i64 vs fun n vs => .popI .i64 vs fun n vs => .popI .i64 vs fun n vs => .popI .i64 vs fun n vs => .popI .i64 vs fun n vs => .popS vs fun a n c vs => .popS vs fun a n c vs => .popS vs fun a n c vs => .unNil vs (.leaf (.ret (.bool b)))) fun x x_1 => .fail)) (fun vs => .popB vs fun b_1 vs => .popI .i64 vs fun n vs => .unNil vs (.leaf (.ret (.bool b)))) fun x x_1 => .fail)) (fun vs => .popB vs fun b vs => .unNil vs (.leaf (.ret (.bool b)))) fun x x_1 => .fail)))))))))
theorem t12 (u_0 : Int) (u_1 : Int) (u_2 : Int) (u_3 : Int) (u_4p : Option Addr) (u_4n u_4c : Nat) (u_5p : Option Addr) (u_5n u_5c : Nat) (u_6p : Option Addr) (u_6n u_6c : Nat) (land : Int) (day : Int) (picksp : Option Addr) (picksn picksc : Nat) : ftree ({ P := Tryd.prog, priv := [4, 17, 19, 22], loops := [{ id := 0, slots := [(15, .bool), (16, .int .i64)], ro := [4], outs := [] }, { id := 2, slots := [(8, .bool), (18, .int .i64), (73728, .int .i64), (73729, .int .i64), (73730, .int .i64), (73731, .int .i64), (73732, .slice), (73733, .slice), (73734, .slice)], ro := [4], outs := [] }], joins := [{ id := 26, slots := [(8, .bool)], ro := [4, 17, 19, 22], outs := [] }, { id := 22, slots := [(8, .bool)], ro := [4, 17, 19], outs := [] }, { id := 8, slots := [(8, .bool)], ro := [4], outs := [] }] }) Tryd.f12 [.agg #[.int .i64 u_0, .int .i64 u_1, .int .i64 u_2, .int .i64 u_3, .slice u_4p u_4n u_4c, .slice u_5p u_5n u_5c, .slice u_6p u_6n u_6c], .int .u8 land, .int .u16 day, .slice picksp picksn picksc] = n12 u_0 u_1 u_2 u_3 u_4p u_4n u_4c u_5p u_5n u_5c u_6p u_6n u_6c land day picksp picksn picksc := by kernel_rfl
theorem w12 (u_0 : Int) (u_1 : Int) (u_2 : Int) (u_3 : Int) (u_4p : Option Addr) (u_4n u_4c : Nat) (u_5p : Option Addr) (u_5n u_5c : Nat) (u_6p : Option Addr) (u_6n u_6c : Nat) (land : Int) (day : Int) (picksp : Option Addr) (picksn picksc : Nat) {X : XP} (hX : XOK X) {h : LH} {A : Value → LH → Prop} (hw : (n12 u_0 u_1 u_2 u_3 u_4p u_4n u_4c u_5p u_5n u_5c u_6p u_6n u_6c land day picksp picksn picksc).wp X Tryd.prog (retQ A) h) : FWK X Tryd.prog .normal 12 #[.agg #[.int .i64 u_0, .int .i64 u_1, .int .i64 u_2, .int .i64 u_3, .slice u_4p u_4n u_4c, .slice u_5p u_5n u_5c, .slice u_6p u_6n u_6c], .int .u8 land, .int .u16 day, .slice picksp picksn picksc] h A := fwk_neat (t12 u_0 u_1 u_2 u_3 u_4p u_4n u_4c u_5p u_5n u_5c u_6p u_6n u_6c land day picksp picksn picksc) (by simp) (by kernel_rfl) (by kernel_rfl) hX hw
end Go.Proofs.YtibibhojkfapnaaDoor
end
section
namespace Go.Proofs.YtibibhojkfapnaaDoor
open Go Go.TM Go.Proofs
attribute [local irreducible] T.wp CV FWK
def PaperEncI (h₁ : Cells) (r : Nat) (v : Int) (x : Paper) (ws : List Value) : Prop := ∃ q m c, ws = [.int .i64 x.days.first, .int .i64 x.days.last, .int .i64 x.land, .slice q m c] ∧ (Sl IntE 1 h₁ q m x.items ∨ (q = some ⟨r, 0, none⟩ ∧ m = 1 ∧ x.items = [v]))
theorem PaperEncI.len {h₁ : Cells} {r : Nat} {v : Int} : ∀ x ws, PaperEncI h₁ r v x ws → ws.length = 4 := by rintro x _ ⟨q, m, c, rfl, _⟩; rfl
theorem PaperEncI.e {h₁ h' : Cells} {r : Nat} {v : Int} (hr : Rd h₁ h') (hb : h' r = some (true, .cells #[.int .i64 v] 3 (0, 0))) : ∀ a x ws, PaperEncI h₁ r v x ws → (∀ (j : Nat) w, ws[j]? = some w → h'.cell? (a.add j) = some w) → PaperE h' a x := by
  rintro a x _ ⟨q, m, c, rfl, hs⟩ hc
  refine ⟨hc 0 _ rfl, hc 1 _ rfl, hc 2 _ rfl, q, m, c, hc 3 _ rfl, ?_⟩
  rcases hs with hs | ⟨rfl, rfl, e⟩
  · exact hs.rd IntE.grow hr
  · rw [e]
    exact sl_ints (l := [v]) rfl hb (by show (1 : Nat) < _; omega)
theorem PaperEncI.of {h₁ : Cells} {r : Nat} {v : Int} : ∀ x ws, PaperEnc h₁ x ws → PaperEncI h₁ r v x ws := by
  rintro x _ ⟨q, m, c, rfl, hs⟩
  exact ⟨q, m, c, rfl, .inl hs⟩
theorem own_ne {Enc : Paper → List Value → Prop} {h₀ h : Cells} {p : Option Addr} {n c : Nat} {l : List Paper} {r : Nat} {cs : Array Value} (g : Growing Enc 69 4 h₀ h p n c l) (hr : h r = some (true, .cells cs 3 (0, 0))) : ∀ a, p = some a → a.block ≠ r := by
  rintro a rfl rfl
  obtain ⟨vs, ⟨_, hh⟩, _⟩ := g.row
  rcases hh with ⟨hh, _⟩ | ⟨r', cs', hh, h5, _⟩
  · cases hh
  · cases hh
    rw [hr] at h5
    simp at h5
theorem c12 {h : LH} (hch : h.chans = []) (hpe : h.pend = []) (hp : Parts h.get) {f : FileC} {u : UseFile} (hu : FileR h.get f u) (land : Int) (hl : 0 ≤ land ∧ land ≤ 255) (day : Int) (hd : 0 ≤ day ∧ day ≤ 65535) {pp : Option Addr} {pn pc : Nat} {pl : List Int} (hpl : Sl U16E 1 h.get pp pn pl) :
    FW XT Tryd.prog 12 #[fileV f u, .int .u8 land, .int .u16 day, .slice pp pn pc] h (Fin h) := by
  refine w12 _ _ _ _ _ _ _ _ _ _ _ _ _ _ _ _ _ _ XT_ok ?_
  unfold n12
  refine t_call (FW.top (c36 hu)) ?_
  rintro _ _ ⟨rfl, b, rfl, hbb⟩
  (repeat (first | (with_reducible first | apply gA | apply gB | apply gC | apply gD | apply gE | apply gF | apply gG | apply gH | apply gI | apply gJ | apply gK | apply gL | apply gM | apply gN | apply gO | apply gP | apply gQ | apply gR) | ((with_reducible first | apply gT | apply gS2); first | exact rfl | assumption | omega | exact ⟨⟩) | ((with_reducible first | apply gL0 | apply gL1 | apply gL2 | apply gL3 | apply gL4); assumption)))
  refine t_cond (fun _ => ?_) (fun hbf => ?_)
  · exact t_shown hch hpe hp (LH.le_refl _) fun h' hh => t_ret ⟨rfl, hh⟩
  have hck := hbb (by simpa using hbf)
  obtain ⟨⟨i1, i2⟩, ⟨l1, l2⟩, ⟨f1, f2⟩, ⟨d1, d2⟩⟩ := num_ok (check_num hck)
  have hl0 : u.lands ≠ 0 := by omega
  have h8 := (check_papers hck).1
  have hrq := (check_requests hck).1
  have hn6 := hu.requests.1
  (repeat (first | (with_reducible first | apply gA | apply gB | apply gC | apply gD | apply gE | apply gF | apply gG | apply gH | apply gI | apply gJ | apply gK | apply gL | apply gM | apply gN | apply gO | apply gP | apply gQ | apply gR) | ((with_reducible first | apply gT | apply gS2); first | exact rfl | assumption | omega | exact ⟨⟩) | ((with_reducible first | apply gL0 | apply gL1 | apply gL2 | apply gL3 | apply gL4); assumption)))
  refine t_pu (c37 hd) ?_
  (repeat (first | (with_reducible first | apply gA | apply gB | apply gC | apply gD | apply gE | apply gF | apply gG | apply gH | apply gI | apply gJ | apply gK | apply gL | apply gM | apply gN | apply gO | apply gP | apply gQ | apply gR) | ((with_reducible first | apply gT | apply gS2); first | exact rfl | assumption | omega | exact ⟨⟩) | ((with_reducible first | apply gL0 | apply gL1 | apply gL2 | apply gL3 | apply gL4); assumption)))
  rw [wrap_u8 hl, tmod_nn hl.1]
  have hk := mod_pos (n := land) (b := u.lands) (by omega)
  have hday := mod_day (n := day)
  generalize land % u.lands = k at *
  generalize day % 2001 = d at *
  have hq := leftQ_ok hck hk hday
  have hlen : (lacks u k d).length ≤ 24 := by
    have hitems : ∀ r ∈ u.requests, r.items.length ≤ 6 := fun r hr => by have := rises_len' (check_items hck r hr) (by omega); omega
    have := lacksGo_len (land := k) (day := d) hitems u.requests 0 fun r hr => hr
    unfold lacks; omega
  refine t_gr (c28 hp hu k d) ?_
  intro r1 h1 le1 hr1
  obtain ⟨p1, n1, k1, rfl, s1⟩ := hr1.form
  rw [hq, if_pos rfl] at s1
  rw [hq]
  (repeat (first | (with_reducible first | apply gA | apply gB | apply gC | apply gD | apply gE | apply gF | apply gG | apply gH | apply gI | apply gJ | apply gK | apply gL | apply gM | apply gN | apply gO | apply gP | apply gQ | apply gR) | ((with_reducible first | apply gT | apply gS2); first | exact rfl | assumption | omega | exact ⟨⟩) | ((with_reducible first | apply gL0 | apply gL1 | apply gL2 | apply gL3 | apply gL4); assumption)))
  refine t_gr (c23 (hp.le le1.1) (hu.le le1.1) k d) ?_
  intro r3 h3 le3 hr3
  obtain ⟨p3, n3, k3, rfl, s3⟩ := hr3.form
  rw [hq, if_pos rfl] at s3
  rw [hq]
  have le13 := LH.le_trans le1 le3
  have s1 := s1.le LackE.grow le3.1
  have hn1 := s1.1
  have hn3 := s3.1
  have ll3 : (leftAll u k d).length = u.items.toNat := by unfold leftAll; rw [List.length_map, List.length_range]
  (repeat (first | (with_reducible first | apply gA | apply gB | apply gC | apply gD | apply gE | apply gF | apply gG | apply gH | apply gI | apply gJ | apply gK | apply gL | apply gM | apply gN | apply gO | apply gP | apply gQ | apply gR) | ((with_reducible first | apply gT | apply gS2); first | exact rfl | assumption | omega | exact ⟨⟩) | ((with_reducible first | apply gL0 | apply gL1 | apply gL2 | apply gL3 | apply gL4); assumption)))
  refine t_blk (fun vs h' => vs = [.bool false] ∧ h3 = h') ?_ ?_
  · refine t_cond (fun e => absurd e (by simp)) (fun _ => ?_)
    refine t_cond (fun e => absurd e (by simp)) (fun _ => ?_)
    exact t_again ⟨rfl, rfl⟩
  rintro vs _ ⟨rfl, rfl⟩
  (repeat (first | (with_reducible first | apply gA | apply gB | apply gC | apply gD | apply gE | apply gF | apply gG | apply gH | apply gI | apply gJ | apply gK | apply gL | apply gM | apply gN | apply gO | apply gP | apply gQ | apply gR) | ((with_reducible first | apply gT | apply gS2); first | exact rfl | assumption | omega | exact ⟨⟩) | ((with_reducible first | apply gL0 | apply gL1 | apply gL2 | apply gL3 | apply gL4); assumption)))
  refine t_loop (fun mm vs h' => h3 = h' ∧ ∃ i : Nat, vs = [.bool (((leftAll u k d).take i).all fun x => x == 1), .int .i64 i] ∧ i ≤ n3 ∧ mm = n3 - i) ⟨rfl, 0, rfl, Nat.zero_le _, rfl⟩ ?_
  rintro Y mm vs _ hY ⟨rfl, i, rfl, hi, rfl⟩
  (repeat (first | (with_reducible first | apply gA | apply gB | apply gC | apply gD | apply gE | apply gF | apply gG | apply gH | apply gI | apply gJ | apply gK | apply gL | apply gM | apply gN | apply gO | apply gP | apply gQ | apply gR) | ((with_reducible first | apply gT | apply gS2); first | exact rfl | assumption | omega | exact ⟨⟩) | ((with_reducible first | apply gL0 | apply gL1 | apply gL2 | apply gL3 | apply gL4); assumption)))
  refine t_if (fun e1 => ?_) (fun e1 => ?_)
  · obtain ⟨x, a, hx, ha, e2⟩ := s3.at (i := i) (by omega)
    unfold IntE at e2
    have hst : ((leftAll u k d).take (i + 1)).all (fun x => x == 1) = (((leftAll u k d).take i).all (fun x => x == 1) && (x == 1)) := by
      rw [List.take_add_one, hx, List.all_append]; simp
    refine t_cond (fun b1 => ?_) (fun b1 => ?_)
    · rw [b1, Bool.true_and] at hst
      (repeat (first | (with_reducible first | apply gA | apply gB | apply gC | apply gD | apply gE | apply gF | apply gG | apply gH | apply gI | apply gJ | apply gK | apply gL | apply gM | apply gN | apply gO | apply gP | apply gQ | apply gR) | ((with_reducible first | apply gT | apply gS2); first | exact rfl | assumption | omega | exact ⟨⟩) | ((with_reducible first | apply gL0 | apply gL1 | apply gL2 | apply gL3 | apply gL4); assumption)))
      refine t_again (hY (n3 - (i + 1)) _ _ (by omega) ⟨rfl, i + 1, ?_, by omega, rfl⟩)
      rw [wrap_id (by omega) (by omega), hst]; rfl
    · rw [b1, Bool.false_and] at hst
      refine t_again (hY (n3 - (i + 1)) _ _ (by omega) ⟨rfl, i + 1, ?_, by omega, rfl⟩)
      rw [wrap_id (by omega) (by omega), hst]; rfl
  have hall : (((leftAll u k d).take i).all fun x => x == 1) = ((n1 : Int) == 0) := by
    rw [List.take_of_length_le (by omega), Bool.eq_iff_iff, List.all_eq_true]
    have := lacks_nil hck k d
    constructor
    · intro h
      have h0 := this.2 fun x hx => by simpa using h x hx
      rw [h0] at hn1
      simp at hn1
      simp [hn1]
    · intro h
      have h0 : (lacks u k d) = [] := List.eq_nil_of_length_eq_zero (by simp at h; omega)
      intro x hx
      simpa using this.1 h0 x hx
  (repeat (first | (with_reducible first | apply gA | apply gB | apply gC | apply gD | apply gE | apply gF | apply gG | apply gH | apply gI | apply gJ | apply gK | apply gL | apply gM | apply gN | apply gO | apply gP | apply gQ | apply gR) | ((with_reducible first | apply gT | apply gS2); first | exact rfl | assumption | omega | exact ⟨⟩) | ((with_reducible first | apply gL0 | apply gL1 | apply gL2 | apply gL3 | apply gL4); assumption)))
  rw [hall]
  refine t_cond (fun e => absurd e (by simp)) (fun _ => ?_)
  clear hY hall
  -- a paper for each lack
  refine t_loop (fun mm vs h' => h3.le h' ∧ ∃ (i : Nat) (p : Option Addr) (n c : Nat) (ps : List Paper), vs = [.bool false, .int .i64 i, .int .i64 u.items, .int .i64 u.lands, .int .i64 u.from_, .int .i64 u.idle, .slice f.p4 f.n4 f.c4, .slice p n c, .slice f.p6 f.n6 f.c6] ∧ i ≤ n1 ∧ mm = n1 - i ∧
      Fills k ((lacks u k d).take i) ps ∧ FileR h'.get { f with p5 := p, n5 := n, c5 := c } { u with papers := u.papers ++ ps })
    ⟨LH.le_refl _, 0, f.p5, f.n5, f.c5, [], rfl, Nat.zero_le _, rfl, trivial, by rw [List.append_nil]; exact hu.le le13.1⟩ ?_
  rintro Y mm vs h₁ hY ⟨hle, i, p, n, c, ps, rfl, hi, rfl, hf, ho⟩
  have hfl := hf.len
  have hno : n = (u.papers ++ ps).length := ho.papers.1
  have hn' : n ≤ 32 := by rw [hno, List.length_append, hfl, List.length_take]; omega
  have le0 := LH.le_trans le13 hle
  (repeat (first | (with_reducible first | apply gA | apply gB | apply gC | apply gD | apply gE | apply gF | apply gG | apply gH | apply gI | apply gJ | apply gK | apply gL | apply gM | apply gN | apply gO | apply gP | apply gQ | apply gR) | ((with_reducible first | apply gT | apply gS2); first | exact rfl | assumption | omega | exact ⟨⟩) | ((with_reducible first | apply gL0 | apply gL1 | apply gL2 | apply gL3 | apply gL4); assumption)))
  refine t_if (fun e1 => ?_) (fun e1 => ?_)
  · obtain ⟨x, a, hx, ha, x1, x2, x3, x4⟩ := (s1.le LackE.grow hle.1).at (i := i) (by omega)
    obtain ⟨j, r, hj, g1, g2, g3, g4, g5, g6, ⟨g7, g8⟩, w1, w2, w3, w4, w5⟩ := lack_facts hck (List.mem_of_getElem? hx)
    obtain ⟨v, rq, ⟨wf, wl⟩⟩ := x
    simp only at x1 x2 x3 x4 g1 g4 g5 g6 g7 g8 w1 w2 w3
    subst g1
    subst w3
    have hjl := (List.getElem?_eq_some_iff.1 hj).1
    obtain ⟨r', b, hr, hb, y1, y2, q, mq, cq, y4, y5⟩ := (hu.le le0.1).requests.at (i := j) (by omega)
    rw [hj] at hr
    cases hr
    have hin : isIn (j : Int) 0 (IntKind.wrap .i64 ((f.n6 : Int) - 1)) = true := by rw [wrap_id (by omega) (by omega)]; simp [isIn]; omega
    (repeat (first | (with_reducible first | apply gA | apply gB | apply gC | apply gD | apply gE | apply gF | apply gG | apply gH | apply gI | apply gJ | apply gK | apply gL | apply gM | apply gN | apply gO | apply gP | apply gQ | apply gR) | ((with_reducible first | apply gT | apply gS2); first | exact rfl | assumption | omega | exact ⟨⟩) | ((with_reducible first | apply gL0 | apply gL1 | apply gL2 | apply gL3 | apply gL4); assumption)))
    refine t_blk (fun vs h' => vs = [.bool false] ∧ h₁ = h') ?_ ?_
    · refine t_pu (c49 _ _ _) ?_
      rw [hin]
      (repeat (first | (with_reducible first | apply gA | apply gB | apply gC | apply gD | apply gE | apply gF | apply gG | apply gH | apply gI | apply gJ | apply gK | apply gL | apply gM | apply gN | apply gO | apply gP | apply gQ | apply gR) | ((with_reducible first | apply gT | apply gS2); first | exact rfl | assumption | omega | exact ⟨⟩) | ((with_reducible first | apply gL0 | apply gL1 | apply gL2 | apply gL3 | apply gL4); assumption)))
      refine t_cond (fun e => absurd e (by simp)) (fun _ => ?_)
      refine t_if (fun e => by omega) (fun _ => ?_)
      refine t_if (fun e => by omega) (fun _ => ?_)
      (repeat (first | (with_reducible first | apply gA | apply gB | apply gC | apply gD | apply gE | apply gF | apply gG | apply gH | apply gI | apply gJ | apply gK | apply gL | apply gM | apply gN | apply gO | apply gP | apply gQ | apply gR) | ((with_reducible first | apply gT | apply gS2); first | exact rfl | assumption | omega | exact ⟨⟩) | ((with_reducible first | apply gL0 | apply gL1 | apply gL2 | apply gL3 | apply gL4); assumption)))
      refine t_cond (fun e => absurd e (by simp)) (fun _ => ?_)
      (repeat (first | (with_reducible first | apply gA | apply gB | apply gC | apply gD | apply gE | apply gF | apply gG | apply gH | apply gI | apply gJ | apply gK | apply gL | apply gM | apply gN | apply gO | apply gP | apply gQ | apply gR) | ((with_reducible first | apply gT | apply gS2); first | exact rfl | assumption | omega | exact ⟨⟩) | ((with_reducible first | apply gL0 | apply gL1 | apply gL2 | apply gL3 | apply gL4); assumption)))
      refine t_cond (fun e => absurd e (by simp [g2])) (fun _ => ?_)
      (repeat (first | (with_reducible first | apply gA | apply gB | apply gC | apply gD | apply gE | apply gF | apply gG | apply gH | apply gI | apply gJ | apply gK | apply gL | apply gM | apply gN | apply gO | apply gP | apply gQ | apply gR) | ((with_reducible first | apply gT | apply gS2); first | exact rfl | assumption | omega | exact ⟨⟩) | ((with_reducible first | apply gL0 | apply gL1 | apply gL2 | apply gL3 | apply gL4); assumption)))
      refine t_if (fun e => by omega) (fun _ => ?_)
      (repeat (first | (with_reducible first | apply gA | apply gB | apply gC | apply gD | apply gE | apply gF | apply gG | apply gH | apply gI | apply gJ | apply gK | apply gL | apply gM | apply gN | apply gO | apply gP | apply gQ | apply gR) | ((with_reducible first | apply gT | apply gS2); first | exact rfl | assumption | omega | exact ⟨⟩) | ((with_reducible first | apply gL0 | apply gL1 | apply gL2 | apply gL3 | apply gL4); assumption)))
      refine t_pu (c41 y5 v) ?_
      rw [g4]
      have q1 : AV.val (.bool (r.day != r.day)) = AV.val (.bool false) := by simp
      have q2 : AV.val (.bool (r.land != k)) = AV.val (.bool false) := by simp [g2]
      have q3 : AV.val (.bool (decide (r.day > d))) = AV.val (.bool false) := by rw [decide_eq_false (by omega)]
      have q4 : AV.val (.bool (decide (wf < 0))) = AV.val (.bool false) := by rw [decide_eq_false (by omega)]
      have q5 : AV.val (.bool (decide (wf > r.day))) = AV.val (.bool false) := by rw [decide_eq_false (by omega)]
      (repeat (first | (with_reducible first | apply gA | apply gB | apply gC | apply gD | apply gE | apply gF | apply gG | apply gH | apply gI | apply gJ | apply gK | apply gL | apply gM | apply gN | apply gO | apply gP | apply gQ | apply gR) | ((with_reducible first | apply gT | apply gS2); first | exact rfl | assumption | omega | exact ⟨⟩) | ((with_reducible first | apply gL0 | apply gL1 | apply gL2 | apply gL3 | apply gL4); assumption)))
      refine t_cond (fun e => absurd e (by simp)) (fun _ => ?_)
      exact t_again ⟨rfl, rfl⟩
    rintro vs _ ⟨rfl, rfl⟩
    (repeat (first | (with_reducible first | apply gA | apply gB | apply gC | apply gD | apply gE | apply gF | apply gG | apply gH | apply gI | apply gJ | apply gK | apply gL | apply gM | apply gN | apply gO | apply gP | apply gQ | apply gR) | ((with_reducible first | apply gT | apply gS2); first | exact rfl | assumption | omega | exact ⟨⟩) | ((with_reducible first | apply gL0 | apply gL1 | apply gL2 | apply gL3 | apply gL4); assumption)))
    refine t_gr (c19 (hp.le le0.1) (hu.le le0.1) k v r.day) ?_
    rintro _ h4 le4 rfl
    rw [safeR_ok hck hk ⟨g7, g8⟩ ⟨w4, w5⟩]
    (repeat (first | (with_reducible first | apply gA | apply gB | apply gC | apply gD | apply gE | apply gF | apply gG | apply gH | apply gI | apply gJ | apply gK | apply gL | apply gM | apply gN | apply gO | apply gP | apply gQ | apply gR) | ((with_reducible first | apply gT | apply gS2); first | exact rfl | assumption | omega | exact ⟨⟩) | ((with_reducible first | apply gL0 | apply gL1 | apply gL2 | apply gL3 | apply gL4); assumption)))
    have le04 := LH.le_trans le0 le4
    refine t_gr (c17 (hp.le le04.1) (hu.le le04.1) r.day) ?_
    rintro _ h5 le5 rfl
    rw [windowR_ok hck ⟨w4, w5⟩]
    have le05 := LH.le_trans le04 le5
    have hwf : (window u r.day).first = wf := by rw [← g5]
    rw [hwf]
    (repeat (first | (with_reducible first | apply gA | apply gB | apply gC | apply gD | apply gE | apply gF | apply gG | apply gH | apply gI | apply gJ | apply gK | apply gL | apply gM | apply gN | apply gO | apply gP | apply gQ | apply gR) | ((with_reducible first | apply gT | apply gS2); first | exact rfl | assumption | omega | exact ⟨⟩) | ((with_reducible first | apply gL0 | apply gL1 | apply gL2 | apply gL3 | apply gL4); assumption)))
    refine t_blk (fun vs h' => vs = [.bool false] ∧ h5 = h') ?_ ?_
    · refine t_cond (fun e => absurd e (by simp)) (fun _ => ?_)
      refine t_cond (fun e => absurd e (by simp)) (fun _ => ?_)
      refine t_cond (fun e => absurd (by simpa using e) g6) (fun _ => ?_)
      refine t_ne2 two30 g30 ?_
      (repeat (first | (with_reducible first | apply gA | apply gB | apply gC | apply gD | apply gE | apply gF | apply gG | apply gH | apply gI | apply gJ | apply gK | apply gL | apply gM | apply gN | apply gO | apply gP | apply gQ | apply gR) | ((with_reducible first | apply gT | apply gS2); first | exact rfl | assumption | omega | exact ⟨⟩) | ((with_reducible first | apply gL0 | apply gL1 | apply gL2 | apply gL3 | apply gL4); assumption)))
      refine t_cond (fun e => absurd e (by simp)) (fun _ => ?_)
      exact t_again ⟨rfl, rfl⟩
    rintro vs _ ⟨rfl, rfl⟩
    (repeat (first | (with_reducible first | apply gA | apply gB | apply gC | apply gD | apply gE | apply gF | apply gG | apply gH | apply gI | apply gJ | apply gK | apply gL | apply gM | apply gN | apply gO | apply gP | apply gQ | apply gR) | ((with_reducible first | apply gT | apply gS2); first | exact rfl | assumption | omega | exact ⟨⟩) | ((with_reducible first | apply gL0 | apply gL1 | apply gL2 | apply gL3 | apply gL4); assumption)))
    refine t_call (FW.top (c50 (hpl.le U16E.grow le05.1) i)) ?_
    rintro _ _ ⟨rfl, z, rfl, z1, z2⟩
    have hw : IntKind.wrap .i64 (IntKind.wrap .i64 (r.day - wf) + 1) = r.day - wf + 1 := by
      rw [wrap_id (n := r.day - wf) (by omega) (by omega), wrap_id (by omega) (by omega)]
    have hne : IntKind.wrap .i64 (IntKind.wrap .i64 (r.day - wf) + 1) ≠ 0 := by rw [hw]; omega
    (repeat (first | (with_reducible first | apply gA | apply gB | apply gC | apply gD | apply gE | apply gF | apply gG | apply gH | apply gI | apply gJ | apply gK | apply gL | apply gM | apply gN | apply gO | apply gP | apply gQ | apply gR) | ((with_reducible first | apply gT | apply gS2); first | exact rfl | assumption | omega | exact ⟨⟩) | ((with_reducible first | apply gL0 | apply gL1 | apply gL2 | apply gL3 | apply gL4); assumption)))
    have hmod := mod_pos (n := z) (b := r.day - wf + 1) (by omega)
    rw [hw, tmod_nn z1, wrap_id (n := wf + z % (r.day - wf + 1)) (by omega) (by omega)]
    generalize he : wf + z % (r.day - wf + 1) = e
    have hfill : FillP k ⟨v, (j : Int), ⟨wf, r.day⟩⟩ ⟨⟨e, e⟩, k, [v]⟩ := ⟨e, by show wf ≤ e; omega, by show e ≤ r.day; omega, rfl⟩
    have ho5 := ho.le (LH.le_trans le4 le5).1
    have le35 := LH.le_trans hle (LH.le_trans le4 le5)
    have next : ∀ ri p' n' c' h', h5.le h' → Growing (PaperEncI h5.get ri v) 69 4 h5.get h'.get p' n' c' (u.papers ++ ps ++ [⟨⟨e, e⟩, k, [v]⟩]) → h'.get ri = some (true, .cells #[.int .i64 v] 3 (0, 0)) →
        Y [.bool false, .int .i64 (IntKind.wrap .i64 ((i : Int) + 1)), .int .i64 u.items, .int .i64 u.lands, .int .i64 u.from_, .int .i64 u.idle, .slice f.p4 f.n4 f.c4, .slice p' n' c', .slice f.p6 f.n6 f.c6] h' := by
      intro ri p' n' c' h' le' g' hri
      have hoq := ho5.le le'.1
      refine hY (n1 - (i + 1)) _ _ (by omega) ⟨LH.le_trans le35 le', i + 1, p', n', c', ps ++ [⟨⟨e, e⟩, k, [v]⟩], ?_, by omega, rfl, ?_, hoq.excuses, ?_, hoq.requests⟩
      · rw [wrap_id (by omega) (by omega)]; rfl
      · rw [List.take_add_one, hx]
        exact hf.snoc hfill
      · rw [← List.append_assoc]
        exact g'.sl PaperEncI.len (by omega) (PaperEncI.e (Rd.of_le le'.1) hri) (by rw [List.length_append, ← hno]; simp; omega)
    have ones : ∀ r0 : Nat, ∀ w ∈ [Value.int .i64 e, .int .i64 e, .int .i64 k, .slice (some ⟨r0, 0, none⟩) 1 1], isOne w = true := by
      intro r0 w hw; simp at hw; rcases hw with rfl | rfl | rfl | rfl <;> rfl
    have last : ∀ (K : Value → T) (Q : Leaf → LH → Prop) ri p' n' c' h' (m : Nat), n' ≤ 64 → h5.le h' → Growing (PaperEnc h5.get) 69 4 h5.get h'.get p' n' c' (u.papers ++ ps) → h'.get ri = some (true, .cells #[.int .i64 v] 3 (0, 0)) → (h'.get m = some (true, .cells #[.int .i64 e, .int .i64 e, .int .i64 k, .slice (some ⟨ri, 0, none⟩) 1 1] 69 (0, 0))) →
        (∀ p'' c'' h'', h5.le h'' → Growing (PaperEncI h5.get ri v) 69 4 h5.get h''.get p'' (n' + 1) c'' (u.papers ++ ps ++ [⟨⟨e, e⟩, k, [v]⟩]) → h''.get ri = some (true, .cells #[.int .i64 v] 3 (0, 0)) → (K (.slice p'' (n' + 1) c'')).wp XT Tryd.prog Q h'') →
        (T.sem false (Builtin.append_ #[23, 23] 23 #[.slice p' n' c', .slice (some ⟨m, 0, none⟩) 1 1]) K).wp XT Tryd.prog Q h' := by
      intro K Q ri p' n' c' h' m hb le' g' hri hm hk'
      refine t_grow (h₀ := h5) (x := (⟨⟨e, e⟩, k, [v]⟩ : Paper)) (ws := [.int .i64 e, .int .i64 e, .int .i64 k, .slice (some ⟨ri, 0, none⟩) 1 1]) rfl rfl und23 und23 inf69 rfl (by omega) (by omega) (g'.mono (PaperEncI.of (r := ri) (v := v))) le' ⟨_, _, _, rfl, .inr ⟨rfl, rfl, rfl⟩⟩ rfl (fun j w hj => row_stands hm (fun j w hj => by simpa using hj) rfl j w hj) (ones ri) fun p'' c'' h'' le'' kp g'' => ?_
      exact hk' p'' c'' h'' le'' g'' (kp ri _ (own_ne g' hri) hri)
    refine t_both ?_ ?_
    · refine t_build0G (h₀ := h5) (Enc := PaperEnc h5.get) und23 inf69 (LH.le_refl _) fun r0 h6 hr0 le6 gr => ?_
      (repeat (first | (with_reducible first | apply gA | apply gB | apply gC | apply gD | apply gE | apply gF | apply gG | apply gH | apply gI | apply gJ | apply gK | apply gL | apply gM | apply gN | apply gO | apply gP | apply gQ | apply gR) | ((with_reducible first | apply gT | apply gS2); first | exact rfl | assumption | omega | exact ⟨⟩) | ((with_reducible first | apply gL0 | apply gL1 | apply gL2 | apply gL3 | apply gL4); assumption)))
      refine t_both ?_ ?_
      · refine t_copy (h₀ := h5) rfl rfl und23 und23 inf69 rfl (by omega) (by omega) gr le6 (PaperB.of (Rd.of_le le6.1) ho5.papers) paperTold fun p2 c2 h7 le7 _ gc => ?_
        (repeat (first | (with_reducible first | apply gA | apply gB | apply gC | apply gD | apply gE | apply gF | apply gG | apply gH | apply gI | apply gJ | apply gK | apply gL | apply gM | apply gN | apply gO | apply gP | apply gQ | apply gR) | ((with_reducible first | apply gT | apply gS2); first | exact rfl | assumption | omega | exact ⟨⟩) | ((with_reducible first | apply gL0 | apply gL1 | apply gL2 | apply gL3 | apply gL4); assumption)))
        refine t_both ?_ ?_
        · refine t_pu (c42 _ _) ?_
          (repeat (first | (with_reducible first | apply gA | apply gB | apply gC | apply gD | apply gE | apply gF | apply gG | apply gH | apply gI | apply gJ | apply gK | apply gL | apply gM | apply gN | apply gO | apply gP | apply gQ | apply gR) | ((with_reducible first | apply gT | apply gS2); first | exact rfl | assumption | omega | exact ⟨⟩) | ((with_reducible first | apply gL0 | apply gL1 | apply gL2 | apply gL3 | apply gL4); assumption)))
          refine t_buildG und50 inf3 (by decide) (by decide) (cells := #[.int .i64 v]) (by kernel_rfl) fun ri h8 le8 _ ei => ?_
          (repeat (first | (with_reducible first | apply gA | apply gB | apply gC | apply gD | apply gE | apply gF | apply gG | apply gH | apply gI | apply gJ | apply gK | apply gL | apply gM | apply gN | apply gO | apply gP | apply gQ | apply gR) | ((with_reducible first | apply gT | apply gS2); first | exact rfl | assumption | omega | exact ⟨⟩) | ((with_reducible first | apply gL0 | apply gL1 | apply gL2 | apply gL3 | apply gL4); assumption)))
          refine t_buildG und23 inf69 (by decide) (by decide) (cells := #[.int .i64 e, .int .i64 e, .int .i64 k, .slice (some ⟨ri, 0, none⟩) 1 1]) (by kernel_rfl) fun rp h9 le9 _ ep => ?_; (repeat (first | (with_reducible first | apply gA | apply gB | apply gC | apply gD | apply gE | apply gF | apply gG | apply gH | apply gI | apply gJ | apply gK | apply gL | apply gM | apply gN | apply gO | apply gP | apply gQ | apply gR) | ((with_reducible first | apply gT | apply gS2); first | exact rfl | assumption | omega | exact ⟨⟩) | ((with_reducible first | apply gL0 | apply gL1 | apply gL2 | apply gL3 | apply gL4); assumption))); refine last _ _ ri _ _ _ _ rp (by omega) (LH.le_trans le7 (LH.le_trans le8 le9)) ((gc.le le8.1).le le9.1) (le9.1 _ _ ei) ep fun p' c' h' le' g' e' => ?_; (repeat (first | (with_reducible first | apply gA | apply gB | apply gC | apply gD | apply gE | apply gF | apply gG | apply gH | apply gI | apply gJ | apply gK | apply gL | apply gM | apply gN | apply gO | apply gP | apply gQ | apply gR) | ((with_reducible first | apply gT | apply gS2); first | exact rfl | assumption | omega | exact ⟨⟩) | ((with_reducible first | apply gL0 | apply gL1 | apply gL2 | apply gL3 | apply gL4); assumption))); exact t_again (next ri _ _ _ _ le' g' e')
        · refine t_buildG und50 inf3 (by decide) (by decide) (cells := #[.int .i64 v]) (by kernel_rfl) fun ri h8 le8 _ ei => ?_
          (repeat (first | (with_reducible first | apply gA | apply gB | apply gC | apply gD | apply gE | apply gF | apply gG | apply gH | apply gI | apply gJ | apply gK | apply gL | apply gM | apply gN | apply gO | apply gP | apply gQ | apply gR) | ((with_reducible first | apply gT | apply gS2); first | exact rfl | assumption | omega | exact ⟨⟩) | ((with_reducible first | apply gL0 | apply gL1 | apply gL2 | apply gL3 | apply gL4); assumption)))
          refine t_pu (c42 _ _) ?_
          (repeat (first | (with_reducible first | apply gA | apply gB | apply gC | apply gD | apply gE | apply gF | apply gG | apply gH | apply gI | apply gJ | apply gK | apply gL | apply gM | apply gN | apply gO | apply gP | apply gQ | apply gR) | ((with_reducible first | apply gT | apply gS2); first | exact rfl | assumption | omega | exact ⟨⟩) | ((with_reducible first | apply gL0 | apply gL1 | apply gL2 | apply gL3 | apply gL4); assumption)))
          refine t_buildG und23 inf69 (by decide) (by decide) (cells := #[.int .i64 e, .int .i64 e, .int .i64 k, .slice (some ⟨ri, 0, none⟩) 1 1]) (by kernel_rfl) fun rp h9 le9 _ ep => ?_; (repeat (first | (with_reducible first | apply gA | apply gB | apply gC | apply gD | apply gE | apply gF | apply gG | apply gH | apply gI | apply gJ | apply gK | apply gL | apply gM | apply gN | apply gO | apply gP | apply gQ | apply gR) | ((with_reducible first | apply gT | apply gS2); first | exact rfl | assumption | omega | exact ⟨⟩) | ((with_reducible first | apply gL0 | apply gL1 | apply gL2 | apply gL3 | apply gL4); assumption))); refine last _ _ ri _ _ _ _ rp (by omega) (LH.le_trans le7 (LH.le_trans le8 le9)) ((gc.le le8.1).le le9.1) (le9.1 _ _ ei) ep fun p' c' h' le' g' e' => ?_; (repeat (first | (with_reducible first | apply gA | apply gB | apply gC | apply gD | apply gE | apply gF | apply gG | apply gH | apply gI | apply gJ | apply gK | apply gL | apply gM | apply gN | apply gO | apply gP | apply gQ | apply gR) | ((with_reducible first | apply gT | apply gS2); first | exact rfl | assumption | omega | exact ⟨⟩) | ((with_reducible first | apply gL0 | apply gL1 | apply gL2 | apply gL3 | apply gL4); assumption))); exact t_again (next ri _ _ _ _ le' g' e')
      · refine t_buildG und50 inf3 (by decide) (by decide) (cells := #[.int .i64 v]) (by kernel_rfl) fun ri h7 le7 _ ei7 => ?_
        (repeat (first | (with_reducible first | apply gA | apply gB | apply gC | apply gD | apply gE | apply gF | apply gG | apply gH | apply gI | apply gJ | apply gK | apply gL | apply gM | apply gN | apply gO | apply gP | apply gQ | apply gR) | ((with_reducible first | apply gT | apply gS2); first | exact rfl | assumption | omega | exact ⟨⟩) | ((with_reducible first | apply gL0 | apply gL1 | apply gL2 | apply gL3 | apply gL4); assumption)))
        have le57 := LH.le_trans le6 le7
        refine t_copy (h₀ := h5) rfl rfl und23 und23 inf69 rfl (by omega) (by omega) (gr.le le7.1) le57 (PaperB.of (Rd.of_le le57.1) ho5.papers) paperTold fun p2 c2 h8 le8 kp gc => ?_
        have ei := kp ri _ (own_ne (gr.le le7.1) ei7) ei7
        (repeat (first | (with_reducible first | apply gA | apply gB | apply gC | apply gD | apply gE | apply gF | apply gG | apply gH | apply gI | apply gJ | apply gK | apply gL | apply gM | apply gN | apply gO | apply gP | apply gQ | apply gR) | ((with_reducible first | apply gT | apply gS2); first | exact rfl | assumption | omega | exact ⟨⟩) | ((with_reducible first | apply gL0 | apply gL1 | apply gL2 | apply gL3 | apply gL4); assumption)))
        refine t_pu (c42 _ _) ?_
        (repeat (first | (with_reducible first | apply gA | apply gB | apply gC | apply gD | apply gE | apply gF | apply gG | apply gH | apply gI | apply gJ | apply gK | apply gL | apply gM | apply gN | apply gO | apply gP | apply gQ | apply gR) | ((with_reducible first | apply gT | apply gS2); first | exact rfl | assumption | omega | exact ⟨⟩) | ((with_reducible first | apply gL0 | apply gL1 | apply gL2 | apply gL3 | apply gL4); assumption)))
        refine t_buildG und23 inf69 (by decide) (by decide) (cells := #[.int .i64 e, .int .i64 e, .int .i64 k, .slice (some ⟨ri, 0, none⟩) 1 1]) (by kernel_rfl) fun rp h9 le9 _ ep => ?_; (repeat (first | (with_reducible first | apply gA | apply gB | apply gC | apply gD | apply gE | apply gF | apply gG | apply gH | apply gI | apply gJ | apply gK | apply gL | apply gM | apply gN | apply gO | apply gP | apply gQ | apply gR) | ((with_reducible first | apply gT | apply gS2); first | exact rfl | assumption | omega | exact ⟨⟩) | ((with_reducible first | apply gL0 | apply gL1 | apply gL2 | apply gL3 | apply gL4); assumption))); refine last _ _ ri _ _ _ _ rp (by omega) (LH.le_trans le8 le9) (gc.le le9.1) (le9.1 _ _ ei) ep fun p' c' h' le' g' e' => ?_; (repeat (first | (with_reducible first | apply gA | apply gB | apply gC | apply gD | apply gE | apply gF | apply gG | apply gH | apply gI | apply gJ | apply gK | apply gL | apply gM | apply gN | apply gO | apply gP | apply gQ | apply gR) | ((with_reducible first | apply gT | apply gS2); first | exact rfl | assumption | omega | exact ⟨⟩) | ((with_reducible first | apply gL0 | apply gL1 | apply gL2 | apply gL3 | apply gL4); assumption))); exact t_again (next ri _ _ _ _ le' g' e')
    · refine t_buildG und50 inf3 (by decide) (by decide) (cells := #[.int .i64 v]) (by kernel_rfl) fun ri h6 le6 _ ei6 => ?_
      (repeat (first | (with_reducible first | apply gA | apply gB | apply gC | apply gD | apply gE | apply gF | apply gG | apply gH | apply gI | apply gJ | apply gK | apply gL | apply gM | apply gN | apply gO | apply gP | apply gQ | apply gR) | ((with_reducible first | apply gT | apply gS2); first | exact rfl | assumption | omega | exact ⟨⟩) | ((with_reducible first | apply gL0 | apply gL1 | apply gL2 | apply gL3 | apply gL4); assumption)))
      refine t_build0G (h₀ := h5) (Enc := PaperEnc h5.get) und23 inf69 le6 fun r0 h7 hr0 le7 gr => ?_
      (repeat (first | (with_reducible first | apply gA | apply gB | apply gC | apply gD | apply gE | apply gF | apply gG | apply gH | apply gI | apply gJ | apply gK | apply gL | apply gM | apply gN | apply gO | apply gP | apply gQ | apply gR) | ((with_reducible first | apply gT | apply gS2); first | exact rfl | assumption | omega | exact ⟨⟩) | ((with_reducible first | apply gL0 | apply gL1 | apply gL2 | apply gL3 | apply gL4); assumption)))
      have le57 := LH.le_trans le6 le7
      have ei7 := le7.1 _ _ ei6
      refine t_copy (h₀ := h5) rfl rfl und23 und23 inf69 rfl (by omega) (by omega) gr le57 (PaperB.of (Rd.of_le le57.1) ho5.papers) paperTold fun p2 c2 h8 le8 kp gc => ?_
      have ei := kp ri _ (own_ne gr ei7) ei7
      (repeat (first | (with_reducible first | apply gA | apply gB | apply gC | apply gD | apply gE | apply gF | apply gG | apply gH | apply gI | apply gJ | apply gK | apply gL | apply gM | apply gN | apply gO | apply gP | apply gQ | apply gR) | ((with_reducible first | apply gT | apply gS2); first | exact rfl | assumption | omega | exact ⟨⟩) | ((with_reducible first | apply gL0 | apply gL1 | apply gL2 | apply gL3 | apply gL4); assumption)))
      refine t_pu (c42 _ _) ?_
      (repeat (first | (with_reducible first | apply gA | apply gB | apply gC | apply gD | apply gE | apply gF | apply gG | apply gH | apply gI | apply gJ | apply gK | apply gL | apply gM | apply gN | apply gO | apply gP | apply gQ | apply gR) | ((with_reducible first | apply gT | apply gS2); first | exact rfl | assumption | omega | exact ⟨⟩) | ((with_reducible first | apply gL0 | apply gL1 | apply gL2 | apply gL3 | apply gL4); assumption)))
      refine t_buildG und23 inf69 (by decide) (by decide) (cells := #[.int .i64 e, .int .i64 e, .int .i64 k, .slice (some ⟨ri, 0, none⟩) 1 1]) (by kernel_rfl) fun rp h9 le9 _ ep => ?_; (repeat (first | (with_reducible first | apply gA | apply gB | apply gC | apply gD | apply gE | apply gF | apply gG | apply gH | apply gI | apply gJ | apply gK | apply gL | apply gM | apply gN | apply gO | apply gP | apply gQ | apply gR) | ((with_reducible first | apply gT | apply gS2); first | exact rfl | assumption | omega | exact ⟨⟩) | ((with_reducible first | apply gL0 | apply gL1 | apply gL2 | apply gL3 | apply gL4); assumption))); refine last _ _ ri _ _ _ _ rp (by omega) (LH.le_trans le8 le9) (gc.le le9.1) (le9.1 _ _ ei) ep fun p' c' h' le' g' e' => ?_; (repeat (first | (with_reducible first | apply gA | apply gB | apply gC | apply gD | apply gE | apply gF | apply gG | apply gH | apply gI | apply gJ | apply gK | apply gL | apply gM | apply gN | apply gO | apply gP | apply gQ | apply gR) | ((with_reducible first | apply gT | apply gS2); first | exact rfl | assumption | omega | exact ⟨⟩) | ((with_reducible first | apply gL0 | apply gL1 | apply gL2 | apply gL3 | apply gL4); assumption))); exact t_again (next ri _ _ _ _ le' g' e')
  · have hfin := hf
    rw [List.take_of_length_le (by omega)] at hfin
    (repeat (first | (with_reducible first | apply gA | apply gB | apply gC | apply gD | apply gE | apply gF | apply gG | apply gH | apply gI | apply gJ | apply gK | apply gL | apply gM | apply gN | apply gO | apply gP | apply gQ | apply gR) | ((with_reducible first | apply gT | apply gS2); first | exact rfl | assumption | omega | exact ⟨⟩) | ((with_reducible first | apply gL0 | apply gL1 | apply gL2 | apply gL3 | apply gL4); assumption)))
    refine t_if (fun _ => t_shown hch hpe hp le0 fun h' hh => t_ret ⟨rfl, hh⟩) (fun e => ?_)
    have co := fills_check hck hk hfin (by omega)
    have hqo : openF { u with papers := u.papers ++ ps } [landQ { u with papers := u.papers ++ ps } k, dayQ d] = 0 := leftQ_ok co hk hday
    refine t_gr (c28 (hp.le le0.1) ho k d) ?_
    intro r5 h5 le5 hr5
    obtain ⟨p5, n5, k5, rfl, s5⟩ := hr5.form
    rw [hqo, if_pos rfl, fills_none hck hfin] at s5
    rw [hqo]
    have hn5 : n5 = 0 := s5.1
    subst hn5
    (repeat (first | (with_reducible first | apply gA | apply gB | apply gC | apply gD | apply gE | apply gF | apply gG | apply gH | apply gI | apply gJ | apply gK | apply gL | apply gM | apply gN | apply gO | apply gP | apply gQ | apply gR) | ((with_reducible first | apply gT | apply gS2); first | exact rfl | assumption | omega | exact ⟨⟩) | ((with_reducible first | apply gL0 | apply gL1 | apply gL2 | apply gL3 | apply gL4); assumption)))
    refine t_cond (fun _ => ?_) (fun e => absurd e (by simp))
    refine t_cond (fun _ => ?_) (fun e => absurd e (by simp))
    exact t_shown hch hpe hp (LH.le_trans le0 le5) fun h' hh => t_ret ⟨rfl, hh⟩
end Go.Proofs.YtibibhojkfapnaaDoor
end
section
namespace Go.Proofs.YtibibhojkfapnaaDoor
open Go Go.TM Go.Proofs Go.ChangeShapes Go.WideShapes Go.RowKit
set_option maxRecDepth 100000
theorem useLacking_lifted (os : Os) (started : os.Started) (H : Type) (enc : TypeId × Value → H) :
    ReturnsInLeavingWide {} Tryd.checked os 12 .any (fun w args => (Rows.useLackingSpec.pre enc Tryd.prog Tryd.f12 [] false w args ∧ laidMetH Tryd.prog Rows.useWindowsRow.laid w) ∧ sizedMet enc Tryd.prog Tryd.f12 (OpenSpec.ofChange Rows.useLackingSpec) false w args)
      (Rows.useLackingSpec.post enc Tryd.prog Tryd.f12 false true false false) := by
  refine row_leaving (C := Tryd.checked) (tb := 4) own started Tryd.func12 (by kernel_rfl) rfl lo ?_ (by kernel_rfl) Tryd.underlying4 ?_
    (ChangeSpec.witness_shaped (enc := enc) (C := Tryd.checked) (os := os) (X := fun w _ => laidMetH Tryd.prog Rows.useWindowsRow.laid w) false (World.doorLaid Tryd.prog 200 os) #[noFile, .int .u8 0, .int .u16 0, .slice none 0 0] 8 rfl (door_shaped os _) (by kernel_rfl) (by kernel_rfl) (by kernel_rfl) (door_met os _)) ?_
  · exact fun t ht => of_decide_eq_true (List.all_eq_true.1 (show (Tryd.f12.params.toList.all fun t => decide (Tryd.prog.readableRec t = true ∧ t < Tryd.prog.types.size)) = true by kernel_rfl) t ht)
  · intro ds hd
    match ds, (show ds.length = 4 from hd) with
    | [d0, d1, d2, d3], _ => rfl
  · intro W base args ds ps hval0 hA0 hz0 hL
    have hval : ∀ (j : Nat) t v, Tryd.f12.params[j]? = some t → args[j]? = some v → Value.okWide Tryd.prog W .any base t v := hval0
    have hz : ∀ (j : Nat) t d, Tryd.f12.params.toList[j]? = some t → ds[j]? = some d → Light Tryd.prog t d := hz0
    have hA : DataW.TrodAll enc Tryd.prog W 0 (fun _ => true) true Tryd.f12.params.toList args.toList ds ps := hA0
    rw [Tryd.params12] at hval hz hA
    obtain ⟨v0, v1, v2, v3, d0, d1, d2, d3, q00, q01, q02, q03, rfl, rfl, rfl, h0, h1, h2, h3⟩ := trodAll_four hA
    obtain ⟨f0, u0, rfl, hu0⟩ := file_arg UT (hval 0 26 v0 rfl rfl) (hz 0 26 d0 rfl rfl) h0
    obtain ⟨x1, rfl, _, _, w1⟩ := open_int und5 (hval 1 5 v1 rfl rfl) h1
    obtain ⟨x2, rfl, _, _, w2⟩ := open_int und57 (hval 2 57 v2 rfl rfl) h2
    obtain ⟨p3, n3, k3, l3, rfl, s3⟩ := u16s_arg und58 und57 cells57 bytes57 (hval 3 58 v3 rfl rfl) (hz 3 58 d3 rfl rfl) h3
    exact FW.mono (c12 (h := ⟨getW W, [], [], []⟩) rfl rfl (parts_of_laid hL) hu0 x1 (wf_u8 w1) x2 (wf_u16 w2) s3) fun r h' hq => ⟨hq.1, hq.2.2.1⟩
theorem useLacking_row : Rows.UseLackingSaid :=
  OpenClaim.holds_of_wide_leaving 12 Tryd.f12 rfl rfl rfl rfl rfl rfl rfl ⟨rfl, rfl, rfl, rfl, rfl⟩ rfl rfl rfl rfl rfl (by kernel_rfl) Tryd.func12 (by kernel_rfl)
    (of_decide_eq_true (by kernel_rfl)) (by unfold Func.isWrapper; first | (rw [if_pos (by decide +kernel)]; kernel_rfl) | (rw [if_neg (by decide +kernel)]; exact ⟨rfl, rfl⟩))
    (fun os started H enc _ => useLacking_lifted os started H enc)
theorem useLacking_holds : Rows.UseLackingCardSaid :=
  card_goes [.funcs] true Rows.useLackingCard.stood.harness false useLacking_row (by kernel_rfl) useLacking_row_tie rfl ⟨rfl, rfl⟩ (by kernel_rfl) rfl
    (fun f fn hf hfn => by
      obtain rfl : f = 12 := Option.some.inj ((show Tryd.prog.funcNamed Rows.useLackingRow.func = some 12 by kernel_rfl).symm.trans hf) |>.symm
      obtain rfl : fn = Tryd.f12 := (Option.some.inj (Tryd.func12.symm.trans hfn)).symm
      exact ⟨by kernel_rfl, fun j t ht => by
        have hm := Array.mem_of_getElem? ht
        have := of_decide_eq_true (List.all_eq_true.1 (show (Tryd.f12.params.toList.all fun t => decide (Tryd.prog.wantsStandIn t = false)) = true by kernel_rfl) t (Array.mem_toList_iff.2 hm))
        exact this⟩)
    (by kernel_rfl)
end Go.Proofs.YtibibhojkfapnaaDoor
end
#print axioms Go.Proofs.YtibibhojkfapnaaDoor.useLacking_holds

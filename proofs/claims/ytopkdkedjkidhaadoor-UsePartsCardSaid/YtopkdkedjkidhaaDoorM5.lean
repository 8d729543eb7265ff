/- Contracts and laws for the proof, joined by a program. No condition. -/
import Derived.Test.YtopkdkedjkidhaaDoorM4
set_option linter.all false
section
namespace Go.Proofs.YtopkdkedjkidhaaDoor
open Go Go.TM Go.Proofs
attribute [local irreducible] T.wp CV FWK
def Sent (u : UseFile) (land day : Int) (i : Nat) (v : Value) (hv : Cells) : Prop :=
  if enoughB u land day (subsetL u.papers.length i) (leftAll u land day) then ∃ a n c, v = .slice (some a) n c ∧ Sl IntE 1 hv (some a) n (subsetL u.papers.length i) ∧ n ≤ c else v = .slice none 0 0
theorem subset_in {n i : Nat} : ∀ v ∈ subsetL n i, 0 ≤ v ∧ v < (n : Int) := by
  intro v hv
  unfold subsetL at hv
  obtain ⟨j, hj, rfl⟩ := List.mem_map.1 hv
  have := List.mem_range.1 (List.mem_filter.1 hj).1
  omega
theorem subset_len {n i : Nat} : (subsetL n i).length ≤ n := by
  unfold subsetL
  rw [List.length_map]
  exact Nat.le_trans (List.length_filter_le _ _) (by simp)
theorem bit_test {i j : Nat} (hi : i < 2 ^ 32) : (IntKind.wrap .i64 (((BitVec.ofInt 64 (Int.fdiv (i : Int) (2 ^ min (j : Int).toNat 64)) &&& BitVec.ofInt 64 1).toNat : Nat) : Int) == 1) = i.testBit j := by
  have hq : ∃ q : Nat, Int.fdiv (i : Int) (2 ^ min (j : Int).toNat 64) = (q : Int) ∧ q ≤ i ∧ q % 2 = (i / 2 ^ j) % 2 := by
    by_cases hj : j ≤ 64
    · have hm : min (j : Int).toNat 64 = j := by simp; omega
      refine ⟨i / 2 ^ j, ?_, Nat.div_le_self _ _, rfl⟩
      rw [hm]
      have : (2 ^ j : Int) = ((2 ^ j : Nat) : Int) := by simp
      rw [this, ← Int.ofNat_fdiv]
    · have hm : min (j : Int).toNat 64 = 64 := by simp; omega
      refine ⟨0, ?_, Nat.zero_le _, ?_⟩
      · rw [hm]
        have : (2 ^ 64 : Int) = ((2 ^ 64 : Nat) : Int) := by simp
        rw [this, ← Int.ofNat_fdiv]
        have : i / 2 ^ 64 = 0 := Nat.div_eq_of_lt (by omega)
        rw [this]
      · have : i / 2 ^ j = 0 := Nat.div_eq_of_lt (Nat.lt_of_lt_of_le hi (Nat.pow_le_pow_right (by omega) (by omega)))
        rw [this]
  obtain ⟨q, h1, h2, h3⟩ := hq
  rw [h1]
  have a1 : (BitVec.ofInt 64 (q : Int)).toNat = q := by rw [BitVec.toNat_ofInt]; omega
  have a2 : (BitVec.ofInt 64 1).toNat = 1 := rfl
  rw [BitVec.toNat_and, a1, a2, Nat.and_one_is_mod, wrap_id (by omega) (by omega), Nat.testBit_eq_decide_div_mod_eq, ← h3]
  by_cases e : q % 2 = 1
  · rw [e]; rfl
  · have : q % 2 = 0 := by omega
    rw [this]; rfl
theorem subset_take {n i j : Nat} (hj : j < n) : ((List.range n).take (j + 1)).filter (fun j => i.testBit j) = ((List.range n).take j).filter (fun j => i.testBit j) ++ (if i.testBit j then [j] else []) := by
  rw [List.take_succ_eq_append_getElem (by simpa using hj), List.filter_append]
  congr 1
  simp [List.filter_cons]
theorem c74 {hc : Cells} {c0 i : Nat} {z0 z1 z2 z3 z4 z5 : Addr} {f : FileC} {u : UseFile} {land day : Int} (hp : Parts hc) (hu : FileR hc f u) (hat : FileAt hc z0 f u) (hpap : u.papers.length ≤ 8) (hi : i < 2 ^ 32) (h1 : hc.cell? z1 = some (.int .i64 (i : Int))) (h2 : hc.cell? z2 = some (.int .i64 land)) (h3 : hc.cell? z3 = some (.int .i64 day))
    {ap : Option Addr} {an ac : Nat} (h4 : hc.cell? z4 = some (.slice ap an ac)) (hal : Sl IntE 1 hc ap an (leftAll u land day)) (h5 : hc.cell? z5 = some (.chan (some c0))) :
    FWK XW Tryd.prog .deferred 66 #[.pointer (some z0), .pointer (some z1), .pointer (some z2), .pointer (some z3), .pointer (some z4), .pointer (some z5)] ⟨hc, [], [], [(c0, Sent u land day i)]⟩ fun _ _ => False := by
  refine w74 _ _ _ _ _ _ XW_ok ?_
  unfold n74
  have hn5 := hu.papers.1
  refine t_build0 und50 inf3 fun b0 hb0 => ?_
  have le0 : LH.le ⟨hc, [], [], [(c0, Sent u land day i)]⟩ _ := LH.upd_le (x := (true, .cells #[] 3 (0, 0))) hb0
  (repeat (first | (with_reducible first | apply gA | apply gB | apply gC | apply gD | apply gE | apply gF | apply gG | apply gH | apply gI | apply gJ | apply gK | apply gL | apply gM | apply gN | apply gO | apply gP | apply gQ | apply gR) | ((with_reducible first | apply gT | apply gS2); first | exact rfl | assumption | omega | exact ⟨⟩) | ((with_reducible first | apply gL0 | apply gL1 | apply gL2 | apply gL3 | apply gL4); assumption)))
  have g5 := Cells.cell?_le le0.1 hat.f5
  refine gL1 g5 ?_
  refine t_loop (fun mm vs h' => LH.le ⟨hc, [], [], [(c0, Sent u land day i)]⟩ h' ∧ ∃ (j : Nat) (a : Addr) (n c : Nat), vs = [.slice (some a) n c, .int .i64 j] ∧ j ≤ f.n5 ∧ mm = f.n5 - j ∧ Growing IntEnc 3 1 hc h'.get (some a) n c (((List.range u.papers.length).take j).filter (fun j => i.testBit j) |>.map fun j : Nat => (j : Int)))
    ⟨le0, 0, _, 0, 0, rfl, Nat.zero_le _, rfl, ⟨[], ⟨rfl, .inr ⟨b0, #[], rfl, Cells.upd_self _ _ _, rfl, Nat.le_refl _, fun j v hv => by simp at hv⟩⟩, .nil⟩, fun a ha => by cases ha; exact hb0⟩ ?_
  rintro Y mm vs h₁ hY ⟨hle, j, a, n, c, rfl, hj, rfl, g⟩
  (repeat (first | (with_reducible first | apply gA | apply gB | apply gC | apply gD | apply gE | apply gF | apply gG | apply gH | apply gI | apply gJ | apply gK | apply gL | apply gM | apply gN | apply gO | apply gP | apply gQ | apply gR) | ((with_reducible first | apply gT | apply gS2); first | exact rfl | assumption | omega | exact ⟨⟩) | ((with_reducible first | apply gL0 | apply gL1 | apply gL2 | apply gL3 | apply gL4); assumption)))
  refine t_if (fun e1 => ?_) (fun e1 => ?_)
  · have k1 := Cells.cell?_le hle.1 h1
    refine gL0 k1 ?_
    (repeat (first | (with_reducible first | apply gA | apply gB | apply gC | apply gD | apply gE | apply gF | apply gG | apply gH | apply gI | apply gJ | apply gK | apply gL | apply gM | apply gN | apply gO | apply gP | apply gQ | apply gR) | ((with_reducible first | apply gT | apply gS2); first | exact rfl | assumption | omega | exact ⟨⟩) | ((with_reducible first | apply gL0 | apply gL1 | apply gL2 | apply gL3 | apply gL4); assumption)))
    rw [bit_test hi]
    have hst := subset_take (n := u.papers.length) (i := i) (j := j) (by omega)
    refine t_cond (fun b => ?_) (fun b => ?_)
    · rw [if_pos b] at hst
      refine t_build und50 inf3 (by decide) (by decide) (cells := #[.int .i64 (j : Int)]) (by kernel_rfl) fun r hr => ?_
      have le2 : h₁.le _ := LH.upd_le (x := (true, .cells #[.int .i64 (j : Int)] 3 (0, 0))) hr
      have hng := g.count IntEnc.len (by omega)
      have hlen : (((List.range u.papers.length).take j).filter (fun j => i.testBit j)).length ≤ 8 := Nat.le_trans (List.length_filter_le _ _) (by rw [List.length_take, List.length_range]; omega)
      rw [List.length_map] at hng
      (repeat (first | (with_reducible first | apply gA | apply gB | apply gC | apply gD | apply gE | apply gF | apply gG | apply gH | apply gI | apply gJ | apply gK | apply gL | apply gM | apply gN | apply gO | apply gP | apply gQ | apply gR) | ((with_reducible first | apply gT | apply gS2); first | exact rfl | assumption | omega | exact ⟨⟩) | ((with_reducible first | apply gL0 | apply gL1 | apply gL2 | apply gL3 | apply gL4); assumption)))
      refine t_grow (h₀ := ⟨hc, [], [], [(c0, Sent u land day i)]⟩) (x := (j : Int)) (ws := [.int .i64 (j : Int)]) rfl rfl und50 und50 inf3 rfl (by omega) (by omega) (g.le le2.1) (LH.le_trans hle le2) rfl rfl ?_ ?_ ?_
      · intro j w hj
        rw [add_plain, Nat.zero_add]
        exact cell_upd (by simpa using hj)
      · intro w hw; simp at hw; subst hw; rfl
      · intro p' c' h₂ hle2 _ g2
        (repeat (first | (with_reducible first | apply gA | apply gB | apply gC | apply gD | apply gE | apply gF | apply gG | apply gH | apply gI | apply gJ | apply gK | apply gL | apply gM | apply gN | apply gO | apply gP | apply gQ | apply gR) | ((with_reducible first | apply gT | apply gS2); first | exact rfl | assumption | omega | exact ⟨⟩) | ((with_reducible first | apply gL0 | apply gL1 | apply gL2 | apply gL3 | apply gL4); assumption)))
        obtain ⟨a', rfl⟩ : ∃ a', p' = some a' := by
          obtain ⟨vs, ⟨_, h6⟩, _⟩ := g2.row
          rcases h6 with ⟨_, h7, _⟩ | ⟨r, cs, h7, _⟩
          · omega
          · exact ⟨_, h7⟩
        refine t_again (hY (f.n5 - (j + 1)) _ _ (by omega) ⟨hle2, j + 1, a', n + 1, c', ?_, by omega, rfl, by rw [hst, List.map_append]; exact g2⟩)
        rw [wrap_id (by omega) (by omega)]; rfl
    · rw [if_neg (by rw [b]; simp), List.append_nil] at hst
      refine t_again (hY (f.n5 - (j + 1)) _ _ (by omega) ⟨hle, j + 1, a, n, c, ?_, by omega, rfl, by rw [hst]; exact g⟩)
      rw [wrap_id (by omega) (by omega)]; rfl
  · (repeat (first | (with_reducible first | apply gA | apply gB | apply gC | apply gD | apply gE | apply gF | apply gG | apply gH | apply gI | apply gJ | apply gK | apply gL | apply gM | apply gN | apply gO | apply gP | apply gQ | apply gR) | ((with_reducible first | apply gT | apply gS2); first | exact rfl | assumption | omega | exact ⟨⟩) | ((with_reducible first | apply gL0 | apply gL1 | apply gL2 | apply gL3 | apply gL4); assumption)))
    have htake : (((List.range u.papers.length).take j).filter (fun j => i.testBit j) |>.map fun j : Nat => (j : Int)) = subsetL u.papers.length i := by
      rw [List.take_of_length_le (by simp; omega)]; rfl
    rw [htake] at g
    obtain ⟨g0, g1, g2, g3, g4, g5, g6⟩ := hat.le hle.1
    have k2 := Cells.cell?_le hle.1 h2
    have k3 := Cells.cell?_le hle.1 h3
    have k4 := Cells.cell?_le hle.1 h4
    have k5 := Cells.cell?_le hle.1 h5
    (repeat (first | (with_reducible first | apply gA | apply gB | apply gC | apply gD | apply gE | apply gF | apply gG | apply gH | apply gI | apply gJ | apply gK | apply gL | apply gM | apply gN | apply gO | apply gP | apply gQ | apply gR) | ((with_reducible first | apply gT | apply gS2); first | exact rfl | assumption | omega | exact ⟨⟩) | ((with_reducible first | apply gL0 | apply gL1 | apply gL2 | apply gL3 | apply gL4); assumption)))
    have hsub := subset_len (n := u.papers.length) (i := i)
    have hll : (leftAll u land day).length = u.items.toNat := by unfold leftAll; rw [List.length_map, List.length_range]
    refine t_gr (c71 (hp.le hle.1) (hu.le hle.1) land day (g.sl IntEnc.len (by omega) IntEnc.e (by omega)) subset_in (by omega) (hal.le IntE.grow hle.1) hll) ?_
    rintro _ h₂ le2 rfl
    have k5 := Cells.cell?_le le2.1 k5
    (repeat (first | (with_reducible first | apply gA | apply gB | apply gC | apply gD | apply gE | apply gF | apply gG | apply gH | apply gI | apply gJ | apply gK | apply gL | apply gM | apply gN | apply gO | apply gP | apply gQ | apply gR) | ((with_reducible first | apply gT | apply gS2); first | exact rfl | assumption | omega | exact ⟨⟩) | ((with_reducible first | apply gL0 | apply gL1 | apply gL2 | apply gL3 | apply gL4); assumption)))
    have hle2 := LH.le_trans hle le2
    refine t_cond (fun b => ?_) (fun b => ?_)
    · refine t_loadC k5 ?_
      refine t_comm ?_
      refine commW_send (z := .tuple #[]) (φ := Sent u land day i) (s := []) (hv := fun _ => none) (hr := h₂.get) hle2.2.2.2 ?_ (fun r => .inl rfl) (fun r x hx => by cases hx) ?_ (fun _ => rfl) (fun h => absurd rfl h)
      · funext r; rfl
      · have b' : enoughB u land day (subsetL u.papers.length i) (leftAll u land day) = false := by simpa using b
        unfold Sent; rw [if_neg (by rw [b']; simp)]
    · refine t_loadC k5 ?_
      refine t_comm ?_
      have g7 := g.le le2.1
      obtain ⟨vs, ⟨o1, o2⟩, rows⟩ := g7.row
      rcases o2 with ⟨o3, _⟩ | ⟨r, cs, o3, o4, o5, o6, o7⟩
      · cases o3
      · cases o3
        refine commW_send (z := .tuple #[]) (φ := Sent u land day i) (s := []) (hv := fun b => if b = r then h₂.get b else none) (hr := fun b => if b = r then none else h₂.get b) hle2.2.2.2 ?_ (fun b => ?_) (fun b x hx => ?_) ?_ (fun _ => rfl) (fun h => absurd rfl h)
        · funext b
          unfold Cells.add
          by_cases e : b = r
          · subst e; simp [o4]
          · simp [e]
        · by_cases e : b = r
          · right; simp [e]
          · left; simp [e]
        · have hx' : (if b = r then h₂.get b else none) = some x := hx
          split at hx'
          · rename_i e; subst e; rw [o4] at hx'; cases hx'; rfl
          · cases hx'
        · have b' : enoughB u land day (subsetL u.papers.length i) (leftAll u land day) = true := by simpa using b
          unfold Sent; rw [if_pos b']
          refine ⟨_, _, _, rfl, ?_, o6⟩
          refine rows.sl IntEnc.len (by omega) IntEnc.e (el := 3) ⟨o1, .inr ⟨r, cs, rfl, ?_, o5, o6, o7⟩⟩ (by omega)
          show (if r = r then h₂.get r else none) = _
          rw [if_pos rfl]; exact o4
end Go.Proofs.YtopkdkedjkidhaaDoor
end
section
namespace Go.TM
open Go Go.Conc
variable {P : Program}
theorem t_newSt {X : XP} {Q : Leaf → LH → Prop} {h : LH} {e : TypeId} {v₀ v : Value} {k : Nat → T} (h1 : isOne v = true) (hk : ∀ r, h.get r = none → (k r).wp X P Q { h with get := h.get.upd r (true, .cells #[v] e (0, 0)) }) :
    (T.new e #[v₀] fun r => T.store (Addr.add ⟨r, 0, none⟩ 0) v (k r)).wp X P Q h := by
  refine t_new fun r hr => ?_
  have own1 : (h.get.upd r (true, .cells #[v₀] e (0, 0))) r = some (true, .cells #[v₀] e (0, 0)) := Cells.upd_self _ _ _
  refine t_store h1 ⟨_, own1⟩ (v₀ := v₀) (by show Cells.cell? _ _ = _; exact cell_upd rfl) (Go.Proofs.YtopkdkedjkidhaaDoor.frozen_plain (i := 0) own1) ?_
  have hset : (h.get.upd r (true, .cells #[v₀] e (0, 0))).setCell (Addr.add ⟨r, 0, none⟩ 0) v = h.get.upd r (true, .cells #[v] e (0, 0)) := by
    show Cells.setCell _ ⟨r, 0, none⟩ v = _
    rw [Go.Proofs.YtopkdkedjkidhaaDoor.setCell_upd own1]
    funext b; unfold Cells.upd; by_cases e : b = r <;> simp [e]
  simp only [hset]
  exact hk r hr
theorem cell_freeze (F : Nat → Bool) (h : Cells) (a : Addr) : (freezeC F h).cell? a = h.cell? a := by
  unfold Cells.cell? freezeC
  cases h a.block with
  | none => rfl
  | some x => obtain ⟨m, o⟩ := x; cases o <;> rfl
theorem rd_freeze (F : Nat → Bool) (h : Cells) : Rd h (freezeC F h) := fun a v hc => by rw [cell_freeze]; exact hc
theorem rd_drop {h : Cells} {c s : Nat} (hs : h c = some (true, .chan 0 #[] false s s false)) : Rd h (dropC h c) := by
  intro a v hc
  unfold Cells.cell? dropC at *
  by_cases e : a.block = c
  · rw [e, hs] at hc; cases hc
  · rw [if_neg e]; exact hc
def Hand (c0 : Nat) (h : LH) : Prop := (h.chans = [] ∧ ∃ s, h.get c0 = some (true, .chan 0 #[] false s s false)) ∨ h.chans = [c0]
theorem spawnW_all {f : FuncId} {cap : Array Value} {h : LH} {Q : LH → Prop} (c0 : Nat) {φ : Value → Cells → Prop} (hst : Hand c0 h) (c : ∀ hc, Rd h.get hc → FWK XW P .deferred f cap ⟨hc, [], [], [(c0, φ)]⟩ fun _ _ => False)
    (hQ : ∀ h', Rd h.get h'.get → h'.chans = [c0] → h'.todo = h.todo → h'.pend = h.pend ++ [[(c0, φ)]] → Q h') : SpawnW XT P (.func (.func f) #[] cap) #[] h Q := by
  have key : ∀ h1 : LH, Rd h.get h1.get → h1.chans = [c0] → h1.todo = h.todo → h1.pend = h.pend → SpawnW XT P (.func (.func f) #[] cap) #[] h1 Q := by
    intro h1 r1 c1 t1 p1
    refine spawnW (fun _ => true) (freezeC (fun _ => true) h1.get) [(c0, φ)] (by simp) (hargs := cap) (by simp) ?_ ?_ (c _ (r1.trans (rd_freeze _ _))) ?_
    · intro r x hx
      refine ⟨?_, hx⟩
      unfold freezeC at hx
      cases hy : h1.get r with
      | none => rw [hy] at hx; cases hx
      | some y => rw [hy] at hx; simp at hx; rw [← hx]
    · intro y hy
      simp at hy; subst hy; rw [c1]; simp
    · exact hQ _ (r1.trans (rd_freeze _ _)) c1 t1 (by show h1.pend ++ _ = _; rw [p1])
  rcases hst with ⟨h1, s, h2⟩ | h1
  · refine SpawnW.opened c0 s h2 (key _ (rd_drop h2) ?_ rfl rfl)
    show c0 :: h.chans = _
    rw [h1]
  · exact key h (Rd.refl _) h1 rfl rfl
theorem commW_gather {last : Bool} {shape : CommShape} {c0 : Nat} {z : Value} {φ : Nat → Value → Cells → Prop} {rem : List Nat} {h : LH} {Q : Value → LH → Prop} (hp : h.pend = rem.map fun i => [(c0, φ i)]) (hc : h.chans = [c0]) (hne : rem ≠ [])
    (hQ : ∀ i rest v h₂, i ∈ rem → (∀ j, j ∈ rem → j = i ∨ j ∈ rest) → (∀ j, j ∈ rest → j ∈ rem) → rest.length + 1 = rem.length → h₂.todo = h.todo → h₂.pend = rest.map (fun i => [(c0, φ i)]) → ((rest ≠ [] ∧ h₂.chans = [c0]) ∨ (rest = [] ∧ h₂.chans = [] ∧ ∃ s, h₂.get c0 = some (true, .chan 0 #[] false s s false))) →
      (∃ hv, φ i v hv ∧ hv.le h₂.get) → h.get.le h₂.get → Q (commResult #[rcase c0 z] shape 0 v true) h₂) : CommW XT P last #[rcase c0 z] shape h Q := by
  refine CommW.closed (commW_recv ?_ (by rw [hp]; simpa using hne) ?_ ?_)
  · intro k cc hk
    cases k with
    | zero => simp at hk; subst hk; exact ⟨c0, z, rfl, by rw [hc]; simp⟩
    | succ k => simp at hk
  · intro s hs
    rw [hp] at hs
    obtain ⟨i, hi, rfl⟩ := List.mem_map.1 hs
    exact ⟨c0, φ i, [], 0, z, rfl, rfl⟩
  · intro pre ψ s post k c v hv z' hpe hcase hd hown hφ
    rw [hp] at hpe
    obtain ⟨l1, l2, rfl, hl1, hl2⟩ := List.map_eq_append_iff.1 hpe
    obtain ⟨i, l3, rfl, hi, hl3⟩ := List.map_eq_cons_iff.1 hl2
    cases hi
    have hk0 : k = 0 := by
      cases k with
      | zero => rfl
      | succ k => simp at hcase
    subst hk0
    have le1 : h.get.le (h.get.add hv) := Cells.le_add _ _
    have le2 : hv.le (h.get.add hv) := fun r x hr => Cells.add_right' hd hr
    have hpend : pre ++ cons' [] post = (l1 ++ l3).map fun i => [(c0, φ i)] := by
      show pre ++ post = _
      rw [← hl1, ← hl3, List.map_append]
    by_cases hn : l1 ++ l3 = []
    · right
      refine ⟨c0, by show c0 ∈ h.chans; rw [hc]; simp, by show pre ++ cons' [] post = []; rw [hpend, hn]; rfl, fun s hs => ?_⟩
      refine hQ i (l1 ++ l3) v _ (by simp) (fun j hj => ?_) (fun j hj => ?_) (by simp; omega) rfl hpend (.inr ⟨hn, ?_, s, Cells.upd_self _ _ _⟩) ⟨hv, hφ, ?_⟩ ?_
      · simp at hj ⊢; grind
      · simp at hj ⊢; grind
      · show h.chans.filter _ = []
        rw [hc]; simp
      · exact Cells.le_trans le2 (Cells.le_upd _ hs)
      · exact Cells.le_trans le1 (Cells.le_upd _ hs)
    · left
      refine hQ i (l1 ++ l3) v _ (by simp) (fun j hj => ?_) (fun j hj => ?_) (by simp; omega) rfl hpend (.inl ⟨hn, hc⟩) ⟨hv, hφ, le2⟩ le1
      · simp at hj ⊢; grind
      · simp at hj ⊢; grind
end Go.TM
namespace Go.Proofs.YtopkdkedjkidhaaDoor
open Go Go.TM Go.Proofs
attribute [local irreducible] T.wp CV FWK
theorem Parts.rd {h h' : Cells} (hl : Rd h h') (p : Parts h) : Parts h' := fun j hj => hl _ _ (p j hj)
/-! ### fewerF is an order -/
theorem cmpI_neg (x y : Int) : cmpI y x = - cmpI x y := by unfold cmpI; repeat' split <;> omega
theorem cmpL_neg : ∀ a b : List Int, cmpL b a = - cmpL a b := by
  intro a
  induction a with
  | nil => intro b; cases b <;> rfl
  | cons x a ih =>
    intro b
    cases b with
    | nil => rfl
    | cons y b =>
      simp only [cmpL]
      rw [cmpI_neg x y, ih b]
      by_cases e : cmpI x y = 0
      · simp [e]
      · rw [if_pos (by omega), if_pos e]
theorem cmpL_trans : ∀ a b c : List Int, cmpL a b ≤ 0 → cmpL b c ≤ 0 → cmpL a c ≤ 0 := by
  intro a
  induction a with
  | nil => intro b c _ _; cases c <;> simp [cmpL]
  | cons x a ih =>
    intro b c h1 h2
    cases b with
    | nil => simp [cmpL] at h1
    | cons y b =>
      cases c with
      | nil => simp [cmpL] at h2
      | cons z c =>
        simp only [cmpL] at h1 h2 ⊢
        have := ih b c
        unfold cmpI at h1 h2 ⊢
        by_cases a1 : x < y
        · by_cases a2 : y < z
          · rw [if_pos (by rw [if_pos (show x < z by omega)]; omega), if_pos (show x < z by omega)]; omega
          · by_cases a3 : y = z
            · subst a3; simp [a1]
            · have : y > z := by omega
              simp [a2, this] at h2
        · by_cases a4 : x = y
          · subst a4
            simp at h1
            by_cases a2 : x < z
            · simp [a2]
            · by_cases a3 : x = z
              · subst a3; simp at h2 ⊢; exact this h1 h2
              · have : x > z := by omega
                simp [a2, this] at h2
          · have : x > y := by omega
            simp [a1, this] at h1
theorem fewer_neg (a b : List Int) : fewerF b a = - fewerF a b := by
  unfold fewerF
  by_cases e : a.length = b.length
  · rw [if_neg (by omega), if_neg (by omega), cmpL_neg a b]
  · rw [if_pos (by omega), if_pos (by omega)]; omega
theorem fewer_trans {a b c : List Int} (h1 : fewerF a b ≤ 0) (h2 : fewerF b c ≤ 0) : fewerF a c ≤ 0 := by
  unfold fewerF at *
  by_cases e1 : a.length = b.length
  · rw [if_neg (by omega)] at h1
    by_cases e2 : b.length = c.length
    · rw [if_neg (by omega)] at h2
      rw [if_neg (by omega)]
      exact cmpL_trans a b c h1 h2
    · rw [if_pos (by omega)] at h2
      rw [if_pos (by omega)]; omega
  · rw [if_pos (by omega)] at h1
    by_cases e2 : b.length = c.length
    · rw [if_pos (by omega)]; omega
    · rw [if_pos (by omega)] at h2
      rw [if_pos (by omega)]; omega
theorem fewer_self (a : List Int) : fewerF a a ≤ 0 := by
  have := fewer_neg a a
  omega
def okF (u : UseFile) (land day : Int) (i : Nat) : Bool := enoughB u land day (subsetL u.papers.length i) (leftAll u land day)
def BestR (h : Cells) (u : UseFile) (land day : Int) (rem : List Nat) (p : Option Addr) (n : Nat) : Prop :=
  (p = none ∧ n = 0 ∧ ∀ j, j < 2 ^ u.papers.length → j ∉ rem → okF u land day j = false) ∨
  (∃ i a, p = some a ∧ i < 2 ^ u.papers.length ∧ okF u land day i = true ∧ Sl IntE 1 h (some a) n (subsetL u.papers.length i) ∧ ∀ j, j < 2 ^ u.papers.length → j ∉ rem → okF u land day j = true → fewerF (subsetL u.papers.length i) (subsetL u.papers.length j) ≤ 0)
def KeepR (h' : Cells) (u : UseFile) (land day : Int) (r : Value) : Prop :=
  (openF u [landQ u land, dayQ day] ≠ 0 ∧ r = .tuple #[.slice none 0 0, .int .i64 (openF u [landQ u land, dayQ day])]) ∨
  (openF u [landQ u land, dayQ day] = 0 ∧ ∃ p n c, r = .tuple #[.slice p n c, .int .i64 0] ∧ BestR h' u land day [] p n ∧ n ≤ c)
theorem BestR.skip {h h' : Cells} {u : UseFile} {land day : Int} {rem rest : List Nat} {p : Option Addr} {n i : Nat} (b : BestR h u land day rem p n) (hr : ∀ j, j ∈ rem → j = i ∨ j ∈ rest) (hi : okF u land day i = false) (hrd : Rd h h') : BestR h' u land day rest p n := by
  rcases b with ⟨h1, h2, h3⟩ | ⟨k, a, h1, h2, h3, h4, h5⟩
  · refine .inl ⟨h1, h2, fun j hj hn => ?_⟩
    by_cases e : j = i
    · rw [e]; exact hi
    · exact h3 j hj fun hm => (hr j hm).elim e hn
  · refine .inr ⟨k, a, h1, h2, h3, h4.rd IntE.grow hrd, fun j hj hn ho => ?_⟩
    by_cases e : j = i
    · rw [e] at ho; exact absurd ho (by rw [hi]; simp)
    · exact h5 j hj (fun hm => (hr j hm).elim e hn) ho
theorem BestR.take {h h' : Cells} {u : UseFile} {land day : Int} {rem rest : List Nat} {p : Option Addr} {n i n' : Nat} {a : Addr} (b : BestR h u land day rem p n) (hr : ∀ j, j ∈ rem → j = i ∨ j ∈ rest) (hi : okF u land day i = true) (hlt : i < 2 ^ u.papers.length) (hs : Sl IntE 1 h' (some a) n' (subsetL u.papers.length i))
    (hb : p = none ∨ ∀ k, okF u land day k = true → Sl IntE 1 h p n (subsetL u.papers.length k) → fewerF (subsetL u.papers.length i) (subsetL u.papers.length k) ≤ 0) : BestR h' u land day rest (some a) n' := by
  rcases b with ⟨h1, h2, h3⟩ | ⟨k, a', h1, h2, h3, h4, h5⟩
  · refine .inr ⟨i, a, rfl, hlt, hi, hs, fun j hj hn ho => ?_⟩
    by_cases e : j = i
    · rw [e]; exact fewer_self _
    · have := h3 j hj fun hm => (hr j hm).elim e hn
      rw [this] at ho; cases ho
  · have hle := hb.resolve_left (by rw [h1]; simp) k h3 (by rw [h1]; exact h4)
    refine .inr ⟨i, a, rfl, hlt, hi, hs, fun j hj hn ho => ?_⟩
    by_cases e : j = i
    · rw [e]; exact fewer_self _
    · exact fewer_trans hle (h5 j hj (fun hm => (hr j hm).elim e hn) ho)
theorem BestR.stay {h h' : Cells} {u : UseFile} {land day : Int} {rem rest : List Nat} {p : Option Addr} {n i : Nat} (b : BestR h u land day rem p n) (hr : ∀ j, j ∈ rem → j = i ∨ j ∈ rest) (hp : p ≠ none) (hrd : Rd h h')
    (hb : ∀ k, Sl IntE 1 h p n (subsetL u.papers.length k) → fewerF (subsetL u.papers.length k) (subsetL u.papers.length i) ≤ 0) : BestR h' u land day rest p n := by
  rcases b with ⟨h1, h2, h3⟩ | ⟨k, a', h1, h2, h3, h4, h5⟩
  · exact absurd h1 hp
  · refine .inr ⟨k, a', h1, h2, h3, h4.rd IntE.grow hrd, fun j hj hn ho => ?_⟩
    by_cases e : j = i
    · rw [e]; exact hb k (by rw [h1]; exact h4)
    · exact h5 j hj (fun hm => (hr j hm).elim e hn) ho
theorem Sl.same {h : Cells} {p : Option Addr} {n : Nat} {a b : List Int} (ha : Sl IntE 1 h p n a) (hb : Sl IntE 1 h p n b) : a = b := by
  refine List.ext_getElem (by rw [← ha.1, ← hb.1]) fun i h1 h2 => ?_
  obtain ⟨x, c, e1, e2, e3⟩ := ha.at (i := i) (by rw [ha.1]; exact h1)
  obtain ⟨y, d, e4, e5, e6⟩ := hb.at (i := i) (by rw [hb.1]; exact h2)
  rw [e2] at e5; cases e5
  unfold IntE at e3 e6
  rw [e3] at e6; cases e6
  rw [List.getElem?_eq_getElem h1] at e1
  rw [List.getElem?_eq_getElem h2] at e4
  exact (Option.some.inj e1).trans (Option.some.inj e4).symm
theorem sets_wrap {n : Nat} (hn : n ≤ 8) : IntKind.wrap .i64 (1 * 2 ^ min (Int.toNat (n : Int)) 64) = ((2 ^ n : Nat) : Int) := by
  have e : min (Int.toNat (n : Int)) 64 = n := by simp; omega
  have h2 : (2 : Nat) ^ n ≤ 2 ^ 8 := Nat.pow_le_pow_right (by omega) hn
  have e2 : (1 : Int) * 2 ^ n = ((2 ^ n : Nat) : Int) := by simp
  rw [e, e2]
  generalize 2 ^ n = m at h2
  rw [wrap_id (by omega) (by omega)]
set_option maxRecDepth 100000 in
theorem c33 {h : LH} (hch : h.chans = []) (hpe : h.pend = []) {f : FileC} {u : UseFile} (hp : Parts h.get) (hu : FileR h.get f u) (land day : Int) :
    FW XT Tryd.prog 28 #[fileV f u, .int .i64 land, .int .i64 day] h fun r h' => Rd h.get h'.get ∧ h'.chans = [] ∧ h'.pend = [] ∧ h'.todo = h.todo ∧ KeepR h'.get u land day r := by
  refine w33 _ _ _ _ _ _ _ _ _ _ _ _ _ _ _ XT_ok ?_
  unfold n33
  refine t_new fun r hr => ?_
  have le0 : h.le _ := LH.upd_le (x := (true, .cells #[.int .i64 u.items, .int .i64 u.lands, .int .i64 u.from_, .int .i64 u.idle, .slice f.p4 f.n4 f.c4, .slice f.p5 f.n5 f.c5, .slice f.p6 f.n6 f.c6] 26 (0, 0))) hr
  have hat : FileAt (h.get.upd r (true, .cells #[.int .i64 u.items, .int .i64 u.lands, .int .i64 u.from_, .int .i64 u.idle, .slice f.p4 f.n4 f.c4, .slice f.p5 f.n5 f.c5, .slice f.p6 f.n6 f.c6] 26 (0, 0))) ⟨r, 0, none⟩ f u :=
    ⟨cell_upd rfl, cell_upd rfl, cell_upd rfl, cell_upd rfl, cell_upd rfl, cell_upd rfl, cell_upd rfl⟩
  generalize hh0 : ({ h with get := h.get.upd r (true, .cells #[.int .i64 u.items, .int .i64 u.lands, .int .i64 u.from_, .int .i64 u.idle, .slice f.p4 f.n4 f.c4, .slice f.p5 f.n5 f.c5, .slice f.p6 f.n6 f.c6] 26 (0, 0)) } : LH) = h0 at le0 ⊢
  have hat : FileAt h0.get ⟨r, 0, none⟩ f u := by rw [← hh0]; exact hat
  refine t_new fun r1 hr1 => ?_
  have le1 : h0.le _ := LH.upd_le (x := (true, .cells #[.int .i64 land] 3 (0, 0))) hr1
  have z1 : Cells.cell? (h0.get.upd r1 (true, .cells #[.int .i64 land] 3 (0, 0))) ⟨r1, 0, none⟩ = some (.int .i64 land) := cell_upd rfl
  refine t_new fun r2 hr2 => ?_
  have le2 := LH.upd_le (h := { h0 with get := h0.get.upd r1 (true, .cells #[.int .i64 land] 3 (0, 0)) }) (x := (true, .cells #[.int .i64 day] 3 (0, 0))) hr2
  have z2 : Cells.cell? ((h0.get.upd r1 (true, .cells #[.int .i64 land] 3 (0, 0))).upd r2 (true, .cells #[.int .i64 day] 3 (0, 0))) ⟨r2, 0, none⟩ = some (.int .i64 day) := cell_upd rfl
  have z1 := Cells.cell?_le le2.1 z1
  have hat := hat.le (LH.le_trans le1 le2).1
  obtain ⟨g0, g1, g2, g3, g4, g5, g6⟩ := id hat
  have le02 := LH.le_trans le0 (LH.le_trans le1 le2)
  (repeat (first | (with_reducible first | apply gA | apply gB | apply gC | apply gD | apply gE | apply gF | apply gG | apply gH | apply gI | apply gJ | apply gK | apply gL | apply gM | apply gN | apply gO | apply gP | apply gQ | apply gR) | ((with_reducible first | apply gT | apply gS2); first | exact rfl | assumption | omega | exact ⟨⟩) | ((with_reducible first | apply gL0 | apply gL1 | apply gL2 | apply gL3 | apply gL4); assumption)))
  refine t_gr (c58 u land) ?_
  rintro v0 h₁ le3 ⟨q0, a0⟩
  have z1 := Cells.cell?_le le3.1 z1
  have z2 := Cells.cell?_le le3.1 z2
  have hat := hat.le le3.1
  obtain ⟨g0, g1, g2, g3, g4, g5, g6⟩ := id hat
  (repeat (first | (with_reducible first | apply gA | apply gB | apply gC | apply gD | apply gE | apply gF | apply gG | apply gH | apply gI | apply gJ | apply gK | apply gL | apply gM | apply gN | apply gO | apply gP | apply gQ | apply gR) | ((with_reducible first | apply gT | apply gS2); first | exact rfl | assumption | omega | exact ⟨⟩) | ((with_reducible first | apply gL0 | apply gL1 | apply gL2 | apply gL3 | apply gL4); assumption)))
  refine t_gr (c54 u day) ?_
  rintro v1 h₂ le4 ⟨q1, a1⟩
  have z1 := Cells.cell?_le le4.1 z1
  have z2 := Cells.cell?_le le4.1 z2
  have hat := hat.le le4.1
  obtain ⟨g0, g1, g2, g3, g4, g5, g6⟩ := id hat
  (repeat (first | (with_reducible first | apply gA | apply gB | apply gC | apply gD | apply gE | apply gF | apply gG | apply gH | apply gI | apply gJ | apply gK | apply gL | apply gM | apply gN | apply gO | apply gP | apply gQ | apply gR) | ((with_reducible first | apply gT | apply gS2); first | exact rfl | assumption | omega | exact ⟨⟩) | ((with_reducible first | apply gL0 | apply gL1 | apply gL2 | apply gL3 | apply gL4); assumption)))
  refine asks2 q0 (a0.le le4) q1 a1 fun r' h₃ le5 hs => ?_
  have z1 := Cells.cell?_le le5.1 z1
  have z2 := Cells.cell?_le le5.1 z2
  have hat := hat.le le5.1
  obtain ⟨g0, g1, g2, g3, g4, g5, g6⟩ := id hat
  (repeat (first | (with_reducible first | apply gA | apply gB | apply gC | apply gD | apply gE | apply gF | apply gG | apply gH | apply gI | apply gJ | apply gK | apply gL | apply gM | apply gN | apply gO | apply gP | apply gQ | apply gR) | ((with_reducible first | apply gT | apply gS2); first | exact rfl | assumption | omega | exact ⟨⟩) | ((with_reducible first | apply gL0 | apply gL1 | apply gL2 | apply gL3 | apply gL4); assumption)))
  have le03 := LH.le_trans le02 (LH.le_trans (LH.le_trans le3 le4) le5)
  refine t_call (FW.top (c53 (f := f) (hp.le le03.1) (hu.le le03.1) hs)) ?_
  rintro v h₄ ⟨le6, ⟨hne, rfl⟩ | ⟨ho, d, m, rfl, hd, hm, k⟩⟩
  · (repeat (first | (with_reducible first | apply gA | apply gB | apply gC | apply gD | apply gE | apply gF | apply gG | apply gH | apply gI | apply gJ | apply gK | apply gL | apply gM | apply gN | apply gO | apply gP | apply gQ | apply gR) | ((with_reducible first | apply gT | apply gS2); first | exact rfl | assumption | omega | exact ⟨⟩) | ((with_reducible first | apply gL0 | apply gL1 | apply gL2 | apply gL3 | apply gL4); assumption)))
    have le04 := LH.le_trans le03 le6
    refine t_cond (fun _ => ?_) (fun e => absurd (by simpa using e) hne)
    exact t_ret ⟨Rd.of_le le04.1, by rw [le04.2.1, hch], by rw [le04.2.2.1, hpe], le04.2.2.2, .inl ⟨hne, rfl⟩⟩
  (repeat (first | (with_reducible first | apply gA | apply gB | apply gC | apply gD | apply gE | apply gF | apply gG | apply gH | apply gI | apply gJ | apply gK | apply gL | apply gM | apply gN | apply gO | apply gP | apply gQ | apply gR) | ((with_reducible first | apply gT | apply gS2); first | exact rfl | assumption | omega | exact ⟨⟩) | ((with_reducible first | apply gL0 | apply gL1 | apply gL2 | apply gL3 | apply gL4); assumption)))
  refine t_cond (fun e => by cases e) (fun _ => ?_)
  have hck := (open_num ho).2
  have z1' := Cells.cell?_le le6.1 z1
  have z2' := Cells.cell?_le le6.1 z2
  (repeat (first | (with_reducible first | apply gA | apply gB | apply gC | apply gD | apply gE | apply gF | apply gG | apply gH | apply gI | apply gJ | apply gK | apply gL | apply gM | apply gN | apply gO | apply gP | apply gQ | apply gR) | ((with_reducible first | apply gT | apply gS2); first | exact rfl | assumption | omega | exact ⟨⟩) | ((with_reducible first | apply gL0 | apply gL1 | apply gL2 | apply gL3 | apply gL4); assumption)))
  refine t_de (c63 k hck land day) ?_
  rintro _ h₅ mv k5 ⟨p0, n0, c0, rfl, gl⟩
  have le35 := Mv.le_of le6 hm mv
  have le05 := LH.le_trans le03 le35
  have hitn := (num_ok (open_num ho).1).1
  have hll : (leftAll u land day).length = u.items.toNat := by unfold leftAll; rw [List.length_map, List.length_range]
  have hsl : Sl IntE 1 h₅.get p0 n0 (leftAll u land day) := gl.sl IntEnc.len (by omega) IntEnc.e (by omega)
  have hpap := (check_papers hck).1
  have hu5 := hu.le le05.1
  have hn5 := hu5.papers.1
  (repeat (first | (with_reducible first | apply gA | apply gB | apply gC | apply gD | apply gE | apply gF | apply gG | apply gH | apply gI | apply gJ | apply gK | apply gL | apply gM | apply gN | apply gO | apply gP | apply gQ | apply gR) | ((with_reducible first | apply gT | apply gS2); first | exact rfl | assumption | omega | exact ⟨⟩) | ((with_reducible first | apply gL0 | apply gL1 | apply gL2 | apply gL3 | apply gL4); assumption)))
  refine t_newSt rfl fun r3 hr3 => ?_
  have le7 := LH.upd_le (x := (true, .cells #[.slice p0 n0 c0] 40 (0, 0))) hr3
  have z3 : Cells.cell? (h₅.get.upd r3 (true, .cells #[.slice p0 n0 c0] 40 (0, 0))) ⟨r3, 0, none⟩ = some (.slice p0 n0 c0) := cell_upd rfl
  refine t_makeChan und104 inf50 fun q hq => ?_
  have le8 := LH.upd_le (x := (true, .chan 0 #[] false 0 0 false)) hq
  refine t_unC ?_
  refine t_newSt rfl fun r4 hr4 => ?_
  have le9 := LH.upd_le (x := (true, .cells #[.chan (some q)] 107 (0, 0))) hr4
  have le38 := LH.le_trans le35 (LH.le_trans (LH.le_trans le7 le8) le9)
  have z1 := Cells.cell?_le le38.1 z1
  have z2 := Cells.cell?_le le38.1 z2
  have z3 := Cells.cell?_le (LH.le_trans le8 le9).1 z3
  have hat := hat.le le38.1
  obtain ⟨g0, g1, g2, g3, g4, g5, g6⟩ := id hat
  have hsl := hsl.le IntE.grow (LH.le_trans (LH.le_trans le7 le8) le9).1
  have le08 := LH.le_trans le03 le38
  have z4 : Cells.cell? (((h₅.get.upd r3 (true, .cells #[.slice p0 n0 c0] 40 (0, 0))).upd q (true, .chan 0 #[] false 0 0 false)).upd r4 (true, .cells #[.chan (some q)] 107 (0, 0))) ⟨r4, 0, none⟩ = some (.chan (some q)) := cell_upd rfl
  have hq' := le9.1 q _ (Cells.upd_self _ _ _)
  refine gL1 g5 ?_
  have h256 : 2 ^ f.n5 ≤ 2 ^ 8 := Nat.pow_le_pow_right (by omega) (by omega)
  have hNe : (2 : Nat) ^ f.n5 = 2 ^ u.papers.length := by rw [hn5]
  rw [sets_wrap (by omega)]
  generalize hN : (2 : Nat) ^ f.n5 = N at h256 hNe ⊢
  (repeat (first | (with_reducible first | apply gA | apply gB | apply gC | apply gD | apply gE | apply gF | apply gG | apply gH | apply gI | apply gJ | apply gK | apply gL | apply gM | apply gN | apply gO | apply gP | apply gQ | apply gR) | ((with_reducible first | apply gT | apply gS2); first | exact rfl | assumption | omega | exact ⟨⟩) | ((with_reducible first | apply gL0 | apply gL1 | apply gL2 | apply gL3 | apply gL4); assumption)))
  refine t_loop (fun mm vs h' => ∃ j : Nat, vs = [.int .i64 j] ∧ j ≤ N ∧ mm = N - j ∧ Rd (((h₅.get.upd r3 (true, .cells #[.slice p0 n0 c0] 40 (0, 0))).upd q (true, .chan 0 #[] false 0 0 false)).upd r4 (true, .cells #[.chan (some q)] 107 (0, 0))) h'.get ∧ h'.todo = h.todo ∧ h'.pend = (List.range j).map (fun i => [(q, Sent u land day i)]) ∧ Hand q h' ∧ (0 < j → h'.chans = [q]))
    ⟨0, rfl, Nat.zero_le _, rfl, Rd.refl _, le08.2.2.2, by rw [le08.2.2.1, hpe]; rfl, .inl ⟨by rw [le08.2.1, hch], 0, hq'⟩, fun hh => absurd hh (by omega)⟩ ?_
  rintro Y mm vs h₇ hY ⟨j, rfl, hj, rfl, rd7, td7, pd7, hand7, ch7⟩
  (repeat (first | (with_reducible first | apply gA | apply gB | apply gC | apply gD | apply gE | apply gF | apply gG | apply gH | apply gI | apply gJ | apply gK | apply gL | apply gM | apply gN | apply gO | apply gP | apply gQ | apply gR) | ((with_reducible first | apply gT | apply gS2); first | exact rfl | assumption | omega | exact ⟨⟩) | ((with_reducible first | apply gL0 | apply gL1 | apply gL2 | apply gL3 | apply gL4); assumption)))
  refine t_if (fun e1 => ?_) (fun e1 => ?_)
  · refine t_newSt rfl fun r5 hr5 => ?_
    have le10 := LH.upd_le (x := (true, .cells #[.int .i64 (j : Int)] 3 (0, 0))) hr5
    have z5 : Cells.cell? (h₇.get.upd r5 (true, .cells #[.int .i64 (j : Int)] 3 (0, 0))) ⟨r5, 0, none⟩ = some (.int .i64 (j : Int)) := cell_upd rfl
    have hand8 : Hand q { h₇ with get := h₇.get.upd r5 (true, .cells #[.int .i64 (j : Int)] 3 (0, 0)) } := by
      rcases hand7 with ⟨a1, s, a2⟩ | a1
      · exact .inl ⟨a1, s, le10.1 _ _ a2⟩
      · exact .inr a1
    have rd8 := rd7.trans (Rd.of_le le10.1)
    refine t_spawn (spawnW_all q (φ := Sent u land day j) hand8 (fun hc hrd => ?_) (fun h₈ r8 c8 t8 p8 => ?_))
    · have rdc := rd8.trans hrd
      exact c74 ((hp.le le08.1).rd rdc) ((hu.le le08.1).rd rdc) (hat.rd rdc) hpap (by omega) (hrd _ _ z5) (rdc _ _ z1) (rdc _ _ z2) (rdc _ _ z3) (hsl.rd IntE.grow rdc) (rdc _ _ z4)
    · refine t_again (hY (N - (j + 1)) _ _ (by omega) ⟨j + 1, ?_, by omega, rfl, rd8.trans r8, t8.trans td7, ?_, .inr c8, fun _ => c8⟩)
      · rw [wrap_id (by omega) (by omega)]; rfl
      · rw [p8, pd7, List.range_succ, List.map_append]; rfl
  · (repeat (first | (with_reducible first | apply gA | apply gB | apply gC | apply gD | apply gE | apply gF | apply gG | apply gH | apply gI | apply gJ | apply gK | apply gL | apply gM | apply gN | apply gO | apply gP | apply gQ | apply gR) | ((with_reducible first | apply gT | apply gS2); first | exact rfl | assumption | omega | exact ⟨⟩) | ((with_reducible first | apply gL0 | apply gL1 | apply gL2 | apply gL3 | apply gL4); assumption)))
    have hjN : j = N := by omega
    subst hjN
    have hpos : 0 < j := by rw [hNe]; exact Nat.pow_pos (by omega)
    refine t_loop (fun mm vs h' => ∃ (k : Nat) (rem : List Nat) (p : Option Addr) (n c : Nat), vs = [.slice p n c, .int .i64 k] ∧ rem.length + k = j ∧ mm = j - k ∧ (∀ i ∈ rem, i < j) ∧ Rd (((h₅.get.upd r3 (true, .cells #[.slice p0 n0 c0] 40 (0, 0))).upd q (true, .chan 0 #[] false 0 0 false)).upd r4 (true, .cells #[.chan (some q)] 107 (0, 0))) h'.get ∧ h'.todo = h.todo ∧ h'.pend = rem.map (fun i => [(q, Sent u land day i)]) ∧
        ((rem ≠ [] ∧ h'.chans = [q]) ∨ (rem = [] ∧ h'.chans = [] ∧ ∃ s, h'.get q = some (true, .chan 0 #[] false s s false))) ∧ BestR h'.get u land day rem p n ∧ n ≤ c)
      ⟨0, List.range j, none, 0, 0, rfl, by simp, rfl, fun i hi => List.mem_range.1 hi, rd7, td7, pd7, .inl ⟨by simp; omega, ch7 hpos⟩, .inl ⟨rfl, rfl, fun i hi hn => absurd (List.mem_range.2 (by omega)) hn⟩, Nat.le_refl _⟩ ?_
    rintro Y2 mm vs h₈ hY2 ⟨k, rem, p, n, c, rfl, hk, rfl, hrem, rd8, td8, pd8, hst8, best, hcap⟩
    (repeat (first | (with_reducible first | apply gA | apply gB | apply gC | apply gD | apply gE | apply gF | apply gG | apply gH | apply gI | apply gJ | apply gK | apply gL | apply gM | apply gN | apply gO | apply gP | apply gQ | apply gR) | ((with_reducible first | apply gT | apply gS2); first | exact rfl | assumption | omega | exact ⟨⟩) | ((with_reducible first | apply gL0 | apply gL1 | apply gL2 | apply gL3 | apply gL4); assumption)))
    refine t_if (fun e2 => ?_) (fun e2 => ?_)
    · have hne : rem ≠ [] := by rintro rfl; simp at hk; omega
      have hc8 : h₈.chans = [q] := by
        rcases hst8 with ⟨_, a⟩ | ⟨a, _⟩
        · exact a
        · exact absurd a hne
      refine t_loadC (rd8 _ _ z4) ?_
      refine t_comm (commW_gather (φ := Sent u land day) pd8 hc8 hne ?_)
      intro i rest v h₉ hi h1 h2 hlen ht hpd hst ⟨hv, hsent, hle⟩ hle9
      have hcr : commResult #[Conc.rcase q (.slice none 0 0)] (CommShape.recv false) 0 v true = v := rfl
      rw [hcr]
      have rd9 := Rd.of_le hle9
      have next : ∀ p' n' c', BestR h₉.get u land day rest p' n' → n' ≤ c' → Y2 [.slice p' n' c', .int .i64 (IntKind.wrap .i64 ((k : Int) + 1))] h₉ := by
        intro p' n' c' hb hcap'
        refine hY2 (j - (k + 1)) _ _ (by omega) ⟨k + 1, rest, p', n', c', ?_, by omega, rfl, fun i hi => hrem i (h2 i hi), rd8.trans rd9, ht.trans td8, hpd, hst, hb, hcap'⟩
        rw [wrap_id (by omega) (by omega)]; rfl
      change (if okF u land day i = true then _ else _) at hsent
      by_cases ok : okF u land day i = true
      · rw [if_pos ok] at hsent
        obtain ⟨a, n', c', rfl, hs9, hcap9⟩ := hsent
        have hs9 := hs9.rd IntE.grow (Rd.of_le hle)
        (repeat (first | (with_reducible first | apply gA | apply gB | apply gC | apply gD | apply gE | apply gF | apply gG | apply gH | apply gI | apply gJ | apply gK | apply gL | apply gM | apply gN | apply gO | apply gP | apply gQ | apply gR) | ((with_reducible first | apply gT | apply gS2); first | exact rfl | assumption | omega | exact ⟨⟩) | ((with_reducible first | apply gL0 | apply gL1 | apply gL2 | apply gL3 | apply gL4); assumption)))
        refine t_neNil und50 ?_
        (repeat (first | (with_reducible first | apply gA | apply gB | apply gC | apply gD | apply gE | apply gF | apply gG | apply gH | apply gI | apply gJ | apply gK | apply gL | apply gM | apply gN | apply gO | apply gP | apply gQ | apply gR) | ((with_reducible first | apply gT | apply gS2); first | exact rfl | assumption | omega | exact ⟨⟩) | ((with_reducible first | apply gL0 | apply gL1 | apply gL2 | apply gL3 | apply gL4); assumption)))
        refine t_cond (fun _ => ?_) (fun e => by cases e)
        refine t_eqNil und50 ?_
        (repeat (first | (with_reducible first | apply gA | apply gB | apply gC | apply gD | apply gE | apply gF | apply gG | apply gH | apply gI | apply gJ | apply gK | apply gL | apply gM | apply gN | apply gO | apply gP | apply gQ | apply gR) | ((with_reducible first | apply gT | apply gS2); first | exact rfl | assumption | omega | exact ⟨⟩) | ((with_reducible first | apply gL0 | apply gL1 | apply gL2 | apply gL3 | apply gL4); assumption)))
        refine t_cond (fun b => ?_) (fun b => ?_)
        · exact t_again (next _ _ _ (best.take h1 ok (by have := hrem i hi; omega) hs9 (.inl (by simpa using b))) hcap9)
        · have hpn : p ≠ none := by rintro rfl; cases b
          obtain ⟨k', a', hk', hs'⟩ : ∃ k' a', p = some a' ∧ Sl IntE 1 h₈.get (some a') n (subsetL u.papers.length k') := by
            rcases best with ⟨b1, _⟩ | ⟨k', a', b1, _, _, b4, _⟩
            · exact absurd b1 hpn
            · exact ⟨k', a', b1, b4⟩
          subst hk'
          have hs'9 := hs'.rd IntE.grow rd9
          refine t_pu (c75 hs9 hs'9) ?_
          have same : ∀ k2, Sl IntE 1 h₈.get (some a') n (subsetL u.papers.length k2) → subsetL u.papers.length k2 = subsetL u.papers.length k' := by
            intro k2 h3
            exact Sl.same h3 hs'
          (repeat (first | (with_reducible first | apply gA | apply gB | apply gC | apply gD | apply gE | apply gF | apply gG | apply gH | apply gI | apply gJ | apply gK | apply gL | apply gM | apply gN | apply gO | apply gP | apply gQ | apply gR) | ((with_reducible first | apply gT | apply gS2); first | exact rfl | assumption | omega | exact ⟨⟩) | ((with_reducible first | apply gL0 | apply gL1 | apply gL2 | apply gL3 | apply gL4); assumption)))
          refine t_if (fun e3 => ?_) (fun e3 => ?_)
          · refine t_again (next _ _ _ (best.take h1 ok (by have := hrem i hi; omega) hs9 (.inr fun k2 _ h3 => ?_)) hcap9)
            rw [same k2 h3]; omega
          · refine t_again (next _ _ _ (best.stay h1 hpn rd9 fun k2 h3 => ?_) hcap)
            rw [same k2 h3, fewer_neg]; omega
      · rw [if_neg ok] at hsent
        subst hsent
        (repeat (first | (with_reducible first | apply gA | apply gB | apply gC | apply gD | apply gE | apply gF | apply gG | apply gH | apply gI | apply gJ | apply gK | apply gL | apply gM | apply gN | apply gO | apply gP | apply gQ | apply gR) | ((with_reducible first | apply gT | apply gS2); first | exact rfl | assumption | omega | exact ⟨⟩) | ((with_reducible first | apply gL0 | apply gL1 | apply gL2 | apply gL3 | apply gL4); assumption)))
        refine t_neNil und50 ?_
        (repeat (first | (with_reducible first | apply gA | apply gB | apply gC | apply gD | apply gE | apply gF | apply gG | apply gH | apply gI | apply gJ | apply gK | apply gL | apply gM | apply gN | apply gO | apply gP | apply gQ | apply gR) | ((with_reducible first | apply gT | apply gS2); first | exact rfl | assumption | omega | exact ⟨⟩) | ((with_reducible first | apply gL0 | apply gL1 | apply gL2 | apply gL3 | apply gL4); assumption)))
        refine t_cond (fun e => by cases e) (fun _ => ?_)
        exact t_again (next _ _ _ (best.skip h1 (by simpa using ok) rd9) hcap)
    · (repeat (first | (with_reducible first | apply gA | apply gB | apply gC | apply gD | apply gE | apply gF | apply gG | apply gH | apply gI | apply gJ | apply gK | apply gL | apply gM | apply gN | apply gO | apply gP | apply gQ | apply gR) | ((with_reducible first | apply gT | apply gS2); first | exact rfl | assumption | omega | exact ⟨⟩) | ((with_reducible first | apply gL0 | apply gL1 | apply gL2 | apply gL3 | apply gL4); assumption)))
      have hrem0 : rem = [] := List.length_eq_zero_iff.1 (by omega)
      subst hrem0
      obtain ⟨hc8, s, hq8⟩ : h₈.chans = [] ∧ ∃ s, h₈.get q = some (true, .chan 0 #[] false s s false) := by
        rcases hst8 with ⟨a, _⟩ | ⟨_, a, b⟩
        · exact absurd rfl a
        · exact ⟨a, b⟩
      refine t_loadC (rd8 _ _ z4) ?_
      refine t_close hq8 ?_
      have rd9 : Rd h₈.get (h₈.get.upd q (true, .chan 0 #[] true s s false)) := by
        intro a v hc
        have hne : a.block ≠ q := by
          intro e
          unfold Cells.cell? at hc
          rw [e, hq8] at hc; cases hc
        unfold Cells.cell? at hc ⊢
        rw [Cells.upd_ne _ _ hne]; exact hc
      have b9 : BestR (h₈.get.upd q (true, .chan 0 #[] true s s false)) u land day [] p n := by
        rcases best with b1 | ⟨k2, a, b1, b2, b3, b4, b5⟩
        · exact .inl b1
        · exact .inr ⟨k2, a, b1, b2, b3, b4.rd IntE.grow rd9, b5⟩
      exact t_ret ⟨((Rd.of_le le08.1).trans rd8).trans rd9, hc8, pd8, td8, .inr ⟨ho, p, n, c, rfl, b9, hcap⟩⟩
end Go.Proofs.YtopkdkedjkidhaaDoor
end
section
namespace Go.Proofs.YtopkdkedjkidhaaDoor
open Go Go.TM Go.Proofs
set_option linter.unusedVariables false
set_option maxRecDepth 100000
noncomputable def n16  : T := .call false 42 #[] fun v => .unAgg v fun l => .popI .i64 l fun n vs => .popI .i64 vs fun n_1 vs => .popI .i64 vs fun n_2 vs => .popI .i64 vs fun n_3 vs => .popS vs fun a n_4 c vs => .popS vs fun a_1 n_5 c_1 vs => .popS vs fun a_2 n_6 c_2 vs => .unNil vs (.call false 12 #[.agg #[.int .i64 n, .int .i64 n_1, .int .i64 n_2, .int .i64 n_3, .slice a n_4 c, .slice a_1 n_5 c_1, .slice a_2 n_6 c_2], .int .i64 20] fun v => .unTup v fun l => .unCons l fun v vs => .unAgg v fun l => .popI .i64 l fun n_7 vs_1 => .popI .i64 vs_1 fun n_8 vs_2 => .unNil vs_2 (.unCons vs fun v vs => .unI .i64 v fun n_9 => .unNil vs (.call false 12 #[.agg #[.int .i64 n, .int .i64 n_1, .int .i64 n_2, .int .i64 n_3, .slice a n_4 c, .slice a_1 n_5 c_1, .slice a_2 n_6 c_2], .int .i64 25] fun v => .unTup v fun l => .unCons l fun v vs => .unAgg v fun l => .popI .i64 l fun n_10 vs_3 => .popI .i64 vs_3 fun n_11 vs_4 => .unNil vs_4 (.unCons vs fun v vs => .unI .i64 v fun n_12 => .unNil vs (.call false 14 #[.agg #[.int .i64 n, .int .i64 n_1, .int .i64 n_2, .int .i64 n_3, .slice a n_4 c, .slice a_1 n_5 c_1, .slice a_2 n_6 c_2], .int .i64 0, .int .i64 1, .int .i64 16] fun v => .unTup v fun l => .unCons l fun v vs => .unI .i64 v fun n_13 => .unCons vs fun v vs => .unI .i64 v fun n_14 => .unNil vs (.call false 14 #[.agg #[.int .i64 n, .int .i64 n_1, .int .i64 n_2, .int .i64 n_3, .slice a n_4 c, .slice a_1 n_5 c_1, .slice a_2 n_6 c_2], .int .i64 0, .int .i64 1, .int .i64 18] fun v => .unTup v fun l => .unCons l fun v vs => .unI .i64 v fun n_15 => .unCons vs fun v vs => .unI .i64 v fun n_16 => .unNil vs (.call false 14 #[.agg #[.int .i64 n, .int .i64 n_1, .int .i64 n_2, .int .i64 n_3, .slice a n_4 c, .slice a_1 n_5 c_1, .slice a_2 n_6 c_2], .int .i64 0, .int .i64 1, .int .i64 19] fun v => .unTup v fun l => .unCons l fun v vs => .unI .i64 v fun n_17 => .unCons vs fun v vs => .unI .i64 v fun n_18 => .unNil vs (.call false 16 #[.agg #[.int .i64 n, .int .i64 n_1, .int .i64 n_2, .int .i64 n_3, .slice a n_4 c, .slice a_1 n_5 c_1, .slice a_2 n_6 c_2], .int .i64 0, .int .i64 1] fun v => .unTup v fun l => .unCons l fun v vs => .unI .i64 v fun n_19 => .unCons vs fun v vs => .unI .i64 v fun n_20 => .unNil vs (.call false 16 #[.agg #[.int .i64 n, .int .i64 n_1, .int .i64 n_2, .int .i64 n_3, .slice a n_4 c, .slice a_1 n_5 c_1, .slice a_2 n_6 c_2], .int .i64 1, .int .i64 2] fun v => .unTup v fun l => .unCons l fun v vs => .unI .i64 v fun n_21 => .unCons vs fun v vs => .unI .i64 v fun n_22 => .unNil vs (.call false 18 #[.agg #[.int .i64 n, .int .i64 n_1, .int .i64 n_2, .int .i64 n_3, .slice a n_4 c, .slice a_1 n_5 c_1, .slice a_2 n_6 c_2], .int .i64 0, .int .i64 25] fun v => .unTup v fun l => .unCons l fun v vs => .unS v fun a_3 n_23 c_3 => .unCons vs fun v vs => .unI .i64 v fun n_24 => .unNil vs (.call false 23 #[.agg #[.int .i64 n, .int .i64 n_1, .int .i64 n_2, .int .i64 n_3, .slice a n_4 c, .slice a_1 n_5 c_1, .slice a_2 n_6 c_2], .int .i64 0, .int .i64 20] fun v => .unTup v fun l => .unCons l fun v vs => .unS v fun a_4 n_25 c_4 => .unCons vs fun v vs => .unI .i64 v fun n_26 => .unNil vs (.call false 28 #[.agg #[.int .i64 n, .int .i64 n_1, .int .i64 n_2, .int .i64 n_3, .slice a n_4 c, .slice a_1 n_5 c_1, .slice a_2 n_6 c_2], .int .i64 0, .int .i64 25] fun v => .unTup v fun l => .unCons l fun v vs => .unS v fun a_5 n_27 c_5 => .unCons vs fun v vs => .unI .i64 v fun n_28 => .unNil vs (.sem false (Instr.buildSlice 50 2 #[(0, .int .i64 0), (1, .int .i64 2)]) fun v => .unS v fun a_6 n_29 c_6 => .call false 26 #[.agg #[.int .i64 n, .int .i64 n_1, .int .i64 n_2, .int .i64 n_3, .slice a n_4 c, .slice a_1 n_5 c_1, .slice a_2 n_6 c_2], .int .i64 0, .int .i64 25, .slice a_6 n_29 c_6] fun v => .unTup v fun l => .unCons l fun v vs => .unB v fun b => .unCons vs fun v vs => .unI .i64 v fun n => .unNil vs (.blk (bif n_9 != 0 then .leaf (.retn [.bool false]) else bif n_12 != 0 then .leaf (.retn [.bool false]) else bif n_14 != 0 then .leaf (.retn [.bool false]) else bif n_16 != 0 then .leaf (.retn [.bool false]) else bif n_18 != 0 then .leaf (.retn [.bool false]) else bif n_20 != 0 then .leaf (.retn [.bool false]) else bif n_22 != 0 then .leaf (.retn [.bool false]) else bif n_24 != 0 then .leaf (.retn [.bool false]) else bif n_26 != 0 then .leaf (.retn [.bool false]) else bif n_28 != 0 then .leaf (.retn [.bool false]) else bif n != 0 then .leaf (.retn [.bool false]) else .leaf (.again [.bool false])) (fun vs => .popB vs fun b_1 vs => .unNil vs (.blk (.call false 43 #[.int .i64 16, .int .i64 20] fun v => .unAgg v fun l => .popI .i64 l fun n vs => .popI .i64 vs fun n_30 vs => .unNil vs (.nd (.agg #[.int .i64 n_7, .int .i64 n_8]) (.sem false (Sem.bind (eqGuard BinOp.neq 30 (Operand.tmp 123) (Operand.tmp 124) (.agg #[.int .i64 n_7, .int .i64 n_8]) (.agg #[.int .i64 n, .int .i64 n_30])) fun __r => binOp BinOp.neq 30 (.agg #[.int .i64 n_7, .int .i64 n_8]) (.agg #[.int .i64 n, .int .i64 n_30])) fun v => .unB v fun b_2 => bif b_2 then .nd (.tuple #[]) (.nd (.bool true) (.nd (.bool true) (.nd (.bool true) (.nd (.bool true) (.nd (.bool true) (.nd (.bool true) (.nd (.bool true) (.nd (.bool true) (.nd (.bool true) (.nd (.bool true) (.nd (.bool true) (.nd (.bool true) (.nd (.bool true) (.nd (.bool true) (.nd (.bool true) (.nd (.tuple #[]) (.nd (.bool true) (.nd (.tuple #[]) (.nd (.bool true) (.nd (.bool true) (.nd (.bool true) (.nd (.bool true) (.nd (.bool true) (.nd (.bool true) (.nd (.bool true) (.nd (.bool true) (.nd (.tuple #[]) (.nd (.bool true) (.nd (.bool true) (.nd (.bool true) (.nd (.bool true) (.nd (.bool true) (.nd (.bool true) (.nd (.bool true) (.nd (.bool true) (.nd (.tuple #[]) (.nd (.bool true) (.nd (.bool true) (.nd (.bool true) (.nd (.bool true) (.nd (.bool true) (.nd (.bool true) (.nd (.bool true) (.leaf (.retn [.bool false]))))))))))))))))))))))))))))))))))))))))))))) else .call false 43 #[.int .i64 18, .int .i64 25] fun v => .unAgg v fun l => .popI .i64 l fun n vs => .popI .i64 vs fun n_31 vs => .unNil vs (.nd (.agg #[.int .i64 n_10, .int .i64 n_11]) (.sem false (Sem.bind (eqGuard BinOp.neq 30 (Operand.tmp 127) (Operand.tmp 128) (.agg #[.int .i64 n_10, .int .i64 n_11]) (.agg #[.int .i64 n, .int .i64 n_31])) fun __r => binOp BinOp.neq 30 (.agg #[.int .i64 n_10, .int .i64 n_11]) (.agg #[.int .i64 n, .int .i64 n_31])) fun v => .unB v fun b_3 => bif b_3 then .nd (.bool b_3) (.nd (.bool true) (.nd (.bool b_3) (.nd (.bool true) (.nd (.bool true) (.nd (.bool b_3) (.nd (.bool true) (.nd (.bool true) (.nd (.bool true) (.nd (.bool b_3) (.nd (.bool true) (.nd (.bool true) (.nd (.bool true) (.nd (.bool true) (.nd (.bool b_3) (.nd (.tuple #[]) (.nd (.bool true) (.nd (.tuple #[]) (.nd (.bool true) (.nd (.bool true) (.nd (.bool true) (.nd (.bool true) (.nd (.bool true) (.nd (.bool true) (.nd (.bool b_3) (.nd (.bool true) (.nd (.tuple #[]) (.nd (.bool true) (.nd (.bool true) (.nd (.bool true) (.nd (.bool true) (.nd (.bool true) (.nd (.bool true) (.nd (.bool b_3) (.nd (.bool true) (.nd (.tuple #[]) (.nd (.bool true) (.nd (.bool true) (.nd (.bool true) (.nd (.bool true) (.nd (.bool true) (.nd (.bool true) (.nd (.bool b_3) (.leaf (.retn [.bool false])))))))))))))))))))))))))))))))))))))))))))) else bif n_13 != 1 then .nd (.bool (n_13 != 1)) (.nd (.bool (n_13 != 1)) (.nd (.int .i64 n_13) (.need (AV.val (.bool b_3) = AV.val (.bool false)) (.nd (.bool b_3) (.nd (.bool true) (.nd (.bool (n_13 != 1)) (.nd (.bool (n_13 != 1)) (.nd (.int .i64 n_13) (.need (AV.val (.bool b_3) = AV.val (.bool false)) (.nd (.bool b_3) (.nd (.bool true) (.nd (.bool true) (.nd (.bool (n_13 != 1)) (.nd (.bool (n_13 != 1)) (.nd (.int .i64 n_13) (.need (AV.val (.bool b_3) = AV.val (.bool false)) (.nd (.bool b_3) (.nd (.bool true) (.nd (.bool true) (.nd (.bool true) (.nd (.bool (n_13 != 1)) (.nd (.bool (n_13 != 1)) (.nd (.int .i64 n_13) (.need (AV.val (.bool b_3) = AV.val (.bool false)) (.nd (.bool b_3) (.nd (.tuple #[]) (.nd (.bool true) (.nd (.tuple #[]) (.nd (.bool true) (.nd (.bool true) (.nd (.bool true) (.nd (.bool true) (.nd (.bool true) (.nd (.bool (n_13 != 1)) (.nd (.bool (n_13 != 1)) (.nd (.int .i64 n_13) (.need (AV.val (.bool b_3) = AV.val (.bool false)) (.nd (.bool b_3) (.nd (.bool true) (.nd (.tuple #[]) (.nd (.bool true) (.nd (.bool true) (.nd (.bool true) (.nd (.bool true) (.nd (.bool true) (.nd (.bool (n_13 != 1)) (.nd (.bool (n_13 != 1)) (.nd (.int .i64 n_13) (.need (AV.val (.bool b_3) = AV.val (.bool false)) (.nd (.bool b_3) (.nd (.bool true) (.nd (.tuple #[]) (.nd (.bool true) (.nd (.bool true) (.nd (.bool true) (.nd (.bool true) (.nd (.bool true) (.nd (.bool (n_13 != 1)) (.nd (.bool (n_13 != 1)) (.nd (.int .i64 n_13) (.need (AV.val (.bool b_3) = AV.val (.bool false)) (.nd (.bool b_3) (.leaf (.retn [.bool false])))))))))))))))))))))))))))))))))))))))))))))))))))))))))))))))) else bif n_15 != 0 then .nd (.bool (n_15 != 0)) (.nd (.bool (n_15 != 0)) (.nd (.int .i64 n_15) (.need (AV.val (.bool (n_13 != 1)) = AV.val (.bool false)) (.nd (.bool (n_13 != 1)) (.nd (.bool (n_13 != 1)) (.nd (.int .i64 n_13) (.need (AV.val (.bool b_3) = AV.val (.bool false)) (.nd (.bool b_3) (.nd (.bool true) (.nd (.bool (n_15 != 0)) (.nd (.bool (n_15 != 0)) (.nd (.int .i64 n_15) (.need (AV.val (.bool (n_13 != 1)) = AV.val (.bool false)) (.nd (.bool (n_13 != 1)) (.nd (.bool (n_13 != 1)) (.nd (.int .i64 n_13) (.need (AV.val (.bool b_3) = AV.val (.bool false)) (.nd (.bool b_3) (.nd (.bool true) (.nd (.bool true) (.nd (.bool (n_15 != 0)) (.nd (.bool (n_15 != 0)) (.nd (.int .i64 n_15) (.need (AV.val (.bool (n_13 != 1)) = AV.val (.bool false)) (.nd (.bool (n_13 != 1)) (.nd (.bool (n_13 != 1)) (.nd (.int .i64 n_13) (.need (AV.val (.bool b_3) = AV.val (.bool false)) (.nd (.bool b_3) (.nd (.tuple #[]) (.nd (.bool true) (.nd (.tuple #[]) (.nd (.bool true) (.nd (.bool true) (.nd (.bool true) (.nd (.bool true) (.nd (.bool (n_15 != 0)) (.nd (.bool (n_15 != 0)) (.nd (.int .i64 n_15) (.need (AV.val (.bool (n_13 != 1)) = AV.val (.bool false)) (.nd (.bool (n_13 != 1)) (.nd (.bool (n_13 != 1)) (.nd (.int .i64 n_13) (.need (AV.val (.bool b_3) = AV.val (.bool false)) (.nd (.bool b_3) (.nd (.bool true) (.nd (.tuple #[]) (.nd (.bool true) (.nd (.bool true) (.nd (.bool true) (.nd (.bool true) (.nd (.bool (n_15 != 0)) (.nd (.bool (n_15 != 0)) (.nd (.int .i64 n_15) (.need (AV.val (.bool (n_13 != 1)) = AV.val (.bool false)) (.nd (.bool (n_13 != 1)) (.nd (.bool (n_13 != 1)) (.nd (.int .i64 n_13) (.need (AV.val (.bool b_3) = AV.val (.bool false)) (.nd (.bool b_3) (.nd (.bool true) (.nd (.tuple #[]) (.nd (.bool true) (.nd (.bool true) (.nd (.bool true) (.nd (.bool true) (.nd (.bool (n_15 != 0)) (.nd (.bool (n_15 != 0)) (.nd (.int .i64 n_15) (.need (AV.val (.bool (n_13 != 1)) = AV.val (.bool false)) (.nd (.bool (n_13 != 1)) (.nd (.bool (n_13 != 1)) (.nd (.int .i64 n_13) (.need (AV.val (.bool b_3) = AV.val (.bool false)) (.nd (.bool b_3) (.leaf (.retn [.bool false]))))))))))))))))))))))))))))))))))))))))))))))))))))))))))))))))))))))))))))) else bif n_17 != 2 then .nd (.bool (n_17 != 2)) (.nd (.bool (n_17 != 2)) (.nd (.int .i64 n_17) (.need (AV.val (.bool (n_15 != 0)) = AV.val (.bool false)) (.nd (.bool (n_15 != 0)) (.nd (.bool (n_15 != 0)) (.nd (.int .i64 n_15) (.need (AV.val (.bool (n_13 != 1)) = AV.val (.bool false)) (.nd (.bool (n_13 != 1)) (.nd (.bool (n_13 != 1)) (.nd (.int .i64 n_13) (.need (AV.val (.bool b_3) = AV.val (.bool false)) (.nd (.bool b_3) (.nd (.bool true) (.nd (.bool (n_17 != 2)) (.nd (.bool (n_17 != 2)) (.nd (.int .i64 n_17) (.need (AV.val (.bool (n_15 != 0)) = AV.val (.bool false)) (.nd (.bool (n_15 != 0)) (.nd (.bool (n_15 != 0)) (.nd (.int .i64 n_15) (.need (AV.val (.bool (n_13 != 1)) = AV.val (.bool false)) (.nd (.bool (n_13 != 1)) (.nd (.bool (n_13 != 1)) (.nd (.int .i64 n_13) (.need (AV.val (.bool b_3) = AV.val (.bool false)) (.nd (.bool b_3) (.nd (.tuple #[]) (.nd (.bool true) (.nd (.tuple #[]) (.nd (.bool true) (.nd (.bool true) (.nd (.bool true) (.nd (.bool (n_17 != 2)) (.nd (.bool (n_17 != 2)) (.nd (.int .i64 n_17) (.need (AV.val (.bool (n_15 != 0)) = AV.val (.bool false)) (.nd (.bool (n_15 != 0)) (.nd (.bool (n_15 != 0)) (.nd (.int .i64 n_15) (.need (AV.val (.bool (n_13 != 1)) = AV.val (.bool false)) (.nd (.bool (n_13 != 1)) (.nd (.bool (n_13 != 1)) (.nd (.int .i64 n_13) (.need (AV.val (.bool b_3) = AV.val (.bool false)) (.nd (.bool b_3) (.nd (.bool true) (.nd (.tuple #[]) (.nd (.bool true) (.nd (.bool true) (.nd (.bool true) (.nd (.bool (n_17 != 2)) (.nd (.bool (n_17 != 2)) (.nd (.int .i64 n_17) (.need (AV.val (.bool (n_15 != 0)) = AV.val (.bool false)) (.nd (.bool (n_15 != 0)) (.nd (.bool (n_15 != 0)) (.nd (.int .i64 n_15) (.need (AV.val (.bool (n_13 != 1)) = AV.val (.bool false)) (.nd (.bool (n_13 != 1)) (.nd (.bool (n_13 != 1)) (.nd (.int .i64 n_13) (.need (AV.val (.bool b_3) = AV.val (.bool false)) (.nd (.bool b_3) (.nd (.bool true) (.nd (.tuple #[]) (.nd (.bool true) (.nd (.bool true) (.nd (.bool true) (.nd (.bool (n_17 != 2)) (.nd (.bool (n_17 != 2)) (.nd (.int .i64 n_17) (.need (AV.val (.bool (n_15 != 0)) = AV.val (.bool false)) (.nd (.bool (n_15 != 0)) (.nd (.bool (n_15 != 0)) (.nd (.int .i64 n_15) (.need (AV.val (.bool (n_13 != 1)) = AV.val (.bool false)) (.nd (.bool (n_13 != 1)) (.nd (.bool (n_13 != 1)) (.nd (.int .i64 n_13) (.need (AV.val (.bool b_3) = AV.val (.bool false)) (.nd (.bool b_3) (.leaf (.retn [.bool false]))))))))))))))))))))))))))))))))))))))))))))))))))))))))))))))))))))))))))))))))))) else bif n_19 != 17 then .nd (.bool (n_19 != 17)) (.nd (.bool (n_19 != 17)) (.nd (.int .i64 n_19) (.need (AV.val (.bool (n_17 != 2)) = AV.val (.bool false)) (.nd (.bool (n_17 != 2)) (.nd (.bool (n_17 != 2)) (.nd (.int .i64 n_17) (.need (AV.val (.bool (n_15 != 0)) = AV.val (.bool false)) (.nd (.bool (n_15 != 0)) (.nd (.bool (n_15 != 0)) (.nd (.int .i64 n_15) (.need (AV.val (.bool (n_13 != 1)) = AV.val (.bool false)) (.nd (.bool (n_13 != 1)) (.nd (.bool (n_13 != 1)) (.nd (.int .i64 n_13) (.need (AV.val (.bool b_3) = AV.val (.bool false)) (.nd (.bool b_3) (.nd (.tuple #[]) (.nd (.bool true) (.nd (.tuple #[]) (.nd (.bool true) (.nd (.bool true) (.nd (.bool (n_19 != 17)) (.nd (.bool (n_19 != 17)) (.nd (.int .i64 n_19) (.need (AV.val (.bool (n_17 != 2)) = AV.val (.bool false)) (.nd (.bool (n_17 != 2)) (.nd (.bool (n_17 != 2)) (.nd (.int .i64 n_17) (.need (AV.val (.bool (n_15 != 0)) = AV.val (.bool false)) (.nd (.bool (n_15 != 0)) (.nd (.bool (n_15 != 0)) (.nd (.int .i64 n_15) (.need (AV.val (.bool (n_13 != 1)) = AV.val (.bool false)) (.nd (.bool (n_13 != 1)) (.nd (.bool (n_13 != 1)) (.nd (.int .i64 n_13) (.need (AV.val (.bool b_3) = AV.val (.bool false)) (.nd (.bool b_3) (.nd (.bool true) (.nd (.tuple #[]) (.nd (.bool true) (.nd (.bool true) (.nd (.bool (n_19 != 17)) (.nd (.bool (n_19 != 17)) (.nd (.int .i64 n_19) (.need (AV.val (.bool (n_17 != 2)) = AV.val (.bool false)) (.nd (.bool (n_17 != 2)) (.nd (.bool (n_17 != 2)) (.nd (.int .i64 n_17) (.need (AV.val (.bool (n_15 != 0)) = AV.val (.bool false)) (.nd (.bool (n_15 != 0)) (.nd (.bool (n_15 != 0)) (.nd (.int .i64 n_15) (.need (AV.val (.bool (n_13 != 1)) = AV.val (.bool false)) (.nd (.bool (n_13 != 1)) (.nd (.bool (n_13 != 1)) (.nd (.int .i64 n_13) (.need (AV.val (.bool b_3) = AV.val (.bool false)) (.nd (.bool b_3) (.nd (.bool true) (.nd (.tuple #[]) (.nd (.bool true) (.nd (.bool true) (.nd (.bool (n_19 != 17)) (.nd (.bool (n_19 != 17)) (.nd (.int .i64 n_19) (.need (AV.val (.bool (n_17 != 2)) = AV.val (.bool false)) (.nd (.bool (n_17 != 2)) (.nd (.bool (n_17 != 2)) (.nd (.int .i64 n_17) (.need (AV.val (.bool (n_15 != 0)) = AV.val (.bool false)) (.nd (.bool (n_15 != 0)) (.nd (.bool (n_15 != 0)) (.nd (.int .i64 n_15) (.need (AV.val (.bool (n_13 != 1)) = AV.val (.bool false)) (.nd (.bool (n_13 != 1)) (.nd (.bool (n_13 != 1)) (.nd (.int .i64 n_13) (.need (AV.val (.bool b_3) = AV.val (.bool false)) (.nd (.bool b_3) (.leaf (.retn [.bool false])))))))))))))))))))))))))))))))))))))))))))))))))))))))))))))))))))))))))))))))))) else bif n_21 != 15 then .nd (.tuple #[]) (.nd (.bool true) (.nd (.tuple #[]) (.need (AV.val (.bool (n_21 != 15)) = AV.val (.bool true)) (.nd (.bool (n_21 != 15)) (.nd (.bool (n_21 != 15)) (.nd (.int .i64 n_21) (.need (AV.val (.bool (n_19 != 17)) = AV.val (.bool false)) (.nd (.bool (n_19 != 17)) (.nd (.bool (n_19 != 17)) (.nd (.int .i64 n_19) (.need (AV.val (.bool (n_17 != 2)) = AV.val (.bool false)) (.nd (.bool (n_17 != 2)) (.nd (.bool (n_17 != 2)) (.nd (.int .i64 n_17) (.need (AV.val (.bool (n_15 != 0)) = AV.val (.bool false)) (.nd (.bool (n_15 != 0)) (.nd (.bool (n_15 != 0)) (.nd (.int .i64 n_15) (.need (AV.val (.bool (n_13 != 1)) = AV.val (.bool false)) (.nd (.bool (n_13 != 1)) (.nd (.bool (n_13 != 1)) (.nd (.int .i64 n_13) (.need (AV.val (.bool b_3) = AV.val (.bool false)) (.nd (.bool b_3) (.nd (.bool true) (.nd (.tuple #[]) (.need (AV.val (.bool (n_21 != 15)) = AV.val (.bool true)) (.nd (.bool (n_21 != 15)) (.nd (.bool (n_21 != 15)) (.nd (.int .i64 n_21) (.need (AV.val (.bool (n_19 != 17)) = AV.val (.bool false)) (.nd (.bool (n_19 != 17)) (.nd (.bool (n_19 != 17)) (.nd (.int .i64 n_19) (.need (AV.val (.bool (n_17 != 2)) = AV.val (.bool false)) (.nd (.bool (n_17 != 2)) (.nd (.bool (n_17 != 2)) (.nd (.int .i64 n_17) (.need (AV.val (.bool (n_15 != 0)) = AV.val (.bool false)) (.nd (.bool (n_15 != 0)) (.nd (.bool (n_15 != 0)) (.nd (.int .i64 n_15) (.need (AV.val (.bool (n_13 != 1)) = AV.val (.bool false)) (.nd (.bool (n_13 != 1)) (.nd (.bool (n_13 != 1)) (.nd (.int .i64 n_13) (.need (AV.val (.bool b_3) = AV.val (.bool false)) (.nd (.bool b_3) (.nd (.bool true) (.nd (.tuple #[]) (.need (AV.val (.bool (n_21 != 15)) = AV.val (.bool true)) (.nd (.bool (n_21 != 15)) (.nd (.bool (n_21 != 15)) (.nd (.int .i64 n_21) (.need (AV.val (.bool (n_19 != 17)) = AV.val (.bool false)) (.nd (.bool (n_19 != 17)) (.nd (.bool (n_19 != 17)) (.nd (.int .i64 n_19) (.need (AV.val (.bool (n_17 != 2)) = AV.val (.bool false)) (.nd (.bool (n_17 != 2)) (.nd (.bool (n_17 != 2)) (.nd (.int .i64 n_17) (.need (AV.val (.bool (n_15 != 0)) = AV.val (.bool false)) (.nd (.bool (n_15 != 0)) (.nd (.bool (n_15 != 0)) (.nd (.int .i64 n_15) (.need (AV.val (.bool (n_13 != 1)) = AV.val (.bool false)) (.nd (.bool (n_13 != 1)) (.nd (.bool (n_13 != 1)) (.nd (.int .i64 n_13) (.need (AV.val (.bool b_3) = AV.val (.bool false)) (.nd (.bool b_3) (.leaf (.retn [.bool false])))))))))))))))))))))))))))))))))))))))))))))))))))))))))))))))))))))))))) else bif b then .nd (.tuple #[]) (.nd (.bool b) (.nd (.bool b) (.need (AV.val (.bool (n_21 != 15)) = AV.val (.bool false)) (.nd (.bool (n_21 != 15)) (.nd (.bool (n_21 != 15)) (.nd (.int .i64 n_21) (.need (AV.val (.bool (n_19 != 17)) = AV.val (.bool false)) (.nd (.bool (n_19 != 17)) (.nd (.bool (n_19 != 17)) (.nd (.int .i64 n_19) (.need (AV.val (.bool (n_17 != 2)) = AV.val (.bool false)) (.nd (.bool (n_17 != 2)) (.nd (.bool (n_17 != 2)) (.nd (.int .i64 n_17) (.need (AV.val (.bool (n_15 != 0)) = AV.val (.bool false)) (.nd (.bool (n_15 != 0)) (.nd (.bool (n_15 != 0)) (.nd (.int .i64 n_15) (.need (AV.val (.bool (n_13 != 1)) = AV.val (.bool false)) (.nd (.bool (n_13 != 1)) (.nd (.bool (n_13 != 1)) (.nd (.int .i64 n_13) (.need (AV.val (.bool b_3) = AV.val (.bool false)) (.nd (.bool b_3) (.nd (.bool b) (.nd (.bool b) (.need (AV.val (.bool (n_21 != 15)) = AV.val (.bool false)) (.nd (.bool (n_21 != 15)) (.nd (.bool (n_21 != 15)) (.nd (.int .i64 n_21) (.need (AV.val (.bool (n_19 != 17)) = AV.val (.bool false)) (.nd (.bool (n_19 != 17)) (.nd (.bool (n_19 != 17)) (.nd (.int .i64 n_19) (.need (AV.val (.bool (n_17 != 2)) = AV.val (.bool false)) (.nd (.bool (n_17 != 2)) (.nd (.bool (n_17 != 2)) (.nd (.int .i64 n_17) (.need (AV.val (.bool (n_15 != 0)) = AV.val (.bool false)) (.nd (.bool (n_15 != 0)) (.nd (.bool (n_15 != 0)) (.nd (.int .i64 n_15) (.need (AV.val (.bool (n_13 != 1)) = AV.val (.bool false)) (.nd (.bool (n_13 != 1)) (.nd (.bool (n_13 != 1)) (.nd (.int .i64 n_13) (.need (AV.val (.bool b_3) = AV.val (.bool false)) (.nd (.bool b_3) (.nd (.bool b) (.nd (.bool b) (.need (AV.val (.bool (n_21 != 15)) = AV.val (.bool false)) (.nd (.bool (n_21 != 15)) (.nd (.bool (n_21 != 15)) (.nd (.int .i64 n_21) (.need (AV.val (.bool (n_19 != 17)) = AV.val (.bool false)) (.nd (.bool (n_19 != 17)) (.nd (.bool (n_19 != 17)) (.nd (.int .i64 n_19) (.need (AV.val (.bool (n_17 != 2)) = AV.val (.bool false)) (.nd (.bool (n_17 != 2)) (.nd (.bool (n_17 != 2)) (.nd (.int .i64 n_17) (.need (AV.val (.bool (n_15 != 0)) = AV.val (.bool false)) (.nd (.bool (n_15 != 0)) (.nd (.bool (n_15 != 0)) (.nd (.int .i64 n_15) (.need (AV.val (.bool (n_13 != 1)) = AV.val (.bool false)) (.nd (.bool (n_13 != 1)) (.nd (.bool (n_13 != 1)) (.nd (.int .i64 n_13) (.need (AV.val (.bool b_3) = AV.val (.bool false)) (.nd (.bool b_3) (.leaf (.retn [.bool false])))))))))))))))))))))))))))))))))))))))))))))))))))))))))))))))))))))))))) else .sem false (Instr.buildSlice 50 1 #[(0, .int .i64 1)]) fun v => .unS v fun a n c => .nd (.slice a_5 n_27 c_5) (.nd (.bool b) (.nd (.bool b) (.need (AV.val (.bool (n_21 != 15)) = AV.val (.bool false)) (.nd (.bool (n_21 != 15)) (.nd (.bool (n_21 != 15)) (.nd (.int .i64 n_21) (.need (AV.val (.bool (n_19 != 17)) = AV.val (.bool false)) (.nd (.bool (n_19 != 17)) (.nd (.bool (n_19 != 17)) (.nd (.int .i64 n_19) (.need (AV.val (.bool (n_17 != 2)) = AV.val (.bool false)) (.nd (.bool (n_17 != 2)) (.nd (.bool (n_17 != 2)) (.nd (.int .i64 n_17) (.need (AV.val (.bool (n_15 != 0)) = AV.val (.bool false)) (.nd (.bool (n_15 != 0)) (.nd (.bool (n_15 != 0)) (.nd (.int .i64 n_15) (.need (AV.val (.bool (n_13 != 1)) = AV.val (.bool false)) (.nd (.bool (n_13 != 1)) (.nd (.bool (n_13 != 1)) (.nd (.int .i64 n_13) (.need (AV.val (.bool b_3) = AV.val (.bool false)) (.nd (.bool b_3) (.call false 30 #[.slice a_5 n_27 c_5, .slice a n c] fun v => .unB v fun b_4 => .nd (.bool b) (.nd (.bool b) (.need (AV.val (.bool (n_21 != 15)) = AV.val (.bool false)) (.nd (.bool (n_21 != 15)) (.nd (.bool (n_21 != 15)) (.nd (.int .i64 n_21) (.need (AV.val (.bool (n_19 != 17)) = AV.val (.bool false)) (.nd (.bool (n_19 != 17)) (.nd (.bool (n_19 != 17)) (.nd (.int .i64 n_19) (.need (AV.val (.bool (n_17 != 2)) = AV.val (.bool false)) (.nd (.bool (n_17 != 2)) (.nd (.bool (n_17 != 2)) (.nd (.int .i64 n_17) (.need (AV.val (.bool (n_15 != 0)) = AV.val (.bool false)) (.nd (.bool (n_15 != 0)) (.nd (.bool (n_15 != 0)) (.nd (.int .i64 n_15) (.need (AV.val (.bool (n_13 != 1)) = AV.val (.bool false)) (.nd (.bool (n_13 != 1)) (.nd (.bool (n_13 != 1)) (.nd (.int .i64 n_13) (.need (AV.val (.bool b_3) = AV.val (.bool false)) (.nd (.bool b_3) (bif !b_4 then .leaf (.retn [.bool false]) else .leaf (.again [.bool b_1]))))))))))))))))))))))))))))))))))))))))))))))))))))))) (fun vs => .popB vs fun b vs => .unNil vs (.sem false (Instr.buildSlice 40 3 #[(0, .int .i64 1), (1, .int .i64 2), (2, .int .i64 0)]) fun v => .unS v fun a n c => .call false 20 #[.slice a_3 n_23 c_3, .slice a n c] fun v => .unB v fun b => bif b then .call false 43 #[.int .i64 16, .int .i64 20] fun v => .unAgg v fun l => .popI .i64 l fun n vs => .popI .i64 vs fun n_30 vs => .unNil vs (.call false 43 #[.int .i64 16, .int .i64 20] fun v => .unAgg v fun l => .popI .i64 l fun n_31 vs => .popI .i64 vs fun n_32 vs => .unNil vs (.sem false (Instr.buildSlice 45 2 #[(0, .agg #[.int .i64 1, .int .i64 0, .int .i64 n, .int .i64 n_30]), (1, .agg #[.int .i64 2, .int .i64 0, .int .i64 n_31, .int .i64 n_32])]) fun v => .unS v fun a n c => .call false 25 #[.slice a_4 n_25 c_4, .slice a n c] fun v => .unB v fun b => .leaf (.ret (.bool b)))) else .leaf (.ret (.bool false)))) (fun vs => .popB vs fun b vs => .unNil vs (.leaf (.ret (.bool b)))) fun x x_1 => .fail)) (fun vs => .popB vs fun b vs => .unNil vs (.leaf (.ret (.bool b)))) fun x x_1 => .fail))))))))))))))
theorem t16  : ftree ({ P := Tryd.prog, priv := [1, 2, 4], loops := [], joins := [{ id := 17, slots := [(0, .bool)], ro := [1, 2, 4], outs := [] }, { id := 15, slots := [(0, .bool)], ro := [1, 2, 4], outs := [] }] }) Tryd.f11 [] = n16  := by kernel_rfl
theorem w16  {X : XP} (hX : XOK X) {h : LH} {A : Value → LH → Prop} (hw : (n16 ).wp X Tryd.prog (retQ A) h) : FWK X Tryd.prog .normal 11 #[] h A := fwk_neat (t16 ) (by simp) (by kernel_rfl) (by kernel_rfl) hX hw
end Go.Proofs.YtopkdkedjkidhaaDoor
end
section
namespace Go.Proofs.YtopkdkedjkidhaaDoor
open Go Go.TM Go.Proofs
attribute [local irreducible] T.wp CV FWK
def exU : UseFile := ⟨3, 2, 10, 5, [⟨21, 23⟩], [⟨⟨12, 14⟩, 0, [0, 1]⟩, ⟨⟨19, 19⟩, 0, [0]⟩, ⟨⟨17, 26⟩, 0, [2]⟩, ⟨⟨18, 18⟩, 1, [0, 1]⟩], [⟨20, 0, [0, 1, 2]⟩, ⟨25, 0, [0, 2]⟩]⟩
theorem c42 {h : LH} (a b : Int) : Pu Tryd.prog 43 #[.int .i64 a, .int .i64 b] h (.agg #[.int .i64 a, .int .i64 b]) := by
  refine w42 _ _ X0_ok ?_
  unfold n42
  exact t_ret ⟨rfl, rfl⟩
theorem c35 {h : LH} {p q : Option Addr} {n c m d : Nat} {a b : List Int} (ha : Sl IntE 1 h.get p n a) (hb : Sl IntE 1 h.get q m b) : Pu Tryd.prog 30 #[.slice p n c, .slice q m d] h (.bool (decide (a = b))) := by
  refine w35 _ _ _ _ _ _ X0_ok ?_
  unfold n35
  have hn := ha.1
  have hm := hb.1
  have hbn := ha.2.1
  have hbm := hb.2.1
  refine t_cond (fun e => ?_) (fun e => ?_)
  · have : a ≠ b := by rintro rfl; simp at e; omega
    exact t_ret ⟨by simp [this], rfl⟩
  have hnm : n = m := by simp at e; omega
  refine t_loop (fun mm vs h' => h = h' ∧ ∃ i : Nat, vs = [.bool false, .int .i64 i] ∧ i ≤ n ∧ mm = n - i ∧ a.take i = b.take i) ⟨rfl, 0, rfl, Nat.zero_le _, rfl, rfl⟩ ?_
  rintro Y mm vs _ hY ⟨rfl, i, rfl, hi, rfl, hc⟩
  (repeat (first | (with_reducible first | apply gA | apply gB | apply gC | apply gD | apply gE | apply gF | apply gG | apply gH | apply gI | apply gJ | apply gK | apply gL | apply gM | apply gN | apply gO | apply gP | apply gQ | apply gR) | ((with_reducible first | apply gT | apply gS2); first | exact rfl | assumption | omega | exact ⟨⟩) | ((with_reducible first | apply gL0 | apply gL1 | apply gL2 | apply gL3 | apply gL4); assumption)))
  refine t_if (fun e => ?_) (fun e => ?_)
  · obtain ⟨x, a1, hx, ha1, e1⟩ := ha.at (i := i) (by omega)
    obtain ⟨y, a2, hy, ha2, e2⟩ := hb.at (i := i) (by omega)
    unfold IntE at e1 e2
    (repeat (first | (with_reducible first | apply gA | apply gB | apply gC | apply gD | apply gE | apply gF | apply gG | apply gH | apply gI | apply gJ | apply gK | apply gL | apply gM | apply gN | apply gO | apply gP | apply gQ | apply gR) | ((with_reducible first | apply gT | apply gS2); first | exact rfl | assumption | omega | exact ⟨⟩) | ((with_reducible first | apply gL0 | apply gL1 | apply gL2 | apply gL3 | apply gL4); assumption)))
    refine t_cond (fun b1 => ?_) (fun b1 => ?_)
    · (repeat (first | (with_reducible first | apply gA | apply gB | apply gC | apply gD | apply gE | apply gF | apply gG | apply gH | apply gI | apply gJ | apply gK | apply gL | apply gM | apply gN | apply gO | apply gP | apply gQ | apply gR) | ((with_reducible first | apply gT | apply gS2); first | exact rfl | assumption | omega | exact ⟨⟩) | ((with_reducible first | apply gL0 | apply gL1 | apply gL2 | apply gL3 | apply gL4); assumption)))
      have : a ≠ b := by rintro rfl; rw [hx] at hy; cases hy; simp at b1
      exact t_ret ⟨by simp [this], rfl⟩
    · have b2 : x = y := by simpa using b1
      refine t_again (hY (n - (i + 1)) _ _ (by omega) ⟨rfl, i + 1, ?_, by omega, rfl, ?_⟩)
      · rw [wrap_id (by omega) (by omega)]; rfl
      · rw [List.take_add_one, List.take_add_one, hc, hx, hy, b2]
  · (repeat (first | (with_reducible first | apply gA | apply gB | apply gC | apply gD | apply gE | apply gF | apply gG | apply gH | apply gI | apply gJ | apply gK | apply gL | apply gM | apply gN | apply gO | apply gP | apply gQ | apply gR) | ((with_reducible first | apply gT | apply gS2); first | exact rfl | assumption | omega | exact ⟨⟩) | ((with_reducible first | apply gL0 | apply gL1 | apply gL2 | apply gL3 | apply gL4); assumption)))
    rw [List.take_of_length_le (by omega), List.take_of_length_le (by omega)] at hc
    exact t_ret ⟨by simp [hc], rfl⟩
theorem c25 {h : LH} {p q : Option Addr} {n c m d : Nat} {a b : List Int} (ha : Sl IntE 1 h.get p n a) (hb : Sl IntE 1 h.get q m b) : Pu Tryd.prog 20 #[.slice p n c, .slice q m d] h (.bool (decide (a = b))) := by
  refine w25 _ _ _ _ _ _ X0_ok ?_
  unfold n25
  have hn := ha.1
  have hm := hb.1
  have hbn := ha.2.1
  have hbm := hb.2.1
  refine t_cond (fun e => ?_) (fun e => ?_)
  · have : a ≠ b := by rintro rfl; simp at e; omega
    exact t_ret ⟨by simp [this], rfl⟩
  have hnm : n = m := by simp at e; omega
  refine t_loop (fun mm vs h' => h = h' ∧ ∃ i : Nat, vs = [.bool false, .int .i64 i] ∧ i ≤ n ∧ mm = n - i ∧ a.take i = b.take i) ⟨rfl, 0, rfl, Nat.zero_le _, rfl, rfl⟩ ?_
  rintro Y mm vs _ hY ⟨rfl, i, rfl, hi, rfl, hc⟩
  (repeat (first | (with_reducible first | apply gA | apply gB | apply gC | apply gD | apply gE | apply gF | apply gG | apply gH | apply gI | apply gJ | apply gK | apply gL | apply gM | apply gN | apply gO | apply gP | apply gQ | apply gR) | ((with_reducible first | apply gT | apply gS2); first | exact rfl | assumption | omega | exact ⟨⟩) | ((with_reducible first | apply gL0 | apply gL1 | apply gL2 | apply gL3 | apply gL4); assumption)))
  refine t_if (fun e => ?_) (fun e => ?_)
  · obtain ⟨x, a1, hx, ha1, e1⟩ := ha.at (i := i) (by omega)
    obtain ⟨y, a2, hy, ha2, e2⟩ := hb.at (i := i) (by omega)
    unfold IntE at e1 e2
    (repeat (first | (with_reducible first | apply gA | apply gB | apply gC | apply gD | apply gE | apply gF | apply gG | apply gH | apply gI | apply gJ | apply gK | apply gL | apply gM | apply gN | apply gO | apply gP | apply gQ | apply gR) | ((with_reducible first | apply gT | apply gS2); first | exact rfl | assumption | omega | exact ⟨⟩) | ((with_reducible first | apply gL0 | apply gL1 | apply gL2 | apply gL3 | apply gL4); assumption)))
    refine t_cond (fun b1 => ?_) (fun b1 => ?_)
    · (repeat (first | (with_reducible first | apply gA | apply gB | apply gC | apply gD | apply gE | apply gF | apply gG | apply gH | apply gI | apply gJ | apply gK | apply gL | apply gM | apply gN | apply gO | apply gP | apply gQ | apply gR) | ((with_reducible first | apply gT | apply gS2); first | exact rfl | assumption | omega | exact ⟨⟩) | ((with_reducible first | apply gL0 | apply gL1 | apply gL2 | apply gL3 | apply gL4); assumption)))
      have : a ≠ b := by rintro rfl; rw [hx] at hy; cases hy; simp at b1
      exact t_ret ⟨by simp [this], rfl⟩
    · have b2 : x = y := by simpa using b1
      refine t_again (hY (n - (i + 1)) _ _ (by omega) ⟨rfl, i + 1, ?_, by omega, rfl, ?_⟩)
      · rw [wrap_id (by omega) (by omega)]; rfl
      · rw [List.take_add_one, List.take_add_one, hc, hx, hy, b2]
  · (repeat (first | (with_reducible first | apply gA | apply gB | apply gC | apply gD | apply gE | apply gF | apply gG | apply gH | apply gI | apply gJ | apply gK | apply gL | apply gM | apply gN | apply gO | apply gP | apply gQ | apply gR) | ((with_reducible first | apply gT | apply gS2); first | exact rfl | assumption | omega | exact ⟨⟩) | ((with_reducible first | apply gL0 | apply gL1 | apply gL2 | apply gL3 | apply gL4); assumption)))
    rw [List.take_of_length_le (by omega), List.take_of_length_le (by omega)] at hc
    exact t_ret ⟨by simp [hc], rfl⟩
end Go.Proofs.YtopkdkedjkidhaaDoor
end
section
namespace Go.Proofs.YtopkdkedjkidhaaDoor
open Go Go.TM Go.Proofs
attribute [local irreducible] T.wp CV FWK
theorem t_buildG {X : XP} {Q : Leaf → LH → Prop} {h : LH} {k : Value → T} {t el : TypeId} {n s b : Nat} {parts : Array (Nat × Value)} {z : Value} {cells : Array Value} (hu : Tryd.prog.underlying t = some (.slice el)) (hi : (Tryd.prog.info? el).map (fun i => (i.size, i.bytes, i.zero)) = some (s, b, some z)) (hn : n * s ≤ 2 ^ 24) (hpos : n * s ≠ 0)
    (hf : Instr.fill (fun i => some (i * s, s)) ((Array.range (n * s)).map (z.cells[· % z.cells.size]!)) parts.toList = some cells)
    (hk : ∀ r h', h.le h' → h.get r = none → h'.get r = some (true, .cells cells el (0, 0)) → (k (.slice (some ⟨r, 0, none⟩) n n)).wp X Tryd.prog Q h') : (T.sem false (Instr.buildSlice t n parts) k).wp X Tryd.prog Q h :=
  t_build hu hi hn hpos hf fun r hr => hk r _ (LH.upd_le hr) hr (Cells.upd_self _ _ _)
theorem sl_ints {h : Cells} {r : Nat} {m : Bool} {el : TypeId} {l : List Int} {cs : Array Value} (hcs : cs = (l.map (Value.int .i64)).toArray) (hr : h r = some (m, .cells cs el (0, 0))) (hb : l.length < 4611686018427387904) : Sl IntE 1 h (some ⟨r, 0, none⟩) l.length l := by
  refine ⟨rfl, hb, fun i x hx => ⟨_, rfl, ?_⟩⟩
  unfold IntE
  rw [add_plain, add_plain]
  subst hcs
  simp [Cells.cell?, hr, hx]
theorem cell_row {h : Cells} {r i : Nat} {m : Bool} {cs : Array Value} {el : TypeId} {v : Value} (hr : h r = some (m, .cells cs el (0, 0))) (hv : cs[i]? = some v) : h.cell? ⟨r, i, none⟩ = some v := by
  simp [Cells.cell?, hr, hv]
theorem exRep {h : Cells} {r1 r2 r3 r4 r5 r6 r7 r8 r9 : Nat} (e1 : h r1 = some (true, .cells #[.int .i64 21, .int .i64 23] 30 (0, 0))) (e2 : h r2 = some (true, .cells #[.int .i64 0, .int .i64 1] 3 (0, 0))) (e3 : h r3 = some (true, .cells #[.int .i64 0] 3 (0, 0))) (e4 : h r4 = some (true, .cells #[.int .i64 2] 3 (0, 0))) (e5 : h r5 = some (true, .cells #[.int .i64 0, .int .i64 1] 3 (0, 0)))
    (e6 : h r6 = some (true, .cells #[.int .i64 12, .int .i64 14, .int .i64 0, .slice (some ⟨r2, 0, none⟩) 2 2, .int .i64 19, .int .i64 19, .int .i64 0, .slice (some ⟨r3, 0, none⟩) 1 1, .int .i64 17, .int .i64 26, .int .i64 0, .slice (some ⟨r4, 0, none⟩) 1 1, .int .i64 18, .int .i64 18, .int .i64 1, .slice (some ⟨r5, 0, none⟩) 2 2] 68 (0, 0)))
    (e7 : h r7 = some (true, .cells #[.int .i64 0, .int .i64 1, .int .i64 2] 3 (0, 0))) (e8 : h r8 = some (true, .cells #[.int .i64 0, .int .i64 2] 3 (0, 0))) (e9 : h r9 = some (true, .cells #[.int .i64 20, .int .i64 0, .slice (some ⟨r7, 0, none⟩) 3 3, .int .i64 25, .int .i64 0, .slice (some ⟨r8, 0, none⟩) 2 2] 64 (0, 0))) :
    FileR h ⟨some ⟨r1, 0, none⟩, 1, 1, some ⟨r6, 0, none⟩, 4, 4, some ⟨r9, 0, none⟩, 2, 2⟩ exU := by
  have cr : ∀ {r i j : Nat} {m : Bool} {cs : Array Value} {el : TypeId} {v : Value}, h r = some (m, .cells cs el (0, 0)) → cs[i + j]? = some v → h.cell? (Addr.add (Addr.add ⟨r, 0, none⟩ i) j) = some v := by
    intro r i j m cs el v hr hv
    rw [add_plain, add_plain, Nat.zero_add]; exact cell_row hr hv
  refine ⟨⟨rfl, by show (1 : Nat) < _; omega, ?_⟩, ⟨rfl, by show (4 : Nat) < _; omega, ?_⟩, ⟨rfl, by show (2 : Nat) < _; omega, ?_⟩⟩
  · intro i x hx
    match i, hx with
    | 0, hx => cases hx; exact ⟨_, rfl, cr e1 rfl, cr e1 rfl⟩
    | i + 1, hx => simp [exU] at hx
  · intro i x hx
    match i, hx with
    | 0, hx => cases hx; exact ⟨_, rfl, cr e6 rfl, cr e6 rfl, cr e6 rfl, _, _, _, cr e6 rfl, sl_ints (l := [0, 1]) rfl e2 (by show (2 : Nat) < _; omega)⟩
    | 1, hx => cases hx; exact ⟨_, rfl, cr e6 rfl, cr e6 rfl, cr e6 rfl, _, _, _, cr e6 rfl, sl_ints (l := [0]) rfl e3 (by show (1 : Nat) < _; omega)⟩
    | 2, hx => cases hx; exact ⟨_, rfl, cr e6 rfl, cr e6 rfl, cr e6 rfl, _, _, _, cr e6 rfl, sl_ints (l := [2]) rfl e4 (by show (1 : Nat) < _; omega)⟩
    | 3, hx => cases hx; exact ⟨_, rfl, cr e6 rfl, cr e6 rfl, cr e6 rfl, _, _, _, cr e6 rfl, sl_ints (l := [0, 1]) rfl e5 (by show (2 : Nat) < _; omega)⟩
    | i + 4, hx => simp [exU] at hx
  · intro i x hx
    match i, hx with
    | 0, hx => cases hx; exact ⟨_, rfl, cr e9 rfl, cr e9 rfl, _, _, _, cr e9 rfl, sl_ints (l := [0, 1, 2]) rfl e7 (by show (3 : Nat) < _; omega)⟩
    | 1, hx => cases hx; exact ⟨_, rfl, cr e9 rfl, cr e9 rfl, _, _, _, cr e9 rfl, sl_ints (l := [0, 2]) rfl e8 (by show (2 : Nat) < _; omega)⟩
    | i + 2, hx => simp [exU] at hx
set_option maxRecDepth 100000 in
theorem c52 {h : LH} : Gr Tryd.prog 42 #[] h fun r h' => ∃ f, r = fileV f exU ∧ FileR h'.get f exU := by
  refine w52 X0_ok ?_
  unfold n52
  refine t_pu (c42 _ _) ?_
  (repeat (first | (with_reducible first | apply gA | apply gB | apply gC | apply gD | apply gE | apply gF | apply gG | apply gH | apply gI | apply gJ | apply gK | apply gL | apply gM | apply gN | apply gO | apply gP | apply gQ | apply gR) | ((with_reducible first | apply gT | apply gS2); first | exact rfl | assumption | omega | exact ⟨⟩) | ((with_reducible first | apply gL0 | apply gL1 | apply gL2 | apply gL3 | apply gL4); assumption)))
  refine t_buildG und22 inf30 (by decide) (by decide) (cells := #[.int .i64 21, .int .i64 23]) (by kernel_rfl) fun r1 h1 le1 _ e1 => ?_
  (repeat (first | (with_reducible first | apply gA | apply gB | apply gC | apply gD | apply gE | apply gF | apply gG | apply gH | apply gI | apply gJ | apply gK | apply gL | apply gM | apply gN | apply gO | apply gP | apply gQ | apply gR) | ((with_reducible first | apply gT | apply gS2); first | exact rfl | assumption | omega | exact ⟨⟩) | ((with_reducible first | apply gL0 | apply gL1 | apply gL2 | apply gL3 | apply gL4); assumption)))
  refine t_pu (c42 _ _) ?_
  (repeat (first | (with_reducible first | apply gA | apply gB | apply gC | apply gD | apply gE | apply gF | apply gG | apply gH | apply gI | apply gJ | apply gK | apply gL | apply gM | apply gN | apply gO | apply gP | apply gQ | apply gR) | ((with_reducible first | apply gT | apply gS2); first | exact rfl | assumption | omega | exact ⟨⟩) | ((with_reducible first | apply gL0 | apply gL1 | apply gL2 | apply gL3 | apply gL4); assumption)))
  refine t_buildG und50 inf3 (by decide) (by decide) (cells := #[.int .i64 0, .int .i64 1]) (by kernel_rfl) fun r2 h2 le2 _ e2 => ?_
  (repeat (first | (with_reducible first | apply gA | apply gB | apply gC | apply gD | apply gE | apply gF | apply gG | apply gH | apply gI | apply gJ | apply gK | apply gL | apply gM | apply gN | apply gO | apply gP | apply gQ | apply gR) | ((with_reducible first | apply gT | apply gS2); first | exact rfl | assumption | omega | exact ⟨⟩) | ((with_reducible first | apply gL0 | apply gL1 | apply gL2 | apply gL3 | apply gL4); assumption)))
  refine t_pu (c42 _ _) ?_
  (repeat (first | (with_reducible first | apply gA | apply gB | apply gC | apply gD | apply gE | apply gF | apply gG | apply gH | apply gI | apply gJ | apply gK | apply gL | apply gM | apply gN | apply gO | apply gP | apply gQ | apply gR) | ((with_reducible first | apply gT | apply gS2); first | exact rfl | assumption | omega | exact ⟨⟩) | ((with_reducible first | apply gL0 | apply gL1 | apply gL2 | apply gL3 | apply gL4); assumption)))
  refine t_buildG und50 inf3 (by decide) (by decide) (cells := #[.int .i64 0]) (by kernel_rfl) fun r3 h3 le3 _ e3 => ?_
  (repeat (first | (with_reducible first | apply gA | apply gB | apply gC | apply gD | apply gE | apply gF | apply gG | apply gH | apply gI | apply gJ | apply gK | apply gL | apply gM | apply gN | apply gO | apply gP | apply gQ | apply gR) | ((with_reducible first | apply gT | apply gS2); first | exact rfl | assumption | omega | exact ⟨⟩) | ((with_reducible first | apply gL0 | apply gL1 | apply gL2 | apply gL3 | apply gL4); assumption)))
  refine t_pu (c42 _ _) ?_
  (repeat (first | (with_reducible first | apply gA | apply gB | apply gC | apply gD | apply gE | apply gF | apply gG | apply gH | apply gI | apply gJ | apply gK | apply gL | apply gM | apply gN | apply gO | apply gP | apply gQ | apply gR) | ((with_reducible first | apply gT | apply gS2); first | exact rfl | assumption | omega | exact ⟨⟩) | ((with_reducible first | apply gL0 | apply gL1 | apply gL2 | apply gL3 | apply gL4); assumption)))
  refine t_buildG und50 inf3 (by decide) (by decide) (cells := #[.int .i64 2]) (by kernel_rfl) fun r4 h4 le4 _ e4 => ?_
  (repeat (first | (with_reducible first | apply gA | apply gB | apply gC | apply gD | apply gE | apply gF | apply gG | apply gH | apply gI | apply gJ | apply gK | apply gL | apply gM | apply gN | apply gO | apply gP | apply gQ | apply gR) | ((with_reducible first | apply gT | apply gS2); first | exact rfl | assumption | omega | exact ⟨⟩) | ((with_reducible first | apply gL0 | apply gL1 | apply gL2 | apply gL3 | apply gL4); assumption)))
  refine t_pu (c42 _ _) ?_
  (repeat (first | (with_reducible first | apply gA | apply gB | apply gC | apply gD | apply gE | apply gF | apply gG | apply gH | apply gI | apply gJ | apply gK | apply gL | apply gM | apply gN | apply gO | apply gP | apply gQ | apply gR) | ((with_reducible first | apply gT | apply gS2); first | exact rfl | assumption | omega | exact ⟨⟩) | ((with_reducible first | apply gL0 | apply gL1 | apply gL2 | apply gL3 | apply gL4); assumption)))
  refine t_buildG und50 inf3 (by decide) (by decide) (cells := #[.int .i64 0, .int .i64 1]) (by kernel_rfl) fun r5 h5 le5 _ e5 => ?_
  (repeat (first | (with_reducible first | apply gA | apply gB | apply gC | apply gD | apply gE | apply gF | apply gG | apply gH | apply gI | apply gJ | apply gK | apply gL | apply gM | apply gN | apply gO | apply gP | apply gQ | apply gR) | ((with_reducible first | apply gT | apply gS2); first | exact rfl | assumption | omega | exact ⟨⟩) | ((with_reducible first | apply gL0 | apply gL1 | apply gL2 | apply gL3 | apply gL4); assumption)))
  refine t_buildG und23 inf69 (by decide) (by decide) (cells := #[.int .i64 12, .int .i64 14, .int .i64 0, .slice (some ⟨r2, 0, none⟩) 2 2, .int .i64 19, .int .i64 19, .int .i64 0, .slice (some ⟨r3, 0, none⟩) 1 1, .int .i64 17, .int .i64 26, .int .i64 0, .slice (some ⟨r4, 0, none⟩) 1 1, .int .i64 18, .int .i64 18, .int .i64 1, .slice (some ⟨r5, 0, none⟩) 2 2]) (by kernel_rfl) fun r6 h6 le6 _ e6 => ?_
  (repeat (first | (with_reducible first | apply gA | apply gB | apply gC | apply gD | apply gE | apply gF | apply gG | apply gH | apply gI | apply gJ | apply gK | apply gL | apply gM | apply gN | apply gO | apply gP | apply gQ | apply gR) | ((with_reducible first | apply gT | apply gS2); first | exact rfl | assumption | omega | exact ⟨⟩) | ((with_reducible first | apply gL0 | apply gL1 | apply gL2 | apply gL3 | apply gL4); assumption)))
  refine t_buildG und50 inf3 (by decide) (by decide) (cells := #[.int .i64 0, .int .i64 1, .int .i64 2]) (by kernel_rfl) fun r7 h7 le7 _ e7 => ?_
  (repeat (first | (with_reducible first | apply gA | apply gB | apply gC | apply gD | apply gE | apply gF | apply gG | apply gH | apply gI | apply gJ | apply gK | apply gL | apply gM | apply gN | apply gO | apply gP | apply gQ | apply gR) | ((with_reducible first | apply gT | apply gS2); first | exact rfl | assumption | omega | exact ⟨⟩) | ((with_reducible first | apply gL0 | apply gL1 | apply gL2 | apply gL3 | apply gL4); assumption)))
  refine t_buildG und50 inf3 (by decide) (by decide) (cells := #[.int .i64 0, .int .i64 2]) (by kernel_rfl) fun r8 h8 le8 _ e8 => ?_
  (repeat (first | (with_reducible first | apply gA | apply gB | apply gC | apply gD | apply gE | apply gF | apply gG | apply gH | apply gI | apply gJ | apply gK | apply gL | apply gM | apply gN | apply gO | apply gP | apply gQ | apply gR) | ((with_reducible first | apply gT | apply gS2); first | exact rfl | assumption | omega | exact ⟨⟩) | ((with_reducible first | apply gL0 | apply gL1 | apply gL2 | apply gL3 | apply gL4); assumption)))
  refine t_buildG und24 inf64 (by decide) (by decide) (cells := #[.int .i64 20, .int .i64 0, .slice (some ⟨r7, 0, none⟩) 3 3, .int .i64 25, .int .i64 0, .slice (some ⟨r8, 0, none⟩) 2 2]) (by kernel_rfl) fun r9 h9 le9 _ e9 => ?_
  (repeat (first | (with_reducible first | apply gA | apply gB | apply gC | apply gD | apply gE | apply gF | apply gG | apply gH | apply gI | apply gJ | apply gK | apply gL | apply gM | apply gN | apply gO | apply gP | apply gQ | apply gR) | ((with_reducible first | apply gT | apply gS2); first | exact rfl | assumption | omega | exact ⟨⟩) | ((with_reducible first | apply gL0 | apply gL1 | apply gL2 | apply gL3 | apply gL4); assumption)))
  have l89 := le9
  have l79 := LH.le_trans le8 l89
  have l69 := LH.le_trans le7 l79
  have l59 := LH.le_trans le6 l69
  have l49 := LH.le_trans le5 l59
  have l39 := LH.le_trans le4 l49
  have l29 := LH.le_trans le3 l39
  have l19 := LH.le_trans le2 l29
  have e1 := l19.1 _ _ e1
  have e2 := l29.1 _ _ e2
  have e3 := l39.1 _ _ e3
  have e4 := l49.1 _ _ e4
  have e5 := l59.1 _ _ e5
  have e6 := l69.1 _ _ e6
  have e7 := l79.1 _ _ e7
  have e8 := l89.1 _ _ e8
  refine t_ret ⟨LH.le_trans le1 l19, ⟨some ⟨r1, 0, none⟩, 1, 1, some ⟨r6, 0, none⟩, 4, 4, some ⟨r9, 0, none⟩, 2, 2⟩, rfl, ?_⟩
  exact exRep e1 e2 e3 e4 e5 e6 e7 e8 e9
end Go.Proofs.YtopkdkedjkidhaaDoor
end
section
namespace Go.TM
open Go Go.Conc
variable {P : Program} {E : Halt → Cells → Prop} {h : Cells}
theorem lwp_equalIn2 {Q : Bool → Cells → Prop} {t : TypeId} {k : Nat} {a b c d : Int} (ht : twoInts P t = true) (hq : Q (decide (a = c ∧ b = d)) h) : Sem.lwp P (Op.equalIn (k + 1 + 1) t (.agg #[.int .i64 a, .int .i64 b]) (.agg #[.int .i64 c, .int .i64 d])) Q E h := by
  obtain ⟨f, g, hu, n1, n2, i1, i2, o1, o2, hs⟩ := twoInts_spec ht
  rw [Op.equalIn]
  rw [lwp_bind, lwp_underlying hu]
  simp only [lwp_bind, lwp_program, hs, Bool.false_eq_true, if_false, List.forIn_toArray, List.forIn_cons, List.forIn_nil, n1, n2, ne_eq, not_false_eq_true, if_true]
  refine lwp_partI i1 (v := .int .i64 a) (by rw [o1]; rfl) ?_
  refine lwp_partI i1 (v := .int .i64 c) (by rw [o1]; rfl) ?_
  refine lwp_equalI i1 ?_
  by_cases e1 : a = c
  · subst e1
    simp only [beq_self_eq_true, Bool.not_true, Bool.false_eq_true, if_false, lwp_pure, lwp_bind]
    refine lwp_partI i2 (v := .int .i64 b) (by rw [o2]; rfl) ?_
    refine lwp_partI i2 (v := .int .i64 d) (by rw [o2]; rfl) ?_
    refine lwp_equalI i2 ?_
    by_cases e2 : b = d
    · subst e2
      simpa [lwp_pure] using hq
    · have e3 : (b == d) = false := by simpa using e2
      simpa [lwp_pure, e2, e3] using hq
  · have e3 : (a == c) = false := by simpa using e1
    simpa [lwp_pure, e1, e3] using hq
def twoAndTwo (P : Program) (t : TypeId) : Bool := match P.underlying t with
  | some (.struct fs) => (match fs.toList with
    | [a, b, w] => a.name != "_" && b.name != "_" && w.name != "_" && isI64 P a.type && isI64 P b.type && twoInts P w.type && Nat.beq a.offset 0 && Nat.beq b.offset 1 && Nat.beq w.offset 2 && (match P.info? w.type with | some i => Nat.beq i.size 2 | none => false)
    | _ => false) && !P.stoodInHeld t
  | _ => false
theorem twoInts_agg {t : TypeId} (ht : twoInts P t = true) : isAggT P t = true := by
  obtain ⟨f, g, hu, _⟩ := twoInts_spec ht
  unfold isAggT; rw [hu]
theorem lwp_part2 {Q : Value → Cells → Prop} {t : TypeId} {cs : Array Value} {o : Nat} {i : TypeInfo} (ht : twoInts P t = true) (hi : P.info? t = some i) (hs : i.size = 2) (hq : Q (.agg (cs.extract o (o + 2))) h) : Sem.lwp P (part t cs o) Q E h := by
  unfold part
  rw [lwp_bind, lwp_isAgg_true (twoInts_agg ht)]
  simp only [if_true, lwp_bind, lwp_sizeOf hi, hs, lwp_pure]
  exact hq
theorem lwp_equal4 {Q : Bool → Cells → Prop} {t : TypeId} {a b c d a' b' c' d' : Int} (ht : twoAndTwo P t = true) (hq : Q (decide (a = a' ∧ b = b' ∧ c = c' ∧ d = d')) h) : Sem.lwp P (Op.equal t (.agg #[.int .i64 a, .int .i64 b, .int .i64 c, .int .i64 d]) (.agg #[.int .i64 a', .int .i64 b', .int .i64 c', .int .i64 d'])) Q E h := by
  unfold twoAndTwo at ht
  split at ht
  next fs hu =>
    simp only [Bool.and_eq_true, Bool.not_eq_true'] at ht
    obtain ⟨h1, hs⟩ := ht
    split at h1
    next x y w hfs =>
      simp only [Bool.and_eq_true, bne_iff_ne] at h1
      obtain ⟨⟨⟨⟨⟨⟨⟨⟨⟨n1, n2⟩, n3⟩, i1⟩, i2⟩, i3⟩, o1⟩, o2⟩, o3⟩, sz⟩ := h1
      have hfs' : fs = #[x, y, w] := by rw [← hfs]
      subst hfs'
      have o1 := nbeq_true o1
      have o2 := nbeq_true o2
      have o3 := nbeq_true o3
      cases hi : P.info? w.type with
      | none => rw [hi] at sz; cases sz
      | some inf =>
        rw [hi] at sz
        have sz := nbeq_true sz
        unfold Op.equal
        have hmd : Op.maxDepth = 9997 + 1 + 1 + 1 := rfl
        rw [hmd, Op.equalIn]
        rw [lwp_bind, lwp_underlying hu]
        simp only [lwp_bind, lwp_program, hs, Bool.false_eq_true, if_false, List.forIn_toArray, List.forIn_cons, List.forIn_nil, n1, n2, n3, ne_eq, not_false_eq_true, if_true]
        refine lwp_partI i1 (v := .int .i64 a) (by rw [o1]; rfl) ?_
        refine lwp_partI i1 (v := .int .i64 a') (by rw [o1]; rfl) ?_
        refine lwp_equalI i1 ?_
        by_cases e1 : a = a'
        · subst e1
          simp only [beq_self_eq_true, Bool.not_true, Bool.false_eq_true, if_false, lwp_pure, lwp_bind]
          refine lwp_partI i2 (v := .int .i64 b) (by rw [o2]; rfl) ?_
          refine lwp_partI i2 (v := .int .i64 b') (by rw [o2]; rfl) ?_
          refine lwp_equalI i2 ?_
          by_cases e2 : b = b'
          · subst e2
            simp only [beq_self_eq_true, Bool.not_true, Bool.false_eq_true, if_false, lwp_pure, lwp_bind]
            refine lwp_part2 i3 hi sz ?_
            refine lwp_part2 i3 hi sz ?_
            rw [o3]
            refine lwp_equalIn2 (a := c) (b := d) (c := c') (d := d') i3 ?_
            by_cases e3 : c = c' ∧ d = d'
            · simpa [lwp_pure, e3] using hq
            · simpa [lwp_pure, e3] using hq
          · have e3 : (b == b') = false := by simpa using e2
            simpa [lwp_pure, e2, e3] using hq
        · have e3 : (a == a') = false := by simpa using e1
          simpa [lwp_pure, e1, e3] using hq
    next => cases h1
  next => cases ht
variable {X : XP} {Q : Leaf → LH → Prop}
theorem t_ne4 {h : LH} {K : Value → T} {t : TypeId} {x y : Operand} {a b c d a' b' c' d' : Int} (ht : twoAndTwo P t = true) (hg : P.eqGuardType P.depth t = false) (hk : (K (.bool (!decide (a = a' ∧ b = b' ∧ c = c' ∧ d = d')))).wp X P Q h) :
    (T.sem false (Sem.bind (eqGuard .neq t x y (.agg #[.int .i64 a, .int .i64 b, .int .i64 c, .int .i64 d]) (.agg #[.int .i64 a', .int .i64 b', .int .i64 c', .int .i64 d'])) fun _ => binOp .neq t (.agg #[.int .i64 a, .int .i64 b, .int .i64 c, .int .i64 d]) (.agg #[.int .i64 a', .int .i64 b', .int .i64 c', .int .i64 d'])) K).wp X P Q h := by
  refine t_sem (A := fun w h' => w = .bool (!decide (a = a' ∧ b = b' ∧ c = c' ∧ d = d')) ∧ h' = h.get) (Sem.lwp_bind _ _ ?_) (by rintro w h' ⟨rfl, rfl⟩; exact hk)
  unfold eqGuard
  simp only [Bool.not_true, Bool.false_eq_true, if_false, lwp_bind, lwp_program, hg, Bool.not_false, if_true, lwp_pure]
  unfold binOp
  rw [lwp_bind]
  exact lwp_equal4 ht ⟨rfl, rfl⟩
end Go.TM
end
section
namespace Go.Proofs.YtopkdkedjkidhaaDoor
open Go Go.TM Go.Proofs
attribute [local irreducible] T.wp CV FWK
theorem two79 : twoAndTwo Tryd.prog 85 = true := by kernel_rfl
theorem g79 : Tryd.prog.eqGuardType Tryd.prog.depth 85 = false := by kernel_rfl
theorem c30 {h : LH} {p q : Option Addr} {n c m d : Nat} {a b : List Lack} (ha : Sl LackE 4 h.get p n a) (hb : Sl LackE 4 h.get q m b) : Pu Tryd.prog 25 #[.slice p n c, .slice q m d] h (.bool (decide (a = b))) := by
  refine w30 _ _ _ _ _ _ X0_ok ?_
  unfold n30
  have hn := ha.1
  have hm := hb.1
  have hbn := ha.2.1
  have hbm := hb.2.1
  refine t_cond (fun e => ?_) (fun e => ?_)
  · have : a ≠ b := by rintro rfl; simp at e; omega
    exact t_ret ⟨by simp [this], rfl⟩
  have hnm : n = m := by simp at e; omega
  refine t_loop (fun mm vs h' => h = h' ∧ ∃ i : Nat, vs = [.bool false, .int .i64 i] ∧ i ≤ n ∧ mm = n - i ∧ a.take i = b.take i) ⟨rfl, 0, rfl, Nat.zero_le _, rfl, rfl⟩ ?_
  rintro Y mm vs _ hY ⟨rfl, i, rfl, hi, rfl, hc⟩
  (repeat (first | (with_reducible first | apply gA | apply gB | apply gC | apply gD | apply gE | apply gF | apply gG | apply gH | apply gI | apply gJ | apply gK | apply gL | apply gM | apply gN | apply gO | apply gP | apply gQ | apply gR) | ((with_reducible first | apply gT | apply gS2); first | exact rfl | assumption | omega | exact ⟨⟩) | ((with_reducible first | apply gL0 | apply gL1 | apply gL2 | apply gL3 | apply gL4); assumption)))
  refine t_if (fun e => ?_) (fun e => ?_)
  · obtain ⟨x, a1, hx, ha1, e1, e2, e3, e4⟩ := ha.at (i := i) (by omega)
    obtain ⟨y, a2, hy, ha2, f1, f2, f3, f4⟩ := hb.at (i := i) (by omega)
    (repeat (first | (with_reducible first | apply gA | apply gB | apply gC | apply gD | apply gE | apply gF | apply gG | apply gH | apply gI | apply gJ | apply gK | apply gL | apply gM | apply gN | apply gO | apply gP | apply gQ | apply gR) | ((with_reducible first | apply gT | apply gS2); first | exact rfl | assumption | omega | exact ⟨⟩) | ((with_reducible first | apply gL0 | apply gL1 | apply gL2 | apply gL3 | apply gL4); assumption)))
    refine t_ne4 two79 g79 ?_
    (repeat (first | (with_reducible first | apply gA | apply gB | apply gC | apply gD | apply gE | apply gF | apply gG | apply gH | apply gI | apply gJ | apply gK | apply gL | apply gM | apply gN | apply gO | apply gP | apply gQ | apply gR) | ((with_reducible first | apply gT | apply gS2); first | exact rfl | assumption | omega | exact ⟨⟩) | ((with_reducible first | apply gL0 | apply gL1 | apply gL2 | apply gL3 | apply gL4); assumption)))
    refine t_cond (fun b1 => ?_) (fun b1 => ?_)
    · (repeat (first | (with_reducible first | apply gA | apply gB | apply gC | apply gD | apply gE | apply gF | apply gG | apply gH | apply gI | apply gJ | apply gK | apply gL | apply gM | apply gN | apply gO | apply gP | apply gQ | apply gR) | ((with_reducible first | apply gT | apply gS2); first | exact rfl | assumption | omega | exact ⟨⟩) | ((with_reducible first | apply gL0 | apply gL1 | apply gL2 | apply gL3 | apply gL4); assumption)))
      have : a ≠ b := by rintro rfl; rw [hx] at hy; cases hy; simp at b1
      exact t_ret ⟨by simp [this], rfl⟩
    · have b2 : x = y := by
        obtain ⟨x1, x2, x3, x4⟩ := x
        obtain ⟨y1, y2, y3, y4⟩ := y
        simp at b1
        obtain ⟨rfl, rfl, rfl, rfl⟩ := b1
        rfl
      refine t_again (hY (n - (i + 1)) _ _ (by omega) ⟨rfl, i + 1, ?_, by omega, rfl, ?_⟩)
      · rw [wrap_id (by omega) (by omega)]; rfl
      · rw [List.take_add_one, List.take_add_one, hc, hx, hy, b2]
  · (repeat (first | (with_reducible first | apply gA | apply gB | apply gC | apply gD | apply gE | apply gF | apply gG | apply gH | apply gI | apply gJ | apply gK | apply gL | apply gM | apply gN | apply gO | apply gP | apply gQ | apply gR) | ((with_reducible first | apply gT | apply gS2); first | exact rfl | assumption | omega | exact ⟨⟩) | ((with_reducible first | apply gL0 | apply gL1 | apply gL2 | apply gL3 | apply gL4); assumption)))
    rw [List.take_of_length_le (by omega), List.take_of_length_le (by omega)] at hc
    exact t_ret ⟨by simp [hc], rfl⟩
theorem c15 {h : LH} {f : FileC} {u : UseFile} (hu : FileR h.get f u) : FW X0 Tryd.prog 10 #[fileV f u] h fun r h' => h = h' ∧ ∃ b : Bool, r = .bool b ∧ (b = false → u.excuses.length ≤ 20 ∧ u.papers.length ≤ 20 ∧ u.requests.length ≤ 20) := by
  refine w15 _ _ _ _ _ _ _ _ _ _ _ _ _ X0_ok ?_
  unfold n15
  have x0 := hu.excuses.1
  have p0 := hu.papers.1
  have r0 := hu.requests.1
  have pb := hu.papers.2.1
  have rb := hu.requests.2.1
  refine t_blk (fun vs h' => vs = [.bool false] ∧ h = h' ∧ u.excuses.length ≤ 20 ∧ u.papers.length ≤ 20 ∧ u.requests.length ≤ 20) ?_ ?_
  · refine t_if (fun e1 => ?_) (fun e1 => ?_)
    · (repeat (first | (with_reducible first | apply gA | apply gB | apply gC | apply gD | apply gE | apply gF | apply gG | apply gH | apply gI | apply gJ | apply gK | apply gL | apply gM | apply gN | apply gO | apply gP | apply gQ | apply gR) | ((with_reducible first | apply gT | apply gS2); first | exact rfl | assumption | omega | exact ⟨⟩) | ((with_reducible first | apply gL0 | apply gL1 | apply gL2 | apply gL3 | apply gL4); assumption)))
      exact t_ret ⟨rfl, true, rfl, fun e => by cases e⟩
    refine t_if (fun e2 => ?_) (fun e2 => ?_)
    · (repeat (first | (with_reducible first | apply gA | apply gB | apply gC | apply gD | apply gE | apply gF | apply gG | apply gH | apply gI | apply gJ | apply gK | apply gL | apply gM | apply gN | apply gO | apply gP | apply gQ | apply gR) | ((with_reducible first | apply gT | apply gS2); first | exact rfl | assumption | omega | exact ⟨⟩) | ((with_reducible first | apply gL0 | apply gL1 | apply gL2 | apply gL3 | apply gL4); assumption)))
      exact t_ret ⟨rfl, true, rfl, fun e => by cases e⟩
    refine t_if (fun e3 => ?_) (fun e3 => ?_)
    · (repeat (first | (with_reducible first | apply gA | apply gB | apply gC | apply gD | apply gE | apply gF | apply gG | apply gH | apply gI | apply gJ | apply gK | apply gL | apply gM | apply gN | apply gO | apply gP | apply gQ | apply gR) | ((with_reducible first | apply gT | apply gS2); first | exact rfl | assumption | omega | exact ⟨⟩) | ((with_reducible first | apply gL0 | apply gL1 | apply gL2 | apply gL3 | apply gL4); assumption)))
      exact t_ret ⟨rfl, true, rfl, fun e => by cases e⟩
    exact t_again ⟨rfl, rfl, by omega, by omega, by omega⟩
  rintro vs _ ⟨rfl, rfl, h1, h2, h3⟩
  (repeat (first | (with_reducible first | apply gA | apply gB | apply gC | apply gD | apply gE | apply gF | apply gG | apply gH | apply gI | apply gJ | apply gK | apply gL | apply gM | apply gN | apply gO | apply gP | apply gQ | apply gR) | ((with_reducible first | apply gT | apply gS2); first | exact rfl | assumption | omega | exact ⟨⟩) | ((with_reducible first | apply gL0 | apply gL1 | apply gL2 | apply gL3 | apply gL4); assumption)))
  refine t_loop (fun mm vs h' => h = h' ∧ ∃ i : Nat, vs = [.bool false, .int .i64 i] ∧ i ≤ f.n5 ∧ mm = f.n5 - i) ⟨rfl, 0, rfl, Nat.zero_le _, rfl⟩ ?_
  rintro Y mm vs _ hY ⟨rfl, i, rfl, hi, rfl⟩
  (repeat (first | (with_reducible first | apply gA | apply gB | apply gC | apply gD | apply gE | apply gF | apply gG | apply gH | apply gI | apply gJ | apply gK | apply gL | apply gM | apply gN | apply gO | apply gP | apply gQ | apply gR) | ((with_reducible first | apply gT | apply gS2); first | exact rfl | assumption | omega | exact ⟨⟩) | ((with_reducible first | apply gL0 | apply gL1 | apply gL2 | apply gL3 | apply gL4); assumption)))
  refine t_if (fun e => ?_) (fun e => ?_)
  · obtain ⟨x, a1, hx, ha1, e1, e2, e3, q, m, c, e4, e5⟩ := hu.papers.at (i := i) (by omega)
    (repeat (first | (with_reducible first | apply gA | apply gB | apply gC | apply gD | apply gE | apply gF | apply gG | apply gH | apply gI | apply gJ | apply gK | apply gL | apply gM | apply gN | apply gO | apply gP | apply gQ | apply gR) | ((with_reducible first | apply gT | apply gS2); first | exact rfl | assumption | omega | exact ⟨⟩) | ((with_reducible first | apply gL0 | apply gL1 | apply gL2 | apply gL3 | apply gL4); assumption)))
    refine t_if (fun e6 => ?_) (fun e6 => ?_)
    · (repeat (first | (with_reducible first | apply gA | apply gB | apply gC | apply gD | apply gE | apply gF | apply gG | apply gH | apply gI | apply gJ | apply gK | apply gL | apply gM | apply gN | apply gO | apply gP | apply gQ | apply gR) | ((with_reducible first | apply gT | apply gS2); first | exact rfl | assumption | omega | exact ⟨⟩) | ((with_reducible first | apply gL0 | apply gL1 | apply gL2 | apply gL3 | apply gL4); assumption)))
      exact t_ret ⟨rfl, true, rfl, fun e => by cases e⟩
    · refine t_again (hY (f.n5 - (i + 1)) _ _ (by omega) ⟨rfl, i + 1, ?_, by omega, rfl⟩)
      rw [wrap_id (by omega) (by omega)]; rfl
  · (repeat (first | (with_reducible first | apply gA | apply gB | apply gC | apply gD | apply gE | apply gF | apply gG | apply gH | apply gI | apply gJ | apply gK | apply gL | apply gM | apply gN | apply gO | apply gP | apply gQ | apply gR) | ((with_reducible first | apply gT | apply gS2); first | exact rfl | assumption | omega | exact ⟨⟩) | ((with_reducible first | apply gL0 | apply gL1 | apply gL2 | apply gL3 | apply gL4); assumption)))
    refine t_loop (fun mm vs h' => h = h' ∧ ∃ i : Nat, vs = [.bool false, .int .i64 i] ∧ i ≤ f.n6 ∧ mm = f.n6 - i) ⟨rfl, 0, rfl, Nat.zero_le _, rfl⟩ ?_
    rintro Y2 mm vs _ hY2 ⟨rfl, i, rfl, hi, rfl⟩
    (repeat (first | (with_reducible first | apply gA | apply gB | apply gC | apply gD | apply gE | apply gF | apply gG | apply gH | apply gI | apply gJ | apply gK | apply gL | apply gM | apply gN | apply gO | apply gP | apply gQ | apply gR) | ((with_reducible first | apply gT | apply gS2); first | exact rfl | assumption | omega | exact ⟨⟩) | ((with_reducible first | apply gL0 | apply gL1 | apply gL2 | apply gL3 | apply gL4); assumption)))
    refine t_if (fun e => ?_) (fun e => ?_)
    · obtain ⟨x, a1, hx, ha1, e1, e2, q, m, c, e4, e5⟩ := hu.requests.at (i := i) (by omega)
      (repeat (first | (with_reducible first | apply gA | apply gB | apply gC | apply gD | apply gE | apply gF | apply gG | apply gH | apply gI | apply gJ | apply gK | apply gL | apply gM | apply gN | apply gO | apply gP | apply gQ | apply gR) | ((with_reducible first | apply gT | apply gS2); first | exact rfl | assumption | omega | exact ⟨⟩) | ((with_reducible first | apply gL0 | apply gL1 | apply gL2 | apply gL3 | apply gL4); assumption)))
      refine t_if (fun e6 => ?_) (fun e6 => ?_)
      · (repeat (first | (with_reducible first | apply gA | apply gB | apply gC | apply gD | apply gE | apply gF | apply gG | apply gH | apply gI | apply gJ | apply gK | apply gL | apply gM | apply gN | apply gO | apply gP | apply gQ | apply gR) | ((with_reducible first | apply gT | apply gS2); first | exact rfl | assumption | omega | exact ⟨⟩) | ((with_reducible first | apply gL0 | apply gL1 | apply gL2 | apply gL3 | apply gL4); assumption)))
        exact t_ret ⟨rfl, true, rfl, fun e => by cases e⟩
      · refine t_again (hY2 (f.n6 - (i + 1)) _ _ (by omega) ⟨rfl, i + 1, ?_, by omega, rfl⟩)
        rw [wrap_id (by omega) (by omega)]; rfl
    · (repeat (first | (with_reducible first | apply gA | apply gB | apply gC | apply gD | apply gE | apply gF | apply gG | apply gH | apply gI | apply gJ | apply gK | apply gL | apply gM | apply gN | apply gO | apply gP | apply gQ | apply gR) | ((with_reducible first | apply gT | apply gS2); first | exact rfl | assumption | omega | exact ⟨⟩) | ((with_reducible first | apply gL0 | apply gL1 | apply gL2 | apply gL3 | apply gL4); assumption)))
      exact t_ret ⟨rfl, false, rfl, fun _ => ⟨h1, h2, h3⟩⟩
end Go.Proofs.YtopkdkedjkidhaaDoor
end
section
namespace Go.Proofs.YtopkdkedjkidhaaDoor
open Go Go.TM Go.Proofs
theorem lack_grow : Grow LackE := fun _ _ _ _ hl h => ⟨hl _ _ h.1, hl _ _ h.2.1, hl _ _ h.2.2.1, hl _ _ h.2.2.2⟩
theorem ev1 : window exU 20 = ⟨16, 20⟩ := by decide +kernel
theorem ev2 : window exU 25 = ⟨18, 25⟩ := by decide +kernel
theorem ev3 : safe exU 0 1 16 = 1 := by decide +kernel
theorem ev4 : safe exU 0 1 18 = 0 := by decide +kernel
theorem ev5 : safe exU 0 1 19 = 2 := by decide +kernel
theorem ev6 : weak exU 0 1 = 17 := by decide +kernel
theorem ev7 : weak exU 1 2 = 15 := by decide +kernel
theorem ev8 : leftAll exU 0 25 = [1, 2, 0] := by decide +kernel
theorem ev9 : lacks exU 0 20 = [⟨1, 0, ⟨16, 20⟩⟩, ⟨2, 0, ⟨16, 20⟩⟩] := by decide +kernel
theorem ev10 : enoughB exU 0 25 [0, 2] (leftAll exU 0 25) = false := by decide +kernel
theorem ev11 : ∀ i, i < 16 → okF exU 0 25 i = true → (∀ j, j < 16 → okF exU 0 25 j = true → fewerF (subsetL 4 i) (subsetL 4 j) ≤ 0) → subsetL 4 i = [1] := by decide +kernel
theorem ev12 : okF exU 0 25 2 = true := by decide +kernel
theorem exWindow20 : windowR exU 20 = .tuple #[.agg #[.int .i64 16, .int .i64 20], .int .i64 0] := by rw [windowR, if_neg (by decide +kernel), ev1]
theorem exWindow25 : windowR exU 25 = .tuple #[.agg #[.int .i64 18, .int .i64 25], .int .i64 0] := by rw [windowR, if_neg (by decide +kernel), ev2]
theorem exSafe16 : safeR exU 0 1 16 = .tuple #[.int .i64 1, .int .i64 0] := by rw [safeR, if_neg (by decide +kernel), ev3]
theorem exSafe18 : safeR exU 0 1 18 = .tuple #[.int .i64 0, .int .i64 0] := by rw [safeR, if_neg (by decide +kernel), ev4]
theorem exSafe19 : safeR exU 0 1 19 = .tuple #[.int .i64 2, .int .i64 0] := by rw [safeR, if_neg (by decide +kernel), ev5]
theorem exWeak1 : weakR exU 0 1 = .tuple #[.int .i64 17, .int .i64 0] := by rw [weakR, if_neg (by decide +kernel), ev6]
theorem exWeak2 : weakR exU 1 2 = .tuple #[.int .i64 15, .int .i64 0] := by rw [weakR, if_neg (by decide +kernel), ev7]
theorem exEnough : enoughR exU 0 25 [0, 2] = .tuple #[.bool false, .int .i64 0] := by rw [enoughR, if_neg (by decide +kernel), ev10]
theorem exOpen25 : openF exU [landQ exU 0, dayQ 25] = 0 := by decide +kernel
theorem exOpen20 : openF exU [landQ exU 0, dayQ 20] = 0 := by decide +kernel
attribute [local irreducible] T.wp CV FWK
set_option maxRecDepth 100000 in
theorem c16 {h : LH} (hch : h.chans = []) (hpe : h.pend = []) (hp : Parts h.get) : FW XT Tryd.prog 11 #[] h fun r h' => r = .bool true ∧ Rd h.get h'.get ∧ h'.chans = [] ∧ h'.pend = [] ∧ h'.todo = h.todo := by
  refine w16 XT_ok ?_
  unfold n16
  refine t_gr c52 ?_
  rintro _ h1 le1 ⟨f, rfl, hu⟩
  have hp := hp.le le1.1
  (repeat (first | (with_reducible first | apply gA | apply gB | apply gC | apply gD | apply gE | apply gF | apply gG | apply gH | apply gI | apply gJ | apply gK | apply gL | apply gM | apply gN | apply gO | apply gP | apply gQ | apply gR) | ((with_reducible first | apply gT | apply gS2); first | exact rfl | assumption | omega | exact ⟨⟩) | ((with_reducible first | apply gL0 | apply gL1 | apply gL2 | apply gL3 | apply gL4); assumption)))
  refine t_gr (c17 hp hu 20) ?_
  rintro _ h2 le2 rfl
  rw [exWindow20]
  (repeat (first | (with_reducible first | apply gA | apply gB | apply gC | apply gD | apply gE | apply gF | apply gG | apply gH | apply gI | apply gJ | apply gK | apply gL | apply gM | apply gN | apply gO | apply gP | apply gQ | apply gR) | ((with_reducible first | apply gT | apply gS2); first | exact rfl | assumption | omega | exact ⟨⟩) | ((with_reducible first | apply gL0 | apply gL1 | apply gL2 | apply gL3 | apply gL4); assumption)))
  have hp := hp.le le2.1
  have hu := hu.le le2.1
  refine t_gr (c17 hp hu 25) ?_
  rintro _ h3 le3 rfl
  rw [exWindow25]
  (repeat (first | (with_reducible first | apply gA | apply gB | apply gC | apply gD | apply gE | apply gF | apply gG | apply gH | apply gI | apply gJ | apply gK | apply gL | apply gM | apply gN | apply gO | apply gP | apply gQ | apply gR) | ((with_reducible first | apply gT | apply gS2); first | exact rfl | assumption | omega | exact ⟨⟩) | ((with_reducible first | apply gL0 | apply gL1 | apply gL2 | apply gL3 | apply gL4); assumption)))
  have hp := hp.le le3.1
  have hu := hu.le le3.1
  refine t_gr (c19 hp hu 0 1 16) ?_
  rintro _ h4 le4 rfl
  rw [exSafe16]
  (repeat (first | (with_reducible first | apply gA | apply gB | apply gC | apply gD | apply gE | apply gF | apply gG | apply gH | apply gI | apply gJ | apply gK | apply gL | apply gM | apply gN | apply gO | apply gP | apply gQ | apply gR) | ((with_reducible first | apply gT | apply gS2); first | exact rfl | assumption | omega | exact ⟨⟩) | ((with_reducible first | apply gL0 | apply gL1 | apply gL2 | apply gL3 | apply gL4); assumption)))
  have hp := hp.le le4.1
  have hu := hu.le le4.1
  refine t_gr (c19 hp hu 0 1 18) ?_
  rintro _ h5 le5 rfl
  rw [exSafe18]
  (repeat (first | (with_reducible first | apply gA | apply gB | apply gC | apply gD | apply gE | apply gF | apply gG | apply gH | apply gI | apply gJ | apply gK | apply gL | apply gM | apply gN | apply gO | apply gP | apply gQ | apply gR) | ((with_reducible first | apply gT | apply gS2); first | exact rfl | assumption | omega | exact ⟨⟩) | ((with_reducible first | apply gL0 | apply gL1 | apply gL2 | apply gL3 | apply gL4); assumption)))
  have hp := hp.le le5.1
  have hu := hu.le le5.1
  refine t_gr (c19 hp hu 0 1 19) ?_
  rintro _ h6 le6 rfl
  rw [exSafe19]
  (repeat (first | (with_reducible first | apply gA | apply gB | apply gC | apply gD | apply gE | apply gF | apply gG | apply gH | apply gI | apply gJ | apply gK | apply gL | apply gM | apply gN | apply gO | apply gP | apply gQ | apply gR) | ((with_reducible first | apply gT | apply gS2); first | exact rfl | assumption | omega | exact ⟨⟩) | ((with_reducible first | apply gL0 | apply gL1 | apply gL2 | apply gL3 | apply gL4); assumption)))
  have hp := hp.le le6.1
  have hu := hu.le le6.1
  refine t_gr (c21 hp hu 0 1) ?_
  rintro _ h7 le7 rfl
  rw [exWeak1]
  (repeat (first | (with_reducible first | apply gA | apply gB | apply gC | apply gD | apply gE | apply gF | apply gG | apply gH | apply gI | apply gJ | apply gK | apply gL | apply gM | apply gN | apply gO | apply gP | apply gQ | apply gR) | ((with_reducible first | apply gT | apply gS2); first | exact rfl | assumption | omega | exact ⟨⟩) | ((with_reducible first | apply gL0 | apply gL1 | apply gL2 | apply gL3 | apply gL4); assumption)))
  have hp := hp.le le7.1
  have hu := hu.le le7.1
  refine t_gr (c21 hp hu 1 2) ?_
  rintro _ h8 le8 rfl
  rw [exWeak2]
  (repeat (first | (with_reducible first | apply gA | apply gB | apply gC | apply gD | apply gE | apply gF | apply gG | apply gH | apply gI | apply gJ | apply gK | apply gL | apply gM | apply gN | apply gO | apply gP | apply gQ | apply gR) | ((with_reducible first | apply gT | apply gS2); first | exact rfl | assumption | omega | exact ⟨⟩) | ((with_reducible first | apply gL0 | apply gL1 | apply gL2 | apply gL3 | apply gL4); assumption)))
  have hp := hp.le le8.1
  have hu := hu.le le8.1
  refine t_gr (c23 hp hu 0 25) ?_
  rintro _ h9 le9 (⟨hne, _⟩ | ⟨_, lp, ln, lc, rfl, hl⟩)
  · exact absurd exOpen25 hne
  rw [ev8] at hl
  (repeat (first | (with_reducible first | apply gA | apply gB | apply gC | apply gD | apply gE | apply gF | apply gG | apply gH | apply gI | apply gJ | apply gK | apply gL | apply gM | apply gN | apply gO | apply gP | apply gQ | apply gR) | ((with_reducible first | apply gT | apply gS2); first | exact rfl | assumption | omega | exact ⟨⟩) | ((with_reducible first | apply gL0 | apply gL1 | apply gL2 | apply gL3 | apply gL4); assumption)))
  have hp := hp.le le9.1
  have hu := hu.le le9.1
  refine t_gr (c28 hp hu 0 20) ?_
  rintro _ h10 le10 (⟨hne, _⟩ | ⟨_, kp, kn, kc, rfl, hk⟩)
  · exact absurd exOpen20 hne
  rw [ev9] at hk
  (repeat (first | (with_reducible first | apply gA | apply gB | apply gC | apply gD | apply gE | apply gF | apply gG | apply gH | apply gI | apply gJ | apply gK | apply gL | apply gM | apply gN | apply gO | apply gP | apply gQ | apply gR) | ((with_reducible first | apply gT | apply gS2); first | exact rfl | assumption | omega | exact ⟨⟩) | ((with_reducible first | apply gL0 | apply gL1 | apply gL2 | apply gL3 | apply gL4); assumption)))
  have hp := hp.le le10.1
  have hu := hu.le le10.1
  have hl := hl.le IntE.grow le10.1
  have le := LH.le_trans (LH.le_trans (LH.le_trans (LH.le_trans (LH.le_trans (LH.le_trans (LH.le_trans (LH.le_trans (LH.le_trans le1 le2) le3) le4) le5) le6) le7) le8) le9) le10
  refine t_call (c33 (by rw [le.2.1, hch]) (by rw [le.2.2.1, hpe]) hp hu 0 25) ?_
  rintro _ h11 ⟨rd11, ch11, pe11, td11, ⟨hne, _⟩ | ⟨_, pp, pn, pc, rfl, hb, _⟩⟩
  · exact absurd exOpen25 hne
  have hpk : Sl IntE 1 h11.get pp pn [1] := by
    rcases hb with ⟨_, _, hno⟩ | ⟨i, a, rfl, hi, hok, hs, hmin⟩
    · have := hno 2 (by decide) (by simp)
      rw [ev12] at this; cases this
    · have e := ev11 i hi hok fun j hj hj2 => hmin j hj (by simp) hj2
      rw [← e]; exact hs
  (repeat (first | (with_reducible first | apply gA | apply gB | apply gC | apply gD | apply gE | apply gF | apply gG | apply gH | apply gI | apply gJ | apply gK | apply gL | apply gM | apply gN | apply gO | apply gP | apply gQ | apply gR) | ((with_reducible first | apply gT | apply gS2); first | exact rfl | assumption | omega | exact ⟨⟩) | ((with_reducible first | apply gL0 | apply gL1 | apply gL2 | apply gL3 | apply gL4); assumption)))
  have hp := hp.rd rd11
  have hu := hu.rd rd11
  have hl := hl.rd IntE.grow rd11
  have hk := hk.rd lack_grow rd11
  refine t_buildG und50 inf3 (by decide) (by decide) (cells := #[.int .i64 0, .int .i64 2]) (by kernel_rfl) fun r12 h12 le12 _ e12 => ?_
  (repeat (first | (with_reducible first | apply gA | apply gB | apply gC | apply gD | apply gE | apply gF | apply gG | apply gH | apply gI | apply gJ | apply gK | apply gL | apply gM | apply gN | apply gO | apply gP | apply gQ | apply gR) | ((with_reducible first | apply gT | apply gS2); first | exact rfl | assumption | omega | exact ⟨⟩) | ((with_reducible first | apply gL0 | apply gL1 | apply gL2 | apply gL3 | apply gL4); assumption)))
  have hp := hp.le le12.1
  have hu := hu.le le12.1
  refine t_gr (c31 hp hu 0 25 (pl := [0, 2]) (sl_ints (l := [0, 2]) rfl e12 (by show (2 : Nat) < _; omega))) ?_
  rintro _ h13 le13 rfl
  rw [exEnough]
  (repeat (first | (with_reducible first | apply gA | apply gB | apply gC | apply gD | apply gE | apply gF | apply gG | apply gH | apply gI | apply gJ | apply gK | apply gL | apply gM | apply gN | apply gO | apply gP | apply gQ | apply gR) | ((with_reducible first | apply gT | apply gS2); first | exact rfl | assumption | omega | exact ⟨⟩) | ((with_reducible first | apply gL0 | apply gL1 | apply gL2 | apply gL3 | apply gL4); assumption)))
  have le1113 := LH.le_trans le12 le13
  have hl := hl.le IntE.grow le1113.1
  have hk := hk.le lack_grow le1113.1
  have hpk := hpk.le IntE.grow le1113.1
  refine t_blk (fun vs h' => vs = [.bool false] ∧ h13 = h') ?_ ?_
  · iterate 11 refine t_cond (fun e => absurd e (by decide)) (fun _ => ?_)
    exact t_again ⟨rfl, rfl⟩
  rintro vs _ ⟨rfl, rfl⟩
  (repeat (first | (with_reducible first | apply gA | apply gB | apply gC | apply gD | apply gE | apply gF | apply gG | apply gH | apply gI | apply gJ | apply gK | apply gL | apply gM | apply gN | apply gO | apply gP | apply gQ | apply gR) | ((with_reducible first | apply gT | apply gS2); first | exact rfl | assumption | omega | exact ⟨⟩) | ((with_reducible first | apply gL0 | apply gL1 | apply gL2 | apply gL3 | apply gL4); assumption)))
  refine t_blk (fun vs h' => vs = [.bool false] ∧ h13.le h') ?_ ?_
  · refine t_pu (c42 _ _) ?_
    (repeat (first | (with_reducible first | apply gA | apply gB | apply gC | apply gD | apply gE | apply gF | apply gG | apply gH | apply gI | apply gJ | apply gK | apply gL | apply gM | apply gN | apply gO | apply gP | apply gQ | apply gR) | ((with_reducible first | apply gT | apply gS2); first | exact rfl | assumption | omega | exact ⟨⟩) | ((with_reducible first | apply gL0 | apply gL1 | apply gL2 | apply gL3 | apply gL4); assumption)))
    refine t_ne2 two30 g30 ?_
    (repeat (first | (with_reducible first | apply gA | apply gB | apply gC | apply gD | apply gE | apply gF | apply gG | apply gH | apply gI | apply gJ | apply gK | apply gL | apply gM | apply gN | apply gO | apply gP | apply gQ | apply gR) | ((with_reducible first | apply gT | apply gS2); first | exact rfl | assumption | omega | exact ⟨⟩) | ((with_reducible first | apply gL0 | apply gL1 | apply gL2 | apply gL3 | apply gL4); assumption)))
    refine t_cond (fun e => absurd e (by decide)) (fun _ => ?_)
    refine t_pu (c42 _ _) ?_
    (repeat (first | (with_reducible first | apply gA | apply gB | apply gC | apply gD | apply gE | apply gF | apply gG | apply gH | apply gI | apply gJ | apply gK | apply gL | apply gM | apply gN | apply gO | apply gP | apply gQ | apply gR) | ((with_reducible first | apply gT | apply gS2); first | exact rfl | assumption | omega | exact ⟨⟩) | ((with_reducible first | apply gL0 | apply gL1 | apply gL2 | apply gL3 | apply gL4); assumption)))
    refine t_ne2 two30 g30 ?_
    (repeat (first | (with_reducible first | apply gA | apply gB | apply gC | apply gD | apply gE | apply gF | apply gG | apply gH | apply gI | apply gJ | apply gK | apply gL | apply gM | apply gN | apply gO | apply gP | apply gQ | apply gR) | ((with_reducible first | apply gT | apply gS2); first | exact rfl | assumption | omega | exact ⟨⟩) | ((with_reducible first | apply gL0 | apply gL1 | apply gL2 | apply gL3 | apply gL4); assumption)))
    refine t_cond (fun e => absurd e (by decide)) (fun _ => ?_)
    (repeat (first | (with_reducible first | apply gA | apply gB | apply gC | apply gD | apply gE | apply gF | apply gG | apply gH | apply gI | apply gJ | apply gK | apply gL | apply gM | apply gN | apply gO | apply gP | apply gQ | apply gR) | ((with_reducible first | apply gT | apply gS2); first | exact rfl | assumption | omega | exact ⟨⟩) | ((with_reducible first | apply gL0 | apply gL1 | apply gL2 | apply gL3 | apply gL4); assumption)))
    refine t_cond (fun e => absurd e (by decide)) (fun _ => ?_)
    (repeat (first | (with_reducible first | apply gA | apply gB | apply gC | apply gD | apply gE | apply gF | apply gG | apply gH | apply gI | apply gJ | apply gK | apply gL | apply gM | apply gN | apply gO | apply gP | apply gQ | apply gR) | ((with_reducible first | apply gT | apply gS2); first | exact rfl | assumption | omega | exact ⟨⟩) | ((with_reducible first | apply gL0 | apply gL1 | apply gL2 | apply gL3 | apply gL4); assumption)))
    refine t_cond (fun e => absurd e (by decide)) (fun _ => ?_)
    (repeat (first | (with_reducible first | apply gA | apply gB | apply gC | apply gD | apply gE | apply gF | apply gG | apply gH | apply gI | apply gJ | apply gK | apply gL | apply gM | apply gN | apply gO | apply gP | apply gQ | apply gR) | ((with_reducible first | apply gT | apply gS2); first | exact rfl | assumption | omega | exact ⟨⟩) | ((with_reducible first | apply gL0 | apply gL1 | apply gL2 | apply gL3 | apply gL4); assumption)))
    refine t_cond (fun e => absurd e (by decide)) (fun _ => ?_)
    (repeat (first | (with_reducible first | apply gA | apply gB | apply gC | apply gD | apply gE | apply gF | apply gG | apply gH | apply gI | apply gJ | apply gK | apply gL | apply gM | apply gN | apply gO | apply gP | apply gQ | apply gR) | ((with_reducible first | apply gT | apply gS2); first | exact rfl | assumption | omega | exact ⟨⟩) | ((with_reducible first | apply gL0 | apply gL1 | apply gL2 | apply gL3 | apply gL4); assumption)))
    refine t_cond (fun e => absurd e (by decide)) (fun _ => ?_)
    (repeat (first | (with_reducible first | apply gA | apply gB | apply gC | apply gD | apply gE | apply gF | apply gG | apply gH | apply gI | apply gJ | apply gK | apply gL | apply gM | apply gN | apply gO | apply gP | apply gQ | apply gR) | ((with_reducible first | apply gT | apply gS2); first | exact rfl | assumption | omega | exact ⟨⟩) | ((with_reducible first | apply gL0 | apply gL1 | apply gL2 | apply gL3 | apply gL4); assumption)))
    refine t_cond (fun e => absurd e (by decide)) (fun _ => ?_)
    (repeat (first | (with_reducible first | apply gA | apply gB | apply gC | apply gD | apply gE | apply gF | apply gG | apply gH | apply gI | apply gJ | apply gK | apply gL | apply gM | apply gN | apply gO | apply gP | apply gQ | apply gR) | ((with_reducible first | apply gT | apply gS2); first | exact rfl | assumption | omega | exact ⟨⟩) | ((with_reducible first | apply gL0 | apply gL1 | apply gL2 | apply gL3 | apply gL4); assumption)))
    refine t_cond (fun e => absurd e (by decide)) (fun _ => ?_)
    (repeat (first | (with_reducible first | apply gA | apply gB | apply gC | apply gD | apply gE | apply gF | apply gG | apply gH | apply gI | apply gJ | apply gK | apply gL | apply gM | apply gN | apply gO | apply gP | apply gQ | apply gR) | ((with_reducible first | apply gT | apply gS2); first | exact rfl | assumption | omega | exact ⟨⟩) | ((with_reducible first | apply gL0 | apply gL1 | apply gL2 | apply gL3 | apply gL4); assumption)))
    refine t_buildG und50 inf3 (by decide) (by decide) (cells := #[.int .i64 1]) (by kernel_rfl) fun r14 h14 le14 _ e14 => ?_
    (repeat (first | (with_reducible first | apply gA | apply gB | apply gC | apply gD | apply gE | apply gF | apply gG | apply gH | apply gI | apply gJ | apply gK | apply gL | apply gM | apply gN | apply gO | apply gP | apply gQ | apply gR) | ((with_reducible first | apply gT | apply gS2); first | exact rfl | assumption | omega | exact ⟨⟩) | ((with_reducible first | apply gL0 | apply gL1 | apply gL2 | apply gL3 | apply gL4); assumption)))
    refine t_pu (c35 (hpk.le IntE.grow le14.1) (sl_ints (l := [1]) rfl e14 (by show (1 : Nat) < _; omega))) ?_
    (repeat (first | (with_reducible first | apply gA | apply gB | apply gC | apply gD | apply gE | apply gF | apply gG | apply gH | apply gI | apply gJ | apply gK | apply gL | apply gM | apply gN | apply gO | apply gP | apply gQ | apply gR) | ((with_reducible first | apply gT | apply gS2); first | exact rfl | assumption | omega | exact ⟨⟩) | ((with_reducible first | apply gL0 | apply gL1 | apply gL2 | apply gL3 | apply gL4); assumption)))
    refine t_cond (fun e => absurd e (by decide)) (fun _ => ?_)
    exact t_again ⟨rfl, le14⟩
  rintro vs h15 ⟨rfl, le15⟩
  have hl := hl.le IntE.grow le15.1
  have hk := hk.le lack_grow le15.1
  (repeat (first | (with_reducible first | apply gA | apply gB | apply gC | apply gD | apply gE | apply gF | apply gG | apply gH | apply gI | apply gJ | apply gK | apply gL | apply gM | apply gN | apply gO | apply gP | apply gQ | apply gR) | ((with_reducible first | apply gT | apply gS2); first | exact rfl | assumption | omega | exact ⟨⟩) | ((with_reducible first | apply gL0 | apply gL1 | apply gL2 | apply gL3 | apply gL4); assumption)))
  refine t_buildG und40 inf34 (by decide) (by decide) (cells := #[.int .i64 1, .int .i64 2, .int .i64 0]) (by kernel_rfl) fun r16 h16 le16 _ e16 => ?_
  (repeat (first | (with_reducible first | apply gA | apply gB | apply gC | apply gD | apply gE | apply gF | apply gG | apply gH | apply gI | apply gJ | apply gK | apply gL | apply gM | apply gN | apply gO | apply gP | apply gQ | apply gR) | ((with_reducible first | apply gT | apply gS2); first | exact rfl | assumption | omega | exact ⟨⟩) | ((with_reducible first | apply gL0 | apply gL1 | apply gL2 | apply gL3 | apply gL4); assumption)))
  refine t_pu (c25 (hl.le IntE.grow le16.1) (sl_ints (l := [1, 2, 0]) rfl e16 (by show (3 : Nat) < _; omega))) ?_
  (repeat (first | (with_reducible first | apply gA | apply gB | apply gC | apply gD | apply gE | apply gF | apply gG | apply gH | apply gI | apply gJ | apply gK | apply gL | apply gM | apply gN | apply gO | apply gP | apply gQ | apply gR) | ((with_reducible first | apply gT | apply gS2); first | exact rfl | assumption | omega | exact ⟨⟩) | ((with_reducible first | apply gL0 | apply gL1 | apply gL2 | apply gL3 | apply gL4); assumption)))
  refine t_cond (fun _ => ?_) (fun e => absurd e (by decide))
  (repeat (first | (with_reducible first | apply gA | apply gB | apply gC | apply gD | apply gE | apply gF | apply gG | apply gH | apply gI | apply gJ | apply gK | apply gL | apply gM | apply gN | apply gO | apply gP | apply gQ | apply gR) | ((with_reducible first | apply gT | apply gS2); first | exact rfl | assumption | omega | exact ⟨⟩) | ((with_reducible first | apply gL0 | apply gL1 | apply gL2 | apply gL3 | apply gL4); assumption)))
  refine t_pu (c42 _ _) ?_
  (repeat (first | (with_reducible first | apply gA | apply gB | apply gC | apply gD | apply gE | apply gF | apply gG | apply gH | apply gI | apply gJ | apply gK | apply gL | apply gM | apply gN | apply gO | apply gP | apply gQ | apply gR) | ((with_reducible first | apply gT | apply gS2); first | exact rfl | assumption | omega | exact ⟨⟩) | ((with_reducible first | apply gL0 | apply gL1 | apply gL2 | apply gL3 | apply gL4); assumption)))
  refine t_pu (c42 _ _) ?_
  (repeat (first | (with_reducible first | apply gA | apply gB | apply gC | apply gD | apply gE | apply gF | apply gG | apply gH | apply gI | apply gJ | apply gK | apply gL | apply gM | apply gN | apply gO | apply gP | apply gQ | apply gR) | ((with_reducible first | apply gT | apply gS2); first | exact rfl | assumption | omega | exact ⟨⟩) | ((with_reducible first | apply gL0 | apply gL1 | apply gL2 | apply gL3 | apply gL4); assumption)))
  refine t_buildG und45 inf79 (by decide) (by decide) (cells := #[.int .i64 1, .int .i64 0, .int .i64 16, .int .i64 20, .int .i64 2, .int .i64 0, .int .i64 16, .int .i64 20]) (by kernel_rfl) fun r17 h17 le17 _ e17 => ?_
  (repeat (first | (with_reducible first | apply gA | apply gB | apply gC | apply gD | apply gE | apply gF | apply gG | apply gH | apply gI | apply gJ | apply gK | apply gL | apply gM | apply gN | apply gO | apply gP | apply gQ | apply gR) | ((with_reducible first | apply gT | apply gS2); first | exact rfl | assumption | omega | exact ⟨⟩) | ((with_reducible first | apply gL0 | apply gL1 | apply gL2 | apply gL3 | apply gL4); assumption)))
  have le1617 := LH.le_trans le16 le17
  refine t_pu (c30 (hk.le lack_grow le1617.1) (b := [⟨1, 0, ⟨16, 20⟩⟩, ⟨2, 0, ⟨16, 20⟩⟩]) ?_) ?_
  · refine ⟨rfl, by show (2 : Nat) < _; omega, ?_⟩
    have cr : ∀ {i j : Nat} {v : Value}, (#[.int .i64 1, .int .i64 0, .int .i64 16, .int .i64 20, .int .i64 2, .int .i64 0, .int .i64 16, .int .i64 20] : Array Value)[i + j]? = some v → h17.get.cell? (Addr.add (Addr.add ⟨r17, 0, none⟩ i) j) = some v := by
      intro i j v hv
      rw [add_plain, add_plain, Nat.zero_add]; exact cell_row e17 hv
    intro i x hx
    match i, hx with
    | 0, hx => cases hx; exact ⟨_, rfl, cr rfl, cr rfl, cr rfl, cr rfl⟩
    | 1, hx => cases hx; exact ⟨_, rfl, cr rfl, cr rfl, cr rfl, cr rfl⟩
    | i + 2, hx => simp at hx
  (repeat (first | (with_reducible first | apply gA | apply gB | apply gC | apply gD | apply gE | apply gF | apply gG | apply gH | apply gI | apply gJ | apply gK | apply gL | apply gM | apply gN | apply gO | apply gP | apply gQ | apply gR) | ((with_reducible first | apply gT | apply gS2); first | exact rfl | assumption | omega | exact ⟨⟩) | ((with_reducible first | apply gL0 | apply gL1 | apply gL2 | apply gL3 | apply gL4); assumption)))
  have leZ := LH.le_trans (LH.le_trans le1113 le15) le1617
  refine t_ret ⟨by simp, (Rd.of_le le.1).trans (rd11.trans (Rd.of_le leZ.1)), by rw [leZ.2.1, ch11], by rw [leZ.2.2.1, pe11], by rw [leZ.2.2.2, td11, le.2.2.2]⟩
end Go.Proofs.YtopkdkedjkidhaaDoor
end
section
namespace Go.Proofs.YtopkdkedjkidhaaDoor
open Go Go.TM Go.Proofs
attribute [local irreducible] T.wp CV FWK
theorem LeftR.form {h' : Cells} {u : UseFile} {land day : Int} {r : Value} (hr : LeftR h' u land day r) : ∃ p n c, r = .tuple #[.slice p n c, .int .i64 (openF u [landQ u land, dayQ day])] ∧ Sl IntE 1 h' p n (if openF u [landQ u land, dayQ day] = 0 then leftAll u land day else []) := by
  rcases hr with ⟨h1, rfl⟩ | ⟨h1, p, n, c, rfl, s⟩
  · exact ⟨none, 0, 0, rfl, by rw [if_neg h1]; exact Sl.nil⟩
  · exact ⟨p, n, c, by rw [h1], by rw [if_pos h1]; exact s⟩
def Fin (h : LH) : Value → LH → Prop := fun r h' => r = .bool true ∧ h'.chans = [] ∧ h'.pend = [] ∧ h'.todo = h.todo
theorem fin_shown {h h' : LH} (hch : h.chans = []) (hpe : h.pend = []) (hp : Parts h.get) (hle : h.le h') : FW XT Tryd.prog 11 #[] h' (Fin h) := by
  refine FW.mono (c16 (by rw [hle.2.1, hch]) (by rw [hle.2.2.1, hpe]) (hp.le hle.1)) ?_
  rintro v h'' ⟨h1, _, h2, h3, h4⟩
  exact ⟨h1, h2, h3, by rw [h4, hle.2.2.2]⟩
theorem t_shown {h h' : LH} {k : Bool → T} {Q : Leaf → LH → Prop} (hch : h.chans = []) (hpe : h.pend = []) (hp : Parts h.get) (hle : h.le h') (hk : ∀ h'', h''.chans = [] ∧ h''.pend = [] ∧ h''.todo = h.todo → (k true).wp XT Tryd.prog Q h'') :
    (T.call false 11 #[] fun v => T.unB v k).wp XT Tryd.prog Q h' := by
  refine t_call (fin_shown hch hpe hp hle) ?_
  rintro _ h'' ⟨rfl, h2⟩
  exact gC (hk h'' h2)
end Go.Proofs.YtopkdkedjkidhaaDoor
end
section
namespace Go.TM
open Go
def cum (c : Int → Bool) : Nat → Int
  | 0 => 0
  | n + 1 => cum c n + (if c ((n + 1 : Nat) : Int) then 1 else 0)
theorem firstDay_spec (c : Int → Bool) (idle : Int) : ∀ (d : Nat) (n : Int), n < idle → ∃ w : Nat, firstDay c idle d n = w ∧ w ≤ d ∧ n + cum c d - cum c w < idle ∧ (1 ≤ w → n + cum c d - cum c (w - 1) ≥ idle) := by
  intro d
  induction d with
  | zero => intro n hn; exact ⟨0, rfl, Nat.le_refl _, by omega, fun h => by omega⟩
  | succ d ih =>
    intro n hn
    have hc : (if c ((d + 1 : Nat) : Int) then n + 1 else n) + cum c d = n + cum c (d + 1) := by
      rw [cum]; split <;> omega
    rw [firstDay]
    by_cases e : (if c ((d + 1 : Nat) : Int) then n + 1 else n) ≥ idle
    · rw [if_pos e]
      refine ⟨d + 1, rfl, Nat.le_refl _, by omega, fun _ => ?_⟩
      rw [Nat.add_sub_cancel]; omega
    · rw [if_neg e]
      obtain ⟨w, h1, h2, h3, h4⟩ := ih _ (by omega : (if c ((d + 1 : Nat) : Int) then n + 1 else n) < idle)
      exact ⟨w, h1, by omega, by omega, fun h => by have := h4 h; omega⟩
def cnt (u : UseFile) (a d : Int) : Int := cum (counts u) d.toNat - cum (counts u) a.toNat
theorem window_bound {u : UseFile} (hi : 1 ≤ u.idle) {day : Int} (hd : 0 ≤ day) : 0 ≤ (window u day).first ∧ (window u day).first ≤ day ∧ (window u day).last = day ∧ cnt u (window u day).first day < u.idle ∧ (1 ≤ (window u day).first → cnt u ((window u day).first - 1) day ≥ u.idle) := by
  obtain ⟨w, h1, h2, h3, h4⟩ := firstDay_spec (counts u) u.idle day.toNat 0 (by omega)
  unfold window cnt
  simp only [h1]
  refine ⟨by omega, by omega, trivial, ?_, fun h => ?_⟩
  · rw [show ((w : Nat) : Int).toNat = w by omega]; omega
  · have := h4 (by omega)
    rw [show (((w : Nat) : Int) - 1).toNat = w - 1 by omega]; omega
end Go.TM
end
section
namespace Go.Proofs.YtopkdkedjkidhaaDoor
open Go Go.TM Go.Proofs
attribute [local irreducible] T.wp CV FWK
theorem c36 {h : LH} {f : FileC} {u : UseFile} (hu : FileR h.get f u) : FW X0 Tryd.prog 31 #[fileV f u] h fun r h' => h = h' ∧ ∃ b : Bool, r = .bool b ∧ (b = true → checkF u = 0) := by
  refine w36 _ _ _ _ _ _ _ _ _ _ _ _ _ X0_ok ?_
  unfold n36
  refine t_call (c15 hu) ?_
  rintro _ _ ⟨rfl, b, rfl, hb⟩
  (repeat (first | (with_reducible first | apply gA | apply gB | apply gC | apply gD | apply gE | apply gF | apply gG | apply gH | apply gI | apply gJ | apply gK | apply gL | apply gM | apply gN | apply gO | apply gP | apply gQ | apply gR) | ((with_reducible first | apply gT | apply gS2); first | exact rfl | assumption | omega | exact ⟨⟩) | ((with_reducible first | apply gL0 | apply gL1 | apply gL2 | apply gL3 | apply gL4); assumption)))
  refine t_cond (fun _ => ?_) (fun _ => ?_)
  · refine t_pu (c27 hu) ?_
    (repeat (first | (with_reducible first | apply gA | apply gB | apply gC | apply gD | apply gE | apply gF | apply gG | apply gH | apply gI | apply gJ | apply gK | apply gL | apply gM | apply gN | apply gO | apply gP | apply gQ | apply gR) | ((with_reducible first | apply gT | apply gS2); first | exact rfl | assumption | omega | exact ⟨⟩) | ((with_reducible first | apply gL0 | apply gL1 | apply gL2 | apply gL3 | apply gL4); assumption)))
    exact t_ret ⟨rfl, _, rfl, fun e => by simpa using e⟩
  · exact t_ret ⟨rfl, _, rfl, fun e => by cases e⟩
theorem wrap_u16 {n : Int} (h : 0 ≤ n ∧ n ≤ 65535) : IntKind.i64.wrap n = n := wrap_id (by omega) (by omega)
theorem wrap_u8 {n : Int} (h : 0 ≤ n ∧ n ≤ 255) : IntKind.i64.wrap n = n := wrap_id (by omega) (by omega)
theorem tmod_nn {a b : Int} (ha : 0 ≤ a) : Int.tmod a b = a % b := by rw [Int.tmod_eq_emod_of_nonneg ha]
theorem mod_day {n : Int} : 0 ≤ n % 2001 ∧ n % 2001 ≤ 2000 := by omega
theorem c37 {h : LH} {n : Int} (hn : 0 ≤ n ∧ n ≤ 65535) : Pu Tryd.prog 32 #[.int .u16 n] h (.int .i64 (n % 2001)) := by
  refine w37 _ X0_ok ?_
  unfold n37
  refine gT (by omega) ?_
  rw [wrap_u16 hn, tmod_nn hn.1]
  exact t_ret ⟨rfl, rfl⟩
end Go.Proofs.YtopkdkedjkidhaaDoor
end
section
namespace Go.Proofs.YtopkdkedjkidhaaDoor
open Go Go.TM Go.Proofs
attribute [local irreducible] T.wp CV FWK
theorem openF_all {u : UseFile} (hck : checkF u = 0) : ∀ {l : List Int}, (∀ x ∈ l, x = 0) → openF u l = 0 := by
  intro l hl
  rw [openF, if_neg (by simp [hck])]
  have key : ∀ (l : List Int) (i : Nat), (∀ x ∈ l, x = 0) → firstF (fun _ x => x) i l = 0 := by
    intro l
    induction l with
    | nil => intro i _; rfl
    | cons y l ih =>
      intro i h
      rw [firstF, if_neg (by simp [h y (by simp)])]
      exact ih _ fun x hx => h x (by simp [hx])
  exact key l 0 hl
theorem landQ_ok {u : UseFile} {k : Int} (h : 0 ≤ k ∧ k < u.lands) : landQ u k = 0 := by
  unfold landQ isIn
  rw [if_pos]; simp; omega
theorem itemQ_ok {u : UseFile} {k : Int} (h : 0 ≤ k ∧ k < u.items) : itemQ u k = 0 := by
  unfold itemQ isIn
  rw [if_pos]; simp; omega
theorem dayQ_ok {d : Int} (h : 0 ≤ d ∧ d ≤ 2000) : dayQ d = 0 := by
  unfold dayQ isDay isIn
  rw [if_pos]; simp; omega
theorem safeR_ok {u : UseFile} (hck : checkF u = 0) {k i d : Int} (hk : 0 ≤ k ∧ k < u.lands) (hi : 0 ≤ i ∧ i < u.items) (hd : 0 ≤ d ∧ d ≤ 2000) : safeR u k i d = .tuple #[.int .i64 (safe u k i d), .int .i64 0] := by
  rw [safeR, if_neg]
  rw [openF_all hck (by intro x hx; simp at hx; rcases hx with rfl | rfl | rfl; exact landQ_ok hk; exact itemQ_ok hi; exact dayQ_ok hd)]; simp
theorem weakR_ok {u : UseFile} (hck : checkF u = 0) {k i : Int} (hk : 0 ≤ k ∧ k < u.lands) (hi : 0 ≤ i ∧ i < u.items) : weakR u k i = .tuple #[.int .i64 (weak u k i), .int .i64 0] := by
  rw [weakR, if_neg]
  rw [openF_all hck (by intro x hx; simp at hx; rcases hx with rfl | rfl; exact landQ_ok hk; exact itemQ_ok hi)]; simp
theorem leftQ_ok {u : UseFile} (hck : checkF u = 0) {k d : Int} (hk : 0 ≤ k ∧ k < u.lands) (hd : 0 ≤ d ∧ d ≤ 2000) : openF u [landQ u k, dayQ d] = 0 :=
  openF_all hck (by intro x hx; simp at hx; rcases hx with rfl | rfl; exact landQ_ok hk; exact dayQ_ok hd)
theorem weakGo_spec (f : Int → Bool) : ∀ (n : Nat) (d : Int), 0 ≤ d → (weakGo f n d = -1 ∧ ∀ x, d ≤ x → x < d + n → f x = false) ∨ (d ≤ weakGo f n d ∧ weakGo f n d < d + n ∧ f (weakGo f n d) = true ∧ ∀ x, d ≤ x → x < weakGo f n d → f x = false) := by
  intro n
  induction n with
  | zero => intro d _; exact .inl ⟨rfl, fun x h1 h2 => by omega⟩
  | succ n ih =>
    intro d hd
    rw [weakGo]
    by_cases e : f d = true
    · rw [if_pos e]
      exact .inr ⟨by omega, by omega, e, fun x h1 h2 => by omega⟩
    · rw [if_neg e]
      have hf : f d = false := by simpa using e
      rcases ih (d + 1) (by omega) with ⟨h1, h2⟩ | ⟨h1, h2, h3, h4⟩
      · refine .inl ⟨h1, fun x a b => ?_⟩
        by_cases ex : x = d
        · rw [ex]; exact hf
        · exact h2 x (by omega) (by omega)
      · refine .inr ⟨by omega, by omega, h3, fun x a b => ?_⟩
        by_cases ex : x = d
        · rw [ex]; exact hf
        · exact h4 x (by omega) b
theorem weak_spec {u : UseFile} (hck : checkF u = 0) (k i : Int) : (weak u k i = -1 ∧ ∀ d, u.from_ ≤ d → d ≤ 2000 → safe u k i d = 1) ∨ (u.from_ ≤ weak u k i ∧ weak u k i ≤ 2000 ∧ safe u k i (weak u k i) ≠ 1 ∧ ∀ d, u.from_ ≤ d → d < weak u k i → safe u k i d = 1) := by
  have hf := (num_ok (check_num hck)).2.2.1
  unfold weak
  rcases weakGo_spec (fun d => decide (safe u k i d ≠ 1)) (2001 - u.from_).toNat u.from_ hf.1 with ⟨h1, h2⟩ | ⟨h1, h2, h3, h4⟩
  · refine .inl ⟨h1, fun d a b => ?_⟩
    simpa using h2 d a (by omega)
  · refine .inr ⟨h1, by omega, by simpa using h3, fun d a b => ?_⟩
    simpa using h4 d a b
theorem mod_pos {n b : Int} (hb : 0 < b) : 0 ≤ n % b ∧ n % b < b := ⟨Int.emod_nonneg _ (by omega), Int.emod_lt_of_pos _ hb⟩
end Go.Proofs.YtopkdkedjkidhaaDoor
end
section
namespace Go.TM
open Go
theorem safeGo_one {w : Span} : ∀ {l : List Paper} {out : Int}, out ≠ 1 → (safeGo w l out = 1 ↔ ∃ p ∈ l, insideB w p.days = true) := by
  intro l
  induction l with
  | nil => intro out h; simp [safeGo, h]
  | cons p l ih =>
    intro out h
    rw [safeGo]
    by_cases e : insideB w p.days = true
    · rw [if_pos e]; simp [e]
    · rw [if_neg e, ih (by split <;> omega)]
      simp [e]
theorem safeGo_two {w : Span} : ∀ {l : List Paper} {out : Int}, (safeGo w l out = 2 → out = 2 ∧ ∀ p ∈ l, meetsB w p.days = false ∧ insideB w p.days = false) := by
  intro l
  induction l with
  | nil => intro out h; exact ⟨h, fun p hp => by simp at hp⟩
  | cons p l ih =>
    intro out h
    rw [safeGo] at h
    by_cases e : insideB w p.days = true
    · rw [if_pos e] at h; omega
    · rw [if_neg e] at h
      obtain ⟨h1, h2⟩ := ih h
      by_cases e2 : meetsB w p.days = true
      · rw [if_pos e2] at h1; omega
      · rw [if_neg e2] at h1
        refine ⟨h1, fun q hq => ?_⟩
        rcases List.mem_cons.1 hq with rfl | hq
        · exact ⟨by simpa using e2, by simpa using e⟩
        · exact h2 q hq
theorem safeGo_two' {w : Span} : ∀ {l : List Paper}, (∀ p ∈ l, meetsB w p.days = false ∧ insideB w p.days = false) → safeGo w l 2 = 2 := by
  intro l
  induction l with
  | nil => intro _; rfl
  | cons p l ih =>
    intro h
    have := h p (by simp)
    rw [safeGo, if_neg (by rw [this.2]; simp), if_neg (by rw [this.1]; simp)]
    exact ih fun q hq => h q (by simp [hq])
theorem safeGo_vals {w : Span} : ∀ {l : List Paper} {out : Int}, (out = 0 ∨ out = 1 ∨ out = 2) → (safeGo w l out = 0 ∨ safeGo w l out = 1 ∨ safeGo w l out = 2) := by
  intro l
  induction l with
  | nil => intro out h; exact h
  | cons p l ih =>
    intro out h
    rw [safeGo]
    split
    · omega
    · apply ih; split <;> omega
theorem safe_vals (u : UseFile) (k i d : Int) : safe u k i d = 0 ∨ safe u k i d = 1 ∨ safe u k i d = 2 := by
  unfold safe
  split
  · omega
  · exact safeGo_vals (.inr (.inr rfl))
def InW (u : UseFile) (day d : Int) : Prop := (window u day).first ≤ d ∧ d ≤ day
theorem inside_def (w x : Span) : insideB w x = true ↔ w.first ≤ x.first ∧ x.last ≤ w.last := by
  unfold insideB mx mn
  rw [decide_eq_true_eq]
  constructor
  · rintro ⟨h1, h2⟩; split at h1 <;> split at h2 <;> omega
  · rintro ⟨h1, h2⟩; constructor
    · split <;> omega
    · split <;> omega
theorem meets_def {w x : Span} (hw : w.first ≤ w.last) (hx : x.first ≤ x.last) : meetsB w x = true ↔ x.first ≤ w.last ∧ w.first ≤ x.last := by
  unfold meetsB mx mn
  rw [decide_eq_true_eq]
  split <;> split <;> omega
def Choice : List Paper → List Int → Prop
  | [], [] => True
  | p :: ps, d :: ds => (p.days.first ≤ d ∧ d ≤ p.days.last) ∧ Choice ps ds
  | _, _ => False
theorem meetsGo_bit (u : UseFile) (day : Int) : ∀ (l : List Request) (k acc j : Nat), (meetsGo u day l k acc).testBit j = (acc.testBit j || (decide (k ≤ j) && (l[j - k]?).any fun r => isIn day (window u r.day).first r.day)) := by
  intro l
  induction l with
  | nil => intro k acc j; simp [meetsGo]
  | cons r l ih =>
    intro k acc j
    rw [meetsGo, ih]
    by_cases e : j = k
    · subst e
      simp only [Nat.sub_self, List.getElem?_cons_zero, Option.any_some, Nat.le_refl, decide_true, Bool.true_and]
      rw [show decide (j + 1 ≤ j) = false by simp]
      split <;> rename_i hh <;> simp [hh, Nat.testBit_or, Nat.testBit_two_pow_self]
    · have hacc : (if isIn day (window u r.day).first r.day then acc ||| 2 ^ k else acc).testBit j = acc.testBit j := by
        split
        · rw [Nat.testBit_or, Nat.testBit_two_pow]; simp [Ne.symm e]
        · rfl
      rw [hacc]
      by_cases e2 : k ≤ j
      · have h1 : k + 1 ≤ j := by omega
        rw [show j - k = (j - (k + 1)) + 1 by omega, List.getElem?_cons_succ]
        simp [e2, h1]
      · have h1 : ¬ k + 1 ≤ j := by omega
        simp [e2, h1]
theorem meets_bit (u : UseFile) (l : List Request) (day : Int) (j : Nat) : (meets u l day).testBit j = (l[j]?).any fun r => isIn day (window u r.day).first r.day := by
  unfold meets
  rw [meetsGo_bit]; simp
def orAll (u : UseFile) (L : List Request) : List Int → Nat → Nat
  | [], s => s
  | d :: ds, s => orAll u L ds (s ||| meets u L d)
theorem orAll_bit {u : UseFile} {L : List Request} (j : Nat) : ∀ {ds : List Int} {s : Nat}, (orAll u L ds s).testBit j = (s.testBit j || ds.any fun d => (meets u L d).testBit j) := by
  intro ds
  induction ds with
  | nil => intro s; simp [orAll]
  | cons d ds ih => intro s; rw [orAll, ih, Nat.testBit_or, List.any_cons, Bool.or_assoc]
theorem daysOf_mem {x : Span} {d : Int} : d ∈ daysOf x ↔ x.first ≤ d ∧ d ≤ x.last := by
  unfold daysOf
  rw [List.mem_map]
  constructor
  · rintro ⟨i, h1, rfl⟩
    rw [List.mem_range] at h1; omega
  · rintro ⟨h1, h2⟩
    exact ⟨(d - x.first).toNat, by rw [List.mem_range]; omega, by omega⟩
theorem mem_step {ms R : List Nat} {s : Nat} : s ∈ stepL ms R ↔ ∃ a ∈ R, ∃ b ∈ ms, s = a ||| b := by
  unfold stepL
  simp only [List.mem_flatMap, List.mem_map]
  constructor
  · rintro ⟨a, h1, b, h2, h3⟩; exact ⟨a, h1, b, h2, h3.symm⟩
  · rintro ⟨a, h1, b, h2, h3⟩; exact ⟨a, h1, b, h2, h3.symm⟩
theorem reach_iff {u : UseFile} {L : List Request} : ∀ {ps : List Paper} {R : List Nat} {s : Nat}, s ∈ reachL u L ps R ↔ ∃ a ∈ R, ∃ ds, Choice ps ds ∧ s = orAll u L ds a := by
  intro ps
  induction ps with
  | nil =>
    intro R s
    rw [reachL]
    constructor
    · intro h; exact ⟨s, h, [], trivial, rfl⟩
    · rintro ⟨a, h, ds, hc, rfl⟩
      cases ds with
      | nil => exact h
      | cons d ds => exact hc.elim
  | cons p ps ih =>
    intro R s
    rw [reachL, ih]
    constructor
    · rintro ⟨a, h, ds, hc, rfl⟩
      obtain ⟨b, hb, m, hm, rfl⟩ := mem_step.1 h
      obtain ⟨d, hd, rfl⟩ := List.mem_map.1 hm
      exact ⟨b, hb, d :: ds, ⟨daysOf_mem.1 hd, hc⟩, rfl⟩
    · rintro ⟨a, h, ds, hc, rfl⟩
      cases ds with
      | nil => exact hc.elim
      | cons d ds =>
        obtain ⟨h1, h2⟩ := hc
        exact ⟨_, mem_step.2 ⟨a, h, _, List.mem_map.2 ⟨d, daysOf_mem.2 h1, rfl⟩, rfl⟩, ds, h2, rfl⟩
theorem orAll_lt {u : UseFile} {L : List Request} {ds : List Int} {s : Nat} (j : Nat) (hs : s.testBit j = false) (hj : L.length ≤ j) : (orAll u L ds s).testBit j = false := by
  rw [orAll_bit, hs, Bool.false_or, List.any_eq_false]
  intro d _
  rw [meets_bit, List.getElem?_eq_none hj]; simp
theorem can_iff {u : UseFile} {land item : Int} {L : List Request} : can u land item L = true ↔ ∃ ds, Choice (shown u land item) ds ∧ ∀ r ∈ L, InW u r.day u.from_ ∨ ∃ d ∈ ds, InW u r.day d := by
  have key : ∀ ds, orAll u L ds (meets u L u.from_) = 2 ^ L.length - 1 ↔ ∀ r ∈ L, InW u r.day u.from_ ∨ ∃ d ∈ ds, InW u r.day d := by
    intro ds
    constructor
    · intro h r hr
      obtain ⟨j, hj⟩ := List.mem_iff_getElem?.1 hr
      have hjl := (List.getElem?_eq_some_iff.1 hj).1
      have hb : (orAll u L ds (meets u L u.from_)).testBit j = true := by rw [h, Nat.testBit_two_pow_sub_one]; simp [hjl]
      rw [orAll_bit, Bool.or_eq_true, meets_bit, hj, List.any_eq_true] at hb
      rcases hb with hb | ⟨d, hd, hb⟩
      · simp [isIn] at hb; exact .inl hb
      · rw [meets_bit, hj] at hb
        simp [isIn] at hb
        exact .inr ⟨d, hd, hb⟩
    · intro h
      apply Nat.eq_of_testBit_eq
      intro j
      rw [Nat.testBit_two_pow_sub_one]
      by_cases hj : j < L.length
      · have hr : L[j]? = some L[j] := List.getElem?_eq_getElem hj
        rw [orAll_bit, meets_bit, hr]
        simp only [Option.any_some, hj, decide_true]
        rcases h L[j] (List.getElem_mem _) with ⟨h1, h2⟩ | ⟨d, hd, h1, h2⟩
        · rw [show isIn u.from_ (window u L[j].day).first L[j].day = true by simp [isIn]; exact ⟨h1, h2⟩]; rfl
        · rw [Bool.or_eq_true]; right
          rw [List.any_eq_true]
          refine ⟨d, hd, ?_⟩
          rw [meets_bit, hr]
          simp [isIn]; exact ⟨h1, h2⟩
      · rw [orAll_lt j (by rw [meets_bit, List.getElem?_eq_none (by omega)]; rfl) (by omega)]
        simp [hj]
  unfold can
  rw [List.contains_iff_mem, reach_iff]
  constructor
  · rintro ⟨a, ha, ds, hc, hs⟩
    rw [List.mem_singleton] at ha
    subst ha
    exact ⟨ds, hc, (key ds).1 hs.symm⟩
  · rintro ⟨ds, hc, h⟩
    exact ⟨_, List.mem_singleton.2 rfl, ds, hc, ((key ds).2 h).symm⟩
end Go.TM
end
section
namespace Go.TM
open Go
theorem left_vals (u : UseFile) (k i d : Int) : left u k i d = 0 ∨ left u k i d = 1 ∨ left u k i d = 2 := by
  unfold left
  split
  · omega
  · split <;> omega
end Go.TM
end
section
namespace Go.TM
open Go
def rk (s : Int) : Int := if s = 2 then 0 else if s = 1 then 2 else 1
theorem rk_vals (s : Int) : 0 ≤ rk s ∧ rk s ≤ 2 := by unfold rk; split <;> (try split) <;> omega
theorem safe_one_iff {u : UseFile} {k i d : Int} (hd : 0 ≤ d) (hi : 1 ≤ u.idle) : safe u k i d = 1 ↔ InW u d u.from_ ∨ ∃ p ∈ shown u k i, (window u d).first ≤ p.days.first ∧ p.days.last ≤ d := by
  unfold safe
  by_cases e : isIn u.from_ (window u d).first d = true
  · rw [if_pos e]
    simp only [true_iff]
    exact .inl (by simpa [isIn, InW] using e)
  · rw [if_neg e, safeGo_one (by omega)]
    have h1 : ¬ InW u d u.from_ := fun h => e (by simp [isIn]; exact h)
    constructor
    · rintro ⟨p, hp, hin⟩; exact .inr ⟨p, hp, (inside_def _ _).1 hin⟩
    · rintro (h | ⟨p, hp, hin⟩)
      · exact absurd h h1
      · exact ⟨p, hp, (inside_def _ _).2 hin⟩
theorem safe_two_iff {u : UseFile} {k i d : Int} (hd : 0 ≤ d) (hi : 1 ≤ u.idle) (hv : ∀ p ∈ shown u k i, p.days.first ≤ p.days.last) : safe u k i d = 2 ↔ ¬ InW u d u.from_ ∧ ∀ p ∈ shown u k i, ¬ (p.days.first ≤ d ∧ (window u d).first ≤ p.days.last) := by
  have hwb := window_bound hi (u := u) hd
  have hwl : (window u d).last = d := rfl
  unfold safe
  by_cases e : isIn u.from_ (window u d).first d = true
  · rw [if_pos e]
    have : InW u d u.from_ := by simpa [isIn, InW] using e
    constructor
    · intro h; omega
    · intro h; exact absurd this h.1
  · rw [if_neg e]
    have h1 : ¬ InW u d u.from_ := fun h => e (by simp [isIn]; exact h)
    constructor
    · intro h
      obtain ⟨_, h2⟩ := safeGo_two h
      refine ⟨h1, fun p hp hm => ?_⟩
      have := (h2 p hp).1
      rw [(meets_def (by omega) (hv p hp)).2 ⟨by omega, hm.2⟩] at this; cases this
    · rintro ⟨_, h2⟩
      refine safeGo_two' fun p hp => ?_
      have hno := h2 p hp
      have hvp := hv p hp
      constructor
      · cases hm : meetsB (window u d) p.days with
        | false => rfl
        | true => exact absurd ((meets_def (by omega) hvp).1 hm) (by omega)
      · cases hm : insideB (window u d) p.days with
        | false => rfl
        | true => have := (inside_def _ _).1 hm; exact absurd ⟨by omega, by omega⟩ hno
def Valid (u : UseFile) : Prop := 1 ≤ u.idle ∧ (∀ p ∈ u.papers, p.days.first ≤ p.days.last) ∧ ∀ r ∈ u.requests, 0 ≤ r.day ∧ r.day ≤ 2000
theorem Valid.of {u : UseFile} (h : checkF u = 0) : Valid u := ⟨(num_ok (check_num h)).2.2.2.1, fun p hp => ((check_papers h).2 p hp).2.1, (check_requests h).2⟩
theorem Valid.sh {u : UseFile} (v : Valid u) {k i : Int} : ∀ p ∈ shown u k i, p.days.first ≤ p.days.last := fun p hp => v.2.1 p (List.mem_filter.1 hp).1
theorem left_one_iff {u : UseFile} {k i d : Int} : left u k i d = 1 ↔ ∀ r ∈ against u k i d, safe u k i r.day = 1 := by
  unfold left
  by_cases e : ((against u k i d).all fun r => decide (safe u k i r.day = 1)) = true
  · rw [if_pos e]
    simp only [true_iff]
    intro r hr; simpa using List.all_eq_true.1 e r hr
  · rw [if_neg e]
    constructor
    · intro h; split at h <;> omega
    · intro h
      exact absurd (List.all_eq_true.2 fun r hr => by simpa using h r hr) e
theorem left_two_iff {u : UseFile} {k i d : Int} : left u k i d = 2 ↔ left u k i d ≠ 1 ∧ can u k i (against u k i d) = false := by
  unfold left
  by_cases e : ((against u k i d).all fun r => decide (safe u k i r.day = 1)) = true
  · rw [if_pos e]; simp
  · rw [if_neg e]
    cases hc : can u k i (against u k i d) <;> simp
theorem rk_le {a b : Int} (ha : a = 0 ∨ a = 1 ∨ a = 2) (hb : b = 0 ∨ b = 1 ∨ b = 2) (h1 : a = 1 → b = 1) (h2 : b = 2 → a = 2) : rk a ≤ rk b := by
  unfold rk
  rcases ha with rfl | rfl | rfl <;> rcases hb with rfl | rfl | rfl <;> simp at h1 h2 ⊢
theorem can_of_safe {u : UseFile} (vu : Valid u) {k i : Int} {L : List Request} (hL : ∀ r ∈ L, 0 ≤ r.day) (h : ∀ r ∈ L, safe u k i r.day = 1) : can u k i L = true := by
  rw [can_iff]
  have hch : ∀ ps : List Paper, (∀ p ∈ ps, p.days.first ≤ p.days.last) → Choice ps (ps.map fun p => p.days.first) := by
    intro ps
    induction ps with
    | nil => intro _; trivial
    | cons p ps ih => intro h; exact ⟨⟨Int.le_refl _, h p (by simp)⟩, ih fun q hq => h q (by simp [hq])⟩
  refine ⟨_, hch _ vu.sh, fun r hr => ?_⟩
  rcases (safe_one_iff (hL r hr) vu.1).1 (h r hr) with h1 | ⟨p, hp, h1, h2⟩
  · exact .inl h1
  · have := vu.sh p hp
    exact .inr ⟨_, List.mem_map.2 ⟨p, hp, rfl⟩, h1, by omega⟩
end Go.TM
end
section
namespace Go.TM
open Go Go.Conc
theorem Addr.add_add' (a : Addr) (x y : Nat) : (a.add x).add y = a.add (x + y) := by
  unfold Addr.add
  by_cases h1 : x = 0
  · subst h1; simp
  · by_cases h2 : y = 0
    · subst h2; simp [h1]
    · simp [h1, h2]; omega
def ToldE {α : Type} (E : Cells → Addr → α → Prop) (Enc : α → List Value → Prop) (k : Nat) (h : Cells) : Prop := ∀ a x, E h a x → ∃ ws, Enc x ws ∧ ws.length = k ∧ (∀ (j : Nat) w, ws[j]? = some w → h.cell? (a.add j) = some w) ∧ ∀ w ∈ ws, isOne w = true
theorem flat {α : Type} {E : Cells → Addr → α → Prop} {Enc : α → List Value → Prop} {k : Nat} {h : Cells} (he : ToldE E Enc k h) {b : Addr} {n : Nat} {l : List α} (s : Sl E k h (some b) n l) : ∀ i, i ≤ l.length → ∃ vs, Rows Enc vs (l.take i) ∧ vs.length = i * k ∧ (∀ (t : Nat) v, vs[t]? = some v → h.cell? (b.add t) = some v) ∧ ∀ v ∈ vs, isOne v = true := by
  intro i
  induction i with
  | zero => intro _; exact ⟨[], .nil, by simp, fun t v hv => by simp at hv, fun v hv => by simp at hv⟩
  | succ i ih =>
    intro hi
    obtain ⟨vs, h1, h2, h3, h4⟩ := ih (by omega)
    obtain ⟨x, a, hx, ha, hE⟩ := s.at (i := i) (by rw [s.1]; omega)
    cases ha
    obtain ⟨ws, w1, w2, w3, w4⟩ := he _ _ hE
    refine ⟨vs ++ ws, ?_, by rw [List.length_append, h2, w2, Nat.add_mul]; omega, fun t v hv => ?_, fun v hv => ?_⟩
    · rw [List.take_add_one, hx]; exact h1.snoc w1
    · by_cases ht : t < vs.length
      · rw [List.getElem?_append_left ht] at hv; exact h3 t v hv
      · rw [List.getElem?_append_right (by omega)] at hv
        have := w3 _ v hv
        rw [Addr.add_add'] at this
        rw [show t = i * k + (t - vs.length) by omega]; exact this
    · rcases List.mem_append.1 hv with hv | hv
      · exact h4 v hv
      · exact w4 v hv
theorem Rows.append {α : Type} {Enc : α → List Value → Prop} {vs : List Value} {l : List α} (r : Rows Enc vs l) {ws : List Value} {l' : List α} (r' : Rows Enc ws l') : Rows Enc (vs ++ ws) (l ++ l') := by
  induction r' with
  | nil => simpa using r
  | snoc r' he ih => rw [← List.append_assoc, ← List.append_assoc]; exact ih.snoc he
section
variable {P : Program} {X : XP} {Q : Leaf → LH → Prop}
theorem t_append0 {h : LH} {k : Value → T} {ts : Array TypeId} {ty sT xT el xe : TypeId} {s by_ : Nat} {z : Option Value} {p q : Option Addr} {n c mc : Nat} (h0 : ts[0]? = some sT) (h1 : ts[1]? = some xT) (hu : P.underlying sT = some (.slice el)) (hx : P.underlying xT = some (.slice xe))
    (hi : (P.info? el).map (fun i => (i.size, i.bytes, i.zero)) = some (s, by_, z)) (hnc : n ≤ c) (hk : (k (.slice p n c)).wp X P Q h) : (T.sem false (Builtin.append_ ts ty #[.slice p n c, .slice q 0 mc]) k).wp X P Q h := by
  obtain ⟨inf, g1, _, _, _⟩ := info_of hi
  refine t_sem (A := fun v h' => v = .slice p n c ∧ h' = h.get) ?_ (by rintro v h' ⟨rfl, rfl⟩; exact hk)
  unfold Builtin.append_
  rw [h0, h1]
  simp only [List.getElem?_toArray, List.getElem?_cons_zero, List.getElem?_cons_succ]
  simp only [lwp_bind, lwp_underlying hu, lwp_sizeOf g1, lwp_underlying hx, lwp_pure, Bool.false_eq_true, if_false, Bool.not_false, if_true, Builtin.lenOf, Nat.add_zero, if_pos hnc]
  cases q with
  | none =>
    simp only [Builtin.firstCells, lwp_pure]
    cases p with
    | none => exact ⟨rfl, rfl⟩
    | some a => exact ⟨rfl, rfl⟩
  | some b =>
    simp only [Builtin.firstCells, Nat.zero_mul]
    refine lwp_loads (l := []) rfl (fun t v hv => by simp at hv) ?_
    cases p with
    | none => exact ⟨rfl, rfl⟩
    | some a => exact ⟨rfl, rfl⟩
theorem OwnRow.le_cap {el : TypeId} {k : Nat} {h : Cells} {p : Option Addr} {n c : Nat} {vs : List Value} (o : OwnRow el k h p n c vs) : n ≤ c := by
  rcases o.2 with ⟨_, h1, h2⟩ | ⟨_, _, _, _, _, h, _⟩
  · omega
  · exact h
theorem t_copy {α : Type} {E : Cells → Addr → α → Prop} {Enc : α → List Value → Prop} {h h₀ : LH} {k : Value → T} {ts : Array TypeId} {ty sT xT el xe : TypeId} {s by_ : Nat} {z : Value} {p q : Option Addr} {n c m mc : Nat} {l l1 : List α} (h0 : ts[0]? = some sT) (h1 : ts[1]? = some xT) (hu : P.underlying sT = some (.slice el)) (hx : P.underlying xT = some (.slice xe))
    (hi : (P.info? el).map (fun i => (i.size, i.bytes, i.zero)) = some (s, by_, some z)) (hsz : z.cells.size = s) (hb : by_ ≤ 1024) (hn : n + m ≤ 2 ^ 30) (g : Growing Enc el s h₀.get h.get p n c l) (hle : h₀.le h) (src : Sl E s h.get q m l1) (he : ToldE E Enc s h.get)
    (hk : ∀ p' c' h', h₀.le h' → (∀ r y, (∀ a, p = some a → a.block ≠ r) → h.get r = some y → h'.get r = some y) → Growing Enc el s h₀.get h'.get p' (n + m) c' (l ++ l1) → (k (.slice p' (n + m) c')).wp X P Q h') : (T.sem false (Builtin.append_ ts ty #[.slice p n c, .slice q m mc]) k).wp X P Q h := by
  obtain ⟨vs, o, r⟩ := g.row
  by_cases hm : m = 0
  · subst hm
    have hl1 : l1 = [] := List.eq_nil_of_length_eq_zero src.1.symm
    subst hl1
    refine t_append0 h0 h1 hu hx hi o.le_cap ?_
    have := hk p c h hle (fun r y _ hy => hy) (by rw [List.append_nil]; exact g)
    exact this
  · obtain ⟨x, b, _, hb', _⟩ := src.at (i := 0) (by omega)
    subst hb'
    obtain ⟨ws, w1, w2, w3, w4⟩ := flat he src l1.length (Nat.le_refl _)
    rw [List.take_length] at w1
    have hm' := src.1
    refine t_append h0 h1 hu hx hi hsz hb hn o (by rw [w2, hm']) w3 w4 (by omega) fun p' c' h' a b c => ?_
    obtain ⟨l1', l2'⟩ := after_append hle.1 g.new b c
    exact hk p' c' _ ⟨l1', hle.2⟩ (fun r y hr hy => b r y hy hr) ⟨⟨vs ++ ws, a, r.append w1⟩, l2'⟩
theorem t_build0G {α : Type} {Enc : α → List Value → Prop} {h h₀ : LH} {K : Value → T} {t el : TypeId} {s b : Nat} {z : Option Value} (hu : P.underlying t = some (.slice el)) (hi : (P.info? el).map (fun i => (i.size, i.bytes, i.zero)) = some (s, b, z)) (hle : h₀.le h)
    (hk : ∀ r h', h.get r = none → h.le h' → Growing Enc el s h₀.get h'.get (some ⟨r, 0, none⟩) 0 0 [] → (K (.slice (some ⟨r, 0, none⟩) 0 0)).wp X P Q h') : (T.sem false (Instr.buildSlice t 0 #[]) K).wp X P Q h := by
  refine t_build0 hu hi fun r hr => ?_
  refine hk r _ hr (LH.upd_le hr) ⟨⟨[], ⟨by simp, .inr ⟨r, #[], rfl, Cells.upd_self _ _ _, by simp, Nat.le_refl _, fun j v hv => by simp at hv⟩⟩, .nil⟩, fun a ha => ?_⟩
  cases ha
  cases hx : h₀.get r with
  | none => rfl
  | some x => rw [hle.1 _ _ hx] at hr; cases hr
end
end Go.TM
end
section
namespace Go.Proofs.YtopkdkedjkidhaaDoor
open Go Go.TM Go.Proofs
set_option linter.unusedVariables false
set_option maxRecDepth 100000
noncomputable def n43 (u_0 : Int) (u_1 : Int) (u_2 : Int) (u_3 : Int) (u_4p : Option Addr) (u_4n u_4c : Nat) (u_5p : Option Addr) (u_5n u_5c : Nat) (u_6p : Option Addr) (u_6n u_6c : Nat) (than_0 : Int) (than_1 : Int) (than_2 : Int) (than_3 : Int) (than_4p : Option Addr) (than_4n than_4c : Nat) (than_5p : Option Addr) (than_5n than_5c : Nat) (than_6p : Option Addr) (than_6n than_6c : Nat) (land : Int) (day : Int) : T := .call false 18 #[.agg #[.int .i64 u_0, .int .i64 u_1, .int .i64 u_2, .int .i64 u_3, .slice u_4p u_4n u_4c, .slice u_5p u_5n u_5c, .slice u_6p u_6n u_6c], .int .i64 land, .int .i64 day] fun v => .unTup v fun l => .unCons l fun v vs => .unS v fun a n c => .unCons vs fun v vs => .unI .i64 v fun n_1 => .unNil vs (.call false 18 #[.agg #[.int .i64 than_0, .int .i64 than_1, .int .i64 than_2, .int .i64 than_3, .slice than_4p than_4n than_4c, .slice than_5p than_5n than_5c, .slice than_6p than_6n than_6c], .int .i64 land, .int .i64 day] fun v => .unTup v fun l => .unCons l fun v vs => .unS v fun a_1 n_2 c_1 => .unCons vs fun v vs => .unI .i64 v fun n_3 => .unNil vs (.blk (bif n_1 != 0 then .leaf (.retn [.bool false]) else bif n_3 != 0 then .leaf (.retn [.bool false]) else .call false 71 #[.slice a n c, .slice a_1 n_2 c_1] fun v => .unB v fun b => bif !b then .leaf (.retn [.bool false]) else .leaf (.again [.bool false])) (fun vs => .popB vs fun b vs => .unNil vs (.loop [.bool b, .int .i64 0] (fun vs => .popB vs fun b vs => .popI .i64 vs fun n vs => .unNil vs (bif decide (n < u_0) then .call false 14 #[.agg #[.int .i64 u_0, .int .i64 u_1, .int .i64 u_2, .int .i64 u_3, .slice u_4p u_4n u_4c, .slice u_5p u_5n u_5c, .slice u_6p u_6n u_6c], .int .i64 land, .int .i64 n, .int .i64 day] fun v => .unTup v fun l => .unCons l fun v vs => .unI .i64 v fun n_4 => .unCons vs fun v vs => .unI .i64 v fun n_5 => .unNil vs (.call false 14 #[.agg #[.int .i64 than_0, .int .i64 than_1, .int .i64 than_2, .int .i64 than_3, .slice than_4p than_4n than_4c, .slice than_5p than_5n than_5c, .slice than_6p than_6n than_6c], .int .i64 land, .int .i64 n, .int .i64 day] fun v => .unTup v fun l => .unCons l fun v vs => .unI .i64 v fun n_6 => .unCons vs fun v vs => .unI .i64 v fun n_7 => .unNil vs (.call false 16 #[.agg #[.int .i64 u_0, .int .i64 u_1, .int .i64 u_2, .int .i64 u_3, .slice u_4p u_4n u_4c, .slice u_5p u_5n u_5c, .slice u_6p u_6n u_6c], .int .i64 land, .int .i64 n] fun v => .unTup v fun l => .unCons l fun v vs => .unI .i64 v fun n_8 => .unCons vs fun v vs => .unI .i64 v fun n_9 => .unNil vs (.call false 16 #[.agg #[.int .i64 than_0, .int .i64 than_1, .int .i64 than_2, .int .i64 than_3, .slice than_4p than_4n than_4c, .slice than_5p than_5n than_5c, .slice than_6p than_6n than_6c], .int .i64 land, .int .i64 n] fun v => .unTup v fun l => .unCons l fun v vs => .unI .i64 v fun n_10 => .unCons vs fun v vs => .unI .i64 v fun n_11 => .unNil vs (bif n_5 != 0 then .leaf (.retn [.bool false, .int .i64 n]) else bif n_7 != 0 then .leaf (.retn [.bool false, .int .i64 n]) else bif n_9 != 0 then .leaf (.retn [.bool false, .int .i64 n]) else bif n_11 != 0 then .leaf (.retn [.bool false, .int .i64 n]) else .call false 72 #[.int .i64 n_4, .int .i64 n_6] fun v => .unB v fun b_1 => bif b_1 then .leaf (.retn [.bool false, .int .i64 n]) else bif decide (n_8 ≥ 0) then bif decide (n_10 < 0) then .leaf (.retn [.bool false, .int .i64 n]) else bif decide (n_8 < n_10) then .leaf (.retn [.bool false, .int .i64 n]) else .leaf (.again [.bool b, .int .i64 (IntKind.wrap .i64 (n + 1))]) else .leaf (.again [.bool b, .int .i64 (IntKind.wrap .i64 (n + 1))]))))) else .leaf (.brk [.bool b, .int .i64 n]))) (fun vs => .popB vs fun b vs => .popI .i64 vs fun n vs => .unNil vs (.leaf (.ret (.bool true)))) (fun vs => .popB vs fun b vs => .popI .i64 vs fun n vs => .unNil vs (.leaf (.ret (.bool b)))) fun x x_1 => .fail)) (fun vs => .popB vs fun b vs => .unNil vs (.leaf (.ret (.bool b)))) fun x x_1 => .fail))
theorem t43 (u_0 : Int) (u_1 : Int) (u_2 : Int) (u_3 : Int) (u_4p : Option Addr) (u_4n u_4c : Nat) (u_5p : Option Addr) (u_5n u_5c : Nat) (u_6p : Option Addr) (u_6n u_6c : Nat) (than_0 : Int) (than_1 : Int) (than_2 : Int) (than_3 : Int) (than_4p : Option Addr) (than_4n than_4c : Nat) (than_5p : Option Addr) (than_5n than_5c : Nat) (than_6p : Option Addr) (than_6n than_6c : Nat) (land : Int) (day : Int) : ftree ({ P := Tryd.prog, priv := [4, 5], loops := [{ id := 0, slots := [(8, .bool), (13, .int .i64)], ro := [4, 5], outs := [] }], joins := [{ id := 5, slots := [(8, .bool)], ro := [4, 5], outs := [] }] }) Tryd.f37 [.agg #[.int .i64 u_0, .int .i64 u_1, .int .i64 u_2, .int .i64 u_3, .slice u_4p u_4n u_4c, .slice u_5p u_5n u_5c, .slice u_6p u_6n u_6c], .agg #[.int .i64 than_0, .int .i64 than_1, .int .i64 than_2, .int .i64 than_3, .slice than_4p than_4n than_4c, .slice than_5p than_5n than_5c, .slice than_6p than_6n than_6c], .int .i64 land, .int .i64 day] = n43 u_0 u_1 u_2 u_3 u_4p u_4n u_4c u_5p u_5n u_5c u_6p u_6n u_6c than_0 than_1 than_2 than_3 than_4p than_4n than_4c
    than_5p than_5n than_5c than_6p than_6n than_6c land day := by kernel_rfl
theorem w43 (u_0 : Int) (u_1 : Int) (u_2 : Int) (u_3 : Int) (u_4p : Option Addr) (u_4n u_4c : Nat) (u_5p : Option Addr) (u_5n u_5c : Nat) (u_6p : Option Addr) (u_6n u_6c : Nat) (than_0 : Int) (than_1 : Int) (than_2 : Int) (than_3 : Int) (than_4p : Option Addr) (than_4n than_4c : Nat) (than_5p : Option Addr) (than_5n than_5c : Nat) (than_6p : Option Addr) (than_6n than_6c : Nat) (land : Int) (day : Int) {X : XP} (hX : XOK X) {h : LH} {A : Value → LH → Prop} (hw : (n43 u_0 u_1 u_2 u_3 u_4p u_4n u_4c u_5p u_5n u_5c u_6p u_6n u_6c than_0 than_1 than_2 than_3 than_4p than_4n than_4c
    than_5p than_5n than_5c than_6p than_6n than_6c land day).wp X Tryd.prog (retQ A) h) : FWK X Tryd.prog .normal 37 #[.agg #[.int .i64 u_0, .int .i64 u_1, .int .i64 u_2, .int .i64 u_3, .slice u_4p u_4n u_4c, .slice u_5p u_5n u_5c, .slice u_6p u_6n u_6c], .agg #[.int .i64 than_0, .int .i64 than_1, .int .i64 than_2, .int .i64 than_3, .slice than_4p than_4n than_4c, .slice than_5p than_5n than_5c, .slice than_6p than_6n than_6c], .int .i64 land, .int .i64 day] h A := fwk_neat (t43 u_0 u_1 u_2 u_3 u_4p u_4n u_4c u_5p u_5n u_5c u_6p u_6n u_6c than_0 than_1 than_2 than_3 than_4p than_4n than_4c
    than_5p than_5n than_5c than_6p than_6n than_6c land day) (by simp) (by kernel_rfl) (by kernel_rfl) hX hw
noncomputable def n44 (lp : Option Addr) (ln lc : Nat) (ofp : Option Addr) (ofn ofc : Nat) : T := bif (↑ln : Int) != (↑ofn : Int) then .leaf (.ret (.bool false)) else .loop [.bool false, .int .i64 0] (fun vs => .popB vs fun b vs => .popI .i64 vs fun n vs => .unNil vs (bif decide (n < (↑ln : Int)) then .need (0 ≤ n ∧ n < (↑ln : Int)) (.someA lp fun a => .loadI .i64 (Addr.add a (Int.toNat n * 1)) fun n_1 => .need (0 ≤ n ∧ n < (↑ofn : Int)) (.someA ofp fun a_1 => .loadI .i64 (Addr.add a_1 (Int.toNat n * 1)) fun n_2 => .call false 72 #[.int .i64 n_1, .int .i64 n_2] fun v => .unB v fun b_1 => .need (0 ≤ n ∧ n < (↑ofn : Int)) (.someA ofp fun a_2 => .need (AV.val (.pointer (some (Addr.add a_2 (Int.toNat n * 1)))) = AV.val (.pointer (some (Addr.add a_1 (Int.toNat n * 1))))) (.nd (.int .i64 n) (.nd (.slice ofp ofn ofc) (.need (0 ≤ n ∧ n < (↑ln : Int)) (.someA lp fun a_3 => .need (AV.val (.pointer (some (Addr.add a_3 (Int.toNat n * 1)))) = AV.val (.pointer (some (Addr.add a (Int.toNat n * 1))))) (.nd (.int .i64 n) (.nd (.slice lp ln lc) (bif b_1 then .leaf (.retn [.bool false, .int .i64 n]) else .leaf (.again [.bool b, .int .i64 (IntKind.wrap .i64 (n + 1))]))))))))))) else .leaf (.brk [.bool b, .int .i64 n]))) (fun vs => .popB vs fun b vs => .popI .i64 vs fun n vs => .unNil vs (.leaf (.ret (.bool true)))) (fun vs => .popB vs fun b vs => .popI .i64 vs fun n vs => .unNil vs (.leaf (.ret (.bool b)))) fun x x_1 => .fail
theorem t44 (lp : Option Addr) (ln lc : Nat) (ofp : Option Addr) (ofn ofc : Nat) : ftree ({ P := Tryd.prog, priv := [], loops := [{ id := 0, slots := [(4, .bool), (5, .int .i64)], ro := [], outs := [] }], joins := [] }) Tryd.f71 [.slice lp ln lc, .slice ofp ofn ofc] = n44 lp ln lc ofp ofn ofc := by kernel_rfl
theorem w44 (lp : Option Addr) (ln lc : Nat) (ofp : Option Addr) (ofn ofc : Nat) {X : XP} (hX : XOK X) {h : LH} {A : Value → LH → Prop} (hw : (n44 lp ln lc ofp ofn ofc).wp X Tryd.prog (retQ A) h) : FWK X Tryd.prog .normal 71 #[.slice lp ln lc, .slice ofp ofn ofc] h A := fwk_neat (t44 lp ln lc ofp ofn ofc) (by simp) (by kernel_rfl) (by kernel_rfl) hX hw
noncomputable def n45 (a : Int) (b : Int) : T := .call false 101 #[.int .i64 a] fun v => .unI .i64 v fun n => .call false 101 #[.int .i64 b] fun v => .unI .i64 v fun n_1 => .leaf (.ret (.bool (decide (n < n_1))))
theorem t45 (a : Int) (b : Int) : ftree ({ P := Tryd.prog, priv := [], loops := [], joins := [] }) Tryd.f72 [.int .i64 a, .int .i64 b] = n45 a b := by kernel_rfl
theorem w45 (a : Int) (b : Int) {X : XP} (hX : XOK X) {h : LH} {A : Value → LH → Prop} (hw : (n45 a b).wp X Tryd.prog (retQ A) h) : FWK X Tryd.prog .normal 72 #[.int .i64 a, .int .i64 b] h A := fwk_neat (t45 a b) (by simp) (by kernel_rfl) (by kernel_rfl) hX hw
noncomputable def n77 (s : Int) : T := bif s == 2 then .leaf (.ret (.int .i64 0)) else bif s == 1 then .leaf (.ret (.int .i64 2)) else .leaf (.ret (.int .i64 1))
theorem t77 (s : Int) : ftree ({ P := Tryd.prog, priv := [], loops := [], joins := [] }) Tryd.f101 [.int .i64 s] = n77 s := by kernel_rfl
theorem w77 (s : Int) {X : XP} (hX : XOK X) {h : LH} {A : Value → LH → Prop} (hw : (n77 s).wp X Tryd.prog (retQ A) h) : FWK X Tryd.prog .normal 101 #[.int .i64 s] h A := fwk_neat (t77 s) (by simp) (by kernel_rfl) (by kernel_rfl) hX hw
end Go.Proofs.YtopkdkedjkidhaaDoor
end
section
namespace Go.Proofs.YtopkdkedjkidhaaDoor
open Go Go.TM Go.Proofs
attribute [local irreducible] T.wp CV FWK
theorem c77 {h : LH} (s : Int) : Pu Tryd.prog 101 #[.int .i64 s] h (.int .i64 (rk s)) := by
  refine w77 _ X0_ok ?_
  unfold n77 rk
  refine t_cond (fun e => ?_) (fun e => ?_)
  · have : s = 2 := by simpa using e
    exact t_ret ⟨by rw [if_pos this], rfl⟩
  · have h2 : s ≠ 2 := by simpa using e
    refine t_cond (fun e => ?_) (fun e => ?_)
    · have : s = 1 := by simpa using e
      exact t_ret ⟨by rw [if_neg h2, if_pos this], rfl⟩
    · have : s ≠ 1 := by simpa using e
      exact t_ret ⟨by rw [if_neg h2, if_neg this], rfl⟩
theorem c45 {h : LH} (a b : Int) : Pu Tryd.prog 72 #[.int .i64 a, .int .i64 b] h (.bool (decide (rk a < rk b))) := by
  refine w45 _ _ X0_ok ?_
  unfold n45
  refine t_pu (c77 a) ?_
  (repeat (first | (with_reducible first | apply gA | apply gB | apply gC | apply gD | apply gE | apply gF | apply gG | apply gH | apply gI | apply gJ | apply gK | apply gL | apply gM | apply gN | apply gO | apply gP | apply gQ | apply gR) | ((with_reducible first | apply gT | apply gS2); first | exact rfl | assumption | omega | exact ⟨⟩) | ((with_reducible first | apply gL0 | apply gL1 | apply gL2 | apply gL3 | apply gL4); assumption)))
  refine t_pu (c77 b) ?_
  (repeat (first | (with_reducible first | apply gA | apply gB | apply gC | apply gD | apply gE | apply gF | apply gG | apply gH | apply gI | apply gJ | apply gK | apply gL | apply gM | apply gN | apply gO | apply gP | apply gQ | apply gR) | ((with_reducible first | apply gT | apply gS2); first | exact rfl | assumption | omega | exact ⟨⟩) | ((with_reducible first | apply gL0 | apply gL1 | apply gL2 | apply gL3 | apply gL4); assumption)))
  exact t_ret ⟨rfl, rfl⟩
def NoLessP (a b : List Int) : Prop := a.length = b.length ∧ ∀ (i : Nat) x y, a[i]? = some x → b[i]? = some y → rk y ≤ rk x
theorem c44 {h : LH} {p q : Option Addr} {n c m d : Nat} {a b : List Int} (ha : Sl IntE 1 h.get p n a) (hb : Sl IntE 1 h.get q m b) (hn : NoLessP a b) : Pu Tryd.prog 71 #[.slice p n c, .slice q m d] h (.bool true) := by
  refine w44 _ _ _ _ _ _ X0_ok ?_
  unfold n44
  have hna := ha.1
  have hnb := hb.1
  have hba := ha.2.1
  have hl := hn.1
  refine t_cond (fun e => ?_) (fun _ => ?_)
  · simp at e; omega
  refine t_loop (fun mm vs h' => h = h' ∧ ∃ i : Nat, vs = [.bool false, .int .i64 i] ∧ i ≤ n ∧ mm = n - i) ⟨rfl, 0, rfl, Nat.zero_le _, rfl⟩ ?_
  rintro Y mm vs _ hY ⟨rfl, i, rfl, hi, rfl⟩
  (repeat (first | (with_reducible first | apply gA | apply gB | apply gC | apply gD | apply gE | apply gF | apply gG | apply gH | apply gI | apply gJ | apply gK | apply gL | apply gM | apply gN | apply gO | apply gP | apply gQ | apply gR) | ((with_reducible first | apply gT | apply gS2); first | exact rfl | assumption | omega | exact ⟨⟩) | ((with_reducible first | apply gL0 | apply gL1 | apply gL2 | apply gL3 | apply gL4); assumption)))
  refine t_if (fun e => ?_) (fun e => ?_)
  · obtain ⟨x, a1, hx, ha1, e1⟩ := ha.at (i := i) (by omega)
    obtain ⟨y, a2, hy, ha2, e2⟩ := hb.at (i := i) (by omega)
    unfold IntE at e1 e2
    have hr := hn.2 i x y hx hy
    (repeat (first | (with_reducible first | apply gA | apply gB | apply gC | apply gD | apply gE | apply gF | apply gG | apply gH | apply gI | apply gJ | apply gK | apply gL | apply gM | apply gN | apply gO | apply gP | apply gQ | apply gR) | ((with_reducible first | apply gT | apply gS2); first | exact rfl | assumption | omega | exact ⟨⟩) | ((with_reducible first | apply gL0 | apply gL1 | apply gL2 | apply gL3 | apply gL4); assumption)))
    refine t_pu (c45 _ _) ?_
    rw [decide_eq_false (by omega : ¬ rk x < rk y)]
    (repeat (first | (with_reducible first | apply gA | apply gB | apply gC | apply gD | apply gE | apply gF | apply gG | apply gH | apply gI | apply gJ | apply gK | apply gL | apply gM | apply gN | apply gO | apply gP | apply gQ | apply gR) | ((with_reducible first | apply gT | apply gS2); first | exact rfl | assumption | omega | exact ⟨⟩) | ((with_reducible first | apply gL0 | apply gL1 | apply gL2 | apply gL3 | apply gL4); assumption)))
    refine t_cond (fun e => by cases e) (fun _ => ?_)
    refine t_again (hY (n - (i + 1)) _ _ (by omega) ⟨rfl, i + 1, ?_, by omega, rfl⟩)
    rw [wrap_id (by omega) (by omega)]; rfl
  · (repeat (first | (with_reducible first | apply gA | apply gB | apply gC | apply gD | apply gE | apply gF | apply gG | apply gH | apply gI | apply gJ | apply gK | apply gL | apply gM | apply gN | apply gO | apply gP | apply gQ | apply gR) | ((with_reducible first | apply gT | apply gS2); first | exact rfl | assumption | omega | exact ⟨⟩) | ((with_reducible first | apply gL0 | apply gL1 | apply gL2 | apply gL3 | apply gL4); assumption)))
    exact t_ret ⟨rfl, rfl⟩
structure SaferP (u v : UseFile) (k d : Int) : Prop where
  items : v.items = u.items
  frm : v.from_ = u.from_
  safe : ∀ i e, 0 ≤ e → e ≤ 2000 → rk (safe v k i e) ≤ rk (safe u k i e)
  left : ∀ i, rk (left v k i d) ≤ rk (left u k i d)
theorem SaferP.noLess {u v : UseFile} {k d : Int} (s : SaferP u v k d) : NoLessP (leftAll u k d) (leftAll v k d) := by
  refine ⟨by unfold leftAll; simp [s.items], fun i x y hx hy => ?_⟩
  have hi : i < u.items.toNat := by
    have := (List.getElem?_eq_some_iff.1 hx).1
    unfold leftAll at this
    simpa using this
  unfold leftAll at hx hy
  rw [s.items] at hy
  rw [List.getElem?_map, List.getElem?_range hi] at hx hy
  simp at hx hy
  subst hx; subst hy
  exact s.left i
theorem rk_two {s : Int} : rk s = 2 ↔ s = 1 := by unfold rk; split <;> (try split) <;> omega
theorem SaferP.one {u v : UseFile} {k d : Int} (s : SaferP u v k d) {i e : Int} (h0 : 0 ≤ e) (h1 : e ≤ 2000) (h : TM.safe v k i e = 1) : TM.safe u k i e = 1 := by
  have := s.safe i e h0 h1
  rw [rk_two.2 h] at this
  have := (rk_vals (TM.safe u k i e)).2
  exact rk_two.1 (by omega)
theorem SaferP.weak {u v : UseFile} {k d : Int} (s : SaferP u v k d) (hu : checkF u = 0) (hv : checkF v = 0) (i : Int) : ¬ (weak u k i ≥ 0 ∧ (weak v k i < 0 ∨ weak u k i < weak v k i)) := by
  rintro ⟨h1, h2⟩
  have hfr := s.frm
  have hf := (num_ok (check_num hu)).2.2.1
  rcases weak_spec hu k i with ⟨a1, _⟩ | ⟨a1, a2, a3, _⟩
  · omega
  · refine a3 (s.one (by omega) a2 ?_)
    rcases weak_spec hv k i with ⟨b1, b2⟩ | ⟨b1, b2, b3, b4⟩
    · exact b2 _ (by rw [s.frm]; exact a1) a2
    · exact b4 _ (by rw [s.frm]; exact a1) (by omega)
theorem c43 {h : LH} (hp : Parts h.get) {f g : FileC} {u v : UseFile} (hu : FileR h.get f u) (hv : FileR h.get g v) (cu : checkF u = 0) (cv : checkF v = 0) {k d : Int} (hk : 0 ≤ k ∧ k < u.lands) (hkv : 0 ≤ k ∧ k < v.lands) (hd : 0 ≤ d ∧ d ≤ 2000) (s : SaferP u v k d) :
    Gr Tryd.prog 37 #[fileV f u, fileV g v, .int .i64 k, .int .i64 d] h fun r _ => r = .bool true := by
  refine w43 _ _ _ _ _ _ _ _ _ _ _ _ _ _ _ _ _ _ _ _ _ _ _ _ _ _ _ _ X0_ok ?_
  unfold n43
  refine t_gr (c23 hp hu k d) ?_
  intro r1 h1 le1 hr1
  obtain ⟨p1, n1, k1, rfl, s1⟩ := hr1.form
  rw [leftQ_ok cu hk hd, if_pos rfl] at s1
  rw [leftQ_ok cu hk hd]
  (repeat (first | (with_reducible first | apply gA | apply gB | apply gC | apply gD | apply gE | apply gF | apply gG | apply gH | apply gI | apply gJ | apply gK | apply gL | apply gM | apply gN | apply gO | apply gP | apply gQ | apply gR) | ((with_reducible first | apply gT | apply gS2); first | exact rfl | assumption | omega | exact ⟨⟩) | ((with_reducible first | apply gL0 | apply gL1 | apply gL2 | apply gL3 | apply gL4); assumption)))
  refine t_gr (c23 (hp.le le1.1) (hv.le le1.1) k d) ?_
  intro r2 h2 le2 hr2
  obtain ⟨p2, n2, k2, rfl, s2⟩ := hr2.form
  rw [leftQ_ok cv hkv hd, if_pos rfl] at s2
  rw [leftQ_ok cv hkv hd]
  (repeat (first | (with_reducible first | apply gA | apply gB | apply gC | apply gD | apply gE | apply gF | apply gG | apply gH | apply gI | apply gJ | apply gK | apply gL | apply gM | apply gN | apply gO | apply gP | apply gQ | apply gR) | ((with_reducible first | apply gT | apply gS2); first | exact rfl | assumption | omega | exact ⟨⟩) | ((with_reducible first | apply gL0 | apply gL1 | apply gL2 | apply gL3 | apply gL4); assumption)))
  have le12 := LH.le_trans le1 le2
  refine t_blk (fun vs h' => vs = [.bool false] ∧ h2 = h') ?_ ?_
  · refine t_cond (fun e => absurd e (by simp)) (fun _ => ?_)
    refine t_cond (fun e => absurd e (by simp)) (fun _ => ?_)
    refine t_pu (c44 (s1.le IntE.grow le2.1) s2 s.noLess) ?_
    (repeat (first | (with_reducible first | apply gA | apply gB | apply gC | apply gD | apply gE | apply gF | apply gG | apply gH | apply gI | apply gJ | apply gK | apply gL | apply gM | apply gN | apply gO | apply gP | apply gQ | apply gR) | ((with_reducible first | apply gT | apply gS2); first | exact rfl | assumption | omega | exact ⟨⟩) | ((with_reducible first | apply gL0 | apply gL1 | apply gL2 | apply gL3 | apply gL4); assumption)))
    refine t_cond (fun e => absurd e (by simp)) (fun _ => ?_)
    exact t_again ⟨rfl, rfl⟩
  rintro vs _ ⟨rfl, rfl⟩
  have hit := (num_ok (check_num cu)).1
  (repeat (first | (with_reducible first | apply gA | apply gB | apply gC | apply gD | apply gE | apply gF | apply gG | apply gH | apply gI | apply gJ | apply gK | apply gL | apply gM | apply gN | apply gO | apply gP | apply gQ | apply gR) | ((with_reducible first | apply gT | apply gS2); first | exact rfl | assumption | omega | exact ⟨⟩) | ((with_reducible first | apply gL0 | apply gL1 | apply gL2 | apply gL3 | apply gL4); assumption)))
  refine t_loop (fun mm vs h' => h2.le h' ∧ ∃ i : Nat, vs = [.bool false, .int .i64 i] ∧ i ≤ u.items.toNat ∧ mm = u.items.toNat - i) ⟨LH.le_refl _, 0, rfl, Nat.zero_le _, rfl⟩ ?_
  rintro Y mm vs h3 hY ⟨le3, i, rfl, hi, rfl⟩
  have le13 := LH.le_trans le12 le3
  (repeat (first | (with_reducible first | apply gA | apply gB | apply gC | apply gD | apply gE | apply gF | apply gG | apply gH | apply gI | apply gJ | apply gK | apply gL | apply gM | apply gN | apply gO | apply gP | apply gQ | apply gR) | ((with_reducible first | apply gT | apply gS2); first | exact rfl | assumption | omega | exact ⟨⟩) | ((with_reducible first | apply gL0 | apply gL1 | apply gL2 | apply gL3 | apply gL4); assumption)))
  refine t_if (fun e1 => ?_) (fun e1 => ?_)
  · have hiu : 0 ≤ (i : Int) ∧ (i : Int) < u.items := ⟨by omega, by omega⟩
    have hiv : 0 ≤ (i : Int) ∧ (i : Int) < v.items := by rw [s.items]; exact hiu
    refine t_gr (c19 (hp.le le13.1) (hu.le le13.1) k i d) ?_
    rintro _ h4 le4 rfl
    rw [safeR_ok cu hk hiu hd]
    have le14 := LH.le_trans le13 le4
    (repeat (first | (with_reducible first | apply gA | apply gB | apply gC | apply gD | apply gE | apply gF | apply gG | apply gH | apply gI | apply gJ | apply gK | apply gL | apply gM | apply gN | apply gO | apply gP | apply gQ | apply gR) | ((with_reducible first | apply gT | apply gS2); first | exact rfl | assumption | omega | exact ⟨⟩) | ((with_reducible first | apply gL0 | apply gL1 | apply gL2 | apply gL3 | apply gL4); assumption)))
    refine t_gr (c19 (hp.le le14.1) (hv.le le14.1) k i d) ?_
    rintro _ h5 le5 rfl
    rw [safeR_ok cv hkv hiv hd]
    have le15 := LH.le_trans le14 le5
    (repeat (first | (with_reducible first | apply gA | apply gB | apply gC | apply gD | apply gE | apply gF | apply gG | apply gH | apply gI | apply gJ | apply gK | apply gL | apply gM | apply gN | apply gO | apply gP | apply gQ | apply gR) | ((with_reducible first | apply gT | apply gS2); first | exact rfl | assumption | omega | exact ⟨⟩) | ((with_reducible first | apply gL0 | apply gL1 | apply gL2 | apply gL3 | apply gL4); assumption)))
    refine t_gr (c21 (hp.le le15.1) (hu.le le15.1) k i) ?_
    rintro _ h6 le6 rfl
    rw [weakR_ok cu hk hiu]
    have le16 := LH.le_trans le15 le6
    (repeat (first | (with_reducible first | apply gA | apply gB | apply gC | apply gD | apply gE | apply gF | apply gG | apply gH | apply gI | apply gJ | apply gK | apply gL | apply gM | apply gN | apply gO | apply gP | apply gQ | apply gR) | ((with_reducible first | apply gT | apply gS2); first | exact rfl | assumption | omega | exact ⟨⟩) | ((with_reducible first | apply gL0 | apply gL1 | apply gL2 | apply gL3 | apply gL4); assumption)))
    refine t_gr (c21 (hp.le le16.1) (hv.le le16.1) k i) ?_
    rintro _ h7 le7 rfl
    rw [weakR_ok cv hkv hiv]
    have le17 := LH.le_trans le16 le7
    (repeat (first | (with_reducible first | apply gA | apply gB | apply gC | apply gD | apply gE | apply gF | apply gG | apply gH | apply gI | apply gJ | apply gK | apply gL | apply gM | apply gN | apply gO | apply gP | apply gQ | apply gR) | ((with_reducible first | apply gT | apply gS2); first | exact rfl | assumption | omega | exact ⟨⟩) | ((with_reducible first | apply gL0 | apply gL1 | apply gL2 | apply gL3 | apply gL4); assumption)))
    have hw := s.weak cu cv i
    refine t_cond (fun e => absurd e (by simp)) (fun _ => ?_)
    refine t_cond (fun e => absurd e (by simp)) (fun _ => ?_)
    refine t_cond (fun e => absurd e (by simp)) (fun _ => ?_)
    refine t_cond (fun e => absurd e (by simp)) (fun _ => ?_)
    have hsf := s.safe i d hd.1 hd.2
    refine t_pu (c45 _ _) ?_
    rw [decide_eq_false (by omega : ¬ rk (safe u k i d) < rk (safe v k i d))]
    (repeat (first | (with_reducible first | apply gA | apply gB | apply gC | apply gD | apply gE | apply gF | apply gG | apply gH | apply gI | apply gJ | apply gK | apply gL | apply gM | apply gN | apply gO | apply gP | apply gQ | apply gR) | ((with_reducible first | apply gT | apply gS2); first | exact rfl | assumption | omega | exact ⟨⟩) | ((with_reducible first | apply gL0 | apply gL1 | apply gL2 | apply gL3 | apply gL4); assumption)))
    refine t_cond (fun e => by cases e) (fun _ => ?_)
    have next : Y [.bool false, .int .i64 (IntKind.wrap .i64 ((i : Int) + 1))] h7 := by
      refine hY (u.items.toNat - (i + 1)) _ _ (by omega) ⟨LH.le_trans (LH.le_trans (LH.le_trans (LH.le_trans le3 le4) le5) le6) le7, i + 1, ?_, by omega, rfl⟩
      rw [wrap_id (by omega) (by omega)]; rfl
    refine t_if (fun e2 => ?_) (fun _ => t_again next)
    refine t_if (fun e3 => absurd ⟨e2, .inl e3⟩ hw) (fun _ => ?_)
    refine t_if (fun e3 => absurd ⟨e2, .inr e3⟩ hw) (fun _ => t_again next)
  · (repeat (first | (with_reducible first | apply gA | apply gB | apply gC | apply gD | apply gE | apply gF | apply gG | apply gH | apply gI | apply gJ | apply gK | apply gL | apply gM | apply gN | apply gO | apply gP | apply gQ | apply gR) | ((with_reducible first | apply gT | apply gS2); first | exact rfl | assumption | omega | exact ⟨⟩) | ((with_reducible first | apply gL0 | apply gL1 | apply gL2 | apply gL3 | apply gL4); assumption)))
    exact t_ret ⟨le13, rfl⟩
end Go.Proofs.YtopkdkedjkidhaaDoor
end
section
namespace Go.Proofs.YtopkdkedjkidhaaDoor
open Go Go.TM Go.Proofs
attribute [local irreducible] T.wp CV FWK
def PaperB (h0 : Cells) (h : Cells) (a : Addr) (x : Paper) : Prop := ∃ q m c, (∀ (j : Nat) w, [Value.int .i64 x.days.first, .int .i64 x.days.last, .int .i64 x.land, .slice q m c][j]? = some w → h.cell? (a.add j) = some w) ∧ Sl IntE 1 h0 q m x.items
theorem paperTold {h0 h : Cells} : ToldE (PaperB h0) (PaperEnc h0) 4 h := by
  rintro a x ⟨q, m, c, h1, h2⟩
  exact ⟨_, ⟨q, m, c, rfl, h2⟩, rfl, h1, fun w hw => by simp at hw; rcases hw with rfl | rfl | rfl | rfl <;> rfl⟩
theorem PaperB.of {h0 h : Cells} (hr : Rd h0 h) {p : Option Addr} {n : Nat} {l : List Paper} (s : Sl PaperE 4 h0 p n l) : Sl (PaperB h0) 4 h p n l := by
  refine ⟨s.1, s.2.1, fun i x hx => ?_⟩
  obtain ⟨a, ha, h1, h2, h3, q, m, c, h4, h5⟩ := s.2.2 i x hx
  refine ⟨a, ha, q, m, c, fun j w hj => ?_, h5⟩
  match j, hj with
  | 0, hj => cases hj; exact hr _ _ h1
  | 1, hj => cases hj; exact hr _ _ h2
  | 2, hj => cases hj; exact hr _ _ h3
  | 3, hj => cases hj; exact hr _ _ h4
  | j + 4, hj => simp at hj
theorem row_stands {h h' : Cells} {r : Nat} {cs : Array Value} {el : TypeId} {ws : List Value} (hr : h r = some (true, .cells cs el (0, 0))) (hc : ∀ (j : Nat) w, ws[j]? = some w → cs[j]? = some w) (hk : h' r = h r) (j : Nat) (w : Value) (hj : ws[j]? = some w) : h'.cell? ((⟨r, 0, none⟩ : Addr).add j) = some w := by
  rw [add_plain, Nat.zero_add]
  unfold Cells.cell?
  rw [hk, hr]
  exact hc j w hj
section
variable {X : XP} {Q : Leaf → LH → Prop}
theorem copy_end1 {α : Type} {Enc : α → List Value → Prop} {h h₁ : LH} {K : Value → T} {tS el : TypeId} {s by_ : Nat} {z : Value} {p : Option Addr} {n c : Nat} {l : List α} {x : α} {ws : List Value} {r : Nat} {cs : Array Value} (hu : Tryd.prog.underlying tS = some (.slice el)) (hi : (Tryd.prog.info? el).map (fun i => (i.size, i.bytes, i.zero)) = some (s, by_, some z)) (hsz : z.cells.size = s) (hb : by_ ≤ 1024) (hn : n + 1 ≤ 2 ^ 30)
    (g : Growing Enc el s h.get h₁.get p n c l) (hle : h.le h₁) (he : Enc x ws) (hl : ws.length = s) (one : ∀ v ∈ ws, isOne v = true) (hr : h₁.get r = some (true, .cells cs el (0, 0))) (hc : ∀ (j : Nat) w, ws[j]? = some w → cs[j]? = some w)
    (hk : ∀ p' c' h', h.le h' → Growing Enc el s h.get h'.get p' (n + 1) c' (l ++ [x]) → (K (.slice p' (n + 1) c')).wp X Tryd.prog Q h') : (T.sem false (Builtin.append_ #[tS, tS] tS #[.slice p n c, .slice (some ⟨r, 0, none⟩) 1 1]) K).wp X Tryd.prog Q h₁ :=
  t_grow (h₀ := h) (x := x) (ws := ws) rfl rfl hu hu hi hsz hb hn g hle he hl (fun j v hj => row_stands hr hc rfl j v hj) one fun p' c' h' a _ b => hk p' c' h' a b
end
end Go.Proofs.YtopkdkedjkidhaaDoor
end
section
namespace Go.TM
open Go Go.Conc
section
variable {P : Program} {X : XP} {Q : Leaf → LH → Prop}
theorem t_sliceLow {h : LH} {K : Value → T} {t el : TypeId} {s b : Nat} {z : Option Value} {p : Option Addr} {n c i : Nat} (hu : P.underlying t = some (.slice el)) (hi : (P.info? el).map (fun i => (i.size, i.bytes, i.zero)) = some (s, b, z)) (hin : i ≤ n)
    (hk : (K (.slice (if c = i then p else p.map (·.add (i * s))) (n - i) (c - i))).wp X P Q h) : (T.sem false (Instr.sliceAt t (.slice p n c) (some (.int .i64 (i : Int))) none none) K).wp X P Q h := by
  obtain ⟨inf, g1, g2, _, _⟩ := info_of hi
  refine t_sem (A := fun v h' => v = .slice (if c = i then p else p.map (·.add (i * s))) (n - i) (c - i) ∧ h' = h.get) ?_ (by rintro v h' ⟨rfl, rfl⟩; exact hk)
  unfold Instr.sliceAt
  simp only [lwp_bind, lwp_underlying hu]
  unfold Instr.slice
  simp only [lwp_bind, lwp_underlying hu]
  unfold Instr.sliceBounds Instr.sliceBound
  simp only [lwp_bind, lwp_pure, asIntOf, asInt]
  rw [if_pos (show 0 ≤ (i : Int) ∧ (i : Int) ≤ (n : Int) by omega)]
  simp only [lwp_pure, lwp_sizeOf g1, Int.toNat_natCast, g2]
  exact ⟨trivial, trivial⟩
end
theorem Sl.drop {α : Type} {E : Cells → Addr → α → Prop} {k : Nat} {h : Cells} {p : Option Addr} {n : Nat} {l : List α} (s : Sl E k h p n l) {c i : Nat} (hc : n ≤ c) : Sl E k h (if c = i then p else p.map (·.add (i * k))) (n - i) (l.drop i) := by
  refine ⟨by rw [List.length_drop, s.1], by rw [List.length_drop]; have := s.2.1; omega, fun j x hx => ?_⟩
  rw [List.getElem?_drop] at hx
  have hlt := (List.getElem?_eq_some_iff.1 hx).1
  have hn := s.1
  obtain ⟨a, ha, hE⟩ := s.2.2 _ x hx
  rw [if_neg (by omega), ha]
  refine ⟨a.add (i * k), rfl, ?_⟩
  rw [Addr.add_add', ← Nat.add_mul]; exact hE
section
variable {P : Program} {X : XP} {Q : Leaf → LH → Prop}
end
end Go.TM
end
section
namespace Go.Proofs.YtopkdkedjkidhaaDoor
open Go Go.TM Go.Proofs
attribute [local irreducible] T.wp CV FWK
theorem t_sliceHigh {P : Program} {X : XP} {Q : Leaf → LH → Prop} {h : LH} {K : Value → T} {t el : TypeId} {s b : Nat} {z : Option Value} {p : Option Addr} {n c i : Nat} (hu : P.underlying t = some (.slice el)) (hi : (P.info? el).map (fun i => (i.size, i.bytes, i.zero)) = some (s, b, z)) (hin : i ≤ c)
    (hk : (K (.slice p i c)).wp X P Q h) : (T.sem false (Instr.sliceAt t (.slice p n c) none (some (.int .i64 (i : Int))) none) K).wp X P Q h := by
  obtain ⟨inf, g1, g2, _, _⟩ := info_of hi
  refine t_sem (A := fun v h' => v = .slice p i c ∧ h' = h.get) ?_ (by rintro v h' ⟨rfl, rfl⟩; exact hk)
  unfold Instr.sliceAt
  simp only [lwp_bind, lwp_underlying hu]
  unfold Instr.slice
  simp only [lwp_bind, lwp_underlying hu]
  unfold Instr.sliceBounds Instr.sliceBound
  simp only [lwp_bind, lwp_pure, asIntOf]
  rw [if_pos (show 0 ≤ (i : Int) ∧ (i : Int) ≤ (c : Int) by omega)]
  simp only [lwp_pure, lwp_sizeOf g1, Int.toNat_natCast, g2, Nat.zero_mul, Nat.sub_zero]
  have e : (p.map fun x : Addr => x.add 0) = p := by cases p <;> simp [Addr.add]
  rw [e]
  simp
theorem slTake {α : Type} {E : Cells → Addr → α → Prop} {k : Nat} {h : Cells} {p : Option Addr} {n : Nat} {l : List α} (s : Sl E k h p n l) {i : Nat} (hi : i ≤ n) : Sl E k h p i (l.take i) := by
  have hn := s.1
  refine ⟨by rw [List.length_take]; omega, by rw [List.length_take]; have := s.2.1; omega, fun j x hx => ?_⟩
  rw [List.getElem?_take] at hx
  split at hx
  · exact s.2.2 j x hx
  · cases hx
end Go.Proofs.YtopkdkedjkidhaaDoor
end
section
namespace Go.TM
open Go
def PaperC (h : Cells) (a : Addr) (x : Paper) : Prop := h.cell? (a.add 0) = some (.int .i64 x.days.first) ∧ h.cell? (a.add 1) = some (.int .i64 x.days.last) ∧ h.cell? (a.add 2) = some (.int .i64 x.land) ∧ ∃ q m c, h.cell? (a.add 3) = some (.slice q m c) ∧ m ≤ c ∧ Sl IntE 1 h q m x.items
theorem PaperC.sl {h : Cells} {p : Option Addr} {n : Nat} {l : List Paper} (s : Sl PaperC 4 h p n l) : Sl PaperE 4 h p n l :=
  ⟨s.1, s.2.1, fun i x hx => by
    obtain ⟨a, ha, h1, h2, h3, q, m, c, h4, _, h5⟩ := s.2.2 i x hx
    exact ⟨a, ha, h1, h2, h3, q, m, c, h4, h5⟩⟩
def Room (h : Cells) (f : FileC) (u : UseFile) : Prop := f.n5 ≤ f.c5 ∧ Sl PaperC 4 h f.p5 f.n5 u.papers
section
variable {H : Type} {enc : TypeId × Value → H} {P : Program} {W : World} {base : Nat} {sp : Nat → Bool} {held : Bool} {fuel : Nat} {t : TypeId} {cs : List Value} {x : DataW H × List MemPlace}
theorem sl_of_trodR {α : Type} {E : Cells → Addr → α → Prop} {e : TypeId} {k : Nat} (ht : P.underlying t = some (.slice e)) (hk : P.cellsOf e = k) (hbt : 0 < P.bytesOf e) (hz : Light P t x.1)
    (hE : ∀ (n : Nat) (a : Addr) cs y, cs.length = k → (∀ (i : Nat) v, cs[i]? = some v → (getW W).cell? (a.add i) = some v) → DataW.trod enc P W base sp held n e cs = some y → Light P e y.1 → ∃ z, E (getW W) a z)
    (h : DataW.trod enc P W base sp held fuel t cs = some x) : ∃ p n c l, cs = [.slice p n c] ∧ n ≤ c ∧ Sl E k (getW W) p n l := by
  rcases DataW.trod_slice ht h with ⟨rfl, _⟩ | ⟨a, len, cap, elems, rest, n, _, rfl, rfl, _, hl, hm, hlen, hel, _⟩
  · exact ⟨none, 0, 0, [], rfl, Nat.le_refl _, Sl.nil⟩
  · have hbig : len < 4611686018427387904 := by
      have := hz ((elems.length + rest.length) * P.bytesOf e) (by simp [DataW.weights, ht])
      have h2 : elems.length ≤ (elems.length + rest.length) * P.bytesOf e := Nat.le_trans (Nat.le_add_right _ _) (Nat.le_mul_of_pos_right _ hbt)
      simp only [reachBytes] at this
      omega
    have key : ∀ i : Fin len, ∃ z, E (getW W) (a.add (i.1 * k)) z := by
      rintro ⟨i, hi⟩
      have h1 := hel i hi
      rw [List.getElem?_eq_getElem (by omega : i < elems.length)] at h1
      obtain ⟨cs', hc, hy⟩ := Option.bind_eq_some_iff.1 h1
      obtain ⟨c1, c2⟩ := cells_at hc
      rw [hk] at c1 c2
      refine hE _ _ _ _ c1 c2 hy fun k hk' => hz k ?_
      simp only [DataW.weights, ht, List.mem_cons, List.mem_append]
      exact .inr (.inl (weightsAll_mem (List.mem_map.2 ⟨_, List.getElem_mem _, rfl⟩) k hk'))
    have hch := Classical.axiomOfChoice key
    obtain ⟨g, hg⟩ := hch
    refine ⟨some a, len, cap, List.ofFn g, rfl, hl, by simp, ?_, fun i z hz => ⟨a, rfl, ?_⟩⟩
    · simpa using hbig
    · rw [List.getElem?_ofFn] at hz
      split at hz
      · rename_i hi; cases hz; exact hg ⟨i, hi⟩
      · cases hz
variable {tI tIs tSpan tSpans tPaper tPapers tReq tReqs tFile : TypeId}
theorem ints_of_trodR (T : UseTy P tI tIs tSpan tSpans tPaper tPapers tReq tReqs tFile) (hz : Light P tIs x.1) (h : DataW.trod enc P W base sp held fuel tIs cs = some x) :
    ∃ p n c l, cs = [.slice p n c] ∧ n ≤ c ∧ Sl IntE 1 (getW W) p n l := by
  refine sl_of_trodR T.ints T.int1 T.bytes.1 hz ?_ h
  intro n a cs y _ hc hy _
  obtain ⟨z, rfl, _, _⟩ := DataW.trod_int T.int hy
  exact ⟨z, hc 0 _ rfl⟩
theorem papers_of_trodR (T : UseTy P tI tIs tSpan tSpans tPaper tPapers tReq tReqs tFile) (hz : Light P tPapers x.1) (h : DataW.trod enc P W base sp held fuel tPapers cs = some x) :
    ∃ p n c l, cs = [.slice p n c] ∧ n ≤ c ∧ Sl PaperC 4 (getW W) p n l := by
  refine sl_of_trodR T.papers T.paper4 T.bytes.2.2.1 hz ?_ h
  intro n a cs y hl hc hy hz
  obtain ⟨_, m, hf⟩ := field_of T.paper hz hy
  match cs, hl with
  | [c0, c1, c2, c3], _ =>
    obtain ⟨y0, h0, zh0⟩ := hf 0 tSpan 0 rfl
    obtain ⟨y2, h2, zh2⟩ := hf 1 tI 2 rfl
    obtain ⟨y3, h3, zh3⟩ := hf 2 tIs 3 rfl
    rw [T.span2] at h0; rw [T.int1] at h2; rw [T.ints1] at h3
    obtain ⟨u, v, e0⟩ := span_cells T zh0 h0
    obtain ⟨b, e2, _, _⟩ := DataW.trod_int T.int h2
    obtain ⟨p, k, c, l, e3, hk, s⟩ := ints_of_trodR T zh3 h3
    simp at e0 e2 e3
    obtain ⟨rfl, rfl⟩ := e0
    subst e2; subst e3
    exact ⟨⟨⟨u, v⟩, b, l⟩, hc 0 _ rfl, hc 1 _ rfl, hc 2 _ rfl, p, k, c, hc 3 _ rfl, hk, s⟩
theorem file_of_trodR (T : UseTy P tI tIs tSpan tSpans tPaper tPapers tReq tReqs tFile) (hz : Light P tFile x.1) (h : DataW.trod enc P W base sp held fuel tFile cs = some x) :
    ∃ f u, cs = [.int .i64 u.items, .int .i64 u.lands, .int .i64 u.from_, .int .i64 u.idle, .slice f.p4 f.n4 f.c4, .slice f.p5 f.n5 f.c5, .slice f.p6 f.n6 f.c6] ∧ FileR (getW W) f u ∧ Room (getW W) f u := by
  obtain ⟨hl, m, hf⟩ := field_of T.file hz h
  rw [T.file7] at hl
  match cs, hl with
  | [c0, c1, c2, c3, c4, c5, c6], _ =>
    obtain ⟨y0, h0, zh0⟩ := hf 0 tI 0 rfl
    obtain ⟨y1, h1, zh1⟩ := hf 1 tI 1 rfl
    obtain ⟨y2, h2, zh2⟩ := hf 2 tI 2 rfl
    obtain ⟨y3, h3, zh3⟩ := hf 3 tI 3 rfl
    obtain ⟨y4, h4, zh4⟩ := hf 4 tSpans 4 rfl
    obtain ⟨y5, h5, zh5⟩ := hf 5 tPapers 5 rfl
    obtain ⟨y6, h6, zh6⟩ := hf 6 tReqs 6 rfl
    rw [T.int1] at h0 h1 h2 h3; rw [T.spans1] at h4; rw [T.papers1] at h5; rw [T.reqs1] at h6
    obtain ⟨a0, e0, _, _⟩ := DataW.trod_int T.int h0
    obtain ⟨a1, e1, _, _⟩ := DataW.trod_int T.int h1
    obtain ⟨a2, e2, _, _⟩ := DataW.trod_int T.int h2
    obtain ⟨a3, e3, _, _⟩ := DataW.trod_int T.int h3
    obtain ⟨p4, n4, k4, l4, e4, s4⟩ := spans_of_trod T zh4 h4
    obtain ⟨p5, n5, k5, l5, e5, r5, s5⟩ := papers_of_trodR T zh5 h5
    obtain ⟨p6, n6, k6, l6, e6, s6⟩ := reqs_of_trod T zh6 h6
    simp at e0 e1 e2 e3 e4 e5 e6
    subst e0; subst e1; subst e2; subst e3; subst e4; subst e5; subst e6
    exact ⟨⟨p4, n4, k4, p5, n5, k5, p6, n6, k6⟩, ⟨a0, a1, a2, a3, l4, l5, l6⟩, rfl, ⟨s4, PaperC.sl s5, s6⟩, r5, s5⟩
theorem file_argR (T : UseTy P tI tIs tSpan tSpans tPaper tPapers tReq tReqs tFile) {r : Reach} {b0 : Nat} {v : Value} {d : DataW H} {ps : List MemPlace}
    (hv : Value.okWide P W r b0 tFile v) (hz : Light P tFile d) (h : DataW.Trod enc P W base sp held tFile v d ps) : ∃ f u, v = fileV f u ∧ FileR (getW W) f u ∧ Room (getW W) f u := by
  obtain ⟨fs, hu, _⟩ := T.file
  obtain ⟨cs, rfl, _⟩ := WideShapes.okWide_struct hu hv
  obtain ⟨fuel, hf⟩ := h
  obtain ⟨f, u, e, hr⟩ := file_of_trodR T hz hf
  refine ⟨f, u, ?_, hr⟩
  have e' : cs.toList = _ := e
  unfold fileV
  congr 1
  apply Array.ext'
  exact e'
end
end Go.TM
end
section
namespace Go.TM
open Go
theorem eachF_of {α : Type} {most : Int} {f : Nat → α → Int} {l : List α} (h1 : (l.length : Int) ≤ most) (h2 : ∀ (j : Nat) x, l[j]? = some x → f j x = 0) : eachF most f l = 0 := by
  unfold eachF
  rw [if_neg (by omega)]
  have key : ∀ (l : List α) (i : Nat), (∀ (j : Nat) x, l[j]? = some x → f (i + j) x = 0) → firstF f i l = 0 := by
    intro l
    induction l with
    | nil => intro i _; rfl
    | cons y l ih =>
      intro i h
      rw [firstF, if_neg (by have := h 0 y rfl; simp at this; simp [this])]
      refine ih (i + 1) fun j x hx => ?_
      have := h (j + 1) x (by simpa using hx)
      rw [show i + 1 + j = i + (j + 1) by omega]; exact this
  exact key l 0 fun j x hx => by rw [Nat.zero_add]; exact h2 j x hx
theorem check_withP {u : UseFile} (h : checkF u = 0) {ps : List Paper} (h1 : ps.length ≤ 8) (h2 : ∀ p ∈ ps, paperF u p = 0) : checkF { u with papers := ps } = 0 := by
  obtain ⟨a, b, _, d⟩ := check_parts h
  have hp : papersF { u with papers := ps } = 0 := by
    unfold papersF
    exact eachF_of (by show ((ps.length : Nat) : Int) ≤ 8; omega) fun j x hx => h2 x (List.mem_of_getElem? hx)
  have ha : numbersF { u with papers := ps } = 0 := a
  have hb : excusesF { u with papers := ps } = 0 := b
  have hd : requestsF { u with papers := ps } = 0 := d
  unfold checkF
  rw [ha, hb, hp, hd]
  rfl
theorem check_paper {u : UseFile} (h : checkF u = 0) : ∀ p ∈ u.papers, paperF u p = 0 := by
  obtain ⟨_, h2⟩ := eachF_zero (check_parts h).2.2.1
  intro p hp
  obtain ⟨j, hj⟩ := List.mem_iff_getElem?.1 hp
  exact h2 j p hj
end Go.TM
end
section
namespace Go.TM
open Go
structure MoreD (u o : UseFile) (k i : Int) : Prop where
  frm : o.from_ = u.from_
  win : ∀ d, 0 ≤ d → (window o d).first ≤ (window u d).first
  sub : ∀ p ∈ shown u k i, ∃ q ∈ shown o k i, q.days = p.days
  ch : ∀ ds, Choice (shown u k i) ds → ∃ ds', Choice (shown o k i) ds' ∧ ∀ d ∈ ds, d ∈ ds'
theorem MoreD.inW {u o : UseFile} {k i : Int} (m : MoreD u o k i) {d x : Int} (hd : 0 ≤ d) (h : InW u d x) : InW o d x := by
  have := m.win d hd
  unfold InW at *; omega
theorem MoreD.safe {u o : UseFile} {k i : Int} (m : MoreD u o k i) (vu : Valid u) (vo : Valid o) {d : Int} (hd : 0 ≤ d) : rk (safe u k i d) ≤ rk (safe o k i d) := by
  have ho := safe_vals o k i d
  have key1 : TM.safe u k i d = 1 → TM.safe o k i d = 1 := by
    rw [safe_one_iff hd vu.1, safe_one_iff hd vo.1]
    rintro (h | ⟨p, hp, h1, h2⟩)
    · exact .inl (by rw [m.frm]; exact m.inW hd h)
    · have := m.win d hd
      obtain ⟨q, hq, e⟩ := m.sub p hp
      exact .inr ⟨q, hq, by rw [e]; omega, by rw [e]; exact h2⟩
  have key2 : TM.safe o k i d = 2 → TM.safe u k i d = 2 := by
    rw [safe_two_iff hd vu.1 vu.sh, safe_two_iff hd vo.1 vo.sh]
    rintro ⟨h1, h2⟩
    refine ⟨fun h => h1 (by rw [m.frm]; exact m.inW hd h), fun p hp hm => ?_⟩
    obtain ⟨q, hq, e⟩ := m.sub p hp
    refine h2 q hq ?_
    rw [e]
    have := m.win d hd
    omega
  rcases safe_vals u k i d with e | e | e
  · rcases ho with e' | e' | e'
    · rw [e, e']; exact Int.le_refl _
    · rw [e, e']; decide
    · rw [key2 e'] at e; omega
  · rw [e, key1 e]; exact Int.le_refl _
  · rw [e]; have := rk_vals (TM.safe o k i d); simp [rk]; exact this.1
theorem MoreD.left {u o : UseFile} {k i : Int} (m : MoreD u o k i) (vu : Valid u) (vo : Valid o) (hr : o.requests = u.requests) (d : Int) : rk (left u k i d) ≤ rk (left o k i d) := by
  have hag : against o k i d = against u k i d := by unfold against; rw [hr]
  have hmem : ∀ r ∈ against u k i d, 0 ≤ r.day ∧ r.day ≤ 2000 := fun r h => vu.2.2 r (List.mem_filter.1 h).1
  refine rk_le (left_vals _ _ _ _) (left_vals _ _ _ _) ?_ ?_
  · rw [left_one_iff, left_one_iff, hag]
    intro h r hr'
    have := m.safe vu vo (hmem r hr').1
    rw [h r hr'] at this
    rcases safe_vals o k i r.day with e | e | e
    · rw [e] at this; exact absurd this (by decide)
    · exact e
    · rw [e] at this; exact absurd this (by decide)
  · intro h
    obtain ⟨h1, h2⟩ := left_two_iff.1 h
    rw [hag] at h2
    have hnc : can u k i (against u k i d) = false := by
      cases hc : can u k i (against u k i d) with
      | false => rfl
      | true =>
        obtain ⟨ds, c1, c2⟩ := can_iff.1 hc
        obtain ⟨ds', c3, c4⟩ := m.ch ds c1
        rw [can_iff.2 ⟨ds', c3, fun r hr' => ?_⟩] at h2
        · cases h2
        rcases c2 r hr' with hh | ⟨x, hx, hh⟩
        · exact .inl (by rw [m.frm]; exact m.inW (hmem r hr').1 hh)
        · exact .inr ⟨x, c4 x hx, m.inW (hmem r hr').1 hh⟩
    refine left_two_iff.2 ⟨fun h3 => ?_, hnc⟩
    rw [can_of_safe vu (fun r hr' => (hmem r hr').1) (left_one_iff.1 h3)] at hnc; cases hnc
def ChoiceD : List Span → List Int → Prop
  | [], [] => True
  | x :: xs, d :: ds => (x.first ≤ d ∧ d ≤ x.last) ∧ ChoiceD xs ds
  | _, _ => False
theorem choice_iff : ∀ {ps : List Paper} {ds : List Int}, Choice ps ds ↔ ChoiceD (ps.map (·.days)) ds
  | [], [] => Iff.rfl
  | [], _ :: _ => Iff.rfl
  | _ :: _, [] => Iff.rfl
  | p :: ps, d :: ds => by
    show (_ ∧ Choice ps ds) ↔ (_ ∧ ChoiceD _ ds)
    rw [choice_iff]
theorem choice_perm {xs ys : List Span} (h : xs.Perm ys) : ∀ ds, ChoiceD xs ds → ∃ ds', ChoiceD ys ds' ∧ ∀ d ∈ ds, d ∈ ds' := by
  induction h with
  | nil => intro ds hc; exact ⟨ds, hc, fun d hd => hd⟩
  | @cons x l₁ l₂ h ih =>
    intro ds hc
    cases ds with
    | nil => exact hc.elim
    | cons e ds =>
      obtain ⟨ds', h1, h2⟩ := ih ds hc.2
      refine ⟨e :: ds', ⟨hc.1, h1⟩, fun d hd => ?_⟩
      rcases List.mem_cons.1 hd with rfl | hd
      · simp
      · exact List.mem_cons_of_mem _ (h2 d hd)
  | @swap x y l =>
    intro ds hc
    match ds, hc with
    | a :: b :: ds, hc => exact ⟨b :: a :: ds, ⟨hc.2.1, hc.1, hc.2.2⟩, fun d hd => by simp only [List.mem_cons] at hd ⊢; rcases hd with h | h | h <;> simp [h]⟩
  | trans _ _ ih1 ih2 =>
    intro ds hc
    obtain ⟨d1, h1, h2⟩ := ih1 ds hc
    obtain ⟨d2, h3, h4⟩ := ih2 d1 h1
    exact ⟨d2, h3, fun d hd => h4 d (h2 d hd)⟩
theorem moreD_perm {u : UseFile} {ps : List Paper} {k i : Int} (h : (((u.papers).filter (showsB k i)).map (·.days)).Perm ((ps.filter (showsB k i)).map (·.days))) : MoreD u { u with papers := ps } k i ∧ MoreD { u with papers := ps } u k i := by
  have key : ∀ {l m : List Paper}, (l.map (·.days)).Perm (m.map (·.days)) → (∀ p ∈ l, ∃ q ∈ m, q.days = p.days) ∧ ∀ ds, Choice l ds → ∃ ds', Choice m ds' ∧ ∀ d ∈ ds, d ∈ ds' := by
    intro l m h
    refine ⟨fun p hp => ?_, fun ds hc => ?_⟩
    · obtain ⟨q, hq, e⟩ := List.mem_map.1 (h.subset (List.mem_map.2 ⟨p, hp, rfl⟩))
      exact ⟨q, hq, e⟩
    · obtain ⟨ds', h1, h2⟩ := choice_perm h ds (choice_iff.1 hc)
      exact ⟨ds', choice_iff.2 h1, h2⟩
  exact ⟨⟨rfl, fun d _ => Int.le_refl _, (key h).1, (key h).2⟩, ⟨rfl, fun d _ => Int.le_refl _, (key h.symm).1, (key h.symm).2⟩⟩
def splitPa (p : Paper) : List Paper := p.items.map fun v => { p with items := [v] }
theorem split_days {p : Paper} (hn : p.items.Nodup) (k i : Int) : ((splitPa p).filter (showsB k i)).map (·.days) = if showsB k i p then [p.days] else [] := by
  have hone : ∀ v, showsB k i { p with items := [v] } = ((p.land == k) && (i == v)) := by
    intro v; simp only [showsB, List.contains_cons, List.contains_nil, Bool.or_false]
  unfold splitPa
  by_cases hl : (p.land == k) = true
  · have key : ∀ l : List Int, l.Nodup → ((l.map fun v => ({ p with items := [v] } : Paper)).filter (showsB k i)).map (·.days) = if l.contains i then [p.days] else [] := by
      intro l
      induction l with
      | nil => intro _; rfl
      | cons v l ih =>
        intro hn
        obtain ⟨h1, h2⟩ := List.nodup_cons.1 hn
        rw [List.map_cons, List.filter_cons, hone, hl, Bool.true_and]
        by_cases e : i = v
        · subst e
          have hno : l.contains i = false := by simpa using h1
          rw [if_pos (by simp), List.map_cons, ih h2, hno]
          simp
        · rw [if_neg (by simpa using e), ih h2]
          simp [e]
    rw [key _ hn]
    simp [showsB, hl]
  · have hl' : (p.land == k) = false := by simpa using hl
    have hnone : (p.items.map fun v => ({ p with items := [v] } : Paper)).filter (showsB k i) = [] := by
      rw [List.filter_eq_nil_iff]
      intro q hq
      obtain ⟨v, _, rfl⟩ := List.mem_map.1 hq
      rw [hone, hl']; simp
    rw [hnone]
    simp [showsB, hl']
theorem split_perm {u : UseFile} {n : Nat} {p : Paper} (hp : u.papers[n]? = some p) (hn : p.items.Nodup) (k i : Int) : ((u.papers.filter (showsB k i)).map (·.days)).Perm (((u.papers.take n ++ u.papers.drop (n + 1) ++ splitPa p).filter (showsB k i)).map (·.days)) := by
  have h1 : u.papers = u.papers.take n ++ p :: u.papers.drop (n + 1) := by
    have := (List.take_append_drop n u.papers).symm
    rw [drop_of hp] at this
    exact this
  have h2 : ((splitPa p).filter (showsB k i)).map (·.days) = (([p].filter (showsB k i)).map (·.days)) := by
    rw [split_days hn]
    cases hs : showsB k i p <;> simp [hs]
  have h3 : u.papers.Perm (u.papers.take n ++ u.papers.drop (n + 1) ++ [p]) := by
    conv => lhs; rw [h1]
    refine (List.perm_middle).trans ?_
    exact (List.perm_append_singleton p _).symm
  have h4 := (h3.filter (showsB k i)).map (·.days)
  rw [List.filter_append, List.map_append] at h4 ⊢
  rw [h2]
  exact h4
end Go.TM
end
section
namespace Go.TM
open Go
theorem rises_sorted {l : List Int} {b : Int} (h : risesF l b = 0) : l.Pairwise (· < ·) := by
  have h' := firstF_zero' h
  have step : ∀ i (hi : i + 1 < l.length), l[i]'(by omega) < l[i + 1] := by
    intro i hi
    have := h' (i + 1) l[i + 1] (List.getElem?_eq_getElem hi)
    unfold riseF at this
    split at this
    · cases this
    · split at this
      · cases this
      · rename_i h3
        have e : l.getD (0 + (i + 1) - 1) 0 = l[i]'(by omega) := by
          rw [show 0 + (i + 1) - 1 = i by omega]
          simp [List.getD, List.getElem?_eq_getElem (show i < l.length by omega)]
        rw [e] at h3
        apply Int.not_le.1
        exact fun hh => h3 ⟨by omega, hh⟩
  rw [List.pairwise_iff_getElem]
  intro i j hi hj hij
  induction j with
  | zero => omega
  | succ j ih =>
    have h1 := step j hj
    by_cases e : i = j
    · subst e; exact h1
    · have := ih (by omega) (by omega)
      omega
theorem rises_mem {l : List Int} {b : Int} (h : risesF l b = 0) {v : Int} (hv : v ∈ l) : 0 ≤ v ∧ v < b := by
  obtain ⟨n, hn⟩ := List.mem_iff_getElem?.1 hv
  have h3 := firstF_zero' h n v hn
  unfold riseF at h3
  split at h3
  · cases h3
  · rename_i h4
    simp [isIn] at h4
    omega
theorem sorted_len {l : List Int} {b : Int} (h : risesF l b = 0) : ∀ i (hi : i < l.length), (i : Int) ≤ l[i] ∧ l[i] < b := by
  have hs := rises_sorted h
  intro i
  induction i with
  | zero => intro hi; have := rises_mem h (List.getElem_mem hi); omega
  | succ i ih =>
    intro hi
    have h1 := ih (by omega)
    have h2 := List.pairwise_iff_getElem.1 hs i (i + 1) (by omega) hi (by omega)
    have h3 := rises_mem h (List.getElem_mem hi)
    omega
theorem paper_parts {u : UseFile} {p : Paper} (h : paperF u p = 0) : isSpan p.days = true ∧ isIn p.land 0 (u.lands - 1) = true ∧ risesF p.items u.items = 0 := by
  unfold paperF at h
  split at h
  · cases h
  · rename_i h1
    split at h
    · cases h
    · rename_i h2
      exact ⟨by simpa using h1, by simpa using h2, h⟩
theorem paper_nodup {u : UseFile} (hck : checkF u = 0) {p : Paper} (hp : p ∈ u.papers) : p.items.Nodup :=
  (rises_sorted (paper_parts (check_paper hck p hp)).2.2).imp fun h e => by omega
def partsOf (u : UseFile) (n : Nat) (p : Paper) : List Paper := u.papers.take n ++ u.papers.drop (n + 1) ++ splitPa p
theorem check_parted {u : UseFile} (hck : checkF u = 0) {n : Nat} {p : Paper} (hp : u.papers[n]? = some p) (h8 : (partsOf u n p).length ≤ 8) : checkF { u with papers := partsOf u n p } = 0 := by
  refine check_withP hck h8 fun q hq => ?_
  unfold partsOf at hq
  rcases List.mem_append.1 hq with hq | hq
  · rcases List.mem_append.1 hq with hq | hq
    · exact check_paper hck q (List.mem_of_mem_take hq)
    · exact check_paper hck q (List.mem_of_mem_drop hq)
  · unfold splitPa at hq
    obtain ⟨v, hv, rfl⟩ := List.mem_map.1 hq
    obtain ⟨h1, h2, h3⟩ := paper_parts (check_paper hck p (List.mem_of_getElem? hp))
    obtain ⟨i1, i2⟩ := rises_mem h3 hv
    unfold paperF
    rw [if_neg (by simp [h1]), if_neg (by simp [h2])]
    show firstF _ 0 [v] = 0
    rw [firstF, if_neg (by simp [riseF, isIn]; omega)]
    rfl
theorem parted {u : UseFile} (hck : checkF u = 0) {n : Nat} {p : Paper} (hp : u.papers[n]? = some p) (k i : Int) : MoreD u { u with papers := partsOf u n p } k i ∧ MoreD { u with papers := partsOf u n p } u k i :=
  moreD_perm (split_perm hp (paper_nodup hck (List.mem_of_getElem? hp)) k i)
end Go.TM
end
section
namespace Go.Proofs.YtopkdkedjkidhaaDoor
open Go Go.TM Go.Proofs
set_option linter.unusedVariables false
set_option maxRecDepth 100000
noncomputable def n1008 (u_0 : Int) (u_1 : Int) (u_2 : Int) (u_3 : Int) (u_4p : Option Addr) (u_4n u_4c : Nat) (u_5p : Option Addr) (u_5n u_5c : Nat) (u_6p : Option Addr) (u_6n u_6c : Nat) (land : Int) (which : Int) (day : Int) : T := .blk (.call false 31 #[.agg #[.int .i64 u_0, .int .i64 u_1, .int .i64 u_2, .int .i64 u_3, .slice u_4p u_4n u_4c, .slice u_5p u_5n u_5c, .slice u_6p u_6n u_6c]] fun v => .unB v fun b => bif !b then .call false 11 #[] fun v => .unB v fun b => .leaf (.retn [.bool b]) else bif (↑u_5n : Int) == 0 then .call false 11 #[] fun v => .unB v fun b => .leaf (.retn [.bool b]) else .leaf (.again [.bool false])) (fun vs => .popB vs fun b vs => .unNil vs (.need (u_1 ≠ 0) (.need ((↑u_5n : Int) ≠ 0) (.call false 32 #[.int .u16 day] fun v => .unI .i64 v fun n => .need ((↑u_5n : Int) ≠ 0) (.nd (.int .i64 (Int.tmod (IntKind.wrap .i64 which) (↑u_5n : Int))) (.nd (.int .i64 (↑u_5n : Int)) (.nd (.slice u_5p u_5n u_5c) (.need (AV.pp 4 5 = AV.pp 4 5) (.nd (.int .i64 (IntKind.wrap .i64 which)) (.nd (.int .u8 which) (.need (u_1 ≠ 0) (.nd (.int .i64 (Int.tmod (IntKind.wrap .i64 land) u_1)) (.nd (.int .i64 u_1) (.need (AV.pp 4 1 = AV.pp 4 1) (.nd (.int .i64 (IntKind.wrap .i64 land)) (.nd (.int .u8 land) (.need ((↑u_5n : Int) ≠ 0) (.nd (.int .i64 (Int.tmod (IntKind.wrap .i64 which) (↑u_5n : Int))) (.nd (.int .i64 (↑u_5n : Int)) (.nd (.slice u_5p u_5n u_5c) (.need (AV.pp 4 5 = AV.pp 4 5) (.nd (.int .i64 (IntKind.wrap .i64 which)) (.nd (.int .u8 which) (.need ((↑u_5n : Int) ≠ 0) (.nd (.int .i64 (Int.tmod (IntKind.wrap .i64 which) (↑u_5n : Int))) (.nd (.int .i64 (↑u_5n : Int)) (.nd (.slice u_5p u_5n u_5c) (.need (AV.pp 4 5 = AV.pp 4 5) (.nd (.int .i64 (IntKind.wrap .i64 which)) (.nd (.int .u8 which) (.blk (.both (.sem false (Instr.buildSlice 23 0 #[]) fun v => .unS v fun a n c => .nd (.int .i64 (IntKind.wrap .i64 (Int.tmod (IntKind.wrap .i64 which) (↑u_5n : Int) + 1))) (.nd (.int .i64 (Int.tmod (IntKind.wrap .i64 which) (↑u_5n : Int))) (.nd (.slice u_5p u_5n u_5c) (.need (AV.pp 4 5 = AV.pp 4 5) (.nd (.int .i64 (Int.tmod (IntKind.wrap .i64 which) (↑u_5n : Int))) (.nd (.slice u_5p u_5n u_5c) (.need (AV.pp 4 5 = AV.pp 4 5) (.both (.sem false (Instr.sliceAt 23 (.slice u_5p u_5n u_5c) none (some (.int .i64 (Int.tmod (IntKind.wrap .i64 which) (↑u_5n : Int)))) none) fun w => .unS w fun a_1 n_1 c_1 => .nd (.int .i64 (IntKind.wrap .i64 (Int.tmod (IntKind.wrap .i64 which) (↑u_5n : Int) + 1))) (.nd (.int .i64 (Int.tmod (IntKind.wrap .i64 which) (↑u_5n : Int))) (.nd (.slice u_5p u_5n u_5c) (.need (AV.pp 4 5 = AV.pp 4 5) (.need (AV.pp 4 5 = AV.pp 4 5) (.both (.sem false (Builtin.append_ #[23, 23] 23 #[.slice a n c, .slice a_1 n_1 c_1]) fun v => .unS v fun a n c => .nd (.int .i64 (IntKind.wrap .i64 (Int.tmod (IntKind.wrap .i64 which) (↑u_5n : Int) + 1))) (.nd (.int .i64 (Int.tmod (IntKind.wrap .i64 which) (↑u_5n : Int))) (.nd (.slice u_5p u_5n u_5c) (.need (AV.pp 4 5 = AV.pp 4 5) (.need (AV.pp 4 5 = AV.pp 4 5) (.sem false (Instr.sliceAt 23 (.slice u_5p u_5n u_5c) (some (.int .i64 (IntKind.wrap .i64 (Int.tmod (IntKind.wrap .i64 which) (↑u_5n : Int) + 1)))) none none) fun w => .unS w fun a_2 n_2 c_2 => .nd (.int .i64 (Int.tmod (IntKind.wrap .i64 which) (↑u_5n : Int))) (.need (AV.pp 4 5 = AV.pp 4 5) (.need (AV.pp 4 5 = AV.pp 4 5) (.sem false (Builtin.append_ #[23, 23] 23 #[.slice a n c, .slice a_2 n_2 c_2]) fun v => .unS v fun a n c => .nd (.int .i64 (Int.tmod (IntKind.wrap .i64 which) (↑u_5n : Int))) (.need (AV.pp 4 5 = AV.pp 4 5) (.need (AV.pp 4 5 = AV.pp 4 5) (.leaf (.again [.int .i64 u_0, .int .i64 u_1, .int .i64 u_2, .int .i64 u_3, .slice u_4p u_4n u_4c, .slice a n c, .slice u_6p u_6n u_6c]))))))))))))) (.sem false (Instr.sliceAt 23 (.slice u_5p u_5n u_5c) (some (.int .i64 (IntKind.wrap .i64 (Int.tmod (IntKind.wrap .i64 which) (↑u_5n : Int) + 1)))) none none) fun w => .unS w fun a_2 n_2 c_2 => .nd (.int .i64 (Int.tmod (IntKind.wrap .i64 which) (↑u_5n : Int))) (.need (AV.pp 4 5 = AV.pp 4 5) (.need (AV.pp 4 5 = AV.pp 4 5) (.sem false (Builtin.append_ #[23, 23] 23 #[.slice a n c, .slice a_1 n_1 c_1]) fun v => .unS v fun a n c => .nd (.int .i64 (Int.tmod (IntKind.wrap .i64 which) (↑u_5n : Int))) (.need (AV.pp 4 5 = AV.pp 4 5) (.need (AV.pp 4 5 = AV.pp 4 5) (.sem false (Builtin.append_ #[23, 23] 23 #[.slice a n c, .slice a_2 n_2 c_2]) fun v => .unS v fun a n c => .nd (.int .i64 (Int.tmod (IntKind.wrap .i64 which) (↑u_5n : Int))) (.need (AV.pp 4 5 = AV.pp 4 5) (.need (AV.pp 4 5 = AV.pp 4 5) (.leaf (.again [.int .i64 u_0, .int .i64 u_1, .int .i64 u_2, .int .i64 u_3, .slice u_4p u_4n u_4c, .slice a n c, .slice u_6p u_6n u_6c]))))))))))))))))) (.sem false (Instr.sliceAt 23 (.slice u_5p u_5n u_5c) (some (.int .i64 (IntKind.wrap .i64 (Int.tmod (IntKind.wrap .i64 which) (↑u_5n : Int) + 1)))) none none) fun w => .unS w fun a_1 n_1 c_1 => .nd (.int .i64 (Int.tmod (IntKind.wrap .i64 which) (↑u_5n : Int))) (.need (AV.pp 4 5 = AV.pp 4 5) (.nd (.int .i64 (Int.tmod (IntKind.wrap .i64 which) (↑u_5n : Int))) (.nd (.slice u_5p u_5n u_5c) (.need (AV.pp 4 5 = AV.pp 4 5) (.sem false (Instr.sliceAt 23 (.slice u_5p u_5n u_5c) none (some (.int .i64 (Int.tmod (IntKind.wrap .i64 which) (↑u_5n : Int)))) none) fun w => .unS w fun a_2 n_2 c_2 => .nd (.int .i64 (Int.tmod (IntKind.wrap .i64 which) (↑u_5n : Int))) (.need (AV.pp 4 5 = AV.pp 4 5) (.need (AV.pp 4 5 = AV.pp 4 5) (.sem false (Builtin.append_ #[23, 23] 23 #[.slice a n c, .slice a_2 n_2 c_2]) fun v => .unS v fun a n c => .nd (.int .i64 (Int.tmod (IntKind.wrap .i64 which) (↑u_5n : Int))) (.need (AV.pp 4 5 = AV.pp 4 5) (.need (AV.pp 4 5 = AV.pp 4 5) (.sem false (Builtin.append_ #[23, 23] 23 #[.slice a n c, .slice a_1 n_1 c_1]) fun v => .unS v fun a n c => .nd (.int .i64 (Int.tmod (IntKind.wrap .i64 which) (↑u_5n : Int))) (.need (AV.pp 4 5 = AV.pp 4 5) (.need (AV.pp 4 5 = AV.pp 4 5) (.leaf (.again [.int .i64 u_0, .int .i64 u_1, .int .i64 u_2, .int .i64 u_3, .slice u_4p u_4n u_4c, .slice a n c, .slice u_6p u_6n u_6c])))))))))))))))))))))))) (.both (.sem false (Instr.sliceAt 23 (.slice u_5p u_5n u_5c) none (some (.int .i64 (Int.tmod (IntKind.wrap .i64 which) (↑u_5n : Int)))) none) fun w => .unS w fun a n c => .nd (.int .i64 (IntKind.wrap .i64 (Int.tmod (IntKind.wrap .i64 which) (↑u_5n : Int) + 1))) (.nd (.int .i64 (Int.tmod (IntKind.wrap .i64 which) (↑u_5n : Int))) (.nd (.slice u_5p u_5n u_5c) (.need (AV.pp 4 5 = AV.pp 4 5) (.need (AV.pp 4 5 = AV.pp 4 5) (.both (.sem false (Instr.buildSlice 23 0 #[]) fun v => .unS v fun a_1 n_1 c_1 => .nd (.int .i64 (IntKind.wrap .i64 (Int.tmod (IntKind.wrap .i64 which) (↑u_5n : Int) + 1))) (.nd (.int .i64 (Int.tmod (IntKind.wrap .i64 which) (↑u_5n : Int))) (.nd (.slice u_5p u_5n u_5c) (.need (AV.pp 4 5 = AV.pp 4 5) (.need (AV.pp 4 5 = AV.pp 4 5) (.both (.sem false (Builtin.append_ #[23, 23] 23 #[.slice a_1 n_1 c_1, .slice a n c]) fun v => .unS v fun a n c => .nd (.int .i64 (IntKind.wrap .i64 (Int.tmod (IntKind.wrap .i64 which) (↑u_5n : Int) + 1))) (.nd (.int .i64 (Int.tmod (IntKind.wrap .i64 which) (↑u_5n : Int))) (.nd (.slice u_5p u_5n u_5c) (.need (AV.pp 4 5 = AV.pp 4 5) (.need (AV.pp 4 5 = AV.pp 4 5) (.sem false (Instr.sliceAt 23 (.slice u_5p u_5n u_5c) (some (.int .i64 (IntKind.wrap .i64 (Int.tmod (IntKind.wrap .i64 which) (↑u_5n : Int) + 1)))) none none) fun w => .unS w fun a_2 n_2 c_2 => .nd (.int .i64 (Int.tmod (IntKind.wrap .i64 which) (↑u_5n : Int))) (.need (AV.pp 4 5 = AV.pp 4 5) (.need (AV.pp 4 5 = AV.pp 4 5) (.sem false (Builtin.append_ #[23, 23] 23 #[.slice a n c, .slice a_2 n_2 c_2]) fun v => .unS v fun a n c => .nd (.int .i64 (Int.tmod (IntKind.wrap .i64 which) (↑u_5n : Int))) (.need (AV.pp 4 5 = AV.pp 4 5) (.need (AV.pp 4 5 = AV.pp 4 5) (.leaf (.again [.int .i64 u_0, .int .i64 u_1, .int .i64 u_2, .int .i64 u_3, .slice u_4p u_4n u_4c, .slice a n c, .slice u_6p u_6n u_6c]))))))))))))) (.sem false (Instr.sliceAt 23 (.slice u_5p u_5n u_5c) (some (.int .i64 (IntKind.wrap .i64 (Int.tmod (IntKind.wrap .i64 which) (↑u_5n : Int) + 1)))) none none) fun w => .unS w fun a_2 n_2 c_2 => .nd (.int .i64 (Int.tmod (IntKind.wrap .i64 which) (↑u_5n : Int))) (.need (AV.pp 4 5 = AV.pp 4 5) (.need (AV.pp 4 5 = AV.pp 4 5) (.sem false (Builtin.append_ #[23, 23] 23 #[.slice a_1 n_1 c_1, .slice a n c]) fun v => .unS v fun a n c => .nd (.int .i64 (Int.tmod (IntKind.wrap .i64 which) (↑u_5n : Int))) (.need (AV.pp 4 5 = AV.pp 4 5) (.need (AV.pp 4 5 = AV.pp 4 5) (.sem false (Builtin.append_ #[23, 23] 23 #[.slice a n c, .slice a_2 n_2 c_2]) fun v => .unS v fun a n c => .nd (.int .i64 (Int.tmod (IntKind.wrap .i64 which) (↑u_5n : Int))) (.need (AV.pp 4 5 = AV.pp 4 5) (.need (AV.pp 4 5 = AV.pp 4 5) (.leaf (.again [.int .i64 u_0, .int .i64 u_1, .int .i64 u_2, .int .i64 u_3, .slice u_4p u_4n u_4c, .slice a n c, .slice u_6p u_6n u_6c]))))))))))))))))) (.sem false (Instr.sliceAt 23 (.slice u_5p u_5n u_5c) (some (.int .i64 (IntKind.wrap .i64 (Int.tmod (IntKind.wrap .i64 which) (↑u_5n : Int) + 1)))) none none) fun w => .unS w fun a_1 n_1 c_1 => .nd (.int .i64 (Int.tmod (IntKind.wrap .i64 which) (↑u_5n : Int))) (.need (AV.pp 4 5 = AV.pp 4 5) (.need (AV.pp 4 5 = AV.pp 4 5) (.sem false (Instr.buildSlice 23 0 #[]) fun v => .unS v fun a_2 n_2 c_2 => .nd (.int .i64 (Int.tmod (IntKind.wrap .i64 which) (↑u_5n : Int))) (.need (AV.pp 4 5 = AV.pp 4 5) (.need (AV.pp 4 5 = AV.pp 4 5) (.sem false (Builtin.append_ #[23, 23] 23 #[.slice a_2 n_2 c_2, .slice a n c]) fun v => .unS v fun a n c => .nd (.int .i64 (Int.tmod (IntKind.wrap .i64 which) (↑u_5n : Int))) (.need (AV.pp 4 5 = AV.pp 4 5) (.need (AV.pp 4 5 = AV.pp 4 5) (.sem false (Builtin.append_ #[23, 23] 23 #[.slice a n c, .slice a_1 n_1 c_1]) fun v => .unS v fun a n c => .nd (.int .i64 (Int.tmod (IntKind.wrap .i64 which) (↑u_5n : Int))) (.need (AV.pp 4 5 = AV.pp 4 5) (.need (AV.pp 4 5 = AV.pp 4 5) (.leaf (.again [.int .i64 u_0, .int .i64 u_1, .int .i64 u_2, .int .i64 u_3, .slice u_4p u_4n u_4c, .slice a n c, .slice u_6p u_6n u_6c])))))))))))))))))))) (.sem false (Instr.sliceAt 23 (.slice u_5p u_5n u_5c) (some (.int .i64 (IntKind.wrap .i64 (Int.tmod (IntKind.wrap .i64 which) (↑u_5n : Int) + 1)))) none none) fun w => .unS w fun a n c => .nd (.int .i64 (Int.tmod (IntKind.wrap .i64 which) (↑u_5n : Int))) (.need (AV.pp 4 5 = AV.pp 4 5) (.nd (.int .i64 (Int.tmod (IntKind.wrap .i64 which) (↑u_5n : Int))) (.nd (.slice u_5p u_5n u_5c) (.need (AV.pp 4 5 = AV.pp 4 5) (.both (.sem false (Instr.buildSlice 23 0 #[]) fun v => .unS v fun a_1 n_1 c_1 => .nd (.int .i64 (Int.tmod (IntKind.wrap .i64 which) (↑u_5n : Int))) (.need (AV.pp 4 5 = AV.pp 4 5) (.nd (.int .i64 (Int.tmod (IntKind.wrap .i64 which) (↑u_5n : Int))) (.nd (.slice u_5p u_5n u_5c) (.need (AV.pp 4 5 = AV.pp 4 5) (.sem false (Instr.sliceAt 23 (.slice u_5p u_5n u_5c) none (some (.int .i64 (Int.tmod (IntKind.wrap .i64 which) (↑u_5n : Int)))) none) fun w => .unS w fun a_2 n_2 c_2 => .nd (.int .i64 (Int.tmod (IntKind.wrap .i64 which) (↑u_5n : Int))) (.need (AV.pp 4 5 = AV.pp 4 5) (.need (AV.pp 4 5 = AV.pp 4 5) (.sem false (Builtin.append_ #[23, 23] 23 #[.slice a_1 n_1 c_1, .slice a_2 n_2 c_2]) fun v => .unS v fun a_3 n_3 c_3 => .nd (.int .i64 (Int.tmod (IntKind.wrap .i64 which) (↑u_5n : Int))) (.need (AV.pp 4 5 = AV.pp 4 5) (.need (AV.pp 4 5 = AV.pp 4 5) (.sem false (Builtin.append_ #[23, 23] 23 #[.slice a_3 n_3 c_3, .slice a n c]) fun v => .unS v fun a n c => .nd (.int .i64 (Int.tmod (IntKind.wrap .i64 which) (↑u_5n : Int))) (.need (AV.pp 4 5 = AV.pp 4 5) (.need (AV.pp 4 5 = AV.pp 4 5) (.leaf (.again [.int .i64 u_0, .int .i64 u_1, .int .i64 u_2, .int .i64 u_3, .slice u_4p u_4n u_4c, .slice a n c, .slice u_6p u_6n u_6c])))))))))))))))) (.sem false (Instr.sliceAt 23 (.slice u_5p u_5n u_5c) none (some (.int .i64 (Int.tmod (IntKind.wrap .i64 which) (↑u_5n : Int)))) none) fun w => .unS w fun a_1 n_1 c_1 => .nd (.int .i64 (Int.tmod (IntKind.wrap .i64 which) (↑u_5n : Int))) (.need (AV.pp 4 5 = AV.pp 4 5) (.need (AV.pp 4 5 = AV.pp 4 5) (.sem false (Instr.buildSlice 23 0 #[]) fun v => .unS v fun a_2 n_2 c_2 => .nd (.int .i64 (Int.tmod (IntKind.wrap .i64 which) (↑u_5n : Int))) (.need (AV.pp 4 5 = AV.pp 4 5) (.need (AV.pp 4 5 = AV.pp 4 5) (.sem false (Builtin.append_ #[23, 23] 23 #[.slice a_2 n_2 c_2, .slice a_1 n_1 c_1]) fun v => .unS v fun a_3 n_3 c_3 => .nd (.int .i64 (Int.tmod (IntKind.wrap .i64 which) (↑u_5n : Int))) (.need (AV.pp 4 5 = AV.pp 4 5) (.need (AV.pp 4 5 = AV.pp 4 5) (.sem false (Builtin.append_ #[23, 23] 23 #[.slice a_3 n_3 c_3, .slice a n c]) fun v => .unS v fun a n c => .nd (.int .i64 (Int.tmod (IntKind.wrap .i64 which) (↑u_5n : Int))) (.need (AV.pp 4 5 = AV.pp 4 5) (.need (AV.pp 4 5 = AV.pp 4 5) (.leaf (.again [.int .i64 u_0, .int .i64 u_1, .int .i64 u_2, .int .i64 u_3, .slice u_4p u_4n u_4c, .slice a n c, .slice u_6p u_6n u_6c])))))))))))))))))))))) (fun vs => .popI .i64 vs fun n_1 vs => .popI .i64 vs fun n_2 vs => .popI .i64 vs fun n_3 vs => .popI .i64 vs fun n_4 vs => .popS vs fun a n_5 c vs => .popS vs fun a_1 n_6 c_1 vs => .popS vs fun a_2 n_7 c_2 vs => .unNil vs (.loop [.int .i64 0, .int .i64 n_1, .int .i64 n_2, .int .i64 n_3, .int .i64 n_4, .slice a n_5 c, .slice a_1 n_6 c_1, .slice a_2 n_7 c_2] (fun vs => .popI .i64 vs fun n vs => .popI .i64 vs fun n_8 vs => .popI .i64 vs fun n_9 vs => .popI .i64 vs fun n_10 vs => .popI .i64 vs fun n_11 vs => .popS vs fun a n_12 c vs => .popS vs fun a_3 n_13 c_3 vs => .popS vs fun a_4 n_14 c_4 vs => .unNil vs (.need (0 ≤ Int.tmod (IntKind.wrap .i64 which) (↑u_5n : Int) ∧ Int.tmod (IntKind.wrap .i64 which) (↑u_5n : Int) < (↑u_5n : Int)) (.someA u_5p fun a_5 => .loadS (Addr.add (Addr.add a_5 (Int.toNat (Int.tmod (IntKind.wrap .i64 which) (↑u_5n : Int)) * 4)) 3) fun p n_15 c_5 => bif decide (n < (↑n_15 : Int)) then .need (0 ≤ Int.tmod (IntKind.wrap .i64 which) (↑u_5n : Int) ∧ Int.tmod (IntKind.wrap .i64 which) (↑u_5n : Int) < (↑u_5n : Int)) (.someA u_5p fun a_6 => .loadI .i64 (Addr.add (Addr.add (Addr.add a_6 (Int.toNat (Int.tmod (IntKind.wrap .i64 which) (↑u_5n : Int)) * 4)) 0) 0) fun n_16 => .loadI .i64 (Addr.add (Addr.add (Addr.add a_6 (Int.toNat (Int.tmod (IntKind.wrap .i64 which) (↑u_5n : Int)) * 4)) 0) 1) fun n_17 => .need (0 ≤ Int.tmod (IntKind.wrap .i64 which) (↑u_5n : Int) ∧ Int.tmod (IntKind.wrap .i64 which) (↑u_5n : Int) < (↑u_5n : Int)) (.someA u_5p fun a_7 => .loadI .i64 (Addr.add (Addr.add a_7 (Int.toNat (Int.tmod (IntKind.wrap .i64 which) (↑u_5n : Int)) * 4)) 2) fun n_18 => .need (0 ≤ Int.tmod (IntKind.wrap .i64 which) (↑u_5n : Int) ∧ Int.tmod (IntKind.wrap .i64 which) (↑u_5n : Int) < (↑u_5n : Int)) (.someA u_5p fun a_8 => .loadS (Addr.add (Addr.add a_8 (Int.toNat (Int.tmod (IntKind.wrap .i64 which) (↑u_5n : Int)) * 4)) 3) fun p n_19 c_6 => .sem false (Instr.sliceAt 50 (.slice p n_19 c_6) (some (.int .i64 n)) (some (.int .i64 (IntKind.wrap .i64 (n + 1)))) none) fun w => .unS w fun a_9 n_20 c_7 => .nd (.int .i64 n) (.nd (.pointer (some (Addr.add (Addr.add a_8 (Int.toNat (Int.tmod (IntKind.wrap .i64 which) (↑u_5n : Int)) * 4)) 3))) (.need (0 ≤ Int.tmod (IntKind.wrap .i64 which) (↑u_5n : Int) ∧ Int.tmod (IntKind.wrap .i64 which) (↑u_5n : Int) < (↑u_5n : Int)) (.someA u_5p fun a_10 => .need (AV.val (.pointer (some (Addr.add a_10 (Int.toNat (Int.tmod (IntKind.wrap .i64 which) (↑u_5n : Int)) * 4)))) = AV.val (.pointer (some (Addr.add a_8 (Int.toNat (Int.tmod (IntKind.wrap .i64 which) (↑u_5n : Int)) * 4))))) (.nd (.int .i64 (Int.tmod (IntKind.wrap .i64 which) (↑u_5n : Int))) (.nd (.slice u_5p u_5n u_5c) (.need (AV.pp 4 5 = AV.pp 4 5) (.loadI .i64 (Addr.add (Addr.add a_7 (Int.toNat (Int.tmod (IntKind.wrap .i64 which) (↑u_5n : Int)) * 4)) 2) fun n_21 => .need (AV.val (.int .i64 n_21) = AV.val (.int .i64 n_18)) (.nd (.pointer (some (Addr.add (Addr.add a_7 (Int.toNat (Int.tmod (IntKind.wrap .i64 which) (↑u_5n : Int)) * 4)) 2))) (.need (0 ≤ Int.tmod (IntKind.wrap .i64 which) (↑u_5n : Int) ∧ Int.tmod (IntKind.wrap .i64 which) (↑u_5n : Int) < (↑u_5n : Int)) (.someA u_5p fun a_11 => .need (AV.val (.pointer (some (Addr.add a_11 (Int.toNat (Int.tmod (IntKind.wrap .i64 which) (↑u_5n : Int)) * 4)))) = AV.val (.pointer (some (Addr.add a_7 (Int.toNat (Int.tmod (IntKind.wrap .i64 which) (↑u_5n : Int)) * 4))))) (.nd (.int .i64 (Int.tmod (IntKind.wrap .i64 which) (↑u_5n : Int))) (.nd (.slice u_5p u_5n u_5c) (.need (AV.pp 4 5 = AV.pp 4 5) (.loadI .i64 (Addr.add (Addr.add (Addr.add a_6 (Int.toNat (Int.tmod (IntKind.wrap .i64 which) (↑u_5n : Int)) * 4)) 0) 0) fun n_22 => .loadI .i64 (Addr.add (Addr.add (Addr.add a_6 (Int.toNat (Int.tmod (IntKind.wrap .i64 which) (↑u_5n : Int)) * 4)) 0) 1) fun n_23 => .need (AV.val (.agg #[.int .i64 n_22, .int .i64 n_23]) = AV.val (.agg #[.int .i64 n_16, .int .i64 n_17])) (.nd (.pointer (some (Addr.add (Addr.add a_6 (Int.toNat (Int.tmod (IntKind.wrap .i64 which) (↑u_5n : Int)) * 4)) 0))) (.need (0 ≤ Int.tmod (IntKind.wrap .i64 which) (↑u_5n : Int) ∧ Int.tmod (IntKind.wrap .i64 which) (↑u_5n : Int) < (↑u_5n : Int)) (.someA u_5p fun a_12 => .need (AV.val (.pointer (some (Addr.add a_12 (Int.toNat (Int.tmod (IntKind.wrap .i64 which) (↑u_5n : Int)) * 4)))) = AV.val (.pointer (some (Addr.add a_6 (Int.toNat (Int.tmod (IntKind.wrap .i64 which) (↑u_5n : Int)) * 4))))) (.nd (.int .i64 (Int.tmod (IntKind.wrap .i64 which) (↑u_5n : Int))) (.nd (.slice u_5p u_5n u_5c) (.need (AV.pp 4 5 = AV.pp 4 5) (.nd (.slice a_3 n_13 c_3) (.need (AV.pp 12 5 = AV.pp 12 5) (.sem false (Instr.buildSlice 23 1 #[(0, .agg #[.int .i64 n_16, .int .i64 n_17, .int .i64 n_18, .slice a_9 n_20 c_7])]) fun v => .unS v fun a_13 n_24 c_8 => .nd (.int .i64 n) (.nd (.pointer (some (Addr.add (Addr.add a_8 (Int.toNat (Int.tmod (IntKind.wrap .i64 which) (↑u_5n : Int)) * 4)) 3))) (.need (0 ≤ Int.tmod (IntKind.wrap .i64 which) (↑u_5n : Int) ∧ Int.tmod (IntKind.wrap .i64 which) (↑u_5n : Int) < (↑u_5n : Int)) (.someA u_5p fun a_14 => .need (AV.val (.pointer (some (Addr.add a_14 (Int.toNat (Int.tmod (IntKind.wrap .i64 which) (↑u_5n : Int)) * 4)))) = AV.val (.pointer (some (Addr.add a_8 (Int.toNat (Int.tmod (IntKind.wrap .i64 which) (↑u_5n : Int)) * 4))))) (.nd (.int .i64 (Int.tmod (IntKind.wrap .i64 which) (↑u_5n : Int))) (.nd (.slice u_5p u_5n u_5c) (.need (AV.pp 4 5 = AV.pp 4 5) (.loadI .i64 (Addr.add (Addr.add a_7 (Int.toNat (Int.tmod (IntKind.wrap .i64 which) (↑u_5n : Int)) * 4)) 2) fun n_25 => .need (AV.val (.int .i64 n_25) = AV.val (.int .i64 n_18)) (.nd (.pointer (some (Addr.add (Addr.add a_7 (Int.toNat (Int.tmod (IntKind.wrap .i64 which) (↑u_5n : Int)) * 4)) 2))) (.need (0 ≤ Int.tmod (IntKind.wrap .i64 which) (↑u_5n : Int) ∧ Int.tmod (IntKind.wrap .i64 which) (↑u_5n : Int) < (↑u_5n : Int)) (.someA u_5p fun a_15 => .need (AV.val (.pointer (some (Addr.add a_15 (Int.toNat (Int.tmod (IntKind.wrap .i64 which) (↑u_5n : Int)) * 4)))) = AV.val (.pointer (some (Addr.add a_7 (Int.toNat (Int.tmod (IntKind.wrap .i64 which) (↑u_5n : Int)) * 4))))) (.nd (.int .i64 (Int.tmod (IntKind.wrap .i64 which) (↑u_5n : Int))) (.nd (.slice u_5p u_5n u_5c) (.need (AV.pp 4 5 = AV.pp 4 5) (.loadI .i64 (Addr.add (Addr.add (Addr.add a_6 (Int.toNat (Int.tmod (IntKind.wrap .i64 which) (↑u_5n : Int)) * 4)) 0) 0) fun n_26 => .loadI .i64 (Addr.add (Addr.add (Addr.add a_6 (Int.toNat (Int.tmod (IntKind.wrap .i64 which) (↑u_5n : Int)) * 4)) 0) 1) fun n_27 => .need (AV.val (.agg #[.int .i64 n_26, .int .i64 n_27]) = AV.val (.agg #[.int .i64 n_16, .int .i64 n_17])) (.nd (.pointer (some (Addr.add (Addr.add a_6 (Int.toNat (Int.tmod (IntKind.wrap .i64 which) (↑u_5n : Int)) * 4)) 0))) (.need (0 ≤ Int.tmod (IntKind.wrap .i64 which) (↑u_5n : Int) ∧ Int.tmod (IntKind.wrap .i64 which) (↑u_5n : Int) < (↑u_5n : Int)) (.someA u_5p fun a_16 => .need (AV.val (.pointer (some (Addr.add a_16 (Int.toNat (Int.tmod (IntKind.wrap .i64 which) (↑u_5n : Int)) * 4)))) = AV.val (.pointer (some (Addr.add a_6 (Int.toNat (Int.tmod (IntKind.wrap .i64 which) (↑u_5n : Int)) * 4))))) (.nd (.int .i64 (Int.tmod (IntKind.wrap .i64 which) (↑u_5n : Int))) (.nd (.slice u_5p u_5n u_5c) (.need (AV.pp 4 5 = AV.pp 4 5) (.nd (.slice a_3 n_13 c_3) (.need (AV.pp 12 5 = AV.pp 12 5) (.sem false (Builtin.append_ #[23, 23] 23 #[.slice a_3 n_13 c_3, .slice a_13 n_24 c_8]) fun v => .unS v fun a_17 n_28 c_9 => .nd (.int .i64 n) (.nd (.pointer (some (Addr.add (Addr.add a_8 (Int.toNat (Int.tmod (IntKind.wrap .i64 which) (↑u_5n : Int)) * 4)) 3))) (.need (0 ≤ Int.tmod (IntKind.wrap .i64 which) (↑u_5n : Int) ∧ Int.tmod (IntKind.wrap .i64 which) (↑u_5n : Int) < (↑u_5n : Int)) (.someA u_5p fun a_18 => .need (AV.val (.pointer (some (Addr.add a_18 (Int.toNat (Int.tmod (IntKind.wrap .i64 which) (↑u_5n : Int)) * 4)))) = AV.val (.pointer (some (Addr.add a_8 (Int.toNat (Int.tmod (IntKind.wrap .i64 which) (↑u_5n : Int)) * 4))))) (.nd (.int .i64 (Int.tmod (IntKind.wrap .i64 which) (↑u_5n : Int))) (.nd (.slice u_5p u_5n u_5c) (.need (AV.pp 4 5 = AV.pp 4 5) (.loadI .i64 (Addr.add (Addr.add a_7 (Int.toNat (Int.tmod (IntKind.wrap .i64 which) (↑u_5n : Int)) * 4)) 2) fun n_29 => .need (AV.val (.int .i64 n_29) = AV.val (.int .i64 n_18)) (.nd (.pointer (some (Addr.add (Addr.add a_7 (Int.toNat (Int.tmod (IntKind.wrap .i64 which) (↑u_5n : Int)) * 4)) 2))) (.need (0 ≤ Int.tmod (IntKind.wrap .i64 which) (↑u_5n : Int) ∧ Int.tmod (IntKind.wrap .i64 which) (↑u_5n : Int) < (↑u_5n : Int)) (.someA u_5p fun a_19 => .need (AV.val (.pointer (some (Addr.add a_19 (Int.toNat (Int.tmod (IntKind.wrap .i64 which) (↑u_5n : Int)) * 4)))) = AV.val (.pointer (some (Addr.add a_7 (Int.toNat (Int.tmod (IntKind.wrap .i64 which) (↑u_5n : Int)) * 4))))) (.nd (.int .i64 (Int.tmod (IntKind.wrap .i64 which) (↑u_5n : Int))) (.nd (.slice u_5p u_5n u_5c) (.need (AV.pp 4 5 = AV.pp 4 5) (.loadI .i64 (Addr.add (Addr.add (Addr.add a_6 (Int.toNat (Int.tmod (IntKind.wrap .i64 which) (↑u_5n : Int)) * 4)) 0) 0) fun n_30 => .loadI .i64 (Addr.add (Addr.add (Addr.add a_6 (Int.toNat (Int.tmod (IntKind.wrap .i64 which) (↑u_5n : Int)) * 4)) 0) 1) fun n_31 => .need (AV.val (.agg #[.int .i64 n_30, .int .i64 n_31]) = AV.val (.agg #[.int .i64 n_16, .int .i64 n_17])) (.nd (.pointer (some (Addr.add (Addr.add a_6 (Int.toNat (Int.tmod (IntKind.wrap .i64 which) (↑u_5n : Int)) * 4)) 0))) (.need (0 ≤ Int.tmod (IntKind.wrap .i64 which) (↑u_5n : Int) ∧ Int.tmod (IntKind.wrap .i64 which) (↑u_5n : Int) < (↑u_5n : Int)) (.someA u_5p fun a_20 => .need (AV.val (.pointer (some (Addr.add a_20 (Int.toNat (Int.tmod (IntKind.wrap .i64 which) (↑u_5n : Int)) * 4)))) = AV.val (.pointer (some (Addr.add a_6 (Int.toNat (Int.tmod (IntKind.wrap .i64 which) (↑u_5n : Int)) * 4))))) (.nd (.int .i64 (Int.tmod (IntKind.wrap .i64 which) (↑u_5n : Int))) (.nd (.slice u_5p u_5n u_5c) (.need (AV.pp 4 5 = AV.pp 4 5) (.need (AV.pp 12 5 = AV.pp 12 5) (.leaf (.again [.int .i64 (IntKind.wrap .i64 (n + 1)), .int .i64 n_8, .int .i64 n_9, .int .i64 n_10, .int .i64 n_11, .slice a n_12 c, .slice a_17 n_28 c_9, .slice a_4 n_14 c_4])))))))))))))))))))))))))))))))))))))))))))))))))))))))))))))))))))))))) else .leaf (.brk [.int .i64 n, .int .i64 n_8, .int .i64 n_9, .int .i64 n_10, .int .i64 n_11, .slice a n_12 c, .slice a_3 n_13 c_3, .slice a_4 n_14 c_4])))) (fun vs => .popI .i64 vs fun n_8 vs => .popI .i64 vs fun n_9 vs => .popI .i64 vs fun n_10 vs => .popI .i64 vs fun n_11 vs => .popI .i64 vs fun n_12 vs => .popS vs fun a n_13 c vs => .popS vs fun a_3 n_14 c_3 vs => .popS vs fun a_4 n_15 c_4 vs => .unNil vs (bif decide ((↑n_14 : Int) > 8) then .call false 11 #[] fun v => .unB v fun b => .leaf (.ret (.bool b)) else .call false 37 #[.agg #[.int .i64 n_9, .int .i64 n_10, .int .i64 n_11, .int .i64 n_12, .slice a n_13 c, .slice a_3 n_14 c_3, .slice a_4 n_15 c_4], .agg #[.int .i64 u_0, .int .i64 u_1, .int .i64 u_2, .int .i64 u_3, .slice u_4p u_4n u_4c, .slice u_5p u_5n u_5c, .slice u_6p u_6n u_6c], .int .i64 (Int.tmod (IntKind.wrap .i64 land) u_1), .int .i64 n] fun v => .unB v fun b => bif b then .call false 37 #[.agg #[.int .i64 u_0, .int .i64 u_1, .int .i64 u_2, .int .i64 u_3, .slice u_4p u_4n u_4c, .slice u_5p u_5n u_5c, .slice u_6p u_6n u_6c], .agg #[.int .i64 n_9, .int .i64 n_10, .int .i64 n_11, .int .i64 n_12, .slice a n_13 c, .slice a_3 n_14 c_3, .slice a_4 n_15 c_4], .int .i64 (Int.tmod (IntKind.wrap .i64 land) u_1), .int .i64 n] fun v => .unB v fun b => bif b then .call false 11 #[] fun v => .unB v fun b => .leaf (.ret (.bool b)) else .leaf (.ret (.bool false)) else .leaf (.ret (.bool false)))) (fun vs => .popI .i64 vs fun n vs => .popI .i64 vs fun n vs => .popI .i64 vs fun n vs => .popI .i64 vs fun n vs => .popI .i64 vs fun n vs => .popS vs fun a n c vs => .popS vs fun a n c vs => .popS vs fun a n c vs => .unNil vs (.leaf (.ret (.bool b)))) fun x x_1 => .fail)) (fun vs => .popI .i64 vs fun n vs => .popI .i64 vs fun n vs => .popI .i64 vs fun n vs => .popI .i64 vs fun n vs => .popS vs fun a n c vs => .popS vs fun a n c vs => .popS vs fun a n c vs => .unNil vs (.leaf (.ret (.bool b)))) fun x x_1 => .fail))))))))))))))))))))))))))))))) (fun vs => .popB vs fun b vs => .unNil vs (.leaf (.ret (.bool b)))) fun x x_1 => .fail
theorem t1008 (u_0 : Int) (u_1 : Int) (u_2 : Int) (u_3 : Int) (u_4p : Option Addr) (u_4n u_4c : Nat) (u_5p : Option Addr) (u_5n u_5c : Nat) (u_6p : Option Addr) (u_6n u_6c : Nat) (land : Int) (which : Int) (day : Int) : ftree ({ P := Tryd.prog, priv := [4, 12], loops := [{ id := 0, slots := [(13, .int .i64), (53248, .int .i64), (53249, .int .i64), (53250, .int .i64), (53251, .int .i64), (53252, .slice), (53253, .slice), (53254, .slice)], ro := [4], outs := [] }], joins := [{ id := 6, slots := [(53248, .int .i64), (53249, .int .i64), (53250, .int .i64), (53251, .int .i64), (53252, .slice), (53253, .slice), (53254, .slice)], ro := [4], outs := [] }, { id := 3, slots := [(8, .bool)], ro := [4], outs := [] }] }) Tryd.f8 [.agg #[.int .i64 u_0, .int .i64 u_1, .int .i64 u_2, .int .i64 u_3, .slice u_4p u_4n u_4c, .slice u_5p u_5n u_5c, .slice u_6p u_6n u_6c], .int .u8 land, .int .u8 which, .int .u16 day] = n1008 u_0 u_1 u_2 u_3 u_4p u_4n u_4c u_5p u_5n u_5c u_6p u_6n u_6c land which day := by kernel_rfl
theorem w1008 (u_0 : Int) (u_1 : Int) (u_2 : Int) (u_3 : Int) (u_4p : Option Addr) (u_4n u_4c : Nat) (u_5p : Option Addr) (u_5n u_5c : Nat) (u_6p : Option Addr) (u_6n u_6c : Nat) (land : Int) (which : Int) (day : Int) {X : XP} (hX : XOK X) {h : LH} {A : Value → LH → Prop} (hw : (n1008 u_0 u_1 u_2 u_3 u_4p u_4n u_4c u_5p u_5n u_5c u_6p u_6n u_6c land which day).wp X Tryd.prog (retQ A) h) : FWK X Tryd.prog .normal 8 #[.agg #[.int .i64 u_0, .int .i64 u_1, .int .i64 u_2, .int .i64 u_3, .slice u_4p u_4n u_4c, .slice u_5p u_5n u_5c, .slice u_6p u_6n u_6c], .int .u8 land, .int .u8 which, .int .u16 day] h A := fwk_neat (t1008 u_0 u_1 u_2 u_3 u_4p u_4n u_4c u_5p u_5n u_5c u_6p u_6n u_6c land which day) (by simp) (by kernel_rfl) (by kernel_rfl) hX hw
end Go.Proofs.YtopkdkedjkidhaaDoor
end

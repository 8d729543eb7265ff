/- The base mark falls early, for some items on a day, if it falls in the oppositions at home: what is protected abroad lies between what is with the fall and what is without it, and is the one or the other if its fate is certain. The tied card; no further condition. -/
import Derived.Test.YtgljffachdhigaaGreatDoorM5
set_option linter.all false
section
namespace Go.Proofs.YtgljffachdhigaaGreatDoor.Tre
open Go Go.TM Go.Proofs Go.TM.Tr
attribute [local irreducible] T.wp CV FWK
theorem bit_test {i j : Nat} (hi : i < 2 ^ 32) : (IntKind.wrap .i64 (((BitVec.ofInt 64 (Int.fdiv (i : Int) (2 ^ min (j : Int).toNat 64)) &&& BitVec.ofInt 64 1).toNat : Nat) : Int) == 1) = i.testBit j := by
 have hq : ∃ q : Nat, Int.fdiv (i : Int) (2 ^ min (j : Int).toNat 64) = (q : Int) /\ q <= i /\ q % 2 = (i / 2 ^ j) % 2 := by
  by_cases hj : j <= 64
  ·have hm : min (j : Int).toNat 64 = j := by simp; omega
   refine ⟨i / 2 ^ j, ?_, Nat.div_le_self _ _, rfl⟩
   rw [hm]
   have : (2 ^ j : Int) = ((2 ^ j : Nat) : Int) := by simp
   rw [this, <- Int.ofNat_fdiv]
  ·have hm : min (j : Int).toNat 64 = 64 := by simp; omega
   refine ⟨0, ?_, Nat.zero_le _, ?_⟩
   ·rw [hm]
    have : (2 ^ 64 : Int) = ((2 ^ 64 : Nat) : Int) := by simp
    rw [this, <- Int.ofNat_fdiv]
    have : i / 2 ^ 64 = 0 := Nat.div_eq_of_lt (by omega)
    rw [this]
   ·have : i / 2 ^ j = 0 := Nat.div_eq_of_lt (Nat.lt_of_lt_of_le hi (Nat.pow_le_pow_right (by omega) (by omega)))
    rw [this]
 obtain ⟨q, h1, h2, h3⟩ := hq
 rw [h1]
 have a1 : (BitVec.ofInt 64 (q : Int)).toNat = q := by rw [BitVec.toNat_ofInt]; omega
 have a2 : (BitVec.ofInt 64 1).toNat = 1 := rfl
 rw [BitVec.toNat_and, a1, a2, Nat.and_one_is_mod, wrap_id (by omega) (by omega), Nat.testBit_eq_decide_div_mod_eq, <- h3]
 by_cases e : q % 2 = 1
 ·rw [e]; rfl
 ·have : q % 2 = 0 := by omega
  rw [this]; rfl
theorem sets_wrap {n : Nat} (hn : n <= 10) : IntKind.wrap .i64 (1 * 2 ^ min (Int.toNat (n : Int)) 64) = ((2 ^ n : Nat) : Int) := by
 have e : min (Int.toNat (n : Int)) 64 = n := by simp; omega
 have h2 : (2 : Nat) ^ n <= 2 ^ 10 := Nat.pow_le_pow_right (by omega) hn
 have e2 : (1 : Int) * 2 ^ n = ((2 ^ n : Nat) : Int) := by simp
 rw [e, e2]
 generalize 2 ^ n = m at h2
 rw [wrap_id (by omega) (by omega)]
def bitsTo (l : List Int) (i j : Nat) : List Int := (((List.range l.length).take j).filter fun b => i.testBit b).map fun b => l.getD b 0
def bitsL (l : List Int) (i : Nat) : List Int := ((List.range l.length).filter fun b => i.testBit b).map fun b => l.getD b 0
theorem bits_all {l : List Int} {i j : Nat} (hj : l.length <= j) : bitsTo l i j = bitsL l i := by
 unfold bitsTo bitsL
 rw [List.take_of_length_le (by simpa using hj)]
theorem bits_take {l : List Int} {i j : Nat} {y : Int} (hy : l[j]? = some y) : bitsTo l i (j + 1) = bitsTo l i j ++ if i.testBit j then [y] else [] := by
 have hj : j < l.length := (List.getElem?_eq_some_iff.1 hy).1
 unfold bitsTo
 rw [List.take_succ_eq_append_getElem (by simpa using hj), List.filter_append, List.map_append]
 congr 1
 simp only [List.getElem_range, List.filter_cons, List.filter_nil]
 split
 ·simp [List.getD, hy]
 ·rfl
theorem range_getD (l : List Int) : (List.range l.length).map (fun b => l.getD b 0) = l := by
 refine List.ext_getElem (by simp) fun i h1 h2 => ?_
 simp [List.getD, List.getElem?_eq_getElem h2]
theorem bits_len {l : List Int} {i j : Nat} : (bitsTo l i j).length <= l.length := by
 unfold bitsTo
 rw [List.length_map]
 refine Nat.le_trans (List.length_filter_le _ _) ?_
 rw [List.length_take, List.length_range]; omega
theorem bits_sub {l : List Int} {i : Nat} : (bitsL l i).Sublist l := by
 unfold bitsL
 have h : ((List.range l.length).filter fun b => i.testBit b).Sublist (List.range l.length) := List.filter_sublist
 have := h.map fun b => l.getD b 0
 rwa [range_getD] at this
theorem sub_bits {l m : List Int} (hn : l.Nodup) (h : m.Sublist l) : ∃ i, i < 2 ^ l.length /\ bitsL l i = m := by
 obtain ⟨i, hi, hb⟩ := bits_of (fun b => decide (l.getD b 0 ∈ m)) l.length
 refine ⟨i, hi, ?_⟩
 unfold bitsL
 rw [List.filter_congr (q := (fun x => decide (x ∈ m)) ∘ fun b => l.getD b 0) fun b hbm => hb b (List.mem_range.1 hbm), <- List.filter_map, range_getD]
 exact filter_sub h hn
structure TAt (h : Cells) (a : Addr) (f : TC) (x : TF) : Prop where
 f0 : h.cell? (a.add 0) = some (.int .i64 x.items)
 f1 : h.cell? (a.add 1) = some (.int .i64 x.lands)
 f2 : h.cell? (a.add 2) = some (.int .i64 x.start)
 f3 : h.cell? (a.add 3) = some (.int .i64 x.depend)
 f4 : h.cell? (a.add 4) = some (.int .i64 x.refuse)
 f5 : h.cell? (a.add 5) = some (.int .i64 x.turn)
 f6 : h.cell? (a.add 6) = some (.slice f.p f.n f.c)
theorem TAt.rd {h h' : Cells} {a : Addr} {f : TC} {x : TF} (hl : Rd h h') (m : TAt h a f x) : TAt h' a f x := ⟨hl _ _ m.f0, hl _ _ m.f1, hl _ _ m.f2, hl _ _ m.f3, hl _ _ m.f4, hl _ _ m.f5, hl _ _ m.f6⟩
theorem TAt.le {h h' : Cells} {a : Addr} {f : TC} {x : TF} (hl : h.le h') (m : TAt h a f x) : TAt h' a f x := m.rd (Rd.of_le hl)
def Found (x : TF) (i : Nat) (v : Value) (hv : Cells) : Prop := ∃ a n c, v = .slice (some a) n c /\ Sl IntE 1 hv (some a) n (bitsL (giving x) i) /\ n <= c
def Done (v : Value) (_ : Cells) : Prop := v = .bool true
def okB (x : TF) (k it d : Int) (i : Nat) : Bool := holdsB x k it d (bitsL (giving x) i)
theorem giving_ten {x : TF} (rt : Right x) : (giving x).length <= 10 := by
 have := giving_len x.events 0
 have := rt.many
 unfold giving; omega
theorem c2073 {hc : Cells} {q1 q2 i : Nat} {z0 z1 z2 z3 z4 z5 z6 z7 : Addr} {f : TC} {x : TF} {k it d : Int} (hk : Kinds hc) (hx : TreatyR hc f x) (rt : Right x) (hkd : KindsOk x) (hat : TAt hc z2 f x) (hi : i < 2 ^ 32)
  {ap : Option Addr} {an ac : Nat} (h0 : hc.cell? z0 = some (.slice ap an ac)) (hal : Sl IntE 1 hc ap an (giving x)) (h1 : hc.cell? z1 = some (.int .i64 (i : Int))) (h3 : hc.cell? z3 = some (.int .i64 k)) (h4 : hc.cell? z4 = some (.int .i64 it)) (h5 : hc.cell? z5 = some (.int .i64 d))
  (h6 : hc.cell? z6 = some (.chan (some q1))) (h7 : hc.cell? z7 = some (.chan (some q2))) :
  FWK XW Tryz.prog .deferred 105 #[.pointer (some z0), .pointer (some z1), .pointer (some z2), .pointer (some z3), .pointer (some z4), .pointer (some z5), .pointer (some z6), .pointer (some z7)] ⟨hc, [], [], scr q1 q2 (Found x) Done (i, okB x k it d i)⟩ fun _ _ => False := by
 generalize htd : scr q1 q2 (Found x) Done (i, okB x k it d i) = td
 refine w2073 _ _ _ _ _ _ _ _ XW_ok ?_
 unfold n2073
 have hn := hal.1
 have h10 := giving_ten rt
 refine t_build0 und50 inf3 fun b0 hb0 => ?_
 have le0 : LH.le ⟨hc, [], [], td⟩ _ := LH.upd_le (x := (true, .cells #[] 3 (0, 0))) hb0
 have k0 := Cells.cell?_le le0.1 h0
 refine gZ ?_
 refine t_loop (fun mm vs h' => LH.le ⟨hc, [], [], td⟩ h' /\ ∃ (j : Nat) (a : Addr) (n c : Nat), vs = [.slice (some a) n c, .int .i64 j] /\ j <= an /\ mm = an - j /\ Growing IntEnc 3 1 hc h'.get (some a) n c (bitsTo (giving x) i j))
  ⟨le0, 0, _, 0, 0, rfl, Nat.zero_le _, rfl, ⟨[], ⟨rfl, .inr ⟨b0, #[], rfl, Cells.upd_self _ _ _, rfl, Nat.le_refl _, fun j v hv => by simp at hv⟩⟩, by unfold bitsTo; exact .nil⟩, fun a ha => by cases ha; exact hb0⟩ ?_
 rintro Y mm vs h₁ hY ⟨hle, j, a, n, c, rfl, hj, rfl, g⟩
 have hng := g.count IntEnc.len (by omega)
 have hlen := bits_len (l := giving x) (i := i) (j := j)
 refine gZ ?_
 refine t_if (fun e1 => ?_) (fun e1 => ?_)
 ·obtain ⟨y, ya, hy, hya, e2⟩ := (hal.le IntE.grow hle.1).at (i := j) (by omega)
  unfold IntE at e2
  have k1 := Cells.cell?_le hle.1 h1
  refine gZ ?_
  rw [bit_test hi]
  have hst := bits_take (i := i) hy
  refine t_cond (fun b => ?_) (fun b => ?_)
  ·rw [if_pos b] at hst
   refine t_push (h₀ := ⟨hc, [], [], td⟩) y [.int .i64 y] rfl rfl und50 inf3 rfl (by omega) (by decide) (by kernel_rfl) rfl (by simp; rfl) (by omega) g hle rfl ?_
   intro p' c' h₂ hle2 _ g2
   refine gZ ?_
   obtain ⟨a', rfl⟩ : ∃ a', p' = some a' := by
    obtain ⟨vs, ⟨_, h6⟩, _⟩ := g2.row
    rcases h6 with ⟨_, h7, _⟩ | ⟨r, cs, h7, _⟩
    ·omega
    ·exact ⟨_, h7⟩
   refine t_again (hY (an - (j + 1)) _ _ (by omega) ⟨hle2, j + 1, a', n + 1, c', ?_, by omega, rfl, by rw [hst]; exact g2⟩)
   rw [wrap_id (by omega) (by omega)]; rfl
  ·rw [if_neg (by rw [b]; simp), List.append_nil] at hst
   refine t_again (hY (an - (j + 1)) _ _ (by omega) ⟨hle, j + 1, a, n, c, ?_, by omega, rfl, by rw [hst]; exact g⟩)
   rw [wrap_id (by omega) (by omega)]; rfl
 ·refine gZ ?_
  rw [bits_all (by omega)] at g
  rw [bits_all (by omega)] at hlen
  obtain ⟨g0, g1, g2, g3, g4, g5, g6⟩ := hat.le hle.1
  have k3 := Cells.cell?_le hle.1 h3
  have k4 := Cells.cell?_le hle.1 h4
  have k5 := Cells.cell?_le hle.1 h5
  refine gZ ?_
  refine t_gr (c2069 (hk.le hle.1) (hx.le hle.1) rt hkd k it d (g.sl IntEnc.len (by omega) IntEnc.e (by omega))) ?_
  rintro _ h₂ le2 rfl
  have hle2 := LH.le_trans hle le2
  have k6 := Cells.cell?_le hle2.1 h6
  have k7 := Cells.cell?_le hle2.1 h7
  refine gZ ?_
  refine t_cond (fun b => ?_) (fun b => ?_)
  ·refine t_loadC k6 ?_
   refine t_comm ?_
   have b' : okB x k it d i = true := b
   have htd' : td = [(q1, Found x i), (q2, Done)] := by rw [<- htd, b']; rfl
   have g7 := g.le le2.1
   obtain ⟨vs, ⟨o1, o2⟩, rows⟩ := g7.row
   rcases o2 with ⟨o3, _⟩ | ⟨r, cs, o3, o4, o5, o6, o7⟩
   ·cases o3
   ·cases o3
    have hnew : hc r = none := g.new _ rfl
    refine commW_send (z := .tuple #[]) (φ := Found x i) (s := [(q2, Done)]) (hv := fun b => if b = r then h₂.get b else none) (hr := fun b => if b = r then none else h₂.get b) (hle2.2.2.2.trans htd') ?_ (fun b => ?_) (fun b x hx => ?_) ?_ (fun h => by cases h) (fun _ => ?_)
    ·funext b
     unfold Cells.add
     by_cases e : b = r
     ·subst e; simp [o4]
     ·simp [e]
    ·by_cases e : b = r
     ·right; simp [e]
     ·left; simp [e]
    ·have hx' : (if b = r then h₂.get b else none) = some x := hx
     split at hx'
     ·rename_i e; subst e; rw [o4] at hx'; cases hx'; rfl
     ·cases hx'
    ·refine ⟨_, _, _, rfl, ?_, o6⟩
     refine rows.sl IntEnc.len (by omega) IntEnc.e (el := 3) ⟨o1, .inr ⟨r, cs, rfl, ?_, o5, o6, o7⟩⟩ (by omega)
     show (if r = r then h₂.get r else none) = _
     rw [if_pos rfl]; exact o4
    ·have hz : z7.block ≠ r := by
      intro e
      unfold Cells.cell? at h7
      rw [e, hnew] at h7; cases h7
     have k7' : Cells.cell? (fun b => if b = r then none else h₂.get b) z7 = some (.chan (some q2)) := by
      have hb : (fun b => if b = r then none else h₂.get b) z7.block = h₂.get z7.block := if_neg hz
      unfold Cells.cell? at k7 ⊢
      rw [hb]; exact k7
     refine t_loadC k7' ?_
     refine t_comm ?_
     refine commW_send (z := .tuple #[]) (φ := Done) (s := []) (hv := fun _ => none) (hr := fun b => if b = r then none else h₂.get b) rfl ?_ (fun r => .inl rfl) (fun r x hx => by cases hx) rfl (fun _ => rfl) (fun h => absurd rfl h)
     funext r; rfl
  ·refine t_loadC k7 ?_
   refine t_comm ?_
   have b' : okB x k it d i = false := b
   have htd' : td = [(q2, Done)] := by rw [<- htd, b']; rfl
   refine commW_send (z := .tuple #[]) (φ := Done) (s := []) (hv := fun _ => none) (hr := h₂.get) (hle2.2.2.2.trans htd') ?_ (fun r => .inl rfl) (fun r x hx => by cases hx) rfl (fun _ => rfl) (fun h => absurd rfl h)
   funext r; rfl
end Go.Proofs.YtgljffachdhigaaGreatDoor.Tre
end
section
namespace Go.Proofs.YtgljffachdhigaaGreatDoor.Tre
open Go Go.TM Go.Proofs Go.TM.Tr
attribute [local irreducible] T.wp CV FWK
def BestR (h : Cells) (x : TF) (k it d : Int) (rem : List (Nat × Bool)) (p : Option Addr) (n : Nat) (held : Bool) : Prop :=
 (held = false /\ p = none /\ n = 0 /\ ∀ j, j < 2 ^ (giving x).length -> (j, true) ∉ rem -> okB x k it d j = false) \/
 (held = true /\ ∃ i a, p = some a /\ i < 2 ^ (giving x).length /\ okB x k it d i = true /\ Sl IntE 1 h (some a) n (bitsL (giving x) i) /\ ∀ j, j < 2 ^ (giving x).length -> (j, true) ∉ rem -> okB x k it d j = true -> fewerF (bitsL (giving x) i) (bitsL (giving x) j) <= 0)
def weight : Nat × Bool -> Nat | (_, true) => 2 | (_, false) => 1
def NeedsR (h' : Cells) (x : TF) (k it d : Int) (r : Value) : Prop :=
 (askedAllT x k it d ≠ 0 /\ r = .tuple #[.slice none 0 0, .bool false, .int .i64 (askedAllT x k it d)]) \/
 (askedAllT x k it d = 0 /\ ¬ 0 <= dateOn x k it d /\ r = .tuple #[.slice none 0 0, .bool false, .int .i64 0]) \/
 (askedAllT x k it d = 0 /\ 0 <= dateOn x k it d /\ ∃ p n c, r = .tuple #[.slice p n c, .bool true, .int .i64 0] /\ Sl IntE 1 h' p n (needT x k it d) /\ n <= c)
theorem BestR.done {h : Cells} {x : TF} (v : Ok x) {k it d : Int} {p : Option Addr} {n : Nat} {b : Bool} (hb : BestR h x k it d [] p n b) : (¬ 0 <= dateOn x k it d /\ b = false /\ p = none /\ n = 0) \/ (0 <= dateOn x k it d /\ b = true /\ Sl IntE 1 h p n (needT x k it d)) := by
 have hn : (giving x).Nodup := (giving_sorted x.events 0).imp fun h => by omega
 rcases hb with ⟨h1, h2, h3, h4⟩ | ⟨h1, i, a, h2, h3, h4, h5, h6⟩
 ·left
  refine ⟨fun hd => ?_, h1, h2, h3⟩
  obtain ⟨a1, a2, _⟩ := need_spec (k := k) (i := it) (d := d) hd
  obtain ⟨j, hj, hjb⟩ := sub_bits hn a2
  have := h4 j hj (by simp)
  unfold okB at this
  rw [hjb, a1] at this; cases this
 ·have hd : 0 <= dateOn x k it d := by
   by_cases hd : 0 <= dateOn x k it d
   ·exact hd
   ·have := none_holds v hd (k := k) (i := it) (d := d) (bits_sub (l := giving x) (i := i))
    unfold okB at h4
    rw [this] at h4; cases h4
  refine .inr ⟨hd, h1, ?_⟩
  have := need_one hd (l := bitsL (giving x) i) bits_sub h4 fun m hm ho => by
   obtain ⟨j, hj, hjb⟩ := sub_bits hn hm
   have := h6 j hj (by simp) (by unfold okB; rw [hjb]; exact ho)
   rwa [hjb] at this
  rw [h2, <- this]; exact h5
theorem Sl.same {h : Cells} {p : Option Addr} {n : Nat} {a b : List Int} (ha : Sl IntE 1 h p n a) (hb : Sl IntE 1 h p n b) : a = b := by
 refine List.ext_getElem (by rw [<- ha.1, <- hb.1]) fun i h1 h2 => ?_
 obtain ⟨x, c, e1, e2, e3⟩ := ha.at (i := i) (by rw [ha.1]; exact h1)
 obtain ⟨y, d, e4, e5, e6⟩ := hb.at (i := i) (by rw [hb.1]; exact h2)
 rw [e2] at e5; cases e5
 unfold IntE at e3 e6
 rw [e3] at e6; cases e6
 rw [List.getElem?_eq_getElem h1] at e1
 rw [List.getElem?_eq_getElem h2] at e4
 exact (Option.some.inj e1).trans (Option.some.inj e4).symm
theorem BestR.rd {h h' : Cells} (hr : Rd h h') {x : TF} {k it d : Int} {rem : List (Nat × Bool)} {p : Option Addr} {n : Nat} {b : Bool} (hb : BestR h x k it d rem p n b) : BestR h' x k it d rem p n b := by
 rcases hb with hb | ⟨h1, i, a, h2, h3, h4, h5, h6⟩
 ·exact .inl hb
 ·exact .inr ⟨h1, i, a, h2, h3, h4, h5.rd IntE.grow hr, h6⟩
theorem mem_but {l1 l2 : List (Nat × Bool)} {i j : Nat} (h : (j, true) ∉ l1 ++ (i, false) :: l2) : j = i \/ (j, true) ∉ l1 ++ (i, true) :: l2 := by
 by_cases e : j = i
 ·exact .inl e
 ·right
  simp only [List.mem_append, List.mem_cons, Prod.mk.injEq, not_or] at h ⊢
  refine ⟨h.1, by simp [e], h.2.2⟩
theorem BestR.drop {h : Cells} {x : TF} {k it d : Int} {l1 l2 : List (Nat × Bool)} {i : Nat} {p : Option Addr} {n : Nat} {b : Bool} (hb : BestR h x k it d (l1 ++ (i, false) :: l2) p n b) : BestR h x k it d (l1 ++ l2) p n b := by
 have key : ∀ j, (j, true) ∉ l1 ++ l2 -> (j, true) ∉ l1 ++ (i, false) :: l2 := by
  intro j hj
  simp only [List.mem_append, List.mem_cons, Prod.mk.injEq, not_or] at hj ⊢
  exact ⟨hj.1, by simp, hj.2⟩
 rcases hb with ⟨h1, h2, h3, h4⟩ | ⟨h1, i', a, h2, h3, h4, h5, h6⟩
 ·exact .inl ⟨h1, h2, h3, fun j hj hn => h4 j hj (key j hn)⟩
 ·exact .inr ⟨h1, i', a, h2, h3, h4, h5, fun j hj hn => h6 j hj (key j hn)⟩
theorem BestR.take {h h' : Cells} {x : TF} {k it d : Int} {l1 l2 : List (Nat × Bool)} {i : Nat} {p : Option Addr} {n n' : Nat} {a : Addr} {b : Bool} (hb : BestR h x k it d (l1 ++ (i, true) :: l2) p n b) (hi : okB x k it d i = true) (hlt : i < 2 ^ (giving x).length) (hs : Sl IntE 1 h' (some a) n' (bitsL (giving x) i))
  (hle : b = false \/ ∀ j, Sl IntE 1 h p n (bitsL (giving x) j) -> fewerF (bitsL (giving x) i) (bitsL (giving x) j) <= 0) : BestR h' x k it d (l1 ++ (i, false) :: l2) (some a) n' true := by
 refine .inr ⟨rfl, i, a, rfl, hlt, hi, hs, fun j hj hn ho => ?_⟩
 rcases mem_but hn with rfl | hn
 ·exact fewer_self _
 ·rcases hb with ⟨h1, h2, h3, h4⟩ | ⟨h1, i', a', h2, h3, h4, h5, h6⟩
  ·have := h4 j hj hn
   rw [this] at ho; cases ho
  ·have := hle.resolve_left (by rw [h1]; simp) i' (by rw [h2]; exact h5)
   exact fewer_trans this (h6 j hj hn ho)
theorem BestR.stay {h h' : Cells} (hr : Rd h h') {x : TF} {k it d : Int} {l1 l2 : List (Nat × Bool)} {i : Nat} {p : Option Addr} {n : Nat} (hb : BestR h x k it d (l1 ++ (i, true) :: l2) p n true)
  (hle : ∀ j, Sl IntE 1 h p n (bitsL (giving x) j) -> fewerF (bitsL (giving x) j) (bitsL (giving x) i) <= 0) : BestR h' x k it d (l1 ++ (i, false) :: l2) p n true := by
 rcases hb with ⟨h1, h2, h3, h4⟩ | ⟨h1, i', a', h2, h3, h4, h5, h6⟩
 ·cases h1
 ·refine .inr ⟨rfl, i', a', h2, h3, h4, h5.rd IntE.grow hr, fun j hj hn ho => ?_⟩
  rcases mem_but hn with rfl | hn
  ·exact hle i' (by rw [h2]; exact h5)
  ·exact h6 j hj hn ho
def AllT (x : TF) (k it d : Int) (j : Nat) : List (Nat × Bool) := (List.range j).map fun i => (i, okB x k it d i)
set_option maxRecDepth 100000 in
theorem c2044 {h : LH} (hch : h.chans = []) (hpe : h.pend = []) (hk : Kinds h.get) {f : TC} {x : TF} (hx : TreatyR h.get f x) (k it d : Int) :
  FW XT Tryz.prog 62 #[treatyV f x, .int .i64 k, .int .i64 it, .int .i64 d] h fun r h' => Rd h.get h'.get /\ h'.chans = [] /\ h'.pend = [] /\ h'.todo = h.todo /\ NeedsR h'.get x k it d r := by
 refine w2044 _ _ _ _ _ _ _ _ _ _ _ _ XT_ok ?_
 unfold n2044
 refine t_new fun r hr => ?_
 have le0 : h.le _ := LH.upd_le (x := (true, .cells #[.int .i64 x.items, .int .i64 x.lands, .int .i64 x.start, .int .i64 x.depend, .int .i64 x.refuse, .int .i64 x.turn, .slice f.p f.n f.c] 60 (0, 0))) hr
 have hat : TAt (h.get.upd r (true, .cells #[.int .i64 x.items, .int .i64 x.lands, .int .i64 x.start, .int .i64 x.depend, .int .i64 x.refuse, .int .i64 x.turn, .slice f.p f.n f.c] 60 (0, 0))) ⟨r, 0, none⟩ f x :=
  ⟨cell_upd rfl, cell_upd rfl, cell_upd rfl, cell_upd rfl, cell_upd rfl, cell_upd rfl, cell_upd rfl⟩
 generalize hh0 : ({ h with get := h.get.upd r (true, .cells #[.int .i64 x.items, .int .i64 x.lands, .int .i64 x.start, .int .i64 x.depend, .int .i64 x.refuse, .int .i64 x.turn, .slice f.p f.n f.c] 60 (0, 0)) } : LH) = h0 at le0 ⊢
 have hat : TAt h0.get ⟨r, 0, none⟩ f x := by rw [<- hh0]; exact hat
 refine t_new fun r1 hr1 => ?_
 have le1 : h0.le _ := LH.upd_le (x := (true, .cells #[.int .i64 k] 3 (0, 0))) hr1
 have z1 : Cells.cell? (h0.get.upd r1 (true, .cells #[.int .i64 k] 3 (0, 0))) ⟨r1, 0, none⟩ = some (.int .i64 k) := cell_upd rfl
 refine t_new fun r2 hr2 => ?_
 have le2 := LH.upd_le (h := { h0 with get := h0.get.upd r1 (true, .cells #[.int .i64 k] 3 (0, 0)) }) (x := (true, .cells #[.int .i64 it] 3 (0, 0))) hr2
 have z2 : Cells.cell? ((h0.get.upd r1 (true, .cells #[.int .i64 k] 3 (0, 0))).upd r2 (true, .cells #[.int .i64 it] 3 (0, 0))) ⟨r2, 0, none⟩ = some (.int .i64 it) := cell_upd rfl
 refine t_new fun r3 hr3 => ?_
 have le3 := LH.upd_le (h := { h0 with get := (h0.get.upd r1 (true, .cells #[.int .i64 k] 3 (0, 0))).upd r2 (true, .cells #[.int .i64 it] 3 (0, 0)) }) (x := (true, .cells #[.int .i64 d] 3 (0, 0))) hr3
 have z3 : Cells.cell? (((h0.get.upd r1 (true, .cells #[.int .i64 k] 3 (0, 0))).upd r2 (true, .cells #[.int .i64 it] 3 (0, 0))).upd r3 (true, .cells #[.int .i64 d] 3 (0, 0))) ⟨r3, 0, none⟩ = some (.int .i64 d) := cell_upd rfl
 have z1 := Cells.cell?_le (LH.le_trans le2 le3).1 z1
 have z2 := Cells.cell?_le le3.1 z2
 have hat := hat.le (LH.le_trans le1 (LH.le_trans le2 le3)).1
 obtain ⟨g0, g1, g2, g3, g4, g5, g6⟩ := id hat
 have le03 := LH.le_trans le0 (LH.le_trans le1 (LH.le_trans le2 le3))
 generalize hh3 : ({ h0 with get := ((h0.get.upd r1 (true, .cells #[.int .i64 k] 3 (0, 0))).upd r2 (true, .cells #[.int .i64 it] 3 (0, 0))).upd r3 (true, .cells #[.int .i64 d] 3 (0, 0)) } : LH) = h3 at le03 ⊢
 have e3 : h3.get = ((h0.get.upd r1 (true, .cells #[.int .i64 k] 3 (0, 0))).upd r2 (true, .cells #[.int .i64 it] 3 (0, 0))).upd r3 (true, .cells #[.int .i64 d] 3 (0, 0)) := by rw [<- hh3]
 rw [<- e3] at z1 z2 z3 hat g0 g1 g2 g3 g4 g5 g6
 clear hh3 e3
 refine gZ ?_
 refine t_pu (c2066 (hk.le le03.1) (hx.le le03.1) k it d) ?_
 refine gZ ?_
 refine t_cond (fun e => ?_) (fun e => ?_)
 ·exact t_ret ⟨Rd.of_le le03.1, by rw [le03.2.1, hch], by rw [le03.2.2.1, hpe], le03.2.2.2, .inl ⟨by simpa using e, rfl⟩⟩
 have ea : askedAllT x k it d = 0 := by simpa using e
 have hck := (asked_ok (askedItem_ok (askedAll_ok ea).1).1).1
 have rt := Right.of hck
 have hkd := KindsOk.of hck
 have h10 := giving_ten rt
 refine gZ ?_
 refine t_gr (c2067 (hk.le le03.1) (hx.le le03.1) hkd rt.many) ?_
 rintro _ h₄ le4 ⟨ap, an, ac, rfl, hal, _⟩
 have han := hal.1
 refine gZ ?_
 refine t_newSt2 rfl fun r4 h₅ le5 _ _ z0 => ?_
 have le35 := LH.le_trans le4 le5
 refine t_blk (fun vs h' => ∃ b1 b2 q1 q2, vs = [.pointer (some ⟨b1, 0, none⟩), .pointer (some ⟨b2, 0, none⟩)] /\ Opening 147 180 h₅ h' (some q1) (some q2) (some (b1, true)) (some (b2, true))) ?_ ?_
 ·have O : Opening 147 180 h₅ h₅ none none none none := Opening.start
  repeat' first
   | refine t_both ?_ ?_
   | (refine op_new1 (by assumption) ?_; intro _ _ _)
   | (refine op_new2 (by assumption) ?_; intro _ _ _)
   | (refine op_chan1 undCI inf50 (by assumption) ?_; intro _ _ _)
   | (refine op_chan2 undCB inf4 (by assumption) ?_; intro _ _ _)
   | refine t_unC ?_
   | (refine op_store1 (by assumption) ?_; intro _ _)
   | (refine op_store2 (by assumption) ?_; intro _ _)
   | exact t_again ⟨_, _, _, _, rfl, by assumption⟩
 rintro _ h₆ ⟨b1, b2, q1, q2, rfl, O⟩
 have le6 := O.le
 have le36 := LH.le_trans le35 le6
 have le06 := LH.le_trans le03 le36
 have z0 := Cells.cell?_le le6.1 z0
 have z1 := Cells.cell?_le le36.1 z1
 have z2 := Cells.cell?_le le36.1 z2
 have z3 := Cells.cell?_le le36.1 z3
 have hat := hat.le le36.1
 have hal := hal.le IntE.grow (LH.le_trans le5 le6).1
 have zc1 : h₆.get.cell? ⟨b1, 0, none⟩ = some (.chan (some q1)) := by
  have := (O.hb1 b1 true rfl).2
  simp [Cells.cell?, this]
 have zc2 : h₆.get.cell? ⟨b2, 0, none⟩ = some (.chan (some q2)) := by
  have := (O.hb2 b2 true rfl).2
  simp [Cells.cell?, this]
 have hq := O.ne q1 q2 rfl rfl
 have hq1 := O.hc1 q1 rfl
 have hq2 := O.hc2 q2 rfl
 refine gZ ?_
 rw [sets_wrap (by omega)]
 have h1024 : 2 ^ an <= 2 ^ 10 := Nat.pow_le_pow_right (by omega) (by omega)
 have hNe : (2 : Nat) ^ an = 2 ^ (giving x).length := by rw [han]
 have hNpos : 0 < 2 ^ an := Nat.pow_pos (by omega)
 generalize hN : (2 : Nat) ^ an = N at h1024 hNe hNpos ⊢
 refine gZ ?_
 refine t_loop (fun mm vs h' => ∃ j : Nat, vs = [.int .i64 j] /\ j <= N /\ mm = N - j /\ Rd h₆.get h'.get /\ h'.todo = h.todo /\ h'.pend = (AllT x k it d j).map (scr q1 q2 (Found x) Done) /\ Hand2 q1 q2 h' /\ (0 < j -> h'.chans = [q2, q1]))
  ⟨0, rfl, Nat.zero_le _, rfl, Rd.refl _, le06.2.2.2, by rw [le06.2.2.1, hpe]; rfl, .inl ⟨by rw [le06.2.1, hch], hq, ⟨0, hq1⟩, 0, hq2⟩, fun hh => absurd hh (by omega)⟩ ?_
 rintro Y mm vs h₇ hY ⟨j, rfl, hj, rfl, rd7, td7, pd7, hand7, ch7⟩
 refine gZ ?_
 refine t_if (fun e1 => ?_) (fun e1 => ?_)
 ·refine t_newSt2 rfl fun r5 h₈ le8 _ _ z5 => ?_
  have rd8 := rd7.trans (Rd.of_le le8.1)
  refine t_spawn (spawnW_two q1 q2 (s := scr q1 q2 (Found x) Done (j, okB x k it d j)) (hand7.le le8) ?_ ?_ (fun hc hrd => ?_) (fun h₉ r9 c9 t9 p9 => ?_))
  ·unfold scr; split <;> simp
  ·intro y hy
   unfold scr at hy
   split at hy
   ·simp at hy; rcases hy with rfl | rfl <;> simp
   ·simp at hy; simp [hy]
  ·have rdc := rd8.trans hrd
   exact c2073 ((hk.le le06.1).rd rdc) ((hx.le le06.1).rd rdc) rt hkd (hat.rd rdc) (by omega) (rdc _ _ z0) (hal.rd IntE.grow rdc) (hrd _ _ z5) (rdc _ _ z1) (rdc _ _ z2) (rdc _ _ z3) (rdc _ _ zc1) (rdc _ _ zc2)
  ·refine t_again (hY (N - (j + 1)) _ _ (by omega) ⟨j + 1, ?_, by omega, rfl, rd8.trans r9, (t9.trans le8.2.2.2).trans td7, ?_, .inr c9, fun _ => c9⟩)
   ·rw [wrap_id (by omega) (by omega)]; rfl
   ·rw [p9, le8.2.2.1, pd7, AllT, AllT, List.range_succ, List.map_append, List.map_append]; rfl
 ·refine gZ ?_
  have hjN : j = N := by omega
  subst hjN
  refine t_loop (fun mm vs h' => ∃ (rem : List (Nat × Bool)) (b : Bool) (p : Option Addr) (n c : Nat), vs = [.slice p n c, .bool b, .int .i64 rem.length] /\ rem.length <= j /\ mm = (rem.map weight).sum /\ (∀ i o, (i, o) ∈ rem -> i < j) /\ (∀ i, (i, true) ∈ rem -> okB x k it d i = true) /\ Rd h₆.get h'.get /\ h'.todo = h.todo /\ h'.pend = rem.map (scr q1 q2 (Found x) Done) /\
    ((rem ≠ [] /\ h'.chans = [q2, q1]) \/ (rem = [] /\ h'.chans = [])) /\ BestR h'.get x k it d rem p n b /\ n <= c /\ (b = false -> c = 0))
   ⟨AllT x k it d j, false, none, 0, 0, by simp [AllT], by simp [AllT], rfl, ?_, ?_, rd7, td7, pd7, .inl ⟨?_, ch7 hNpos⟩, .inl ⟨rfl, rfl, rfl, ?_⟩, Nat.le_refl _, fun _ => rfl⟩ ?_
  ·intro i o hi
   simp [AllT] at hi; omega
  ·intro i hi
   simp [AllT] at hi; exact (by obtain ⟨a0, a1, a2, a3⟩ := hi; rw [<- a2]; exact a3)
  ·intro hh
   have := congrArg List.length hh
   simp [AllT] at this; omega
  ·intro i hi hn
   cases ho : okB x k it d i with
   | false => rfl
   | true => exact absurd (List.mem_map.2 ⟨i, List.mem_range.2 (by omega), by rw [ho]⟩) hn
  rintro Y2 mm vs h₈ hY2 ⟨rem, b, p, n, c, rfl, hlen, rfl, hrem, hok, rd8, td8, pd8, hst8, best, hcap, hc0⟩
  refine gZ ?_
  refine t_if (fun e2 => ?_) (fun e2 => ?_)
  ·have hne : rem ≠ [] := by rintro rfl; simp at e2
   have hc8 : h₈.chans = [q2, q1] := by
    rcases hst8 with ⟨_, a⟩ | ⟨a, _⟩
    ·exact a
    ·exact absurd a hne
   refine t_loadC (rd8 _ _ zc1) ?_
   refine t_loadC (rd8 _ _ zc2) ?_
   refine t_comm (commW_sel (φ := Found x) (ψ := Done) pd8 hc8 hq hne ?_ ?_)
   ·rintro l1 i l2 v h₉ hrem' ht hpd hc9 ⟨hv, ⟨a, n', c', rfl, hs9, hcap9⟩, hle⟩ hle9
    have hcr : commResult #[Conc.rcase q1 (.slice none 0 0), Conc.rcase q2 (.bool false)] .select ((0 : Nat) : Int) (.slice (some a) n' c') true = .tuple #[.int .i64 0, .bool true, .slice (some a) n' c', .bool false] := by simp [commResult, Conc.rcase, goInt]
    rw [hcr]
    subst hrem'
    have rd9 := Rd.of_le hle9
    have hs9 := hs9.rd IntE.grow (Rd.of_le hle)
    have hi : i < 2 ^ (giving x).length := by have := hrem i true (by simp); omega
    have hoi : okB x k it d i = true := hok i (by simp)
    have next : ∀ p' n' c', BestR h₉.get x k it d (l1 ++ (i, false) :: l2) p' n' true -> n' <= c' -> Y2 [.slice p' n' c', .bool true, .int .i64 ((l1 ++ (i, true) :: l2).length : Nat)] h₉ := by
     intro p' n' c' hb hcap'
     refine hY2 (((l1 ++ (i, false) :: l2).map weight).sum) _ _ (by simp [weight]) ⟨l1 ++ (i, false) :: l2, true, p', n', c', by simp, by simpa using hlen, rfl, ?_, ?_, rd8.trans rd9, ht.trans td8, hpd, .inl ⟨by simp, hc9⟩, hb, hcap', fun h => by cases h⟩
     ·intro i' o hi'
      simp only [List.mem_append, List.mem_cons, Prod.mk.injEq] at hi'
      rcases hi' with h1 | h1 | h1
      ·exact hrem i' o (by simp [h1])
      ·rw [h1.1]; exact hrem i true (by simp)
      ·exact hrem i' o (by simp [h1])
     ·intro i' hi'
      simp at hi'
      exact hok i' (by rcases hi' with h1 | h1 <;> simp [h1])
    refine gZ ?_
    refine t_cond (fun _ => ?_) (fun e => by cases e)
    refine t_cond (fun e3 => ?_) (fun e3 => ?_)
    ·exact t_again (next _ _ _ (best.take hoi hi hs9 (.inl (by simpa using e3))) hcap9)
    ·have hbt : b = true := by simpa using e3
     subst hbt
     obtain ⟨k', a', hk', hs'⟩ : ∃ k' a', p = some a' /\ Sl IntE 1 h₈.get (some a') n (bitsL (giving x) k') := by
      rcases best with ⟨b1, _⟩ | ⟨_, k', a', b1, _, _, b4, _⟩
      ·cases b1
      ·exact ⟨k', a', b1, b4⟩
     subst hk'
     refine t_pu (c2074 hs9 (hs'.rd IntE.grow rd9)) ?_
     have same : ∀ k2, Sl IntE 1 h₈.get (some a') n (bitsL (giving x) k2) -> bitsL (giving x) k2 = bitsL (giving x) k' := fun k2 h3 => Sl.same h3 hs'
     refine gZ ?_
     refine t_if (fun e4 => ?_) (fun e4 => ?_)
     ·refine t_again (next _ _ _ (best.take hoi hi hs9 (.inr fun k2 h3 => ?_)) hcap9)
      rw [same k2 h3]; omega
     ·refine t_again (next _ _ _ (best.stay rd9 fun k2 h3 => ?_) hcap)
      rw [same k2 h3, fewer_neg]; omega
   ·intro l1 i l2 v h₉ hrem' ht hpd hst9 ⟨hv, hval⟩ hle9
    have hval : v = .bool true := hval
    subst hval
    have hcr : commResult #[Conc.rcase q1 (.slice none 0 0), Conc.rcase q2 (.bool false)] .select ((1 : Nat) : Int) (.bool true) true = .tuple #[.int .i64 1, .bool true, .slice none 0 0, .bool true] := by simp [commResult, Conc.rcase, goInt]
    rw [hcr]
    subst hrem'
    have rd9 := Rd.of_le hle9
    have hl : (l1 ++ (i, false) :: l2).length = (l1 ++ l2).length + 1 := by simp; omega
    refine gZ ?_
    refine t_again (hY2 (((l1 ++ l2).map weight).sum) _ _ (by simp [weight]) ⟨l1 ++ l2, b, p, n, c, ?_, by omega, rfl, ?_, ?_, rd8.trans rd9, ht.trans td8, hpd, hst9, (best.drop).rd rd9, hcap, hc0⟩)
    ·rw [hl, wrap_id (by omega) (by omega)]
     congr 3
     congr 1
     omega
    ·intro i' o hi'
     simp only [List.mem_append] at hi'
     exact hrem i' o (by rcases hi' with h1 | h1 <;> simp [h1])
    ·intro i' hi'
     simp only [List.mem_append] at hi'
     exact hok i' (by rcases hi' with h1 | h1 <;> simp [h1])
  ·refine gZ ?_
   have hrem0 : rem = [] := List.length_eq_zero_iff.1 (by omega)
   subst hrem0
   have hc8 : h₈.chans = [] := by
    rcases hst8 with ⟨a, _⟩ | ⟨_, a⟩
    ·exact absurd rfl a
    ·exact a
   refine t_ret ⟨(Rd.of_le le06.1).trans rd8, hc8, pd8, td8, .inr ?_⟩
   rcases best.done rt.ok with ⟨a1, rfl, rfl, rfl⟩ | ⟨a1, rfl, a2⟩
   ·have := hc0 rfl; subst this
    exact .inl ⟨ea, a1, rfl⟩
   ·exact .inr ⟨ea, a1, _, _, _, rfl, a2, hcap⟩
end Go.Proofs.YtgljffachdhigaaGreatDoor.Tre
end
section
namespace Go.Proofs.YtgljffachdhigaaGreatDoor.Tre
open Go Go.TM Go.Proofs Go.TM.Tr
attribute [local irreducible] T.wp CV FWK
theorem c2020 {h : LH} {p q : Option Addr} {n c m d : Nat} {a b : List Bool} (ha : Sl BoolE 1 h.get p n a) (hb : Sl BoolE 1 h.get q m b) : Pu Tryz.prog 63 #[.slice p n c, .slice q m d] h (.bool (decide (a = b))) := by
 refine w2020 _ _ _ _ _ _ X0_ok ?_
 unfold n2020
 have hn := ha.1
 have hm := hb.1
 have hbn := ha.2.1
 have hbm := hb.2.1
 refine t_cond (fun e => ?_) (fun e => ?_)
 ·have : a ≠ b := by rintro rfl; simp at e; omega
  exact t_ret ⟨by simp [this], rfl⟩
 have hnm : n = m := by simp at e; omega
 refine t_loop (fun mm vs h' => h = h' /\ ∃ i : Nat, vs = [.bool false, .int .i64 i] /\ i <= n /\ mm = n - i /\ a.take i = b.take i) ⟨rfl, 0, rfl, Nat.zero_le _, rfl, rfl⟩ ?_
 rintro Y mm vs _ hY ⟨rfl, i, rfl, hi, rfl, hc⟩
 refine gZ ?_
 refine t_if (fun e => ?_) (fun e => ?_)
 ·obtain ⟨x, a1, hx, ha1, e1⟩ := ha.at (i := i) (by omega)
  obtain ⟨y, a2, hy, ha2, e2⟩ := hb.at (i := i) (by omega)
  unfold BoolE at e1 e2
  rw [add_zero'] at e1 e2
  refine gZ ?_
  refine t_cond (fun b1 => ?_) (fun b1 => ?_)
  ·refine gZ ?_
   have : a ≠ b := by rintro rfl; rw [hx] at hy; cases hy; simp at b1
   exact t_ret ⟨by simp [this], rfl⟩
  ·have b2 : x = y := by cases x <;> cases y <;> simp_all
   refine t_again (hY (n - (i + 1)) _ _ (by omega) ⟨rfl, i + 1, ?_, by omega, rfl, ?_⟩)
   ·rw [wrap_id (by omega) (by omega)]; rfl
   ·rw [List.take_add_one, List.take_add_one, hc, hx, hy, b2]
 ·refine gZ ?_
  rw [List.take_of_length_le (by omega), List.take_of_length_le (by omega)] at hc
  exact t_ret ⟨by simp [hc], rfl⟩
theorem c2025 {h : LH} {p q : Option Addr} {n c m d : Nat} {a b : List Sp} (ha : Sl SpE 2 h.get p n a) (hb : Sl SpE 2 h.get q m b) : Pu Tryz.prog 64 #[.slice p n c, .slice q m d] h (.bool (decide (a = b))) := by
 refine w2025 _ _ _ _ _ _ X0_ok ?_
 unfold n2025
 have hn := ha.1
 have hm := hb.1
 have hbn := ha.2.1
 have hbm := hb.2.1
 refine t_cond (fun e => ?_) (fun e => ?_)
 ·have : a ≠ b := by rintro rfl; simp at e; omega
  exact t_ret ⟨by simp [this], rfl⟩
 have hnm : n = m := by simp at e; omega
 refine t_loop (fun mm vs h' => h = h' /\ ∃ i : Nat, vs = [.bool false, .int .i64 i] /\ i <= n /\ mm = n - i /\ a.take i = b.take i) ⟨rfl, 0, rfl, Nat.zero_le _, rfl, rfl⟩ ?_
 rintro Y mm vs _ hY ⟨rfl, i, rfl, hi, rfl, hc⟩
 refine gZ ?_
 refine t_if (fun e => ?_) (fun e => ?_)
 ·obtain ⟨x, a1, hx, ha1, e1, e3⟩ := ha.at (i := i) (by omega)
  obtain ⟨y, a2, hy, ha2, e2, e4⟩ := hb.at (i := i) (by omega)
  refine gZ ?_
  refine t_ne2 two30 g30 ?_
  refine gZ ?_
  refine t_cond (fun b1 => ?_) (fun b1 => ?_)
  ·refine gZ ?_
   have : a ≠ b := by rintro rfl; rw [hx] at hy; cases hy; simp at b1
   exact t_ret ⟨by simp [this], rfl⟩
  ·have b2 : x = y := by obtain ⟨x1, x2⟩ := x; obtain ⟨y1, y2⟩ := y; simp at b1; simp [b1]
   refine t_again (hY (n - (i + 1)) _ _ (by omega) ⟨rfl, i + 1, ?_, by omega, rfl, ?_⟩)
   ·rw [wrap_id (by omega) (by omega)]; rfl
   ·rw [List.take_add_one, List.take_add_one, hc, hx, hy, b2]
 ·refine gZ ?_
  rw [List.take_of_length_le (by omega), List.take_of_length_le (by omega)] at hc
  exact t_ret ⟨by simp [hc], rfl⟩
end Go.Proofs.YtgljffachdhigaaGreatDoor.Tre
end
section
namespace Go.Proofs.YtgljffachdhigaaGreatDoor
open Go Go.TM Go.Proofs
set_option linter.unusedVariables false
set_option maxRecDepth 100000
variable {X : XP} {h : LH} {A : Value -> LH -> Prop}
noncomputable def n2016 (x_0 x_1 x_2 x_3 x_4 x_5 : Int) (x_6p : Option Addr) (x_6n x_6c : Nat) : T := bif decide ((↑x_6n : Int) > 20) then .leaf (.ret (.bool true)) else .loop [.bool false, .int .i64 0] (fun vs => .popB vs fun b vs => .popI .i64 vs fun n vs => .unNil vs (bif decide (n < (↑x_6n : Int)) then .need (0 <= n /\ n < (↑x_6n : Int)) (.someA x_6p fun a => .loadS ((a.add (n.toNat * 5)).add 3) fun p n_1 c => bif decide ((↑n_1 : Int) > 20) then .leaf (.retn [.bool true, .int .i64 n]) else .leaf (.again [.bool b, .int .i64 (IntKind.wrap .i64 (n + 1))])) else .leaf (.brk [.bool b, .int .i64 n]))) (fun vs => .popB vs fun b vs => .popI .i64 vs fun n vs => .unNil vs (.leaf (.ret (.bool false)))) (fun vs => .popB vs fun b vs => .popI .i64 vs fun n vs => .unNil vs (.leaf (.ret (.bool b)))) fun x x_6 => .fail
theorem w2016 (x_0 x_1 x_2 x_3 x_4 x_5 : Int) (x_6p : Option Addr) (x_6n x_6c : Nat) (hX : XOK X) (hw : (n2016 x_0 x_1 x_2 x_3 x_4 x_5 x_6p x_6n x_6c).wp X Tryz.prog (retQ A) h) : FWK X Tryz.prog .normal 18 #[.agg #[.int .i64 x_0, .int .i64 x_1, .int .i64 x_2, .int .i64 x_3, .int .i64 x_4, .int .i64 x_5, .slice x_6p x_6n x_6c]] h A := fwk_neat (priv := [1]) (loops := [{ id := 0, slots := [(2, .bool), (3, .int .i64)], ro := [1], outs := [] }]) (joins := []) (fd := Tryz.f18) (by kernel_rfl) (by simp) (by kernel_rfl) (by kernel_rfl) hX hw
noncomputable def n2017  : T := .call false 57 #[] fun v => .unAgg v fun l => .popI .i64 l fun n vs => .popI .i64 vs fun n_1 vs => .popI .i64 vs fun n_2 vs => .popI .i64 vs fun n_3 vs => .popI .i64 vs fun n_4 vs => .popI .i64 vs fun n_5 vs => .popS vs fun a n_6 c vs => .unNil vs (.call false 58 #[.agg #[.int .i64 n, .int .i64 n_1, .int .i64 n_2, .int .i64 n_3, .int .i64 n_4, .int .i64 n_5, .slice a n_6 c], .int .i64 0, .int .i64 15] fun v => .unTup v fun l => .unCons l fun v vs => .unS v fun a_1 n_7 c_1 => .unCons vs fun v vs => .unI .i64 v fun n_8 => .unNil vs (.call false 58 #[.agg #[.int .i64 n, .int .i64 n_1, .int .i64 n_2, .int .i64 n_3, .int .i64 n_4, .int .i64 n_5, .slice a n_6 c], .int .i64 1, .int .i64 40] fun v => .unTup v fun l => .unCons l fun v vs => .unS v fun a_2 n_9 c_2 => .unCons vs fun v vs => .unI .i64 v fun n_10 => .unNil vs (.call false 59 #[.agg #[.int .i64 n, .int .i64 n_1, .int .i64 n_2, .int .i64 n_3, .int .i64 n_4, .int .i64 n_5, .slice a n_6 c], .int .i64 0, .int .i64 18] fun v => .unTup v fun l => .unCons l fun v vs => .unS v fun a_3 n_11 c_3 => .unCons vs fun v vs => .unI .i64 v fun n_12 => .unNil vs (.call false 59 #[.agg #[.int .i64 n, .int .i64 n_1, .int .i64 n_2, .int .i64 n_3, .int .i64 n_4, .int .i64 n_5, .slice a n_6 c], .int .i64 0, .int .i64 44] fun v => .unTup v fun l => .unCons l fun v vs => .unS v fun a_4 n_13 c_4 => .unCons vs fun v vs => .unI .i64 v fun n_14 => .unNil vs (.call false 60 #[.agg #[.int .i64 n, .int .i64 n_1, .int .i64 n_2, .int .i64 n_3, .int .i64 n_4, .int .i64 n_5, .slice a n_6 c], .int .i64 0, .int .i64 0] fun v => .unTup v fun l => .unCons l fun v vs => .unS v fun a_5 n_15 c_5 => .unCons vs fun v vs => .unI .i64 v fun n_16 => .unNil vs (.call false 60 #[.agg #[.int .i64 n, .int .i64 n_1, .int .i64 n_2, .int .i64 n_3, .int .i64 n_4, .int .i64 n_5, .slice a n_6 c], .int .i64 0, .int .i64 1] fun v => .unTup v fun l => .unCons l fun v vs => .unS v fun a_6 n_17 c_6 => .unCons vs fun v vs => .unI .i64 v fun n_18 => .unNil vs (.call false 61 #[.agg #[.int .i64 n, .int .i64 n_1, .int .i64 n_2, .int .i64 n_3, .int .i64 n_4, .int .i64 n_5, .slice a n_6 c], .int .i64 1, .int .i64 45] fun v => .unTup v fun l => .unCons l fun v vs => .unS v fun a_7 n_19 c_7 => .unCons vs fun v vs => .unI .i64 v fun n_20 => .unNil vs (.call false 61 #[.agg #[.int .i64 n, .int .i64 n_1, .int .i64 n_2, .int .i64 n_3, .int .i64 n_4, .int .i64 n_5, .slice a n_6 c], .int .i64 1, .int .i64 46] fun v => .unTup v fun l => .unCons l fun v vs => .unS v fun a_8 n_21 c_8 => .unCons vs fun v vs => .unI .i64 v fun n_22 => .unNil vs (.call false 62 #[.agg #[.int .i64 n, .int .i64 n_1, .int .i64 n_2, .int .i64 n_3, .int .i64 n_4, .int .i64 n_5, .slice a n_6 c], .int .i64 0, .int .i64 0, .int .i64 44] fun v => .unTup v fun l => .unCons l fun v vs => .unS v fun a n c => .unCons vs fun v vs => .unB v fun b => .unCons vs fun v vs => .unI .i64 v fun n_23 => .unNil vs (.blk (bif n_8 != 0 then .leaf (.retn [.bool false]) else bif n_10 != 0 then .leaf (.retn [.bool false]) else bif n_12 != 0 then .leaf (.retn [.bool false]) else bif n_14 != 0 then .leaf (.retn [.bool false]) else bif n_16 != 0 then .leaf (.retn [.bool false]) else bif n_18 != 0 then .leaf (.retn [.bool false]) else bif n_20 != 0 then .leaf (.retn [.bool false]) else bif n_22 != 0 then .leaf (.retn [.bool false]) else bif n_23 != 0 then .leaf (.retn [.bool false]) else .leaf (.again [.bool false])) (fun vs => .popB vs fun b_1 vs => .unNil vs (.blk (.sem false (Instr.buildSlice 68 3 #[(0, .bool true), (1, .bool false), (2, .bool true)]) fun v => .unS v fun a_9 n_24 c_9 => .call false 63 #[.slice a_1 n_7 c_1, .slice a_9 n_24 c_9] fun v => .unB v fun b_2 => bif !b_2 then .leaf (.retn [.bool false]) else .sem false (Instr.buildSlice 68 3 #[(0, .bool false), (1, .bool true), (2, .bool false)]) fun v => .unS v fun a_10 n_25 c_10 => .call false 63 #[.slice a_2 n_9 c_2, .slice a_10 n_25 c_10] fun v => .unB v fun b_3 => bif !b_3 then .leaf (.retn [.bool false]) else .sem false (Instr.buildSlice 30 3 #[(0, .int .i64 3), (1, .int .i64 (-1)), (2, .int .i64 12)]) fun v => .unS v fun a_11 n_26 c_11 => .call false 41 #[.slice a_3 n_11 c_3, .slice a_11 n_26 c_11] fun v => .unB v fun b_4 => bif !b_4 then .leaf (.retn [.bool false]) else .sem false (Instr.buildSlice 30 3 #[(0, .int .i64 3), (1, .int .i64 12), (2, .int .i64 (-1))]) fun v => .unS v fun a_12 n_27 c_12 => .call false 41 #[.slice a_4 n_13 c_4, .slice a_12 n_27 c_12] fun v => .unB v fun b_5 => bif !b_5 then .leaf (.retn [.bool false]) else bif !b then .leaf (.retn [.bool false]) else .sem false (Instr.buildSlice 30 2 #[(0, .int .i64 0), (1, .int .i64 5)]) fun v => .unS v fun a_13 n_28 c_13 => .call false 41 #[.slice a n c, .slice a_13 n_28 c_13] fun v => .unB v fun b => bif !b then .leaf (.retn [.bool false]) else .leaf (.again [.bool b_1])) (fun vs => .popB vs fun b vs => .unNil vs (.call false 65 #[.int .i64 12, .int .i64 39] fun v => .unAgg v fun l => .popI .i64 l fun n vs => .popI .i64 vs fun n_24 vs => .unNil vs (.call false 65 #[.int .i64 44, .int .i64 9999] fun v => .unAgg v fun l => .popI .i64 l fun n_25 vs => .popI .i64 vs fun n_26 vs => .unNil vs (.sem false (Instr.buildSlice 22 2 #[(0, .agg #[.int .i64 n, .int .i64 n_24]), (1, .agg #[.int .i64 n_25, .int .i64 n_26])]) fun v => .unS v fun a n c => .call false 64 #[.slice a_5 n_15 c_5, .slice a n c] fun v => .unB v fun b => bif b then .call false 65 #[.int .i64 12, .int .i64 14] fun v => .unAgg v fun l => .popI .i64 l fun n vs => .popI .i64 vs fun n_27 vs => .unNil vs (.call false 65 #[.int .i64 25, .int .i64 9999] fun v => .unAgg v fun l => .popI .i64 l fun n_28 vs => .popI .i64 vs fun n_29 vs => .unNil vs (.sem false (Instr.buildSlice 22 2 #[(0, .agg #[.int .i64 n, .int .i64 n_27]), (1, .agg #[.int .i64 n_28, .int .i64 n_29])]) fun v => .unS v fun a n c => .call false 64 #[.slice a_6 n_17 c_6, .slice a n c] fun v => .unB v fun b => bif b then .sem false (Instr.buildSlice 30 1 #[(0, .int .i64 0)]) fun v => .unS v fun a n c => .call false 41 #[.slice a_7 n_19 c_7, .slice a n c] fun v => .unB v fun b => bif b then .leaf (.ret (.bool ((↑n_21 : Int) == 0))) else .leaf (.ret (.bool false)) else .leaf (.ret (.bool false)))) else .leaf (.ret (.bool false)))))) (fun vs => .popB vs fun b vs => .unNil vs (.leaf (.ret (.bool b)))) fun x x_1 => .fail)) (fun vs => .popB vs fun b vs => .unNil vs (.leaf (.ret (.bool b)))) fun x x_1 => .fail))))))))))
theorem w2017  (hX : XOK X) (hw : (n2017 ).wp X Tryz.prog (retQ A) h) : FWK X Tryz.prog .normal 20 #[] h A := fwk_neat (priv := [1]) (loops := []) (joins := [{ id := 15, slots := [(0, .bool)], ro := [1], outs := [] }, { id := 13, slots := [(0, .bool)], ro := [1], outs := [] }]) (fd := Tryz.f20) (by kernel_rfl) (by simp) (by kernel_rfl) (by kernel_rfl) hX hw
noncomputable def n2032 (n : Int) : T := .need ((10000 : Int) ≠ 0) (.leaf (.ret (.int .i64 (Int.tmod (IntKind.wrap .i64 n) 10000))))
theorem w2032 (n : Int) (hX : XOK X) (hw : (n2032 n).wp X Tryz.prog (retQ A) h) : FWK X Tryz.prog .normal 21 #[.int .u16 n] h A := fwk_neat (priv := []) (loops := []) (joins := []) (fd := Tryz.f21) (by kernel_rfl) (by simp) (by kernel_rfl) (by kernel_rfl) hX hw
noncomputable def n2034 (x_0 x_1 x_2 x_3 x_4 x_5 : Int) (x_6p : Option Addr) (x_6n x_6c : Nat) (y_0 y_1 y_2 y_3 y_4 y_5 : Int) (y_6p : Option Addr) (y_6n y_6c : Nat) (land day : Int) : T := .call false 71 #[.agg #[.int .i64 x_0, .int .i64 x_1, .int .i64 x_2, .int .i64 x_3, .int .i64 x_4, .int .i64 x_5, .slice x_6p x_6n x_6c], .agg #[.int .i64 y_0, .int .i64 y_1, .int .i64 y_2, .int .i64 y_3, .int .i64 y_4, .int .i64 y_5, .slice y_6p y_6n y_6c], .int .i64 land, .int .i64 day] fun v => .unB v fun b => bif b then .call false 71 #[.agg #[.int .i64 y_0, .int .i64 y_1, .int .i64 y_2, .int .i64 y_3, .int .i64 y_4, .int .i64 y_5, .slice y_6p y_6n y_6c], .agg #[.int .i64 x_0, .int .i64 x_1, .int .i64 x_2, .int .i64 x_3, .int .i64 x_4, .int .i64 x_5, .slice x_6p x_6n x_6c], .int .i64 land, .int .i64 day] fun v => .unB v fun b => .leaf (.ret (.bool b)) else .leaf (.ret (.bool false))
theorem w2034 (x_0 x_1 x_2 x_3 x_4 x_5 : Int) (x_6p : Option Addr) (x_6n x_6c : Nat) (y_0 y_1 y_2 y_3 y_4 y_5 : Int) (y_6p : Option Addr) (y_6n y_6c : Nat) (land day : Int) (hX : XOK X) (hw : (n2034 x_0 x_1 x_2 x_3 x_4 x_5 x_6p x_6n x_6c y_0 y_1 y_2 y_3 y_4 y_5 y_6p y_6n y_6c land day).wp X Tryz.prog (retQ A) h) : FWK X Tryz.prog .normal 25 #[.agg #[.int .i64 x_0, .int .i64 x_1, .int .i64 x_2, .int .i64 x_3, .int .i64 x_4, .int .i64 x_5, .slice x_6p x_6n x_6c], .agg #[.int .i64 y_0, .int .i64 y_1, .int .i64 y_2, .int .i64 y_3, .int .i64 y_4, .int .i64 y_5, .slice y_6p y_6n y_6c], .int .i64 land, .int .i64 day] h A := fwk_neat (priv := [4, 5]) (loops := []) (joins := []) (fd := Tryz.f25) (by kernel_rfl) (by simp) (by kernel_rfl) (by kernel_rfl) hX hw
noncomputable def n2035 (x_0 x_1 x_2 x_3 x_4 x_5 : Int) (x_6p : Option Addr) (x_6n x_6c : Nat) (e_0 e_1 e_2 : Int) (e_3p : Option Addr) (e_3n e_3c : Nat) (e_4 : Int) : T := .blk (.both (.sem false (Instr.buildSlice 58 0 #[]) fun v => .unS v fun a n c => .nd (.agg #[.int .i64 e_0, .int .i64 e_1, .int .i64 e_2, .slice e_3p e_3n e_3c, .int .i64 e_4]) (.nd (.slice x_6p x_6n x_6c) (.need (AV.pp 2 6 = AV.pp 2 6) (.both (.sem false (Builtin.append_ #[58, 58] 58 #[.slice a n c, .slice x_6p x_6n x_6c]) fun v => .unS v fun a n c => .nd (.agg #[.int .i64 e_0, .int .i64 e_1, .int .i64 e_2, .slice e_3p e_3n e_3c, .int .i64 e_4]) (.need (AV.pp 2 6 = AV.pp 2 6) (.sem false (Instr.buildSlice 58 1 #[(0, .agg #[.int .i64 e_0, .int .i64 e_1, .int .i64 e_2, .slice e_3p e_3n e_3c, .int .i64 e_4])]) fun v => .unS v fun a_1 n_1 c_1 => .need (AV.pp 2 6 = AV.pp 2 6) (.sem false (Builtin.append_ #[58, 58] 58 #[.slice a n c, .slice a_1 n_1 c_1]) fun v => .unS v fun a n c => .need (AV.pp 2 6 = AV.pp 2 6) (.leaf (.again [.int .i64 x_0, .int .i64 x_1, .int .i64 x_2, .int .i64 x_3, .int .i64 x_4, .int .i64 x_5, .slice a n c])))))) (.sem false (Instr.buildSlice 58 1 #[(0, .agg #[.int .i64 e_0, .int .i64 e_1, .int .i64 e_2, .slice e_3p e_3n e_3c, .int .i64 e_4])]) fun v => .unS v fun a_1 n_1 c_1 => .nd (.slice x_6p x_6n x_6c) (.need (AV.pp 2 6 = AV.pp 2 6) (.sem false (Builtin.append_ #[58, 58] 58 #[.slice a n c, .slice x_6p x_6n x_6c]) fun v => .unS v fun a n c => .need (AV.pp 2 6 = AV.pp 2 6) (.sem false (Builtin.append_ #[58, 58] 58 #[.slice a n c, .slice a_1 n_1 c_1]) fun v => .unS v fun a n c => .need (AV.pp 2 6 = AV.pp 2 6) (.leaf (.again [.int .i64 x_0, .int .i64 x_1, .int .i64 x_2, .int .i64 x_3, .int .i64 x_4, .int .i64 x_5, .slice a n c])))))))))) (.sem false (Instr.buildSlice 58 1 #[(0, .agg #[.int .i64 e_0, .int .i64 e_1, .int .i64 e_2, .slice e_3p e_3n e_3c, .int .i64 e_4])]) fun v => .unS v fun a n c => .nd (.slice x_6p x_6n x_6c) (.need (AV.pp 2 6 = AV.pp 2 6) (.sem false (Instr.buildSlice 58 0 #[]) fun v => .unS v fun a_1 n_1 c_1 => .nd (.slice x_6p x_6n x_6c) (.need (AV.pp 2 6 = AV.pp 2 6) (.sem false (Builtin.append_ #[58, 58] 58 #[.slice a_1 n_1 c_1, .slice x_6p x_6n x_6c]) fun v => .unS v fun a_2 n_2 c_2 => .need (AV.pp 2 6 = AV.pp 2 6) (.sem false (Builtin.append_ #[58, 58] 58 #[.slice a_2 n_2 c_2, .slice a n c]) fun v => .unS v fun a n c => .need (AV.pp 2 6 = AV.pp 2 6) (.leaf (.again [.int .i64 x_0, .int .i64 x_1, .int .i64 x_2, .int .i64 x_3, .int .i64 x_4, .int .i64 x_5, .slice a n c]))))))))) (fun vs => .popI .i64 vs fun n vs => .popI .i64 vs fun n_1 vs => .popI .i64 vs fun n_2 vs => .popI .i64 vs fun n_3 vs => .popI .i64 vs fun n_4 vs => .popI .i64 vs fun n_5 vs => .popS vs fun a n_6 c vs => .unNil vs (bif decide ((↑e_3n : Int) <= 20) then .call false 54 #[.agg #[.int .i64 n, .int .i64 n_1, .int .i64 n_2, .int .i64 n_3, .int .i64 n_4, .int .i64 n_5, .slice a n_6 c]] fun v => .unI .i64 v fun n_7 => .nd (.bool (decide ((↑e_3n : Int) <= 20))) (.nd (.int .i64 (↑e_3n : Int)) (.nd (.slice e_3p e_3n e_3c) (.need (AV.pp 3 3 = AV.pp 3 3) (.nd (.agg #[.int .i64 n, .int .i64 n_1, .int .i64 n_2, .int .i64 n_3, .int .i64 n_4, .int .i64 n_5, .slice a n_6 c]) (.nd (.bool (n_7 == 0)) (.nd (.bool (n_7 == 0)) (.nd (.bool (decide ((↑e_3n : Int) <= 20))) (.nd (.int .i64 (↑e_3n : Int)) (.nd (.slice e_3p e_3n e_3c) (.need (AV.pp 3 3 = AV.pp 3 3) (.leaf (.ret (.tuple #[.agg #[.int .i64 n, .int .i64 n_1, .int .i64 n_2, .int .i64 n_3, .int .i64 n_4, .int .i64 n_5, .slice a n_6 c], .bool (n_7 == 0)]))))))))))))) else .nd (.bool (decide ((↑e_3n : Int) <= 20))) (.nd (.int .i64 (↑e_3n : Int)) (.nd (.slice e_3p e_3n e_3c) (.need (AV.pp 3 3 = AV.pp 3 3) (.nd (.agg #[.int .i64 n, .int .i64 n_1, .int .i64 n_2, .int .i64 n_3, .int .i64 n_4, .int .i64 n_5, .slice a n_6 c]) (.both (.nd (.bool (decide ((↑e_3n : Int) <= 20))) (.nd (.int .i64 (↑e_3n : Int)) (.nd (.slice e_3p e_3n e_3c) (.need (AV.pp 3 3 = AV.pp 3 3) (.nd (.agg #[.int .i64 n, .int .i64 n_1, .int .i64 n_2, .int .i64 n_3, .int .i64 n_4, .int .i64 n_5, .slice a n_6 c]) (.nd (.bool false) (.nd (.bool (decide ((↑e_3n : Int) <= 20))) (.nd (.int .i64 (↑e_3n : Int)) (.nd (.slice e_3p e_3n e_3c) (.need (AV.pp 3 3 = AV.pp 3 3) (.leaf (.ret (.tuple #[.agg #[.int .i64 n, .int .i64 n_1, .int .i64 n_2, .int .i64 n_3, .int .i64 n_4, .int .i64 n_5, .slice a n_6 c], .bool false]))))))))))))) (.nd (.bool (decide ((↑e_3n : Int) <= 20))) (.nd (.int .i64 (↑e_3n : Int)) (.nd (.slice e_3p e_3n e_3c) (.need (AV.pp 3 3 = AV.pp 3 3) (.nd (.bool (decide ((↑e_3n : Int) <= 20))) (.nd (.int .i64 (↑e_3n : Int)) (.nd (.slice e_3p e_3n e_3c) (.need (AV.pp 3 3 = AV.pp 3 3) (.leaf (.ret (.tuple #[.agg #[.int .i64 n, .int .i64 n_1, .int .i64 n_2, .int .i64 n_3, .int .i64 n_4, .int .i64 n_5, .slice a n_6 c], .bool false])))))))))))))))))) (fun vs => .popI .i64 vs fun n vs => .popI .i64 vs fun n vs => .popI .i64 vs fun n vs => .popI .i64 vs fun n vs => .popI .i64 vs fun n vs => .popI .i64 vs fun n vs => .popS vs fun a n c vs => .unNil vs (.leaf (.ret (.tuple #[.agg #[.int .i64 0, .int .i64 0, .int .i64 0, .int .i64 0, .int .i64 0, .int .i64 0, .slice none 0 0], .bool false])))) fun x x_6 => .fail
theorem w2035 (x_0 x_1 x_2 x_3 x_4 x_5 : Int) (x_6p : Option Addr) (x_6n x_6c : Nat) (e_0 e_1 e_2 : Int) (e_3p : Option Addr) (e_3n e_3c : Nat) (e_4 : Int) (hX : XOK X) (hw : (n2035 x_0 x_1 x_2 x_3 x_4 x_5 x_6p x_6n x_6c e_0 e_1 e_2 e_3p e_3n e_3c e_4).wp X Tryz.prog (retQ A) h) : FWK X Tryz.prog .normal 17 #[.agg #[.int .i64 x_0, .int .i64 x_1, .int .i64 x_2, .int .i64 x_3, .int .i64 x_4, .int .i64 x_5, .slice x_6p x_6n x_6c], .agg #[.int .i64 e_0, .int .i64 e_1, .int .i64 e_2, .slice e_3p e_3n e_3c, .int .i64 e_4]] h A := fwk_neat (priv := [2, 3, 4, 6]) (loops := []) (joins := [{ id := 3, slots := [(28672, .int .i64), (28673, .int .i64), (28674, .int .i64), (28675, .int .i64), (28676, .int .i64), (28677, .int .i64), (28678, .slice)], ro := [2, 3, 4], outs := [] }]) (fd := Tryz.f17) (by kernel_rfl) (by simp) (by kernel_rfl) (by kernel_rfl) hX hw
noncomputable def n2036 (x_0 x_1 x_2 x_3 x_4 x_5 : Int) (x_6p : Option Addr) (x_6n x_6c : Nat) : T := .loop [.int .i64 0, .int .i64 x_0, .int .i64 x_1, .int .i64 x_2, .int .i64 x_3, .int .i64 x_4, .int .i64 x_5, .slice none 0 0] (fun vs => .popI .i64 vs fun n vs => .popI .i64 vs fun n_1 vs => .popI .i64 vs fun n_2 vs => .popI .i64 vs fun n_3 vs => .popI .i64 vs fun n_4 vs => .popI .i64 vs fun n_5 vs => .popI .i64 vs fun n_6 vs => .popS vs fun a n_7 c vs => .unNil vs (bif decide (n < (↑x_6n : Int)) then .need (0 <= n /\ n < (↑x_6n : Int)) (.someA x_6p fun a_1 => .loadI .i64 ((a_1.add (n.toNat * 5)).add 0) fun n_8 => bif n_8 != 5 then .need (0 <= n /\ n < (↑x_6n : Int)) (.someA x_6p fun a_2 => .loadI .i64 ((a_2.add (n.toNat * 5)).add 0) fun n_9 => .loadI .i64 ((a_2.add (n.toNat * 5)).add 1) fun n_10 => .loadI .i64 ((a_2.add (n.toNat * 5)).add 2) fun n_11 => .loadS ((a_2.add (n.toNat * 5)).add 3) fun p n_12 c_1 => .loadI .i64 ((a_2.add (n.toNat * 5)).add 4) fun n_13 => .sem false (Instr.buildSlice 58 1 #[(0, .agg #[.int .i64 n_9, .int .i64 n_10, .int .i64 n_11, .slice p n_12 c_1, .int .i64 n_13])]) fun v => .unS v fun a_3 n_14 c_2 => .need (0 <= n /\ n < (↑x_6n : Int)) (.someA x_6p fun a_4 => .need (AV.val (.pointer (some (a_4.add (n.toNat * 5)))) = AV.val (.pointer (some (a_2.add (n.toNat * 5))))) (.nd (.int .i64 n) (.nd (.slice x_6p x_6n x_6c) (.need (AV.pp 1 6 = AV.pp 1 6) (.nd (.slice a n_7 c) (.need (AV.pp 3 6 = AV.pp 3 6) (.sem false (Builtin.append_ #[58, 58] 58 #[.slice a n_7 c, .slice a_3 n_14 c_2]) fun v => .unS v fun a n_15 c => .need (0 <= n /\ n < (↑x_6n : Int)) (.someA x_6p fun a_5 => .need (AV.val (.pointer (some (a_5.add (n.toNat * 5)))) = AV.val (.pointer (some (a_2.add (n.toNat * 5))))) (.nd (.int .i64 n) (.nd (.slice x_6p x_6n x_6c) (.need (AV.pp 1 6 = AV.pp 1 6) (.need (AV.pp 3 6 = AV.pp 3 6) (.leaf (.again [.int .i64 (IntKind.wrap .i64 (n + 1)), .int .i64 n_1, .int .i64 n_2, .int .i64 n_3, .int .i64 n_4, .int .i64 n_5, .int .i64 n_6, .slice a n_15 c]))))))))))))))) else .leaf (.again [.int .i64 (IntKind.wrap .i64 (n + 1)), .int .i64 n_1, .int .i64 n_2, .int .i64 n_3, .int .i64 n_4, .int .i64 n_5, .int .i64 n_6, .slice a n_7 c])) else .leaf (.brk [.int .i64 n, .int .i64 n_1, .int .i64 n_2, .int .i64 n_3, .int .i64 n_4, .int .i64 n_5, .int .i64 n_6, .slice a n_7 c]))) (fun vs => .popI .i64 vs fun n vs => .popI .i64 vs fun n vs => .popI .i64 vs fun n_1 vs => .popI .i64 vs fun n_2 vs => .popI .i64 vs fun n_3 vs => .popI .i64 vs fun n_4 vs => .popI .i64 vs fun n_5 vs => .popS vs fun a n_6 c vs => .unNil vs (.leaf (.ret (.agg #[.int .i64 n, .int .i64 n_1, .int .i64 n_2, .int .i64 n_3, .int .i64 n_4, .int .i64 n_5, .slice a n_6 c])))) (fun vs => .popI .i64 vs fun n vs => .popI .i64 vs fun n vs => .popI .i64 vs fun n vs => .popI .i64 vs fun n vs => .popI .i64 vs fun n vs => .popI .i64 vs fun n vs => .popI .i64 vs fun n vs => .popS vs fun a n c vs => .unNil vs (.leaf (.ret (.agg #[.int .i64 0, .int .i64 0, .int .i64 0, .int .i64 0, .int .i64 0, .int .i64 0, .slice none 0 0])))) fun x x_6 => .fail
theorem w2036 (x_0 x_1 x_2 x_3 x_4 x_5 : Int) (x_6p : Option Addr) (x_6n x_6c : Nat) (hX : XOK X) (hw : (n2036 x_0 x_1 x_2 x_3 x_4 x_5 x_6p x_6n x_6c).wp X Tryz.prog (retQ A) h) : FWK X Tryz.prog .normal 23 #[.agg #[.int .i64 x_0, .int .i64 x_1, .int .i64 x_2, .int .i64 x_3, .int .i64 x_4, .int .i64 x_5, .slice x_6p x_6n x_6c]] h A := fwk_neat (priv := [1, 2, 3]) (loops := [{ id := 0, slots := [(4, .int .i64), (16384, .int .i64), (16385, .int .i64), (16386, .int .i64), (16387, .int .i64), (16388, .int .i64), (16389, .int .i64), (16390, .slice)], ro := [1, 2], outs := [] }]) (joins := []) (fd := Tryz.f23) (by kernel_rfl) (by simp) (by kernel_rfl) (by kernel_rfl) hX hw
noncomputable def n2040 (x_0 x_1 x_2 x_3 x_4 x_5 : Int) (x_6p : Option Addr) (x_6n x_6c : Nat) (no_0 no_1 no_2 no_3 no_4 no_5 : Int) (no_6p : Option Addr) (no_6n no_6c : Nat) (land day : Int) : T := .call false 58 #[.agg #[.int .i64 x_0, .int .i64 x_1, .int .i64 x_2, .int .i64 x_3, .int .i64 x_4, .int .i64 x_5, .slice x_6p x_6n x_6c], .int .i64 land, .int .i64 day] fun v => .unTup v fun l => .unCons l fun v vs => .unS v fun a n c => .unCons vs fun v vs => .unI .i64 v fun n_1 => .unNil vs (.call false 58 #[.agg #[.int .i64 no_0, .int .i64 no_1, .int .i64 no_2, .int .i64 no_3, .int .i64 no_4, .int .i64 no_5, .slice no_6p no_6n no_6c], .int .i64 land, .int .i64 day] fun v => .unTup v fun l => .unCons l fun v vs => .unS v fun a_1 n_2 c => .unCons vs fun v vs => .unI .i64 v fun n_3 => .unNil vs (.blk (bif n_1 != 0 then .leaf (.retn [.bool false]) else bif n_3 != 0 then .leaf (.retn [.bool false]) else bif (↑n : Int) != (↑n_2 : Int) then .leaf (.retn [.bool false]) else .leaf (.again [.bool false])) (fun vs => .popB vs fun b vs => .unNil vs (.loop [.bool b, .int .i64 0] (fun vs => .popB vs fun b vs => .popI .i64 vs fun n_4 vs => .unNil vs (bif decide (n_4 < (↑n : Int)) then .need (0 <= n_4 /\ n_4 < (↑n : Int)) (.someA a fun a => .loadB (a.add (n_4.toNat * 1)) fun b_1 => bif b_1 then .need (0 <= n_4 /\ n_4 < (↑n_2 : Int)) (.someA a_1 fun a => .loadB (a.add (n_4.toNat * 1)) fun b_2 => bif !b_2 then .leaf (.retn [.bool false, .int .i64 n_4]) else .leaf (.again [.bool b, .int .i64 (IntKind.wrap .i64 (n_4 + 1))])) else .leaf (.again [.bool b, .int .i64 (IntKind.wrap .i64 (n_4 + 1))])) else .leaf (.brk [.bool b, .int .i64 n_4]))) (fun vs => .popB vs fun b vs => .popI .i64 vs fun n vs => .unNil vs (.leaf (.ret (.bool true)))) (fun vs => .popB vs fun b vs => .popI .i64 vs fun n vs => .unNil vs (.leaf (.ret (.bool b)))) fun x x_6 => .fail)) (fun vs => .popB vs fun b vs => .unNil vs (.leaf (.ret (.bool b)))) fun x x_6 => .fail))
theorem w2040 (x_0 x_1 x_2 x_3 x_4 x_5 : Int) (x_6p : Option Addr) (x_6n x_6c : Nat) (no_0 no_1 no_2 no_3 no_4 no_5 : Int) (no_6p : Option Addr) (no_6n no_6c : Nat) (land day : Int) (hX : XOK X) (hw : (n2040 x_0 x_1 x_2 x_3 x_4 x_5 x_6p x_6n x_6c no_0 no_1 no_2 no_3 no_4 no_5 no_6p no_6n no_6c land day).wp X Tryz.prog (retQ A) h) : FWK X Tryz.prog .normal 24 #[.agg #[.int .i64 x_0, .int .i64 x_1, .int .i64 x_2, .int .i64 x_3, .int .i64 x_4, .int .i64 x_5, .slice x_6p x_6n x_6c], .agg #[.int .i64 no_0, .int .i64 no_1, .int .i64 no_2, .int .i64 no_3, .int .i64 no_4, .int .i64 no_5, .slice no_6p no_6n no_6c], .int .i64 land, .int .i64 day] h A := fwk_neat (priv := [4, 5]) (loops := [{ id := 0, slots := [(8, .bool), (13, .int .i64)], ro := [4, 5], outs := [] }]) (joins := [{ id := 5, slots := [(8, .bool)], ro := [4, 5], outs := [] }]) (fd := Tryz.f24) (by kernel_rfl) (by simp) (by kernel_rfl) (by kernel_rfl) hX hw
noncomputable def n2048  : T := .sem false (Instr.buildSlice 30 3 #[(0, .int .i64 0), (1, .int .i64 1), (2, .int .i64 2)]) fun v => .unS v fun a n c => .sem false (Instr.buildSlice 30 1 #[(0, .int .i64 1)]) fun v => .unS v fun a_1 n_1 c_1 => .sem false (Instr.buildSlice 30 1 #[(0, .int .i64 1)]) fun v => .unS v fun a_2 n_2 c_2 => .sem false (Instr.buildSlice 30 1 #[(0, .int .i64 2)]) fun v => .unS v fun a_3 n_3 c_3 => .sem false (Instr.buildSlice 30 1 #[(0, .int .i64 0)]) fun v => .unS v fun a_4 n_4 c_4 => .sem false (Instr.buildSlice 30 1 #[(0, .int .i64 0)]) fun v => .unS v fun a_5 n_5 c_5 => .sem false (Instr.buildSlice 30 2 #[(0, .int .i64 0), (1, .int .i64 1)]) fun v => .unS v fun a_6 n_6 c_6 => .sem false (Instr.buildSlice 30 1 #[(0, .int .i64 1)]) fun v => .unS v fun a_7 n_7 c_7 => .sem false (Instr.buildSlice 30 1 #[(0, .int .i64 1)]) fun v => .unS v fun a_8 n_8 c_8 => .sem false (Instr.buildSlice 30 1 #[(0, .int .i64 0)]) fun v => .unS v fun a_9 n_9 c_9 => .sem false (Instr.buildSlice 58 10 #[(0, .agg #[.int .i64 0, .int .i64 12, .int .i64 0, .slice a n c, .int .i64 0]), (1, .agg #[.int .i64 1, .int .i64 15, .int .i64 0, .slice a_1 n_1 c_1, .int .i64 0]), (2, .agg #[.int .i64 2, .int .i64 25, .int .i64 0, .slice a_2 n_2 c_2, .int .i64 0]), (3, .agg #[.int .i64 3, .int .i64 22, .int .i64 0, .slice a_3 n_3 c_3, .int .i64 0]), (4, .agg #[.int .i64 4, .int .i64 40, .int .i64 0, .slice a_4 n_4 c_4, .int .i64 30]), (5, .agg #[.int .i64 5, .int .i64 44, .int .i64 0, .slice a_5 n_5 c_5, .int .i64 0]), (6, .agg #[.int .i64 0, .int .i64 20, .int .i64 1, .slice a_6 n_6 c_6, .int .i64 0]), (7, .agg #[.int .i64 1, .int .i64 27, .int .i64 1, .slice a_7 n_7 c_7, .int .i64 0]), (8, .agg #[.int .i64 4, .int .i64 50, .int .i64 0, .slice a_8 n_8 c_8, .int .i64 31]), (9, .agg #[.int .i64 6, .int .i64 18, .int .i64 0, .slice a_9 n_9 c_9, .int .i64 3])]) fun v => .unS v fun a n c => .leaf (.ret (.agg #[.int .i64 3, .int .i64 2, .int .i64 10, .int .i64 20, .int .i64 6, .int .i64 5, .slice a n c]))
theorem w2048  (hX : XOK X) (hw : (n2048 ).wp X Tryz.prog (retQ A) h) : FWK X Tryz.prog .normal 57 #[] h A := fwk_neat (priv := [0]) (loops := []) (joins := []) (fd := Tryz.f57) (by kernel_rfl) (by simp) (by kernel_rfl) (by kernel_rfl) hX hw
noncomputable def n2049 (a b : Int) : T := .leaf (.ret (.agg #[.int .i64 a, .int .i64 b]))
theorem w2049 (a b : Int) (hX : XOK X) (hw : (n2049 a b).wp X Tryz.prog (retQ A) h) : FWK X Tryz.prog .normal 65 #[.int .i64 a, .int .i64 b] h A := fwk_neat (priv := [4]) (loops := []) (joins := []) (fd := Tryz.f65) (by kernel_rfl) (by simp) (by kernel_rfl) (by kernel_rfl) hX hw
end Go.Proofs.YtgljffachdhigaaGreatDoor
end
section
namespace Go.Proofs.YtgljffachdhigaaGreatDoor.Tre
open Go Go.TM Go.Proofs Go.TM.Tr
attribute [local irreducible] T.wp CV FWK
def bigB (x : TF) : Bool := decide (20 < x.events.length) || x.events.any fun e => decide (20 < e.items.length)
theorem c2016 {h : LH} {f : TC} {x : TF} (hx : TreatyR h.get f x) : Pu Tryz.prog 18 #[treatyV f x] h (.bool (bigB x)) := by
 refine w2016 _ _ _ _ _ _ _ _ _ X0_ok ?_
 unfold n2016
 have hn := hx.2.1
 have hb := hx.2.2.1
 refine t_if (fun e => ?_) (fun e => ?_)
 ·exact t_ret ⟨by rw [bigB, decide_eq_true (by omega)]; rfl, rfl⟩
 have h0 : bigB x = x.events.any fun e => decide (20 < e.items.length) := by rw [bigB, decide_eq_false (by omega)]; rfl
 refine t_loop (fun mm vs h' => h = h' /\ ∃ j : Nat, vs = [.bool false, .int .i64 j] /\ j <= f.n /\ mm = f.n - j /\ bigB x = (x.events.drop j).any fun e => decide (20 < e.items.length)) ⟨rfl, 0, rfl, Nat.zero_le _, rfl, h0⟩ ?_
 rintro Y mm vs _ hY ⟨rfl, j, rfl, hj, rfl, hc⟩
 refine gZ ?_
 refine t_if (fun e1 => ?_) (fun e1 => ?_)
 ·obtain ⟨y, a, hy, ha, g0, g1, g2, ⟨q, m, c, g3, _, g5⟩, g4⟩ := hx.2.at (i := j) (by omega)
  rw [drop_of hy, List.any_cons] at hc
  have hm := g5.1
  refine gZ ?_
  refine t_if (fun e2 => ?_) (fun e2 => ?_)
  ·refine gZ ?_
   rw [decide_eq_true (by omega), Bool.true_or] at hc
   exact t_ret ⟨by rw [hc], rfl⟩
  ·rw [decide_eq_false (by omega), Bool.false_or] at hc
   refine t_again (hY (f.n - (j + 1)) _ _ (by omega) ⟨rfl, j + 1, ?_, by omega, rfl, hc⟩)
   rw [wrap_id (by omega) (by omega)]; rfl
 ·refine gZ ?_
  rw [List.drop_eq_nil_of_le (by omega)] at hc
  exact t_ret ⟨by rw [hc]; rfl, rfl⟩
theorem c2032 {h : LH} {n : Int} (hn : 0 <= n /\ n <= 65535) : Pu Tryz.prog 21 #[.int .u16 n] h (.int .i64 (n % 10000)) := by
 refine w2032 _ X0_ok ?_
 unfold n2032
 refine gT (by omega) ?_
 rw [wrap_id (by omega) (by omega), Int.tmod_eq_emod_of_nonneg hn.1]
 exact t_ret ⟨rfl, rfl⟩
theorem c2049 {h : LH} (a b : Int) : Pu Tryz.prog 65 #[.int .i64 a, .int .i64 b] h (.agg #[.int .i64 a, .int .i64 b]) := by
 refine w2049 _ _ X0_ok ?_
 unfold n2049
 exact t_ret ⟨rfl, rfl⟩
section
variable {X : XP} {Q : Leaf -> LH -> Prop} {h : LH} {n : Nat} {parts : Array (Nat × Value)} {k : Value -> T}
theorem t_ints (l : List Int) (hn : n * 1 <= 2 ^ 24) (hl : l.length = n) (hpos : n * 1 ≠ 0)
  (hf : Instr.fill (fun i => some (i * 1, 1)) ((Array.range (n * 1)).map ((Value.int .i64 0).cells[· % (Value.int .i64 0).cells.size]!)) parts.toList = some (l.map (Value.int .i64)).toArray)
  (hk : ∀ r h', h.le h' -> Sl IntE 1 h'.get (some ⟨r, 0, none⟩) n l -> (k (.slice (some ⟨r, 0, none⟩) n n)).wp X Tryz.prog Q h') : (T.sem false (Instr.buildSlice 30 n parts) k).wp X Tryz.prog Q h := by
 refine t_buildR (l.map (Value.int .i64)) und50 inf3 hn hpos hf fun r h' le _ hc => hk r h' le ?_
 refine ⟨hl.symm, by omega, fun i x hx => ⟨_, rfl, ?_⟩⟩
 unfold IntE
 rw [Nat.mul_one]
 exact hc i _ (by rw [List.getElem?_map, hx]; rfl)
theorem t_bools (l : List Bool) (hn : n * 1 <= 2 ^ 24) (hl : l.length = n) (hpos : n * 1 ≠ 0)
  (hf : Instr.fill (fun i => some (i * 1, 1)) ((Array.range (n * 1)).map ((Value.bool false).cells[· % (Value.bool false).cells.size]!)) parts.toList = some (l.map Value.bool).toArray)
  (hk : ∀ r h', h.le h' -> Sl BoolE 1 h'.get (some ⟨r, 0, none⟩) n l -> (k (.slice (some ⟨r, 0, none⟩) n n)).wp X Tryz.prog Q h') : (T.sem false (Instr.buildSlice 68 n parts) k).wp X Tryz.prog Q h := by
 refine t_buildR (l.map Value.bool) undBs inf4 hn hpos hf fun r h' le _ hc => hk r h' le ?_
 refine ⟨hl.symm, by omega, fun i x hx => ⟨_, rfl, ?_⟩⟩
 unfold BoolE
 rw [Nat.mul_one, add_zero']
 exact hc i _ (by rw [List.getElem?_map, hx]; rfl)
end
theorem sp_two {h : Cells} {r : Nat} {a b : Sp} (hc : ∀ (j : Nat) w, [Value.int .i64 a.first, .int .i64 a.last, .int .i64 b.first, .int .i64 b.last][j]? = some w -> h.cell? (Addr.add ⟨r, 0, none⟩ j) = some w) : Sl SpE 2 h (some ⟨r, 0, none⟩) 2 [a, b] := by
 refine ⟨rfl, by simp, fun i x hx => ⟨_, rfl, ?_⟩⟩
 match i, hx with
 | 0, hx => cases hx; exact ⟨hc 0 _ rfl, hc 1 _ rfl⟩
 | 1, hx => cases hx; exact ⟨by rw [add_plain, add_plain]; exact hc 2 _ rfl, by rw [add_plain, add_plain]; exact hc 3 _ rfl⟩
 | i + 2, hx => simp at hx
def exT : TF := ⟨3, 2, 10, 20, 6, 5, [⟨0, 12, 0, [0, 1, 2], 0⟩, ⟨1, 15, 0, [1], 0⟩, ⟨2, 25, 0, [1], 0⟩, ⟨3, 22, 0, [2], 0⟩, ⟨4, 40, 0, [0], 30⟩, ⟨5, 44, 0, [0], 0⟩, ⟨0, 20, 1, [0, 1], 0⟩, ⟨1, 27, 1, [1], 0⟩, ⟨4, 50, 0, [1], 31⟩, ⟨6, 18, 0, [0], 3⟩]⟩
set_option maxRecDepth 10000 in
theorem c2048 {h : LH} : Gr Tryz.prog 57 #[] h fun r h' => ∃ f, r = treatyV f exT /\ TreatyR h'.get f exT := by
 refine w2048 X0_ok ?_
 unfold n2048
 refine t_ints [0, 1, 2] (by decide) rfl (by decide) (by kernel_rfl) fun r0 h0 l0 s0 => ?_
 refine gZ ?_
 refine t_ints [1] (by decide) rfl (by decide) (by kernel_rfl) fun r1 h1 l1 s1 => ?_
 refine gZ ?_
 refine t_ints [1] (by decide) rfl (by decide) (by kernel_rfl) fun r2 h2 l2 s2 => ?_
 refine gZ ?_
 refine t_ints [2] (by decide) rfl (by decide) (by kernel_rfl) fun r3 h3 l3 s3 => ?_
 refine gZ ?_
 refine t_ints [0] (by decide) rfl (by decide) (by kernel_rfl) fun r4 h4 l4 s4 => ?_
 refine gZ ?_
 refine t_ints [0] (by decide) rfl (by decide) (by kernel_rfl) fun r5 h5 l5 s5 => ?_
 refine gZ ?_
 refine t_ints [0, 1] (by decide) rfl (by decide) (by kernel_rfl) fun r6 h6 l6 s6 => ?_
 refine gZ ?_
 refine t_ints [1] (by decide) rfl (by decide) (by kernel_rfl) fun r7 h7 l7 s7 => ?_
 refine gZ ?_
 refine t_ints [1] (by decide) rfl (by decide) (by kernel_rfl) fun r8 h8 l8 s8 => ?_
 refine gZ ?_
 refine t_ints [0] (by decide) rfl (by decide) (by kernel_rfl) fun r9 h9 l9 s9 => ?_
 refine gZ ?_
 have s0 := s0.le IntE.grow (LH.le_trans l1 (LH.le_trans l2 (LH.le_trans l3 (LH.le_trans l4 (LH.le_trans l5 (LH.le_trans l6 (LH.le_trans l7 (LH.le_trans l8 (l9))))))))).1
 have s1 := s1.le IntE.grow (LH.le_trans l2 (LH.le_trans l3 (LH.le_trans l4 (LH.le_trans l5 (LH.le_trans l6 (LH.le_trans l7 (LH.le_trans l8 (l9)))))))).1
 have s2 := s2.le IntE.grow (LH.le_trans l3 (LH.le_trans l4 (LH.le_trans l5 (LH.le_trans l6 (LH.le_trans l7 (LH.le_trans l8 (l9))))))).1
 have s3 := s3.le IntE.grow (LH.le_trans l4 (LH.le_trans l5 (LH.le_trans l6 (LH.le_trans l7 (LH.le_trans l8 (l9)))))).1
 have s4 := s4.le IntE.grow (LH.le_trans l5 (LH.le_trans l6 (LH.le_trans l7 (LH.le_trans l8 (l9))))).1
 have s5 := s5.le IntE.grow (LH.le_trans l6 (LH.le_trans l7 (LH.le_trans l8 (l9)))).1
 have s6 := s6.le IntE.grow (LH.le_trans l7 (LH.le_trans l8 (l9))).1
 have s7 := s7.le IntE.grow (LH.le_trans l8 (l9)).1
 have s8 := s8.le IntE.grow (l9).1
 have l09 : h.le h9 := LH.le_trans l0 (LH.le_trans l1 (LH.le_trans l2 (LH.le_trans l3 (LH.le_trans l4 (LH.le_trans l5 (LH.le_trans l6 (LH.le_trans l7 (LH.le_trans l8 (l9)))))))))
 refine t_build undEvs infEv (by decide) (by decide) (cells := #[.int .i64 0, .int .i64 12, .int .i64 0, .slice (some ⟨r0, 0, none⟩) 3 3, .int .i64 0, .int .i64 1, .int .i64 15, .int .i64 0, .slice (some ⟨r1, 0, none⟩) 1 1, .int .i64 0, .int .i64 2, .int .i64 25, .int .i64 0, .slice (some ⟨r2, 0, none⟩) 1 1, .int .i64 0, .int .i64 3, .int .i64 22, .int .i64 0, .slice (some ⟨r3, 0, none⟩) 1 1, .int .i64 0, .int .i64 4, .int .i64 40, .int .i64 0, .slice (some ⟨r4, 0, none⟩) 1 1, .int .i64 30, .int .i64 5, .int .i64 44, .int .i64 0, .slice (some ⟨r5, 0, none⟩) 1 1, .int .i64 0, .int .i64 0, .int .i64 20, .int .i64 1, .slice (some ⟨r6, 0, none⟩) 2 2, .int .i64 0, .int .i64 1, .int .i64 27, .int .i64 1, .slice (some ⟨r7, 0, none⟩) 1 1, .int .i64 0, .int .i64 4, .int .i64 50, .int .i64 0, .slice (some ⟨r8, 0, none⟩) 1 1, .int .i64 31, .int .i64 6, .int .i64 18, .int .i64 0, .slice (some ⟨r9, 0, none⟩) 1 1, .int .i64 3]) (by kernel_rfl) fun r hr => ?_
 have la := LH.upd_le (x := (true, .cells #[.int .i64 0, .int .i64 12, .int .i64 0, .slice (some ⟨r0, 0, none⟩) 3 3, .int .i64 0, .int .i64 1, .int .i64 15, .int .i64 0, .slice (some ⟨r1, 0, none⟩) 1 1, .int .i64 0, .int .i64 2, .int .i64 25, .int .i64 0, .slice (some ⟨r2, 0, none⟩) 1 1, .int .i64 0, .int .i64 3, .int .i64 22, .int .i64 0, .slice (some ⟨r3, 0, none⟩) 1 1, .int .i64 0, .int .i64 4, .int .i64 40, .int .i64 0, .slice (some ⟨r4, 0, none⟩) 1 1, .int .i64 30, .int .i64 5, .int .i64 44, .int .i64 0, .slice (some ⟨r5, 0, none⟩) 1 1, .int .i64 0, .int .i64 0, .int .i64 20, .int .i64 1, .slice (some ⟨r6, 0, none⟩) 2 2, .int .i64 0, .int .i64 1, .int .i64 27, .int .i64 1, .slice (some ⟨r7, 0, none⟩) 1 1, .int .i64 0, .int .i64 4, .int .i64 50, .int .i64 0, .slice (some ⟨r8, 0, none⟩) 1 1, .int .i64 31, .int .i64 6, .int .i64 18, .int .i64 0, .slice (some ⟨r9, 0, none⟩) 1 1, .int .i64 3] 63 (0, 0))) hr
 have rows : Go.TM.Rows (EventEnc h9.get) [.int .i64 0, .int .i64 12, .int .i64 0, .slice (some ⟨r0, 0, none⟩) 3 3, .int .i64 0, .int .i64 1, .int .i64 15, .int .i64 0, .slice (some ⟨r1, 0, none⟩) 1 1, .int .i64 0, .int .i64 2, .int .i64 25, .int .i64 0, .slice (some ⟨r2, 0, none⟩) 1 1, .int .i64 0, .int .i64 3, .int .i64 22, .int .i64 0, .slice (some ⟨r3, 0, none⟩) 1 1, .int .i64 0, .int .i64 4, .int .i64 40, .int .i64 0, .slice (some ⟨r4, 0, none⟩) 1 1, .int .i64 30, .int .i64 5, .int .i64 44, .int .i64 0, .slice (some ⟨r5, 0, none⟩) 1 1, .int .i64 0, .int .i64 0, .int .i64 20, .int .i64 1, .slice (some ⟨r6, 0, none⟩) 2 2, .int .i64 0, .int .i64 1, .int .i64 27, .int .i64 1, .slice (some ⟨r7, 0, none⟩) 1 1, .int .i64 0, .int .i64 4, .int .i64 50, .int .i64 0, .slice (some ⟨r8, 0, none⟩) 1 1, .int .i64 31, .int .i64 6, .int .i64 18, .int .i64 0, .slice (some ⟨r9, 0, none⟩) 1 1, .int .i64 3] exT.events := Go.TM.Rows.snoc (x := (⟨6, 18, 0, [0], 3⟩ : Ev)) (ws := [.int .i64 6, .int .i64 18, .int .i64 0, .slice (some ⟨r9, 0, none⟩) 1 1, .int .i64 3]) (Go.TM.Rows.snoc (x := (⟨4, 50, 0, [1], 31⟩ : Ev)) (ws := [.int .i64 4, .int .i64 50, .int .i64 0, .slice (some ⟨r8, 0, none⟩) 1 1, .int .i64 31]) (Go.TM.Rows.snoc (x := (⟨1, 27, 1, [1], 0⟩ : Ev)) (ws := [.int .i64 1, .int .i64 27, .int .i64 1, .slice (some ⟨r7, 0, none⟩) 1 1, .int .i64 0]) (Go.TM.Rows.snoc (x := (⟨0, 20, 1, [0, 1], 0⟩ : Ev)) (ws := [.int .i64 0, .int .i64 20, .int .i64 1, .slice (some ⟨r6, 0, none⟩) 2 2, .int .i64 0]) (Go.TM.Rows.snoc (x := (⟨5, 44, 0, [0], 0⟩ : Ev)) (ws := [.int .i64 5, .int .i64 44, .int .i64 0, .slice (some ⟨r5, 0, none⟩) 1 1, .int .i64 0]) (Go.TM.Rows.snoc (x := (⟨4, 40, 0, [0], 30⟩ : Ev)) (ws := [.int .i64 4, .int .i64 40, .int .i64 0, .slice (some ⟨r4, 0, none⟩) 1 1, .int .i64 30]) (Go.TM.Rows.snoc (x := (⟨3, 22, 0, [2], 0⟩ : Ev)) (ws := [.int .i64 3, .int .i64 22, .int .i64 0, .slice (some ⟨r3, 0, none⟩) 1 1, .int .i64 0]) (Go.TM.Rows.snoc (x := (⟨2, 25, 0, [1], 0⟩ : Ev)) (ws := [.int .i64 2, .int .i64 25, .int .i64 0, .slice (some ⟨r2, 0, none⟩) 1 1, .int .i64 0]) (Go.TM.Rows.snoc (x := (⟨1, 15, 0, [1], 0⟩ : Ev)) (ws := [.int .i64 1, .int .i64 15, .int .i64 0, .slice (some ⟨r1, 0, none⟩) 1 1, .int .i64 0]) (Go.TM.Rows.snoc (x := (⟨0, 12, 0, [0, 1, 2], 0⟩ : Ev)) (ws := [.int .i64 0, .int .i64 12, .int .i64 0, .slice (some ⟨r0, 0, none⟩) 3 3, .int .i64 0]) (.nil) ⟨_, _, _, rfl, Nat.le_refl _, s0⟩) ⟨_, _, _, rfl, Nat.le_refl _, s1⟩) ⟨_, _, _, rfl, Nat.le_refl _, s2⟩) ⟨_, _, _, rfl, Nat.le_refl _, s3⟩) ⟨_, _, _, rfl, Nat.le_refl _, s4⟩) ⟨_, _, _, rfl, Nat.le_refl _, s5⟩) ⟨_, _, _, rfl, Nat.le_refl _, s6⟩) ⟨_, _, _, rfl, Nat.le_refl _, s7⟩) ⟨_, _, _, rfl, Nat.le_refl _, s8⟩) ⟨_, _, _, rfl, Nat.le_refl _, s9⟩
 refine gZ ?_
 refine t_ret ⟨LH.le_trans l09 la, ⟨some ⟨r, 0, none⟩, 10, 10⟩, rfl, Nat.le_refl _, ?_⟩
 refine rows.sl EventEnc.len (by omega) (EventEnc.e (Rd.of_le la.1)) (el := 63) ⟨rfl, .inr ⟨r, _, rfl, Cells.upd_self _ _ _, rfl, Nat.le_refl _, fun j v hv => by simpa using hv⟩⟩ (by decide)
end Go.Proofs.YtgljffachdhigaaGreatDoor.Tre
end
section
namespace Go.Proofs.YtgljffachdhigaaGreatDoor.Tre
open Go Go.TM Go.Proofs Go.TM.Tr
attribute [local irreducible] T.wp CV FWK
def datesA (x : TF) (k d : Int) : List Int := if askedDayT x k d = 0 then datesT x k d else []
def protA (x : TF) (k d : Int) : List Bool := if askedDayT x k d = 0 then protT x k d else []
def turnsA (x : TF) (k d : Int) : List Int := if askedDayT x k d = 0 then turnsT x k d else []
def SpansA (x : TF) (k i : Int) (m : List Sp) : Prop := (askedItemT x k i ≠ 0 /\ m = []) \/ (askedItemT x k i = 0 /\ ∃ l, IsDays x l /\ m = spansT x k i l)
def needA (x : TF) (k i d : Int) : List Int := if askedAllT x k i d = 0 /\ 0 <= dateOn x k i d then needT x k i d else []
def heldA (x : TF) (k i d : Int) : Bool := decide (askedAllT x k i d = 0 /\ 0 <= dateOn x k i d)
theorem SpansA.one {x : TF} {k i : Int} {m m' : List Sp} (h : SpansA x k i m) (h' : SpansA x k i m') : m = m' := by
 rcases h with ⟨h1, rfl⟩ | ⟨h1, l, h2, rfl⟩ <;> rcases h' with ⟨h3, rfl⟩ | ⟨h3, l', h4, rfl⟩
 ·rfl
 ·exact absurd h3 h1
 ·exact absurd h1 h3
 ·rw [h2.one h4]
theorem ProtR.form {h : Cells} {x : TF} {k d : Int} {r : Value} (hr : ProtR h x k d r) : ∃ p n c, r = .tuple #[.slice p n c, .int .i64 (askedDayT x k d)] /\ Sl BoolE 1 h p n (protA x k d) /\ n <= c := hr
theorem DatesR.form {h : Cells} {x : TF} {k d : Int} {r : Value} (hr : DatesR h x k d r) : ∃ p n c, r = .tuple #[.slice p n c, .int .i64 (askedDayT x k d)] /\ Sl IntE 1 h p n (datesA x k d) /\ n <= c := by
 rcases hr with ⟨h1, rfl⟩ | ⟨h1, p, n, c, rfl, s, hn⟩
 ·exact ⟨none, 0, 0, rfl, by rw [datesA, if_neg h1]; exact Sl.nil, Nat.le_refl _⟩
 ·exact ⟨p, n, c, by rw [h1], by rw [datesA, if_pos h1]; exact s, hn⟩
theorem TurnsR.form {h : Cells} {x : TF} {k d : Int} {r : Value} (hr : TurnsR h x k d r) : ∃ p n c, r = .tuple #[.slice p n c, .int .i64 (askedDayT x k d)] /\ Sl IntE 1 h p n (turnsA x k d) /\ n <= c := by
 rcases hr with ⟨h1, rfl⟩ | ⟨h1, p, n, c, rfl, s, hn⟩
 ·exact ⟨none, 0, 0, rfl, by rw [turnsA, if_neg h1]; exact Sl.nil, Nat.le_refl _⟩
 ·exact ⟨p, n, c, by rw [h1], by rw [turnsA, if_pos h1]; exact s, hn⟩
theorem SpansR.form {h : Cells} {x : TF} {k i : Int} {r : Value} (hr : SpansR h x k i r) : ∃ p n c m, r = .tuple #[.slice p n c, .int .i64 (askedItemT x k i)] /\ SpansA x k i m /\ Sl SpE 2 h p n m /\ n <= c := by
 rcases hr with ⟨h1, rfl⟩ | ⟨h1, p, n, c, l, rfl, hd, s, hn⟩
 ·exact ⟨none, 0, 0, [], rfl, .inl ⟨h1, rfl⟩, Sl.nil, Nat.le_refl _⟩
 ·exact ⟨p, n, c, _, by rw [h1], .inr ⟨h1, l, hd, rfl⟩, s, hn⟩
theorem NeedsR.form {h : Cells} {x : TF} {k i d : Int} {r : Value} (hr : NeedsR h x k i d r) : ∃ p n c, r = .tuple #[.slice p n c, .bool (heldA x k i d), .int .i64 (askedAllT x k i d)] /\ Sl IntE 1 h p n (needA x k i d) /\ n <= c := by
 rcases hr with ⟨h1, rfl⟩ | ⟨h1, h2, rfl⟩ | ⟨h1, h2, p, n, c, rfl, s, hn⟩
 ·exact ⟨none, 0, 0, by rw [heldA, decide_eq_false (fun h => h1 h.1)], by rw [needA, if_neg (fun h => h1 h.1)]; exact Sl.nil, Nat.le_refl _⟩
 ·exact ⟨none, 0, 0, by rw [heldA, decide_eq_false (fun h => h2 h.2), h1], by rw [needA, if_neg (fun h => h2 h.2)]; exact Sl.nil, Nat.le_refl _⟩
 ·exact ⟨p, n, c, by rw [heldA, decide_eq_true ⟨h1, h2⟩, h1], by rw [needA, if_pos ⟨h1, h2⟩]; exact s, hn⟩
/-! ### The chapter's examples -/
def exDays : List Int := [0, 12, 15, 18, 20, 22, 25, 27, 40, 44, 50, 10000]
theorem ex_days : IsDays exT exDays := by
 refine ⟨by decide +kernel, fun v => ?_⟩
 simp only [exDays, exT, List.mem_cons, List.not_mem_nil, or_false, exists_eq_or_imp, false_and, exists_false, exists_eq_left]
 omega
theorem ex1 : askedDayT exT 0 15 = 0 /\ protA exT 0 15 = [true, false, true] := by decide +kernel
theorem ex2 : askedDayT exT 1 40 = 0 /\ protA exT 1 40 = [false, true, false] := by decide +kernel
theorem ex3 : askedDayT exT 0 18 = 0 /\ datesA exT 0 18 = [3, -1, 12] := by decide +kernel
theorem ex4 : askedDayT exT 0 44 = 0 /\ datesA exT 0 44 = [3, 12, -1] := by decide +kernel
theorem ex5 : askedItemT exT 0 0 = 0 /\ spansT exT 0 0 exDays = [⟨12, 39⟩, ⟨44, 9999⟩] := by decide +kernel
theorem ex6 : askedItemT exT 0 1 = 0 /\ spansT exT 0 1 exDays = [⟨12, 14⟩, ⟨25, 9999⟩] := by decide +kernel
theorem ex7 : askedDayT exT 1 45 = 0 /\ turnsA exT 1 45 = [0] := by decide +kernel
theorem ex8 : askedDayT exT 1 46 = 0 /\ turnsA exT 1 46 = [] := by decide +kernel
theorem ex9 : askedAllT exT 0 0 44 = 0 /\ heldA exT 0 0 44 = true /\ needA exT 0 0 44 = [0, 5] := by decide +kernel
theorem ex_spans {i : Int} (h0 : askedItemT exT 0 i = 0) {m : List Sp} (h : SpansA exT 0 i m) : m = spansT exT 0 i exDays := h.one (.inr ⟨h0, _, ex_days, rfl⟩)
set_option maxRecDepth 100000 in
theorem c2017 {h : LH} (hch : h.chans = []) (hpe : h.pend = []) (hk : Kinds h.get) : FW XT Tryz.prog 20 #[] h fun r h' => r = .bool true /\ Rd h.get h'.get /\ h'.chans = [] /\ h'.pend = [] /\ h'.todo = h.todo := by
 refine w2017 XT_ok ?_
 unfold n2017
 refine t_gr c2048 ?_
 rintro _ h0 le0 ⟨f, rfl, hx⟩
 have e : treatyV f exT = .agg #[.int .i64 3, .int .i64 2, .int .i64 10, .int .i64 20, .int .i64 6, .int .i64 5, .slice f.p f.n f.c] := rfl
 rw [e]
 refine gZ ?_
 have hk0 := hk.le le0.1
 refine t_gr (c2018 hk0 hx 0 15) ?_
 intro r1 h1 le1 hr
 obtain ⟨p1, n1, k1, rfl, s1, _⟩ := hr.form
 rw [ex1.1]; rw [ex1.2] at s1
 refine gZ ?_
 have hk1 := hk0.le le1.1
 have hx1 := hx.le le1.1
 refine t_gr (c2018 hk1 hx1 1 40) ?_
 intro r2 h2 le2 hr
 obtain ⟨p2, n2, k2, rfl, s2, _⟩ := hr.form
 rw [ex2.1]; rw [ex2.2] at s2
 refine gZ ?_
 have hk2 := hk1.le le2.1
 have hx2 := hx1.le le2.1
 refine t_gr (c2026 hk2 hx2 0 18) ?_
 intro r3 h3 le3 hr
 obtain ⟨p3, n3, k3, rfl, s3, _⟩ := hr.form
 rw [ex3.1]; rw [ex3.2] at s3
 refine gZ ?_
 have hk3 := hk2.le le3.1
 have hx3 := hx2.le le3.1
 refine t_gr (c2026 hk3 hx3 0 44) ?_
 intro r4 h4 le4 hr
 obtain ⟨p4, n4, k4, rfl, s4, _⟩ := hr.form
 rw [ex4.1]; rw [ex4.2] at s4
 refine gZ ?_
 have hk4 := hk3.le le4.1
 have hx4 := hx3.le le4.1
 refine t_gr (c2023 hk4 hx4 0 0) ?_
 intro r5 h5 le5 hr
 obtain ⟨p5, n5, k5, m5, rfl, sp5, s5, _⟩ := hr.form
 obtain rfl := ex_spans ex5.1 sp5
 rw [ex5.1]; rw [ex5.2] at s5
 refine gZ ?_
 have hk5 := hk4.le le5.1
 have hx5 := hx4.le le5.1
 refine t_gr (c2023 hk5 hx5 0 1) ?_
 intro r6 h6 le6 hr
 obtain ⟨p6, n6, k6, m6, rfl, sp6, s6, _⟩ := hr.form
 obtain rfl := ex_spans ex6.1 sp6
 rw [ex6.1]; rw [ex6.2] at s6
 refine gZ ?_
 have hk6 := hk5.le le6.1
 have hx6 := hx5.le le6.1
 refine t_gr (c2029 hk6 hx6 1 45) ?_
 intro r7 h7 le7 hr
 obtain ⟨p7, n7, k7, rfl, s7, _⟩ := hr.form
 rw [ex7.1]; rw [ex7.2] at s7
 refine gZ ?_
 have hk7 := hk6.le le7.1
 have hx7 := hx6.le le7.1
 refine t_gr (c2029 hk7 hx7 1 46) ?_
 intro r8 h8 le8 hr
 obtain ⟨p8, n8, k8, rfl, s8, _⟩ := hr.form
 rw [ex8.1]; rw [ex8.2] at s8
 refine gZ ?_
 have hk8 := hk7.le le8.1
 have hx8 := hx7.le le8.1
 have le78 := le8
 have le68 := LH.le_trans le7 le78
 have le58 := LH.le_trans le6 le68
 have le48 := LH.le_trans le5 le58
 have le38 := LH.le_trans le4 le48
 have le28 := LH.le_trans le3 le38
 have le18 := LH.le_trans le2 le28
 have le08 := LH.le_trans le0 (LH.le_trans le1 le18)
 refine t_call (c2044 (by rw [le08.2.1, hch]) (by rw [le08.2.2.1, hpe]) hk8 hx8 0 0 44) ?_
 rintro r9 h9 ⟨rd9, hc9, hp9, ht9, hr⟩
 obtain ⟨p9, n9, k9, rfl, s9, _⟩ := hr.form
 rw [ex9.1, ex9.2.1]; rw [ex9.2.2] at s9
 refine gZ ?_
 have s1 := (s1.le BoolE.grow le18.1).rd BoolE.grow rd9
 have s2 := (s2.le BoolE.grow le28.1).rd BoolE.grow rd9
 have s3 := (s3.le IntE.grow le38.1).rd IntE.grow rd9
 have s4 := (s4.le IntE.grow le48.1).rd IntE.grow rd9
 have s5 := (s5.le SpE.grow le58.1).rd SpE.grow rd9
 have s6 := (s6.le SpE.grow le68.1).rd SpE.grow rd9
 have s7 := (s7.le IntE.grow le78.1).rd IntE.grow rd9
 have s8 := s8.rd IntE.grow rd9
 have hn8 : n8 = 0 := s8.1
 subst hn8
 have rd09 := (Rd.of_le le08.1).trans rd9
 refine t_blk (fun vs h' => vs = [.bool false] /\ h9 = h') ?_ ?_
 ·refine t_cond (fun e => absurd e (by decide)) (fun _ => ?_)
  refine t_cond (fun e => absurd e (by decide)) (fun _ => ?_)
  refine t_cond (fun e => absurd e (by decide)) (fun _ => ?_)
  refine t_cond (fun e => absurd e (by decide)) (fun _ => ?_)
  refine t_cond (fun e => absurd e (by decide)) (fun _ => ?_)
  refine t_cond (fun e => absurd e (by decide)) (fun _ => ?_)
  refine t_cond (fun e => absurd e (by decide)) (fun _ => ?_)
  refine t_cond (fun e => absurd e (by decide)) (fun _ => ?_)
  refine t_cond (fun e => absurd e (by decide)) (fun _ => ?_)
  exact t_again ⟨rfl, rfl⟩
 rintro vs _ ⟨rfl, rfl⟩
 refine gZ ?_
 refine t_blk (fun vs h' => vs = [.bool false] /\ h9.le h') ?_ ?_
 ·refine t_bools [true, false, true] (by decide) rfl (by decide) (by kernel_rfl) fun q1 g1 lg1 u1 => ?_
  refine gZ ?_
  have e1 := c2020 (h := g1) (c := k1) (d := 3) (s1.le BoolE.grow lg1.1) u1
  rw [decide_eq_true rfl] at e1
  refine t_pu e1 ?_
  refine gZ ?_
  refine t_cond (fun e => absurd e (by decide)) (fun _ => ?_)
  refine t_bools [false, true, false] (by decide) rfl (by decide) (by kernel_rfl) fun q2 g2 lg2 u2 => ?_
  refine gZ ?_
  have lg := LH.le_trans lg1 lg2
  have e1 := c2020 (h := g2) (c := k2) (d := 3) (s2.le BoolE.grow lg.1) u2
  rw [decide_eq_true rfl] at e1
  refine t_pu e1 ?_
  refine gZ ?_
  refine t_cond (fun e => absurd e (by decide)) (fun _ => ?_)
  refine t_ints [3, -1, 12] (by decide) rfl (by decide) (by kernel_rfl) fun q3 g3 lg3 u3 => ?_
  refine gZ ?_
  have lg := LH.le_trans lg lg3
  have e1 := c35 (h := g3) (c := k3) (d := 3) (s3.le IntE.grow lg.1) u3
  rw [decide_eq_true rfl] at e1
  refine t_pu e1 ?_
  refine gZ ?_
  refine t_cond (fun e => absurd e (by decide)) (fun _ => ?_)
  refine t_ints [3, 12, -1] (by decide) rfl (by decide) (by kernel_rfl) fun q4 g4 lg4 u4 => ?_
  refine gZ ?_
  have lg := LH.le_trans lg lg4
  have e1 := c35 (h := g4) (c := k4) (d := 3) (s4.le IntE.grow lg.1) u4
  rw [decide_eq_true rfl] at e1
  refine t_pu e1 ?_
  refine gZ ?_
  refine t_cond (fun e => absurd e (by decide)) (fun _ => ?_)
  refine t_cond (fun e => absurd e (by decide)) (fun _ => ?_)
  refine t_ints [0, 5] (by decide) rfl (by decide) (by kernel_rfl) fun q5 g5 lg5 u5 => ?_
  refine gZ ?_
  have lg := LH.le_trans lg lg5
  have e1 := c35 (h := g5) (c := k9) (d := 2) (s9.le IntE.grow lg.1) u5
  rw [decide_eq_true rfl] at e1
  refine t_pu e1 ?_
  refine gZ ?_
  refine t_cond (fun e => absurd e (by decide)) (fun _ => ?_)
  exact t_again ⟨rfl, lg⟩
 rintro vs g ⟨rfl, lg⟩
 refine gZ ?_
 refine t_pu (c2049 _ _) ?_
 refine gZ ?_
 refine t_pu (c2049 _ _) ?_
 refine gZ ?_
 refine t_buildR [.int .i64 12, .int .i64 39, .int .i64 44, .int .i64 9999] und22 inf30 (by decide) (by decide) (by kernel_rfl) ?_
 intro q6 g6 lg6 _ u6
 refine gZ ?_
 have lg := LH.le_trans lg lg6
 have e1 := c2025 (h := g6) (c := k5) (d := 2) (s5.le SpE.grow lg.1) (sp_two (a := ⟨12, 39⟩) (b := ⟨44, 9999⟩) u6)
 rw [decide_eq_true rfl] at e1
 refine t_pu e1 ?_
 refine gZ ?_
 refine t_cond (fun _ => ?_) (fun e => by cases e)
 refine t_pu (c2049 _ _) ?_
 refine gZ ?_
 refine t_pu (c2049 _ _) ?_
 refine gZ ?_
 refine t_buildR [.int .i64 12, .int .i64 14, .int .i64 25, .int .i64 9999] und22 inf30 (by decide) (by decide) (by kernel_rfl) ?_
 intro q7 g7 lg7 _ u7
 refine gZ ?_
 have lg := LH.le_trans lg lg7
 have e1 := c2025 (h := g7) (c := k6) (d := 2) (s6.le SpE.grow lg.1) (sp_two (a := ⟨12, 14⟩) (b := ⟨25, 9999⟩) u7)
 rw [decide_eq_true rfl] at e1
 refine t_pu e1 ?_
 refine gZ ?_
 refine t_cond (fun _ => ?_) (fun e => by cases e)
 refine t_ints [0] (by decide) rfl (by decide) (by kernel_rfl) fun q8 g8 lg8 u8 => ?_
 refine gZ ?_
 have lg := LH.le_trans lg lg8
 have e1 := c35 (h := g8) (c := k7) (d := 1) (s7.le IntE.grow lg.1) u8
 rw [decide_eq_true rfl] at e1
 refine t_pu e1 ?_
 refine gZ ?_
 refine t_cond (fun _ => ?_) (fun e => by cases e)
 exact t_ret ⟨rfl, rd09.trans (Rd.of_le lg.1), lg.2.1.trans hc9, lg.2.2.1.trans hp9, by rw [lg.2.2.2, ht9, le08.2.2.2]⟩
def Fin (h : LH) : Value -> LH -> Prop := fun r h' => r = .bool true /\ h'.chans = [] /\ h'.pend = [] /\ h'.todo = h.todo
structure Idle (h h' : LH) : Prop where
 rd : Rd h.get h'.get
 chans : h'.chans = []
 pend : h'.pend = []
 todo : h'.todo = h.todo
theorem Idle.of {h h' : LH} (hch : h.chans = []) (hpe : h.pend = []) (hle : h.le h') : Idle h h' := ⟨Rd.of_le hle.1, by rw [hle.2.1, hch], by rw [hle.2.2.1, hpe], hle.2.2.2⟩
theorem t_shown {h h' : LH} {k : Bool -> T} {Q : Leaf -> LH -> Prop} (hk : Kinds h.get) (i : Idle h h') (hq : ∀ h'', Idle h h'' -> (k true).wp XT Tryz.prog Q h'') :
  (T.call false 20 #[] fun v => T.unB v k).wp XT Tryz.prog Q h' := by
 refine t_call (c2017 i.chans i.pend (hk.rd i.rd)) ?_
 rintro _ h'' ⟨rfl, rd, h2, h3, h4⟩
 exact gC (hq h'' ⟨i.rd.trans rd, h2, h3, h4.trans i.todo⟩)
theorem Idle.fin {h h' : LH} (i : Idle h h') : Fin h (.bool true) h' := ⟨rfl, i.chans, i.pend, i.todo⟩
end Go.Proofs.YtgljffachdhigaaGreatDoor.Tre
end
section
namespace Go.Proofs.YtgljffachdhigaaGreatDoor
open Go Go.TM Go.Proofs
set_option linter.unusedVariables false
set_option maxRecDepth 100000
variable {X : XP} {h : LH} {A : Value -> LH -> Prop}
noncomputable def n2039 (x_0 x_1 x_2 x_3 x_4 x_5 : Int) (x_6p : Option Addr) (x_6n x_6c : Nat) (than_0 than_1 than_2 than_3 than_4 than_5 : Int) (than_6p : Option Addr) (than_6n than_6c : Nat) (land day : Int) : T := .call false 58 #[.agg #[.int .i64 x_0, .int .i64 x_1, .int .i64 x_2, .int .i64 x_3, .int .i64 x_4, .int .i64 x_5, .slice x_6p x_6n x_6c], .int .i64 land, .int .i64 day] fun v => .unTup v fun l => .unCons l fun v vs => .unS v fun a n c => .unCons vs fun v vs => .unI .i64 v fun n_1 => .unNil vs (.call false 58 #[.agg #[.int .i64 than_0, .int .i64 than_1, .int .i64 than_2, .int .i64 than_3, .int .i64 than_4, .int .i64 than_5, .slice than_6p than_6n than_6c], .int .i64 land, .int .i64 day] fun v => .unTup v fun l => .unCons l fun v vs => .unS v fun a_1 n_2 c_1 => .unCons vs fun v vs => .unI .i64 v fun n_3 => .unNil vs (.call false 59 #[.agg #[.int .i64 x_0, .int .i64 x_1, .int .i64 x_2, .int .i64 x_3, .int .i64 x_4, .int .i64 x_5, .slice x_6p x_6n x_6c], .int .i64 land, .int .i64 day] fun v => .unTup v fun l => .unCons l fun v vs => .unS v fun a_2 n_4 c_2 => .unCons vs fun v vs => .unI .i64 v fun n_5 => .unNil vs (.call false 59 #[.agg #[.int .i64 than_0, .int .i64 than_1, .int .i64 than_2, .int .i64 than_3, .int .i64 than_4, .int .i64 than_5, .slice than_6p than_6n than_6c], .int .i64 land, .int .i64 day] fun v => .unTup v fun l => .unCons l fun v vs => .unS v fun a_3 n_6 c_3 => .unCons vs fun v vs => .unI .i64 v fun n_7 => .unNil vs (.blk (bif n_1 != 0 then .leaf (.retn [.bool false]) else bif n_3 != 0 then .leaf (.retn [.bool false]) else bif n_5 != 0 then .leaf (.retn [.bool false]) else bif n_7 != 0 then .leaf (.retn [.bool false]) else bif (↑n : Int) != x_0 then .leaf (.retn [.bool false]) else bif (↑n_2 : Int) != x_0 then .leaf (.retn [.bool false]) else bif (↑n_4 : Int) != x_0 then .leaf (.retn [.bool false]) else bif (↑n_6 : Int) != x_0 then .leaf (.retn [.bool false]) else .leaf (.again [.bool false])) (fun vs => .popB vs fun b vs => .unNil vs (.loop [.bool b, .int .i64 0] (fun vs => .popB vs fun b vs => .popI .i64 vs fun n_8 vs => .unNil vs (bif decide (n_8 < (↑n : Int)) then .need (0 <= n_8 /\ n_8 < (↑n_2 : Int)) (.someA a_1 fun a_4 => .loadB (a_4.add (n_8.toNat * 1)) fun b_1 => bif b_1 then .need (0 <= n_8 /\ n_8 < (↑n : Int)) (.someA a fun a_5 => .loadB (a_5.add (n_8.toNat * 1)) fun b_2 => bif !b_2 then .nd (.tuple #[]) (.nd (.tuple #[]) (.nd (.tuple #[]) (.nd (.tuple #[]) (.nd (.tuple #[]) (.nd (.tuple #[]) (.nd (.tuple #[]) (.nd (.bool !b_2) (.nd (.bool !b_2) (.loadB (a_5.add (n_8.toNat * 1)) fun b => .need (AV.val (.bool b) = AV.val (.bool b_2)) (.need (0 <= n_8 /\ n_8 < (↑n : Int)) (.someA a fun a_6 => .need (AV.val (.pointer (some (a_6.add (n_8.toNat * 1)))) = AV.val (.pointer (some (a_5.add (n_8.toNat * 1))))) (.nd (.int .i64 n_8) (.nd (.slice a n c) (.need (AV.val (.bool b_1) = AV.val (.bool true)) (.loadB (a_4.add (n_8.toNat * 1)) fun b => .need (AV.val (.bool b) = AV.val (.bool b_1)) (.need (0 <= n_8 /\ n_8 < (↑n_2 : Int)) (.someA a_1 fun a_7 => .need (AV.val (.pointer (some (a_7.add (n_8.toNat * 1)))) = AV.val (.pointer (some (a_4.add (n_8.toNat * 1))))) (.nd (.int .i64 n_8) (.nd (.slice a_1 n_2 c_1) (.nd (.tuple #[]) (.nd (.tuple #[]) (.nd (.tuple #[]) (.nd (.tuple #[]) (.nd (.tuple #[]) (.nd (.tuple #[]) (.nd (.bool !b_2) (.nd (.bool !b_2) (.loadB (a_5.add (n_8.toNat * 1)) fun b => .need (AV.val (.bool b) = AV.val (.bool b_2)) (.need (0 <= n_8 /\ n_8 < (↑n : Int)) (.someA a fun a_8 => .need (AV.val (.pointer (some (a_8.add (n_8.toNat * 1)))) = AV.val (.pointer (some (a_5.add (n_8.toNat * 1))))) (.nd (.int .i64 n_8) (.nd (.slice a n c) (.need (AV.val (.bool b_1) = AV.val (.bool true)) (.loadB (a_4.add (n_8.toNat * 1)) fun b => .need (AV.val (.bool b) = AV.val (.bool b_1)) (.need (0 <= n_8 /\ n_8 < (↑n_2 : Int)) (.someA a_1 fun a_9 => .need (AV.val (.pointer (some (a_9.add (n_8.toNat * 1)))) = AV.val (.pointer (some (a_4.add (n_8.toNat * 1))))) (.nd (.int .i64 n_8) (.nd (.slice a_1 n_2 c_1) (.nd (.tuple #[]) (.nd (.tuple #[]) (.nd (.tuple #[]) (.nd (.tuple #[]) (.nd (.tuple #[]) (.nd (.tuple #[]) (.nd (.tuple #[]) (.nd (.bool true) (.nd (.tuple #[]) (.nd (.tuple #[]) (.nd (.tuple #[]) (.nd (.tuple #[]) (.nd (.tuple #[]) (.nd (.tuple #[]) (.nd (.bool !b_2) (.nd (.bool !b_2) (.loadB (a_5.add (n_8.toNat * 1)) fun b => .need (AV.val (.bool b) = AV.val (.bool b_2)) (.need (0 <= n_8 /\ n_8 < (↑n : Int)) (.someA a fun a_10 => .need (AV.val (.pointer (some (a_10.add (n_8.toNat * 1)))) = AV.val (.pointer (some (a_5.add (n_8.toNat * 1))))) (.nd (.int .i64 n_8) (.nd (.slice a n c) (.need (AV.val (.bool b_1) = AV.val (.bool true)) (.loadB (a_4.add (n_8.toNat * 1)) fun b => .need (AV.val (.bool b) = AV.val (.bool b_1)) (.need (0 <= n_8 /\ n_8 < (↑n_2 : Int)) (.someA a_1 fun a_11 => .need (AV.val (.pointer (some (a_11.add (n_8.toNat * 1)))) = AV.val (.pointer (some (a_4.add (n_8.toNat * 1))))) (.nd (.int .i64 n_8) (.nd (.slice a_1 n_2 c_1) (.nd (.tuple #[]) (.nd (.tuple #[]) (.nd (.tuple #[]) (.nd (.tuple #[]) (.nd (.tuple #[]) (.nd (.tuple #[]) (.nd (.bool true) (.nd (.tuple #[]) (.nd (.tuple #[]) (.nd (.tuple #[]) (.nd (.tuple #[]) (.nd (.tuple #[]) (.nd (.tuple #[]) (.nd (.bool !b_2) (.nd (.bool !b_2) (.loadB (a_5.add (n_8.toNat * 1)) fun b => .need (AV.val (.bool b) = AV.val (.bool b_2)) (.need (0 <= n_8 /\ n_8 < (↑n : Int)) (.someA a fun a_12 => .need (AV.val (.pointer (some (a_12.add (n_8.toNat * 1)))) = AV.val (.pointer (some (a_5.add (n_8.toNat * 1))))) (.nd (.int .i64 n_8) (.nd (.slice a n c) (.need (AV.val (.bool b_1) = AV.val (.bool true)) (.loadB (a_4.add (n_8.toNat * 1)) fun b => .need (AV.val (.bool b) = AV.val (.bool b_1)) (.need (0 <= n_8 /\ n_8 < (↑n_2 : Int)) (.someA a_1 fun a_13 => .need (AV.val (.pointer (some (a_13.add (n_8.toNat * 1)))) = AV.val (.pointer (some (a_4.add (n_8.toNat * 1))))) (.nd (.int .i64 n_8) (.nd (.slice a_1 n_2 c_1) (.nd (.tuple #[]) (.nd (.tuple #[]) (.nd (.tuple #[]) (.nd (.tuple #[]) (.nd (.tuple #[]) (.nd (.tuple #[]) (.nd (.tuple #[]) (.nd (.tuple #[]) (.nd (.tuple #[]) (.nd (.tuple #[]) (.nd (.bool true) (.nd (.bool true) (.nd (.tuple #[]) (.nd (.tuple #[]) (.nd (.tuple #[]) (.nd (.tuple #[]) (.nd (.tuple #[]) (.nd (.tuple #[]) (.nd (.bool true) (.nd (.tuple #[]) (.nd (.tuple #[]) (.nd (.tuple #[]) (.nd (.tuple #[]) (.nd (.tuple #[]) (.nd (.tuple #[]) (.nd (.bool !b_2) (.nd (.bool !b_2) (.loadB (a_5.add (n_8.toNat * 1)) fun b => .need (AV.val (.bool b) = AV.val (.bool b_2)) (.need (0 <= n_8 /\ n_8 < (↑n : Int)) (.someA a fun a_14 => .need (AV.val (.pointer (some (a_14.add (n_8.toNat * 1)))) = AV.val (.pointer (some (a_5.add (n_8.toNat * 1))))) (.nd (.int .i64 n_8) (.nd (.slice a n c) (.need (AV.val (.bool b_1) = AV.val (.bool true)) (.loadB (a_4.add (n_8.toNat * 1)) fun b => .need (AV.val (.bool b) = AV.val (.bool b_1)) (.need (0 <= n_8 /\ n_8 < (↑n_2 : Int)) (.someA a_1 fun a => .need (AV.val (.pointer (some (a.add (n_8.toNat * 1)))) = AV.val (.pointer (some (a_4.add (n_8.toNat * 1))))) (.nd (.int .i64 n_8) (.nd (.slice a_1 n_2 c_1) (.leaf (.retn [.bool false, .int .i64 n_8]))))))))))))))))))))))))))))))))))))))))))))))))))))))))))))))))))))))))))))))))))))))))))))))))))))))))))))))))))))))))))))))))))) else .need (0 <= n_8 /\ n_8 < (↑n : Int)) (.someA a fun a_6 => .loadB (a_6.add (n_8.toNat * 1)) fun b_3 => .need (0 <= n_8 /\ n_8 < (↑n_4 : Int)) (.someA a_2 fun a_7 => .loadI .i64 (a_7.add (n_8.toNat * 1)) fun n_9 => bif !b_3 == decide (n_9 >= 0) then .nd (.tuple #[]) (.nd (.tuple #[]) (.nd (.tuple #[]) (.nd (.tuple #[]) (.nd (.tuple #[]) (.nd (.tuple #[]) (.nd (.tuple #[]) (.nd (.bool !b_3 == decide (n_9 >= 0)) (.nd (.bool !b_3 == decide (n_9 >= 0)) (.nd (.bool (decide (n_9 >= 0))) (.loadI .i64 (a_7.add (n_8.toNat * 1)) fun n_10 => .need (AV.val (.int .i64 n_10) = AV.val (.int .i64 n_9)) (.need (0 <= n_8 /\ n_8 < (↑n_4 : Int)) (.someA a_2 fun a_8 => .need (AV.val (.pointer (some (a_8.add (n_8.toNat * 1)))) = AV.val (.pointer (some (a_7.add (n_8.toNat * 1))))) (.nd (.int .i64 n_8) (.nd (.slice a_2 n_4 c_2) (.loadB (a_6.add (n_8.toNat * 1)) fun b => .need (AV.val (.bool b) = AV.val (.bool b_3)) (.need (0 <= n_8 /\ n_8 < (↑n : Int)) (.someA a fun a_9 => .need (AV.val (.pointer (some (a_9.add (n_8.toNat * 1)))) = AV.val (.pointer (some (a_6.add (n_8.toNat * 1))))) (.nd (.int .i64 n_8) (.nd (.slice a n c) (.need (AV.val (.bool !b_2) = AV.val (.bool false)) (.nd (.bool !b_2) (.nd (.bool !b_2) (.loadB (a_5.add (n_8.toNat * 1)) fun b => .need (AV.val (.bool b) = AV.val (.bool b_2)) (.need (0 <= n_8 /\ n_8 < (↑n : Int)) (.someA a fun a_10 => .need (AV.val (.pointer (some (a_10.add (n_8.toNat * 1)))) = AV.val (.pointer (some (a_5.add (n_8.toNat * 1))))) (.nd (.int .i64 n_8) (.nd (.slice a n c) (.need (AV.val (.bool b_1) = AV.val (.bool true)) (.loadB (a_4.add (n_8.toNat * 1)) fun b => .need (AV.val (.bool b) = AV.val (.bool b_1)) (.need (0 <= n_8 /\ n_8 < (↑n_2 : Int)) (.someA a_1 fun a_11 => .need (AV.val (.pointer (some (a_11.add (n_8.toNat * 1)))) = AV.val (.pointer (some (a_4.add (n_8.toNat * 1))))) (.nd (.int .i64 n_8) (.nd (.slice a_1 n_2 c_1) (.nd (.tuple #[]) (.nd (.tuple #[]) (.nd (.tuple #[]) (.nd (.tuple #[]) (.nd (.tuple #[]) (.nd (.tuple #[]) (.nd (.bool !b_3 == decide (n_9 >= 0)) (.nd (.bool !b_3 == decide (n_9 >= 0)) (.nd (.bool (decide (n_9 >= 0))) (.loadI .i64 (a_7.add (n_8.toNat * 1)) fun n_11 => .need (AV.val (.int .i64 n_11) = AV.val (.int .i64 n_9)) (.need (0 <= n_8 /\ n_8 < (↑n_4 : Int)) (.someA a_2 fun a_12 => .need (AV.val (.pointer (some (a_12.add (n_8.toNat * 1)))) = AV.val (.pointer (some (a_7.add (n_8.toNat * 1))))) (.nd (.int .i64 n_8) (.nd (.slice a_2 n_4 c_2) (.loadB (a_6.add (n_8.toNat * 1)) fun b => .need (AV.val (.bool b) = AV.val (.bool b_3)) (.need (0 <= n_8 /\ n_8 < (↑n : Int)) (.someA a fun a_13 => .need (AV.val (.pointer (some (a_13.add (n_8.toNat * 1)))) = AV.val (.pointer (some (a_6.add (n_8.toNat * 1))))) (.nd (.int .i64 n_8) (.nd (.slice a n c) (.need (AV.val (.bool !b_2) = AV.val (.bool false)) (.nd (.bool !b_2) (.nd (.bool !b_2) (.loadB (a_5.add (n_8.toNat * 1)) fun b => .need (AV.val (.bool b) = AV.val (.bool b_2)) (.need (0 <= n_8 /\ n_8 < (↑n : Int)) (.someA a fun a_14 => .need (AV.val (.pointer (some (a_14.add (n_8.toNat * 1)))) = AV.val (.pointer (some (a_5.add (n_8.toNat * 1))))) (.nd (.int .i64 n_8) (.nd (.slice a n c) (.need (AV.val (.bool b_1) = AV.val (.bool true)) (.loadB (a_4.add (n_8.toNat * 1)) fun b => .need (AV.val (.bool b) = AV.val (.bool b_1)) (.need (0 <= n_8 /\ n_8 < (↑n_2 : Int)) (.someA a_1 fun a_15 => .need (AV.val (.pointer (some (a_15.add (n_8.toNat * 1)))) = AV.val (.pointer (some (a_4.add (n_8.toNat * 1))))) (.nd (.int .i64 n_8) (.nd (.slice a_1 n_2 c_1) (.nd (.tuple #[]) (.nd (.tuple #[]) (.nd (.tuple #[]) (.nd (.tuple #[]) (.nd (.tuple #[]) (.nd (.tuple #[]) (.nd (.tuple #[]) (.nd (.tuple #[]) (.nd (.tuple #[]) (.nd (.tuple #[]) (.nd (.bool true) (.nd (.bool true) (.nd (.tuple #[]) (.nd (.tuple #[]) (.nd (.tuple #[]) (.nd (.tuple #[]) (.nd (.tuple #[]) (.nd (.tuple #[]) (.nd (.bool !b_3 == decide (n_9 >= 0)) (.nd (.bool !b_3 == decide (n_9 >= 0)) (.nd (.bool (decide (n_9 >= 0))) (.loadI .i64 (a_7.add (n_8.toNat * 1)) fun n_12 => .need (AV.val (.int .i64 n_12) = AV.val (.int .i64 n_9)) (.need (0 <= n_8 /\ n_8 < (↑n_4 : Int)) (.someA a_2 fun a_16 => .need (AV.val (.pointer (some (a_16.add (n_8.toNat * 1)))) = AV.val (.pointer (some (a_7.add (n_8.toNat * 1))))) (.nd (.int .i64 n_8) (.nd (.slice a_2 n_4 c_2) (.loadB (a_6.add (n_8.toNat * 1)) fun b => .need (AV.val (.bool b) = AV.val (.bool b_3)) (.need (0 <= n_8 /\ n_8 < (↑n : Int)) (.someA a fun a_17 => .need (AV.val (.pointer (some (a_17.add (n_8.toNat * 1)))) = AV.val (.pointer (some (a_6.add (n_8.toNat * 1))))) (.nd (.int .i64 n_8) (.nd (.slice a n c) (.need (AV.val (.bool !b_2) = AV.val (.bool false)) (.nd (.bool !b_2) (.nd (.bool !b_2) (.loadB (a_5.add (n_8.toNat * 1)) fun b => .need (AV.val (.bool b) = AV.val (.bool b_2)) (.need (0 <= n_8 /\ n_8 < (↑n : Int)) (.someA a fun a_18 => .need (AV.val (.pointer (some (a_18.add (n_8.toNat * 1)))) = AV.val (.pointer (some (a_5.add (n_8.toNat * 1))))) (.nd (.int .i64 n_8) (.nd (.slice a n c) (.need (AV.val (.bool b_1) = AV.val (.bool true)) (.loadB (a_4.add (n_8.toNat * 1)) fun b => .need (AV.val (.bool b) = AV.val (.bool b_1)) (.need (0 <= n_8 /\ n_8 < (↑n_2 : Int)) (.someA a_1 fun a => .need (AV.val (.pointer (some (a.add (n_8.toNat * 1)))) = AV.val (.pointer (some (a_4.add (n_8.toNat * 1))))) (.nd (.int .i64 n_8) (.nd (.slice a_1 n_2 c_1) (.leaf (.retn [.bool false, .int .i64 n_8]))))))))))))))))))))))))))))))))))))))))))))))))))))))))))))))))))))))))))))))))))))))))))))))))))))))))))))))))) else .need (0 <= n_8 /\ n_8 < (↑n_2 : Int)) (.someA a_1 fun a_8 => .loadB (a_8.add (n_8.toNat * 1)) fun b_4 => .need (0 <= n_8 /\ n_8 < (↑n_6 : Int)) (.someA a_3 fun a_9 => .loadI .i64 (a_9.add (n_8.toNat * 1)) fun n_10 => bif !b_4 == decide (n_10 >= 0) then .nd (.tuple #[]) (.nd (.tuple #[]) (.nd (.tuple #[]) (.nd (.tuple #[]) (.nd (.tuple #[]) (.nd (.tuple #[]) (.nd (.tuple #[]) (.nd (.tuple #[]) (.nd (.tuple #[]) (.nd (.tuple #[]) (.need (AV.val (.bool !b_4 == decide (n_10 >= 0)) = AV.val (.bool true)) (.nd (.bool !b_4 == decide (n_10 >= 0)) (.nd (.bool !b_4 == decide (n_10 >= 0)) (.nd (.bool (decide (n_10 >= 0))) (.loadI .i64 (a_9.add (n_8.toNat * 1)) fun n_11 => .need (AV.val (.int .i64 n_11) = AV.val (.int .i64 n_10)) (.need (0 <= n_8 /\ n_8 < (↑n_6 : Int)) (.someA a_3 fun a_10 => .need (AV.val (.pointer (some (a_10.add (n_8.toNat * 1)))) = AV.val (.pointer (some (a_9.add (n_8.toNat * 1))))) (.nd (.int .i64 n_8) (.nd (.slice a_3 n_6 c_3) (.loadB (a_8.add (n_8.toNat * 1)) fun b => .need (AV.val (.bool b) = AV.val (.bool b_4)) (.need (0 <= n_8 /\ n_8 < (↑n_2 : Int)) (.someA a_1 fun a_11 => .need (AV.val (.pointer (some (a_11.add (n_8.toNat * 1)))) = AV.val (.pointer (some (a_8.add (n_8.toNat * 1))))) (.nd (.int .i64 n_8) (.nd (.slice a_1 n_2 c_1) (.need (AV.val (.bool !b_3 == decide (n_9 >= 0)) = AV.val (.bool false)) (.nd (.bool !b_3 == decide (n_9 >= 0)) (.nd (.bool !b_3 == decide (n_9 >= 0)) (.nd (.bool (decide (n_9 >= 0))) (.loadI .i64 (a_7.add (n_8.toNat * 1)) fun n_12 => .need (AV.val (.int .i64 n_12) = AV.val (.int .i64 n_9)) (.need (0 <= n_8 /\ n_8 < (↑n_4 : Int)) (.someA a_2 fun a_12 => .need (AV.val (.pointer (some (a_12.add (n_8.toNat * 1)))) = AV.val (.pointer (some (a_7.add (n_8.toNat * 1))))) (.nd (.int .i64 n_8) (.nd (.slice a_2 n_4 c_2) (.loadB (a_6.add (n_8.toNat * 1)) fun b => .need (AV.val (.bool b) = AV.val (.bool b_3)) (.need (0 <= n_8 /\ n_8 < (↑n : Int)) (.someA a fun a_13 => .need (AV.val (.pointer (some (a_13.add (n_8.toNat * 1)))) = AV.val (.pointer (some (a_6.add (n_8.toNat * 1))))) (.nd (.int .i64 n_8) (.nd (.slice a n c) (.need (AV.val (.bool !b_2) = AV.val (.bool false)) (.nd (.bool !b_2) (.nd (.bool !b_2) (.loadB (a_5.add (n_8.toNat * 1)) fun b => .need (AV.val (.bool b) = AV.val (.bool b_2)) (.need (0 <= n_8 /\ n_8 < (↑n : Int)) (.someA a fun a_14 => .need (AV.val (.pointer (some (a_14.add (n_8.toNat * 1)))) = AV.val (.pointer (some (a_5.add (n_8.toNat * 1))))) (.nd (.int .i64 n_8) (.nd (.slice a n c) (.need (AV.val (.bool b_1) = AV.val (.bool true)) (.loadB (a_4.add (n_8.toNat * 1)) fun b => .need (AV.val (.bool b) = AV.val (.bool b_1)) (.need (0 <= n_8 /\ n_8 < (↑n_2 : Int)) (.someA a_1 fun a => .need (AV.val (.pointer (some (a.add (n_8.toNat * 1)))) = AV.val (.pointer (some (a_4.add (n_8.toNat * 1))))) (.nd (.int .i64 n_8) (.nd (.slice a_1 n_2 c_1) (.leaf (.retn [.bool false, .int .i64 n_8]))))))))))))))))))))))))))))))))))))))))))))))))))))) else .need (0 <= n_8 /\ n_8 < (↑n_2 : Int)) (.someA a_1 fun a_10 => .loadB (a_10.add (n_8.toNat * 1)) fun b_5 => bif b_5 then .need (0 <= n_8 /\ n_8 < (↑n_4 : Int)) (.someA a_2 fun a => .loadI .i64 (a.add (n_8.toNat * 1)) fun n => .need (0 <= n_8 /\ n_8 < (↑n_6 : Int)) (.someA a_3 fun a => .loadI .i64 (a.add (n_8.toNat * 1)) fun n_11 => bif decide (n > n_11) then .leaf (.retn [.bool false, .int .i64 n_8]) else .leaf (.again [.bool b, .int .i64 (IntKind.wrap .i64 (n_8 + 1))]))) else .nd (.tuple #[]) (.nd (.tuple #[]) (.nd (.tuple #[]) (.nd (.tuple #[]) (.nd (.tuple #[]) (.nd (.tuple #[]) (.loadB (a_10.add (n_8.toNat * 1)) fun b_6 => .need (AV.val (.bool b_6) = AV.val (.bool b_5)) (.need (0 <= n_8 /\ n_8 < (↑n_2 : Int)) (.someA a_1 fun a_11 => .need (AV.val (.pointer (some (a_11.add (n_8.toNat * 1)))) = AV.val (.pointer (some (a_10.add (n_8.toNat * 1))))) (.nd (.int .i64 n_8) (.nd (.slice a_1 n_2 c_1) (.need (AV.val (.bool !b_4 == decide (n_10 >= 0)) = AV.val (.bool false)) (.nd (.bool !b_4 == decide (n_10 >= 0)) (.nd (.bool !b_4 == decide (n_10 >= 0)) (.nd (.bool (decide (n_10 >= 0))) (.loadI .i64 (a_9.add (n_8.toNat * 1)) fun n_11 => .need (AV.val (.int .i64 n_11) = AV.val (.int .i64 n_10)) (.need (0 <= n_8 /\ n_8 < (↑n_6 : Int)) (.someA a_3 fun a_12 => .need (AV.val (.pointer (some (a_12.add (n_8.toNat * 1)))) = AV.val (.pointer (some (a_9.add (n_8.toNat * 1))))) (.nd (.int .i64 n_8) (.nd (.slice a_3 n_6 c_3) (.loadB (a_8.add (n_8.toNat * 1)) fun b_7 => .need (AV.val (.bool b_7) = AV.val (.bool b_4)) (.need (0 <= n_8 /\ n_8 < (↑n_2 : Int)) (.someA a_1 fun a_13 => .need (AV.val (.pointer (some (a_13.add (n_8.toNat * 1)))) = AV.val (.pointer (some (a_8.add (n_8.toNat * 1))))) (.nd (.int .i64 n_8) (.nd (.slice a_1 n_2 c_1) (.need (AV.val (.bool !b_3 == decide (n_9 >= 0)) = AV.val (.bool false)) (.nd (.bool !b_3 == decide (n_9 >= 0)) (.nd (.bool !b_3 == decide (n_9 >= 0)) (.nd (.bool (decide (n_9 >= 0))) (.loadI .i64 (a_7.add (n_8.toNat * 1)) fun n_12 => .need (AV.val (.int .i64 n_12) = AV.val (.int .i64 n_9)) (.need (0 <= n_8 /\ n_8 < (↑n_4 : Int)) (.someA a_2 fun a_14 => .need (AV.val (.pointer (some (a_14.add (n_8.toNat * 1)))) = AV.val (.pointer (some (a_7.add (n_8.toNat * 1))))) (.nd (.int .i64 n_8) (.nd (.slice a_2 n_4 c_2) (.loadB (a_6.add (n_8.toNat * 1)) fun b_8 => .need (AV.val (.bool b_8) = AV.val (.bool b_3)) (.need (0 <= n_8 /\ n_8 < (↑n : Int)) (.someA a fun a_15 => .need (AV.val (.pointer (some (a_15.add (n_8.toNat * 1)))) = AV.val (.pointer (some (a_6.add (n_8.toNat * 1))))) (.nd (.int .i64 n_8) (.nd (.slice a n c) (.need (AV.val (.bool !b_2) = AV.val (.bool false)) (.nd (.bool !b_2) (.nd (.bool !b_2) (.loadB (a_5.add (n_8.toNat * 1)) fun b_9 => .need (AV.val (.bool b_9) = AV.val (.bool b_2)) (.need (0 <= n_8 /\ n_8 < (↑n : Int)) (.someA a fun a_16 => .need (AV.val (.pointer (some (a_16.add (n_8.toNat * 1)))) = AV.val (.pointer (some (a_5.add (n_8.toNat * 1))))) (.nd (.int .i64 n_8) (.nd (.slice a n c) (.need (AV.val (.bool b_1) = AV.val (.bool true)) (.loadB (a_4.add (n_8.toNat * 1)) fun b_10 => .need (AV.val (.bool b_10) = AV.val (.bool b_1)) (.need (0 <= n_8 /\ n_8 < (↑n_2 : Int)) (.someA a_1 fun a => .need (AV.val (.pointer (some (a.add (n_8.toNat * 1)))) = AV.val (.pointer (some (a_4.add (n_8.toNat * 1))))) (.nd (.int .i64 n_8) (.nd (.slice a_1 n_2 c_1) (.leaf (.again [.bool b, .int .i64 (IntKind.wrap .i64 (n_8 + 1))])))))))))))))))))))))))))))))))))))))))))))))))))))))))))))) else .nd (.tuple #[]) (.nd (.tuple #[]) (.nd (.tuple #[]) (.loadB (a_4.add (n_8.toNat * 1)) fun b_2 => .need (AV.val (.bool b_2) = AV.val (.bool b_1)) (.need (0 <= n_8 /\ n_8 < (↑n_2 : Int)) (.someA a_1 fun a_5 => .need (AV.val (.pointer (some (a_5.add (n_8.toNat * 1)))) = AV.val (.pointer (some (a_4.add (n_8.toNat * 1))))) (.nd (.int .i64 n_8) (.nd (.slice a_1 n_2 c_1) (.need (0 <= n_8 /\ n_8 < (↑n : Int)) (.someA a fun a_6 => .loadB (a_6.add (n_8.toNat * 1)) fun b_3 => .need (0 <= n_8 /\ n_8 < (↑n_4 : Int)) (.someA a_2 fun a_7 => .loadI .i64 (a_7.add (n_8.toNat * 1)) fun n_9 => bif !b_3 == decide (n_9 >= 0) then .nd (.tuple #[]) (.nd (.tuple #[]) (.nd (.tuple #[]) (.nd (.tuple #[]) (.nd (.tuple #[]) (.nd (.tuple #[]) (.nd (.tuple #[]) (.nd (.bool !b_3 == decide (n_9 >= 0)) (.nd (.bool !b_3 == decide (n_9 >= 0)) (.nd (.bool (decide (n_9 >= 0))) (.loadI .i64 (a_7.add (n_8.toNat * 1)) fun n_10 => .need (AV.val (.int .i64 n_10) = AV.val (.int .i64 n_9)) (.need (0 <= n_8 /\ n_8 < (↑n_4 : Int)) (.someA a_2 fun a_8 => .need (AV.val (.pointer (some (a_8.add (n_8.toNat * 1)))) = AV.val (.pointer (some (a_7.add (n_8.toNat * 1))))) (.nd (.int .i64 n_8) (.nd (.slice a_2 n_4 c_2) (.loadB (a_6.add (n_8.toNat * 1)) fun b => .need (AV.val (.bool b) = AV.val (.bool b_3)) (.need (0 <= n_8 /\ n_8 < (↑n : Int)) (.someA a fun a_9 => .need (AV.val (.pointer (some (a_9.add (n_8.toNat * 1)))) = AV.val (.pointer (some (a_6.add (n_8.toNat * 1))))) (.nd (.int .i64 n_8) (.nd (.slice a n c) (.nd (.bool false) (.nd (.bool false) (.nd (.tuple #[]) (.nd (.tuple #[]) (.nd (.tuple #[]) (.loadB (a_4.add (n_8.toNat * 1)) fun b => .need (AV.val (.bool b) = AV.val (.bool b_1)) (.need (0 <= n_8 /\ n_8 < (↑n_2 : Int)) (.someA a_1 fun a_10 => .need (AV.val (.pointer (some (a_10.add (n_8.toNat * 1)))) = AV.val (.pointer (some (a_4.add (n_8.toNat * 1))))) (.nd (.int .i64 n_8) (.nd (.slice a_1 n_2 c_1) (.nd (.tuple #[]) (.nd (.tuple #[]) (.nd (.tuple #[]) (.nd (.tuple #[]) (.nd (.tuple #[]) (.nd (.tuple #[]) (.nd (.bool !b_3 == decide (n_9 >= 0)) (.nd (.bool !b_3 == decide (n_9 >= 0)) (.nd (.bool (decide (n_9 >= 0))) (.loadI .i64 (a_7.add (n_8.toNat * 1)) fun n_11 => .need (AV.val (.int .i64 n_11) = AV.val (.int .i64 n_9)) (.need (0 <= n_8 /\ n_8 < (↑n_4 : Int)) (.someA a_2 fun a_11 => .need (AV.val (.pointer (some (a_11.add (n_8.toNat * 1)))) = AV.val (.pointer (some (a_7.add (n_8.toNat * 1))))) (.nd (.int .i64 n_8) (.nd (.slice a_2 n_4 c_2) (.loadB (a_6.add (n_8.toNat * 1)) fun b => .need (AV.val (.bool b) = AV.val (.bool b_3)) (.need (0 <= n_8 /\ n_8 < (↑n : Int)) (.someA a fun a_12 => .need (AV.val (.pointer (some (a_12.add (n_8.toNat * 1)))) = AV.val (.pointer (some (a_6.add (n_8.toNat * 1))))) (.nd (.int .i64 n_8) (.nd (.slice a n c) (.nd (.bool false) (.nd (.bool false) (.nd (.tuple #[]) (.nd (.tuple #[]) (.nd (.tuple #[]) (.loadB (a_4.add (n_8.toNat * 1)) fun b => .need (AV.val (.bool b) = AV.val (.bool b_1)) (.need (0 <= n_8 /\ n_8 < (↑n_2 : Int)) (.someA a_1 fun a_13 => .need (AV.val (.pointer (some (a_13.add (n_8.toNat * 1)))) = AV.val (.pointer (some (a_4.add (n_8.toNat * 1))))) (.nd (.int .i64 n_8) (.nd (.slice a_1 n_2 c_1) (.nd (.tuple #[]) (.nd (.tuple #[]) (.nd (.tuple #[]) (.nd (.tuple #[]) (.nd (.tuple #[]) (.nd (.tuple #[]) (.nd (.tuple #[]) (.nd (.tuple #[]) (.nd (.tuple #[]) (.nd (.tuple #[]) (.nd (.bool true) (.nd (.bool true) (.nd (.tuple #[]) (.nd (.tuple #[]) (.nd (.tuple #[]) (.nd (.tuple #[]) (.nd (.tuple #[]) (.nd (.tuple #[]) (.nd (.bool !b_3 == decide (n_9 >= 0)) (.nd (.bool !b_3 == decide (n_9 >= 0)) (.nd (.bool (decide (n_9 >= 0))) (.loadI .i64 (a_7.add (n_8.toNat * 1)) fun n_12 => .need (AV.val (.int .i64 n_12) = AV.val (.int .i64 n_9)) (.need (0 <= n_8 /\ n_8 < (↑n_4 : Int)) (.someA a_2 fun a_14 => .need (AV.val (.pointer (some (a_14.add (n_8.toNat * 1)))) = AV.val (.pointer (some (a_7.add (n_8.toNat * 1))))) (.nd (.int .i64 n_8) (.nd (.slice a_2 n_4 c_2) (.loadB (a_6.add (n_8.toNat * 1)) fun b => .need (AV.val (.bool b) = AV.val (.bool b_3)) (.need (0 <= n_8 /\ n_8 < (↑n : Int)) (.someA a fun a_15 => .need (AV.val (.pointer (some (a_15.add (n_8.toNat * 1)))) = AV.val (.pointer (some (a_6.add (n_8.toNat * 1))))) (.nd (.int .i64 n_8) (.nd (.slice a n c) (.nd (.bool false) (.nd (.bool false) (.nd (.tuple #[]) (.nd (.tuple #[]) (.nd (.tuple #[]) (.loadB (a_4.add (n_8.toNat * 1)) fun b => .need (AV.val (.bool b) = AV.val (.bool b_1)) (.need (0 <= n_8 /\ n_8 < (↑n_2 : Int)) (.someA a_1 fun a => .need (AV.val (.pointer (some (a.add (n_8.toNat * 1)))) = AV.val (.pointer (some (a_4.add (n_8.toNat * 1))))) (.nd (.int .i64 n_8) (.nd (.slice a_1 n_2 c_1) (.leaf (.retn [.bool false, .int .i64 n_8]))))))))))))))))))))))))))))))))))))))))))))))))))))))))))))))))))))))))))))))))))))))))))))))))))))) else .need (0 <= n_8 /\ n_8 < (↑n_2 : Int)) (.someA a_1 fun a_8 => .loadB (a_8.add (n_8.toNat * 1)) fun b_4 => .need (0 <= n_8 /\ n_8 < (↑n_6 : Int)) (.someA a_3 fun a_9 => .loadI .i64 (a_9.add (n_8.toNat * 1)) fun n_10 => bif !b_4 == decide (n_10 >= 0) then .nd (.tuple #[]) (.nd (.tuple #[]) (.nd (.tuple #[]) (.nd (.tuple #[]) (.nd (.tuple #[]) (.nd (.tuple #[]) (.nd (.tuple #[]) (.nd (.tuple #[]) (.nd (.tuple #[]) (.nd (.tuple #[]) (.need (AV.val (.bool !b_4 == decide (n_10 >= 0)) = AV.val (.bool true)) (.nd (.bool !b_4 == decide (n_10 >= 0)) (.nd (.bool !b_4 == decide (n_10 >= 0)) (.nd (.bool (decide (n_10 >= 0))) (.loadI .i64 (a_9.add (n_8.toNat * 1)) fun n_11 => .need (AV.val (.int .i64 n_11) = AV.val (.int .i64 n_10)) (.need (0 <= n_8 /\ n_8 < (↑n_6 : Int)) (.someA a_3 fun a_10 => .need (AV.val (.pointer (some (a_10.add (n_8.toNat * 1)))) = AV.val (.pointer (some (a_9.add (n_8.toNat * 1))))) (.nd (.int .i64 n_8) (.nd (.slice a_3 n_6 c_3) (.loadB (a_8.add (n_8.toNat * 1)) fun b => .need (AV.val (.bool b) = AV.val (.bool b_4)) (.need (0 <= n_8 /\ n_8 < (↑n_2 : Int)) (.someA a_1 fun a_11 => .need (AV.val (.pointer (some (a_11.add (n_8.toNat * 1)))) = AV.val (.pointer (some (a_8.add (n_8.toNat * 1))))) (.nd (.int .i64 n_8) (.nd (.slice a_1 n_2 c_1) (.need (AV.val (.bool !b_3 == decide (n_9 >= 0)) = AV.val (.bool false)) (.nd (.bool !b_3 == decide (n_9 >= 0)) (.nd (.bool !b_3 == decide (n_9 >= 0)) (.nd (.bool (decide (n_9 >= 0))) (.loadI .i64 (a_7.add (n_8.toNat * 1)) fun n_12 => .need (AV.val (.int .i64 n_12) = AV.val (.int .i64 n_9)) (.need (0 <= n_8 /\ n_8 < (↑n_4 : Int)) (.someA a_2 fun a_12 => .need (AV.val (.pointer (some (a_12.add (n_8.toNat * 1)))) = AV.val (.pointer (some (a_7.add (n_8.toNat * 1))))) (.nd (.int .i64 n_8) (.nd (.slice a_2 n_4 c_2) (.loadB (a_6.add (n_8.toNat * 1)) fun b => .need (AV.val (.bool b) = AV.val (.bool b_3)) (.need (0 <= n_8 /\ n_8 < (↑n : Int)) (.someA a fun a_13 => .need (AV.val (.pointer (some (a_13.add (n_8.toNat * 1)))) = AV.val (.pointer (some (a_6.add (n_8.toNat * 1))))) (.nd (.int .i64 n_8) (.nd (.slice a n c) (.nd (.bool false) (.nd (.bool false) (.nd (.tuple #[]) (.nd (.tuple #[]) (.nd (.tuple #[]) (.loadB (a_4.add (n_8.toNat * 1)) fun b => .need (AV.val (.bool b) = AV.val (.bool b_1)) (.need (0 <= n_8 /\ n_8 < (↑n_2 : Int)) (.someA a_1 fun a => .need (AV.val (.pointer (some (a.add (n_8.toNat * 1)))) = AV.val (.pointer (some (a_4.add (n_8.toNat * 1))))) (.nd (.int .i64 n_8) (.nd (.slice a_1 n_2 c_1) (.leaf (.retn [.bool false, .int .i64 n_8]))))))))))))))))))))))))))))))))))))))))))))))))) else .need (0 <= n_8 /\ n_8 < (↑n_2 : Int)) (.someA a_1 fun a_10 => .loadB (a_10.add (n_8.toNat * 1)) fun b_5 => bif b_5 then .need (0 <= n_8 /\ n_8 < (↑n_4 : Int)) (.someA a_2 fun a => .loadI .i64 (a.add (n_8.toNat * 1)) fun n => .need (0 <= n_8 /\ n_8 < (↑n_6 : Int)) (.someA a_3 fun a => .loadI .i64 (a.add (n_8.toNat * 1)) fun n_11 => bif decide (n > n_11) then .leaf (.retn [.bool false, .int .i64 n_8]) else .leaf (.again [.bool b, .int .i64 (IntKind.wrap .i64 (n_8 + 1))]))) else .nd (.tuple #[]) (.nd (.tuple #[]) (.nd (.tuple #[]) (.nd (.tuple #[]) (.nd (.tuple #[]) (.nd (.tuple #[]) (.loadB (a_10.add (n_8.toNat * 1)) fun b_6 => .need (AV.val (.bool b_6) = AV.val (.bool b_5)) (.need (0 <= n_8 /\ n_8 < (↑n_2 : Int)) (.someA a_1 fun a_11 => .need (AV.val (.pointer (some (a_11.add (n_8.toNat * 1)))) = AV.val (.pointer (some (a_10.add (n_8.toNat * 1))))) (.nd (.int .i64 n_8) (.nd (.slice a_1 n_2 c_1) (.need (AV.val (.bool !b_4 == decide (n_10 >= 0)) = AV.val (.bool false)) (.nd (.bool !b_4 == decide (n_10 >= 0)) (.nd (.bool !b_4 == decide (n_10 >= 0)) (.nd (.bool (decide (n_10 >= 0))) (.loadI .i64 (a_9.add (n_8.toNat * 1)) fun n_11 => .need (AV.val (.int .i64 n_11) = AV.val (.int .i64 n_10)) (.need (0 <= n_8 /\ n_8 < (↑n_6 : Int)) (.someA a_3 fun a_12 => .need (AV.val (.pointer (some (a_12.add (n_8.toNat * 1)))) = AV.val (.pointer (some (a_9.add (n_8.toNat * 1))))) (.nd (.int .i64 n_8) (.nd (.slice a_3 n_6 c_3) (.loadB (a_8.add (n_8.toNat * 1)) fun b_7 => .need (AV.val (.bool b_7) = AV.val (.bool b_4)) (.need (0 <= n_8 /\ n_8 < (↑n_2 : Int)) (.someA a_1 fun a_13 => .need (AV.val (.pointer (some (a_13.add (n_8.toNat * 1)))) = AV.val (.pointer (some (a_8.add (n_8.toNat * 1))))) (.nd (.int .i64 n_8) (.nd (.slice a_1 n_2 c_1) (.need (AV.val (.bool !b_3 == decide (n_9 >= 0)) = AV.val (.bool false)) (.nd (.bool !b_3 == decide (n_9 >= 0)) (.nd (.bool !b_3 == decide (n_9 >= 0)) (.nd (.bool (decide (n_9 >= 0))) (.loadI .i64 (a_7.add (n_8.toNat * 1)) fun n_12 => .need (AV.val (.int .i64 n_12) = AV.val (.int .i64 n_9)) (.need (0 <= n_8 /\ n_8 < (↑n_4 : Int)) (.someA a_2 fun a_14 => .need (AV.val (.pointer (some (a_14.add (n_8.toNat * 1)))) = AV.val (.pointer (some (a_7.add (n_8.toNat * 1))))) (.nd (.int .i64 n_8) (.nd (.slice a_2 n_4 c_2) (.loadB (a_6.add (n_8.toNat * 1)) fun b_8 => .need (AV.val (.bool b_8) = AV.val (.bool b_3)) (.need (0 <= n_8 /\ n_8 < (↑n : Int)) (.someA a fun a_15 => .need (AV.val (.pointer (some (a_15.add (n_8.toNat * 1)))) = AV.val (.pointer (some (a_6.add (n_8.toNat * 1))))) (.nd (.int .i64 n_8) (.nd (.slice a n c) (.nd (.bool false) (.nd (.bool false) (.nd (.tuple #[]) (.nd (.tuple #[]) (.nd (.tuple #[]) (.loadB (a_4.add (n_8.toNat * 1)) fun b_9 => .need (AV.val (.bool b_9) = AV.val (.bool b_1)) (.need (0 <= n_8 /\ n_8 < (↑n_2 : Int)) (.someA a_1 fun a => .need (AV.val (.pointer (some (a.add (n_8.toNat * 1)))) = AV.val (.pointer (some (a_4.add (n_8.toNat * 1))))) (.nd (.int .i64 n_8) (.nd (.slice a_1 n_2 c_1) (.leaf (.again [.bool b, .int .i64 (IntKind.wrap .i64 (n_8 + 1))])))))))))))))))))))))))))))))))))))))))))))))))))))))))))))))))) else .leaf (.brk [.bool b, .int .i64 n_8]))) (fun vs => .popB vs fun b vs => .popI .i64 vs fun n vs => .unNil vs (.leaf (.ret (.bool true)))) (fun vs => .popB vs fun b vs => .popI .i64 vs fun n vs => .unNil vs (.leaf (.ret (.bool b)))) fun x x_6 => .fail)) (fun vs => .popB vs fun b vs => .unNil vs (.leaf (.ret (.bool b)))) fun x x_6 => .fail))))
theorem w2039 (x_0 x_1 x_2 x_3 x_4 x_5 : Int) (x_6p : Option Addr) (x_6n x_6c : Nat) (than_0 than_1 than_2 than_3 than_4 than_5 : Int) (than_6p : Option Addr) (than_6n than_6c : Nat) (land day : Int) (hX : XOK X) (hw : (n2039 x_0 x_1 x_2 x_3 x_4 x_5 x_6p x_6n x_6c than_0 than_1 than_2 than_3 than_4 than_5 than_6p than_6n than_6c land day).wp X Tryz.prog (retQ A) h) : FWK X Tryz.prog .normal 71 #[.agg #[.int .i64 x_0, .int .i64 x_1, .int .i64 x_2, .int .i64 x_3, .int .i64 x_4, .int .i64 x_5, .slice x_6p x_6n x_6c], .agg #[.int .i64 than_0, .int .i64 than_1, .int .i64 than_2, .int .i64 than_3, .int .i64 than_4, .int .i64 than_5, .slice than_6p than_6n than_6c], .int .i64 land, .int .i64 day] h A := fwk_neat (priv := [4, 5]) (loops := [{ id := 0, slots := [(8, .bool), (17, .int .i64)], ro := [4, 5], outs := [] }]) (joins := [{ id := 7, slots := [(8, .bool)], ro := [4, 5], outs := [] }]) (fd := Tryz.f71) (by kernel_rfl) (by simp) (by kernel_rfl) (by kernel_rfl) hX hw
end Go.Proofs.YtgljffachdhigaaGreatDoor
end
section
namespace Go.Proofs.YtgljffachdhigaaGreatDoor.Tre
open Go Go.TM Go.Proofs Go.TM.Tr
attribute [local irreducible] T.wp CV FWK
theorem dates_at {x : TF} {k d : Int} {j : Nat} (h : j < x.items.toNat) : (datesT x k d)[j]? = some (dateOn x k j d) := by
 unfold datesT
 rw [List.getElem?_map, List.getElem?_range h]; rfl
theorem prot_at {x : TF} {k d : Int} {j : Nat} (h : j < x.items.toNat) : (protT x k d)[j]? = some (decide (dateOn x k j d >= 0)) := by
 unfold protT
 rw [List.getElem?_map, dates_at h]; rfl
theorem prot_len (x : TF) (k d : Int) : (protT x k d).length = x.items.toNat := by unfold protT; rw [List.length_map, dates_len]
def NoLess (x y : TF) (k d : Int) : Prop := ∀ i : Nat, (i : Int) < x.items -> 0 <= dateOn y k i d -> 0 <= dateOn x k i d /\ dateOn x k i d <= dateOn y k i d
theorem bool_at {h : Cells} {p : Option Addr} {n : Nat} {l : List Bool} (s : Sl BoolE 1 h p n l) {j : Nat} {b : Bool} (hb : l[j]? = some b) : ∃ a, p = some a /\ h.cell? (a.add (j * 1)) = some (.bool b) := by
 obtain ⟨a, ha, e⟩ := s.2.2 j b hb
 unfold BoolE at e
 rw [add_zero'] at e
 exact ⟨a, ha, e⟩
theorem int_at {h : Cells} {p : Option Addr} {n : Nat} {l : List Int} (s : Sl IntE 1 h p n l) {j : Nat} {b : Int} (hb : l[j]? = some b) : ∃ a, p = some a /\ h.cell? (a.add (j * 1)) = some (.int .i64 b) := by
 obtain ⟨a, ha, e⟩ := s.2.2 j b hb
 unfold IntE at e
 rw [add_zero'] at e
 exact ⟨a, ha, e⟩
set_option maxRecDepth 10000 in
theorem c2039 {h : LH} (hk : Kinds h.get) {f g : TC} {x y : TF} (hx : TreatyR h.get f x) (hy : TreatyR h.get g y) {k d : Int} (ax : askedDayT x k d = 0) (ay : askedDayT y k d = 0) (hi : y.items = x.items) (hn : NoLess x y k d) :
  Gr Tryz.prog 71 #[treatyV f x, treatyV g y, .int .i64 k, .int .i64 d] h fun r _ => r = .bool true := by
 refine w2039 _ _ _ _ _ _ _ _ _ _ _ _ _ _ _ _ _ _ _ _ X0_ok ?_
 unfold n2039
 have hit := (check_numbers (asked_ok (askedDay_ok ax).1).1).1
 refine t_gr (c2018 hk hx k d) ?_
 intro r1 h1 le1 hr
 obtain ⟨p1, n1, k1, rfl, s1, _⟩ := hr.form
 rw [ax]; rw [protA, if_pos ax] at s1
 refine gZ ?_
 refine t_gr (c2018 (hk.le le1.1) (hy.le le1.1) k d) ?_
 intro r2 h2 le2 hr
 obtain ⟨p2, n2, k2, rfl, s2, _⟩ := hr.form
 rw [ay]; rw [protA, if_pos ay] at s2
 refine gZ ?_
 have l12 := LH.le_trans le1 le2
 refine t_gr (c2026 (hk.le l12.1) (hx.le l12.1) k d) ?_
 intro r3 h3 le3 hr
 obtain ⟨p3, n3, k3, rfl, s3, _⟩ := hr.form
 rw [ax]; rw [datesA, if_pos ax] at s3
 refine gZ ?_
 have l13 := LH.le_trans l12 le3
 refine t_gr (c2026 (hk.le l13.1) (hy.le l13.1) k d) ?_
 intro r4 h4 le4 hr
 obtain ⟨p4, n4, k4, rfl, s4, _⟩ := hr.form
 rw [ay]; rw [datesA, if_pos ay] at s4
 refine gZ ?_
 have l14 := LH.le_trans l13 le4
 have s1 := s1.le BoolE.grow (LH.le_trans le2 (LH.le_trans le3 le4)).1
 have s2 := s2.le BoolE.grow (LH.le_trans le3 le4).1
 have s3 := s3.le IntE.grow le4.1
 have m1 := s1.1
 have m2 := s2.1
 have m3 := s3.1
 have m4 := s4.1
 rw [prot_len] at m1 m2
 rw [dates_len] at m3 m4
 rw [hi] at m2 m4
 refine t_blk (fun vs h' => vs = [.bool false] /\ h4 = h') ?_ ?_
 ·refine t_cond (fun e => absurd e (by simp)) (fun _ => ?_)
  refine t_cond (fun e => absurd e (by simp)) (fun _ => ?_)
  refine t_cond (fun e => absurd e (by simp)) (fun _ => ?_)
  refine t_cond (fun e => absurd e (by simp)) (fun _ => ?_)
  refine t_cond (fun e => absurd e (by simp; omega)) (fun _ => ?_)
  refine t_cond (fun e => absurd e (by simp; omega)) (fun _ => ?_)
  refine t_cond (fun e => absurd e (by simp; omega)) (fun _ => ?_)
  refine t_cond (fun e => absurd e (by simp; omega)) (fun _ => ?_)
  exact t_again ⟨rfl, rfl⟩
 rintro vs _ ⟨rfl, rfl⟩
 refine gZ ?_
 refine t_loop (fun mm vs h' => h4 = h' /\ ∃ j : Nat, vs = [.bool false, .int .i64 j] /\ j <= n1 /\ mm = n1 - j) ⟨rfl, 0, rfl, Nat.zero_le _, rfl⟩ ?_
 rintro Y mm vs _ hY ⟨rfl, j, rfl, hj, rfl⟩
 refine gZ ?_
 refine t_if (fun e1 => ?_) (fun e1 => ?_)
 ·have hjx : j < x.items.toNat := by omega
  obtain ⟨a1, ha1, g1⟩ := bool_at s1 (prot_at (k := k) (d := d) hjx)
  obtain ⟨a2, ha2, g2⟩ := bool_at s2 (prot_at (x := y) (k := k) (d := d) (j := j) (by rw [hi]; exact hjx))
  obtain ⟨a3, ha3, g3⟩ := int_at s3 (dates_at (k := k) (d := d) hjx)
  obtain ⟨a4, ha4, g4⟩ := int_at s4 (dates_at (x := y) (k := k) (d := d) (j := j) (by rw [hi]; exact hjx))
  have hnj := hn j (by omega)
  generalize dateOn x k j d = dx at g1 g3 hnj
  generalize dateOn y k j d = dy at g2 g4 hnj
  have next : Y [.bool false, .int .i64 (IntKind.wrap .i64 ((j : Int) + 1))] h4 := by
   refine hY (n1 - (j + 1)) _ _ (by omega) ⟨rfl, j + 1, ?_, by omega, rfl⟩
   rw [wrap_id (by omega) (by omega)]; rfl
  refine gZ ?_
  refine t_cond (fun d1 => ?_) (fun d1 => ?_)
  ·have d1' : 0 <= dy := by simpa using d1
   obtain ⟨hx0, hxy⟩ := hnj d1'
   refine gZ ?_
   refine t_cond (fun e => absurd e (by simp; omega)) (fun _ => ?_)
   refine gZ ?_
   refine t_cond (fun e => absurd e (by simp)) (fun _ => ?_)
   refine gZ ?_
   refine t_cond (fun e => absurd e (by simp)) (fun _ => ?_)
   refine gZ ?_
   refine t_cond (fun _ => ?_) (fun e => absurd e (by rw [d1]; simp))
   refine gZ ?_
   refine t_cond (fun e => absurd e (by simp; omega)) (fun _ => ?_)
   exact t_again next
  ·refine gZ ?_
   refine t_cond (fun e => absurd e (by simp)) (fun _ => ?_)
   refine gZ ?_
   refine t_cond (fun e => absurd e (by simp)) (fun _ => ?_)
   refine gZ ?_
   refine t_cond (fun e => absurd e (by rw [d1]; simp)) (fun _ => ?_)
   simp only [beq_self_eq_true, Bool.not_true]
   refine gZ ?_
   exact t_again next
 ·refine gZ ?_
  exact t_ret ⟨l14, rfl⟩
def SameOn (x y : TF) (k d : Int) : Prop := y.items = x.items /\ ∀ i : Nat, (i : Int) < x.items -> dateOn y k i d = dateOn x k i d
theorem c2034 {h : LH} (hk : Kinds h.get) {f g : TC} {x y : TF} (hx : TreatyR h.get f x) (hy : TreatyR h.get g y) {k d : Int} (ax : askedDayT x k d = 0) (ay : askedDayT y k d = 0) (hs : SameOn x y k d) :
  Gr Tryz.prog 25 #[treatyV f x, treatyV g y, .int .i64 k, .int .i64 d] h fun r _ => r = .bool true := by
 refine w2034 _ _ _ _ _ _ _ _ _ _ _ _ _ _ _ _ _ _ _ _ X0_ok ?_
 unfold n2034
 refine t_gr (c2039 hk hx hy ax ay hs.1 fun i hi h0 => by rw [hs.2 i hi] at h0 ⊢; exact ⟨h0, Int.le_refl _⟩) ?_
 rintro _ h1 le1 rfl
 refine gZ ?_
 refine t_cond (fun _ => ?_) (fun e => by cases e)
 refine t_gr (c2039 (hk.le le1.1) (hy.le le1.1) (hx.le le1.1) ay ax hs.1.symm fun i hi h0 => by rw [hs.2 i (by rw [<- hs.1]; exact hi)]; exact ⟨h0, Int.le_refl _⟩) ?_
 rintro _ h2 le2 rfl
 refine gZ ?_
 exact t_ret ⟨LH.le_trans le1 le2, rfl⟩
theorem c2040 {h : LH} (hk : Kinds h.get) {f g : TC} {x y : TF} (hx : TreatyR h.get f x) (hy : TreatyR h.get g y) {k d : Int} (ax : askedDayT x k d = 0) (ay : askedDayT y k d = 0) (hi : y.items = x.items) (hn : ∀ i : Nat, (i : Int) < x.items -> 0 <= dateOn x k i d -> 0 <= dateOn y k i d) :
  Gr Tryz.prog 24 #[treatyV f x, treatyV g y, .int .i64 k, .int .i64 d] h fun r _ => r = .bool true := by
 refine w2040 _ _ _ _ _ _ _ _ _ _ _ _ _ _ _ _ _ _ _ _ X0_ok ?_
 unfold n2040
 have hit := (check_numbers (asked_ok (askedDay_ok ax).1).1).1
 refine t_gr (c2018 hk hx k d) ?_
 intro r1 h1 le1 hr
 obtain ⟨p1, n1, k1, rfl, s1, _⟩ := hr.form
 rw [ax]; rw [protA, if_pos ax] at s1
 refine gZ ?_
 refine t_gr (c2018 (hk.le le1.1) (hy.le le1.1) k d) ?_
 intro r2 h2 le2 hr
 obtain ⟨p2, n2, k2, rfl, s2, _⟩ := hr.form
 rw [ay]; rw [protA, if_pos ay] at s2
 refine gZ ?_
 have l12 := LH.le_trans le1 le2
 have s1 := s1.le BoolE.grow le2.1
 have m1 := s1.1
 have m2 := s2.1
 rw [prot_len] at m1 m2
 rw [hi] at m2
 refine t_blk (fun vs h' => vs = [.bool false] /\ h2 = h') ?_ ?_
 ·refine t_cond (fun e => absurd e (by simp)) (fun _ => ?_)
  refine t_cond (fun e => absurd e (by simp)) (fun _ => ?_)
  refine t_cond (fun e => absurd e (by simp; omega)) (fun _ => ?_)
  exact t_again ⟨rfl, rfl⟩
 rintro vs _ ⟨rfl, rfl⟩
 refine gZ ?_
 refine t_loop (fun mm vs h' => h2 = h' /\ ∃ j : Nat, vs = [.bool false, .int .i64 j] /\ j <= n1 /\ mm = n1 - j) ⟨rfl, 0, rfl, Nat.zero_le _, rfl⟩ ?_
 rintro Y mm vs _ hY ⟨rfl, j, rfl, hj, rfl⟩
 refine gZ ?_
 refine t_if (fun e1 => ?_) (fun e1 => ?_)
 ·have hjx : j < x.items.toNat := by omega
  obtain ⟨a1, ha1, g1⟩ := bool_at s1 (prot_at (k := k) (d := d) hjx)
  obtain ⟨a2, ha2, g2⟩ := bool_at s2 (prot_at (x := y) (k := k) (d := d) (j := j) (by rw [hi]; exact hjx))
  have hnj := hn j (by omega)
  have next : Y [.bool false, .int .i64 (IntKind.wrap .i64 ((j : Int) + 1))] h2 := by
   refine hY (n1 - (j + 1)) _ _ (by omega) ⟨rfl, j + 1, ?_, by omega, rfl⟩
   rw [wrap_id (by omega) (by omega)]; rfl
  refine gZ ?_
  refine t_cond (fun d1 => ?_) (fun d1 => ?_)
  ·have hy0 := hnj (by simpa using d1)
   refine gZ ?_
   refine t_cond (fun e => absurd e (by simp; omega)) (fun _ => ?_)
   exact t_again next
  ·exact t_again next
 ·refine gZ ?_
  exact t_ret ⟨l12, rfl⟩
end Go.Proofs.YtgljffachdhigaaGreatDoor.Tre
end
section
namespace Go.Proofs.YtgljffachdhigaaGreatDoor.Tre
open Go Go.TM Go.Proofs Go.TM.Tr
attribute [local irreducible] T.wp CV FWK
theorem mod_in {n m : Int} (hn : 0 <= n /\ n <= 65535) (hm : 0 < m) : Int.tmod (IntKind.i64.wrap n) m = n % m /\ 0 <= n % m /\ n % m < m := by
 rw [wrap_id (by omega) (by omega), Int.tmod_eq_emod_of_nonneg hn.1]
 exact ⟨rfl, Int.emod_nonneg _ (by omega), Int.emod_lt_of_pos _ hm⟩
theorem day_mod (n : Int) : 0 <= n % 10000 /\ n % 10000 <= 9999 := by omega
theorem asked_fit {x : TF} (h : checkT x = 0) {k d : Int} (hk : 0 <= k /\ k < x.lands) (hd : 0 <= d /\ d <= 9999) : askedDayT x k d = 0 := by
 have h1 : askedT x k = 0 := by rw [askedT, if_neg (by simp [h]), if_neg (by simp [inB]; omega)]
 rw [askedDayT, if_neg (by simp [h1]), if_pos (by simp [dayB, inB]; omega)]
end Go.Proofs.YtgljffachdhigaaGreatDoor.Tre
end
section
namespace Go.TM
open Go Go.Conc Go.Sem
variable {P : Program} {h : Cells} {E : Halt -> Cells -> Prop}
theorem lwp_appendB {Q : Value -> Cells -> Prop} {ts : Array TypeId} {ty sT xT el xe : TypeId} {inf : TypeInfo} {z : Value} {p : Option Addr} {n c m mc : Nat} {b : Addr} {vs ws : List Value} (h0 : ts[0]? = some sT) (h1 : ts[1]? = some xT) (hu : P.underlying sT = some (.slice el)) (hx : P.underlying xT = some (.slice xe))
  (hi : P.info? el = some inf) (hz : inf.zero = some z) (hsz : z.cells.size = inf.size) (hnm : n + m <= 2 ^ 62) (hcap : ¬ n + m <= c -> Builtin.nextslicecap (n + m) c * inf.bytes <= 2 ^ 48) (own : OwnRow el inf.size h p n c vs) (hl : ws.length = m * inf.size) (hc : ∀ (j : Nat) v, ws[j]? = some v -> h.cell? (b.add j) = some v) (one : ∀ v ∈ ws, isOne v = true) (hm : 0 < m)
  (hq : ∀ p' c' h', OwnRow el inf.size h' p' (n + m) c' (vs ++ ws) -> KeptBut p h h' -> (p' = p \/ ∃ r, p' = some ⟨r, 0, none⟩ /\ h r = none) -> Q (.slice p' (n + m) c') h') : Sem.lwp P (Builtin.append_ ts ty #[.slice p n c, .slice (some b) m mc]) Q E h := by
 unfold Builtin.append_
 rw [h0, h1]
 simp only [List.getElem?_toArray, List.getElem?_cons_zero, List.getElem?_cons_succ]
 simp only [lwp_bind, lwp_underlying hu, lwp_sizeOf hi, lwp_underlying hx, lwp_pure, Bool.false_eq_true, if_false, Bool.not_false, if_true, Builtin.lenOf]
 obtain ⟨hvl, hown⟩ := own
 by_cases hroom : n + m <= c
 ·simp only [if_pos hroom, lwp_bind, Builtin.firstCells]
  refine lwp_loads (l := ws) hl hc ?_
  rcases hown with ⟨rfl, rfl, rfl⟩ | ⟨r, cs, rfl, hr, hcs, hnc, hv⟩
  ·omega
  ·simp only []
   have hle : n * inf.size + ws.length <= cs.size := by rw [hl, hcs, <- Nat.add_mul]; exact Nat.mul_le_mul_right _ hroom
   have ha : Addr.add ⟨r, 0, none⟩ (n * inf.size) = ⟨r, n * inf.size, none⟩ := by unfold Addr.add; split <;> simp_all
   rw [ha]
   rw [lwp_bind]
   refine lwp_storeCells ws 0 h r (n * inf.size) cs el hr (by omega) one ?_
   rw [lwp_pure]
   refine hq _ _ _ ⟨by simp [hvl, hl, Nat.add_mul], .inr ⟨r, _, rfl, Cells.upd_self _ _ _, ?_, hroom, ?_⟩⟩ ?_ (.inl rfl)
   ·rw [size_setMany]; exact hcs
   ·intro j v hj
    rw [setMany_get (by omega)]
    by_cases hlt : j < vs.length
    ·rw [if_neg (by omega)]
     rw [List.getElem?_append_left hlt] at hj
     exact hv j v hj
    ·rw [List.getElem?_append_right (by omega)] at hj
     have hj' : j - vs.length < ws.length := (List.getElem?_eq_some_iff.1 hj).1
     rw [if_pos (by omega), <- hj]; congr 1; omega
   ·intro r' x hx' hne
    have : r' ≠ r := fun e => hne _ rfl e.symm
    rw [Cells.upd_ne _ _ this]; exact hx'
 ·have hnot : ¬ ((((n + m : Nat) : Int) > IntKind.i64.max) /\ ((false : Bool) = true \/ inf.bytes = 0)) := by
   rintro ⟨h1, _⟩
   have e : IntKind.i64.max = 9223372036854775807 := rfl
   rw [e] at h1; omega
  have hbytes : ¬ (Builtin.nextslicecap (n + m) c * inf.bytes > 2 ^ 48) := by have := hcap hroom; omega
  have hnot' : ¬ ((((n + m : Nat) : Int) > IntKind.i64.max) /\ (False \/ inf.bytes = 0)) := fun h => hnot ⟨h.1, h.2.imp_left False.elim⟩
  simp only [if_neg hroom, lwp_bind, lwp_typeInfo hi, if_neg hnot', if_neg hbytes, lwp_pure]
  have hch : ∀ {K : Nat -> Cells -> Prop}, (∀ a, n + m <= a -> K a h) -> Sem.lwp P (choose (Question.appendCap (n + m) c el)) K E h := by
   intro K hK
   show (if _ then _ else _)
   split
   ·rename_i hf; simp [Question.forced] at hf
   ·intro t; exact hK _ (Nat.le_add_right _ _)
  refine hch fun a ha => ?_
  have hroom' : ∀ {K : Unit -> Cells -> Prop}, K () h -> Sem.lwp P (askRoom (a * inf.bytes)) K E h := by
   intro K hK
   unfold askRoom
   split
   ·exact ⟨rfl, hK⟩
   ·exact hK
  refine hroom' ?_
  have hold : ∀ {K : Array Value -> Cells -> Prop}, (∀ old : Array Value, old.toList = vs -> K old h) -> Sem.lwp P (Builtin.firstCells inf.size n (Value.slice p n c)) K E h := by
   intro K hK
   rcases hown with ⟨rfl, rfl, rfl⟩ | ⟨r, cs, rfl, hr, hcs, hnc, hv⟩
   ·have : vs = [] := List.eq_nil_of_length_eq_zero (by rw [hvl]; simp)
    simp only [Builtin.firstCells, lwp_pure]
    exact hK #[] (by rw [this])
   ·simp only [Builtin.firstCells]
    refine lwp_loads (l := vs) hvl (fun j v hj => ?_) (hK _ rfl)
    have e : Addr.add ⟨r, 0, none⟩ j = ⟨r, j, none⟩ := by unfold Addr.add; split <;> simp_all
    rw [e]
    simp only [Cells.cell?, hr, Option.isSome_none, Bool.false_eq_true, if_false]
    exact hv j v hj
  refine hold fun old hold => ?_
  simp only [Builtin.firstCells]
  refine lwp_loads (l := ws) hl hc ?_
  simp only [lwp_zeroValue hi hz]
  refine lwp_newRow fun r hr => ?_
  have hzs : (Builtin.zeroCells z.cells (a - (n + m))).size = (a - (n + m)) * inf.size := by simp [Builtin.zeroCells, hsz]
  refine hq _ _ _ ⟨by simp [hvl, hl, Nat.add_mul], .inr ⟨r, _, rfl, Cells.upd_self _ _ _, ?_, ha, ?_⟩⟩ ?_ (.inr ⟨r, rfl, hr⟩)
  ·have e1 : old.size = n * inf.size := by rw [<- Array.length_toList, hold, hvl]
   have e2 : (ws.toArray).size = m * inf.size := by simp [hl]
   simp only [Array.size_append, e1, e2, hzs]
   rw [<- Nat.add_mul, <- Nat.add_mul]; congr 1; omega
  ·intro j v hj
   have hlen : j < (vs ++ ws).length := (List.getElem?_eq_some_iff.1 hj).1
   rw [<- Array.getElem?_toList, Array.toList_append, Array.toList_append, hold, List.getElem?_append_left (by simpa using hlen)]
   exact hj
  ·intro r' x hx' _
   have : r' ≠ r := by rintro rfl; rw [hr] at hx'; cases hx'
   rw [Cells.upd_ne _ _ this]; exact hx'
theorem lwp_appendSB {Q : Value -> Cells -> Prop} {ts : Array TypeId} {ty sT xT el xe : TypeId} {s by_ : Nat} {z : Value} {p : Option Addr} {n c m mc : Nat} {b : Addr} {vs ws : List Value} (h0 : ts[0]? = some sT) (h1 : ts[1]? = some xT) (hu : P.underlying sT = some (.slice el)) (hx : P.underlying xT = some (.slice xe))
  (hi : (P.info? el).map (fun i => (i.size, i.bytes, i.zero)) = some (s, by_, some z)) (hsz : z.cells.size = s) (hnm : n + m <= 2 ^ 62) (hcap : ¬ n + m <= c -> Builtin.nextslicecap (n + m) c * by_ <= 2 ^ 48) (own : OwnRow el s h p n c vs) (hl : ws.length = m * s) (hc : ∀ (j : Nat) v, ws[j]? = some v -> h.cell? (b.add j) = some v) (one : ∀ v ∈ ws, isOne v = true) (hm : 0 < m)
  (hq : ∀ p' c' h', OwnRow el s h' p' (n + m) c' (vs ++ ws) -> KeptBut p h h' -> (p' = p \/ ∃ r, p' = some ⟨r, 0, none⟩ /\ h r = none) -> Q (.slice p' (n + m) c') h') : Sem.lwp P (Builtin.append_ ts ty #[.slice p n c, .slice (some b) m mc]) Q E h := by
 obtain ⟨i, g1, g2, g3, g4⟩ := info_of hi
 subst g2; subst g3
 exact lwp_appendB h0 h1 hu hx g1 g4 hsz hnm hcap own hl hc one hm hq
theorem t_appendB {X : XP} {Q : Leaf -> LH -> Prop} {h : LH} {k : Value -> T} {ts : Array TypeId} {ty sT xT el xe : TypeId} {s by_ : Nat} {z : Value} {p : Option Addr} {n c m mc : Nat} {b : Addr} {vs ws : List Value} (h0 : ts[0]? = some sT) (h1 : ts[1]? = some xT) (hu : P.underlying sT = some (.slice el)) (hx : P.underlying xT = some (.slice xe))
  (hi : (P.info? el).map (fun i => (i.size, i.bytes, i.zero)) = some (s, by_, some z)) (hsz : z.cells.size = s) (hnm : n + m <= 2 ^ 62) (hcap : ¬ n + m <= c -> Builtin.nextslicecap (n + m) c * by_ <= 2 ^ 48) (own : OwnRow el s h.get p n c vs) (hl : ws.length = m * s) (hc : ∀ (j : Nat) v, ws[j]? = some v -> h.get.cell? (b.add j) = some v) (one : ∀ v ∈ ws, isOne v = true) (hm : 0 < m)
  (hk : ∀ p' c' h', OwnRow el s h' p' (n + m) c' (vs ++ ws) -> KeptBut p h.get h' -> (p' = p \/ ∃ r, p' = some ⟨r, 0, none⟩ /\ h.get r = none) -> (k (.slice p' (n + m) c')).wp X P Q { h with get := h' }) : (T.sem false (Builtin.append_ ts ty #[.slice p n c, .slice (some b) m mc]) k).wp X P Q h :=
 t_sem (A := fun v h' => ∃ p' c', v = .slice p' (n + m) c' /\ OwnRow el s h' p' (n + m) c' (vs ++ ws) /\ KeptBut p h.get h' /\ (p' = p \/ ∃ r, p' = some ⟨r, 0, none⟩ /\ h.get r = none)) (lwp_appendSB h0 h1 hu hx hi hsz hnm hcap own hl hc one hm fun p' c' h' a b c => ⟨p', c', rfl, a, b, c⟩)
  (by rintro v h' ⟨p', c', rfl, a, b, c⟩; exact hk p' c' h' a b c)
section
variable {P : Program} {X : XP} {Q : Leaf -> LH -> Prop}
theorem t_copyB {α : Type} {E : Cells -> Addr -> α -> Prop} {Enc : α -> List Value -> Prop} {h h₀ : LH} {k : Value -> T} {ts : Array TypeId} {ty sT xT el xe : TypeId} {s by_ : Nat} {z : Value} {p q : Option Addr} {n c m mc : Nat} {l l1 : List α} (h0 : ts[0]? = some sT) (h1 : ts[1]? = some xT) (hu : P.underlying sT = some (.slice el)) (hx : P.underlying xT = some (.slice xe))
  (hi : (P.info? el).map (fun i => (i.size, i.bytes, i.zero)) = some (s, by_, some z)) (hsz : z.cells.size = s) (hn : n + m <= 2 ^ 62) (hcap : ¬ n + m <= c -> Builtin.nextslicecap (n + m) c * by_ <= 2 ^ 48) (g : Growing Enc el s h₀.get h.get p n c l) (hle : h₀.le h) (src : Sl E s h.get q m l1) (he : ToldE E Enc s h.get)
  (hk : ∀ p' c' h', h₀.le h' -> (∀ r y, (∀ a, p = some a -> a.block ≠ r) -> h.get r = some y -> h'.get r = some y) -> Growing Enc el s h₀.get h'.get p' (n + m) c' (l ++ l1) -> (k (.slice p' (n + m) c')).wp X P Q h') : (T.sem false (Builtin.append_ ts ty #[.slice p n c, .slice q m mc]) k).wp X P Q h := by
 obtain ⟨vs, o, r⟩ := g.row
 by_cases hm : m = 0
 ·subst hm
  have hl1 : l1 = [] := List.eq_nil_of_length_eq_zero src.1.symm
  subst hl1
  refine t_append0 h0 h1 hu hx hi o.le_cap ?_
  have := hk p c h hle (fun r y _ hy => hy) (by rw [List.append_nil]; exact g)
  exact this
 ·obtain ⟨x, b, _, hb', _⟩ := src.at (i := 0) (by omega)
  subst hb'
  obtain ⟨ws, w1, w2, w3, w4⟩ := flat he src l1.length (Nat.le_refl _)
  rw [List.take_length] at w1
  have hm' := src.1
  refine t_appendB h0 h1 hu hx hi hsz hn hcap o (by rw [w2, hm']) w3 w4 (by omega) fun p' c' h' a b c => ?_
  obtain ⟨l1', l2'⟩ := after_append hle.1 g.new b c
  exact hk p' c' _ ⟨l1', hle.2⟩ (fun r y hr hy => b r y hy hr) ⟨⟨vs ++ ws, a, r.append w1⟩, l2'⟩
end
theorem cap_first (m : Nat) : ¬ 0 + m <= 0 -> Builtin.nextslicecap (0 + m) 0 = m := by
 intro h
 unfold Builtin.nextslicecap
 rw [if_pos (by omega)]; omega
theorem cap_next {m c : Nat} (hc : m <= c) : ¬ m + 1 <= c -> Builtin.nextslicecap (m + 1) c <= m + m / 4 + 600 := by
 intro h
 obtain rfl : c = m := by omega
 unfold Builtin.nextslicecap
 split
 ·omega
 ·split
  ·omega
  ·unfold Builtin.growBy
   split
   ·omega
   ·unfold Builtin.growBy
    rw [if_pos (by omega)]; omega
end Go.TM
end
section
namespace Go.Proofs.YtgljffachdhigaaGreatDoor.Tre
open Go Go.TM Go.Proofs Go.TM.Tr
attribute [local irreducible] T.wp CV FWK
def evCells (e : Ev) (q : Option Addr) (m c : Nat) : List Value := [.int .i64 e.kind, .int .i64 e.day, .int .i64 e.land, .slice q m c, .int .i64 e.since]
theorem ev_one (e : Ev) (q : Option Addr) (m c : Nat) : ∀ w ∈ evCells e q m c, isOne w = true := by
 intro w hw
 simp only [evCells, List.mem_cons, List.not_mem_nil, or_false] at hw
 rcases hw with rfl | rfl | rfl | rfl | rfl <;> rfl
theorem ev_src {h0 h : Cells} {e : Ev} {q : Option Addr} {m c r : Nat} (hm : m <= c) (he : Sl IntE 1 h0 q m e.items) (hc : ∀ (j : Nat) w, (evCells e q m c)[j]? = some w -> h.cell? (Addr.add ⟨r, 0, none⟩ j) = some w) : Sl (EventB h0) 5 h (some ⟨r, 0, none⟩) 1 [e] := by
 refine ⟨rfl, by simp, fun i x hx => ⟨_, rfl, ?_⟩⟩
 match i, hx with
 | 0, hx =>
  cases hx
  refine ⟨q, m, c, fun j w hj => ?_, hm, he⟩
  rw [Nat.zero_mul, add_zero2]
  exact hc j w hj
 | i + 1, hx => simp at hx
theorem own_of {α : Type} {Enc : α -> List Value -> Prop} {el : TypeId} {k : Nat} {h₀ h : Cells} {r n c : Nat} {l : List α} (g : Growing Enc el k h₀ h (some ⟨r, 0, none⟩) n c l) : ∃ cs, h r = some (true, .cells cs el (0, 0)) := by
 obtain ⟨vs, ⟨_, h2⟩, _⟩ := g.row
 rcases h2 with ⟨h3, _⟩ | ⟨r', cs, h3, h4, _⟩
 ·cases h3
 ·cases h3; exact ⟨cs, h4⟩
theorem own_cells {h : Cells} {r : Nat} {el : TypeId} {e : Ev} {q : Option Addr} {m c : Nat} (ho : h r = some (true, .cells #[.int .i64 e.kind, .int .i64 e.day, .int .i64 e.land, .slice q m c, .int .i64 e.since] el (0, 0))) : ∀ (j : Nat) w, (evCells e q m c)[j]? = some w -> h.cell? (Addr.add ⟨r, 0, none⟩ j) = some w := by
 intro j w hj
 rw [add_plain, Nat.zero_add]
 simp only [Cells.cell?, ho, Option.isSome_none, Bool.false_eq_true, if_false]
 simpa [evCells] using hj
set_option maxRecDepth 10000 in
theorem c2035 {h : LH} {f : TC} {x : TF} (hx : TreatyR h.get f x) (hbig : x.events.length * 56 <= 2 ^ 47) {e : Ev} {q : Option Addr} {m c : Nat} (hm : m <= c) (he : Sl IntE 1 h.get q m e.items) :
  Gr Tryz.prog 17 #[treatyV f x, .agg #[.int .i64 e.kind, .int .i64 e.day, .int .i64 e.land, .slice q m c, .int .i64 e.since]] h fun r h' => ∃ f' b, r = .tuple #[treatyV f' (add x e), .bool b] /\ TreatyR h'.get f' (add x e) /\ (b = true -> checkT (add x e) = 0) := by
 refine w2035 _ _ _ _ _ _ _ _ _ _ _ _ _ _ _ _ X0_ok ?_
 unfold n2035
 have hn := hx.2.1
 have src : ∀ h' : LH, h.le h' -> Sl (EventB h.get) 5 h'.get f.p f.n x.events := fun h' hle => EventB.of (Rd.of_le hle.1) hx.2
 have cap1 : ¬ 0 + f.n <= 0 -> Builtin.nextslicecap (0 + f.n) 0 * 56 <= 2 ^ 48 := fun hh => by rw [cap_first f.n hh]; omega
 have cap2 : ∀ c', 0 + f.n <= c' -> ¬ (0 + f.n) + 1 <= c' -> Builtin.nextslicecap (0 + f.n + 1) c' * 56 <= 2 ^ 48 := fun c' hc hh => by
  have := Nat.mul_le_mul_right 56 (cap_next hc hh)
  omega
 refine t_blk (fun vs h' => ∃ p' n' c', vs = [.int .i64 x.items, .int .i64 x.lands, .int .i64 x.start, .int .i64 x.depend, .int .i64 x.refuse, .int .i64 x.turn, .slice p' n' c'] /\ h.le h' /\ Growing (EventEnc h.get) 63 5 h.get h'.get p' n' c' (x.events ++ [e])) ?_ ?_
 ·refine t_both ?_ ?_
  ·refine t_build0G (h₀ := h) (Enc := EventEnc h.get) undEvs infEv (LH.le_refl _) fun r h1 _ le1 g1 => ?_
   refine gZ ?_
   refine t_both ?_ ?_
   ·refine t_copyB (h₀ := h) (E := EventB h.get) (Enc := EventEnc h.get) rfl rfl undEvs undEvs infEv rfl (by omega) cap1 g1 le1 (src _ le1) eventTold fun p2 c2 h2 le2 _ g2 => ?_
    obtain ⟨_, o2, _⟩ := g2.row
    refine gZ ?_
    refine t_buildR (evCells e q m c) undEvs infEv (by decide) (by decide) (by kernel_rfl) fun r3 h3 le3 _ hc3 => ?_
    refine gZ ?_
    refine t_copyB (h₀ := h) (E := EventB h.get) (Enc := EventEnc h.get) rfl rfl undEvs undEvs infEv rfl (by omega) (cap2 _ o2.le_cap) (g2.le le3.1) (LH.le_trans le2 le3) (ev_src hm he hc3) eventTold fun p4 c4 h4 le4 _ g4 => ?_
    refine gZ ?_
    exact t_again ⟨_, _, _, rfl, le4, g4⟩
   ·refine t_build undEvs infEv (by decide) (by decide) (cells := #[.int .i64 e.kind, .int .i64 e.day, .int .i64 e.land, .slice q m c, .int .i64 e.since]) (by kernel_rfl) fun r3 hr3 => ?_
    have le3 := LH.upd_le (x := (true, .cells #[.int .i64 e.kind, .int .i64 e.day, .int .i64 e.land, .slice q m c, .int .i64 e.since] 63 (0, 0))) hr3
    refine gZ ?_
    have le13 := LH.le_trans le1 le3
    obtain ⟨cs1, o1⟩ := own_of g1
    refine t_copyB (h₀ := h) (E := EventB h.get) (Enc := EventEnc h.get) rfl rfl undEvs undEvs infEv rfl (by omega) cap1 (g1.le le3.1) le13 (src _ le13) eventTold fun p2 c2 h2 le2 kp2 g2 => ?_
    obtain ⟨_, o2, _⟩ := g2.row
    have h23 := kp2 r3 _ (fun a ha => by cases ha; exact ne_of_get hr3 o1) (Cells.upd_self _ _ _)
    refine gZ ?_
    refine t_copyB (h₀ := h) (E := EventB h.get) (Enc := EventEnc h.get) rfl rfl undEvs undEvs infEv rfl (by omega) (cap2 _ o2.le_cap) g2 le2 (ev_src hm he (own_cells h23)) eventTold fun p4 c4 h4 le4 _ g4 => ?_
    refine gZ ?_
    exact t_again ⟨_, _, _, rfl, le4, g4⟩
  ·refine t_build undEvs infEv (by decide) (by decide) (cells := #[.int .i64 e.kind, .int .i64 e.day, .int .i64 e.land, .slice q m c, .int .i64 e.since]) (by kernel_rfl) fun r3 hr3 => ?_
   have le3 := LH.upd_le (x := (true, .cells #[.int .i64 e.kind, .int .i64 e.day, .int .i64 e.land, .slice q m c, .int .i64 e.since] 63 (0, 0))) hr3
   refine gZ ?_
   refine t_build0G (h₀ := h) (Enc := EventEnc h.get) undEvs infEv le3 fun r h1 hr1 le1 g1 => ?_
   refine gZ ?_
   have h13 := le1.1 r3 _ (Cells.upd_self _ _ _)
   have le01 := LH.le_trans le3 le1
   refine t_copyB (h₀ := h) (E := EventB h.get) (Enc := EventEnc h.get) rfl rfl undEvs undEvs infEv rfl (by omega) cap1 g1 le01 (src _ le01) eventTold fun p2 c2 h2 le2 kp2 g2 => ?_
   obtain ⟨_, o2, _⟩ := g2.row
   have h23 := kp2 r3 _ (fun a ha => by cases ha; exact (ne_of_get hr1 (Cells.upd_self _ _ _)).symm) h13
   refine gZ ?_
   refine t_copyB (h₀ := h) (E := EventB h.get) (Enc := EventEnc h.get) rfl rfl undEvs undEvs infEv rfl (by omega) (cap2 _ o2.le_cap) g2 le2 (ev_src hm he (own_cells h23)) eventTold fun p4 c4 h4 le4 _ g4 => ?_
   refine gZ ?_
   exact t_again ⟨_, _, _, rfl, le4, g4⟩
 rintro vs h1 ⟨p', n', c', rfl, le1, g⟩
 have hn' := g.count EventEnc.len (by omega)
 rw [List.length_append, List.length_singleton] at hn'
 have hx' : TreatyR h1.get ⟨p', n', c'⟩ (add x e) := by
  obtain ⟨_, o, _⟩ := g.row
  exact ⟨o.le_cap, g.sl EventEnc.len (by omega) (EventEnc.e (Rd.of_le le1.1)) (by show (x.events ++ [e]).length < _; rw [List.length_append, List.length_singleton]; omega)⟩
 refine gZ ?_
 refine t_if (fun e1 => ?_) (fun e1 => ?_)
 ·refine t_pu (c2022 (f := ⟨p', n', c'⟩) (x := add x e) hx') ?_
  refine gZ ?_
  exact t_ret ⟨le1, ⟨p', n', c'⟩, _, rfl, hx', fun hb => by simpa using hb⟩
 ·refine gZ ?_
  refine t_both ?_ ?_
  ·refine gZ ?_
   exact t_ret ⟨le1, ⟨p', n', c'⟩, _, rfl, hx', fun hb => by cases hb⟩
  ·refine gZ ?_
   exact t_ret ⟨le1, ⟨p', n', c'⟩, _, rfl, hx', fun hb => by cases hb⟩
theorem c2036 {h : LH} {f : TC} {x : TF} (hx : TreatyR h.get f x) (hmany : x.events.length <= 10) :
  Gr Tryz.prog 23 #[treatyV f x] h fun r h' => ∃ f', r = treatyV f' (unturned x) /\ TreatyR h'.get f' (unturned x) := by
 refine w2036 _ _ _ _ _ _ _ _ _ X0_ok ?_
 unfold n2036
 have hs := hx.2
 have hn := hs.1
 refine t_loop (fun mm vs h' => h.le h' /\ ∃ (j : Nat) (p : Option Addr) (n c : Nat), vs = [.int .i64 j, .int .i64 x.items, .int .i64 x.lands, .int .i64 x.start, .int .i64 x.depend, .int .i64 x.refuse, .int .i64 x.turn, .slice p n c] /\ j <= f.n /\ mm = f.n - j /\ Growing (EventEnc h.get) 63 5 h.get h'.get p n c ((x.events.take j).filter fun e => e.kind != 5))
  ⟨LH.le_refl _, 0, none, 0, 0, rfl, Nat.zero_le _, rfl, Growing.nil⟩ ?_
 rintro Y mm vs h₁ hY ⟨le1, j, p, n, c, rfl, hj, rfl, g⟩
 have hnn : n <= 10 := by
  rw [g.count EventEnc.len (by omega)]
  have := List.length_filter_le (fun e : Ev => e.kind != 5) (x.events.take j)
  rw [List.length_take] at this; omega
 refine gZ ?_
 refine t_if (fun e1 => ?_) (fun e1 => ?_)
 ·obtain ⟨e, a, he, ha, g0, g1, g2, ⟨q, m, cc, g3, g6, g5⟩, g4⟩ := hs.at (i := j) (by omega)
  have hws : EventEnc h.get e (evCells e q m cc) := ⟨q, m, cc, rfl, g6, g5⟩
  have htake : x.events.take (j + 1) = x.events.take j ++ [e] := by rw [List.take_add_one, he]; rfl
  have g0 := Cells.cell?_le le1.1 g0
  have g1 := Cells.cell?_le le1.1 g1
  have g2 := Cells.cell?_le le1.1 g2
  have g3 := Cells.cell?_le le1.1 g3
  have g4 := Cells.cell?_le le1.1 g4
  have next : ∀ h' p' n' c', h.le h' -> Growing (EventEnc h.get) 63 5 h.get h'.get p' n' c' ((x.events.take (j + 1)).filter fun e => e.kind != 5) -> Y [.int .i64 (IntKind.wrap .i64 ((j : Int) + 1)), .int .i64 x.items, .int .i64 x.lands, .int .i64 x.start, .int .i64 x.depend, .int .i64 x.refuse, .int .i64 x.turn, .slice p' n' c'] h' := by
   intro h' p' n' c' hle' g'
   refine hY (f.n - (j + 1)) _ _ (by omega) ⟨hle', j + 1, p', n', c', ?_, by omega, rfl, g'⟩
   rw [wrap_id (by omega) (by omega)]; rfl
  refine gZ ?_
  refine t_cond (fun e2 => ?_) (fun e2 => ?_)
  ·refine gZ ?_
   refine t_buildR (evCells e q m cc) undEvs infEv (by decide) (by decide) (by kernel_rfl) ?_
   intro r h7 le7 _ hr7
   refine gZ ?_
   refine t_growR (h₀ := h) (Enc := EventEnc h.get) e (evCells e q m cc) rfl rfl undEvs infEv rfl (by omega) (by omega) (g.le le7.1) (LH.le_trans le1 le7) hws rfl hr7 (ev_one e q m cc) ?_
   intro p' c' h8 le8 kp8 g8
   refine gZ ?_
   refine t_again (next h8 p' _ c' le8 ?_)
   rw [htake, List.filter_append, List.filter_cons, if_pos e2]; exact g8
  ·refine t_again (next h₁ p n c le1 ?_)
   rw [htake, List.filter_append, List.filter_cons, if_neg (by rw [e2]; simp)]; simpa using g
 ·refine gZ ?_
  rw [List.take_of_length_le (by omega)] at g
  refine t_ret ⟨le1, ⟨p, n, c⟩, rfl, ?_, g.sl EventEnc.len (by omega) (EventEnc.e (Rd.of_le le1.1)) ?_⟩
  ·obtain ⟨vs, o, _⟩ := g.row
   exact o.le_cap
  ·show (x.events.filter fun e => e.kind != 5).length < _
   rw [<- g.count EventEnc.len (by omega)]; omega
end Go.Proofs.YtgljffachdhigaaGreatDoor.Tre
end
section
namespace Go.Proofs.YtgljffachdhigaaGreatDoor.Tre
open Go Go.TM Go.Proofs Go.TM.Tr
attribute [local irreducible] T.wp CV FWK
theorem check_less {x : TF} (h : checkT x = 0) {l : List Ev} (h1 : l.length <= x.events.length) (h2 : ∀ e ∈ l, e ∈ x.events) : checkT { x with events := l } = 0 :=
 check_events h (Nat.le_trans h1 (check_numbers h).2.2.2.2.2.2) fun e he => event_ok.1 (check_event h e (h2 e he))
theorem check_add {x : TF} {e : Ev} (h : checkT (add x e) = 0) : checkT x = 0 := by
 have := check_less h (l := x.events) (by show _ <= (x.events ++ [e]).length; simp) fun c hc => by show c ∈ x.events ++ [e]; simp [hc]
 exact this
theorem check_unturned {x : TF} (h : checkT x = 0) : checkT (unturned x) = 0 :=
 check_less h (List.length_filter_le _ _) fun e he => (List.mem_filter.1 he).1
end Go.Proofs.YtgljffachdhigaaGreatDoor.Tre
end
section
namespace Go.Proofs.YtgljffachdhigaaGreatDoor
open Go Go.TM Go.Proofs
set_option linter.unusedVariables false
set_option maxRecDepth 100000
variable {X : XP} {h : LH} {A : Value -> LH -> Prop}
noncomputable abbrev n3104_6 (n_14 n_15 n_16 n_17 n_18 n_19 : Int) (a_5 : Option Addr) (n_20 c_5 : Nat) (n n_21 n_22 n_23 n_24 n_25 : Int) (a : Option Addr) (n_26 c : Nat) (n_27 n_28 n_29 n_30 n_31 n_32 : Int) (a_6 : Option Addr) (n_33 c_6 : Nat) : T := .leaf (.again [.int .i64 n_14, .int .i64 n_15, .int .i64 n_16, .int .i64 n_17, .int .i64 n_18, .int .i64 n_19, .slice a_5 n_20 c_5, .int .i64 n, .int .i64 n_21, .int .i64 n_22, .int .i64 n_23, .int .i64 n_24, .int .i64 n_25, .slice a n_26 c, .int .i64 n_27, .int .i64 n_28, .int .i64 n_29, .int .i64 n_30, .int .i64 n_31, .int .i64 n_32, .slice a_6 n_33 c_6])
noncomputable abbrev n3104_1 (x_0 x_1 x_2 x_3 x_4 x_5 : Int) (x_6p : Option Addr) (x_6n x_6c : Nat) (n_14 n_15 n_16 n_17 n_18 n_19 : Int) (a_5 : Option Addr) (n_20 c_5 : Nat) (n n_21 n_22 n_23 n_24 n_25 : Int) (a : Option Addr) (n_26 c : Nat) : T := .call false 23 #[.agg #[.int .i64 x_0, .int .i64 x_1, .int .i64 x_2, .int .i64 x_3, .int .i64 x_4, .int .i64 x_5, .slice x_6p x_6n x_6c]] fun v => .unAgg v fun l => .popI .i64 l fun n_27 vs => .popI .i64 vs fun n_28 vs => .popI .i64 vs fun n_29 vs => .popI .i64 vs fun n_30 vs => .popI .i64 vs fun n_31 vs => .popI .i64 vs fun n_32 vs => .popS vs fun a_6 n_33 c_6 vs => .unNil vs (n3104_6 n_14 n_15 n_16 n_17 n_18 n_19 a_5 n_20 c_5 n n_21 n_22 n_23 n_24 n_25 a n_26 c n_27 n_28 n_29 n_30 n_31 n_32 a_6 n_33 c_6)
noncomputable abbrev n3104_4 (x_0 x_1 x_2 x_3 x_4 x_5 : Int) (x_6p : Option Addr) (x_6n x_6c : Nat) (n_14 n_15 n_16 n_17 n_18 n_19 : Int) (a_5 : Option Addr) (n_20 c_5 : Nat) (n n_21 n_22 n_23 n_24 n_25 : Int) (a : Option Addr) (n_26 c : Nat) : T := .nd (.agg #[.int .i64 x_0, .int .i64 x_1, .int .i64 x_2, .int .i64 x_3, .int .i64 x_4, .int .i64 x_5, .slice x_6p x_6n x_6c]) (.both (.call false 23 #[.agg #[.int .i64 x_0, .int .i64 x_1, .int .i64 x_2, .int .i64 x_3, .int .i64 x_4, .int .i64 x_5, .slice x_6p x_6n x_6c]] fun v => .unAgg v fun l => .popI .i64 l fun n_27 vs => .popI .i64 vs fun n_28 vs => .popI .i64 vs fun n_29 vs => .popI .i64 vs fun n_30 vs => .popI .i64 vs fun n_31 vs => .popI .i64 vs fun n_32 vs => .popS vs fun a_6 n_33 c_6 vs => .unNil vs (.both (n3104_6 n_14 n_15 n_16 n_17 n_18 n_19 a_5 n_20 c_5 n n_21 n_22 n_23 n_24 n_25 a n_26 c n_27 n_28 n_29 n_30 n_31 n_32 a_6 n_33 c_6) (n3104_6 n_14 n_15 n_16 n_17 n_18 n_19 a_5 n_20 c_5 n n_21 n_22 n_23 n_24 n_25 a n_26 c n_27 n_28 n_29 n_30 n_31 n_32 a_6 n_33 c_6))) (.both (.nd (.agg #[.int .i64 x_0, .int .i64 x_1, .int .i64 x_2, .int .i64 x_3, .int .i64 x_4, .int .i64 x_5, .slice x_6p x_6n x_6c]) (.both (n3104_1 x_0 x_1 x_2 x_3 x_4 x_5 x_6p x_6n x_6c n_14 n_15 n_16 n_17 n_18 n_19 a_5 n_20 c_5 n n_21 n_22 n_23 n_24 n_25 a n_26 c) (.nd (.agg #[.int .i64 x_0, .int .i64 x_1, .int .i64 x_2, .int .i64 x_3, .int .i64 x_4, .int .i64 x_5, .slice x_6p x_6n x_6c]) (n3104_1 x_0 x_1 x_2 x_3 x_4 x_5 x_6p x_6n x_6c n_14 n_15 n_16 n_17 n_18 n_19 a_5 n_20 c_5 n n_21 n_22 n_23 n_24 n_25 a n_26 c)))) (.nd (.agg #[.int .i64 x_0, .int .i64 x_1, .int .i64 x_2, .int .i64 x_3, .int .i64 x_4, .int .i64 x_5, .slice x_6p x_6n x_6c]) (.both (n3104_1 x_0 x_1 x_2 x_3 x_4 x_5 x_6p x_6n x_6c n_14 n_15 n_16 n_17 n_18 n_19 a_5 n_20 c_5 n n_21 n_22 n_23 n_24 n_25 a n_26 c) (.nd (.agg #[.int .i64 x_0, .int .i64 x_1, .int .i64 x_2, .int .i64 x_3, .int .i64 x_4, .int .i64 x_5, .slice x_6p x_6n x_6c]) (n3104_1 x_0 x_1 x_2 x_3 x_4 x_5 x_6p x_6n x_6c n_14 n_15 n_16 n_17 n_18 n_19 a_5 n_20 c_5 n n_21 n_22 n_23 n_24 n_25 a n_26 c))))))
noncomputable abbrev n3104_5 (x_0 x_1 x_2 x_3 x_4 x_5 : Int) (x_6p : Option Addr) (x_6n x_6c : Nat) (n n_1 n_2 n_3 n_4 n_5 : Int) (a : Option Addr) (n_6 c : Nat) (n_14 n_15 n_16 n_17 n_18 n_19 : Int) (a_5 : Option Addr) (n_20 c_5 : Nat) : T := .nd (.agg #[.int .i64 x_0, .int .i64 x_1, .int .i64 x_2, .int .i64 x_3, .int .i64 x_4, .int .i64 x_5, .slice x_6p x_6n x_6c]) (.nd (.agg #[.int .i64 n, .int .i64 n_1, .int .i64 n_2, .int .i64 n_3, .int .i64 n_4, .int .i64 n_5, .slice a n_6 c]) (.both (.call false 23 #[.agg #[.int .i64 n, .int .i64 n_1, .int .i64 n_2, .int .i64 n_3, .int .i64 n_4, .int .i64 n_5, .slice a n_6 c]] fun v => .unAgg v fun l => .popI .i64 l fun n vs => .popI .i64 vs fun n_21 vs => .popI .i64 vs fun n_22 vs => .popI .i64 vs fun n_23 vs => .popI .i64 vs fun n_24 vs => .popI .i64 vs fun n_25 vs => .popS vs fun a n_26 c vs => .unNil vs (.nd (.agg #[.int .i64 x_0, .int .i64 x_1, .int .i64 x_2, .int .i64 x_3, .int .i64 x_4, .int .i64 x_5, .slice x_6p x_6n x_6c]) (.both (n3104_1 x_0 x_1 x_2 x_3 x_4 x_5 x_6p x_6n x_6c n_14 n_15 n_16 n_17 n_18 n_19 a_5 n_20 c_5 n n_21 n_22 n_23 n_24 n_25 a n_26 c) (.nd (.agg #[.int .i64 x_0, .int .i64 x_1, .int .i64 x_2, .int .i64 x_3, .int .i64 x_4, .int .i64 x_5, .slice x_6p x_6n x_6c]) (n3104_1 x_0 x_1 x_2 x_3 x_4 x_5 x_6p x_6n x_6c n_14 n_15 n_16 n_17 n_18 n_19 a_5 n_20 c_5 n n_21 n_22 n_23 n_24 n_25 a n_26 c))))) (.nd (.agg #[.int .i64 x_0, .int .i64 x_1, .int .i64 x_2, .int .i64 x_3, .int .i64 x_4, .int .i64 x_5, .slice x_6p x_6n x_6c]) (.nd (.agg #[.int .i64 n, .int .i64 n_1, .int .i64 n_2, .int .i64 n_3, .int .i64 n_4, .int .i64 n_5, .slice a n_6 c]) (.call false 23 #[.agg #[.int .i64 n, .int .i64 n_1, .int .i64 n_2, .int .i64 n_3, .int .i64 n_4, .int .i64 n_5, .slice a n_6 c]] fun v => .unAgg v fun l => .popI .i64 l fun n vs => .popI .i64 vs fun n_21 vs => .popI .i64 vs fun n_22 vs => .popI .i64 vs fun n_23 vs => .popI .i64 vs fun n_24 vs => .popI .i64 vs fun n_25 vs => .popS vs fun a n_26 c vs => .unNil vs (.nd (.agg #[.int .i64 x_0, .int .i64 x_1, .int .i64 x_2, .int .i64 x_3, .int .i64 x_4, .int .i64 x_5, .slice x_6p x_6n x_6c]) (n3104_1 x_0 x_1 x_2 x_3 x_4 x_5 x_6p x_6n x_6c n_14 n_15 n_16 n_17 n_18 n_19 a_5 n_20 c_5 n n_21 n_22 n_23 n_24 n_25 a n_26 c)))))))
noncomputable abbrev n3104_2 (x_0 x_1 x_2 x_3 x_4 x_5 : Int) (x_6p : Option Addr) (x_6n x_6c : Nat) (n n_1 n_2 n_3 n_4 n_5 : Int) (a : Option Addr) (n_6 c : Nat) (n_14 n_15 n_16 n_17 n_18 n_19 : Int) (a_5 : Option Addr) (n_20 c_5 : Nat) : T := .nd (.agg #[.int .i64 x_0, .int .i64 x_1, .int .i64 x_2, .int .i64 x_3, .int .i64 x_4, .int .i64 x_5, .slice x_6p x_6n x_6c]) (.nd (.agg #[.int .i64 n, .int .i64 n_1, .int .i64 n_2, .int .i64 n_3, .int .i64 n_4, .int .i64 n_5, .slice a n_6 c]) (.both (.call false 23 #[.agg #[.int .i64 n, .int .i64 n_1, .int .i64 n_2, .int .i64 n_3, .int .i64 n_4, .int .i64 n_5, .slice a n_6 c]] fun v => .unAgg v fun l => .popI .i64 l fun n vs => .popI .i64 vs fun n_21 vs => .popI .i64 vs fun n_22 vs => .popI .i64 vs fun n_23 vs => .popI .i64 vs fun n_24 vs => .popI .i64 vs fun n_25 vs => .popS vs fun a n_26 c vs => .unNil vs (n3104_4 x_0 x_1 x_2 x_3 x_4 x_5 x_6p x_6n x_6c n_14 n_15 n_16 n_17 n_18 n_19 a_5 n_20 c_5 n n_21 n_22 n_23 n_24 n_25 a n_26 c)) (.both (n3104_5 x_0 x_1 x_2 x_3 x_4 x_5 x_6p x_6n x_6c n n_1 n_2 n_3 n_4 n_5 a n_6 c n_14 n_15 n_16 n_17 n_18 n_19 a_5 n_20 c_5) (n3104_5 x_0 x_1 x_2 x_3 x_4 x_5 x_6p x_6n x_6c n n_1 n_2 n_3 n_4 n_5 a n_6 c n_14 n_15 n_16 n_17 n_18 n_19 a_5 n_20 c_5))))
noncomputable abbrev n3104_3 (x_0 x_1 x_2 x_3 x_4 x_5 : Int) (x_6p : Option Addr) (x_6n x_6c : Nat) (n n_1 n_2 n_3 n_4 n_5 : Int) (a : Option Addr) (n_6 c : Nat) : T := .nd (.agg #[.int .i64 x_0, .int .i64 x_1, .int .i64 x_2, .int .i64 x_3, .int .i64 x_4, .int .i64 x_5, .slice x_6p x_6n x_6c]) (.nd (.agg #[.int .i64 n, .int .i64 n_1, .int .i64 n_2, .int .i64 n_3, .int .i64 n_4, .int .i64 n_5, .slice a n_6 c]) (.nd (.agg #[.int .i64 n, .int .i64 n_1, .int .i64 n_2, .int .i64 n_3, .int .i64 n_4, .int .i64 n_5, .slice a n_6 c]) (.both (.call false 23 #[.agg #[.int .i64 n, .int .i64 n_1, .int .i64 n_2, .int .i64 n_3, .int .i64 n_4, .int .i64 n_5, .slice a n_6 c]] fun v => .unAgg v fun l => .popI .i64 l fun n_14 vs => .popI .i64 vs fun n_15 vs => .popI .i64 vs fun n_16 vs => .popI .i64 vs fun n_17 vs => .popI .i64 vs fun n_18 vs => .popI .i64 vs fun n_19 vs => .popS vs fun a_5 n_20 c_5 vs => .unNil vs (n3104_5 x_0 x_1 x_2 x_3 x_4 x_5 x_6p x_6n x_6c n n_1 n_2 n_3 n_4 n_5 a n_6 c n_14 n_15 n_16 n_17 n_18 n_19 a_5 n_20 c_5)) (.nd (.agg #[.int .i64 x_0, .int .i64 x_1, .int .i64 x_2, .int .i64 x_3, .int .i64 x_4, .int .i64 x_5, .slice x_6p x_6n x_6c]) (.nd (.agg #[.int .i64 n, .int .i64 n_1, .int .i64 n_2, .int .i64 n_3, .int .i64 n_4, .int .i64 n_5, .slice a n_6 c]) (.nd (.agg #[.int .i64 n, .int .i64 n_1, .int .i64 n_2, .int .i64 n_3, .int .i64 n_4, .int .i64 n_5, .slice a n_6 c]) (.call false 23 #[.agg #[.int .i64 n, .int .i64 n_1, .int .i64 n_2, .int .i64 n_3, .int .i64 n_4, .int .i64 n_5, .slice a n_6 c]] fun v => .unAgg v fun l => .popI .i64 l fun n_14 vs => .popI .i64 vs fun n_15 vs => .popI .i64 vs fun n_16 vs => .popI .i64 vs fun n_17 vs => .popI .i64 vs fun n_18 vs => .popI .i64 vs fun n_19 vs => .popS vs fun a_5 n_20 c_5 vs => .unNil vs (.nd (.agg #[.int .i64 x_0, .int .i64 x_1, .int .i64 x_2, .int .i64 x_3, .int .i64 x_4, .int .i64 x_5, .slice x_6p x_6n x_6c]) (.nd (.agg #[.int .i64 n, .int .i64 n_1, .int .i64 n_2, .int .i64 n_3, .int .i64 n_4, .int .i64 n_5, .slice a n_6 c]) (.call false 23 #[.agg #[.int .i64 n, .int .i64 n_1, .int .i64 n_2, .int .i64 n_3, .int .i64 n_4, .int .i64 n_5, .slice a n_6 c]] fun v => .unAgg v fun l => .popI .i64 l fun n vs => .popI .i64 vs fun n_21 vs => .popI .i64 vs fun n_22 vs => .popI .i64 vs fun n_23 vs => .popI .i64 vs fun n_24 vs => .popI .i64 vs fun n_25 vs => .popS vs fun a n_26 c vs => .unNil vs (.nd (.agg #[.int .i64 x_0, .int .i64 x_1, .int .i64 x_2, .int .i64 x_3, .int .i64 x_4, .int .i64 x_5, .slice x_6p x_6n x_6c]) (n3104_1 x_0 x_1 x_2 x_3 x_4 x_5 x_6p x_6n x_6c n_14 n_15 n_16 n_17 n_18 n_19 a_5 n_20 c_5 n n_21 n_22 n_23 n_24 n_25 a n_26 c))))))))))))
noncomputable abbrev n3104_7 (x_0 x_1 x_2 x_3 x_4 x_5 : Int) (x_6p : Option Addr) (x_6n x_6c : Nat) (n n_1 n_2 n_3 n_4 n_5 : Int) (a : Option Addr) (n_6 c : Nat) : T := .nd (.agg #[.int .i64 x_0, .int .i64 x_1, .int .i64 x_2, .int .i64 x_3, .int .i64 x_4, .int .i64 x_5, .slice x_6p x_6n x_6c]) (.nd (.agg #[.int .i64 n, .int .i64 n_1, .int .i64 n_2, .int .i64 n_3, .int .i64 n_4, .int .i64 n_5, .slice a n_6 c]) (.nd (.agg #[.int .i64 n, .int .i64 n_1, .int .i64 n_2, .int .i64 n_3, .int .i64 n_4, .int .i64 n_5, .slice a n_6 c]) (.both (.call false 23 #[.agg #[.int .i64 n, .int .i64 n_1, .int .i64 n_2, .int .i64 n_3, .int .i64 n_4, .int .i64 n_5, .slice a n_6 c]] fun v => .unAgg v fun l => .popI .i64 l fun n_14 vs => .popI .i64 vs fun n_15 vs => .popI .i64 vs fun n_16 vs => .popI .i64 vs fun n_17 vs => .popI .i64 vs fun n_18 vs => .popI .i64 vs fun n_19 vs => .popS vs fun a_5 n_20 c_5 vs => .unNil vs (n3104_2 x_0 x_1 x_2 x_3 x_4 x_5 x_6p x_6n x_6c n n_1 n_2 n_3 n_4 n_5 a n_6 c n_14 n_15 n_16 n_17 n_18 n_19 a_5 n_20 c_5)) (.both (n3104_3 x_0 x_1 x_2 x_3 x_4 x_5 x_6p x_6n x_6c n n_1 n_2 n_3 n_4 n_5 a n_6 c) (n3104_3 x_0 x_1 x_2 x_3 x_4 x_5 x_6p x_6n x_6c n n_1 n_2 n_3 n_4 n_5 a n_6 c)))))
noncomputable def n3104 (x_0 x_1 x_2 x_3 x_4 x_5 : Int) (x_6p : Option Addr) (x_6n x_6c : Nat) (e_0 e_1 e_2 : Int) (e_3p : Option Addr) (e_3n e_3c : Nat) (e_4 land day : Int) (b_0p : Option Addr) (b_0n b_0c : Nat) (b_1p : Option Addr) (b_1n b_1c : Nat) (right : Int) (orderp : Option Addr) (ordern orderc : Nat) : T := .call false 17 #[.agg #[.int .i64 x_0, .int .i64 x_1, .int .i64 x_2, .int .i64 x_3, .int .i64 x_4, .int .i64 x_5, .slice x_6p x_6n x_6c], .agg #[.int .i64 4, .int .i64 e_1, .int .i64 0, .slice e_3p e_3n e_3c, .int .i64 e_4]] fun v => .unTup v fun l => .unCons l fun v vs => .unAgg v fun l => .popI .i64 l fun n vs_1 => .popI .i64 vs_1 fun n_1 vs_2 => .popI .i64 vs_2 fun n_2 vs_3 => .popI .i64 vs_3 fun n_3 vs_4 => .popI .i64 vs_4 fun n_4 vs_5 => .popI .i64 vs_5 fun n_5 vs_6 => .popS vs_6 fun a n_6 c vs_7 => .unNil vs_7 (.unCons vs fun v vs => .unB v fun b => .unNil vs (.blk (.call false 18 #[.agg #[.int .i64 x_0, .int .i64 x_1, .int .i64 x_2, .int .i64 x_3, .int .i64 x_4, .int .i64 x_5, .slice x_6p x_6n x_6c]] fun v => .unB v fun b_1 => bif b_1 then .call false 20 #[] fun v => .unB v fun b => .leaf (.retn [.bool b]) else bif !b then .call false 20 #[] fun v => .unB v fun b => .leaf (.retn [.bool b]) else .call false 6 #[.agg #[.slice b_0p b_0n b_0c, .slice b_1p b_1n b_1c]] fun v => .unB v fun b => bif b then .call false 20 #[] fun v => .unB v fun b => .leaf (.retn [.bool b]) else .call false 7 #[.agg #[.slice b_0p b_0n b_0c, .slice b_1p b_1n b_1c]] fun v => .unI .i64 v fun n => bif n != 0 then .call false 20 #[] fun v => .unB v fun b => .leaf (.retn [.bool b]) else bif (↑b_0n : Int) == 0 then .call false 20 #[] fun v => .unB v fun b => .leaf (.retn [.bool b]) else bif decide ((↑ordern : Int) > 20) then .call false 20 #[] fun v => .unB v fun b => .leaf (.retn [.bool b]) else .call false 19 #[.agg #[.slice b_0p b_0n b_0c, .slice b_1p b_1n b_1c], .slice orderp ordern orderc] fun v => .unI .i64 v fun n => bif n != 0 then .call false 20 #[] fun v => .unB v fun b => .leaf (.retn [.bool b]) else .leaf (.again [.bool false])) (fun vs => .popB vs fun b vs => .unNil vs (.need (x_1 ≠ 0) (.need ((↑b_0n : Int) ≠ 0) (.call false 21 #[.int .u16 day] fun v => .unI .i64 v fun n_7 => .need ((↑b_0n : Int) ≠ 0) (.nd (.int .i64 (Int.tmod (IntKind.wrap .i64 right) (↑b_0n : Int))) (.nd (.int .i64 (↑b_0n : Int)) (.nd (.slice b_0p b_0n b_0c) (.need (AV.pp 11 0 = AV.pp 11 0) (.nd (.int .i64 (IntKind.wrap .i64 right)) (.nd (.int .u8 right) (.need (x_1 ≠ 0) (.nd (.int .i64 (Int.tmod (IntKind.wrap .i64 land) x_1)) (.nd (.int .i64 x_1) (.need (AV.pp 7 1 = AV.pp 7 1) (.nd (.int .i64 (IntKind.wrap .i64 land)) (.nd (.int .u8 land) (.need ((↑b_0n : Int) ≠ 0) (.nd (.int .i64 (Int.tmod (IntKind.wrap .i64 right) (↑b_0n : Int))) (.nd (.int .i64 (↑b_0n : Int)) (.nd (.slice b_0p b_0n b_0c) (.need (AV.pp 11 0 = AV.pp 11 0) (.nd (.int .i64 (IntKind.wrap .i64 right)) (.nd (.int .u8 right) (.need ((↑b_0n : Int) ≠ 0) (.nd (.int .i64 (Int.tmod (IntKind.wrap .i64 right) (↑b_0n : Int))) (.nd (.int .i64 (↑b_0n : Int)) (.nd (.slice b_0p b_0n b_0c) (.need (AV.pp 11 0 = AV.pp 11 0) (.nd (.int .i64 (IntKind.wrap .i64 right)) (.nd (.int .u8 right) (.call false 22 #[.agg #[.slice b_0p b_0n b_0c, .slice b_1p b_1n b_1c], .slice orderp ordern orderc] fun v => .unTup v fun l => .unCons l fun v vs => .unS v fun a_1 n_8 c_1 => .unCons vs fun v vs => .unS v fun a_2 n_9 c_2 => .unCons vs fun v vs => .unI .i64 v fun n_10 => .unNil vs (.call false 14 #[.agg #[.slice b_0p b_0n b_0c, .slice b_1p b_1n b_1c]] fun v => .unTup v fun l => .unCons l fun v vs => .unS v fun a_3 n_11 c_3 => .unCons vs fun v vs => .unS v fun a_4 n_12 c_4 => .unCons vs fun v vs => .unI .i64 v fun n_13 => .unNil vs (.blk (bif n_10 != 0 then .leaf (.retn [.bool false]) else bif n_13 != 0 then .leaf (.retn [.bool false]) else bif (↑n_8 : Int) != (↑b_0n : Int) then .leaf (.retn [.bool false]) else bif (↑n_11 : Int) != (↑n_8 : Int) then .leaf (.retn [.bool false]) else .leaf (.again [.bool b])) (fun vs => .popB vs fun b vs => .unNil vs (.blk (.both (.call false 23 #[.agg #[.int .i64 n, .int .i64 n_1, .int .i64 n_2, .int .i64 n_3, .int .i64 n_4, .int .i64 n_5, .slice a n_6 c]] fun v => .unAgg v fun l => .popI .i64 l fun n_14 vs => .popI .i64 vs fun n_15 vs => .popI .i64 vs fun n_16 vs => .popI .i64 vs fun n_17 vs => .popI .i64 vs fun n_18 vs => .popI .i64 vs fun n_19 vs => .popS vs fun a_5 n_20 c_5 vs => .unNil vs (.nd (.agg #[.int .i64 x_0, .int .i64 x_1, .int .i64 x_2, .int .i64 x_3, .int .i64 x_4, .int .i64 x_5, .slice x_6p x_6n x_6c]) (.nd (.agg #[.int .i64 n, .int .i64 n_1, .int .i64 n_2, .int .i64 n_3, .int .i64 n_4, .int .i64 n_5, .slice a n_6 c]) (.both (.call false 23 #[.agg #[.int .i64 n, .int .i64 n_1, .int .i64 n_2, .int .i64 n_3, .int .i64 n_4, .int .i64 n_5, .slice a n_6 c]] fun v => .unAgg v fun l => .popI .i64 l fun n vs => .popI .i64 vs fun n_21 vs => .popI .i64 vs fun n_22 vs => .popI .i64 vs fun n_23 vs => .popI .i64 vs fun n_24 vs => .popI .i64 vs fun n_25 vs => .popS vs fun a n_26 c vs => .unNil vs (.nd (.agg #[.int .i64 x_0, .int .i64 x_1, .int .i64 x_2, .int .i64 x_3, .int .i64 x_4, .int .i64 x_5, .slice x_6p x_6n x_6c]) (.both (.call false 23 #[.agg #[.int .i64 x_0, .int .i64 x_1, .int .i64 x_2, .int .i64 x_3, .int .i64 x_4, .int .i64 x_5, .slice x_6p x_6n x_6c]] fun v => .unAgg v fun l => .popI .i64 l fun n_27 vs => .popI .i64 vs fun n_28 vs => .popI .i64 vs fun n_29 vs => .popI .i64 vs fun n_30 vs => .popI .i64 vs fun n_31 vs => .popI .i64 vs fun n_32 vs => .popS vs fun a_6 n_33 c_6 vs => .unNil vs (.both (.both (n3104_6 n_14 n_15 n_16 n_17 n_18 n_19 a_5 n_20 c_5 n n_21 n_22 n_23 n_24 n_25 a n_26 c n_27 n_28 n_29 n_30 n_31 n_32 a_6 n_33 c_6) (n3104_6 n_14 n_15 n_16 n_17 n_18 n_19 a_5 n_20 c_5 n n_21 n_22 n_23 n_24 n_25 a n_26 c n_27 n_28 n_29 n_30 n_31 n_32 a_6 n_33 c_6)) (.both (.both (n3104_6 n_14 n_15 n_16 n_17 n_18 n_19 a_5 n_20 c_5 n n_21 n_22 n_23 n_24 n_25 a n_26 c n_27 n_28 n_29 n_30 n_31 n_32 a_6 n_33 c_6) (n3104_6 n_14 n_15 n_16 n_17 n_18 n_19 a_5 n_20 c_5 n n_21 n_22 n_23 n_24 n_25 a n_26 c n_27 n_28 n_29 n_30 n_31 n_32 a_6 n_33 c_6)) (.both (n3104_6 n_14 n_15 n_16 n_17 n_18 n_19 a_5 n_20 c_5 n n_21 n_22 n_23 n_24 n_25 a n_26 c n_27 n_28 n_29 n_30 n_31 n_32 a_6 n_33 c_6) (n3104_6 n_14 n_15 n_16 n_17 n_18 n_19 a_5 n_20 c_5 n n_21 n_22 n_23 n_24 n_25 a n_26 c n_27 n_28 n_29 n_30 n_31 n_32 a_6 n_33 c_6))))) (.both (n3104_4 x_0 x_1 x_2 x_3 x_4 x_5 x_6p x_6n x_6c n_14 n_15 n_16 n_17 n_18 n_19 a_5 n_20 c_5 n n_21 n_22 n_23 n_24 n_25 a n_26 c) (.both (n3104_4 x_0 x_1 x_2 x_3 x_4 x_5 x_6p x_6n x_6c n_14 n_15 n_16 n_17 n_18 n_19 a_5 n_20 c_5 n n_21 n_22 n_23 n_24 n_25 a n_26 c) (n3104_4 x_0 x_1 x_2 x_3 x_4 x_5 x_6p x_6n x_6c n_14 n_15 n_16 n_17 n_18 n_19 a_5 n_20 c_5 n n_21 n_22 n_23 n_24 n_25 a n_26 c)))))) (.both (n3104_2 x_0 x_1 x_2 x_3 x_4 x_5 x_6p x_6n x_6c n n_1 n_2 n_3 n_4 n_5 a n_6 c n_14 n_15 n_16 n_17 n_18 n_19 a_5 n_20 c_5) (.both (n3104_2 x_0 x_1 x_2 x_3 x_4 x_5 x_6p x_6n x_6c n n_1 n_2 n_3 n_4 n_5 a n_6 c n_14 n_15 n_16 n_17 n_18 n_19 a_5 n_20 c_5) (n3104_2 x_0 x_1 x_2 x_3 x_4 x_5 x_6p x_6n x_6c n n_1 n_2 n_3 n_4 n_5 a n_6 c n_14 n_15 n_16 n_17 n_18 n_19 a_5 n_20 c_5))))))) (.both (n3104_7 x_0 x_1 x_2 x_3 x_4 x_5 x_6p x_6n x_6c n n_1 n_2 n_3 n_4 n_5 a n_6 c) (.both (n3104_7 x_0 x_1 x_2 x_3 x_4 x_5 x_6p x_6n x_6c n n_1 n_2 n_3 n_4 n_5 a n_6 c) (n3104_7 x_0 x_1 x_2 x_3 x_4 x_5 x_6p x_6n x_6c n n_1 n_2 n_3 n_4 n_5 a n_6 c)))) (fun vs => .popI .i64 vs fun n vs => .popI .i64 vs fun n_14 vs => .popI .i64 vs fun n_15 vs => .popI .i64 vs fun n_16 vs => .popI .i64 vs fun n_17 vs => .popI .i64 vs fun n_18 vs => .popS vs fun a n_19 c vs => .popI .i64 vs fun n_20 vs => .popI .i64 vs fun n_21 vs => .popI .i64 vs fun n_22 vs => .popI .i64 vs fun n_23 vs => .popI .i64 vs fun n_24 vs => .popI .i64 vs fun n_25 vs => .popS vs fun a_5 n_26 c_5 vs => .popI .i64 vs fun n_27 vs => .popI .i64 vs fun n_28 vs => .popI .i64 vs fun n_29 vs => .popI .i64 vs fun n_30 vs => .popI .i64 vs fun n_31 vs => .popI .i64 vs fun n_32 vs => .popS vs fun a_6 n_33 c_6 vs => .unNil vs (.blk (.need (0 <= Int.tmod (IntKind.wrap .i64 right) (↑b_0n : Int) /\ Int.tmod (IntKind.wrap .i64 right) (↑b_0n : Int) < (↑n_8 : Int)) (.someA a_1 fun a_7 => .loadB (a_7.add ((Int.tmod (IntKind.wrap .i64 right) (↑b_0n : Int)).toNat * 1)) fun b => bif b then .leaf (.again [.int .i64 n_27, .int .i64 n_28, .int .i64 n_29, .int .i64 n_30, .int .i64 n_31, .int .i64 n_32, .slice a_6 n_33 c_6]) else .leaf (.again [.int .i64 n, .int .i64 n_14, .int .i64 n_15, .int .i64 n_16, .int .i64 n_17, .int .i64 n_18, .slice a n_19 c]))) (fun vs => .popI .i64 vs fun n vs => .popI .i64 vs fun n_34 vs => .popI .i64 vs fun n_35 vs => .popI .i64 vs fun n_36 vs => .popI .i64 vs fun n_37 vs => .popI .i64 vs fun n_38 vs => .popS vs fun a n_39 c vs => .unNil vs (.blk (.call false 24 #[.agg #[.int .i64 n_20, .int .i64 n_21, .int .i64 n_22, .int .i64 n_23, .int .i64 n_24, .int .i64 n_25, .slice a_5 n_26 c_5], .agg #[.int .i64 n, .int .i64 n_34, .int .i64 n_35, .int .i64 n_36, .int .i64 n_37, .int .i64 n_38, .slice a n_39 c], .int .i64 (Int.tmod (IntKind.wrap .i64 land) x_1), .int .i64 n_7] fun v => .unB v fun b_1 => bif !b_1 then .leaf (.retn [.bool false]) else .call false 24 #[.agg #[.int .i64 n, .int .i64 n_34, .int .i64 n_35, .int .i64 n_36, .int .i64 n_37, .int .i64 n_38, .slice a n_39 c], .agg #[.int .i64 n_27, .int .i64 n_28, .int .i64 n_29, .int .i64 n_30, .int .i64 n_31, .int .i64 n_32, .slice a_6 n_33 c_6], .int .i64 (Int.tmod (IntKind.wrap .i64 land) x_1), .int .i64 n_7] fun v => .unB v fun b_2 => bif !b_2 then .leaf (.retn [.bool false]) else .leaf (.again [.bool b])) (fun vs => .popB vs fun b vs => .unNil vs (.need (0 <= Int.tmod (IntKind.wrap .i64 right) (↑b_0n : Int) /\ Int.tmod (IntKind.wrap .i64 right) (↑b_0n : Int) < (↑n_11 : Int)) (.someA a_3 fun a_7 => .loadI .i64 (a_7.add ((Int.tmod (IntKind.wrap .i64 right) (↑b_0n : Int)).toNat * 1)) fun n_40 => bif n_40 == 1 then .call false 25 #[.agg #[.int .i64 n, .int .i64 n_34, .int .i64 n_35, .int .i64 n_36, .int .i64 n_37, .int .i64 n_38, .slice a n_39 c], .agg #[.int .i64 n_27, .int .i64 n_28, .int .i64 n_29, .int .i64 n_30, .int .i64 n_31, .int .i64 n_32, .slice a_6 n_33 c_6], .int .i64 (Int.tmod (IntKind.wrap .i64 land) x_1), .int .i64 n_7] fun v => .unB v fun b => bif !b then .leaf (.ret (.bool false)) else .need (0 <= Int.tmod (IntKind.wrap .i64 right) (↑b_0n : Int) /\ Int.tmod (IntKind.wrap .i64 right) (↑b_0n : Int) < (↑n_11 : Int)) (.someA a_3 fun a_8 => .loadI .i64 (a_8.add ((Int.tmod (IntKind.wrap .i64 right) (↑b_0n : Int)).toNat * 1)) fun n_41 => bif n_41 == 2 then .call false 25 #[.agg #[.int .i64 n, .int .i64 n_34, .int .i64 n_35, .int .i64 n_36, .int .i64 n_37, .int .i64 n_38, .slice a n_39 c], .agg #[.int .i64 n_20, .int .i64 n_21, .int .i64 n_22, .int .i64 n_23, .int .i64 n_24, .int .i64 n_25, .slice a_5 n_26 c_5], .int .i64 (Int.tmod (IntKind.wrap .i64 land) x_1), .int .i64 n_7] fun v => .unB v fun b => bif !b then .leaf (.ret (.bool false)) else .call false 20 #[] fun v => .unB v fun b => .leaf (.ret (.bool b)) else .call false 20 #[] fun v => .unB v fun b => .leaf (.ret (.bool b))) else .need (0 <= Int.tmod (IntKind.wrap .i64 right) (↑b_0n : Int) /\ Int.tmod (IntKind.wrap .i64 right) (↑b_0n : Int) < (↑n_11 : Int)) (.someA a_3 fun a_8 => .loadI .i64 (a_8.add ((Int.tmod (IntKind.wrap .i64 right) (↑b_0n : Int)).toNat * 1)) fun n_41 => bif n_41 == 2 then .call false 25 #[.agg #[.int .i64 n, .int .i64 n_34, .int .i64 n_35, .int .i64 n_36, .int .i64 n_37, .int .i64 n_38, .slice a n_39 c], .agg #[.int .i64 n_20, .int .i64 n_21, .int .i64 n_22, .int .i64 n_23, .int .i64 n_24, .int .i64 n_25, .slice a_5 n_26 c_5], .int .i64 (Int.tmod (IntKind.wrap .i64 land) x_1), .int .i64 n_7] fun v => .unB v fun b => bif !b then .leaf (.ret (.bool false)) else .call false 20 #[] fun v => .unB v fun b => .leaf (.ret (.bool b)) else .call false 20 #[] fun v => .unB v fun b => .leaf (.ret (.bool b)))))) (fun vs => .popB vs fun b vs => .unNil vs (.leaf (.ret (.bool b)))) fun x x_6 => .fail)) (fun vs => .popI .i64 vs fun n vs => .popI .i64 vs fun n vs => .popI .i64 vs fun n vs => .popI .i64 vs fun n vs => .popI .i64 vs fun n vs => .popI .i64 vs fun n vs => .popS vs fun a n c vs => .unNil vs (.leaf (.ret (.bool b)))) fun x x_6 => .fail)) (fun vs => .popI .i64 vs fun n vs => .popI .i64 vs fun n vs => .popI .i64 vs fun n vs => .popI .i64 vs fun n vs => .popI .i64 vs fun n vs => .popI .i64 vs fun n vs => .popS vs fun a n c vs => .popI .i64 vs fun n vs => .popI .i64 vs fun n vs => .popI .i64 vs fun n vs => .popI .i64 vs fun n vs => .popI .i64 vs fun n vs => .popI .i64 vs fun n vs => .popS vs fun a n c vs => .popI .i64 vs fun n vs => .popI .i64 vs fun n vs => .popI .i64 vs fun n vs => .popI .i64 vs fun n vs => .popI .i64 vs fun n vs => .popI .i64 vs fun n vs => .popS vs fun a n c vs => .unNil vs (.leaf (.ret (.bool b)))) fun x x_6 => .fail)) (fun vs => .popB vs fun b vs => .unNil vs (.leaf (.ret (.bool b)))) fun x x_6 => .fail))))))))))))))))))))))))))))))))) (fun vs => .popB vs fun b vs => .unNil vs (.leaf (.ret (.bool b)))) fun x x_6 => .fail))
theorem w3104 (x_0 x_1 x_2 x_3 x_4 x_5 : Int) (x_6p : Option Addr) (x_6n x_6c : Nat) (e_0 e_1 e_2 : Int) (e_3p : Option Addr) (e_3n e_3c : Nat) (e_4 land day : Int) (b_0p : Option Addr) (b_0n b_0c : Nat) (b_1p : Option Addr) (b_1n b_1c : Nat) (right : Int) (orderp : Option Addr) (ordern orderc : Nat) (hX : XOK X) (hw : (n3104 x_0 x_1 x_2 x_3 x_4 x_5 x_6p x_6n x_6c e_0 e_1 e_2 e_3p e_3n e_3c e_4 land day b_0p b_0n b_0c b_1p b_1n b_1c right
  orderp ordern orderc).wp X Tryz.prog (retQ A) h) : FWK X Tryz.prog .normal 4 #[.agg #[.int .i64 x_0, .int .i64 x_1, .int .i64 x_2, .int .i64 x_3, .int .i64 x_4, .int .i64 x_5, .slice x_6p x_6n x_6c], .agg #[.int .i64 e_0, .int .i64 e_1, .int .i64 e_2, .slice e_3p e_3n e_3c, .int .i64 e_4], .int .u8 land, .int .u16 day, .agg #[.slice b_0p b_0n b_0c, .slice b_1p b_1n b_1c], .int .u8 right, .slice orderp ordern orderc] h A := fwk_neat (priv := [7, 8, 11, 15, 26, 27, 28]) (loops := []) (joins := [{ id := 15, slots := [(14, .bool)], ro := [7, 8, 11, 15, 26, 27, 28], outs := [] }, { id := 13, slots := [(110592, .int .i64), (110593, .int .i64), (110594, .int .i64), (110595, .int .i64), (110596, .int .i64), (110597, .int .i64), (110598, .slice)], ro := [7, 8, 11, 15, 27, 28], outs := [] }, { id := 11, slots := [(110592, .int .i64), (110593, .int .i64), (110594, .int .i64), (110595, .int .i64), (110596, .int .i64), (110597, .int .i64), (110598, .slice), (114688, .int .i64), (114689, .int .i64), (114690, .int .i64), (114691, .int .i64), (114692, .int .i64), (114693, .int .i64), (114694, .slice), (118784, .int .i64), (118785, .int .i64), (118786, .int .i64), (118787, .int .i64), (118788, .int .i64), (118789, .int .i64), (118790, .slice)], ro := [7, 8, 11, 15], outs := [], pps := [26, 27, 28] }, { id := 10, slots := [(14, .bool)], ro := [7, 8, 11, 15], outs := [] }, { id := 5, slots := [(14, .bool)], ro := [7, 8, 11, 15], outs := [] }]) (fd := Tryz.f4) (by kernel_rfl) (by simp) (by kernel_rfl) (by kernel_rfl) hX hw
end Go.Proofs.YtgljffachdhigaaGreatDoor
end
section
namespace Go.Proofs.YtgljffachdhigaaGreatDoor.Tre
open Go Go.TM Go.Proofs Go.TM.Tr Go.TM.Rv
attribute [local irreducible] T.wp CV FWK
set_option maxRecDepth 20000 in
theorem c3104 {h : LH} (hch : h.chans = []) (hpe : h.pend = []) (hk : Kinds h.get) (hcs : Checks h.get) {f : TC} {x : TF} (hx : TreatyR h.get f x) (hbig : x.events.length * 56 <= 2 ^ 47) {e : Ev} {q : Option Addr} {m c : Nat} (hm : m <= c) (he : Sl IntE 1 h.get q m e.items) (land : Int) (hl : 0 <= land /\ land <= 255) (day : Int) (hd : 0 <= day /\ day <= 65535)
  {fb : BookC} {b : RvBook} (hb : BookR h.get fb b) (right : Int) (hr : 0 <= right /\ right <= 255) {po : Option Addr} {no co : Nat} {lo : List Int} (ho : Sl IntE 1 h.get po no lo) (hoc : no <= co) :
  FW XT Tryz.prog 4 #[treatyV f x, eventV e q m c, .int .u8 land, .int .u16 day, bookV fb, .int .u8 right, .slice po no co] h (Fin h) := by
 refine w3104 _ _ _ _ _ _ _ _ _ _ _ _ _ _ _ _ _ _ _ _ _ _ _ _ _ _ _ _ XT_ok ?_
 unfold n3104
 refine t_gr (c2035 (e := ⟨4, e.day, 0, e.items, e.since⟩) hx hbig hm he) ?_
 have hitems : e.items = (⟨4, e.day, 0, e.items, e.since⟩ : Ev).items := rfl
 generalize hev : (⟨4, e.day, 0, e.items, e.since⟩ : Ev) = v
 have hvk : v.kind = 4 := by rw [<- hev]
 rintro _ h1 le1 ⟨g, bo, rfl, hy, hbo⟩
 have ey : treatyV g (add x v) = .agg #[.int .i64 x.items, .int .i64 x.lands, .int .i64 x.start, .int .i64 x.depend, .int .i64 x.refuse, .int .i64 x.turn, .slice g.p g.n g.c] := rfl
 rw [ey]
 refine gZ ?_
 have hk1 := hk.le le1.1
 have hx1 := hx.le le1.1
 have hb1 := hb.le le1.1
 have ho1 := ho.le IntE.grow le1.1
 have hn0 := hb.rights.1
 refine t_blk (fun vs h' => vs = [.bool false] /\ h1 = h' /\ bo = true /\ BookOk b /\ b.rights.length ≠ 0 /\ lo.length = b.cases.length /\ OrderOk b lo) ?_ ?_
 ·refine t_pu (c2016 hx1) ?_
  refine gZ ?_
  refine t_cond (fun _ => ?_) (fun _ => ?_)
  ·refine t_shown hk (.of hch hpe le1) fun h' hh => ?_
   refine gI ?_
   refine gZ ?_
   exact t_ret hh.fin
  refine t_cond (fun _ => ?_) (fun e1 => ?_)
  ·refine t_shown hk (.of hch hpe le1) fun h' hh => ?_
   refine gI ?_
   refine gZ ?_
   exact t_ret hh.fin
  refine t_call (FW.top (c3115 (f := fb) hb1)) ?_
  rintro _ _ ⟨rfl, bg, rfl⟩
  refine gZ ?_
  refine t_cond (fun _ => ?_) (fun _ => ?_)
  ·refine t_shown hk (.of hch hpe le1) fun h' hh => ?_
   refine gI ?_
   refine gZ ?_
   exact t_ret hh.fin
  refine t_call (FW.top (c3116 (f := fb) hb1)) ?_
  rintro _ _ ⟨rfl, z, rfl, hz⟩
  refine gZ ?_
  refine t_cond (fun _ => ?_) (fun ez => ?_)
  ·refine t_shown hk (.of hch hpe le1) fun h' hh => ?_
   refine gI ?_
   refine gZ ?_
   exact t_ret hh.fin
  have hok := hz (by simpa using ez)
  refine t_cond (fun _ => ?_) (fun e0 => ?_)
  ·refine t_shown hk (.of hch hpe le1) fun h' hh => ?_
   refine gI ?_
   refine gZ ?_
   exact t_ret hh.fin
  have hne : b.rights.length ≠ 0 := by
   intro hh
   have : ((fb.n0 : Int) == 0) = true := by rw [beq_iff_eq]; omega
   rw [this] at e0; cases e0
  refine t_if (fun _ => ?_) (fun _ => ?_)
  ·refine t_shown hk (.of hch hpe le1) fun h' hh => ?_
   refine gI ?_
   refine gZ ?_
   exact t_ret hh.fin
  refine t_call (FW.top (c3125 (f := fb) hb1 hok.toBookShape ho1 hoc)) ?_
  rintro _ _ ⟨rfl, z2, rfl, hz2⟩
  refine gZ ?_
  refine t_cond (fun _ => ?_) (fun ez2 => ?_)
  ·refine t_shown hk (.of hch hpe le1) fun h' hh => ?_
   refine gI ?_
   refine gZ ?_
   exact t_ret hh.fin
  obtain ⟨q1, q2⟩ := hz2 (by simpa using ez2)
  exact t_again ⟨rfl, rfl, by simpa using e1, hok, hne, q1, q2⟩
 rintro vs _ ⟨rfl, rfl, rfl, hok, hne, hlen, hord⟩
 have hcy := hbo rfl
 have hcx := check_add hcy
 have hnum := check_numbers hcx
 have hnum2 := check_numbers hcy
 obtain ⟨ek, hk0, hk1'⟩ := mod_in (m := x.lands) (n := land) (by omega) (by omega)
 obtain ⟨er, hr0, hr1⟩ := mod_in (m := (fb.n0 : Int)) (n := right) (by omega) (by omega)
 have hd9 := day_mod day
 have hl0 : x.lands ≠ 0 := by omega
 have hf0 : (fb.n0 : Int) ≠ 0 := by omega
 rw [ek, er]
 generalize land % x.lands = k at hk0 hk1'
 obtain ⟨r, hrn⟩ : ∃ r : Nat, right % (fb.n0 : Int) = (r : Int) := ⟨(right % (fb.n0 : Int)).toNat, by omega⟩
 rw [hrn] at hr0 hr1 ⊢
 refine gZ ?_
 refine t_pu (c2032 hd) ?_
 generalize day % 10000 = d at hd9
 refine gZ ?_
 refine t_gr (c3126 (f := fb) (hcs.le le1.1) hb1 hok ho1 hlen hord) ?_
 rintro _ h2 le2 ⟨p2, n2, k2, p2', n2', k2', rfl, s2⟩
 refine gZ ?_
 have le02 := LH.le_trans le1 le2
 refine t_gr (c3120 (f := fb) (hcs.le le02.1) (hb.le le02.1) hok) ?_
 rintro _ h3 le3 ⟨p3, n3, k3, p3', n3', k3', rfl, s3⟩
 refine gZ ?_
 have le03 := LH.le_trans le02 le3
 have le13 := LH.le_trans le2 le3
 have hfl : (fatesT b).length = b.rights.length := by unfold fatesT; rw [List.length_map, List.length_range]
 have hx6 : (outT b (startT b) lo).s.length = 6 := by
  have hm := out_mem b lo (startT b) (goes_of lo [] (startT b) rfl hord)
  rw [hlen] at hm
  exact all_s b _ hm
 have hn2 := s2.1
 rw [List.length_take, hx6] at hn2
 have h6 := hok.rights
 have hn3 := s3.1
 rw [hfl] at hn3
 refine t_blk (fun vs h' => vs = [.bool false] /\ h3 = h') ?_ ?_
 ·refine t_cond (fun e => by cases e) (fun _ => ?_)
  refine t_cond (fun e => by cases e) (fun _ => ?_)
  refine t_cond (fun e => ?_) (fun _ => ?_)
  ·exfalso
   have : ((n2 : Int) == (fb.n0 : Int)) = true := by rw [beq_iff_eq]; omega
   rw [bne, this] at e; cases e
  refine t_cond (fun e => ?_) (fun _ => ?_)
  ·exfalso
   have : ((n3 : Int) == (n2 : Int)) = true := by rw [beq_iff_eq]; omega
   rw [bne, this] at e; cases e
  exact t_again ⟨rfl, rfl⟩
 rintro vs _ ⟨rfl, rfl⟩
 refine gZ ?_
 have hy3 := hy.le le13.1
 have hx3 := hx1.le le13.1
 have hmy : (add x v).events.length <= 10 := hnum2.2.2.2.2.2.2
 have hmx : x.events.length <= 10 := hnum.2.2.2.2.2.2
 refine t_blk (fun vs h' => h3.le h' /\ ∃ g1 g2 g3 : TC, vs = [.int .i64 x.items, .int .i64 x.lands, .int .i64 x.start, .int .i64 x.depend, .int .i64 x.refuse, .int .i64 x.turn, .slice g1.p g1.n g1.c, .int .i64 x.items, .int .i64 x.lands, .int .i64 x.start, .int .i64 x.depend, .int .i64 x.refuse, .int .i64 x.turn, .slice g2.p g2.n g2.c, .int .i64 x.items, .int .i64 x.lands, .int .i64 x.start, .int .i64 x.depend, .int .i64 x.refuse, .int .i64 x.turn, .slice g3.p g3.n g3.c] /\ TreatyR h'.get g1 (unturned (add x v)) /\ TreatyR h'.get g2 (unturned (add x v)) /\ TreatyR h'.get g3 (unturned x)) ?_ ?_
 ·have eu : ∀ g : TC, treatyV g (unturned (add x v)) = .agg #[.int .i64 x.items, .int .i64 x.lands, .int .i64 x.start, .int .i64 x.depend, .int .i64 x.refuse, .int .i64 x.turn, .slice g.p g.n g.c] := fun _ => rfl
  have eu2 : ∀ g : TC, treatyV g (unturned x) = .agg #[.int .i64 x.items, .int .i64 x.lands, .int .i64 x.start, .int .i64 x.depend, .int .i64 x.refuse, .int .i64 x.turn, .slice g.p g.n g.c] := fun _ => rfl
  refine gZ ?_
  repeat' (first | refine t_both ?_ ?_ | refine gT rfl ?_)
  all_goals refine t_gr (c2036 (x := add x v) hy3 hmy) ?_
  all_goals rintro _ hA leA ⟨gA, rfl, rA⟩
  all_goals rw [eu gA]
  all_goals refine gZ ?_
  all_goals repeat' (first | refine t_both ?_ ?_ | refine gT rfl ?_)
  all_goals refine t_gr (c2036 (x := add x v) (hy3.le leA.1) hmy) ?_
  all_goals rintro _ hB leB ⟨gB, rfl, rB⟩
  all_goals rw [eu gB]
  all_goals refine gZ ?_
  all_goals repeat' (first | refine t_both ?_ ?_ | refine gT rfl ?_)
  all_goals refine t_gr (c2036 (x := x) ((hx3.le leA.1).le leB.1) hmx) ?_
  all_goals rintro _ hC leC ⟨gC, rfl, rC⟩
  all_goals rw [eu2 gC]
  all_goals refine gZ ?_
  all_goals repeat' (first | refine t_both ?_ ?_ | refine gT rfl ?_)
  all_goals exact t_again ⟨LH.le_trans leA (LH.le_trans leB leC), gA, gB, gC, rfl, (rA.le leB.1).le leC.1, rB.le leC.1, rC⟩
 rintro vs h4 ⟨le4, g1, g2, g3, rfl, r1, r2, r3⟩
 refine gZ ?_
 have le04 := LH.le_trans le03 le4
 have le34 := LH.le_trans le3 le4
 have hrl : r < b.rights.length := by omega
 obtain ⟨sv, hsv⟩ : ∃ sv, (outT b (startT b) lo).s[r]? = some sv := ⟨_, List.getElem?_eq_getElem (by omega)⟩
 have hst : ((outT b (startT b) lo).s.take b.rights.length)[r]? = some sv := by rw [List.getElem?_take_of_lt hrl]; exact hsv
 obtain ⟨a2, ha2, c2⟩ := bool_at (s2.le BoolE.grow le34.1) hst
 have hft : (fatesT b)[r]? = some (fateT b r) := by unfold fatesT; rw [List.getElem?_map, List.getElem?_range hrl]; rfl
 obtain ⟨a3, ha3, c3⟩ := int_at (s3.le IntE.grow le4.1) hft
 have hin2 : 0 <= (r : Int) /\ (r : Int) < (n2 : Int) := by omega
 have hin3 : 0 <= (r : Int) /\ (r : Int) < (n3 : Int) := by omega
 have c2' : h4.get.cell? (a2.add (Int.toNat (r : Int) * 1)) = some (.bool sv) := by rw [Int.toNat_natCast]; exact c2
 have c3' : ∀ h5 : LH, h4.le h5 -> h5.get.cell? (a3.add (Int.toNat (r : Int) * 1)) = some (.int .i64 (fateT b r)) := fun h5 hle => by rw [Int.toNat_natCast]; exact Cells.cell?_le hle.1 c3
 have hmem : outT b (startT b) lo ∈ allRuns b := by
  have hm := out_mem b lo (startT b) (goes_of lo [] (startT b) rfl hord)
  rw [hlen] at hm
  exact hm
 have halw : fateT b r = 1 -> sv = true := fun hh => by
  have := say_always hh _ hmem
  rw [List.getD_eq_getElem?_getD, hsv] at this
  exact this
 have hnev : fateT b r = 2 -> sv = false := fun hh => by
  have := say_never hh _ hmem
  rw [List.getD_eq_getElem?_getD, hsv] at this
  exact this
 -- what really is
 have hz : ∃ (z : TF) (gz : TC), (sv = true -> z = unturned x) /\ (sv = false -> z = unturned (add x v)) /\ TreatyR h4.get gz z /\ z.items = x.items /\ treatyV gz z = .agg #[.int .i64 x.items, .int .i64 x.lands, .int .i64 x.start, .int .i64 x.depend, .int .i64 x.refuse, .int .i64 x.turn, .slice gz.p gz.n gz.c] /\ checkT z = 0 /\ z.lands = x.lands /\
   (sv = true -> gz = g3) /\ (sv = false -> gz = g1) := by
  cases sv with
  | true => exact ⟨unturned x, g3, fun _ => rfl, (by intro e; cases e), r3, rfl, rfl, check_unturned hcx, rfl, fun _ => rfl, (by intro e; cases e)⟩
  | false => exact ⟨unturned (add x v), g1, (by intro e; cases e), fun _ => rfl, r1, rfl, rfl, check_unturned hcy, rfl, (by intro e; cases e), fun _ => rfl⟩
 obtain ⟨z, gz, z1, z2, rz, zi, ez, cz, zl, gz1, gz2⟩ := hz
 refine t_blk (fun vs h' => h4 = h' /\ vs = [.int .i64 x.items, .int .i64 x.lands, .int .i64 x.start, .int .i64 x.depend, .int .i64 x.refuse, .int .i64 x.turn, .slice gz.p gz.n gz.c]) ?_ ?_
 ·refine gZ ?_
  refine t_cond (fun es => ?_) (fun es => ?_)
  ·rw [gz1 es]; exact t_again ⟨rfl, rfl⟩
  ·rw [gz2 es]; exact t_again ⟨rfl, rfl⟩
 rintro vs _ ⟨rfl, rfl⟩
 have cux := check_unturned hcx
 have cuy := check_unturned hcy
 have aux := asked_fit cux (k := k) ⟨hk0, hk1'⟩ hd9
 have auy := asked_fit cuy (k := k) ⟨hk0, hk1'⟩ hd9
 have az := asked_fit cz (k := k) ⟨hk0, by rw [zl]; exact hk1'⟩ hd9
 have fall : ∀ i : Nat, 0 <= dateOn (unturned (add x v)) k i d -> 0 <= dateOn (unturned x) k i d := fun i hh => (add_falls hvk k i).protects (ok_unturned (check_ok hcx)) (ok_unturned (check_ok hcy)) hh
 refine gZ ?_
 rw [<- ez]
 have kd : ∀ {h5 : LH}, h4.le h5 -> Kinds h5.get := fun hle => hk.le (LH.le_trans le04 hle).1
 have idl : ∀ {h5 : LH}, h4.le h5 -> Idle h h5 := fun hle => .of hch hpe (LH.le_trans le04 hle)
 refine t_blk (fun vs h' => h4.le h' /\ vs = [.bool false]) ?_ ?_
 ·refine t_gr (c2040 (x := unturned (add x v)) (y := z) (kd (LH.le_refl _)) r2 rz auy az zi fun i _ hh => ?_) ?_
  ·cases hsv2 : sv with
   | true => rw [z1 hsv2]; exact fall i hh
   | false => rw [z2 hsv2]; exact hh
  rintro _ h5 le5 rfl
  refine gZ ?_
  refine t_cond (fun e => by cases e) (fun _ => ?_)
  refine t_gr (c2040 (x := z) (y := unturned x) (kd le5) (rz.le le5.1) (r3.le le5.1) az aux (by rw [zi]; rfl) fun i _ hh => ?_) ?_
  ·cases hsv2 : sv with
   | true => rw [z1 hsv2] at hh; exact hh
   | false => rw [z2 hsv2] at hh; exact fall i hh
  rintro _ h6 le6 rfl
  refine gZ ?_
  refine t_cond (fun e => by cases e) (fun _ => ?_)
  exact t_again ⟨LH.le_trans le5 le6, rfl⟩
 rintro vs h5 ⟨le5, rfl⟩
 have d3 := c3' h5 le5
 refine gZ ?_
 have last : ∀ h6 : LH, h4.le h6 -> (T.call false 20 #[] fun v => T.unB v fun b => T.leaf (Leaf.ret (.bool b))).wp XT Tryz.prog (retQ (Fin h)) h6 := fun h6 le6 => t_shown hk (idl le6) fun h' hh => t_ret hh.fin
 have second : ∀ h6 : LH, h4.le h6 -> fateT b r = 2 -> (T.call false 25 #[treatyV gz z, treatyV g2 (unturned (add x v)), .int .i64 k, .int .i64 d] fun v => T.unB v fun b => bif !b then T.leaf (Leaf.ret (.bool false)) else T.call false 20 #[] fun v => T.unB v fun b => T.leaf (Leaf.ret (.bool b))).wp XT Tryz.prog (retQ (Fin h)) h6 := fun h6 le6 hfa => by
  refine t_gr (c2034 (x := z) (y := unturned (add x v)) (kd le6) (rz.le le6.1) (r2.le le6.1) az auy ?_) ?_
  ·rw [z2 (hnev hfa)]; exact ⟨rfl, fun _ _ => rfl⟩
  rintro _ h7 le7 rfl
  refine gZ ?_
  refine t_cond (fun e => by cases e) (fun _ => ?_)
  exact last h7 (LH.le_trans le6 le7)
 refine t_cond (fun ea => ?_) (fun _ => ?_)
 ·have hfa : fateT b r = 1 := by simpa using ea
  refine t_gr (c2034 (x := z) (y := unturned x) (kd le5) (rz.le le5.1) (r3.le le5.1) az aux ?_) ?_
  ·rw [z1 (halw hfa)]; exact ⟨rfl, fun _ _ => rfl⟩
  rintro _ h6 le6 rfl
  have le46 := LH.le_trans le5 le6
  have d4 := c3' h6 le46
  refine gZ ?_
  refine t_cond (fun e => by cases e) (fun _ => ?_)
  refine gZ ?_
  refine t_cond (fun eb => ?_) (fun _ => ?_)
  ·exact second h6 le46 (by simpa using eb)
  ·exact last h6 le46
 ·refine gZ ?_
  refine t_cond (fun eb => ?_) (fun _ => ?_)
  ·exact second h5 le5 (by simpa using eb)
  ·exact last h5 le5
end Go.Proofs.YtgljffachdhigaaGreatDoor.Tre
end
section
namespace Go.Proofs.YtgljffachdhigaaGreatDoor
open Go Go.TM Go.Proofs Go.Proofs.YtgljffachdhigaaGreatDoor.Tre Go.ChangeShapes Go.WideShapes Go.RowKit
set_option maxRecDepth 100000
theorem door_met (os : Os) (args : Array Value) : laidMetH Tryz.prog Rows.treatyRivalRow.laid ((World.doorLaid Tryz.prog 200 os).forCall (fun _ _ => 0) ⟨#[], args, []⟩).memory :=
 laidMetH_of_parts3 (fuel := 8) (laidMet_of_run' 8 (by kernel_rfl) (by kernel_rfl)) (by kernel_rfl) (by kernel_rfl)
theorem door_shaped (os : Os) (args : Array Value) : ((World.doorLaid Tryz.prog 200 os).forCall (fun _ _ => 0) ⟨#[], args, []⟩).Shaped Tryz.prog :=
 World.shaped_of_RefB (by kernel_rfl) (by kernel_rfl)
theorem treatyRival_lifted (os : Os) (started : os.Started) (H : Type) (enc : TypeId × Value -> H) :
  ReturnsInLeavingWide {} Tryz.checked os 4 .any (fun w args => (Rows.treatyRivalSpec.pre enc Tryz.prog Tryz.f4 [] false w args /\ laidMetH Tryz.prog Rows.treatyRivalRow.laid w) /\ sizedMet enc Tryz.prog Tryz.f4 (OpenSpec.ofChange Rows.treatyRivalSpec) false w args)
   (Rows.treatyRivalSpec.post enc Tryz.prog Tryz.f4 false true false false) := by
 refine row_leaving (C := Tryz.checked) (tb := 4) own started Tryz.func4 (by kernel_rfl) rfl lo ?_ (by kernel_rfl) Tryz.underlying4 ?_
  (ChangeSpec.witness_shaped (enc := enc) (C := Tryz.checked) (os := os) (X := fun w _ => laidMetH Tryz.prog Rows.treatyRivalRow.laid w) false (World.doorLaid Tryz.prog 200 os) #[noTreaty, .agg #[.int .i64 0, .int .i64 0, .int .i64 0, .slice none 0 0, .int .i64 0], .int .u8 0, .int .u16 0, .agg #[.slice none 0 0, .slice none 0 0], .int .u8 0, .slice none 0 0] 8 rfl (door_shaped os _) (by kernel_rfl) (by kernel_rfl) (by kernel_rfl) (door_met os _)) ?_
 ·exact fun t ht => of_decide_eq_true (List.all_eq_true.1 (show (Tryz.f4.params.toList.all fun t => decide (Tryz.prog.readableRec t = true /\ t < Tryz.prog.types.size)) = true by kernel_rfl) t ht)
 ·intro ds hd
  match ds, (show ds.length = 7 from hd) with
  | [d0, d1, d2, d3, d4, d5, d6], _ => rfl
 ·intro W base args ds ps hval0 hA0 hz0 hL
  have hval : ∀ (j : Nat) t v, Tryz.f4.params[j]? = some t -> args[j]? = some v -> Value.okWide Tryz.prog W .any base t v := hval0
  have hz : ∀ (j : Nat) t d, Tryz.f4.params.toList[j]? = some t -> ds[j]? = some d -> Light Tryz.prog t d := hz0
  have hA : DataW.TrodAll enc Tryz.prog W 0 (fun _ => true) true Tryz.f4.params.toList args.toList ds ps := hA0
  rw [Tryz.params4] at hval hz hA
  obtain ⟨v0, v1, v2, v3, v4, v5, v6, d0, d1, d2, d3, d4, d5, d6, q00, q01, q02, q03, q04, q05, q06, rfl, rfl, rfl, h0, h1, h2, h3, h4, h5, h6⟩ := trodAll7 hA
  obtain ⟨f0, u0, rfl, hu0, hb0⟩ := treaty_argB (hval 0 60 v0 rfl rfl) (hz 0 60 d0 rfl rfl) h0
  obtain ⟨q1, m1, k1, e1, rfl, hm1, s1⟩ := event_arg TT (hval 1 63 v1 rfl rfl) (hz 1 63 d1 rfl rfl) h1
  obtain ⟨x2, rfl, _, _, w2⟩ := open_int und5 (hval 2 5 v2 rfl rfl) h2
  obtain ⟨x3, rfl, _, _, w3⟩ := open_int und57 (hval 3 27 v3 rfl rfl) h3
  obtain ⟨f4, u4, rfl, hu4⟩ := book_arg RT (hval 4 36 v4 rfl rfl) (hz 4 36 d4 rfl rfl) h4
  obtain ⟨x5, rfl, _, _, w5⟩ := open_int und5 (hval 5 5 v5 rfl rfl) h5
  obtain ⟨p6, n6, k6, l6, rfl, c6, s6⟩ := Tre.ints_arg (hval 6 30 v6 rfl rfl) (hz 6 30 d6 rfl rfl) h6
  exact FW.mono (Tre.c3104 (h := ⟨getW W, [], [], []⟩) rfl rfl (kinds_of_laid hL (by repeat first | exact List.Mem.head _ | apply List.Mem.tail) (by repeat first | exact List.Mem.head _ | apply List.Mem.tail)) (checks_of_laid hL (by repeat first | exact List.Mem.head _ | apply List.Mem.tail)) hu0 hb0 hm1 s1 x2 (wf_u8 w2) x3 (wf_u16 w3) hu4 x5 (wf_u8 w5) s6 c6) fun r h' hq => ⟨hq.1, hq.2.2.1⟩
set_option maxHeartbeats 0 in
theorem treatyRival_closed : joinedFacts Tryz.prog 4 Tryz.f4 Rows.treatyRivalSpec Rows.treatyRivalRow = true := by
 unfold joinedFacts
 simp only [Bool.and_eq_true]
 and_intros
 all_goals (as_aux_lemma => kernel_rfl)
theorem treatyRival_named : Tryz.prog.funcNamed Rows.treatyRivalRow.func = some 4 := by kernel_rfl
theorem treatyRival_row : Rows.TreatyRivalSaid :=
 OpenClaim.holds_of_wide_leaving 4 Tryz.f4 rfl rfl rfl rfl rfl rfl rfl ⟨rfl, rfl, rfl, rfl, rfl⟩ rfl rfl rfl rfl rfl treatyRival_named Tryz.func4 treatyRival_closed
  (of_decide_eq_true (by kernel_rfl)) (by unfold Func.isWrapper; first | (rw [if_pos (by decide +kernel)]; kernel_rfl) | (rw [if_neg (by decide +kernel)]; exact ⟨rfl, rfl⟩))
  (fun os started H enc _ => treatyRival_lifted os started H enc)
theorem treatyRival_holds : Rows.TreatyRivalCardSaid :=
 card_goes [.funcs, .data, .funcsDeep] true Rows.treatyRivalCard.stood.harness false treatyRival_row (by kernel_rfl) treatyRival_row_tie rfl ⟨rfl, rfl⟩ (by kernel_rfl) rfl
  (fun f fn hf hfn => by
   obtain rfl : f = 4 := Option.some.inj (treatyRival_named.symm.trans hf) |>.symm
   obtain rfl : fn = Tryz.f4 := (Option.some.inj (Tryz.func4.symm.trans hfn)).symm
   exact ⟨by kernel_rfl, fun j t ht => by
    have hm := Array.mem_of_getElem? ht
    have := of_decide_eq_true (List.all_eq_true.1 (show (Tryz.f4.params.toList.all fun t => decide (Tryz.prog.wantsStandIn t = false)) = true by kernel_rfl) t (Array.mem_toList_iff.2 hm))
    exact this⟩)
  (by kernel_rfl)
end Go.Proofs.YtgljffachdhigaaGreatDoor
end
#print axioms Go.Proofs.YtgljffachdhigaaGreatDoor.treatyRival_holds

/- Contracts and laws for the proof, joined by a program. No condition. -/
import Derived.Test.YtldamlcehbdkdaaGreatDoorM4
set_option linter.all false
section
namespace Go.Proofs.YtldamlcehbdkdaaGreatDoor
open Go Go.TM Go.Proofs
attribute [local irreducible] T.wp CV FWK
theorem against_sub {u : UseFile} {land item day : Int} : ∀ r ∈ against u land item day, r ∈ u.requests := fun r hr => (List.mem_filter.1 hr).1
theorem against_len {u : UseFile} (hck : checkF u = 0) (land item day : Int) : (against u land item day).length ≤ 4 := Nat.le_trans (List.length_filter_le _ _) (check_requests hck).1
theorem c91 {h : LH} {d m : Nat} {f : FileC} {u : UseFile} (k : Desk h.get d m f u) (hck : checkF u = 0) (land item day : Int) :
  De 179 #[.pointer (some ⟨d, 0, none⟩), .int .i64 land, .int .i64 item, .int .i64 day] h d m f u fun r _ => r = .int .i64 (left u land item day) := by
 refine w91 _ _ _ _ X0_ok ?_
 unfold n91
 refine t_gr (c101 k hck land item day) ?_
 rintro _ h₁ le1 ⟨p, n, c, rfl, hl⟩
 have k1 := k.le le1.1
 have hm1 := k1.isMap
 have hdays : ∀ r ∈ against u land item day, 0 ≤ r.day ∧ r.day ≤ 2000 := fun r hr => (check_requests hck).2 r (against_sub r hr)
 have hl4 := against_len hck land item day
 refine gZ ?_
 have hn := hl.1
 refine t_loop (fun mm vs h' => Mv m h₁ h' ∧ Desk h'.get d m f u ∧ ∃ i : Nat, vs = [.bool true, .int .i64 i] ∧ i ≤ n ∧ mm = n - i ∧ ∀ j r, j < i → (against u land item day)[j]? = some r → safe u land item r.day = 1)
  ⟨Mv.refl, k1, 0, rfl, Nat.zero_le _, rfl, fun j r hj => by omega⟩ ?_
 rintro Y mm vs h₂ hY ⟨mv, k2, i, rfl, hi, rfl, hall⟩
 refine gZ ?_
 refine t_if (fun e1 => ?_) (fun e1 => ?_)
 ·obtain ⟨x, a, hx, ha, e2, e3, q, mq, cq, e4, e5⟩ := (hl.rd RequestE.grow (mv.rd hm1)).at (i := i) (by omega)
  refine gZ ?_
  have hxd := hdays x (List.mem_of_getElem? hx)
  refine t_de (c60 k2 (check_num hck) land item x.day hxd) ?_
  rintro _ h₃ mv3 k3 rfl
  refine gZ ?_
  refine t_cond (fun b => ?_) (fun b => ?_)
  ·refine gZ ?_
   refine t_cond (fun e => by cases e) (fun _ => ?_)
   have mv13 := mv.trans mv3
   refine t_de (c102 k3 hck (hl.rd RequestE.grow (mv13.rd hm1)) hl4 hdays land item) ?_
   rintro _ h₄ mv4 k4 rfl
   refine gZ ?_
   have hne : safe u land item x.day ≠ 1 := by simpa using b
   have hnot : ¬ ((against u land item day).all fun r => decide (safe u land item r.day = 1)) = true := by
    intro hh
    have := List.all_eq_true.1 hh x (List.mem_of_getElem? hx)
    exact hne (by simpa using this)
   refine t_cond (fun e => ?_) (fun e => ?_)
   ·refine t_ret ⟨(Mv.of_le le1).trans (mv13.trans mv4), k4, ?_⟩
    have : can u land item (against u land item day) = false := by simpa using e
    rw [left, if_neg hnot, this]; rfl
   ·refine t_ret ⟨(Mv.of_le le1).trans (mv13.trans mv4), k4, ?_⟩
    have : can u land item (against u land item day) = true := by simpa using e
    rw [left, if_neg hnot, this]; rfl
  ·refine t_again (hY (n - (i + 1)) _ _ (by omega) ⟨mv.trans mv3, k3, i + 1, ?_, by omega, rfl, fun j r hj hr => ?_⟩)
   ·rw [wrap_id (by omega) (by omega)]; rfl
   ·by_cases e : j = i
    ·subst e; rw [hx] at hr; cases hr; simpa using b
    ·exact hall j r (by omega) hr
 ·refine gZ ?_
  refine t_cond (fun _ => ?_) (fun e => by cases e)
  refine t_ret ⟨(Mv.of_le le1).trans mv, k2, ?_⟩
  have : ((against u land item day).all fun r => decide (safe u land item r.day = 1)) = true := by
   rw [List.all_eq_true]
   intro r hr
   obtain ⟨j, hj⟩ := List.mem_iff_getElem?.1 hr
   have := hall j r (by have := (List.getElem?_eq_some_iff.1 hj).1; omega) hj
   simpa using this
  rw [left, if_pos this]
def dropM (m : Nat) (h : LH) : LH := { h with get := fun b => if b = m then none else h.get b }
theorem dropM_le {m : Nat} {h h' : LH} (mv : Mv m h h') : (dropM m h).le h' := by
 refine ⟨fun r x hr => ?_, mv.same⟩
 have hr' : (if r = m then none else h.get r) = some x := hr
 split at hr'
 ·cases hr'
 ·exact mv.keep r x (by assumption) hr'
theorem dropM_rd {m : Nat} {h : LH} (hm : ∃ es c, h.get m = some (true, .map es c)) : Rd h.get (dropM m h).get := by
 intro x v hc
 have hne : x.block ≠ m := by
  intro e
  obtain ⟨es, c, hm⟩ := hm
  unfold Cells.cell? at hc
  rw [e, hm] at hc; cases hc
 unfold Cells.cell? at hc ⊢
 show (match (if x.block = m then none else h.get x.block) with | some (_, .cells c _ _) => if x.spot.isSome then none else c[x.off]? | _ => none) = _
 rw [if_neg hne]; exact hc
theorem mv_of_drop {m : Nat} {h h' : LH} (hl : (dropM m h).le h') (hm : ∃ es c, h'.get m = some (true, .map es c)) : Mv m h h' :=
 ⟨fun r x hr hx => hl.1 r x (by show (if r = m then none else h.get r) = _; rw [if_neg hr]; exact hx), fun _ _ _ => hm, hl.2⟩
theorem desk_of_drop {h h' : LH} {d m : Nat} {f : FileC} {u : UseFile} (k : Desk h.get d m f u) (hl : (dropM m h).le h') (hm : ∃ es c, h'.get m = some (true, .map es c) ∧ ∀ e ∈ es.toList, ∃ day : Int, e.key = .agg #[.int .i64 day, .int .i64 u.idle] ∧ e.val = .agg #[.int .i64 (window u day).first, .int .i64 day]) : Desk h'.get d m f u := by
 have hr : Rd h.get h'.get := (dropM_rd k.isMap).trans (Rd.of_le hl.1)
 exact ⟨k.file.rd hr, k.rep.rd hr, fun j hj => hr _ _ (k.counts j hj), hr _ _ k.mapp, hm⟩
theorem t_growD {α : Type} {X : XP} {Q : Leaf → LH → Prop} {Enc : α → List Value → Prop} {h h₁ : LH} {d m : Nat} {f : FileC} {u : UseFile} {k : Value → T} {ts : Array TypeId} {ty sT xT el xe : TypeId} {s by_ : Nat} {z : Value} {p : Option Addr} {n c mc : Nat} {b : Addr} {l : List α} {x : α} {ws : List Value} (kd : Desk h.get d m f u) (k1 : Desk h₁.get d m f u) (mv : Mv m h h₁)
  (h0 : ts[0]? = some sT) (h1 : ts[1]? = some xT) (hu : Tryz.prog.underlying sT = some (.slice el)) (hx : Tryz.prog.underlying xT = some (.slice xe)) (hi : (Tryz.prog.info? el).map (fun i => (i.size, i.bytes, i.zero)) = some (s, by_, some z)) (hsz : z.cells.size = s) (hb : by_ ≤ 1024) (hn : n + 1 ≤ 2 ^ 30) (g : Growing Enc el s (dropM m h).get h₁.get p n c l) (he : Enc x ws) (hl : ws.length = s) (hc : ∀ (j : Nat) v, ws[j]? = some v → h₁.get.cell? (b.add j) = some v) (one : ∀ v ∈ ws, isOne v = true)
  (hk : ∀ p' c' h', Mv m h h' → Desk h'.get d m f u → Growing Enc el s (dropM m h).get h'.get p' (n + 1) c' (l ++ [x]) → (k (.slice p' (n + 1) c')).wp X Tryz.prog Q h') : (T.sem false (Builtin.append_ ts ty #[.slice p n c, .slice (some b) 1 mc]) k).wp X Tryz.prog Q h₁ := by
 have hpm : ∀ a, p = some a → a.block ≠ m := by
  intro a ha e
  obtain ⟨vs, ⟨_, h2⟩, _⟩ := g.row
  obtain ⟨es, c', hm⟩ := k1.isMap
  rcases h2 with ⟨rfl, _⟩ | ⟨r, cs, rfl, hr, _⟩
  ·cases ha
  ·cases ha; subst e; rw [hm] at hr; cases hr
 refine t_grow h0 h1 hu hx hi hsz hb hn g (dropM_le mv) he hl hc one fun p' c' h' hle hkeep g' => ?_
 obtain ⟨es, c0, hm, hv⟩ := k1.map
 have hm' := hkeep m _ hpm hm
 exact hk p' c' h' (mv_of_drop hle ⟨es, c0, hm'⟩) (desk_of_drop kd hle ⟨es, c0, hm', hv⟩) g'
theorem leftAll_take {u : UseFile} {land day : Int} (i : Nat) (hi : i < u.items.toNat) : (leftAll u land day).take (i + 1) = (leftAll u land day).take i ++ [left u land i day] := by
 have hlen : i < (leftAll u land day).length := by unfold leftAll; rw [List.length_map, List.length_range]; exact hi
 rw [List.take_succ_eq_append_getElem hlen]
 congr 2
 simp [leftAll]
theorem c63 {h : LH} {d m : Nat} {f : FileC} {u : UseFile} (k : Desk h.get d m f u) (hck : checkF u = 0) (land day : Int) :
  De 120 #[.pointer (some ⟨d, 0, none⟩), .int .i64 land, .int .i64 day] h d m f u fun r h' => ∃ p n c, r = .slice p n c ∧ Growing IntEnc 74 1 (dropM m h).get h'.get p n c (leftAll u land day) := by
 refine w63 _ _ _ X0_ok ?_
 unfold n63
 obtain ⟨f0, f1, f2, f3, f4, f5, f6⟩ := k.file
 have hit := (num_ok (check_num hck)).1
 refine gZ ?_
 have hlen : (leftAll u land day).length = u.items.toNat := by unfold leftAll; rw [List.length_map, List.length_range]
 refine t_loop (fun mm vs h' => Mv m h h' ∧ Desk h'.get d m f u ∧ ∃ (i : Nat) (p : Option Addr) (n c : Nat), vs = [.slice p n c, .int .i64 i] ∧ i ≤ u.items.toNat ∧ mm = u.items.toNat - i ∧ Growing IntEnc 74 1 (dropM m h).get h'.get p n c ((leftAll u land day).take i))
  ⟨Mv.refl, k, 0, none, 0, 0, rfl, Nat.zero_le _, rfl, Growing.nil⟩ ?_
 rintro Y mm vs h₁ hY ⟨mv, k1, i, p, n, c, rfl, hi, rfl, g⟩
 refine gZ ?_
 refine t_if (fun e1 => ?_) (fun e1 => ?_)
 ·have hm1 := k1.isMap
  refine t_de (c91 k1 hck land i day) ?_
  rintro _ h₂ mv2 k2 rfl
  refine gZ ?_
  have g2 := g.mv hm1 mv2
  refine t_build und40 inf34 (by decide) (by decide) (cells := #[.int .i64 (left u land i day)]) (by kernel_rfl) fun r hr => ?_
  have le3 : h₂.le _ := LH.upd_le (x := (true, .cells #[.int .i64 (left u land i day)] 74 (0, 0))) hr
  have hng := g2.count IntEnc.len (by omega)
  rw [List.length_take] at hng
  refine gZ ?_
  refine t_growD (x := left u land i day) (ws := [.int .i64 (left u land i day)]) k (k2.le le3.1) ((mv.trans mv2).trans (Mv.of_le le3)) rfl rfl und40 und40 inf34 rfl (by omega) (by omega) (g2.le le3.1) rfl rfl ?_ ?_ ?_
  ·intro j w hj
   rw [add_plain, Nat.zero_add]
   exact cell_upd (by simpa using hj)
  ·intro w hw; simp at hw; subst hw; rfl
  ·intro p' c' h₄ mv4 k4 g4
   refine gZ ?_
   refine t_again (hY (u.items.toNat - (i + 1)) _ _ (by omega) ⟨mv4, k4, i + 1, p', n + 1, c', ?_, by omega, rfl, ?_⟩)
   ·rw [wrap_id (by omega) (by omega)]; rfl
   ·rw [leftAll_take i (by omega)]; exact g4
 ·refine gZ ?_
  have : i = u.items.toNat := by omega
  subst this
  rw [List.take_of_length_le (by omega)] at g
  exact t_ret ⟨mv, k1, p, n, c, rfl, g⟩
def LeftR (h' : Cells) (u : UseFile) (land day : Int) (r : Value) : Prop :=
 (openF u [landQ u land, dayQ day] ≠ 0 ∧ r = .tuple #[.slice none 0 0, .int .i64 (openF u [landQ u land, dayQ day])]) ∨
 (openF u [landQ u land, dayQ day] = 0 ∧ ∃ p n c, r = .tuple #[.slice p n c, .int .i64 0] ∧ Sl IntE 1 h' p n (leftAll u land day))
theorem c23 {h : LH} {f : FileC} {u : UseFile} (hp : Parts h.get) (hu : FileR h.get f u) (land day : Int) : Gr Tryz.prog 56 #[fileV f u, .int .i64 land, .int .i64 day] h fun r h' => LeftR h'.get u land day r := by
 refine w23 _ _ _ _ _ _ _ _ _ _ _ _ _ _ _ X0_ok ?_
 unfold n23
 refine t_gr (c58 u land) ?_
 rintro v0 h₁ le1 ⟨q0, a0⟩
 refine gZ ?_
 refine t_gr (c54 u day) ?_
 rintro v1 h₂ le2 ⟨q1, a1⟩
 refine gZ ?_
 refine asks2 q0 (a0.le le2) q1 a1 fun r h₄ le4 hs => ?_
 refine gZ ?_
 have le14 := LH.le_trans (LH.le_trans le1 le2) le4
 refine t_call (c53 (f := f) (hp.le le14.1) (hu.le le14.1) hs) ?_
 rintro v h₅ ⟨le5, ⟨hne, rfl⟩ | ⟨h0, d, m, rfl, hd, hm, k⟩⟩
 ·refine gZ ?_
  refine t_cond (fun _ => ?_) (fun e => absurd (by simpa using e) hne)
  exact t_ret ⟨LH.le_trans le14 le5, .inl ⟨hne, rfl⟩⟩
 ·refine gZ ?_
  refine t_cond (fun e => by cases e) (fun _ => ?_)
  refine t_de (c63 k (open_num h0).2 land day) ?_
  rintro _ h₆ mv k6 ⟨p, n, c, rfl, g⟩
  refine gZ ?_
  refine t_ret ⟨LH.le_trans le14 (Mv.le_of le5 hm mv), .inr ⟨h0, p, n, c, rfl, ?_⟩⟩
  refine g.sl IntEnc.len (by omega) IntEnc.e ?_
  have := (num_ok (open_num h0).1).1
  unfold leftAll; rw [List.length_map, List.length_range]; omega
end Go.Proofs.YtldamlcehbdkdaaGreatDoor
end
section
namespace Go.Proofs.YtldamlcehbdkdaaGreatDoor
open Go Go.TM Go.Proofs
attribute [local irreducible] T.wp CV FWK
def LackEnc (x : Lack) (ws : List Value) : Prop := ws = [.int .i64 x.item, .int .i64 x.request, .int .i64 x.window.first, .int .i64 x.window.last]
theorem LackEnc.len : ∀ x ws, LackEnc x ws → ws.length = 4 := by rintro x _ rfl; rfl
theorem LackEnc.e {h' : Cells} : ∀ a x ws, LackEnc x ws → (∀ (j : Nat) w, ws[j]? = some w → h'.cell? (a.add j) = some w) → LackE h' a x := by
 rintro a x _ rfl hc
 exact ⟨hc 0 _ rfl, hc 1 _ rfl, hc 2 _ rfl, hc 3 _ rfl⟩
theorem check_items {u : UseFile} (h : checkF u = 0) : ∀ r ∈ u.requests, risesF r.items u.items = 0 := by
 obtain ⟨_, h2⟩ := eachF_zero (check_parts h).2.2.2
 intro r hr
 obtain ⟨j, hj⟩ := List.mem_iff_getElem?.1 hr
 have := h2 j r hj
 have key : ∀ (c1 c2 c3 : Prop) [Decidable c1] [Decidable c2] [Decidable c3] (x : Int), (if c1 then (1 : Int) else if c2 then 7 else if c3 then 6 else x) = 0 → x = 0 := by
  intro c1 c2 c3 _ _ _ x hx
  by_cases a1 : c1
  ·rw [if_pos a1] at hx; cases hx
  ·rw [if_neg a1] at hx
   by_cases a2 : c2
   ·rw [if_pos a2] at hx; cases hx
   ·rw [if_neg a2] at hx
    by_cases a3 : c3
    ·rw [if_pos a3] at hx; cases hx
    ·rw [if_neg a3] at hx; exact hx
 exact key _ _ _ _ this
theorem rises_len {l : List Int} {b : Int} (h : risesF l b = 0) : (∀ i (hi : i < l.length), (i : Int) ≤ l[i] ∧ l[i] < b ∧ 0 ≤ l[i]) := by
 have h' := firstF_zero' h
 intro i
 induction i with
 | zero =>
  intro hi
  have := h' 0 l[0] (List.getElem?_eq_getElem hi)
  unfold riseF at this
  split at this
  ·cases this
  ·rename_i h1
   simp [isIn] at h1
   omega
 | succ i ih =>
  intro hi
  have h1 := ih (by omega)
  have := h' (i + 1) l[i + 1] (List.getElem?_eq_getElem hi)
  unfold riseF at this
  split at this
  ·cases this
  ·split at this
   ·cases this
   ·rename_i h2 h3
    simp [isIn] at h2
    have e : l.getD (0 + (i + 1) - 1) 0 = l[i] := by
     rw [show 0 + (i + 1) - 1 = i by omega]
     simp [List.getD, List.getElem?_eq_getElem (show i < l.length by omega)]
    rw [e] at h3
    have : ¬ l[i + 1] ≤ l[i] := fun hh => h3 ⟨by omega, hh⟩
    omega
theorem rises_len' {l : List Int} {b : Int} (h : risesF l b = 0) (hb : 0 ≤ b) : (l.length : Int) ≤ b := by
 by_cases h0 : l.length = 0
 ·omega
 ·have := rises_len h (l.length - 1) (by omega)
  omega
theorem lacksGo_len {u : UseFile} {land day : Int} (hi : ∀ r ∈ u.requests, r.items.length ≤ 6) : ∀ (l : List Request) (i : Nat), (∀ r ∈ l, r ∈ u.requests) → (lacksGo u land day l i).length ≤ l.length * 6 := by
 intro l
 induction l with
 | nil => intro i _; simp [lacksGo]
 | cons r l ih =>
  intro i hs
  rw [lacksGo, List.length_append]
  have h1 := ih (i + 1) fun r hr => hs r (by simp [hr])
  have h2 : (lacksOf u land day i r).length ≤ 6 := by
   unfold lacksOf
   split
   ·simp
   ·rw [List.length_map]
    exact Nat.le_trans (List.length_filter_le _ _) (hi r (hs r (by simp)))
  simp only [List.length_cons]; omega
def LacksR (h' : Cells) (u : UseFile) (land day : Int) (r : Value) : Prop :=
 (openF u [landQ u land, dayQ day] ≠ 0 ∧ r = .tuple #[.slice none 0 0, .int .i64 (openF u [landQ u land, dayQ day])]) ∨
 (openF u [landQ u land, dayQ day] = 0 ∧ ∃ p n c, r = .tuple #[.slice p n c, .int .i64 0] ∧ Sl LackE 4 h' p n (lacks u land day))
theorem c28 {h : LH} {f : FileC} {u : UseFile} (hp : Parts h.get) (hu : FileR h.get f u) (land day : Int) : Gr Tryz.prog 57 #[fileV f u, .int .i64 land, .int .i64 day] h fun r h' => LacksR h'.get u land day r := by
 refine w28 _ _ _ _ _ _ _ _ _ _ _ _ _ _ _ X0_ok ?_
 unfold n28
 refine t_gr (c58 u land) ?_
 rintro v0 h₁ le1 ⟨q0, a0⟩
 refine gZ ?_
 refine t_gr (c54 u day) ?_
 rintro v1 h₂ le2 ⟨q1, a1⟩
 refine gZ ?_
 refine asks2 q0 (a0.le le2) q1 a1 fun r h₄ le4 hs => ?_
 refine gZ ?_
 have le14 := LH.le_trans (LH.le_trans le1 le2) le4
 refine t_call (c53 (f := f) (hp.le le14.1) (hu.le le14.1) hs) ?_
 rintro v h₅ ⟨le5, ⟨hne, rfl⟩ | ⟨h0, d, m, rfl, hd, hm, k⟩⟩
 ·refine gZ ?_
  refine t_cond (fun _ => ?_) (fun e => absurd (by simpa using e) hne)
  exact t_ret ⟨LH.le_trans le14 le5, .inl ⟨hne, rfl⟩⟩
 ·refine gZ ?_
  refine t_cond (fun e => by cases e) (fun _ => ?_)
  have hck := (open_num h0).2
  have hnum := check_num hck
  have hreq := check_requests hck
  have hitn := (num_ok hnum).1
  have hitems : ∀ r ∈ u.requests, r.items.length ≤ 6 := fun r hr => by have := rises_len' (check_items hck r hr) (by omega); omega
  have hlen6 := lacksGo_len (land := land) (day := day) hitems u.requests 0 fun r hr => hr
  have le15 := LH.le_trans le14 le5
  have hrq := (hu.le le15.1).requests
  have hn6 := hrq.1
  have hm5 := k.isMap
  refine t_loop (fun mm vs h' => Mv m h₅ h' ∧ Desk h'.get d m f u ∧ ∃ (i : Nat) (p : Option Addr) (n c : Nat) (rs : List Lack), vs = [.slice p n c, .int .i64 i] ∧ i ≤ f.n6 ∧ mm = f.n6 - i ∧ Growing LackEnc 131 4 (dropM m h₅).get h'.get p n c rs ∧ lacks u land day = rs ++ lacksGo u land day (u.requests.drop i) i)
   ⟨Mv.refl, k, 0, none, 0, 0, [], rfl, Nat.zero_le _, rfl, Growing.nil, rfl⟩ ?_
  rintro Y mm vs h₆ hY ⟨mv, k6, i, p, n, c, rs, rfl, hi, rfl, g, hc⟩
  refine gZ ?_
  refine t_if (fun e1 => ?_) (fun e1 => ?_)
  ·obtain ⟨x, a, hx, ha, e2, e3, q, mq, cq, e4, e5⟩ := hrq.at (i := i) (by omega)
   have e2 := mv.rd hm5 _ _ e2
   have e3 := mv.rd hm5 _ _ e3
   have e4 := mv.rd hm5 _ _ e4
   have hxm := List.mem_of_getElem? hx
   have hxd := hreq.2 x hxm
   have hx6 := hitems x hxm
   rw [drop_of hx, lacksGo] at hc
   refine gZ ?_
   have next : ∀ h' p n c rs', Mv m h₅ h' → Desk h'.get d m f u → Growing LackEnc 131 4 (dropM m h₅).get h'.get p n c rs' → rs' = rs ++ lacksOf u land day i x → Y [.slice p n c, .int .i64 (IntKind.wrap .i64 ((i : Int) + 1))] h' := by
    rintro h' p n c rs' mv' k' g' rfl
    refine hY (f.n6 - (i + 1)) _ _ (by omega) ⟨mv', k', i + 1, p, n, c, _, ?_, by omega, rfl, g', by rw [hc, List.append_assoc]⟩
    rw [wrap_id (by omega) (by omega)]; rfl
   refine t_blk (fun vs h' => vs = [] ∧ h₆ = h' ∧ x.land = land ∧ x.day ≤ day) ?_ ?_
   ·refine t_cond (fun b1 => ?_) (fun b1 => ?_)
    ·refine gR ?_
     refine t_cond (fun _ => ?_) (fun e => by cases e)
     refine gZ ?_
     refine t_again (next h₆ p n c rs mv k6 g ?_)
     have : x.land ≠ land := by simpa using b1
     rw [lacksOf, if_pos (.inl this)]; simp
    ·refine t_if (fun b2 => ?_) (fun b2 => ?_)
     ·refine gR ?_
      refine t_cond (fun _ => ?_) (fun e => by cases e)
      refine gZ ?_
      refine t_again (next h₆ p n c rs mv k6 g ?_)
      rw [lacksOf, if_pos (.inr b2)]; simp
     ·exact t_again ⟨rfl, rfl, by simpa using b1, by omega⟩
   ·rintro vs _ ⟨rfl, rfl, hland, hday⟩
    refine gZ ?_
    have hof : lacksOf u land day i x = (x.items.filter fun n => decide (safe u land n x.day ≠ 1)).map fun n => ⟨n, (i : Int), ⟨(window u x.day).first, x.day⟩⟩ := by
     rw [lacksOf, if_neg (by omega)]
    have hmq := e5.1
    refine t_loop (fun mm vs h' => Mv m h₅ h' ∧ Desk h'.get d m f u ∧ ∃ (j : Nat) (p : Option Addr) (n c : Nat) (ss : List Lack), vs = [.slice p n c, .int .i64 j] ∧ j ≤ mq ∧ mm = mq - j ∧ ss.length ≤ j ∧ Growing LackEnc 131 4 (dropM m h₅).get h'.get p n c (rs ++ ss) ∧ lacksOf u land day i x = ss ++ ((x.items.drop j).filter fun n => decide (safe u land n x.day ≠ 1)).map fun n => ⟨n, (i : Int), ⟨(window u x.day).first, x.day⟩⟩)
     ⟨mv, k6, 0, p, n, c, [], rfl, Nat.zero_le _, rfl, Nat.le_refl _, by simpa using g, hof⟩ ?_
    rintro Y2 mm vs h₇ hY2 ⟨mv7, k7, j, p, n, c, ss, rfl, hj, rfl, hsl, g7, hc7⟩
    refine gZ ?_
    refine t_if (fun e6 => ?_) (fun e6 => ?_)
    ·obtain ⟨y, b, hy, hb, e7⟩ := (e5.rd IntE.grow (mv7.rd hm5)).at (i := j) (by omega)
     unfold IntE at e7
     rw [drop_of hy, List.filter_cons] at hc7
     refine gZ ?_
     refine t_de (c60 k7 hnum land y x.day hxd) ?_
     rintro _ h₈ mv8 k8 rfl
     have g8 := g7.mv k7.isMap mv8
     refine gZ ?_
     refine t_cond (fun b1 => ?_) (fun b1 => ?_)
     ·have b1' : decide (safe u land y x.day ≠ 1) = true := by simpa using b1
      rw [if_pos b1', List.map_cons] at hc7
      refine t_de (c55 k8 (num_ok hnum).2.2.2 x.day hxd) ?_
      rintro _ h₉ mv9 k9 rfl
      have g9 := g8.mv k8.isMap mv9
      have e7' := (mv8.trans mv9).rd k7.isMap _ _ e7
      refine gZ ?_
      refine t_build und45 inf79 (by decide) (by decide) (cells := #[.int .i64 y, .int .i64 i, .int .i64 (window u x.day).first, .int .i64 x.day]) (by kernel_rfl) fun r hr => ?_
      have le10 : h₉.le _ := LH.upd_le (x := (true, .cells #[.int .i64 y, .int .i64 i, .int .i64 (window u x.day).first, .int .i64 x.day] 131 (0, 0))) hr
      have hng := g9.count LackEnc.len (by omega)
      have hrs6 : rs.length ≤ u.requests.length * 6 := by
       have := hlen6
       unfold lacks at hc
       rw [hc, List.length_append] at this; omega
      have hssl : ss.length ≤ 6 := by have := e5.1; omega
      rw [List.length_append] at hng
      refine gZ ?_
      refine t_growD (x := (⟨y, (i : Int), ⟨(window u x.day).first, x.day⟩⟩ : Lack)) (ws := [.int .i64 y, .int .i64 i, .int .i64 (window u x.day).first, .int .i64 x.day]) k (k9.le le10.1) (((mv7.trans mv8).trans mv9).trans (Mv.of_le le10)) rfl rfl und45 und45 inf79 rfl (by omega) (by omega) (g9.le le10.1) rfl rfl ?_ ?_ ?_
      ·intro j w hj
       rw [add_plain, Nat.zero_add]
       exact cell_upd (by simpa using hj)
      ·intro w hw; simp at hw; rcases hw with rfl | rfl | rfl | rfl <;> rfl
      ·intro p' c' h₁₀ mv10 k10 g10
       refine gZ ?_
       refine t_again (hY2 (mq - (j + 1)) _ _ (by omega) ⟨mv10, k10, j + 1, p', n + 1, c', ss ++ [⟨y, (i : Int), ⟨(window u x.day).first, x.day⟩⟩], ?_, by omega, rfl, by simp; omega, by rw [← List.append_assoc]; exact g10, by rw [hc7]; simp⟩)
       rw [wrap_id (by omega) (by omega)]; rfl
     ·have b1' : decide (safe u land y x.day ≠ 1) = false := by simpa using b1
      rw [if_neg (by rw [b1']; simp)] at hc7
      refine t_again (hY2 (mq - (j + 1)) _ _ (by omega) ⟨mv7.trans mv8, k8, j + 1, p, n, c, ss, ?_, by omega, rfl, by omega, g8, hc7⟩)
      rw [wrap_id (by omega) (by omega)]; rfl
    ·refine gZ ?_
     rw [List.drop_eq_nil_of_le (by omega)] at hc7
     refine t_again (next h₇ p n c _ mv7 k7 g7 ?_)
     rw [hc7]; simp
  ·refine gZ ?_
   rw [List.drop_eq_nil_of_le (by omega), lacksGo, List.append_nil] at hc
   refine t_ret ⟨LH.le_trans le14 (Mv.le_of le5 hm mv), .inr ⟨h0, p, n, c, rfl, ?_⟩⟩
   rw [hc]
   refine g.sl LackEnc.len (by omega) LackEnc.e ?_
   have : rs.length ≤ u.requests.length * 6 := by
    have := hlen6
    unfold lacks at hc
    rw [hc] at this; exact this
   omega
def PaperEnc (h₀ : Cells) (x : Paper) (ws : List Value) : Prop := ∃ q m c, ws = [.int .i64 x.days.first, .int .i64 x.days.last, .int .i64 x.land, .slice q m c] ∧ Sl IntE 1 h₀ q m x.items
theorem PaperEnc.len {h₀ : Cells} : ∀ x ws, PaperEnc h₀ x ws → ws.length = 4 := by rintro x _ ⟨q, m, c, rfl, _⟩; rfl
theorem PaperEnc.e {h₀ h' : Cells} (hr : Rd h₀ h') : ∀ a x ws, PaperEnc h₀ x ws → (∀ (j : Nat) w, ws[j]? = some w → h'.cell? (a.add j) = some w) → PaperE h' a x := by
 rintro a x _ ⟨q, m, c, rfl, hs⟩ hc
 exact ⟨hc 0 _ rfl, hc 1 _ rfl, hc 2 _ rfl, q, m, c, hc 3 _ rfl, hs.rd IntE.grow hr⟩
def enoughB (u : UseFile) (land day : Int) (papers all : List Int) : Bool := decide (checkF (withP u papers) = 0) && coversB all (leftAll (withP u papers) land day)
theorem withP_take {u : UseFile} {pl : List Int} {i : Nat} {v : Int} {x : Paper} (hv : pl[i]? = some v) (hx : u.papers[v.toNat]? = some x) : (pl.take (i + 1)).filterMap (fun n => u.papers[n.toNat]?) = (pl.take i).filterMap (fun n => u.papers[n.toNat]?) ++ [x] := by
 obtain ⟨hlt, rfl⟩ := List.getElem?_eq_some_iff.1 hv
 rw [List.take_succ_eq_append_getElem hlt, List.filterMap_append]
 simp [hx]
theorem c71 {h : LH} {f : FileC} {u : UseFile} (hp : Parts h.get) (hu : FileR h.get f u) (land day : Int) {pp : Option Addr} {pn pc : Nat} {pl : List Int} (hpl : Sl IntE 1 h.get pp pn pl) (hin : ∀ v ∈ pl, 0 ≤ v ∧ v < (u.papers.length : Int)) (hpl8 : pl.length ≤ 8)
  {ap : Option Addr} {an ac : Nat} {all : List Int} (hal : Sl IntE 1 h.get ap an all) (halen : all.length = u.items.toNat) : Gr Tryz.prog 122 #[fileV f u, .int .i64 land, .int .i64 day, .slice pp pn pc, .slice ap an ac] h fun r _ => r = .bool (enoughB u land day pl all) := by
 refine w71 _ _ _ _ _ _ _ _ _ _ _ _ _ _ _ _ _ _ _ _ _ X0_ok ?_
 unfold n71
 have hn := hpl.1
 have hn5 := hu.papers.1
 refine t_loop (fun mm vs h' => h.le h' ∧ ∃ (i : Nat) (p : Option Addr) (n c : Nat), vs = [.int .i64 i, .int .i64 u.items, .int .i64 u.lands, .int .i64 u.from_, .int .i64 u.idle, .slice f.p4 f.n4 f.c4, .slice p n c, .slice f.p6 f.n6 f.c6] ∧ i ≤ pn ∧ mm = pn - i ∧
   Growing (PaperEnc h.get) 32 4 h.get h'.get p n c ((pl.take i).filterMap fun n => u.papers[n.toNat]?)) ⟨LH.le_refl _, 0, none, 0, 0, rfl, Nat.zero_le _, rfl, Growing.nil⟩ ?_
 rintro Y mm vs h₁ hY ⟨hle, i, p, n, c, rfl, hi, rfl, g⟩
 refine gZ ?_
 refine t_if (fun e1 => ?_) (fun e1 => ?_)
 ·obtain ⟨v, a, hv, ha, e2⟩ := hpl.at (i := i) (by omega)
  unfold IntE at e2
  have e2 := Cells.cell?_le hle.1 e2
  have hvr := hin v (List.mem_of_getElem? hv)
  have hvn : ((v.toNat : Nat) : Int) = v := by omega
  obtain ⟨x, b, hx, hb, e3, e4, e5, q, mq, cq, e6, e7⟩ := hu.papers.at (i := v.toNat) (by omega)
  have e3 := Cells.cell?_le hle.1 e3
  have e4 := Cells.cell?_le hle.1 e4
  have e5 := Cells.cell?_le hle.1 e5
  have e6 := Cells.cell?_le hle.1 e6
  have hnv : 0 ≤ v ∧ v < (f.n5 : Int) := by omega
  refine gZ ?_
  refine t_build und23 inf69 (by decide) (by decide) (cells := #[.int .i64 x.days.first, .int .i64 x.days.last, .int .i64 x.land, .slice q mq cq]) (by kernel_rfl) fun r hr => ?_
  have le2 : h₁.le _ := LH.upd_le (x := (true, .cells #[.int .i64 x.days.first, .int .i64 x.days.last, .int .i64 x.land, .slice q mq cq] 32 (0, 0))) hr
  have hng := g.count PaperEnc.len (by omega)
  have hlen : ((pl.take i).filterMap fun n => u.papers[n.toNat]?).length ≤ 8 := Nat.le_trans (List.length_filterMap_le _ _) (by rw [List.length_take]; omega)
  refine gZ ?_
  refine t_grow (x := x) (ws := [.int .i64 x.days.first, .int .i64 x.days.last, .int .i64 x.land, .slice q mq cq]) rfl rfl und23 und23 inf69 rfl (by omega) (by omega) (g.le le2.1) (LH.le_trans hle le2) ⟨q, mq, cq, rfl, e7⟩ rfl ?_ ?_ ?_
  ·intro j w hj
   rw [add_plain, Nat.zero_add]
   exact cell_upd (by simpa using hj)
  ·intro w hw; simp at hw; rcases hw with rfl | rfl | rfl | rfl <;> rfl
  ·intro p' c' h₂ hle2 _ g2
   refine gZ ?_
   refine t_again (hY (pn - (i + 1)) _ _ (by omega) ⟨hle2, i + 1, p', n + 1, c', ?_, by omega, rfl, by rw [withP_take hv hx]; exact g2⟩)
   rw [wrap_id (by omega) (by omega)]; rfl
 ·refine gZ ?_
  have hpi : pl.take i = pl := List.take_of_length_le (by omega)
  rw [hpi] at g
  have hlen : (pl.filterMap fun n => u.papers[n.toNat]?).length ≤ 8 := Nat.le_trans (List.length_filterMap_le _ _) hpl8
  have hsl := g.sl PaperEnc.len (by omega) (PaperEnc.e (Rd.of_le hle.1)) (by omega)
  have hu' : FileR h₁.get { f with p5 := p, n5 := n, c5 := c } (withP u pl) := ⟨hu.excuses.le SpanE.grow hle.1, hsl, hu.requests.le RequestE.grow hle.1⟩
  refine t_call (c53 (f := { f with p5 := p, n5 := n, c5 := c }) (u := withP u pl) (l := []) (hp.le hle.1) hu' ⟨rfl, by show 0 < _; omega, fun i g hg => by simp at hg⟩) ?_
  rintro v h₂ ⟨le2, ⟨hne, rfl⟩ | ⟨h0, d, m, rfl, hd, hm, k⟩⟩
  ·refine gZ ?_
   refine t_cond (fun _ => ?_) (fun e => absurd (by simpa using e) hne)
   refine t_ret ⟨LH.le_trans hle le2, ?_⟩
   have : checkF (withP u pl) ≠ 0 := by
    intro hc
    apply hne
    rw [openF, if_neg (by simp [hc])]; rfl
   unfold enoughB
   rw [decide_eq_false this]; rfl
  ·refine gZ ?_
   refine t_cond (fun e => by cases e) (fun _ => ?_)
   have hck := (open_num h0).2
   refine t_de (c63 k hck land day) ?_
   rintro _ h₃ mv k3 ⟨p3, n3, c3, rfl, g3⟩
   refine gZ ?_
   have hitn := (num_ok (open_num h0).1).1
   have hitn' : (withP u pl).items = u.items := rfl
   rw [hitn'] at hitn
   have hll : (leftAll (withP u pl) land day).length = u.items.toNat := by unfold leftAll; rw [List.length_map, List.length_range, hitn']
   have hs3 := g3.sl IntEnc.len (by omega) IntEnc.e (by omega)
   have hle3 := Mv.le_of (LH.le_trans hle le2) (by
    cases hx : h.get m with
    | none => rfl
    | some y => rw [hle.1 _ _ hx] at hm; cases hm) mv
   have hal3 := hal.le IntE.grow hle3.1
   have hn3 := hs3.1
   have han := hal3.1
   refine t_loop (fun mm vs h' => h₃ = h' ∧ ∃ j : Nat, vs = [.bool false, .int .i64 j] ∧ j ≤ n3 ∧ mm = n3 - j ∧ coversB all (leftAll (withP u pl) land day) = coversB (all.drop j) ((leftAll (withP u pl) land day).drop j)) ⟨rfl, 0, rfl, Nat.zero_le _, rfl, rfl⟩ ?_
   rintro Y2 mm vs _ hY2 ⟨rfl, j, rfl, hj, rfl, hc⟩
   refine gZ ?_
   have hfin : ∀ b, coversB all (leftAll (withP u pl) land day) = b → Value.bool b = .bool (enoughB u land day pl all) := by
    intro b hb
    unfold enoughB
    rw [decide_eq_true hck, hb]; rfl
   refine t_if (fun e6 => ?_) (fun e6 => ?_)
   ·obtain ⟨y, a1, hy, ha1, e7⟩ := hs3.at (i := j) (by omega)
    obtain ⟨z, a2, hz, ha2, e8⟩ := hal3.at (i := j) (by omega)
    unfold IntE at e7 e8
    rw [drop_of hy, drop_of hz, coversB] at hc
    refine gZ ?_
    have next : (!decide (z = 1) || decide (y = 1)) = true → Y2 [.bool false, .int .i64 (IntKind.wrap .i64 ((j : Int) + 1))] h₃ := by
     intro hh
     rw [hh, Bool.true_and] at hc
     refine hY2 (n3 - (j + 1)) _ _ (by omega) ⟨rfl, j + 1, ?_, by omega, rfl, hc⟩
     rw [wrap_id (by omega) (by omega)]; rfl
    refine t_cond (fun b1 => ?_) (fun b1 => ?_)
    ·have b1' : z = 1 := by simpa using b1
     refine t_cond (fun b2 => ?_) (fun b2 => ?_)
     ·have b2' : y ≠ 1 := by simpa using b2
      refine gZ ?_
      refine t_ret ⟨hle3, hfin false ?_⟩
      rw [hc]; simp [b1', b2']
     ·have b2' : y = 1 := by simpa using b2
      exact t_again (next (by simp [b2']))
    ·have b1' : z ≠ 1 := by simpa using b1
     exact t_again (next (by simp [b1']))
   ·refine gZ ?_
    refine t_ret ⟨hle3, hfin true ?_⟩
    rw [hc, List.drop_eq_nil_of_le (show (leftAll (withP u pl) land day).length ≤ j by omega)]
    cases all.drop j <;> rfl
theorem c69 {h : LH} {f : FileC} {u : UseFile} (hu5 : f.n5 = u.papers.length) (hub : (u.papers.length : Int) < 4611686018427387904) {z : Addr} {p : Option Addr} {n c : Nat} {l : List Int} (hz : h.get.cell? z = some (.slice p n c)) (hl : Sl IntE 1 h.get p n l) : Gr Tryz.prog 124 #[fileV f u, .pointer (some z)] h fun r _ => r = .int .i64 (risesF l u.papers.length) := by
 refine w69 _ _ _ _ _ _ _ _ _ _ _ _ _ _ X0_ok ?_
 unfold n69
 refine gL1 hz ?_
 rw [hu5]
 refine t_gr (c70 hl (by unfold IsI; omega)) ?_
 rintro _ h' hle rfl
 refine gZ ?_
 exact t_ret ⟨hle, rfl⟩
theorem rises_in {l : List Int} {b : Int} (h : risesF l b = 0) : ∀ v ∈ l, 0 ≤ v ∧ v < b := by
 intro v hv
 obtain ⟨i, hi, rfl⟩ := List.getElem_of_mem hv
 have := rises_len h i hi
 omega
def enoughQ (u : UseFile) (land day : Int) (papers : List Int) : List Int := [landQ u land, dayQ day, risesF papers u.papers.length]
def enoughR (u : UseFile) (land day : Int) (papers : List Int) : Value :=
 if openF u (enoughQ u land day papers) ≠ 0 then .tuple #[.bool false, .int .i64 (openF u (enoughQ u land day papers))] else .tuple #[.bool (enoughB u land day papers (leftAll u land day)), .int .i64 0]
theorem c31 {h : LH} {f : FileC} {u : UseFile} (hp : Parts h.get) (hu : FileR h.get f u) (land day : Int) {pp : Option Addr} {pn pc : Nat} {pl : List Int} (hpl : Sl IntE 1 h.get pp pn pl) : Gr Tryz.prog 59 #[fileV f u, .int .i64 land, .int .i64 day, .slice pp pn pc] h fun r _ => r = enoughR u land day pl := by
 refine w31 _ _ _ _ _ _ _ _ _ _ _ _ _ _ _ _ _ _ X0_ok ?_
 unfold n31
 refine t_new fun r hr => ?_
 have le0 : h.le _ := LH.upd_le (x := (true, .cells #[.slice pp pn pc] 30 (0, 0))) hr
 have z0 : Cells.cell? (h.get.upd r (true, .cells #[.slice pp pn pc] 30 (0, 0))) ⟨r, 0, none⟩ = some (.slice pp pn pc) := cell_upd rfl
 refine t_gr (c58 u land) ?_
 rintro v0 h₁ le1 ⟨q0, a0⟩
 refine gZ ?_
 refine t_gr (c54 u day) ?_
 rintro v1 h₂ le2 ⟨q1, a1⟩
 refine gZ ?_
 have le02 := LH.le_trans (LH.le_trans le0 le1) le2
 have hub := hu.papers.2.1
 have z2 := Cells.cell?_le (LH.le_trans le1 le2).1 z0
 have a2 : Asks (.func (.func 124) #[] #[.pointer (some ⟨r, 0, none⟩)]) h₂ u (risesF pl u.papers.length) := by
  intro _ f' h' hle hu'
  exact cv_fw X0_ok (by rfl) (c69 hu'.papers.1 (by omega) (Cells.cell?_le hle.1 z2) (hpl.le IntE.grow (LH.le_trans le02 hle).1))
 refine asks3 q0 (a0.le le2) q1 a1 ⟨_, _, _, rfl⟩ a2 fun r' h₄ le4 hs => ?_
 refine gZ ?_
 have le14 := LH.le_trans le02 le4
 refine t_call (c53 (f := f) (hp.le le14.1) (hu.le le14.1) hs) ?_
 rintro v h₅ ⟨le5, ⟨hne, rfl⟩ | ⟨h0, d, m, rfl, hd, hm, k⟩⟩
 ·refine gZ ?_
  refine t_cond (fun _ => ?_) (fun e => absurd (by simpa using e) hne)
  refine t_ret ⟨LH.le_trans le14 le5, ?_⟩
  show _ = enoughR u land day pl
  rw [enoughR, if_pos (show openF u (enoughQ u land day pl) ≠ 0 from hne)]; rfl
 ·refine gZ ?_
  refine t_cond (fun e => by cases e) (fun _ => ?_)
  have le25 := LH.le_trans le4 le5
  have z5 := Cells.cell?_le le25.1 z2
  refine gL1 z5 ?_
  have hck := (open_num h0).2
  refine t_de (c63 k hck land day) ?_
  rintro _ h₆ mv k6 ⟨p, n, c, rfl, g⟩
  refine gZ ?_
  have z6 := mv.rd k.isMap _ _ z5
  refine gL1 z6 ?_
  refine gZ ?_
  have hm0 : h.get m = none := by
   cases hx : h.get m with
   | none => rfl
   | some x => rw [le14.1 _ _ hx] at hm; cases hm
  have le6 := Mv.le_of (LH.le_trans le14 le5) hm0 mv
  have hrise : risesF pl u.papers.length = 0 := open_zero h0 _ (by simp)
  have hpap := (check_papers hck).1
  have hpl8 := rises_len' hrise (by omega)
  have hitn := (num_ok (open_num h0).1).1
  have hll : (leftAll u land day).length = u.items.toNat := by unfold leftAll; rw [List.length_map, List.length_range]
  refine t_gr (c71 (hp.le le6.1) (hu.le le6.1) land day (hpl.le IntE.grow le6.1) (rises_in hrise) (by omega) (g.sl IntEnc.len (by omega) IntEnc.e (by omega)) hll) ?_
  rintro _ h₇ le7 rfl
  refine gZ ?_
  refine t_ret ⟨LH.le_trans le6 le7, ?_⟩
  show _ = enoughR u land day pl
  rw [enoughR, if_neg (by unfold enoughQ; simpa using h0)]
def cmpI (x y : Int) : Int := if x < y then -1 else if x > y then 1 else 0
def cmpL : List Int → List Int → Int
 | [], [] => 0
 | [], _ :: _ => -1
 | _ :: _, [] => 1
 | x :: xs, y :: ys => if cmpI x y ≠ 0 then cmpI x y else cmpL xs ys
def fewerF (a b : List Int) : Int := if a.length ≠ b.length then (a.length : Int) - b.length else cmpL a b
theorem c109 {h : LH} (x : Int) : Pu Tryz.prog 254 #[.int .i64 x] h (.bool false) := by
 refine w109 _ X0_ok ?_
 unfold n109
 refine t_ret ⟨?_, rfl⟩
 simp
theorem c105 {h : LH} (x y : Int) : Pu Tryz.prog 214 #[.int .i64 x, .int .i64 y] h (.int .i64 (cmpI x y)) := by
 refine w105 _ _ X0_ok ?_
 unfold n105
 refine t_pu (c109 _) ?_
 refine gZ ?_
 refine t_pu (c109 _) ?_
 refine gZ ?_
 refine t_cond (fun e => by cases e) (fun _ => ?_)
 refine t_cond (fun e => by cases e) (fun _ => ?_)
 refine t_if (fun e => ?_) (fun e => ?_)
 ·refine t_ret ⟨?_, rfl⟩; rw [cmpI, if_pos e]
 ·refine t_if (fun e' => ?_) (fun e' => ?_) <;> refine t_ret ⟨?_, rfl⟩ <;> simp [cmpI, e, e']
theorem c97 {h : LH} {p q : Option Addr} {n c m d : Nat} {a b : List Int} (ha : Sl IntE 1 h.get p n a) (hb : Sl IntE 1 h.get q m b) : Pu Tryz.prog 166 #[.slice p n c, .slice q m d] h (.int .i64 (cmpL a b)) := by
 refine w97 _ _ _ _ _ _ X0_ok ?_
 unfold n97
 have hn := ha.1
 have hm := hb.1
 have hbn := ha.2.1
 have hbm := hb.2.1
 refine t_loop (fun mm vs h' => h = h' ∧ ∃ i : Nat, vs = [.int .i64 0, .int .i64 i] ∧ i ≤ n ∧ i ≤ m ∧ mm = n - i ∧ cmpL a b = cmpL (a.drop i) (b.drop i)) ⟨rfl, 0, rfl, Nat.zero_le _, Nat.zero_le _, rfl, rfl⟩ ?_
 rintro Y mm vs _ hY ⟨rfl, i, rfl, hi, hi', rfl, hc⟩
 refine gZ ?_
 refine t_if (fun e1 => ?_) (fun e1 => ?_)
 ·obtain ⟨x, a1, hx, ha1, e2⟩ := ha.at (i := i) (by omega)
  unfold IntE at e2
  rw [drop_of hx] at hc
  refine gZ ?_
  refine t_if (fun e3 => ?_) (fun e3 => ?_)
  ·refine gZ ?_
   rw [List.drop_eq_nil_of_le (show b.length ≤ i by omega), cmpL] at hc
   exact t_ret ⟨by rw [hc], rfl⟩
  ·obtain ⟨y, b1, hy, hb1, e4⟩ := hb.at (i := i) (by omega)
   unfold IntE at e4
   rw [drop_of hy, cmpL] at hc
   refine gZ ?_
   refine t_pu (c105 _ _) ?_
   refine gZ ?_
   refine t_cond (fun e5 => ?_) (fun e5 => ?_)
   ·refine gZ ?_
    rw [if_pos (by simpa using e5)] at hc
    exact t_ret ⟨by rw [hc], rfl⟩
   ·rw [if_neg (by simpa using e5)] at hc
    refine t_again (hY (n - (i + 1)) _ _ (by omega) ⟨rfl, i + 1, ?_, by omega, by omega, rfl, hc⟩)
    rw [wrap_id (by omega) (by omega)]; rfl
 ·refine gZ ?_
  rw [List.drop_eq_nil_of_le (show a.length ≤ i by omega)] at hc
  refine t_if (fun e3 => ?_) (fun e3 => ?_)
  ·obtain ⟨y, hy⟩ : ∃ y, b[i]? = some y := ⟨b[i]'(by omega), List.getElem?_eq_getElem (by omega)⟩
   rw [drop_of hy, cmpL] at hc
   exact t_ret ⟨by rw [hc], rfl⟩
  ·rw [List.drop_eq_nil_of_le (show b.length ≤ i by omega), cmpL] at hc
   exact t_ret ⟨by rw [hc], rfl⟩
theorem c75 {h : LH} {p q : Option Addr} {n c m d : Nat} {a b : List Int} (ha : Sl IntE 1 h.get p n a) (hb : Sl IntE 1 h.get q m b) : Pu Tryz.prog 123 #[.slice p n c, .slice q m d] h (.int .i64 (fewerF a b)) := by
 refine w75 _ _ _ _ _ _ X0_ok ?_
 unfold n75
 have hn := ha.1
 have hm := hb.1
 have hbn := ha.2.1
 have hbm := hb.2.1
 refine t_cond (fun e => ?_) (fun e => ?_)
 ·have e' : a.length ≠ b.length := by simp at e; omega
  rw [wrap_id (by omega) (by omega)]
  refine t_ret ⟨?_, rfl⟩
  rw [fewerF, if_pos e', hn, hm]
 ·have e' : ¬ a.length ≠ b.length := by simp at e; omega
  refine t_pu (c97 ha hb) ?_
  refine gZ ?_
  refine t_ret ⟨?_, rfl⟩
  rw [fewerF, if_neg e']
end Go.Proofs.YtldamlcehbdkdaaGreatDoor
end
section
namespace Go.Proofs.YtldamlcehbdkdaaGreatDoor
open Go Go.TM Go.Proofs
attribute [local irreducible] T.wp CV FWK
def Sent (u : UseFile) (land day : Int) (i : Nat) (v : Value) (hv : Cells) : Prop :=
 if enoughB u land day (subsetL u.papers.length i) (leftAll u land day) then ∃ a n c, v = .slice (some a) n c ∧ Sl IntE 1 hv (some a) n (subsetL u.papers.length i) ∧ n ≤ c else v = .slice none 0 0
theorem subset_in {n i : Nat} : ∀ v ∈ subsetL n i, 0 ≤ v ∧ v < (n : Int) := by
 intro v hv
 unfold subsetL at hv
 obtain ⟨j, hj, rfl⟩ := List.mem_map.1 hv
 have := List.mem_range.1 (List.mem_filter.1 hj).1
 omega
theorem subset_len {n i : Nat} : (subsetL n i).length ≤ n := by
 unfold subsetL
 rw [List.length_map]
 exact Nat.le_trans (List.length_filter_le _ _) (by simp)
theorem bit_test {i j : Nat} (hi : i < 2 ^ 32) : (IntKind.wrap .i64 (((BitVec.ofInt 64 (Int.fdiv (i : Int) (2 ^ min (j : Int).toNat 64)) &&& BitVec.ofInt 64 1).toNat : Nat) : Int) == 1) = i.testBit j := by
 have hq : ∃ q : Nat, Int.fdiv (i : Int) (2 ^ min (j : Int).toNat 64) = (q : Int) ∧ q ≤ i ∧ q % 2 = (i / 2 ^ j) % 2 := by
  by_cases hj : j ≤ 64
  ·have hm : min (j : Int).toNat 64 = j := by simp; omega
   refine ⟨i / 2 ^ j, ?_, Nat.div_le_self _ _, rfl⟩
   rw [hm]
   have : (2 ^ j : Int) = ((2 ^ j : Nat) : Int) := by simp
   rw [this, ← Int.ofNat_fdiv]
  ·have hm : min (j : Int).toNat 64 = 64 := by simp; omega
   refine ⟨0, ?_, Nat.zero_le _, ?_⟩
   ·rw [hm]
    have : (2 ^ 64 : Int) = ((2 ^ 64 : Nat) : Int) := by simp
    rw [this, ← Int.ofNat_fdiv]
    have : i / 2 ^ 64 = 0 := Nat.div_eq_of_lt (by omega)
    rw [this]
   ·have : i / 2 ^ j = 0 := Nat.div_eq_of_lt (Nat.lt_of_lt_of_le hi (Nat.pow_le_pow_right (by omega) (by omega)))
    rw [this]
 obtain ⟨q, h1, h2, h3⟩ := hq
 rw [h1]
 have a1 : (BitVec.ofInt 64 (q : Int)).toNat = q := by rw [BitVec.toNat_ofInt]; omega
 have a2 : (BitVec.ofInt 64 1).toNat = 1 := rfl
 rw [BitVec.toNat_and, a1, a2, Nat.and_one_is_mod, wrap_id (by omega) (by omega), Nat.testBit_eq_decide_div_mod_eq, ← h3]
 by_cases e : q % 2 = 1
 ·rw [e]; rfl
 ·have : q % 2 = 0 := by omega
  rw [this]; rfl
theorem subset_take {n i j : Nat} (hj : j < n) : ((List.range n).take (j + 1)).filter (fun j => i.testBit j) = ((List.range n).take j).filter (fun j => i.testBit j) ++ (if i.testBit j then [j] else []) := by
 rw [List.take_succ_eq_append_getElem (by simpa using hj), List.filter_append]
 congr 1
 simp [List.filter_cons]
theorem c74 {hc : Cells} {c0 i : Nat} {z0 z1 z2 z3 z4 z5 : Addr} {f : FileC} {u : UseFile} {land day : Int} (hp : Parts hc) (hu : FileR hc f u) (hat : FileAt hc z0 f u) (hpap : u.papers.length ≤ 8) (hi : i < 2 ^ 32) (h1 : hc.cell? z1 = some (.int .i64 (i : Int))) (h2 : hc.cell? z2 = some (.int .i64 land)) (h3 : hc.cell? z3 = some (.int .i64 day))
  {ap : Option Addr} {an ac : Nat} (h4 : hc.cell? z4 = some (.slice ap an ac)) (hal : Sl IntE 1 hc ap an (leftAll u land day)) (h5 : hc.cell? z5 = some (.chan (some c0))) :
  FWK XW Tryz.prog .deferred 121 #[.pointer (some z0), .pointer (some z1), .pointer (some z2), .pointer (some z3), .pointer (some z4), .pointer (some z5)] ⟨hc, [], [], [(c0, Sent u land day i)]⟩ fun _ _ => False := by
 refine w74 _ _ _ _ _ _ XW_ok ?_
 unfold n74
 have hn5 := hu.papers.1
 refine t_build0 und50 inf3 fun b0 hb0 => ?_
 have le0 : LH.le ⟨hc, [], [], [(c0, Sent u land day i)]⟩ _ := LH.upd_le (x := (true, .cells #[] 3 (0, 0))) hb0
 refine gZ ?_
 have g5 := Cells.cell?_le le0.1 hat.f5
 refine gL1 g5 ?_
 refine t_loop (fun mm vs h' => LH.le ⟨hc, [], [], [(c0, Sent u land day i)]⟩ h' ∧ ∃ (j : Nat) (a : Addr) (n c : Nat), vs = [.slice (some a) n c, .int .i64 j] ∧ j ≤ f.n5 ∧ mm = f.n5 - j ∧ Growing IntEnc 3 1 hc h'.get (some a) n c (((List.range u.papers.length).take j).filter (fun j => i.testBit j) |>.map fun j : Nat => (j : Int)))
  ⟨le0, 0, _, 0, 0, rfl, Nat.zero_le _, rfl, ⟨[], ⟨rfl, .inr ⟨b0, #[], rfl, Cells.upd_self _ _ _, rfl, Nat.le_refl _, fun j v hv => by simp at hv⟩⟩, .nil⟩, fun a ha => by cases ha; exact hb0⟩ ?_
 rintro Y mm vs h₁ hY ⟨hle, j, a, n, c, rfl, hj, rfl, g⟩
 refine gZ ?_
 refine t_if (fun e1 => ?_) (fun e1 => ?_)
 ·have k1 := Cells.cell?_le hle.1 h1
  refine gL0 k1 ?_
  refine gZ ?_
  rw [bit_test hi]
  have hst := subset_take (n := u.papers.length) (i := i) (j := j) (by omega)
  refine t_cond (fun b => ?_) (fun b => ?_)
  ·rw [if_pos b] at hst
   refine t_build und50 inf3 (by decide) (by decide) (cells := #[.int .i64 (j : Int)]) (by kernel_rfl) fun r hr => ?_
   have le2 : h₁.le _ := LH.upd_le (x := (true, .cells #[.int .i64 (j : Int)] 3 (0, 0))) hr
   have hng := g.count IntEnc.len (by omega)
   have hlen : (((List.range u.papers.length).take j).filter (fun j => i.testBit j)).length ≤ 8 := Nat.le_trans (List.length_filter_le _ _) (by rw [List.length_take, List.length_range]; omega)
   rw [List.length_map] at hng
   refine gZ ?_
   refine t_grow (h₀ := ⟨hc, [], [], [(c0, Sent u land day i)]⟩) (x := (j : Int)) (ws := [.int .i64 (j : Int)]) rfl rfl und50 und50 inf3 rfl (by omega) (by omega) (g.le le2.1) (LH.le_trans hle le2) rfl rfl ?_ ?_ ?_
   ·intro j w hj
    rw [add_plain, Nat.zero_add]
    exact cell_upd (by simpa using hj)
   ·intro w hw; simp at hw; subst hw; rfl
   ·intro p' c' h₂ hle2 _ g2
    refine gZ ?_
    obtain ⟨a', rfl⟩ : ∃ a', p' = some a' := by
     obtain ⟨vs, ⟨_, h6⟩, _⟩ := g2.row
     rcases h6 with ⟨_, h7, _⟩ | ⟨r, cs, h7, _⟩
     ·omega
     ·exact ⟨_, h7⟩
    refine t_again (hY (f.n5 - (j + 1)) _ _ (by omega) ⟨hle2, j + 1, a', n + 1, c', ?_, by omega, rfl, by rw [hst, List.map_append]; exact g2⟩)
    rw [wrap_id (by omega) (by omega)]; rfl
  ·rw [if_neg (by rw [b]; simp), List.append_nil] at hst
   refine t_again (hY (f.n5 - (j + 1)) _ _ (by omega) ⟨hle, j + 1, a, n, c, ?_, by omega, rfl, by rw [hst]; exact g⟩)
   rw [wrap_id (by omega) (by omega)]; rfl
 ·refine gZ ?_
  have htake : (((List.range u.papers.length).take j).filter (fun j => i.testBit j) |>.map fun j : Nat => (j : Int)) = subsetL u.papers.length i := by
   rw [List.take_of_length_le (by simp; omega)]; rfl
  rw [htake] at g
  obtain ⟨g0, g1, g2, g3, g4, g5, g6⟩ := hat.le hle.1
  have k2 := Cells.cell?_le hle.1 h2
  have k3 := Cells.cell?_le hle.1 h3
  have k4 := Cells.cell?_le hle.1 h4
  have k5 := Cells.cell?_le hle.1 h5
  refine gZ ?_
  have hsub := subset_len (n := u.papers.length) (i := i)
  have hll : (leftAll u land day).length = u.items.toNat := by unfold leftAll; rw [List.length_map, List.length_range]
  refine t_gr (c71 (hp.le hle.1) (hu.le hle.1) land day (g.sl IntEnc.len (by omega) IntEnc.e (by omega)) subset_in (by omega) (hal.le IntE.grow hle.1) hll) ?_
  rintro _ h₂ le2 rfl
  have k5 := Cells.cell?_le le2.1 k5
  refine gZ ?_
  have hle2 := LH.le_trans hle le2
  refine t_cond (fun b => ?_) (fun b => ?_)
  ·refine t_loadC k5 ?_
   refine t_comm ?_
   refine commW_send (z := .tuple #[]) (φ := Sent u land day i) (s := []) (hv := fun _ => none) (hr := h₂.get) hle2.2.2.2 ?_ (fun r => .inl rfl) (fun r x hx => by cases hx) ?_ (fun _ => rfl) (fun h => absurd rfl h)
   ·funext r; rfl
   ·have b' : enoughB u land day (subsetL u.papers.length i) (leftAll u land day) = false := by simpa using b
    unfold Sent; rw [if_neg (by rw [b']; simp)]
  ·refine t_loadC k5 ?_
   refine t_comm ?_
   have g7 := g.le le2.1
   obtain ⟨vs, ⟨o1, o2⟩, rows⟩ := g7.row
   rcases o2 with ⟨o3, _⟩ | ⟨r, cs, o3, o4, o5, o6, o7⟩
   ·cases o3
   ·cases o3
    refine commW_send (z := .tuple #[]) (φ := Sent u land day i) (s := []) (hv := fun b => if b = r then h₂.get b else none) (hr := fun b => if b = r then none else h₂.get b) hle2.2.2.2 ?_ (fun b => ?_) (fun b x hx => ?_) ?_ (fun _ => rfl) (fun h => absurd rfl h)
    ·funext b
     unfold Cells.add
     by_cases e : b = r
     ·subst e; simp [o4]
     ·simp [e]
    ·by_cases e : b = r
     ·right; simp [e]
     ·left; simp [e]
    ·have hx' : (if b = r then h₂.get b else none) = some x := hx
     split at hx'
     ·rename_i e; subst e; rw [o4] at hx'; cases hx'; rfl
     ·cases hx'
    ·have b' : enoughB u land day (subsetL u.papers.length i) (leftAll u land day) = true := by simpa using b
     unfold Sent; rw [if_pos b']
     refine ⟨_, _, _, rfl, ?_, o6⟩
     refine rows.sl IntEnc.len (by omega) IntEnc.e (el := 3) ⟨o1, .inr ⟨r, cs, rfl, ?_, o5, o6, o7⟩⟩ (by omega)
     show (if r = r then h₂.get r else none) = _
     rw [if_pos rfl]; exact o4
end Go.Proofs.YtldamlcehbdkdaaGreatDoor
end
section
namespace Go.TM
open Go Go.Conc
variable {P : Program}
theorem t_newSt {X : XP} {Q : Leaf → LH → Prop} {h : LH} {e : TypeId} {v₀ v : Value} {k : Nat → T} (h1 : isOne v = true) (hk : ∀ r, h.get r = none → (k r).wp X P Q { h with get := h.get.upd r (true, .cells #[v] e (0, 0)) }) :
  (T.new e #[v₀] fun r => T.store (Addr.add ⟨r, 0, none⟩ 0) v (k r)).wp X P Q h := by
 refine t_new fun r hr => ?_
 have own1 : (h.get.upd r (true, .cells #[v₀] e (0, 0))) r = some (true, .cells #[v₀] e (0, 0)) := Cells.upd_self _ _ _
 refine t_store h1 ⟨_, own1⟩ (v₀ := v₀) (by show Cells.cell? _ _ = _; exact cell_upd rfl) (Go.Proofs.YtldamlcehbdkdaaGreatDoor.frozen_plain (i := 0) own1) ?_
 have hset : (h.get.upd r (true, .cells #[v₀] e (0, 0))).setCell (Addr.add ⟨r, 0, none⟩ 0) v = h.get.upd r (true, .cells #[v] e (0, 0)) := by
  show Cells.setCell _ ⟨r, 0, none⟩ v = _
  rw [Go.Proofs.YtldamlcehbdkdaaGreatDoor.setCell_upd own1]
  funext b; unfold Cells.upd; by_cases e : b = r <;> simp [e]
 simp only [hset]
 exact hk r hr
theorem cell_freeze (F : Nat → Bool) (h : Cells) (a : Addr) : (freezeC F h).cell? a = h.cell? a := by
 unfold Cells.cell? freezeC
 cases h a.block with
 | none => rfl
 | some x => obtain ⟨m, o⟩ := x; cases o <;> rfl
theorem rd_freeze (F : Nat → Bool) (h : Cells) : Rd h (freezeC F h) := fun a v hc => by rw [cell_freeze]; exact hc
theorem rd_drop {h : Cells} {c s : Nat} (hs : h c = some (true, .chan 0 #[] false s s false)) : Rd h (dropC h c) := by
 intro a v hc
 unfold Cells.cell? dropC at *
 by_cases e : a.block = c
 ·rw [e, hs] at hc; cases hc
 ·rw [if_neg e]; exact hc
def Hand (c0 : Nat) (h : LH) : Prop := (h.chans = [] ∧ ∃ s, h.get c0 = some (true, .chan 0 #[] false s s false)) ∨ h.chans = [c0]
theorem spawnW_all {f : FuncId} {cap : Array Value} {h : LH} {Q : LH → Prop} (c0 : Nat) {φ : Value → Cells → Prop} (hst : Hand c0 h) (c : ∀ hc, Rd h.get hc → FWK XW P .deferred f cap ⟨hc, [], [], [(c0, φ)]⟩ fun _ _ => False)
  (hQ : ∀ h', Rd h.get h'.get → h'.chans = [c0] → h'.todo = h.todo → h'.pend = h.pend ++ [[(c0, φ)]] → Q h') : SpawnW XT P (.func (.func f) #[] cap) #[] h Q := by
 have key : ∀ h1 : LH, Rd h.get h1.get → h1.chans = [c0] → h1.todo = h.todo → h1.pend = h.pend → SpawnW XT P (.func (.func f) #[] cap) #[] h1 Q := by
  intro h1 r1 c1 t1 p1
  refine spawnW (fun _ => true) (freezeC (fun _ => true) h1.get) [(c0, φ)] (by simp) (hargs := cap) (by simp) ?_ ?_ (c _ (r1.trans (rd_freeze _ _))) ?_
  ·intro r x hx
   refine ⟨?_, hx⟩
   unfold freezeC at hx
   cases hy : h1.get r with
   | none => rw [hy] at hx; cases hx
   | some y => rw [hy] at hx; simp at hx; rw [← hx]
  ·intro y hy
   simp at hy; subst hy; rw [c1]; simp
  ·exact hQ _ (r1.trans (rd_freeze _ _)) c1 t1 (by show h1.pend ++ _ = _; rw [p1])
 rcases hst with ⟨h1, s, h2⟩ | h1
 ·refine SpawnW.opened c0 s h2 (key _ (rd_drop h2) ?_ rfl rfl)
  show c0 :: h.chans = _
  rw [h1]
 ·exact key h (Rd.refl _) h1 rfl rfl
theorem commW_gather {last : Bool} {shape : CommShape} {c0 : Nat} {z : Value} {φ : Nat → Value → Cells → Prop} {rem : List Nat} {h : LH} {Q : Value → LH → Prop} (hp : h.pend = rem.map fun i => [(c0, φ i)]) (hc : h.chans = [c0]) (hne : rem ≠ [])
  (hQ : ∀ i rest v h₂, i ∈ rem → (∀ j, j ∈ rem → j = i ∨ j ∈ rest) → (∀ j, j ∈ rest → j ∈ rem) → rest.length + 1 = rem.length → h₂.todo = h.todo → h₂.pend = rest.map (fun i => [(c0, φ i)]) → ((rest ≠ [] ∧ h₂.chans = [c0]) ∨ (rest = [] ∧ h₂.chans = [] ∧ ∃ s, h₂.get c0 = some (true, .chan 0 #[] false s s false))) →
   (∃ hv, φ i v hv ∧ hv.le h₂.get) → h.get.le h₂.get → Q (commResult #[rcase c0 z] shape 0 v true) h₂) : CommW XT P last #[rcase c0 z] shape h Q := by
 refine CommW.closed (commW_recv ?_ (by rw [hp]; simpa using hne) ?_ ?_)
 ·intro k cc hk
  cases k with
  | zero => simp at hk; subst hk; exact ⟨c0, z, rfl, by rw [hc]; simp⟩
  | succ k => simp at hk
 ·intro s hs
  rw [hp] at hs
  obtain ⟨i, hi, rfl⟩ := List.mem_map.1 hs
  exact ⟨c0, φ i, [], 0, z, rfl, rfl⟩
 ·intro pre ψ s post k c v hv z' hpe hcase hd hown hφ
  rw [hp] at hpe
  obtain ⟨l1, l2, rfl, hl1, hl2⟩ := List.map_eq_append_iff.1 hpe
  obtain ⟨i, l3, rfl, hi, hl3⟩ := List.map_eq_cons_iff.1 hl2
  cases hi
  have hk0 : k = 0 := by
   cases k with
   | zero => rfl
   | succ k => simp at hcase
  subst hk0
  have le1 : h.get.le (h.get.add hv) := Cells.le_add _ _
  have le2 : hv.le (h.get.add hv) := fun r x hr => Cells.add_right' hd hr
  have hpend : pre ++ cons' [] post = (l1 ++ l3).map fun i => [(c0, φ i)] := by
   show pre ++ post = _
   rw [← hl1, ← hl3, List.map_append]
  by_cases hn : l1 ++ l3 = []
  ·right
   refine ⟨c0, by show c0 ∈ h.chans; rw [hc]; simp, by show pre ++ cons' [] post = []; rw [hpend, hn]; rfl, fun s hs => ?_⟩
   refine hQ i (l1 ++ l3) v _ (by simp) (fun j hj => ?_) (fun j hj => ?_) (by simp; omega) rfl hpend (.inr ⟨hn, ?_, s, Cells.upd_self _ _ _⟩) ⟨hv, hφ, ?_⟩ ?_
   ·simp at hj ⊢; grind
   ·simp at hj ⊢; grind
   ·show h.chans.filter _ = []
    rw [hc]; simp
   ·exact Cells.le_trans le2 (Cells.le_upd _ hs)
   ·exact Cells.le_trans le1 (Cells.le_upd _ hs)
  ·left
   refine hQ i (l1 ++ l3) v _ (by simp) (fun j hj => ?_) (fun j hj => ?_) (by simp; omega) rfl hpend (.inl ⟨hn, hc⟩) ⟨hv, hφ, le2⟩ le1
   ·simp at hj ⊢; grind
   ·simp at hj ⊢; grind
end Go.TM
namespace Go.Proofs.YtldamlcehbdkdaaGreatDoor
open Go Go.TM Go.Proofs
attribute [local irreducible] T.wp CV FWK
theorem Parts.rd {h h' : Cells} (hl : Rd h h') (p : Parts h) : Parts h' := fun j hj => hl _ _ (p j hj)
/-! ### fewerF is an order -/
theorem cmpI_neg (x y : Int) : cmpI y x = - cmpI x y := by unfold cmpI; repeat' split <;> omega
theorem cmpL_neg : ∀ a b : List Int, cmpL b a = - cmpL a b := by
 intro a
 induction a with
 | nil => intro b; cases b <;> rfl
 | cons x a ih =>
  intro b
  cases b with
  | nil => rfl
  | cons y b =>
   simp only [cmpL]
   rw [cmpI_neg x y, ih b]
   by_cases e : cmpI x y = 0
   ·simp [e]
   ·rw [if_pos (by omega), if_pos e]
theorem cmpL_trans : ∀ a b c : List Int, cmpL a b ≤ 0 → cmpL b c ≤ 0 → cmpL a c ≤ 0 := by
 intro a
 induction a with
 | nil => intro b c _ _; cases c <;> simp [cmpL]
 | cons x a ih =>
  intro b c h1 h2
  cases b with
  | nil => simp [cmpL] at h1
  | cons y b =>
   cases c with
   | nil => simp [cmpL] at h2
   | cons z c =>
    simp only [cmpL] at h1 h2 ⊢
    have := ih b c
    unfold cmpI at h1 h2 ⊢
    by_cases a1 : x < y
    ·by_cases a2 : y < z
     ·rw [if_pos (by rw [if_pos (show x < z by omega)]; omega), if_pos (show x < z by omega)]; omega
     ·by_cases a3 : y = z
      ·subst a3; simp [a1]
      ·have : y > z := by omega
       simp [a2, this] at h2
    ·by_cases a4 : x = y
     ·subst a4
      simp at h1
      by_cases a2 : x < z
      ·simp [a2]
      ·by_cases a3 : x = z
       ·subst a3; simp at h2 ⊢; exact this h1 h2
       ·have : x > z := by omega
        simp [a2, this] at h2
     ·have : x > y := by omega
      simp [a1, this] at h1
theorem fewer_neg (a b : List Int) : fewerF b a = - fewerF a b := by
 unfold fewerF
 by_cases e : a.length = b.length
 ·rw [if_neg (by omega), if_neg (by omega), cmpL_neg a b]
 ·rw [if_pos (by omega), if_pos (by omega)]; omega
theorem fewer_trans {a b c : List Int} (h1 : fewerF a b ≤ 0) (h2 : fewerF b c ≤ 0) : fewerF a c ≤ 0 := by
 unfold fewerF at *
 by_cases e1 : a.length = b.length
 ·rw [if_neg (by omega)] at h1
  by_cases e2 : b.length = c.length
  ·rw [if_neg (by omega)] at h2
   rw [if_neg (by omega)]
   exact cmpL_trans a b c h1 h2
  ·rw [if_pos (by omega)] at h2
   rw [if_pos (by omega)]; omega
 ·rw [if_pos (by omega)] at h1
  by_cases e2 : b.length = c.length
  ·rw [if_pos (by omega)]; omega
  ·rw [if_pos (by omega)] at h2
   rw [if_pos (by omega)]; omega
theorem fewer_self (a : List Int) : fewerF a a ≤ 0 := by
 have := fewer_neg a a
 omega
def okF (u : UseFile) (land day : Int) (i : Nat) : Bool := enoughB u land day (subsetL u.papers.length i) (leftAll u land day)
def BestR (h : Cells) (u : UseFile) (land day : Int) (rem : List Nat) (p : Option Addr) (n : Nat) : Prop :=
 (p = none ∧ n = 0 ∧ ∀ j, j < 2 ^ u.papers.length → j ∉ rem → okF u land day j = false) ∨
 (∃ i a, p = some a ∧ i < 2 ^ u.papers.length ∧ okF u land day i = true ∧ Sl IntE 1 h (some a) n (subsetL u.papers.length i) ∧ ∀ j, j < 2 ^ u.papers.length → j ∉ rem → okF u land day j = true → fewerF (subsetL u.papers.length i) (subsetL u.papers.length j) ≤ 0)
def KeepR (h' : Cells) (u : UseFile) (land day : Int) (r : Value) : Prop :=
 (openF u [landQ u land, dayQ day] ≠ 0 ∧ r = .tuple #[.slice none 0 0, .int .i64 (openF u [landQ u land, dayQ day])]) ∨
 (openF u [landQ u land, dayQ day] = 0 ∧ ∃ p n c, r = .tuple #[.slice p n c, .int .i64 0] ∧ BestR h' u land day [] p n ∧ n ≤ c)
theorem BestR.skip {h h' : Cells} {u : UseFile} {land day : Int} {rem rest : List Nat} {p : Option Addr} {n i : Nat} (b : BestR h u land day rem p n) (hr : ∀ j, j ∈ rem → j = i ∨ j ∈ rest) (hi : okF u land day i = false) (hrd : Rd h h') : BestR h' u land day rest p n := by
 rcases b with ⟨h1, h2, h3⟩ | ⟨k, a, h1, h2, h3, h4, h5⟩
 ·refine .inl ⟨h1, h2, fun j hj hn => ?_⟩
  by_cases e : j = i
  ·rw [e]; exact hi
  ·exact h3 j hj fun hm => (hr j hm).elim e hn
 ·refine .inr ⟨k, a, h1, h2, h3, h4.rd IntE.grow hrd, fun j hj hn ho => ?_⟩
  by_cases e : j = i
  ·rw [e] at ho; exact absurd ho (by rw [hi]; simp)
  ·exact h5 j hj (fun hm => (hr j hm).elim e hn) ho
theorem BestR.take {h h' : Cells} {u : UseFile} {land day : Int} {rem rest : List Nat} {p : Option Addr} {n i n' : Nat} {a : Addr} (b : BestR h u land day rem p n) (hr : ∀ j, j ∈ rem → j = i ∨ j ∈ rest) (hi : okF u land day i = true) (hlt : i < 2 ^ u.papers.length) (hs : Sl IntE 1 h' (some a) n' (subsetL u.papers.length i))
  (hb : p = none ∨ ∀ k, okF u land day k = true → Sl IntE 1 h p n (subsetL u.papers.length k) → fewerF (subsetL u.papers.length i) (subsetL u.papers.length k) ≤ 0) : BestR h' u land day rest (some a) n' := by
 rcases b with ⟨h1, h2, h3⟩ | ⟨k, a', h1, h2, h3, h4, h5⟩
 ·refine .inr ⟨i, a, rfl, hlt, hi, hs, fun j hj hn ho => ?_⟩
  by_cases e : j = i
  ·rw [e]; exact fewer_self _
  ·have := h3 j hj fun hm => (hr j hm).elim e hn
   rw [this] at ho; cases ho
 ·have hle := hb.resolve_left (by rw [h1]; simp) k h3 (by rw [h1]; exact h4)
  refine .inr ⟨i, a, rfl, hlt, hi, hs, fun j hj hn ho => ?_⟩
  by_cases e : j = i
  ·rw [e]; exact fewer_self _
  ·exact fewer_trans hle (h5 j hj (fun hm => (hr j hm).elim e hn) ho)
theorem BestR.stay {h h' : Cells} {u : UseFile} {land day : Int} {rem rest : List Nat} {p : Option Addr} {n i : Nat} (b : BestR h u land day rem p n) (hr : ∀ j, j ∈ rem → j = i ∨ j ∈ rest) (hp : p ≠ none) (hrd : Rd h h')
  (hb : ∀ k, Sl IntE 1 h p n (subsetL u.papers.length k) → fewerF (subsetL u.papers.length k) (subsetL u.papers.length i) ≤ 0) : BestR h' u land day rest p n := by
 rcases b with ⟨h1, h2, h3⟩ | ⟨k, a', h1, h2, h3, h4, h5⟩
 ·exact absurd h1 hp
 ·refine .inr ⟨k, a', h1, h2, h3, h4.rd IntE.grow hrd, fun j hj hn ho => ?_⟩
  by_cases e : j = i
  ·rw [e]; exact hb k (by rw [h1]; exact h4)
  ·exact h5 j hj (fun hm => (hr j hm).elim e hn) ho
theorem Sl.same {h : Cells} {p : Option Addr} {n : Nat} {a b : List Int} (ha : Sl IntE 1 h p n a) (hb : Sl IntE 1 h p n b) : a = b := by
 refine List.ext_getElem (by rw [← ha.1, ← hb.1]) fun i h1 h2 => ?_
 obtain ⟨x, c, e1, e2, e3⟩ := ha.at (i := i) (by rw [ha.1]; exact h1)
 obtain ⟨y, d, e4, e5, e6⟩ := hb.at (i := i) (by rw [hb.1]; exact h2)
 rw [e2] at e5; cases e5
 unfold IntE at e3 e6
 rw [e3] at e6; cases e6
 rw [List.getElem?_eq_getElem h1] at e1
 rw [List.getElem?_eq_getElem h2] at e4
 exact (Option.some.inj e1).trans (Option.some.inj e4).symm
theorem sets_wrap {n : Nat} (hn : n ≤ 8) : IntKind.wrap .i64 (1 * 2 ^ min (Int.toNat (n : Int)) 64) = ((2 ^ n : Nat) : Int) := by
 have e : min (Int.toNat (n : Int)) 64 = n := by simp; omega
 have h2 : (2 : Nat) ^ n ≤ 2 ^ 8 := Nat.pow_le_pow_right (by omega) hn
 have e2 : (1 : Int) * 2 ^ n = ((2 ^ n : Nat) : Int) := by simp
 rw [e, e2]
 generalize 2 ^ n = m at h2
 rw [wrap_id (by omega) (by omega)]
set_option maxRecDepth 100000 in
theorem c33 {h : LH} (hch : h.chans = []) (hpe : h.pend = []) {f : FileC} {u : UseFile} (hp : Parts h.get) (hu : FileR h.get f u) (land day : Int) :
  FW XT Tryz.prog 58 #[fileV f u, .int .i64 land, .int .i64 day] h fun r h' => Rd h.get h'.get ∧ h'.chans = [] ∧ h'.pend = [] ∧ h'.todo = h.todo ∧ KeepR h'.get u land day r := by
 refine w33 _ _ _ _ _ _ _ _ _ _ _ _ _ _ _ XT_ok ?_
 unfold n33
 refine t_new fun r hr => ?_
 have le0 : h.le _ := LH.upd_le (x := (true, .cells #[.int .i64 u.items, .int .i64 u.lands, .int .i64 u.from_, .int .i64 u.idle, .slice f.p4 f.n4 f.c4, .slice f.p5 f.n5 f.c5, .slice f.p6 f.n6 f.c6] 26 (0, 0))) hr
 have hat : FileAt (h.get.upd r (true, .cells #[.int .i64 u.items, .int .i64 u.lands, .int .i64 u.from_, .int .i64 u.idle, .slice f.p4 f.n4 f.c4, .slice f.p5 f.n5 f.c5, .slice f.p6 f.n6 f.c6] 26 (0, 0))) ⟨r, 0, none⟩ f u :=
  ⟨cell_upd rfl, cell_upd rfl, cell_upd rfl, cell_upd rfl, cell_upd rfl, cell_upd rfl, cell_upd rfl⟩
 generalize hh0 : ({ h with get := h.get.upd r (true, .cells #[.int .i64 u.items, .int .i64 u.lands, .int .i64 u.from_, .int .i64 u.idle, .slice f.p4 f.n4 f.c4, .slice f.p5 f.n5 f.c5, .slice f.p6 f.n6 f.c6] 26 (0, 0)) } : LH) = h0 at le0 ⊢
 have hat : FileAt h0.get ⟨r, 0, none⟩ f u := by rw [← hh0]; exact hat
 refine t_new fun r1 hr1 => ?_
 have le1 : h0.le _ := LH.upd_le (x := (true, .cells #[.int .i64 land] 3 (0, 0))) hr1
 have z1 : Cells.cell? (h0.get.upd r1 (true, .cells #[.int .i64 land] 3 (0, 0))) ⟨r1, 0, none⟩ = some (.int .i64 land) := cell_upd rfl
 refine t_new fun r2 hr2 => ?_
 have le2 := LH.upd_le (h := { h0 with get := h0.get.upd r1 (true, .cells #[.int .i64 land] 3 (0, 0)) }) (x := (true, .cells #[.int .i64 day] 3 (0, 0))) hr2
 have z2 : Cells.cell? ((h0.get.upd r1 (true, .cells #[.int .i64 land] 3 (0, 0))).upd r2 (true, .cells #[.int .i64 day] 3 (0, 0))) ⟨r2, 0, none⟩ = some (.int .i64 day) := cell_upd rfl
 have z1 := Cells.cell?_le le2.1 z1
 have hat := hat.le (LH.le_trans le1 le2).1
 obtain ⟨g0, g1, g2, g3, g4, g5, g6⟩ := id hat
 have le02 := LH.le_trans le0 (LH.le_trans le1 le2)
 refine gZ ?_
 refine t_gr (c58 u land) ?_
 rintro v0 h₁ le3 ⟨q0, a0⟩
 have z1 := Cells.cell?_le le3.1 z1
 have z2 := Cells.cell?_le le3.1 z2
 have hat := hat.le le3.1
 obtain ⟨g0, g1, g2, g3, g4, g5, g6⟩ := id hat
 refine gZ ?_
 refine t_gr (c54 u day) ?_
 rintro v1 h₂ le4 ⟨q1, a1⟩
 have z1 := Cells.cell?_le le4.1 z1
 have z2 := Cells.cell?_le le4.1 z2
 have hat := hat.le le4.1
 obtain ⟨g0, g1, g2, g3, g4, g5, g6⟩ := id hat
 refine gZ ?_
 refine asks2 q0 (a0.le le4) q1 a1 fun r' h₃ le5 hs => ?_
 have z1 := Cells.cell?_le le5.1 z1
 have z2 := Cells.cell?_le le5.1 z2
 have hat := hat.le le5.1
 obtain ⟨g0, g1, g2, g3, g4, g5, g6⟩ := id hat
 refine gZ ?_
 have le03 := LH.le_trans le02 (LH.le_trans (LH.le_trans le3 le4) le5)
 refine t_call (FW.top (c53 (f := f) (hp.le le03.1) (hu.le le03.1) hs)) ?_
 rintro v h₄ ⟨le6, ⟨hne, rfl⟩ | ⟨ho, d, m, rfl, hd, hm, k⟩⟩
 ·refine gZ ?_
  have le04 := LH.le_trans le03 le6
  refine t_cond (fun _ => ?_) (fun e => absurd (by simpa using e) hne)
  exact t_ret ⟨Rd.of_le le04.1, by rw [le04.2.1, hch], by rw [le04.2.2.1, hpe], le04.2.2.2, .inl ⟨hne, rfl⟩⟩
 refine gZ ?_
 refine t_cond (fun e => by cases e) (fun _ => ?_)
 have hck := (open_num ho).2
 have z1' := Cells.cell?_le le6.1 z1
 have z2' := Cells.cell?_le le6.1 z2
 refine gZ ?_
 refine t_de (c63 k hck land day) ?_
 rintro _ h₅ mv k5 ⟨p0, n0, c0, rfl, gl⟩
 have le35 := Mv.le_of le6 hm mv
 have le05 := LH.le_trans le03 le35
 have hitn := (num_ok (open_num ho).1).1
 have hll : (leftAll u land day).length = u.items.toNat := by unfold leftAll; rw [List.length_map, List.length_range]
 have hsl : Sl IntE 1 h₅.get p0 n0 (leftAll u land day) := gl.sl IntEnc.len (by omega) IntEnc.e (by omega)
 have hpap := (check_papers hck).1
 have hu5 := hu.le le05.1
 have hn5 := hu5.papers.1
 refine gZ ?_
 refine t_newSt rfl fun r3 hr3 => ?_
 have le7 := LH.upd_le (x := (true, .cells #[.slice p0 n0 c0] 69 (0, 0))) hr3
 have z3 : Cells.cell? (h₅.get.upd r3 (true, .cells #[.slice p0 n0 c0] 69 (0, 0))) ⟨r3, 0, none⟩ = some (.slice p0 n0 c0) := cell_upd rfl
 refine t_makeChan und104 inf50 fun q hq => ?_
 have le8 := LH.upd_le (x := (true, .chan 0 #[] false 0 0 false)) hq
 refine t_unC ?_
 refine t_newSt rfl fun r4 hr4 => ?_
 have le9 := LH.upd_le (x := (true, .cells #[.chan (some q)] 201 (0, 0))) hr4
 have le38 := LH.le_trans le35 (LH.le_trans (LH.le_trans le7 le8) le9)
 have z1 := Cells.cell?_le le38.1 z1
 have z2 := Cells.cell?_le le38.1 z2
 have z3 := Cells.cell?_le (LH.le_trans le8 le9).1 z3
 have hat := hat.le le38.1
 obtain ⟨g0, g1, g2, g3, g4, g5, g6⟩ := id hat
 have hsl := hsl.le IntE.grow (LH.le_trans (LH.le_trans le7 le8) le9).1
 have le08 := LH.le_trans le03 le38
 have z4 : Cells.cell? (((h₅.get.upd r3 (true, .cells #[.slice p0 n0 c0] 69 (0, 0))).upd q (true, .chan 0 #[] false 0 0 false)).upd r4 (true, .cells #[.chan (some q)] 201 (0, 0))) ⟨r4, 0, none⟩ = some (.chan (some q)) := cell_upd rfl
 have hq' := le9.1 q _ (Cells.upd_self _ _ _)
 refine gL1 g5 ?_
 have h256 : 2 ^ f.n5 ≤ 2 ^ 8 := Nat.pow_le_pow_right (by omega) (by omega)
 have hNe : (2 : Nat) ^ f.n5 = 2 ^ u.papers.length := by rw [hn5]
 rw [sets_wrap (by omega)]
 generalize hN : (2 : Nat) ^ f.n5 = N at h256 hNe ⊢
 refine gZ ?_
 refine t_loop (fun mm vs h' => ∃ j : Nat, vs = [.int .i64 j] ∧ j ≤ N ∧ mm = N - j ∧ Rd (((h₅.get.upd r3 (true, .cells #[.slice p0 n0 c0] 69 (0, 0))).upd q (true, .chan 0 #[] false 0 0 false)).upd r4 (true, .cells #[.chan (some q)] 201 (0, 0))) h'.get ∧ h'.todo = h.todo ∧ h'.pend = (List.range j).map (fun i => [(q, Sent u land day i)]) ∧ Hand q h' ∧ (0 < j → h'.chans = [q]))
  ⟨0, rfl, Nat.zero_le _, rfl, Rd.refl _, le08.2.2.2, by rw [le08.2.2.1, hpe]; rfl, .inl ⟨by rw [le08.2.1, hch], 0, hq'⟩, fun hh => absurd hh (by omega)⟩ ?_
 rintro Y mm vs h₇ hY ⟨j, rfl, hj, rfl, rd7, td7, pd7, hand7, ch7⟩
 refine gZ ?_
 refine t_if (fun e1 => ?_) (fun e1 => ?_)
 ·refine t_newSt rfl fun r5 hr5 => ?_
  have le10 := LH.upd_le (x := (true, .cells #[.int .i64 (j : Int)] 3 (0, 0))) hr5
  have z5 : Cells.cell? (h₇.get.upd r5 (true, .cells #[.int .i64 (j : Int)] 3 (0, 0))) ⟨r5, 0, none⟩ = some (.int .i64 (j : Int)) := cell_upd rfl
  have hand8 : Hand q { h₇ with get := h₇.get.upd r5 (true, .cells #[.int .i64 (j : Int)] 3 (0, 0)) } := by
   rcases hand7 with ⟨a1, s, a2⟩ | a1
   ·exact .inl ⟨a1, s, le10.1 _ _ a2⟩
   ·exact .inr a1
  have rd8 := rd7.trans (Rd.of_le le10.1)
  refine t_spawn (spawnW_all q (φ := Sent u land day j) hand8 (fun hc hrd => ?_) (fun h₈ r8 c8 t8 p8 => ?_))
  ·have rdc := rd8.trans hrd
   exact c74 ((hp.le le08.1).rd rdc) ((hu.le le08.1).rd rdc) (hat.rd rdc) hpap (by omega) (hrd _ _ z5) (rdc _ _ z1) (rdc _ _ z2) (rdc _ _ z3) (hsl.rd IntE.grow rdc) (rdc _ _ z4)
  ·refine t_again (hY (N - (j + 1)) _ _ (by omega) ⟨j + 1, ?_, by omega, rfl, rd8.trans r8, t8.trans td7, ?_, .inr c8, fun _ => c8⟩)
   ·rw [wrap_id (by omega) (by omega)]; rfl
   ·rw [p8, pd7, List.range_succ, List.map_append]; rfl
 ·refine gZ ?_
  have hjN : j = N := by omega
  subst hjN
  have hpos : 0 < j := by rw [hNe]; exact Nat.pow_pos (by omega)
  refine t_loop (fun mm vs h' => ∃ (k : Nat) (rem : List Nat) (p : Option Addr) (n c : Nat), vs = [.slice p n c, .int .i64 k] ∧ rem.length + k = j ∧ mm = j - k ∧ (∀ i ∈ rem, i < j) ∧ Rd (((h₅.get.upd r3 (true, .cells #[.slice p0 n0 c0] 69 (0, 0))).upd q (true, .chan 0 #[] false 0 0 false)).upd r4 (true, .cells #[.chan (some q)] 201 (0, 0))) h'.get ∧ h'.todo = h.todo ∧ h'.pend = rem.map (fun i => [(q, Sent u land day i)]) ∧
    ((rem ≠ [] ∧ h'.chans = [q]) ∨ (rem = [] ∧ h'.chans = [] ∧ ∃ s, h'.get q = some (true, .chan 0 #[] false s s false))) ∧ BestR h'.get u land day rem p n ∧ n ≤ c)
   ⟨0, List.range j, none, 0, 0, rfl, by simp, rfl, fun i hi => List.mem_range.1 hi, rd7, td7, pd7, .inl ⟨by simp; omega, ch7 hpos⟩, .inl ⟨rfl, rfl, fun i hi hn => absurd (List.mem_range.2 (by omega)) hn⟩, Nat.le_refl _⟩ ?_
  rintro Y2 mm vs h₈ hY2 ⟨k, rem, p, n, c, rfl, hk, rfl, hrem, rd8, td8, pd8, hst8, best, hcap⟩
  refine gZ ?_
  refine t_if (fun e2 => ?_) (fun e2 => ?_)
  ·have hne : rem ≠ [] := by rintro rfl; simp at hk; omega
   have hc8 : h₈.chans = [q] := by
    rcases hst8 with ⟨_, a⟩ | ⟨a, _⟩
    ·exact a
    ·exact absurd a hne
   refine t_loadC (rd8 _ _ z4) ?_
   refine t_comm (commW_gather (φ := Sent u land day) pd8 hc8 hne ?_)
   intro i rest v h₉ hi h1 h2 hlen ht hpd hst ⟨hv, hsent, hle⟩ hle9
   have hcr : commResult #[Conc.rcase q (.slice none 0 0)] (CommShape.recv false) 0 v true = v := rfl
   rw [hcr]
   have rd9 := Rd.of_le hle9
   have next : ∀ p' n' c', BestR h₉.get u land day rest p' n' → n' ≤ c' → Y2 [.slice p' n' c', .int .i64 (IntKind.wrap .i64 ((k : Int) + 1))] h₉ := by
    intro p' n' c' hb hcap'
    refine hY2 (j - (k + 1)) _ _ (by omega) ⟨k + 1, rest, p', n', c', ?_, by omega, rfl, fun i hi => hrem i (h2 i hi), rd8.trans rd9, ht.trans td8, hpd, hst, hb, hcap'⟩
    rw [wrap_id (by omega) (by omega)]; rfl
   change (if okF u land day i = true then _ else _) at hsent
   by_cases ok : okF u land day i = true
   ·rw [if_pos ok] at hsent
    obtain ⟨a, n', c', rfl, hs9, hcap9⟩ := hsent
    have hs9 := hs9.rd IntE.grow (Rd.of_le hle)
    refine gZ ?_
    refine t_neNil und50 ?_
    refine gZ ?_
    refine t_cond (fun _ => ?_) (fun e => by cases e)
    refine t_eqNil und50 ?_
    refine gZ ?_
    refine t_cond (fun b => ?_) (fun b => ?_)
    ·exact t_again (next _ _ _ (best.take h1 ok (by have := hrem i hi; omega) hs9 (.inl (by simpa using b))) hcap9)
    ·have hpn : p ≠ none := by rintro rfl; cases b
     obtain ⟨k', a', hk', hs'⟩ : ∃ k' a', p = some a' ∧ Sl IntE 1 h₈.get (some a') n (subsetL u.papers.length k') := by
      rcases best with ⟨b1, _⟩ | ⟨k', a', b1, _, _, b4, _⟩
      ·exact absurd b1 hpn
      ·exact ⟨k', a', b1, b4⟩
     subst hk'
     have hs'9 := hs'.rd IntE.grow rd9
     refine t_pu (c75 hs9 hs'9) ?_
     have same : ∀ k2, Sl IntE 1 h₈.get (some a') n (subsetL u.papers.length k2) → subsetL u.papers.length k2 = subsetL u.papers.length k' := by
      intro k2 h3
      exact Sl.same h3 hs'
     refine gZ ?_
     refine t_if (fun e3 => ?_) (fun e3 => ?_)
     ·refine t_again (next _ _ _ (best.take h1 ok (by have := hrem i hi; omega) hs9 (.inr fun k2 _ h3 => ?_)) hcap9)
      rw [same k2 h3]; omega
     ·refine t_again (next _ _ _ (best.stay h1 hpn rd9 fun k2 h3 => ?_) hcap)
      rw [same k2 h3, fewer_neg]; omega
   ·rw [if_neg ok] at hsent
    subst hsent
    refine gZ ?_
    refine t_neNil und50 ?_
    refine gZ ?_
    refine t_cond (fun e => by cases e) (fun _ => ?_)
    exact t_again (next _ _ _ (best.skip h1 (by simpa using ok) rd9) hcap)
  ·refine gZ ?_
   have hrem0 : rem = [] := List.length_eq_zero_iff.1 (by omega)
   subst hrem0
   obtain ⟨hc8, s, hq8⟩ : h₈.chans = [] ∧ ∃ s, h₈.get q = some (true, .chan 0 #[] false s s false) := by
    rcases hst8 with ⟨a, _⟩ | ⟨_, a, b⟩
    ·exact absurd rfl a
    ·exact ⟨a, b⟩
   refine t_loadC (rd8 _ _ z4) ?_
   refine t_close hq8 ?_
   have rd9 : Rd h₈.get (h₈.get.upd q (true, .chan 0 #[] true s s false)) := by
    intro a v hc
    have hne : a.block ≠ q := by
     intro e
     unfold Cells.cell? at hc
     rw [e, hq8] at hc; cases hc
    unfold Cells.cell? at hc ⊢
    rw [Cells.upd_ne _ _ hne]; exact hc
   have b9 : BestR (h₈.get.upd q (true, .chan 0 #[] true s s false)) u land day [] p n := by
    rcases best with b1 | ⟨k2, a, b1, b2, b3, b4, b5⟩
    ·exact .inl b1
    ·exact .inr ⟨k2, a, b1, b2, b3, b4.rd IntE.grow rd9, b5⟩
   exact t_ret ⟨((Rd.of_le le08.1).trans rd8).trans rd9, hc8, pd8, td8, .inr ⟨ho, p, n, c, rfl, b9, hcap⟩⟩
end Go.Proofs.YtldamlcehbdkdaaGreatDoor
end
section
namespace Go.Proofs.YtldamlcehbdkdaaGreatDoor
open Go Go.TM Go.Proofs
set_option linter.unusedVariables false
set_option maxRecDepth 100000
variable {X : XP} {h : LH} {A : Value → LH → Prop}
noncomputable def n16  : T := .call false 52 #[] fun v => .unAgg v fun l => .popI .i64 l fun n vs => .popI .i64 vs fun n_1 vs => .popI .i64 vs fun n_2 vs => .popI .i64 vs fun n_3 vs => .popS vs fun a n_4 c vs => .popS vs fun a_1 n_5 c_1 vs => .popS vs fun a_2 n_6 c_2 vs => .unNil vs (.call false 53 #[.agg #[.int .i64 n, .int .i64 n_1, .int .i64 n_2, .int .i64 n_3, .slice a n_4 c, .slice a_1 n_5 c_1, .slice a_2 n_6 c_2], .int .i64 20] fun v => .unTup v fun l => .unCons l fun v vs => .unAgg v fun l => .popI .i64 l fun n_7 vs_1 => .popI .i64 vs_1 fun n_8 vs_2 => .unNil vs_2 (.unCons vs fun v vs => .unI .i64 v fun n_9 => .unNil vs (.call false 53 #[.agg #[.int .i64 n, .int .i64 n_1, .int .i64 n_2, .int .i64 n_3, .slice a n_4 c, .slice a_1 n_5 c_1, .slice a_2 n_6 c_2], .int .i64 25] fun v => .unTup v fun l => .unCons l fun v vs => .unAgg v fun l => .popI .i64 l fun n_10 vs_3 => .popI .i64 vs_3 fun n_11 vs_4 => .unNil vs_4 (.unCons vs fun v vs => .unI .i64 v fun n_12 => .unNil vs (.call false 54 #[.agg #[.int .i64 n, .int .i64 n_1, .int .i64 n_2, .int .i64 n_3, .slice a n_4 c, .slice a_1 n_5 c_1, .slice a_2 n_6 c_2], .int .i64 0, .int .i64 1, .int .i64 16] fun v => .unTup v fun l => .unCons l fun v vs => .unI .i64 v fun n_13 => .unCons vs fun v vs => .unI .i64 v fun n_14 => .unNil vs (.call false 54 #[.agg #[.int .i64 n, .int .i64 n_1, .int .i64 n_2, .int .i64 n_3, .slice a n_4 c, .slice a_1 n_5 c_1, .slice a_2 n_6 c_2], .int .i64 0, .int .i64 1, .int .i64 18] fun v => .unTup v fun l => .unCons l fun v vs => .unI .i64 v fun n_15 => .unCons vs fun v vs => .unI .i64 v fun n_16 => .unNil vs (.call false 54 #[.agg #[.int .i64 n, .int .i64 n_1, .int .i64 n_2, .int .i64 n_3, .slice a n_4 c, .slice a_1 n_5 c_1, .slice a_2 n_6 c_2], .int .i64 0, .int .i64 1, .int .i64 19] fun v => .unTup v fun l => .unCons l fun v vs => .unI .i64 v fun n_17 => .unCons vs fun v vs => .unI .i64 v fun n_18 => .unNil vs (.call false 55 #[.agg #[.int .i64 n, .int .i64 n_1, .int .i64 n_2, .int .i64 n_3, .slice a n_4 c, .slice a_1 n_5 c_1, .slice a_2 n_6 c_2], .int .i64 0, .int .i64 1] fun v => .unTup v fun l => .unCons l fun v vs => .unI .i64 v fun n_19 => .unCons vs fun v vs => .unI .i64 v fun n_20 => .unNil vs (.call false 55 #[.agg #[.int .i64 n, .int .i64 n_1, .int .i64 n_2, .int .i64 n_3, .slice a n_4 c, .slice a_1 n_5 c_1, .slice a_2 n_6 c_2], .int .i64 1, .int .i64 2] fun v => .unTup v fun l => .unCons l fun v vs => .unI .i64 v fun n_21 => .unCons vs fun v vs => .unI .i64 v fun n_22 => .unNil vs (.call false 56 #[.agg #[.int .i64 n, .int .i64 n_1, .int .i64 n_2, .int .i64 n_3, .slice a n_4 c, .slice a_1 n_5 c_1, .slice a_2 n_6 c_2], .int .i64 0, .int .i64 25] fun v => .unTup v fun l => .unCons l fun v vs => .unS v fun a_3 n_23 c_3 => .unCons vs fun v vs => .unI .i64 v fun n_24 => .unNil vs (.call false 57 #[.agg #[.int .i64 n, .int .i64 n_1, .int .i64 n_2, .int .i64 n_3, .slice a n_4 c, .slice a_1 n_5 c_1, .slice a_2 n_6 c_2], .int .i64 0, .int .i64 20] fun v => .unTup v fun l => .unCons l fun v vs => .unS v fun a_4 n_25 c_4 => .unCons vs fun v vs => .unI .i64 v fun n_26 => .unNil vs (.call false 58 #[.agg #[.int .i64 n, .int .i64 n_1, .int .i64 n_2, .int .i64 n_3, .slice a n_4 c, .slice a_1 n_5 c_1, .slice a_2 n_6 c_2], .int .i64 0, .int .i64 25] fun v => .unTup v fun l => .unCons l fun v vs => .unS v fun a_5 n_27 c_5 => .unCons vs fun v vs => .unI .i64 v fun n_28 => .unNil vs (.sem false (Instr.buildSlice 30 2 #[(0, .int .i64 0), (1, .int .i64 2)]) fun v => .unS v fun a_6 n_29 c_6 => .call false 59 #[.agg #[.int .i64 n, .int .i64 n_1, .int .i64 n_2, .int .i64 n_3, .slice a n_4 c, .slice a_1 n_5 c_1, .slice a_2 n_6 c_2], .int .i64 0, .int .i64 25, .slice a_6 n_29 c_6] fun v => .unTup v fun l => .unCons l fun v vs => .unB v fun b => .unCons vs fun v vs => .unI .i64 v fun n => .unNil vs (.blk (bif n_9 != 0 then .leaf (.retn [.bool false]) else bif n_12 != 0 then .leaf (.retn [.bool false]) else bif n_14 != 0 then .leaf (.retn [.bool false]) else bif n_16 != 0 then .leaf (.retn [.bool false]) else bif n_18 != 0 then .leaf (.retn [.bool false]) else bif n_20 != 0 then .leaf (.retn [.bool false]) else bif n_22 != 0 then .leaf (.retn [.bool false]) else bif n_24 != 0 then .leaf (.retn [.bool false]) else bif n_26 != 0 then .leaf (.retn [.bool false]) else bif n_28 != 0 then .leaf (.retn [.bool false]) else bif n != 0 then .leaf (.retn [.bool false]) else .leaf (.again [.bool false])) (fun vs => .popB vs fun b_1 vs => .unNil vs (.blk (.call false 60 #[.int .i64 16, .int .i64 20] fun v => .unAgg v fun l => .popI .i64 l fun n vs => .popI .i64 vs fun n_30 vs => .unNil vs (.nd (.agg #[.int .i64 n_7, .int .i64 n_8]) (.sem false (Sem.bind (eqGuard BinOp.neq 29 (Operand.tmp 123) (Operand.tmp 124) (.agg #[.int .i64 n_7, .int .i64 n_8]) (.agg #[.int .i64 n, .int .i64 n_30])) fun __r => binOp BinOp.neq 29 (.agg #[.int .i64 n_7, .int .i64 n_8]) (.agg #[.int .i64 n, .int .i64 n_30])) fun v => .unB v fun b_2 => bif b_2 then .nd (.tuple #[]) (.nd (.bool true) (.nd (.bool true) (.nd (.bool true) (.nd (.bool true) (.nd (.bool true) (.nd (.bool true) (.nd (.bool true) (.nd (.bool true) (.nd (.bool true) (.nd (.bool true) (.nd (.bool true) (.nd (.bool true) (.nd (.bool true) (.nd (.bool true) (.nd (.bool true) (.nd (.tuple #[]) (.nd (.bool true) (.nd (.tuple #[]) (.nd (.bool true) (.nd (.bool true) (.nd (.bool true) (.nd (.bool true) (.nd (.bool true) (.nd (.bool true) (.nd (.bool true) (.nd (.bool true) (.nd (.tuple #[]) (.nd (.bool true) (.nd (.bool true) (.nd (.bool true) (.nd (.bool true) (.nd (.bool true) (.nd (.bool true) (.nd (.bool true) (.nd (.bool true) (.nd (.tuple #[]) (.nd (.bool true) (.nd (.bool true) (.nd (.bool true) (.nd (.bool true) (.nd (.bool true) (.nd (.bool true) (.nd (.bool true) (.leaf (.retn [.bool false]))))))))))))))))))))))))))))))))))))))))))))) else .call false 60 #[.int .i64 18, .int .i64 25] fun v => .unAgg v fun l => .popI .i64 l fun n vs => .popI .i64 vs fun n_31 vs => .unNil vs (.nd (.agg #[.int .i64 n_10, .int .i64 n_11]) (.sem false (Sem.bind (eqGuard BinOp.neq 29 (Operand.tmp 127) (Operand.tmp 128) (.agg #[.int .i64 n_10, .int .i64 n_11]) (.agg #[.int .i64 n, .int .i64 n_31])) fun __r => binOp BinOp.neq 29 (.agg #[.int .i64 n_10, .int .i64 n_11]) (.agg #[.int .i64 n, .int .i64 n_31])) fun v => .unB v fun b_3 => bif b_3 then .nd (.bool b_3) (.nd (.bool true) (.nd (.bool b_3) (.nd (.bool true) (.nd (.bool true) (.nd (.bool b_3) (.nd (.bool true) (.nd (.bool true) (.nd (.bool true) (.nd (.bool b_3) (.nd (.bool true) (.nd (.bool true) (.nd (.bool true) (.nd (.bool true) (.nd (.bool b_3) (.nd (.tuple #[]) (.nd (.bool true) (.nd (.tuple #[]) (.nd (.bool true) (.nd (.bool true) (.nd (.bool true) (.nd (.bool true) (.nd (.bool true) (.nd (.bool true) (.nd (.bool b_3) (.nd (.bool true) (.nd (.tuple #[]) (.nd (.bool true) (.nd (.bool true) (.nd (.bool true) (.nd (.bool true) (.nd (.bool true) (.nd (.bool true) (.nd (.bool b_3) (.nd (.bool true) (.nd (.tuple #[]) (.nd (.bool true) (.nd (.bool true) (.nd (.bool true) (.nd (.bool true) (.nd (.bool true) (.nd (.bool true) (.nd (.bool b_3) (.leaf (.retn [.bool false])))))))))))))))))))))))))))))))))))))))))))) else bif n_13 != 1 then .nd (.bool (n_13 != 1)) (.nd (.bool (n_13 != 1)) (.nd (.int .i64 n_13) (.need (AV.val (.bool b_3) = AV.val (.bool false)) (.nd (.bool b_3) (.nd (.bool true) (.nd (.bool (n_13 != 1)) (.nd (.bool (n_13 != 1)) (.nd (.int .i64 n_13) (.need (AV.val (.bool b_3) = AV.val (.bool false)) (.nd (.bool b_3) (.nd (.bool true) (.nd (.bool true) (.nd (.bool (n_13 != 1)) (.nd (.bool (n_13 != 1)) (.nd (.int .i64 n_13) (.need (AV.val (.bool b_3) = AV.val (.bool false)) (.nd (.bool b_3) (.nd (.bool true) (.nd (.bool true) (.nd (.bool true) (.nd (.bool (n_13 != 1)) (.nd (.bool (n_13 != 1)) (.nd (.int .i64 n_13) (.need (AV.val (.bool b_3) = AV.val (.bool false)) (.nd (.bool b_3) (.nd (.tuple #[]) (.nd (.bool true) (.nd (.tuple #[]) (.nd (.bool true) (.nd (.bool true) (.nd (.bool true) (.nd (.bool true) (.nd (.bool true) (.nd (.bool (n_13 != 1)) (.nd (.bool (n_13 != 1)) (.nd (.int .i64 n_13) (.need (AV.val (.bool b_3) = AV.val (.bool false)) (.nd (.bool b_3) (.nd (.bool true) (.nd (.tuple #[]) (.nd (.bool true) (.nd (.bool true) (.nd (.bool true) (.nd (.bool true) (.nd (.bool true) (.nd (.bool (n_13 != 1)) (.nd (.bool (n_13 != 1)) (.nd (.int .i64 n_13) (.need (AV.val (.bool b_3) = AV.val (.bool false)) (.nd (.bool b_3) (.nd (.bool true) (.nd (.tuple #[]) (.nd (.bool true) (.nd (.bool true) (.nd (.bool true) (.nd (.bool true) (.nd (.bool true) (.nd (.bool (n_13 != 1)) (.nd (.bool (n_13 != 1)) (.nd (.int .i64 n_13) (.need (AV.val (.bool b_3) = AV.val (.bool false)) (.nd (.bool b_3) (.leaf (.retn [.bool false])))))))))))))))))))))))))))))))))))))))))))))))))))))))))))))))) else bif n_15 != 0 then .nd (.bool (n_15 != 0)) (.nd (.bool (n_15 != 0)) (.nd (.int .i64 n_15) (.need (AV.val (.bool (n_13 != 1)) = AV.val (.bool false)) (.nd (.bool (n_13 != 1)) (.nd (.bool (n_13 != 1)) (.nd (.int .i64 n_13) (.need (AV.val (.bool b_3) = AV.val (.bool false)) (.nd (.bool b_3) (.nd (.bool true) (.nd (.bool (n_15 != 0)) (.nd (.bool (n_15 != 0)) (.nd (.int .i64 n_15) (.need (AV.val (.bool (n_13 != 1)) = AV.val (.bool false)) (.nd (.bool (n_13 != 1)) (.nd (.bool (n_13 != 1)) (.nd (.int .i64 n_13) (.need (AV.val (.bool b_3) = AV.val (.bool false)) (.nd (.bool b_3) (.nd (.bool true) (.nd (.bool true) (.nd (.bool (n_15 != 0)) (.nd (.bool (n_15 != 0)) (.nd (.int .i64 n_15) (.need (AV.val (.bool (n_13 != 1)) = AV.val (.bool false)) (.nd (.bool (n_13 != 1)) (.nd (.bool (n_13 != 1)) (.nd (.int .i64 n_13) (.need (AV.val (.bool b_3) = AV.val (.bool false)) (.nd (.bool b_3) (.nd (.tuple #[]) (.nd (.bool true) (.nd (.tuple #[]) (.nd (.bool true) (.nd (.bool true) (.nd (.bool true) (.nd (.bool true) (.nd (.bool (n_15 != 0)) (.nd (.bool (n_15 != 0)) (.nd (.int .i64 n_15) (.need (AV.val (.bool (n_13 != 1)) = AV.val (.bool false)) (.nd (.bool (n_13 != 1)) (.nd (.bool (n_13 != 1)) (.nd (.int .i64 n_13) (.need (AV.val (.bool b_3) = AV.val (.bool false)) (.nd (.bool b_3) (.nd (.bool true) (.nd (.tuple #[]) (.nd (.bool true) (.nd (.bool true) (.nd (.bool true) (.nd (.bool true) (.nd (.bool (n_15 != 0)) (.nd (.bool (n_15 != 0)) (.nd (.int .i64 n_15) (.need (AV.val (.bool (n_13 != 1)) = AV.val (.bool false)) (.nd (.bool (n_13 != 1)) (.nd (.bool (n_13 != 1)) (.nd (.int .i64 n_13) (.need (AV.val (.bool b_3) = AV.val (.bool false)) (.nd (.bool b_3) (.nd (.bool true) (.nd (.tuple #[]) (.nd (.bool true) (.nd (.bool true) (.nd (.bool true) (.nd (.bool true) (.nd (.bool (n_15 != 0)) (.nd (.bool (n_15 != 0)) (.nd (.int .i64 n_15) (.need (AV.val (.bool (n_13 != 1)) = AV.val (.bool false)) (.nd (.bool (n_13 != 1)) (.nd (.bool (n_13 != 1)) (.nd (.int .i64 n_13) (.need (AV.val (.bool b_3) = AV.val (.bool false)) (.nd (.bool b_3) (.leaf (.retn [.bool false]))))))))))))))))))))))))))))))))))))))))))))))))))))))))))))))))))))))))))))) else bif n_17 != 2 then .nd (.bool (n_17 != 2)) (.nd (.bool (n_17 != 2)) (.nd (.int .i64 n_17) (.need (AV.val (.bool (n_15 != 0)) = AV.val (.bool false)) (.nd (.bool (n_15 != 0)) (.nd (.bool (n_15 != 0)) (.nd (.int .i64 n_15) (.need (AV.val (.bool (n_13 != 1)) = AV.val (.bool false)) (.nd (.bool (n_13 != 1)) (.nd (.bool (n_13 != 1)) (.nd (.int .i64 n_13) (.need (AV.val (.bool b_3) = AV.val (.bool false)) (.nd (.bool b_3) (.nd (.bool true) (.nd (.bool (n_17 != 2)) (.nd (.bool (n_17 != 2)) (.nd (.int .i64 n_17) (.need (AV.val (.bool (n_15 != 0)) = AV.val (.bool false)) (.nd (.bool (n_15 != 0)) (.nd (.bool (n_15 != 0)) (.nd (.int .i64 n_15) (.need (AV.val (.bool (n_13 != 1)) = AV.val (.bool false)) (.nd (.bool (n_13 != 1)) (.nd (.bool (n_13 != 1)) (.nd (.int .i64 n_13) (.need (AV.val (.bool b_3) = AV.val (.bool false)) (.nd (.bool b_3) (.nd (.tuple #[]) (.nd (.bool true) (.nd (.tuple #[]) (.nd (.bool true) (.nd (.bool true) (.nd (.bool true) (.nd (.bool (n_17 != 2)) (.nd (.bool (n_17 != 2)) (.nd (.int .i64 n_17) (.need (AV.val (.bool (n_15 != 0)) = AV.val (.bool false)) (.nd (.bool (n_15 != 0)) (.nd (.bool (n_15 != 0)) (.nd (.int .i64 n_15) (.need (AV.val (.bool (n_13 != 1)) = AV.val (.bool false)) (.nd (.bool (n_13 != 1)) (.nd (.bool (n_13 != 1)) (.nd (.int .i64 n_13) (.need (AV.val (.bool b_3) = AV.val (.bool false)) (.nd (.bool b_3) (.nd (.bool true) (.nd (.tuple #[]) (.nd (.bool true) (.nd (.bool true) (.nd (.bool true) (.nd (.bool (n_17 != 2)) (.nd (.bool (n_17 != 2)) (.nd (.int .i64 n_17) (.need (AV.val (.bool (n_15 != 0)) = AV.val (.bool false)) (.nd (.bool (n_15 != 0)) (.nd (.bool (n_15 != 0)) (.nd (.int .i64 n_15) (.need (AV.val (.bool (n_13 != 1)) = AV.val (.bool false)) (.nd (.bool (n_13 != 1)) (.nd (.bool (n_13 != 1)) (.nd (.int .i64 n_13) (.need (AV.val (.bool b_3) = AV.val (.bool false)) (.nd (.bool b_3) (.nd (.bool true) (.nd (.tuple #[]) (.nd (.bool true) (.nd (.bool true) (.nd (.bool true) (.nd (.bool (n_17 != 2)) (.nd (.bool (n_17 != 2)) (.nd (.int .i64 n_17) (.need (AV.val (.bool (n_15 != 0)) = AV.val (.bool false)) (.nd (.bool (n_15 != 0)) (.nd (.bool (n_15 != 0)) (.nd (.int .i64 n_15) (.need (AV.val (.bool (n_13 != 1)) = AV.val (.bool false)) (.nd (.bool (n_13 != 1)) (.nd (.bool (n_13 != 1)) (.nd (.int .i64 n_13) (.need (AV.val (.bool b_3) = AV.val (.bool false)) (.nd (.bool b_3) (.leaf (.retn [.bool false]))))))))))))))))))))))))))))))))))))))))))))))))))))))))))))))))))))))))))))))))))) else bif n_19 != 17 then .nd (.bool (n_19 != 17)) (.nd (.bool (n_19 != 17)) (.nd (.int .i64 n_19) (.need (AV.val (.bool (n_17 != 2)) = AV.val (.bool false)) (.nd (.bool (n_17 != 2)) (.nd (.bool (n_17 != 2)) (.nd (.int .i64 n_17) (.need (AV.val (.bool (n_15 != 0)) = AV.val (.bool false)) (.nd (.bool (n_15 != 0)) (.nd (.bool (n_15 != 0)) (.nd (.int .i64 n_15) (.need (AV.val (.bool (n_13 != 1)) = AV.val (.bool false)) (.nd (.bool (n_13 != 1)) (.nd (.bool (n_13 != 1)) (.nd (.int .i64 n_13) (.need (AV.val (.bool b_3) = AV.val (.bool false)) (.nd (.bool b_3) (.nd (.tuple #[]) (.nd (.bool true) (.nd (.tuple #[]) (.nd (.bool true) (.nd (.bool true) (.nd (.bool (n_19 != 17)) (.nd (.bool (n_19 != 17)) (.nd (.int .i64 n_19) (.need (AV.val (.bool (n_17 != 2)) = AV.val (.bool false)) (.nd (.bool (n_17 != 2)) (.nd (.bool (n_17 != 2)) (.nd (.int .i64 n_17) (.need (AV.val (.bool (n_15 != 0)) = AV.val (.bool false)) (.nd (.bool (n_15 != 0)) (.nd (.bool (n_15 != 0)) (.nd (.int .i64 n_15) (.need (AV.val (.bool (n_13 != 1)) = AV.val (.bool false)) (.nd (.bool (n_13 != 1)) (.nd (.bool (n_13 != 1)) (.nd (.int .i64 n_13) (.need (AV.val (.bool b_3) = AV.val (.bool false)) (.nd (.bool b_3) (.nd (.bool true) (.nd (.tuple #[]) (.nd (.bool true) (.nd (.bool true) (.nd (.bool (n_19 != 17)) (.nd (.bool (n_19 != 17)) (.nd (.int .i64 n_19) (.need (AV.val (.bool (n_17 != 2)) = AV.val (.bool false)) (.nd (.bool (n_17 != 2)) (.nd (.bool (n_17 != 2)) (.nd (.int .i64 n_17) (.need (AV.val (.bool (n_15 != 0)) = AV.val (.bool false)) (.nd (.bool (n_15 != 0)) (.nd (.bool (n_15 != 0)) (.nd (.int .i64 n_15) (.need (AV.val (.bool (n_13 != 1)) = AV.val (.bool false)) (.nd (.bool (n_13 != 1)) (.nd (.bool (n_13 != 1)) (.nd (.int .i64 n_13) (.need (AV.val (.bool b_3) = AV.val (.bool false)) (.nd (.bool b_3) (.nd (.bool true) (.nd (.tuple #[]) (.nd (.bool true) (.nd (.bool true) (.nd (.bool (n_19 != 17)) (.nd (.bool (n_19 != 17)) (.nd (.int .i64 n_19) (.need (AV.val (.bool (n_17 != 2)) = AV.val (.bool false)) (.nd (.bool (n_17 != 2)) (.nd (.bool (n_17 != 2)) (.nd (.int .i64 n_17) (.need (AV.val (.bool (n_15 != 0)) = AV.val (.bool false)) (.nd (.bool (n_15 != 0)) (.nd (.bool (n_15 != 0)) (.nd (.int .i64 n_15) (.need (AV.val (.bool (n_13 != 1)) = AV.val (.bool false)) (.nd (.bool (n_13 != 1)) (.nd (.bool (n_13 != 1)) (.nd (.int .i64 n_13) (.need (AV.val (.bool b_3) = AV.val (.bool false)) (.nd (.bool b_3) (.leaf (.retn [.bool false])))))))))))))))))))))))))))))))))))))))))))))))))))))))))))))))))))))))))))))))))) else bif n_21 != 15 then .nd (.tuple #[]) (.nd (.bool true) (.nd (.tuple #[]) (.need (AV.val (.bool (n_21 != 15)) = AV.val (.bool true)) (.nd (.bool (n_21 != 15)) (.nd (.bool (n_21 != 15)) (.nd (.int .i64 n_21) (.need (AV.val (.bool (n_19 != 17)) = AV.val (.bool false)) (.nd (.bool (n_19 != 17)) (.nd (.bool (n_19 != 17)) (.nd (.int .i64 n_19) (.need (AV.val (.bool (n_17 != 2)) = AV.val (.bool false)) (.nd (.bool (n_17 != 2)) (.nd (.bool (n_17 != 2)) (.nd (.int .i64 n_17) (.need (AV.val (.bool (n_15 != 0)) = AV.val (.bool false)) (.nd (.bool (n_15 != 0)) (.nd (.bool (n_15 != 0)) (.nd (.int .i64 n_15) (.need (AV.val (.bool (n_13 != 1)) = AV.val (.bool false)) (.nd (.bool (n_13 != 1)) (.nd (.bool (n_13 != 1)) (.nd (.int .i64 n_13) (.need (AV.val (.bool b_3) = AV.val (.bool false)) (.nd (.bool b_3) (.nd (.bool true) (.nd (.tuple #[]) (.need (AV.val (.bool (n_21 != 15)) = AV.val (.bool true)) (.nd (.bool (n_21 != 15)) (.nd (.bool (n_21 != 15)) (.nd (.int .i64 n_21) (.need (AV.val (.bool (n_19 != 17)) = AV.val (.bool false)) (.nd (.bool (n_19 != 17)) (.nd (.bool (n_19 != 17)) (.nd (.int .i64 n_19) (.need (AV.val (.bool (n_17 != 2)) = AV.val (.bool false)) (.nd (.bool (n_17 != 2)) (.nd (.bool (n_17 != 2)) (.nd (.int .i64 n_17) (.need (AV.val (.bool (n_15 != 0)) = AV.val (.bool false)) (.nd (.bool (n_15 != 0)) (.nd (.bool (n_15 != 0)) (.nd (.int .i64 n_15) (.need (AV.val (.bool (n_13 != 1)) = AV.val (.bool false)) (.nd (.bool (n_13 != 1)) (.nd (.bool (n_13 != 1)) (.nd (.int .i64 n_13) (.need (AV.val (.bool b_3) = AV.val (.bool false)) (.nd (.bool b_3) (.nd (.bool true) (.nd (.tuple #[]) (.need (AV.val (.bool (n_21 != 15)) = AV.val (.bool true)) (.nd (.bool (n_21 != 15)) (.nd (.bool (n_21 != 15)) (.nd (.int .i64 n_21) (.need (AV.val (.bool (n_19 != 17)) = AV.val (.bool false)) (.nd (.bool (n_19 != 17)) (.nd (.bool (n_19 != 17)) (.nd (.int .i64 n_19) (.need (AV.val (.bool (n_17 != 2)) = AV.val (.bool false)) (.nd (.bool (n_17 != 2)) (.nd (.bool (n_17 != 2)) (.nd (.int .i64 n_17) (.need (AV.val (.bool (n_15 != 0)) = AV.val (.bool false)) (.nd (.bool (n_15 != 0)) (.nd (.bool (n_15 != 0)) (.nd (.int .i64 n_15) (.need (AV.val (.bool (n_13 != 1)) = AV.val (.bool false)) (.nd (.bool (n_13 != 1)) (.nd (.bool (n_13 != 1)) (.nd (.int .i64 n_13) (.need (AV.val (.bool b_3) = AV.val (.bool false)) (.nd (.bool b_3) (.leaf (.retn [.bool false])))))))))))))))))))))))))))))))))))))))))))))))))))))))))))))))))))))))))) else bif b then .nd (.tuple #[]) (.nd (.bool b) (.nd (.bool b) (.need (AV.val (.bool (n_21 != 15)) = AV.val (.bool false)) (.nd (.bool (n_21 != 15)) (.nd (.bool (n_21 != 15)) (.nd (.int .i64 n_21) (.need (AV.val (.bool (n_19 != 17)) = AV.val (.bool false)) (.nd (.bool (n_19 != 17)) (.nd (.bool (n_19 != 17)) (.nd (.int .i64 n_19) (.need (AV.val (.bool (n_17 != 2)) = AV.val (.bool false)) (.nd (.bool (n_17 != 2)) (.nd (.bool (n_17 != 2)) (.nd (.int .i64 n_17) (.need (AV.val (.bool (n_15 != 0)) = AV.val (.bool false)) (.nd (.bool (n_15 != 0)) (.nd (.bool (n_15 != 0)) (.nd (.int .i64 n_15) (.need (AV.val (.bool (n_13 != 1)) = AV.val (.bool false)) (.nd (.bool (n_13 != 1)) (.nd (.bool (n_13 != 1)) (.nd (.int .i64 n_13) (.need (AV.val (.bool b_3) = AV.val (.bool false)) (.nd (.bool b_3) (.nd (.bool b) (.nd (.bool b) (.need (AV.val (.bool (n_21 != 15)) = AV.val (.bool false)) (.nd (.bool (n_21 != 15)) (.nd (.bool (n_21 != 15)) (.nd (.int .i64 n_21) (.need (AV.val (.bool (n_19 != 17)) = AV.val (.bool false)) (.nd (.bool (n_19 != 17)) (.nd (.bool (n_19 != 17)) (.nd (.int .i64 n_19) (.need (AV.val (.bool (n_17 != 2)) = AV.val (.bool false)) (.nd (.bool (n_17 != 2)) (.nd (.bool (n_17 != 2)) (.nd (.int .i64 n_17) (.need (AV.val (.bool (n_15 != 0)) = AV.val (.bool false)) (.nd (.bool (n_15 != 0)) (.nd (.bool (n_15 != 0)) (.nd (.int .i64 n_15) (.need (AV.val (.bool (n_13 != 1)) = AV.val (.bool false)) (.nd (.bool (n_13 != 1)) (.nd (.bool (n_13 != 1)) (.nd (.int .i64 n_13) (.need (AV.val (.bool b_3) = AV.val (.bool false)) (.nd (.bool b_3) (.nd (.bool b) (.nd (.bool b) (.need (AV.val (.bool (n_21 != 15)) = AV.val (.bool false)) (.nd (.bool (n_21 != 15)) (.nd (.bool (n_21 != 15)) (.nd (.int .i64 n_21) (.need (AV.val (.bool (n_19 != 17)) = AV.val (.bool false)) (.nd (.bool (n_19 != 17)) (.nd (.bool (n_19 != 17)) (.nd (.int .i64 n_19) (.need (AV.val (.bool (n_17 != 2)) = AV.val (.bool false)) (.nd (.bool (n_17 != 2)) (.nd (.bool (n_17 != 2)) (.nd (.int .i64 n_17) (.need (AV.val (.bool (n_15 != 0)) = AV.val (.bool false)) (.nd (.bool (n_15 != 0)) (.nd (.bool (n_15 != 0)) (.nd (.int .i64 n_15) (.need (AV.val (.bool (n_13 != 1)) = AV.val (.bool false)) (.nd (.bool (n_13 != 1)) (.nd (.bool (n_13 != 1)) (.nd (.int .i64 n_13) (.need (AV.val (.bool b_3) = AV.val (.bool false)) (.nd (.bool b_3) (.leaf (.retn [.bool false])))))))))))))))))))))))))))))))))))))))))))))))))))))))))))))))))))))))))) else .sem false (Instr.buildSlice 30 1 #[(0, .int .i64 1)]) fun v => .unS v fun a n c => .nd (.slice a_5 n_27 c_5) (.nd (.bool b) (.nd (.bool b) (.need (AV.val (.bool (n_21 != 15)) = AV.val (.bool false)) (.nd (.bool (n_21 != 15)) (.nd (.bool (n_21 != 15)) (.nd (.int .i64 n_21) (.need (AV.val (.bool (n_19 != 17)) = AV.val (.bool false)) (.nd (.bool (n_19 != 17)) (.nd (.bool (n_19 != 17)) (.nd (.int .i64 n_19) (.need (AV.val (.bool (n_17 != 2)) = AV.val (.bool false)) (.nd (.bool (n_17 != 2)) (.nd (.bool (n_17 != 2)) (.nd (.int .i64 n_17) (.need (AV.val (.bool (n_15 != 0)) = AV.val (.bool false)) (.nd (.bool (n_15 != 0)) (.nd (.bool (n_15 != 0)) (.nd (.int .i64 n_15) (.need (AV.val (.bool (n_13 != 1)) = AV.val (.bool false)) (.nd (.bool (n_13 != 1)) (.nd (.bool (n_13 != 1)) (.nd (.int .i64 n_13) (.need (AV.val (.bool b_3) = AV.val (.bool false)) (.nd (.bool b_3) (.call false 22 #[.slice a_5 n_27 c_5, .slice a n c] fun v => .unB v fun b_4 => .nd (.bool b) (.nd (.bool b) (.need (AV.val (.bool (n_21 != 15)) = AV.val (.bool false)) (.nd (.bool (n_21 != 15)) (.nd (.bool (n_21 != 15)) (.nd (.int .i64 n_21) (.need (AV.val (.bool (n_19 != 17)) = AV.val (.bool false)) (.nd (.bool (n_19 != 17)) (.nd (.bool (n_19 != 17)) (.nd (.int .i64 n_19) (.need (AV.val (.bool (n_17 != 2)) = AV.val (.bool false)) (.nd (.bool (n_17 != 2)) (.nd (.bool (n_17 != 2)) (.nd (.int .i64 n_17) (.need (AV.val (.bool (n_15 != 0)) = AV.val (.bool false)) (.nd (.bool (n_15 != 0)) (.nd (.bool (n_15 != 0)) (.nd (.int .i64 n_15) (.need (AV.val (.bool (n_13 != 1)) = AV.val (.bool false)) (.nd (.bool (n_13 != 1)) (.nd (.bool (n_13 != 1)) (.nd (.int .i64 n_13) (.need (AV.val (.bool b_3) = AV.val (.bool false)) (.nd (.bool b_3) (bif !b_4 then .leaf (.retn [.bool false]) else .leaf (.again [.bool b_1]))))))))))))))))))))))))))))))))))))))))))))))))))))))) (fun vs => .popB vs fun b vs => .unNil vs (.sem false (Instr.buildSlice 69 3 #[(0, .int .i64 1), (1, .int .i64 2), (2, .int .i64 0)]) fun v => .unS v fun a n c => .call false 61 #[.slice a_3 n_23 c_3, .slice a n c] fun v => .unB v fun b => bif b then .call false 60 #[.int .i64 16, .int .i64 20] fun v => .unAgg v fun l => .popI .i64 l fun n vs => .popI .i64 vs fun n_30 vs => .unNil vs (.call false 60 #[.int .i64 16, .int .i64 20] fun v => .unAgg v fun l => .popI .i64 l fun n_31 vs => .popI .i64 vs fun n_32 vs => .unNil vs (.sem false (Instr.buildSlice 121 2 #[(0, .agg #[.int .i64 1, .int .i64 0, .int .i64 n, .int .i64 n_30]), (1, .agg #[.int .i64 2, .int .i64 0, .int .i64 n_31, .int .i64 n_32])]) fun v => .unS v fun a n c => .call false 62 #[.slice a_4 n_25 c_4, .slice a n c] fun v => .unB v fun b => .leaf (.ret (.bool b)))) else .leaf (.ret (.bool false)))) (fun vs => .popB vs fun b vs => .unNil vs (.leaf (.ret (.bool b)))) fun x x_1 => .fail)) (fun vs => .popB vs fun b vs => .unNil vs (.leaf (.ret (.bool b)))) fun x x_1 => .fail))))))))))))))
theorem w16  (hX : XOK X) (hw : (n16 ).wp X Tryz.prog (retQ A) h) : FWK X Tryz.prog .normal 13 #[] h A := fwk_neat (show ftree ({ P := Tryz.prog, priv := [1, 2, 4], loops := [], joins := [{ id := 17, slots := [(0, .bool)], ro := [1, 2, 4], outs := [] }, { id := 15, slots := [(0, .bool)], ro := [1, 2, 4], outs := [] }] }) Tryz.f13 [] = n16  by kernel_rfl) (by simp) (by kernel_rfl) (by kernel_rfl) hX hw
end Go.Proofs.YtldamlcehbdkdaaGreatDoor
end
section
namespace Go.Proofs.YtldamlcehbdkdaaGreatDoor
open Go Go.TM Go.Proofs
attribute [local irreducible] T.wp CV FWK
def exU : UseFile := ⟨3, 2, 10, 5, [⟨21, 23⟩], [⟨⟨12, 14⟩, 0, [0, 1]⟩, ⟨⟨19, 19⟩, 0, [0]⟩, ⟨⟨17, 26⟩, 0, [2]⟩, ⟨⟨18, 18⟩, 1, [0, 1]⟩], [⟨20, 0, [0, 1, 2]⟩, ⟨25, 0, [0, 2]⟩]⟩
theorem c42 {h : LH} (a b : Int) : Pu Tryz.prog 60 #[.int .i64 a, .int .i64 b] h (.agg #[.int .i64 a, .int .i64 b]) := by
 refine w42 _ _ X0_ok ?_
 unfold n42
 exact t_ret ⟨rfl, rfl⟩
theorem c35 {h : LH} {p q : Option Addr} {n c m d : Nat} {a b : List Int} (ha : Sl IntE 1 h.get p n a) (hb : Sl IntE 1 h.get q m b) : Pu Tryz.prog 22 #[.slice p n c, .slice q m d] h (.bool (decide (a = b))) := by
 refine w35 _ _ _ _ _ _ X0_ok ?_
 unfold n35
 have hn := ha.1
 have hm := hb.1
 have hbn := ha.2.1
 have hbm := hb.2.1
 refine t_cond (fun e => ?_) (fun e => ?_)
 ·have : a ≠ b := by rintro rfl; simp at e; omega
  exact t_ret ⟨by simp [this], rfl⟩
 have hnm : n = m := by simp at e; omega
 refine t_loop (fun mm vs h' => h = h' ∧ ∃ i : Nat, vs = [.bool false, .int .i64 i] ∧ i ≤ n ∧ mm = n - i ∧ a.take i = b.take i) ⟨rfl, 0, rfl, Nat.zero_le _, rfl, rfl⟩ ?_
 rintro Y mm vs _ hY ⟨rfl, i, rfl, hi, rfl, hc⟩
 refine gZ ?_
 refine t_if (fun e => ?_) (fun e => ?_)
 ·obtain ⟨x, a1, hx, ha1, e1⟩ := ha.at (i := i) (by omega)
  obtain ⟨y, a2, hy, ha2, e2⟩ := hb.at (i := i) (by omega)
  unfold IntE at e1 e2
  refine gZ ?_
  refine t_cond (fun b1 => ?_) (fun b1 => ?_)
  ·refine gZ ?_
   have : a ≠ b := by rintro rfl; rw [hx] at hy; cases hy; simp at b1
   exact t_ret ⟨by simp [this], rfl⟩
  ·have b2 : x = y := by simpa using b1
   refine t_again (hY (n - (i + 1)) _ _ (by omega) ⟨rfl, i + 1, ?_, by omega, rfl, ?_⟩)
   ·rw [wrap_id (by omega) (by omega)]; rfl
   ·rw [List.take_add_one, List.take_add_one, hc, hx, hy, b2]
 ·refine gZ ?_
  rw [List.take_of_length_le (by omega), List.take_of_length_le (by omega)] at hc
  exact t_ret ⟨by simp [hc], rfl⟩
theorem c25 {h : LH} {p q : Option Addr} {n c m d : Nat} {a b : List Int} (ha : Sl IntE 1 h.get p n a) (hb : Sl IntE 1 h.get q m b) : Pu Tryz.prog 61 #[.slice p n c, .slice q m d] h (.bool (decide (a = b))) := by
 refine w25 _ _ _ _ _ _ X0_ok ?_
 unfold n25
 have hn := ha.1
 have hm := hb.1
 have hbn := ha.2.1
 have hbm := hb.2.1
 refine t_cond (fun e => ?_) (fun e => ?_)
 ·have : a ≠ b := by rintro rfl; simp at e; omega
  exact t_ret ⟨by simp [this], rfl⟩
 have hnm : n = m := by simp at e; omega
 refine t_loop (fun mm vs h' => h = h' ∧ ∃ i : Nat, vs = [.bool false, .int .i64 i] ∧ i ≤ n ∧ mm = n - i ∧ a.take i = b.take i) ⟨rfl, 0, rfl, Nat.zero_le _, rfl, rfl⟩ ?_
 rintro Y mm vs _ hY ⟨rfl, i, rfl, hi, rfl, hc⟩
 refine gZ ?_
 refine t_if (fun e => ?_) (fun e => ?_)
 ·obtain ⟨x, a1, hx, ha1, e1⟩ := ha.at (i := i) (by omega)
  obtain ⟨y, a2, hy, ha2, e2⟩ := hb.at (i := i) (by omega)
  unfold IntE at e1 e2
  refine gZ ?_
  refine t_cond (fun b1 => ?_) (fun b1 => ?_)
  ·refine gZ ?_
   have : a ≠ b := by rintro rfl; rw [hx] at hy; cases hy; simp at b1
   exact t_ret ⟨by simp [this], rfl⟩
  ·have b2 : x = y := by simpa using b1
   refine t_again (hY (n - (i + 1)) _ _ (by omega) ⟨rfl, i + 1, ?_, by omega, rfl, ?_⟩)
   ·rw [wrap_id (by omega) (by omega)]; rfl
   ·rw [List.take_add_one, List.take_add_one, hc, hx, hy, b2]
 ·refine gZ ?_
  rw [List.take_of_length_le (by omega), List.take_of_length_le (by omega)] at hc
  exact t_ret ⟨by simp [hc], rfl⟩
end Go.Proofs.YtldamlcehbdkdaaGreatDoor
end
section
namespace Go.Proofs.YtldamlcehbdkdaaGreatDoor
open Go Go.TM Go.Proofs
attribute [local irreducible] T.wp CV FWK
theorem t_buildG {X : XP} {Q : Leaf → LH → Prop} {h : LH} {k : Value → T} {t el : TypeId} {n s b : Nat} {parts : Array (Nat × Value)} {z : Value} {cells : Array Value} (hu : Tryz.prog.underlying t = some (.slice el)) (hi : (Tryz.prog.info? el).map (fun i => (i.size, i.bytes, i.zero)) = some (s, b, some z)) (hn : n * s ≤ 2 ^ 24) (hpos : n * s ≠ 0)
  (hf : Instr.fill (fun i => some (i * s, s)) ((Array.range (n * s)).map (z.cells[· % z.cells.size]!)) parts.toList = some cells)
  (hk : ∀ r h', h.le h' → h.get r = none → h'.get r = some (true, .cells cells el (0, 0)) → (k (.slice (some ⟨r, 0, none⟩) n n)).wp X Tryz.prog Q h') : (T.sem false (Instr.buildSlice t n parts) k).wp X Tryz.prog Q h :=
 t_build hu hi hn hpos hf fun r hr => hk r _ (LH.upd_le hr) hr (Cells.upd_self _ _ _)
theorem sl_ints {h : Cells} {r : Nat} {m : Bool} {el : TypeId} {l : List Int} {cs : Array Value} (hcs : cs = (l.map (Value.int .i64)).toArray) (hr : h r = some (m, .cells cs el (0, 0))) (hb : l.length < 4611686018427387904) : Sl IntE 1 h (some ⟨r, 0, none⟩) l.length l := by
 refine ⟨rfl, hb, fun i x hx => ⟨_, rfl, ?_⟩⟩
 unfold IntE
 rw [add_plain, add_plain]
 subst hcs
 simp [Cells.cell?, hr, hx]
theorem cell_row {h : Cells} {r i : Nat} {m : Bool} {cs : Array Value} {el : TypeId} {v : Value} (hr : h r = some (m, .cells cs el (0, 0))) (hv : cs[i]? = some v) : h.cell? ⟨r, i, none⟩ = some v := by
 simp [Cells.cell?, hr, hv]
theorem exRep {h : Cells} {r1 r2 r3 r4 r5 r6 r7 r8 r9 : Nat} (e1 : h r1 = some (true, .cells #[.int .i64 21, .int .i64 23] 29 (0, 0))) (e2 : h r2 = some (true, .cells #[.int .i64 0, .int .i64 1] 3 (0, 0))) (e3 : h r3 = some (true, .cells #[.int .i64 0] 3 (0, 0))) (e4 : h r4 = some (true, .cells #[.int .i64 2] 3 (0, 0))) (e5 : h r5 = some (true, .cells #[.int .i64 0, .int .i64 1] 3 (0, 0)))
  (e6 : h r6 = some (true, .cells #[.int .i64 12, .int .i64 14, .int .i64 0, .slice (some ⟨r2, 0, none⟩) 2 2, .int .i64 19, .int .i64 19, .int .i64 0, .slice (some ⟨r3, 0, none⟩) 1 1, .int .i64 17, .int .i64 26, .int .i64 0, .slice (some ⟨r4, 0, none⟩) 1 1, .int .i64 18, .int .i64 18, .int .i64 1, .slice (some ⟨r5, 0, none⟩) 2 2] 32 (0, 0)))
  (e7 : h r7 = some (true, .cells #[.int .i64 0, .int .i64 1, .int .i64 2] 3 (0, 0))) (e8 : h r8 = some (true, .cells #[.int .i64 0, .int .i64 2] 3 (0, 0))) (e9 : h r9 = some (true, .cells #[.int .i64 20, .int .i64 0, .slice (some ⟨r7, 0, none⟩) 3 3, .int .i64 25, .int .i64 0, .slice (some ⟨r8, 0, none⟩) 2 2] 34 (0, 0))) :
  FileR h ⟨some ⟨r1, 0, none⟩, 1, 1, some ⟨r6, 0, none⟩, 4, 4, some ⟨r9, 0, none⟩, 2, 2⟩ exU := by
 have cr : ∀ {r i j : Nat} {m : Bool} {cs : Array Value} {el : TypeId} {v : Value}, h r = some (m, .cells cs el (0, 0)) → cs[i + j]? = some v → h.cell? (Addr.add (Addr.add ⟨r, 0, none⟩ i) j) = some v := by
  intro r i j m cs el v hr hv
  rw [add_plain, add_plain, Nat.zero_add]; exact cell_row hr hv
 refine ⟨⟨rfl, by show (1 : Nat) < _; omega, ?_⟩, ⟨rfl, by show (4 : Nat) < _; omega, ?_⟩, ⟨rfl, by show (2 : Nat) < _; omega, ?_⟩⟩
 ·intro i x hx
  match i, hx with
  | 0, hx => cases hx; exact ⟨_, rfl, cr e1 rfl, cr e1 rfl⟩
  | i + 1, hx => simp [exU] at hx
 ·intro i x hx
  match i, hx with
  | 0, hx => cases hx; exact ⟨_, rfl, cr e6 rfl, cr e6 rfl, cr e6 rfl, _, _, _, cr e6 rfl, sl_ints (l := [0, 1]) rfl e2 (by show (2 : Nat) < _; omega)⟩
  | 1, hx => cases hx; exact ⟨_, rfl, cr e6 rfl, cr e6 rfl, cr e6 rfl, _, _, _, cr e6 rfl, sl_ints (l := [0]) rfl e3 (by show (1 : Nat) < _; omega)⟩
  | 2, hx => cases hx; exact ⟨_, rfl, cr e6 rfl, cr e6 rfl, cr e6 rfl, _, _, _, cr e6 rfl, sl_ints (l := [2]) rfl e4 (by show (1 : Nat) < _; omega)⟩
  | 3, hx => cases hx; exact ⟨_, rfl, cr e6 rfl, cr e6 rfl, cr e6 rfl, _, _, _, cr e6 rfl, sl_ints (l := [0, 1]) rfl e5 (by show (2 : Nat) < _; omega)⟩
  | i + 4, hx => simp [exU] at hx
 ·intro i x hx
  match i, hx with
  | 0, hx => cases hx; exact ⟨_, rfl, cr e9 rfl, cr e9 rfl, _, _, _, cr e9 rfl, sl_ints (l := [0, 1, 2]) rfl e7 (by show (3 : Nat) < _; omega)⟩
  | 1, hx => cases hx; exact ⟨_, rfl, cr e9 rfl, cr e9 rfl, _, _, _, cr e9 rfl, sl_ints (l := [0, 2]) rfl e8 (by show (2 : Nat) < _; omega)⟩
  | i + 2, hx => simp [exU] at hx
set_option maxRecDepth 100000 in
theorem c52 {h : LH} : Gr Tryz.prog 52 #[] h fun r h' => ∃ f, r = fileV f exU ∧ FileR h'.get f exU := by
 refine w52 X0_ok ?_
 unfold n52
 refine t_pu (c42 _ _) ?_
 refine gZ ?_
 refine t_buildG und22 inf30 (by decide) (by decide) (cells := #[.int .i64 21, .int .i64 23]) (by kernel_rfl) fun r1 h1 le1 _ e1 => ?_
 refine gZ ?_
 refine t_pu (c42 _ _) ?_
 refine gZ ?_
 refine t_buildG und50 inf3 (by decide) (by decide) (cells := #[.int .i64 0, .int .i64 1]) (by kernel_rfl) fun r2 h2 le2 _ e2 => ?_
 refine gZ ?_
 refine t_pu (c42 _ _) ?_
 refine gZ ?_
 refine t_buildG und50 inf3 (by decide) (by decide) (cells := #[.int .i64 0]) (by kernel_rfl) fun r3 h3 le3 _ e3 => ?_
 refine gZ ?_
 refine t_pu (c42 _ _) ?_
 refine gZ ?_
 refine t_buildG und50 inf3 (by decide) (by decide) (cells := #[.int .i64 2]) (by kernel_rfl) fun r4 h4 le4 _ e4 => ?_
 refine gZ ?_
 refine t_pu (c42 _ _) ?_
 refine gZ ?_
 refine t_buildG und50 inf3 (by decide) (by decide) (cells := #[.int .i64 0, .int .i64 1]) (by kernel_rfl) fun r5 h5 le5 _ e5 => ?_
 refine gZ ?_
 refine t_buildG und23 inf69 (by decide) (by decide) (cells := #[.int .i64 12, .int .i64 14, .int .i64 0, .slice (some ⟨r2, 0, none⟩) 2 2, .int .i64 19, .int .i64 19, .int .i64 0, .slice (some ⟨r3, 0, none⟩) 1 1, .int .i64 17, .int .i64 26, .int .i64 0, .slice (some ⟨r4, 0, none⟩) 1 1, .int .i64 18, .int .i64 18, .int .i64 1, .slice (some ⟨r5, 0, none⟩) 2 2]) (by kernel_rfl) fun r6 h6 le6 _ e6 => ?_
 refine gZ ?_
 refine t_buildG und50 inf3 (by decide) (by decide) (cells := #[.int .i64 0, .int .i64 1, .int .i64 2]) (by kernel_rfl) fun r7 h7 le7 _ e7 => ?_
 refine gZ ?_
 refine t_buildG und50 inf3 (by decide) (by decide) (cells := #[.int .i64 0, .int .i64 2]) (by kernel_rfl) fun r8 h8 le8 _ e8 => ?_
 refine gZ ?_
 refine t_buildG und24 inf64 (by decide) (by decide) (cells := #[.int .i64 20, .int .i64 0, .slice (some ⟨r7, 0, none⟩) 3 3, .int .i64 25, .int .i64 0, .slice (some ⟨r8, 0, none⟩) 2 2]) (by kernel_rfl) fun r9 h9 le9 _ e9 => ?_
 refine gZ ?_
 have l89 := le9
 have l79 := LH.le_trans le8 l89
 have l69 := LH.le_trans le7 l79
 have l59 := LH.le_trans le6 l69
 have l49 := LH.le_trans le5 l59
 have l39 := LH.le_trans le4 l49
 have l29 := LH.le_trans le3 l39
 have l19 := LH.le_trans le2 l29
 have e1 := l19.1 _ _ e1
 have e2 := l29.1 _ _ e2
 have e3 := l39.1 _ _ e3
 have e4 := l49.1 _ _ e4
 have e5 := l59.1 _ _ e5
 have e6 := l69.1 _ _ e6
 have e7 := l79.1 _ _ e7
 have e8 := l89.1 _ _ e8
 refine t_ret ⟨LH.le_trans le1 l19, ⟨some ⟨r1, 0, none⟩, 1, 1, some ⟨r6, 0, none⟩, 4, 4, some ⟨r9, 0, none⟩, 2, 2⟩, rfl, ?_⟩
 exact exRep e1 e2 e3 e4 e5 e6 e7 e8 e9
end Go.Proofs.YtldamlcehbdkdaaGreatDoor
end
section
namespace Go.Proofs.YtldamlcehbdkdaaGreatDoor
open Go Go.TM Go.Proofs
attribute [local irreducible] T.wp CV FWK
theorem le_updNew {h h' : LH} {m : Nat} {x : Bool × Obj} (hl : h.le h') (hm : h.get m = none) : h.le { h' with get := h'.get.upd m x } := ⟨fun b y hb => by
 have : b ≠ m := by rintro rfl; rw [hm] at hb; cases hb
 show h'.get.upd m x b = _
 rw [Cells.upd_ne _ _ this]; exact hl.1 b y hb, hl.2⟩
theorem mapAt_le {h h' : Cells} {m : Nat} {es : Array MapEntry} (hl : h.le h') (hm : MapAt h m es) : MapAt h' m es := by
 obtain ⟨c, hc⟩ := hm
 exact ⟨c, hl _ _ hc⟩
theorem und1248 : Tryz.prog.underlying 314 = some (.map 316 4) := by kernel_rfl
theorem und1251 : Tryz.prog.underlying 317 = some (.map 260 4) := by kernel_rfl
theorem und1252 : Tryz.prog.underlying 318 = some (.map 262 4) := by kernel_rfl
theorem und1215 : Tryz.prog.underlying 243 = some (.slice 242) := by kernel_rfl
theorem inf157 : (Tryz.prog.info? 242).map (fun i => (i.size, i.bytes, i.zero)) = some (1, 8, some .nilFunc) := by kernel_rfl
theorem keyPl (e : Int) (s : ByteArray) : FKey Tryz.prog 316 (.agg #[.int .i64 e, .string s]) := .inr ⟨[.int .i64 e, .string s], rfl, flat_of (ks := [.i, .s]) (by kernel_rfl) rfl (fun i k v hk hv => by
 match i, hk, hv with
 | 0, hk, hv => cases hk; cases hv; exact ⟨_, rfl⟩
 | 1, hk, hv => cases hk; cases hv; exact ⟨_, rfl⟩)⟩
theorem keyMv (a b c : Int) : FKey Tryz.prog 260 (.agg #[.int .i64 a, .int .i64 b, .int .i64 c]) := .inr ⟨_, rfl, flatMv a b c⟩
theorem keyKn (a b c d : Int) : FKey Tryz.prog 262 (.agg #[.int .i64 a, .int .i64 b, .int .i64 c, .int .i64 d]) := .inr ⟨[.int .i64 a, .int .i64 b, .int .i64 c, .int .i64 d], rfl, flat_ints (vs := [a, b, c, d]) (by kernel_rfl)⟩
def SeenI (t : GTab) (i j : Nat) (e : MapEntry) : Prop := ∃ (a b : Nat) (l : List GItem) (x : GItem), (a < i ∨ (a = i ∧ b < j)) ∧ t.eds[a]? = some l ∧ l[b]? = some x ∧ e.key = .agg #[.int .i64 a, .string x.name]
set_option maxRecDepth 10000 in
theorem c3180 {h : LH} {f : TabC} {t : GTab} (hr : TabR h.get f t) (ok : TabOk t) : Gr Tryz.prog 153 #[tabV f] h fun r _ => r = .int .i64 0 := by
 refine w3180 _ _ _ _ _ _ _ _ _ X0_ok ?_
 unfold n3180
 have hn0 := hr.eds.1
 have hb0 := hr.eds.2.1
 have hmany := ok.many
 refine t_pu (c3183 _ _ _) ?_
 rw [in_iff.2 (show (1 : Int) ≤ (f.n0 : Int) ∧ (f.n0 : Int) ≤ 3 by omega)]
 refine gZ ?_
 refine t_cond (fun e => by cases e) (fun _ => ?_)
 refine t_makeMap fun m hm => ?_
 refine gZ ?_
 refine t_loop (fun mm vs h' => h.le h' ∧ ∃ (i : Nat) (es : Array MapEntry), vs = [.int .i64 0, .int .i64 i] ∧ i ≤ f.n0 ∧ mm = f.n0 - i ∧ MapAt h'.get m es ∧ ∀ e ∈ es.toList, SeenI t i 0 e)
  ⟨LH.upd_le hm, 0, #[], rfl, Nat.zero_le _, rfl, ⟨0, Cells.upd_self _ _ _⟩, fun e he => by simp at he⟩ ?_
 rintro Y mm vs h1 hY ⟨le1, i, es, rfl, hi, rfl, hme, hseen⟩
 refine gZ ?_
 refine t_if (fun e1 => ?_) (fun e1 => ?_)
 ·obtain ⟨l, a, hl, ha, q, n, c, e2, e3⟩ := hr.eds.at (i := i) (by omega)
  have hin : 0 ≤ (i : Int) ∧ (i : Int) < (f.n0 : Int) := by omega
  have e2' := Cells.cell?_le le1.1 e2
  have hn := e3.1
  have ol := ok.eds l (List.mem_of_getElem? hl)
  have h8 := ol.many
  refine gZ ?_
  refine t_if (fun e => by omega) (fun _ => ?_)
  refine t_loop (fun mm vs h' => h.le h' ∧ ∃ (j : Nat) (es : Array MapEntry), vs = [.int .i64 0, .int .i64 j] ∧ j ≤ n ∧ mm = n - j ∧ MapAt h'.get m es ∧ ∀ e ∈ es.toList, SeenI t i j e)
   ⟨le1, 0, es, rfl, Nat.zero_le _, rfl, hme, hseen⟩ ?_
  rintro Y2 mm vs h2 hY2 ⟨le2, j, es2, rfl, hj, rfl, hme2, hseen2⟩
  refine gZ ?_
  refine t_if (fun e4 => ?_) (fun e4 => ?_)
  ·obtain ⟨x, b, hx, hb', g1, g2⟩ := e3.at (i := j) (by omega)
   have hjn : 0 ≤ (j : Int) ∧ (j : Int) < (n : Int) := by omega
   have g1' := Cells.cell?_le le2.1 g1
   have g2' := Cells.cell?_le le2.1 g2
   have hxm := List.mem_of_getElem? hx
   have hcls := ol.cls x hxm
   refine gZ ?_
   repeat ((first | refine t_loadStr (by assumption) ?_ | refine t_loadV (by assumption) ?_ | refine gL0 (by assumption) ?_); refine gZ ?_)
   refine t_gr (c3208 (ol.name x hxm)) ?_
   rintro _ h3 le3 rfl
   have le03 := LH.le_trans le2 le3
   have hme3 := mapAt_le le3.1 hme2
   have hkeys : ∀ e ∈ es2.toList, FKey Tryz.prog 316 e.key := fun e he => by
    obtain ⟨a', b', l', x', _, _, _, hk⟩ := hseen2 e he
    rw [hk]; exact keyPl _ _
   refine gZ ?_
   refine t_cond (fun e => by cases e) (fun _ => ?_)
   refine t_lookupK und1248 inf4 hme3 (keyPl _ _) hkeys (fun e he hk => ?_) fun _ => ?_
   ·exfalso
    obtain ⟨a', b', l', x', hlt, hl', hx', hk'⟩ := hseen2 e he
    rw [hk'] at hk
    have heq : [Value.int .i64 (a' : Int), .string x'.name] = [.int .i64 (i : Int), .string x.name] := agg_inj.1 hk
    simp only [List.cons.injEq, Value.int.injEq, Value.string.injEq, true_and, and_true] at heq
    have hai : a' = i := by omega
    subst hai
    rw [hl] at hl'; cases hl'
    exact ol.once b' j x' x (by omega) hx' hx heq.2
   simp only [Bool.false_eq_true, if_false]
   refine gZ ?_
   refine t_cond (fun e => by cases e) (fun _ => ?_)
   refine t_pu (c3183 _ _ _) ?_
   rw [in_iff.2 hcls]
   refine gZ ?_
   refine t_cond (fun e => by cases e) (fun _ => ?_)
   refine t_mapUpdateK und1248 hme3 (keyPl _ _) hkeys fun es3 c3 hes3 => ?_
   refine t_again (hY2 (n - (j + 1)) _ _ (by omega) ⟨le_updNew le03 hm, j + 1, es3, ?_, by omega, rfl, ⟨c3, Cells.upd_self _ _ _⟩, fun e he => ?_⟩)
   ·rw [wrap_id (by omega) (by omega)]; rfl
   ·rcases hes3 e he with ⟨hk, _⟩ | he'
    ·exact ⟨i, j, l, x, .inr ⟨rfl, by omega⟩, hl, hx, hk⟩
    ·obtain ⟨a', b', l', x', hlt, hl', hx', hk'⟩ := hseen2 e he'
     exact ⟨a', b', l', x', by omega, hl', hx', hk'⟩
  ·refine gZ ?_
   refine t_again (hY (f.n0 - (i + 1)) _ _ (by omega) ⟨le2, i + 1, es2, ?_, by omega, rfl, hme2, fun e he => ?_⟩)
   ·rw [wrap_id (by omega) (by omega)]; rfl
   ·obtain ⟨a', b', l', x', hlt, hl', hx', hk'⟩ := hseen2 e he
    exact ⟨a', b', l', x', .inl (by omega), hl', hx', hk'⟩
 ·refine gZ ?_
  exact t_ret ⟨le1, rfl⟩
theorem edition_in {t : GTab} {e n : Int} (h : itemB t e n) : isIn e 0 ((t.eds.length : Int) - 1) = true := in_iff.2 ⟨h.1, by have := h.2.1; omega⟩
def SeenM (t : GTab) (i : Nat) (e : MapEntry) : Prop := ∃ (a : Nat) (x : GMv), a < i ∧ t.moves[a]? = some x ∧ e.key = .agg #[.int .i64 x.ed, .int .i64 x.src, .int .i64 x.dst]
set_option maxRecDepth 10000 in
theorem c3181 {h : LH} {f : TabC} {t : GTab} (hr : TabR h.get f t) (ok : TabOk t) : Gr Tryz.prog 154 #[tabV f] h fun r _ => r = .int .i64 0 := by
 refine w3181 _ _ _ _ _ _ _ _ _ X0_ok ?_
 unfold n3181
 have hn1 := hr.moves.1
 have hb1 := hr.moves.2.1
 have hmv := ok.moves
 have hmany := ok.many
 refine t_if (fun e => by omega) (fun _ => ?_)
 refine t_makeMap fun m hm => ?_
 refine gZ ?_
 refine t_loop (fun mm vs h' => h.le h' ∧ ∃ (i : Nat) (es : Array MapEntry), vs = [.int .i64 0, .int .i64 i] ∧ i ≤ f.n1 ∧ mm = f.n1 - i ∧ MapAt h'.get m es ∧ ∀ e ∈ es.toList, SeenM t i e)
  ⟨LH.upd_le hm, 0, #[], rfl, Nat.zero_le _, rfl, ⟨0, Cells.upd_self _ _ _⟩, fun e he => by simp at he⟩ ?_
 rintro Y mm vs h1 hY ⟨le1, i, es, rfl, hi, rfl, hme, hseen⟩
 refine gZ ?_
 refine t_if (fun e1 => ?_) (fun e1 => ?_)
 ·obtain ⟨x, a, hx, ha, g1, g2, g3⟩ := hr.moves.at (i := i) (by omega)
  have hin : 0 ≤ (i : Int) ∧ (i : Int) < (f.n1 : Int) := by omega
  have g1 := Cells.cell?_le le1.1 g1
  have g2 := Cells.cell?_le le1.1 g2
  have g3 := Cells.cell?_le le1.1 g3
  obtain ⟨o1, o2⟩ := ok.move x (List.mem_of_getElem? hx)
  have hr1 := hr.le le1.1
  have h01 := o1.1
  have h02 := o1.2.1
  have ew : IntKind.wrap .i64 (x.ed + 1) = x.ed + 1 := wrap_id (by omega) (by omega)
  have hkeys : ∀ e ∈ es.toList, FKey Tryz.prog 260 e.key := fun e he => by
   obtain ⟨a', x', _, _, hk⟩ := hseen e he
   rw [hk]; exact keyMv _ _ _
  refine gZ ?_
  rw [ew]
  refine t_pu (c3161 hr1 _) ?_
  rw [edition_in o1]
  refine gZ ?_
  refine t_cond (fun e => by cases e) (fun _ => ?_)
  refine t_pu (c3161 hr1 _) ?_
  rw [edition_in o2]
  refine gZ ?_
  refine t_cond (fun e => by cases e) (fun _ => ?_)
  refine t_pu (c3168 hr1 _ _) ?_
  rw [item_is.2 o1]
  refine gZ ?_
  refine t_cond (fun e => by cases e) (fun _ => ?_)
  refine t_pu (c3168 hr1 _ _) ?_
  rw [item_is.2 o2]
  refine gZ ?_
  refine t_cond (fun e => by cases e) (fun _ => ?_)
  refine t_lookupK und1251 inf4 hme (keyMv _ _ _) hkeys (fun e he hk => ?_) fun _ => ?_
  ·exfalso
   obtain ⟨a', x', hlt, hx', hk'⟩ := hseen e he
   rw [hk'] at hk
   have heq : [Value.int .i64 x'.ed, .int .i64 x'.src, .int .i64 x'.dst] = [.int .i64 x.ed, .int .i64 x.src, .int .i64 x.dst] := agg_inj.1 hk
   simp only [List.cons.injEq, Value.int.injEq, true_and, and_true] at heq
   exact ok.moveOnce a' i x' x hlt hx' hx heq
  simp only [Bool.false_eq_true, if_false]
  refine gZ ?_
  refine t_cond (fun e => by cases e) (fun _ => ?_)
  refine t_mapUpdateK und1251 hme (keyMv _ _ _) hkeys fun es3 c3 hes3 => ?_
  refine t_again (hY (f.n1 - (i + 1)) _ _ (by omega) ⟨le_updNew le1 hm, i + 1, es3, ?_, by omega, rfl, ⟨c3, Cells.upd_self _ _ _⟩, fun e he => ?_⟩)
  ·rw [wrap_id (by omega) (by omega)]; rfl
  ·rcases hes3 e he with ⟨hk, _⟩ | he'
   ·exact ⟨i, x, by omega, hx, hk⟩
   ·obtain ⟨a', x', hlt, hx', hk'⟩ := hseen e he'
    exact ⟨a', x', by omega, hx', hk'⟩
 ·refine gZ ?_
  exact t_ret ⟨le1, rfl⟩
def SeenK (t : GTab) (i : Nat) (e : MapEntry) : Prop := ∃ (a : Nat) (x : GKn), a < i ∧ t.kins[a]? = some x ∧ e.key = .agg #[.int .i64 x.ed, .int .i64 x.one, .int .i64 x.two, .int .i64 0]
set_option maxRecDepth 10000 in
theorem c3182 {h : LH} {f : TabC} {t : GTab} (hr : TabR h.get f t) (ok : TabOk t) : Gr Tryz.prog 155 #[tabV f] h fun r _ => r = .int .i64 0 := by
 refine w3182 _ _ _ _ _ _ _ _ _ X0_ok ?_
 unfold n3182
 have hn1 := hr.kins.1
 have hb1 := hr.kins.2.1
 have hmv := ok.kins
 refine t_if (fun e => by omega) (fun _ => ?_)
 refine t_makeMap fun m hm => ?_
 refine gZ ?_
 refine t_loop (fun mm vs h' => h.le h' ∧ ∃ (i : Nat) (es : Array MapEntry), vs = [.int .i64 0, .int .i64 i] ∧ i ≤ f.n2 ∧ mm = f.n2 - i ∧ MapAt h'.get m es ∧ ∀ e ∈ es.toList, SeenK t i e)
  ⟨LH.upd_le hm, 0, #[], rfl, Nat.zero_le _, rfl, ⟨0, Cells.upd_self _ _ _⟩, fun e he => by simp at he⟩ ?_
 rintro Y mm vs h1 hY ⟨le1, i, es, rfl, hi, rfl, hme, hseen⟩
 refine gZ ?_
 refine t_if (fun e1 => ?_) (fun e1 => ?_)
 ·obtain ⟨x, a, hx, ha, g1, g2, g3, g4⟩ := hr.kins.at (i := i) (by omega)
  have hin : 0 ≤ (i : Int) ∧ (i : Int) < (f.n2 : Int) := by omega
  have g1 := Cells.cell?_le le1.1 g1
  have g2 := Cells.cell?_le le1.1 g2
  have g3 := Cells.cell?_le le1.1 g3
  have g4 := Cells.cell?_le le1.1 g4
  obtain ⟨o1, o2, o3, o4, o5⟩ := ok.kin x (List.mem_of_getElem? hx)
  have hr1 := hr.le le1.1
  have hkeys : ∀ e ∈ es.toList, FKey Tryz.prog 262 e.key := fun e he => by
   obtain ⟨a', x', _, _, hk⟩ := hseen e he
   rw [hk]; exact keyKn _ _ _ _
  refine gZ ?_
  refine t_blk (fun vs h' => vs = [.bool false] ∧ h1 = h') ?_ ?_
  ·refine t_pu (c3161 hr1 _) ?_
   rw [edition_in o1]
   refine gZ ?_
   refine t_cond (fun e => by cases e) (fun _ => ?_)
   refine t_pu (c3168 hr1 _ _) ?_
   rw [item_is.2 o1]
   refine gZ ?_
   refine t_cond (fun e => by cases e) (fun _ => ?_)
   refine t_pu (c3168 hr1 _ _) ?_
   rw [item_is.2 o2]
   refine gZ ?_
   exact t_again ⟨rfl, rfl⟩
  rintro vs _ ⟨rfl, rfl⟩
  refine gZ ?_
  refine t_cond (fun e => by cases e) (fun _ => ?_)
  refine t_if (fun e => by omega) (fun _ => ?_)
  refine t_pu (c3183 _ _ _) ?_
  rw [in_iff.2 ⟨o4, o5⟩]
  refine gZ ?_
  refine t_cond (fun e => by cases e) (fun _ => ?_)
  refine t_lookupK und1252 inf4 hme (keyKn _ _ _ _) hkeys (fun e he hk => ?_) fun _ => ?_
  ·exfalso
   obtain ⟨a', x', hlt, hx', hk'⟩ := hseen e he
   rw [hk'] at hk
   have heq : [Value.int .i64 x'.ed, .int .i64 x'.one, .int .i64 x'.two, .int .i64 0] = [.int .i64 x.ed, .int .i64 x.one, .int .i64 x.two, .int .i64 0] := agg_inj.1 hk
   simp only [List.cons.injEq, Value.int.injEq, true_and, and_true] at heq
   exact ok.kinOnce a' i x' x hlt hx' hx heq
  simp only [Bool.false_eq_true, if_false]
  refine gZ ?_
  refine t_cond (fun e => by cases e) (fun _ => ?_)
  refine t_mapUpdateK und1252 hme (keyKn _ _ _ _) hkeys fun es3 c3 hes3 => ?_
  refine t_again (hY (f.n2 - (i + 1)) _ _ (by omega) ⟨le_updNew le1 hm, i + 1, es3, ?_, by omega, rfl, ⟨c3, Cells.upd_self _ _ _⟩, fun e he => ?_⟩)
  ·rw [wrap_id (by omega) (by omega)]; rfl
  ·rcases hes3 e he with ⟨hk, _⟩ | he'
   ·exact ⟨i, x, by omega, hx, hk⟩
   ·obtain ⟨a', x', hlt, hx', hk'⟩ := hseen e he'
    exact ⟨a', x', by omega, hx', hk'⟩
 ·refine gZ ?_
  exact t_ret ⟨le1, rfl⟩
set_option maxRecDepth 10000 in
theorem c3160 {h : LH} {f : TabC} {t : GTab} (hr : TabR h.get f t) (ok : TabOk t) : Gr Tryz.prog 106 #[tabV f] h fun r _ => r = .int .i64 0 := by
 refine w3160 _ _ _ _ _ _ _ _ _ X0_ok ?_
 unfold n3160
 refine t_buildG und1215 inf157 (by decide) (by decide) (cells := #[.func (.func 153) #[tabV f] #[], .func (.func 154) #[tabV f] #[], .func (.func 155) #[tabV f] #[]]) (by kernel_rfl) fun r h1 le1 hr0 e1 => ?_
 refine gZ ?_
 refine t_loop (fun mm vs h' => h1.le h' ∧ ∃ i : Nat, vs = [.int .i64 0, .int .i64 i] ∧ i ≤ 3 ∧ mm = 3 - i) ⟨LH.le_refl _, 0, rfl, by omega, rfl⟩ ?_
 rintro Y mm vs h2 hY ⟨le2, i, rfl, hi, rfl⟩
 have le02 := LH.le_trans le1 le2
 have hr2 := hr.le le02.1
 refine gZ ?_
 refine t_if (fun e2 => ?_) (fun e2 => ?_)
 ·have hin : 0 ≤ (i : Int) ∧ (i : Int) < ((3 : Nat) : Int) := by omega
  have next : ∀ h3 : LH, h2.le h3 → Y [.int .i64 0, .int .i64 (IntKind.wrap .i64 ((i : Int) + 1))] h3 := fun h3 le3 => by
   refine hY (3 - (i + 1)) _ _ (by omega) ⟨LH.le_trans le2 le3, i + 1, ?_, by omega, rfl⟩
   rw [wrap_id (by omega) (by omega)]; rfl
  have hcell : ∀ v, (#[Value.func (.func 153) #[tabV f] #[], .func (.func 154) #[tabV f] #[], .func (.func 155) #[tabV f] #[]])[i]? = some v → h2.get.cell? (Addr.add ⟨r, 0, none⟩ (i * 1)) = some v := fun v hv => by
   refine Cells.cell?_le le2.1 ?_
   rw [add_plain, Nat.zero_add, Nat.mul_one]
   unfold Cells.cell?
   rw [e1]
   exact hv
  have run : ∀ (fid : FuncId), Gr Tryz.prog fid #[tabV f] h2 (fun r _ => r = .int .i64 0) → CV X0 Tryz.prog (.func (.func fid) #[tabV f] #[]) #[] h2 fun r h' => h2.le h' ∧ r = .int .i64 0 := fun fid hg => cv_fw X0_ok (by rfl) hg
  match i, e2, hcell, run, next with
  | 0, _, hcell, run, next =>
   have hc := hcell _ rfl
   refine gZ ?_
   repeat ((first | refine t_loadStr (by assumption) ?_ | refine t_loadV (by assumption) ?_ | refine gL0 (by assumption) ?_); refine gZ ?_)
   refine t_callv (run _ (c3180 hr2 ok)) ?_
   rintro _ h3 ⟨le3, rfl⟩
   refine gZ ?_
   refine t_cond (fun e => by cases e) (fun _ => ?_)
   exact t_again (next h3 le3)
  | 1, _, hcell, run, next =>
   have hc := hcell _ rfl
   refine gZ ?_
   repeat ((first | refine t_loadStr (by assumption) ?_ | refine t_loadV (by assumption) ?_ | refine gL0 (by assumption) ?_); refine gZ ?_)
   refine t_callv (run _ (c3181 hr2 ok)) ?_
   rintro _ h3 ⟨le3, rfl⟩
   refine gZ ?_
   refine t_cond (fun e => by cases e) (fun _ => ?_)
   exact t_again (next h3 le3)
  | 2, _, hcell, run, next =>
   have hc := hcell _ rfl
   refine gZ ?_
   repeat ((first | refine t_loadStr (by assumption) ?_ | refine t_loadV (by assumption) ?_ | refine gL0 (by assumption) ?_); refine gZ ?_)
   refine t_callv (run _ (c3182 hr2 ok)) ?_
   rintro _ h3 ⟨le3, rfl⟩
   refine gZ ?_
   refine t_cond (fun e => by cases e) (fun _ => ?_)
   exact t_again (next h3 le3)
  | i + 3, e2, _, _, _ => omega
 ·refine gZ ?_
  exact t_ret ⟨le02, rfl⟩
end Go.Proofs.YtldamlcehbdkdaaGreatDoor
end
section
namespace Go.Proofs.YtldamlcehbdkdaaGreatDoor
open Go Go.TM Go.Proofs
attribute [local irreducible] T.wp CV FWK
theorem t_pushI {X : XP} {Q : Leaf → LH → Prop} {h h₀ : LH} {k : Value → T} {p : Option Addr} {n c : Nat} {l : List Int} {x : Int} (g : Growing IntEnc 3 1 h₀.get h.get p n c l) (hle : h₀.le h) (hn : n + 1 ≤ 2 ^ 30)
  (hk : ∀ p' c' h', h₀.le h' → Growing IntEnc 3 1 h₀.get h'.get p' (n + 1) c' (l ++ [x]) → (k (.slice p' (n + 1) c')).wp X Tryz.prog Q h') :
  (T.sem false (Instr.buildSlice 30 1 #[(0, .int .i64 x)]) fun v => T.unS v fun a m c2 => T.sem false (Builtin.append_ #[30, 30] 30 #[.slice p n c, .slice a m c2]) k).wp X Tryz.prog Q h := by
 refine t_build und50 inf3 (by decide) (by decide) (cells := #[.int .i64 x]) (by kernel_rfl) fun r hr => ?_
 have le2 : h.le _ := LH.upd_le (x := (true, .cells #[.int .i64 x] 3 (0, 0))) hr
 refine gG ?_
 refine t_grow (h₀ := h₀) (x := x) (ws := [.int .i64 x]) rfl rfl und50 und50 inf3 rfl (by omega) hn (g.le le2.1) (LH.le_trans hle le2) rfl rfl ?_ ?_ ?_
 ·intro j w hj
  rw [add_plain, Nat.zero_add]
  exact cell_upd (by simpa using hj)
 ·intro w hw; simp at hw; subst hw; rfl
 ·intro p' c' h₂ hle2 _ g2
  exact hk p' c' h₂ hle2 g2
end Go.Proofs.YtldamlcehbdkdaaGreatDoor
end
section
namespace Go.Proofs.YtldamlcehbdkdaaGreatDoor
open Go Go.TM Go.Proofs
set_option linter.unusedVariables false
set_option maxRecDepth 100000
variable {X : XP} {h : LH} {A : Value → LH → Prop}
noncomputable def n3133 (t_0p : Option Addr) (t_0n t_0c : Nat) (t_1p : Option Addr) (t_1n t_1c : Nat) (t_2p : Option Addr) (t_2n t_2c : Nat) (edition : Int) (listsp : Option Addr) (listsn listsc : Nat) : T := .call false 106 #[.agg #[.slice t_0p t_0n t_0c, .slice t_1p t_1n t_1c, .slice t_2p t_2n t_2c]] fun v => .unI .i64 v fun n => bif n != 0 then .leaf (.ret (.tuple #[.agg #[.slice t_0p t_0n t_0c, .slice t_1p t_1n t_1c, .slice t_2p t_2n t_2c], .int .i64 n])) else .call false 107 #[.agg #[.slice t_0p t_0n t_0c, .slice t_1p t_1n t_1c, .slice t_2p t_2n t_2c], .int .i64 edition] fun v => .unB v fun b => bif !b then .leaf (.ret (.tuple #[.agg #[.slice t_0p t_0n t_0c, .slice t_1p t_1n t_1c, .slice t_2p t_2n t_2c], .int .i64 6])) else .loop [.int .i64 0, .int .i64 0, .slice none 0 0, .slice none 0 0, .slice none 0 0] (fun vs => .popI .i64 vs fun n vs => .popI .i64 vs fun n_1 vs => .popS vs fun a n_2 c vs => .popS vs fun a_1 n_3 c_1 vs => .popS vs fun a_2 n_4 c_2 vs => .unNil vs (bif decide (n_1 < (↑listsn : Int)) then .need (0 ≤ n_1 ∧ n_1 < (↑listsn : Int)) (.someA listsp fun a_3 => .loadS (a_3.add (n_1.toNat * 1)) fun p n_5 c_3 => .call false 67 #[.agg #[.slice t_0p t_0n t_0c, .slice t_1p t_1n t_1c, .slice t_2p t_2n t_2c], .int .i64 edition, .slice p n_5 c_3] fun v => .unI .i64 v fun n_6 => bif n_6 != 0 then .leaf (.retn [.int .i64 n_6, .int .i64 n_1, .slice t_0p t_0n t_0c, .slice t_1p t_1n t_1c, .slice t_2p t_2n t_2c]) else .leaf (.again [.int .i64 n, .int .i64 (IntKind.wrap .i64 (n_1 + 1)), .slice a n_2 c, .slice a_1 n_3 c_1, .slice a_2 n_4 c_2])) else .leaf (.brk [.int .i64 n, .int .i64 n_1, .slice a n_2 c, .slice a_1 n_3 c_1, .slice a_2 n_4 c_2]))) (fun vs => .popI .i64 vs fun n vs => .popI .i64 vs fun n vs => .popS vs fun a n c vs => .popS vs fun a n c vs => .popS vs fun a n c vs => .unNil vs (.leaf (.ret (.tuple #[.agg #[.slice t_0p t_0n t_0c, .slice t_1p t_1n t_1c, .slice t_2p t_2n t_2c], .int .i64 0])))) (fun vs => .popI .i64 vs fun n vs => .popI .i64 vs fun n_1 vs => .popS vs fun a n_2 c vs => .popS vs fun a_1 n_3 c_1 vs => .popS vs fun a_2 n_4 c_2 vs => .unNil vs (.leaf (.ret (.tuple #[.agg #[.slice a n_2 c, .slice a_1 n_3 c_1, .slice a_2 n_4 c_2], .int .i64 n])))) fun x x_1 => .fail
theorem w3133 (t_0p : Option Addr) (t_0n t_0c : Nat) (t_1p : Option Addr) (t_1n t_1c : Nat) (t_2p : Option Addr) (t_2n t_2c : Nat) (edition : Int) (listsp : Option Addr) (listsn listsc : Nat) (hX : XOK X) (hw : (n3133 t_0p t_0n t_0c t_1p t_1n t_1c t_2p t_2n t_2c edition listsp listsn listsc).wp X Tryz.prog (retQ A) h) : FWK X Tryz.prog .normal 63 #[.agg #[.slice t_0p t_0n t_0c, .slice t_1p t_1n t_1c, .slice t_2p t_2n t_2c], .int .i64 edition, .slice listsp listsn listsc] h A := fwk_neat (show ftree ({ P := Tryz.prog, priv := [3, 6, 8], loops := [{ id := 0, slots := [(7, .int .i64), (28, .int .i64), (28672, .slice), (28673, .slice), (28674, .slice)], ro := [3, 8], outs := [] }], joins := [] }) Tryz.f63 [.agg #[.slice t_0p t_0n t_0c, .slice t_1p t_1n t_1c, .slice t_2p t_2n t_2c], .int .i64 edition, .slice listsp listsn listsc] = n3133 t_0p t_0n t_0c t_1p t_1n t_1c t_2p t_2n t_2c edition listsp listsn listsc by kernel_rfl) (by simp) (by kernel_rfl) (by kernel_rfl) hX hw
noncomputable def n3113 (t_0p : Option Addr) (t_0n t_0c : Nat) (t_1p : Option Addr) (t_1n t_1c : Nat) (t_2p : Option Addr) (t_2n t_2c : Nat) (edition : Int) (oldp : Option Addr) (oldn oldc : Nat) (nowp : Option Addr) (nown nowc : Nat) : T := .new 30 #[.slice oldp oldn oldc] fun r => .loadS { block := r, off := 0 } fun p n c => .sem false (Instr.buildSlice 141 2 #[(0, .slice p n c), (1, .slice nowp nown nowc)]) fun v => .unS v fun a n c => .call false 63 #[.agg #[.slice t_0p t_0n t_0c, .slice t_1p t_1n t_1c, .slice t_2p t_2n t_2c], .int .i64 edition, .slice a n c] fun v => .unTup v fun l => .unCons l fun v vs => .unAgg v fun l => .popS l fun a n c vs_1 => .popS vs_1 fun a n c vs_2 => .popS vs_2 fun a n c vs_3 => .unNil vs_3 (.unCons vs fun v vs => .unI .i64 v fun n => .unNil vs (bif n != 0 then .leaf (.ret (.tuple #[.int .i64 0, .int .i64 n])) else .call false 64 #[.slice nowp nown nowc, .func (Fn.func 65) #[] #[.pointer (some { block := r, off := 0 })]] fun v => .unI .i64 v fun n => bif decide (n ≥ 0) then .need (0 ≤ n ∧ n < (↑nown : Int)) (.someA nowp fun a => .loadI .i64 (a.add (n.toNat * 1)) fun n => .leaf (.ret (.tuple #[.int .i64 n, .int .i64 0]))) else .leaf (.ret (.tuple #[.int .i64 (-1), .int .i64 0]))))
theorem w3113 (t_0p : Option Addr) (t_0n t_0c : Nat) (t_1p : Option Addr) (t_1n t_1c : Nat) (t_2p : Option Addr) (t_2n t_2c : Nat) (edition : Int) (oldp : Option Addr) (oldn oldc : Nat) (nowp : Option Addr) (nown nowc : Nat) (hX : XOK X) (hw : (n3113 t_0p t_0n t_0c t_1p t_1n t_1c t_2p t_2n t_2c edition oldp oldn oldc nowp nown nowc).wp X Tryz.prog (retQ A) h) : FWK X Tryz.prog .normal 19 #[.agg #[.slice t_0p t_0n t_0c, .slice t_1p t_1n t_1c, .slice t_2p t_2n t_2c], .int .i64 edition, .slice oldp oldn oldc, .slice nowp nown nowc] h A := fwk_neat (show ftree ({ P := Tryz.prog, priv := [4, 10], loops := [], joins := [] }) Tryz.f19 [.agg #[.slice t_0p t_0n t_0c, .slice t_1p t_1n t_1c, .slice t_2p t_2n t_2c], .int .i64 edition, .slice oldp oldn oldc, .slice nowp nown nowc] = n3113 t_0p t_0n t_0c t_1p t_1n t_1c t_2p t_2n t_2c edition oldp oldn oldc nowp nown nowc by kernel_rfl) (by simp) (by kernel_rfl) (by kernel_rfl) hX hw
noncomputable def n3114 (t_0p : Option Addr) (t_0n t_0c : Nat) (t_1p : Option Addr) (t_1n t_1c : Nat) (t_2p : Option Addr) (t_2n t_2c : Nat) (edition : Int) (listp : Option Addr) (listn listc : Nat) (cutsp : Option Addr) (cutsn cutsc : Nat) : T := .sem false (Instr.buildSlice 141 1 #[(0, .slice listp listn listc)]) fun v => .unS v fun a n c => .call false 63 #[.agg #[.slice t_0p t_0n t_0c, .slice t_1p t_1n t_1c, .slice t_2p t_2n t_2c], .int .i64 edition, .slice a n c] fun v => .unTup v fun l => .unCons l fun v vs => .unAgg v fun l => .popS l fun a n c vs_1 => .popS vs_1 fun a_1 n_1 c_1 vs_2 => .popS vs_2 fun a_2 n_2 c_2 vs_3 => .unNil vs_3 (.unCons vs fun v vs => .unI .i64 v fun n_3 => .unNil vs (bif n_3 != 0 then .leaf (.ret (.tuple #[.slice none 0 0, .int .i64 n_3])) else bif decide ((↑cutsn : Int) > 4) then .leaf (.ret (.tuple #[.slice none 0 0, .int .i64 2])) else .loop [.slice none 0 0, .int .i64 0, .int .i64 0] (fun vs => .popS vs fun a_3 n_4 c_3 vs => .popI .i64 vs fun n_5 vs => .popI .i64 vs fun n_6 vs => .unNil vs (bif decide (n_6 < (↑cutsn : Int)) then .need (0 ≤ n_6 ∧ n_6 < (↑cutsn : Int)) (.someA cutsp fun a_4 => .loadS ((a_4.add (n_6.toNat * 2)).add 0) fun p n_7 c_4 => .loadB ((a_4.add (n_6.toNat * 2)).add 1) fun b => .call false 67 #[.agg #[.slice a n c, .slice a_1 n_1 c_1, .slice a_2 n_2 c_2], .int .i64 edition, .slice p n_7 c_4] fun v => .unI .i64 v fun n => bif n != 0 then .leaf (.retn [.slice none 0 0, .int .i64 n, .int .i64 n_6]) else .leaf (.again [.slice a_3 n_4 c_3, .int .i64 n_5, .int .i64 (IntKind.wrap .i64 (n_6 + 1))])) else .leaf (.brk [.slice a_3 n_4 c_3, .int .i64 n_5, .int .i64 n_6]))) (fun vs => .popS vs fun a n c vs => .popI .i64 vs fun n_4 vs => .popI .i64 vs fun n_5 vs => .unNil vs (.call false 68 #[.slice listp listn listc] fun v => .unS v fun a_3 n_6 c_3 => .loop [.slice a_3 n_6 c_3, .int .i64 0] (fun vs => .popS vs fun a n c vs => .popI .i64 vs fun n_7 vs => .unNil vs (bif decide (n_7 < (↑cutsn : Int)) then .need (0 ≤ n_7 ∧ n_7 < (↑cutsn : Int)) (.someA cutsp fun a_4 => .loadS ((a_4.add (n_7.toNat * 2)).add 0) fun p n_8 c_4 => .loadB ((a_4.add (n_7.toNat * 2)).add 1) fun b => .new 57 #[.slice none 0 0, .bool false] fun r => .store (Addr.add { block := r, off := 0 } 0) (.slice p n_8 c_4) (.store (Addr.add { block := r, off := 0 } 1) (.bool b) (.call false 69 #[.slice a n c, .func (Fn.func 70) #[] #[.pointer (some { block := r, off := 0 })]] fun v => .unS v fun a n c => .leaf (.again [.slice a n c, .int .i64 (IntKind.wrap .i64 (n_7 + 1))])))) else .leaf (.brk [.slice a n c, .int .i64 n_7]))) (fun vs => .popS vs fun a n c vs => .popI .i64 vs fun n_7 vs => .unNil vs (.leaf (.ret (.tuple #[.slice a n c, .int .i64 0])))) (fun vs => .popS vs fun a_4 n_7 c_4 vs => .popI .i64 vs fun n_8 vs => .unNil vs (.leaf (.ret (.tuple #[.slice a n c, .int .i64 n_4])))) fun x x_1 => .fail)) (fun vs => .popS vs fun a n c vs => .popI .i64 vs fun n_4 vs => .popI .i64 vs fun n_5 vs => .unNil vs (.leaf (.ret (.tuple #[.slice a n c, .int .i64 n_4])))) fun x x_1 => .fail))
theorem w3114 (t_0p : Option Addr) (t_0n t_0c : Nat) (t_1p : Option Addr) (t_1n t_1c : Nat) (t_2p : Option Addr) (t_2n t_2c : Nat) (edition : Int) (listp : Option Addr) (listn listc : Nat) (cutsp : Option Addr) (cutsn cutsc : Nat) (hX : XOK X) (hw : (n3114 t_0p t_0n t_0c t_1p t_1n t_1c t_2p t_2n t_2c edition listp listn listc cutsp cutsn cutsc).wp X Tryz.prog (retQ A) h) : FWK X Tryz.prog .normal 21 #[.agg #[.slice t_0p t_0n t_0c, .slice t_1p t_1n t_1c, .slice t_2p t_2n t_2c], .int .i64 edition, .slice listp listn listc, .slice cutsp cutsn cutsc] h A := fwk_neat (show ftree ({ P := Tryz.prog, priv := [4, 10, 13], loops := [{ id := 0, slots := [(8, .slice), (9, .int .i64), (34, .int .i64)], ro := [4, 10], outs := [] }, { id := 2, slots := [(15, .slice), (51, .int .i64)], ro := [4, 10], outs := [] }], joins := [] }) Tryz.f21 [.agg #[.slice t_0p t_0n t_0c, .slice t_1p t_1n t_1c, .slice t_2p t_2n t_2c], .int .i64 edition, .slice listp listn listc, .slice cutsp cutsn cutsc] = n3114 t_0p t_0n t_0c t_1p t_1n t_1c t_2p t_2n t_2c edition listp listn listc cutsp cutsn cutsc by kernel_rfl) (by simp) (by kernel_rfl) (by kernel_rfl) hX hw
noncomputable def n3134 (sp : Option Addr) (sn sc : Nat) (f : Value) : T := .loop [.int .i64 0, .int .i64 0] (fun vs => .popI .i64 vs fun n vs => .popI .i64 vs fun n_1 vs => .unNil vs (bif decide (n_1 < (↑sn : Int)) then .need (0 ≤ n_1 ∧ n_1 < (↑sn : Int)) (.someA sp fun a => .loadI .i64 (a.add (n_1.toNat * 1)) fun n_2 => .callv false f #[.int .i64 n_2] fun v => .unB v fun b => bif b then .leaf (.retn [.int .i64 n_1, .int .i64 n_1]) else .leaf (.again [.int .i64 n, .int .i64 (IntKind.wrap .i64 (n_1 + 1))])) else .leaf (.brk [.int .i64 n, .int .i64 n_1]))) (fun vs => .popI .i64 vs fun n vs => .popI .i64 vs fun n vs => .unNil vs (.leaf (.ret (.int .i64 (-1))))) (fun vs => .popI .i64 vs fun n vs => .popI .i64 vs fun n_1 vs => .unNil vs (.leaf (.ret (.int .i64 n)))) fun x x_1 => .fail
theorem w3134 (sp : Option Addr) (sn sc : Nat) (f : Value) (hX : XOK X) (hw : (n3134 sp sn sc f).wp X Tryz.prog (retQ A) h) : FWK X Tryz.prog .normal 64 #[.slice sp sn sc, f] h A := fwk_neat (show ftree ({ P := Tryz.prog, priv := [], loops := [{ id := 0, slots := [(4, .int .i64), (8, .int .i64)], ro := [], outs := [] }], joins := [] }) Tryz.f64 [.slice sp sn sc, f] = n3134 sp sn sc f by kernel_rfl) (by simp) (by kernel_rfl) (by kernel_rfl) hX hw
noncomputable def n3135 (n : Int) (z0 : Addr) : T := .loadS z0 fun p n_1 c => .call false 66 #[.slice p n_1 c, .int .i64 n] fun v => .unB v fun b => .leaf (.ret (.bool !b))
theorem w3135 (n : Int) (z0 : Addr) (hX : XOK X) (hw : (n3135 n z0).wp X Tryz.prog (retQ A) h) : FWK X Tryz.prog .normal 65 #[.int .i64 n, .pointer (some z0)] h A := fwk_neat (show ftree ({ P := Tryz.prog, priv := [], loops := [], joins := [] }) Tryz.f65 [.int .i64 n, .pointer (some z0)] = n3135 n z0 by kernel_rfl) (by simp) (by kernel_rfl) (by kernel_rfl) hX hw
noncomputable def n3137 (sp : Option Addr) (sn sc : Nat) : T := .sem false (Sem.bind (eqGuard BinOp.eql 30 (Operand.tmp 3) (Operand.const (.slice none 0 0)) (.slice sp sn sc) (.slice none 0 0)) fun __r => binOp BinOp.eql 30 (.slice sp sn sc) (.slice none 0 0)) fun v => .unB v fun b => bif b then .leaf (.ret (.slice none 0 0)) else .sem false (Instr.buildSlice 30 0 #[]) fun v => .unS v fun a n c => .sem false (Builtin.append_ #[30, 30] 30 #[.slice a n c, .slice sp sn sc]) fun v => .unS v fun a n c => .leaf (.ret (.slice a n c))
theorem w3137 (sp : Option Addr) (sn sc : Nat) (hX : XOK X) (hw : (n3137 sp sn sc).wp X Tryz.prog (retQ A) h) : FWK X Tryz.prog .normal 68 #[.slice sp sn sc] h A := fwk_neat (show ftree ({ P := Tryz.prog, priv := [], loops := [], joins := [] }) Tryz.f68 [.slice sp sn sc] = n3137 sp sn sc by kernel_rfl) (by simp) (by kernel_rfl) (by kernel_rfl) hX hw
noncomputable def n3138 (sp : Option Addr) (sn sc : Nat) (del : Value) : T := .call false 64 #[.slice sp sn sc, del] fun v => .unI .i64 v fun n => bif n == -1 then .leaf (.ret (.slice sp sn sc)) else .loop [.int .i64 n, .int .i64 (IntKind.wrap .i64 (n + 1))] (fun vs => .popI .i64 vs fun n vs => .popI .i64 vs fun n_1 vs => .unNil vs (bif decide (n_1 < (↑sn : Int)) then .need (0 ≤ n_1 ∧ n_1 < (↑sn : Int)) (.someA sp fun a => .loadI .i64 (a.add (n_1.toNat * 1)) fun n_2 => .callv false del #[.int .i64 n_2] fun v => .unB v fun b => bif !b then .need (0 ≤ n ∧ n < (↑sn : Int)) (.someA sp fun a => .store ((a.add (n.toNat * 1)).add 0) (.int .i64 n_2) (.leaf (.again [.int .i64 (IntKind.wrap .i64 (n + 1)), .int .i64 (IntKind.wrap .i64 (n_1 + 1))]))) else .leaf (.again [.int .i64 n, .int .i64 (IntKind.wrap .i64 (n_1 + 1))])) else .leaf (.brk [.int .i64 n, .int .i64 n_1]))) (fun vs => .popI .i64 vs fun n vs => .popI .i64 vs fun n_1 vs => .unNil vs (.sem false (Instr.sliceAt 30 (.slice sp sn sc) (some (.int .i64 n)) none none) fun w => .unS w fun a n_2 c => .sem false (Builtin.clear_ #[30] 0 #[.slice a n_2 c]) fun v => .sem false (Instr.sliceAt 30 (.slice sp sn sc) none (some (.int .i64 n)) none) fun w => .unS w fun a n c => .leaf (.ret (.slice a n c)))) (fun vs => .popI .i64 vs fun n vs => .popI .i64 vs fun n vs => .unNil vs (.leaf (.ret (.slice none 0 0)))) fun x x_1 => .fail
theorem w3138 (sp : Option Addr) (sn sc : Nat) (del : Value) (hX : XOK X) (hw : (n3138 sp sn sc del).wp X Tryz.prog (retQ A) h) : FWK X Tryz.prog .normal 69 #[.slice sp sn sc, del] h A := fwk_neat (show ftree ({ P := Tryz.prog, priv := [], loops := [{ id := 0, slots := [(5, .int .i64), (6, .int .i64)], ro := [], outs := [] }], joins := [] }) Tryz.f69 [.slice sp sn sc, del] = n3138 sp sn sc del by kernel_rfl) (by simp) (by kernel_rfl) (by kernel_rfl) hX hw
noncomputable def n3139 (n : Int) (z0 : Addr) : T := .loadS (z0.add 0) fun p n_1 c => .loadB (z0.add 1) fun b => .call false 66 #[.slice p n_1 c, .int .i64 n] fun v => .unB v fun b_1 => .loadB (z0.add 1) fun b_2 => .need (AV.val (.bool b_2) = AV.val (.bool b)) (.nd (.pointer (some (z0.add 1))) (.nd (.pointer (some (z0.add 0))) (.leaf (.ret (.bool !b_1 == b)))))
theorem w3139 (n : Int) (z0 : Addr) (hX : XOK X) (hw : (n3139 n z0).wp X Tryz.prog (retQ A) h) : FWK X Tryz.prog .normal 70 #[.int .i64 n, .pointer (some z0)] h A := fwk_neat (show ftree ({ P := Tryz.prog, priv := [], loops := [], joins := [] }) Tryz.f70 [.int .i64 n, .pointer (some z0)] = n3139 n z0 by kernel_rfl) (by simp) (by kernel_rfl) (by kernel_rfl) hX hw
noncomputable def n3162 (t_0p : Option Addr) (t_0n t_0c : Nat) (t_1p : Option Addr) (t_1n t_1c : Nat) (t_2p : Option Addr) (t_2n t_2c : Nat) (from0 to : Int) (listp : Option Addr) (listn listc : Nat) : T := .call false 157 #[.slice listp listn listc] fun v => .unAgg v fun l => .popB l fun b vs => .popB vs fun b_1 vs => .popB vs fun b_2 vs => .popB vs fun b_3 vs => .popB vs fun b_4 vs => .popB vs fun b_5 vs => .popB vs fun b_6 vs => .popB vs fun b_7 vs => .unNil vs (.call false 157 #[.slice listp listn listc] fun v => .unAgg v fun l => .popB l fun b_8 vs => .popB vs fun b_9 vs => .popB vs fun b_10 vs => .popB vs fun b_11 vs => .popB vs fun b_12 vs => .popB vs fun b_13 vs => .popB vs fun b_14 vs => .popB vs fun b_15 vs => .unNil vs (.blk (bif decide (to < from0) then .leaf (.again [.func (Fn.func 159) #[.agg #[.slice t_0p t_0n t_0c, .slice t_1p t_1n t_1c, .slice t_2p t_2n t_2c]] #[], .int .i64 (-1)]) else .leaf (.again [.func (Fn.func 158) #[.agg #[.slice t_0p t_0n t_0c, .slice t_1p t_1n t_1c, .slice t_2p t_2n t_2c]] #[], .int .i64 1])) (fun vs => .popV vs fun v vs => .popI .i64 vs fun n vs => .unNil vs (.loop [.int .i64 from0, .bool b, .bool b_1, .bool b_2, .bool b_3, .bool b_4, .bool b_5, .bool b_6, .bool b_7, .bool b_8, .bool b_9, .bool b_10, .bool b_11, .bool b_12, .bool b_13, .bool b_14, .bool b_15] (fun vs => .popI .i64 vs fun n_1 vs => .popB vs fun b vs => .popB vs fun b_16 vs => .popB vs fun b_17 vs => .popB vs fun b_18 vs => .popB vs fun b_19 vs => .popB vs fun b_20 vs => .popB vs fun b_21 vs => .popB vs fun b_22 vs => .popB vs fun b_23 vs => .popB vs fun b_24 vs => .popB vs fun b_25 vs => .popB vs fun b_26 vs => .popB vs fun b_27 vs => .popB vs fun b_28 vs => .popB vs fun b_29 vs => .popB vs fun b_30 vs => .unNil vs (bif n_1 != to then .callv false v #[.int .i64 n_1] fun v => .nd (.agg #[.bool b_23, .bool b_24, .bool b_25, .bool b_26, .bool b_27, .bool b_28, .bool b_29, .bool b_30]) (.nd (.agg #[.bool b, .bool b_16, .bool b_17, .bool b_18, .bool b_19, .bool b_20, .bool b_21, .bool b_22]) (.call false 160 #[v, .agg #[.bool b, .bool b_16, .bool b_17, .bool b_18, .bool b_19, .bool b_20, .bool b_21, .bool b_22], .agg #[.bool b_23, .bool b_24, .bool b_25, .bool b_26, .bool b_27, .bool b_28, .bool b_29, .bool b_30]] fun v => .unTup v fun l => .unCons l fun v vs => .unAgg v fun l => .popB l fun b vs_1 => .popB vs_1 fun b_31 vs_2 => .popB vs_2 fun b_32 vs_3 => .popB vs_3 fun b_33 vs_4 => .popB vs_4 fun b_34 vs_5 => .popB vs_5 fun b_35 vs_6 => .popB vs_6 fun b_36 vs_7 => .popB vs_7 fun b_37 vs_8 => .unNil vs_8 (.unCons vs fun v vs => .unAgg v fun l => .popB l fun b_38 vs_9 => .popB vs_9 fun b_39 vs_10 => .popB vs_10 fun b_40 vs_11 => .popB vs_11 fun b_41 vs_12 => .popB vs_12 fun b_42 vs_13 => .popB vs_13 fun b_43 vs_14 => .popB vs_14 fun b_44 vs_15 => .popB vs_15 fun b_45 vs_16 => .unNil vs_16 (.unNil vs (.nd (.agg #[.bool b_38, .bool b_39, .bool b_40, .bool b_41, .bool b_42, .bool b_43, .bool b_44, .bool b_45]) (.leaf (.again [.int .i64 (IntKind.wrap .i64 (n_1 + n)), .bool b, .bool b_31, .bool b_32, .bool b_33, .bool b_34, .bool b_35, .bool b_36, .bool b_37, .bool b_38, .bool b_39, .bool b_40, .bool b_41, .bool b_42, .bool b_43, .bool b_44, .bool b_45]))))))) else .leaf (.brk [.int .i64 n_1, .bool b, .bool b_16, .bool b_17, .bool b_18, .bool b_19, .bool b_20, .bool b_21, .bool b_22, .bool b_23, .bool b_24, .bool b_25, .bool b_26, .bool b_27, .bool b_28, .bool b_29, .bool b_30]))) (fun vs => .popI .i64 vs fun n vs => .popB vs fun b vs => .popB vs fun b_16 vs => .popB vs fun b_17 vs => .popB vs fun b_18 vs => .popB vs fun b_19 vs => .popB vs fun b_20 vs => .popB vs fun b_21 vs => .popB vs fun b_22 vs => .popB vs fun b_23 vs => .popB vs fun b_24 vs => .popB vs fun b_25 vs => .popB vs fun b_26 vs => .popB vs fun b_27 vs => .popB vs fun b_28 vs => .popB vs fun b_29 vs => .popB vs fun b_30 vs => .unNil vs (.nd (.agg #[.bool b_23, .bool b_24, .bool b_25, .bool b_26, .bool b_27, .bool b_28, .bool b_29, .bool b_30]) (.leaf (.ret (.tuple #[.agg #[.bool b, .bool b_16, .bool b_17, .bool b_18, .bool b_19, .bool b_20, .bool b_21, .bool b_22], .agg #[.bool b_23, .bool b_24, .bool b_25, .bool b_26, .bool b_27, .bool b_28, .bool b_29, .bool b_30]]))))) (fun vs => .popI .i64 vs fun n vs => .popB vs fun b vs => .popB vs fun b_16 vs => .popB vs fun b_17 vs => .popB vs fun b_18 vs => .popB vs fun b_19 vs => .popB vs fun b_20 vs => .popB vs fun b_21 vs => .popB vs fun b_22 vs => .popB vs fun b_23 vs => .popB vs fun b_24 vs => .popB vs fun b_25 vs => .popB vs fun b_26 vs => .popB vs fun b_27 vs => .popB vs fun b_28 vs => .popB vs fun b_29 vs => .popB vs fun b_30 vs => .unNil vs (.leaf (.ret (.tuple #[.agg #[.bool b, .bool b_16, .bool b_17, .bool b_18, .bool b_19, .bool b_20, .bool b_21, .bool b_22], .agg #[.bool b_23, .bool b_24, .bool b_25, .bool b_26, .bool b_27, .bool b_28, .bool b_29, .bool b_30]])))) fun x x_1 => .fail)) (fun vs => .popV vs fun v vs => .popI .i64 vs fun n vs => .unNil vs (.leaf (.ret (.tuple #[.agg #[.bool b, .bool b_1, .bool b_2, .bool b_3, .bool b_4, .bool b_5, .bool b_6, .bool b_7], .agg #[.bool b_8, .bool b_9, .bool b_10, .bool b_11, .bool b_12, .bool b_13, .bool b_14, .bool b_15]])))) fun x x_1 => .fail))
theorem w3162 (t_0p : Option Addr) (t_0n t_0c : Nat) (t_1p : Option Addr) (t_1n t_1c : Nat) (t_2p : Option Addr) (t_2n t_2c : Nat) (from0 to : Int) (listp : Option Addr) (listn listc : Nat) (hX : XOK X) (hw : (n3162 t_0p t_0n t_0c t_1p t_1n t_1c t_2p t_2n t_2c from0 to listp listn listc).wp X Tryz.prog (retQ A) h) : FWK X Tryz.prog .normal 108 #[.agg #[.slice t_0p t_0n t_0c, .slice t_1p t_1n t_1c, .slice t_2p t_2n t_2c], .int .i64 from0, .int .i64 to, .slice listp listn listc] h A := fwk_neat (show ftree ({ P := Tryz.prog, priv := [4, 8, 9], loops := [{ id := 0, slots := [(12, .int .i64), (36864, .bool), (36865, .bool), (36866, .bool), (36867, .bool), (36868, .bool), (36869, .bool), (36870, .bool), (36871, .bool), (40960, .bool), (40961, .bool), (40962, .bool), (40963, .bool), (40964, .bool), (40965, .bool), (40966, .bool), (40967, .bool)], ro := [4], outs := [] }], joins := [{ id := 5, slots := [(10, .any), (11, .int .i64)], ro := [4, 8, 9], outs := [] }] }) Tryz.f108 [.agg #[.slice t_0p t_0n t_0c, .slice t_1p t_1n t_1c, .slice t_2p t_2n t_2c], .int .i64 from0, .int .i64 to, .slice listp listn listc] = n3162 t_0p t_0n t_0c t_1p t_1n t_1c t_2p t_2n t_2c from0 to listp listn listc by kernel_rfl) (by simp) (by kernel_rfl) (by kernel_rfl) hX hw
noncomputable def n3163 (s_0 s_1 s_2 s_3 s_4 s_5 s_6 s_7 : Bool) : T := .loop [.slice none 0 0, .int .i64 0] (fun vs => .popS vs fun a n c vs => .popI .i64 vs fun n_1 vs => .unNil vs (bif decide (n_1 < 8) then .sem false (Instr.index 183 (.agg #[.bool s_0, .bool s_1, .bool s_2, .bool s_3, .bool s_4, .bool s_5, .bool s_6, .bool s_7]) (.int .i64 n_1)) fun v => .unB v fun t => bif t then .sem false (Instr.buildSlice 30 1 #[(0, .int .i64 n_1)]) fun v => .unS v fun a_1 n_2 c_1 => .sem false (Builtin.append_ #[30, 30] 30 #[.slice a n c, .slice a_1 n_2 c_1]) fun v => .unS v fun a n c => .leaf (.again [.slice a n c, .int .i64 (IntKind.wrap .i64 (n_1 + 1))]) else .leaf (.again [.slice a n c, .int .i64 (IntKind.wrap .i64 (n_1 + 1))]) else .leaf (.brk [.slice a n c, .int .i64 n_1]))) (fun vs => .popS vs fun a n c vs => .popI .i64 vs fun n_1 vs => .unNil vs (.leaf (.ret (.slice a n c)))) (fun vs => .popS vs fun a n c vs => .popI .i64 vs fun n vs => .unNil vs (.leaf (.ret (.slice none 0 0)))) fun x x_1 => .fail
theorem w3163 (s_0 s_1 s_2 s_3 s_4 s_5 s_6 s_7 : Bool) (hX : XOK X) (hw : (n3163 s_0 s_1 s_2 s_3 s_4 s_5 s_6 s_7).wp X Tryz.prog (retQ A) h) : FWK X Tryz.prog .normal 109 #[.agg #[.bool s_0, .bool s_1, .bool s_2, .bool s_3, .bool s_4, .bool s_5, .bool s_6, .bool s_7]] h A := fwk_neat (show ftree ({ P := Tryz.prog, priv := [1], loops := [{ id := 0, slots := [(3, .slice), (7, .int .i64)], ro := [1], outs := [] }], joins := [] }) Tryz.f109 [.agg #[.bool s_0, .bool s_1, .bool s_2, .bool s_3, .bool s_4, .bool s_5, .bool s_6, .bool s_7]] = n3163 s_0 s_1 s_2 s_3 s_4 s_5 s_6 s_7 by kernel_rfl) (by simp) (by kernel_rfl) (by kernel_rfl) hX hw
noncomputable def n3184 (listp : Option Addr) (listn listc : Nat) : T := .new 183 #[.bool false, .bool false, .bool false, .bool false, .bool false, .bool false, .bool false, .bool false] fun r => .loop [.int .i64 0] (fun vs => .popI .i64 vs fun n vs => .unNil vs (bif decide (n < (↑listn : Int)) then .need (0 ≤ n ∧ n < (↑listn : Int)) (.someA listp fun a => .loadI .i64 (a.add (n.toNat * 1)) fun n_1 => .need (0 ≤ n_1 ∧ n_1 < (↑8 : Int)) (.store ((Addr.add { block := r, off := 0 } (n_1.toNat * 1)).add 0) (.bool true) (.leaf (.again [.int .i64 (IntKind.wrap .i64 (n + 1))])))) else .leaf (.brk [.int .i64 n]))) (fun vs => .popI .i64 vs fun n vs => .unNil vs (.loadB (Addr.add { block := r, off := 0 } 0) fun b => .loadB (Addr.add { block := r, off := 0 } 1) fun b_1 => .loadB (Addr.add { block := r, off := 0 } 2) fun b_2 => .loadB (Addr.add { block := r, off := 0 } 3) fun b_3 => .loadB (Addr.add { block := r, off := 0 } 4) fun b_4 => .loadB (Addr.add { block := r, off := 0 } 5) fun b_5 => .loadB (Addr.add { block := r, off := 0 } 6) fun b_6 => .loadB (Addr.add { block := r, off := 0 } 7) fun b_7 => .leaf (.ret (.agg #[.bool b, .bool b_1, .bool b_2, .bool b_3, .bool b_4, .bool b_5, .bool b_6, .bool b_7])))) (fun vs => .popI .i64 vs fun n vs => .unNil vs (.leaf (.ret (.agg #[.bool false, .bool false, .bool false, .bool false, .bool false, .bool false, .bool false, .bool false])))) fun x x_1 => .fail
theorem w3184 (listp : Option Addr) (listn listc : Nat) (hX : XOK X) (hw : (n3184 listp listn listc).wp X Tryz.prog (retQ A) h) : FWK X Tryz.prog .normal 157 #[.slice listp listn listc] h A := fwk_neat (show ftree ({ P := Tryz.prog, priv := [2], loops := [{ id := 0, slots := [(8, .int .i64)], ro := [2], outs := [] }], joins := [] }) Tryz.f157 [.slice listp listn listc] = n3184 listp listn listc by kernel_rfl) (by simp) (by kernel_rfl) (by kernel_rfl) hX hw
noncomputable def n3185 (t_0p : Option Addr) (t_0n t_0c : Nat) (t_1p : Option Addr) (t_1n t_1c : Nat) (t_2p : Option Addr) (t_2n t_2c : Nat) (edition : Int) : T := .new 133 #[.slice t_0p t_0n t_0c, .slice t_1p t_1n t_1c, .slice t_2p t_2n t_2c] fun r => .new 3 #[.int .i64 edition] fun r_1 => .leaf (.ret (.func (Fn.func 207) #[] #[.pointer (some { block := r, off := 0 }), .pointer (some { block := r_1, off := 0 })]))
theorem w3185 (t_0p : Option Addr) (t_0n t_0c : Nat) (t_1p : Option Addr) (t_1n t_1c : Nat) (t_2p : Option Addr) (t_2n t_2c : Nat) (edition : Int) (hX : XOK X) (hw : (n3185 t_0p t_0n t_0c t_1p t_1n t_1c t_2p t_2n t_2c edition).wp X Tryz.prog (retQ A) h) : FWK X Tryz.prog .normal 158 #[.agg #[.slice t_0p t_0n t_0c, .slice t_1p t_1n t_1c, .slice t_2p t_2n t_2c], .int .i64 edition] h A := fwk_neat (show ftree ({ P := Tryz.prog, priv := [], loops := [], joins := [] }) Tryz.f158 [.agg #[.slice t_0p t_0n t_0c, .slice t_1p t_1n t_1c, .slice t_2p t_2n t_2c], .int .i64 edition] = n3185 t_0p t_0n t_0c t_1p t_1n t_1c t_2p t_2n t_2c edition by kernel_rfl) (by simp) (by kernel_rfl) (by kernel_rfl) hX hw
noncomputable def n3186 (t_0p : Option Addr) (t_0n t_0c : Nat) (t_1p : Option Addr) (t_1n t_1c : Nat) (t_2p : Option Addr) (t_2n t_2c : Nat) (edition : Int) : T := .new 133 #[.slice t_0p t_0n t_0c, .slice t_1p t_1n t_1c, .slice t_2p t_2n t_2c] fun r => .new 3 #[.int .i64 edition] fun r_1 => .leaf (.ret (.func (Fn.func 208) #[] #[.pointer (some { block := r, off := 0 }), .pointer (some { block := r_1, off := 0 })]))
theorem w3186 (t_0p : Option Addr) (t_0n t_0c : Nat) (t_1p : Option Addr) (t_1n t_1c : Nat) (t_2p : Option Addr) (t_2n t_2c : Nat) (edition : Int) (hX : XOK X) (hw : (n3186 t_0p t_0n t_0c t_1p t_1n t_1c t_2p t_2n t_2c edition).wp X Tryz.prog (retQ A) h) : FWK X Tryz.prog .normal 159 #[.agg #[.slice t_0p t_0n t_0c, .slice t_1p t_1n t_1c, .slice t_2p t_2n t_2c], .int .i64 edition] h A := fwk_neat (show ftree ({ P := Tryz.prog, priv := [], loops := [], joins := [] }) Tryz.f159 [.agg #[.slice t_0p t_0n t_0c, .slice t_1p t_1n t_1c, .slice t_2p t_2n t_2c], .int .i64 edition] = n3186 t_0p t_0n t_0c t_1p t_1n t_1c t_2p t_2n t_2c edition by kernel_rfl) (by simp) (by kernel_rfl) (by kernel_rfl) hX hw
noncomputable def n3187 (moves : Value) (sure_0 sure_1 sure_2 sure_3 sure_4 sure_5 sure_6 sure_7 can_0 can_1 can_2 can_3 can_4 can_5 can_6 can_7 : Bool) : T := .new 183 #[.bool sure_0, .bool sure_1, .bool sure_2, .bool sure_3, .bool sure_4, .bool sure_5, .bool sure_6, .bool sure_7] fun r => .new 183 #[.bool can_0, .bool can_1, .bool can_2, .bool can_3, .bool can_4, .bool can_5, .bool can_6, .bool can_7] fun r_1 => .new 183 #[.bool false, .bool false, .bool false, .bool false, .bool false, .bool false, .bool false, .bool false] fun r_2 => .new 183 #[.bool false, .bool false, .bool false, .bool false, .bool false, .bool false, .bool false, .bool false] fun r_3 => .new 183 #[.bool false, .bool false, .bool false, .bool false, .bool false, .bool false, .bool false, .bool false] fun r_4 => .each moves [] (fun xs vs => .unCons xs fun v vs_1 => .unI .i64 v fun n => .unCons vs_1 fun v vs_2 => .unI .i64 v fun n_1 => .unNil vs_2 (.unNil vs (.need (0 ≤ n_1 ∧ n_1 < (↑8 : Int)) (.store ((Addr.add { block := r_2, off := 0 } (n_1.toNat * 1)).add 0) (.bool true) (.need (0 ≤ n_1 ∧ n_1 < (↑8 : Int)) (.loadB (Addr.add { block := r_3, off := 0 } (n_1.toNat * 1)) fun b => bif b then .need (0 ≤ n_1 ∧ n_1 < (↑8 : Int)) (.store ((Addr.add { block := r_3, off := 0 } (n_1.toNat * 1)).add 0) (.bool true) (.need (0 ≤ n_1 ∧ n_1 < (↑8 : Int)) (.loadB (Addr.add { block := r_4, off := 0 } (n_1.toNat * 1)) fun b => bif b then .need (0 ≤ n_1 ∧ n_1 < (↑8 : Int)) (.store ((Addr.add { block := r_4, off := 0 } (n_1.toNat * 1)).add 0) (.bool true) (.leaf (.again []))) else .need (0 ≤ n ∧ n < (↑8 : Int)) (.loadB (Addr.add { block := r_1, off := 0 } (n.toNat * 1)) fun b => .need (0 ≤ n_1 ∧ n_1 < (↑8 : Int)) (.store ((Addr.add { block := r_4, off := 0 } (n_1.toNat * 1)).add 0) (.bool b) (.leaf (.again []))))))) else .need (0 ≤ n ∧ n < (↑8 : Int)) (.loadB (Addr.add { block := r, off := 0 } (n.toNat * 1)) fun b => .need (0 ≤ n_1 ∧ n_1 < (↑8 : Int)) (.store ((Addr.add { block := r_3, off := 0 } (n_1.toNat * 1)).add 0) (.bool !b) (.need (0 ≤ n_1 ∧ n_1 < (↑8 : Int)) (.loadB (Addr.add { block := r_4, off := 0 } (n_1.toNat * 1)) fun b => bif b then .need (0 ≤ n_1 ∧ n_1 < (↑8 : Int)) (.store ((Addr.add { block := r_4, off := 0 } (n_1.toNat * 1)).add 0) (.bool true) (.leaf (.again []))) else .need (0 ≤ n ∧ n < (↑8 : Int)) (.loadB (Addr.add { block := r_1, off := 0 } (n.toNat * 1)) fun b => .need (0 ≤ n_1 ∧ n_1 < (↑8 : Int)) (.store ((Addr.add { block := r_4, off := 0 } (n_1.toNat * 1)).add 0) (.bool b) (.leaf (.again [])))))))))))))) (fun vs => .unNil vs (.loop [.int .i64 0] (fun vs => .popI .i64 vs fun n vs => .unNil vs (bif decide (n < 8) then .need (0 ≤ n ∧ n < (↑8 : Int)) (.loadB (Addr.add { block := r_2, off := 0 } (n.toNat * 1)) fun b => bif b then .need (0 ≤ n ∧ n < (↑8 : Int)) (.loadB (Addr.add { block := r_3, off := 0 } (n.toNat * 1)) fun b => .need (0 ≤ n ∧ n < (↑8 : Int)) (.store ((Addr.add { block := r_2, off := 0 } (n.toNat * 1)).add 0) (.bool !b) (.leaf (.again [.int .i64 (IntKind.wrap .i64 (n + 1))])))) else .need (0 ≤ n ∧ n < (↑8 : Int)) (.store ((Addr.add { block := r_2, off := 0 } (n.toNat * 1)).add 0) (.bool false) (.leaf (.again [.int .i64 (IntKind.wrap .i64 (n + 1))])))) else .leaf (.brk [.int .i64 n]))) (fun vs => .popI .i64 vs fun n vs => .unNil vs (.loadB (Addr.add { block := r_2, off := 0 } 0) fun b => .loadB (Addr.add { block := r_2, off := 0 } 1) fun b_1 => .loadB (Addr.add { block := r_2, off := 0 } 2) fun b_2 => .loadB (Addr.add { block := r_2, off := 0 } 3) fun b_3 => .loadB (Addr.add { block := r_2, off := 0 } 4) fun b_4 => .loadB (Addr.add { block := r_2, off := 0 } 5) fun b_5 => .loadB (Addr.add { block := r_2, off := 0 } 6) fun b_6 => .loadB (Addr.add { block := r_2, off := 0 } 7) fun b_7 => .loadB (Addr.add { block := r_4, off := 0 } 0) fun b_8 => .loadB (Addr.add { block := r_4, off := 0 } 1) fun b_9 => .loadB (Addr.add { block := r_4, off := 0 } 2) fun b_10 => .loadB (Addr.add { block := r_4, off := 0 } 3) fun b_11 => .loadB (Addr.add { block := r_4, off := 0 } 4) fun b_12 => .loadB (Addr.add { block := r_4, off := 0 } 5) fun b_13 => .loadB (Addr.add { block := r_4, off := 0 } 6) fun b_14 => .loadB (Addr.add { block := r_4, off := 0 } 7) fun b_15 => .loadB (Addr.add { block := r_4, off := 0 } 0) fun b_16 => .loadB (Addr.add { block := r_4, off := 0 } 1) fun b_17 => .loadB (Addr.add { block := r_4, off := 0 } 2) fun b_18 => .loadB (Addr.add { block := r_4, off := 0 } 3) fun b_19 => .loadB (Addr.add { block := r_4, off := 0 } 4) fun b_20 => .loadB (Addr.add { block := r_4, off := 0 } 5) fun b_21 => .loadB (Addr.add { block := r_4, off := 0 } 6) fun b_22 => .loadB (Addr.add { block := r_4, off := 0 } 7) fun b_23 => .need (AV.val (.agg #[.bool b_16, .bool b_17, .bool b_18, .bool b_19, .bool b_20, .bool b_21, .bool b_22, .bool b_23]) = AV.val (.agg #[.bool b_8, .bool b_9, .bool b_10, .bool b_11, .bool b_12, .bool b_13, .bool b_14, .bool b_15])) (.leaf (.ret (.tuple #[.agg #[.bool b, .bool b_1, .bool b_2, .bool b_3, .bool b_4, .bool b_5, .bool b_6, .bool b_7], .agg #[.bool b_8, .bool b_9, .bool b_10, .bool b_11, .bool b_12, .bool b_13, .bool b_14, .bool b_15]]))))) (fun vs => .popI .i64 vs fun n vs => .unNil vs (.leaf (.ret (.tuple #[.agg #[.bool false, .bool false, .bool false, .bool false, .bool false, .bool false, .bool false, .bool false], .agg #[.bool false, .bool false, .bool false, .bool false, .bool false, .bool false, .bool false, .bool false]])))) fun x x_1 => .fail)) (fun vs => .unNil vs (.loop [.int .i64 0] (fun vs => .popI .i64 vs fun n vs => .unNil vs (bif decide (n < 8) then .need (0 ≤ n ∧ n < (↑8 : Int)) (.loadB (Addr.add { block := r_2, off := 0 } (n.toNat * 1)) fun b => bif b then .need (0 ≤ n ∧ n < (↑8 : Int)) (.loadB (Addr.add { block := r_3, off := 0 } (n.toNat * 1)) fun b => .need (0 ≤ n ∧ n < (↑8 : Int)) (.store ((Addr.add { block := r_2, off := 0 } (n.toNat * 1)).add 0) (.bool !b) (.leaf (.again [.int .i64 (IntKind.wrap .i64 (n + 1))])))) else .need (0 ≤ n ∧ n < (↑8 : Int)) (.store ((Addr.add { block := r_2, off := 0 } (n.toNat * 1)).add 0) (.bool false) (.leaf (.again [.int .i64 (IntKind.wrap .i64 (n + 1))])))) else .leaf (.brk [.int .i64 n]))) (fun vs => .popI .i64 vs fun n vs => .unNil vs (.loadB (Addr.add { block := r_2, off := 0 } 0) fun b => .loadB (Addr.add { block := r_2, off := 0 } 1) fun b_1 => .loadB (Addr.add { block := r_2, off := 0 } 2) fun b_2 => .loadB (Addr.add { block := r_2, off := 0 } 3) fun b_3 => .loadB (Addr.add { block := r_2, off := 0 } 4) fun b_4 => .loadB (Addr.add { block := r_2, off := 0 } 5) fun b_5 => .loadB (Addr.add { block := r_2, off := 0 } 6) fun b_6 => .loadB (Addr.add { block := r_2, off := 0 } 7) fun b_7 => .loadB (Addr.add { block := r_4, off := 0 } 0) fun b_8 => .loadB (Addr.add { block := r_4, off := 0 } 1) fun b_9 => .loadB (Addr.add { block := r_4, off := 0 } 2) fun b_10 => .loadB (Addr.add { block := r_4, off := 0 } 3) fun b_11 => .loadB (Addr.add { block := r_4, off := 0 } 4) fun b_12 => .loadB (Addr.add { block := r_4, off := 0 } 5) fun b_13 => .loadB (Addr.add { block := r_4, off := 0 } 6) fun b_14 => .loadB (Addr.add { block := r_4, off := 0 } 7) fun b_15 => .loadB (Addr.add { block := r_4, off := 0 } 0) fun b_16 => .loadB (Addr.add { block := r_4, off := 0 } 1) fun b_17 => .loadB (Addr.add { block := r_4, off := 0 } 2) fun b_18 => .loadB (Addr.add { block := r_4, off := 0 } 3) fun b_19 => .loadB (Addr.add { block := r_4, off := 0 } 4) fun b_20 => .loadB (Addr.add { block := r_4, off := 0 } 5) fun b_21 => .loadB (Addr.add { block := r_4, off := 0 } 6) fun b_22 => .loadB (Addr.add { block := r_4, off := 0 } 7) fun b_23 => .need (AV.val (.agg #[.bool b_16, .bool b_17, .bool b_18, .bool b_19, .bool b_20, .bool b_21, .bool b_22, .bool b_23]) = AV.val (.agg #[.bool b_8, .bool b_9, .bool b_10, .bool b_11, .bool b_12, .bool b_13, .bool b_14, .bool b_15])) (.leaf (.ret (.tuple #[.agg #[.bool b, .bool b_1, .bool b_2, .bool b_3, .bool b_4, .bool b_5, .bool b_6, .bool b_7], .agg #[.bool b_8, .bool b_9, .bool b_10, .bool b_11, .bool b_12, .bool b_13, .bool b_14, .bool b_15]]))))) (fun vs => .popI .i64 vs fun n vs => .unNil vs (.leaf (.ret (.tuple #[.agg #[.bool false, .bool false, .bool false, .bool false, .bool false, .bool false, .bool false, .bool false], .agg #[.bool false, .bool false, .bool false, .bool false, .bool false, .bool false, .bool false, .bool false]])))) fun x x_1 => .fail)) (fun vs => .unNil vs (.leaf (.ret (.tuple #[.agg #[.bool false, .bool false, .bool false, .bool false, .bool false, .bool false, .bool false, .bool false], .agg #[.bool false, .bool false, .bool false, .bool false, .bool false, .bool false, .bool false, .bool false]])))) fun x x_1 => .fail
theorem w3187 (moves : Value) (sure_0 sure_1 sure_2 sure_3 sure_4 sure_5 sure_6 sure_7 can_0 can_1 can_2 can_3 can_4 can_5 can_6 can_7 : Bool) (hX : XOK X) (hw : (n3187 moves sure_0 sure_1 sure_2 sure_3 sure_4 sure_5 sure_6 sure_7 can_0 can_1 can_2 can_3 can_4 can_5 can_6 can_7).wp X Tryz.prog (retQ A) h) : FWK X Tryz.prog .normal 160 #[moves, .agg #[.bool sure_0, .bool sure_1, .bool sure_2, .bool sure_3, .bool sure_4, .bool sure_5, .bool sure_6, .bool sure_7], .agg #[.bool can_0, .bool can_1, .bool can_2, .bool can_3, .bool can_4, .bool can_5, .bool can_6, .bool can_7]] h A := fwk_neat (show ftree ({ P := Tryz.prog, priv := [6, 7], loops := [{ id := 0, slots := [], ro := [6, 7], outs := [], ps := [.cell (.int .i64), .cell (.int .i64)] }, { id := 2, slots := [(40, .int .i64)], ro := [6, 7], outs := [] }], joins := [] }) Tryz.f160 [moves, .agg #[.bool sure_0, .bool sure_1, .bool sure_2, .bool sure_3, .bool sure_4, .bool sure_5, .bool sure_6, .bool sure_7], .agg #[.bool can_0, .bool can_1, .bool can_2, .bool can_3, .bool can_4, .bool can_5, .bool can_6, .bool can_7]] = n3187 moves sure_0 sure_1 sure_2 sure_3 sure_4 sure_5 sure_6 sure_7 can_0 can_1 can_2 can_3 can_4 can_5 can_6 can_7 by kernel_rfl) (by simp) (by kernel_rfl) (by kernel_rfl) hX hw
noncomputable def n3209 (yield : Value) (z0 z1 : Addr) : T := .loadS ((z0.add 0).add 1) fun p n c => .loop [.int .i64 0] (fun vs => .popI .i64 vs fun n_1 vs => .unNil vs (bif decide (n_1 < (↑n : Int)) then .need (0 ≤ n_1 ∧ n_1 < (↑n : Int)) (.someA p fun a => .loadI .i64 ((a.add (n_1.toNat * 3)).add 0) fun n => .loadI .i64 ((a.add (n_1.toNat * 3)).add 1) fun n_2 => .loadI .i64 ((a.add (n_1.toNat * 3)).add 2) fun n_3 => .loadI .i64 z1 fun n_4 => bif n == n_4 then .callv false yield #[.int .i64 n_2, .int .i64 n_3] fun v => .unB v fun b => bif !b then .leaf (.retn [.int .i64 n_1]) else .leaf (.again [.int .i64 (IntKind.wrap .i64 (n_1 + 1))]) else .leaf (.again [.int .i64 (IntKind.wrap .i64 (n_1 + 1))])) else .leaf (.brk [.int .i64 n_1]))) (fun vs => .popI .i64 vs fun n vs => .unNil vs (.leaf (.ret (.tuple #[])))) (fun vs => .popI .i64 vs fun n vs => .unNil vs (.leaf (.ret (.tuple #[])))) fun x x_1 => .fail
theorem w3209 (yield : Value) (z0 z1 : Addr) (hX : XOK X) (hw : (n3209 yield z0 z1).wp X Tryz.prog (retQ A) h) : FWK X Tryz.prog .normal 207 #[yield, .pointer (some z0), .pointer (some z1)] h A := fwk_neat (show ftree ({ P := Tryz.prog, priv := [5], loops := [{ id := 0, slots := [(10, .int .i64)], ro := [], outs := [] }], joins := [] }) Tryz.f207 [yield, .pointer (some z0), .pointer (some z1)] = n3209 yield z0 z1 by kernel_rfl) (by simp) (by kernel_rfl) (by kernel_rfl) hX hw
noncomputable def n3210 (yield : Value) (z0 z1 : Addr) : T := .loadS ((z0.add 0).add 1) fun p n c => .loop [.int .i64 0] (fun vs => .popI .i64 vs fun n_1 vs => .unNil vs (bif decide (n_1 < (↑n : Int)) then .need (0 ≤ n_1 ∧ n_1 < (↑n : Int)) (.someA p fun a => .loadI .i64 ((a.add (n_1.toNat * 3)).add 0) fun n => .loadI .i64 ((a.add (n_1.toNat * 3)).add 1) fun n_2 => .loadI .i64 ((a.add (n_1.toNat * 3)).add 2) fun n_3 => .loadI .i64 z1 fun n_4 => bif n == IntKind.wrap .i64 (n_4 - 1) then .callv false yield #[.int .i64 n_3, .int .i64 n_2] fun v => .unB v fun b => bif !b then .leaf (.retn [.int .i64 n_1]) else .leaf (.again [.int .i64 (IntKind.wrap .i64 (n_1 + 1))]) else .leaf (.again [.int .i64 (IntKind.wrap .i64 (n_1 + 1))])) else .leaf (.brk [.int .i64 n_1]))) (fun vs => .popI .i64 vs fun n vs => .unNil vs (.leaf (.ret (.tuple #[])))) (fun vs => .popI .i64 vs fun n vs => .unNil vs (.leaf (.ret (.tuple #[])))) fun x x_1 => .fail
theorem w3210 (yield : Value) (z0 z1 : Addr) (hX : XOK X) (hw : (n3210 yield z0 z1).wp X Tryz.prog (retQ A) h) : FWK X Tryz.prog .normal 208 #[yield, .pointer (some z0), .pointer (some z1)] h A := fwk_neat (show ftree ({ P := Tryz.prog, priv := [5], loops := [{ id := 0, slots := [(10, .int .i64)], ro := [], outs := [] }], joins := [] }) Tryz.f208 [yield, .pointer (some z0), .pointer (some z1)] = n3210 yield z0 z1 by kernel_rfl) (by simp) (by kernel_rfl) (by kernel_rfl) hX hw
noncomputable def n3128 (t_0p : Option Addr) (t_0n t_0c : Nat) (t_1p : Option Addr) (t_1n t_1c : Nat) (t_2p : Option Addr) (t_2n t_2c : Nat) (from0 to : Int) (listp : Option Addr) (listn listc : Nat) : T := .call false 106 #[.agg #[.slice t_0p t_0n t_0c, .slice t_1p t_1n t_1c, .slice t_2p t_2n t_2c]] fun v => .unI .i64 v fun n => bif n != 0 then .leaf (.ret (.tuple #[.slice none 0 0, .slice none 0 0, .int .i64 n])) else .blk (.call false 107 #[.agg #[.slice t_0p t_0n t_0c, .slice t_1p t_1n t_1c, .slice t_2p t_2n t_2c], .int .i64 from0] fun v => .unB v fun b => bif !b then .leaf (.retn [.slice none 0 0, .slice none 0 0, .int .i64 6]) else .call false 107 #[.agg #[.slice t_0p t_0n t_0c, .slice t_1p t_1n t_1c, .slice t_2p t_2n t_2c], .int .i64 to] fun v => .unB v fun b => bif !b then .leaf (.retn [.slice none 0 0, .slice none 0 0, .int .i64 6]) else .leaf (.again [.slice none 0 0, .slice none 0 0, .int .i64 0])) (fun vs => .popS vs fun a n c vs => .popS vs fun a n c vs => .popI .i64 vs fun n vs => .unNil vs (.call false 67 #[.agg #[.slice t_0p t_0n t_0c, .slice t_1p t_1n t_1c, .slice t_2p t_2n t_2c], .int .i64 from0, .slice listp listn listc] fun v => .unI .i64 v fun n => bif n != 0 then .leaf (.ret (.tuple #[.slice none 0 0, .slice none 0 0, .int .i64 n])) else .call false 108 #[.agg #[.slice t_0p t_0n t_0c, .slice t_1p t_1n t_1c, .slice t_2p t_2n t_2c], .int .i64 from0, .int .i64 to, .slice listp listn listc] fun v => .unTup v fun l => .unCons l fun v vs => .unAgg v fun l => .popB l fun b vs_1 => .popB vs_1 fun b_1 vs_2 => .popB vs_2 fun b_2 vs_3 => .popB vs_3 fun b_3 vs_4 => .popB vs_4 fun b_4 vs_5 => .popB vs_5 fun b_5 vs_6 => .popB vs_6 fun b_6 vs_7 => .popB vs_7 fun b_7 vs_8 => .unNil vs_8 (.unCons vs fun v vs => .unAgg v fun l => .popB l fun b_8 vs_9 => .popB vs_9 fun b_9 vs_10 => .popB vs_10 fun b_10 vs_11 => .popB vs_11 fun b_11 vs_12 => .popB vs_12 fun b_12 vs_13 => .popB vs_13 fun b_13 vs_14 => .popB vs_14 fun b_14 vs_15 => .popB vs_15 fun b_15 vs_16 => .unNil vs_16 (.unNil vs (.sem false (Sem.bind (eqGuard BinOp.eql 183 (Operand.tmp 48) (Operand.tmp 49) (.agg #[.bool b, .bool b_1, .bool b_2, .bool b_3, .bool b_4, .bool b_5, .bool b_6, .bool b_7]) (.agg #[.bool b_8, .bool b_9, .bool b_10, .bool b_11, .bool b_12, .bool b_13, .bool b_14, .bool b_15])) fun __r => binOp BinOp.eql 183 (.agg #[.bool b, .bool b_1, .bool b_2, .bool b_3, .bool b_4, .bool b_5, .bool b_6, .bool b_7]) (.agg #[.bool b_8, .bool b_9, .bool b_10, .bool b_11, .bool b_12, .bool b_13, .bool b_14, .bool b_15])) fun v => .unB v fun b_16 => bif b_16 then .call false 109 #[.agg #[.bool b, .bool b_1, .bool b_2, .bool b_3, .bool b_4, .bool b_5, .bool b_6, .bool b_7]] fun v => .unS v fun a n c => .nd (.agg #[.bool b, .bool b_1, .bool b_2, .bool b_3, .bool b_4, .bool b_5, .bool b_6, .bool b_7]) (.call false 109 #[.agg #[.bool b, .bool b_1, .bool b_2, .bool b_3, .bool b_4, .bool b_5, .bool b_6, .bool b_7]] fun v => .unS v fun a_1 n_1 c_1 => .leaf (.ret (.tuple #[.slice a n c, .slice a_1 n_1 c_1, .int .i64 0]))) else .call false 109 #[.agg #[.bool b, .bool b_1, .bool b_2, .bool b_3, .bool b_4, .bool b_5, .bool b_6, .bool b_7]] fun v => .unS v fun a n c => .nd (.agg #[.bool b_8, .bool b_9, .bool b_10, .bool b_11, .bool b_12, .bool b_13, .bool b_14, .bool b_15]) (.call false 109 #[.agg #[.bool b_8, .bool b_9, .bool b_10, .bool b_11, .bool b_12, .bool b_13, .bool b_14, .bool b_15]] fun v => .unS v fun a_1 n_1 c_1 => .leaf (.ret (.tuple #[.slice a n c, .slice a_1 n_1 c_1, .int .i64 0])))))))) (fun vs => .popS vs fun a n c vs => .popS vs fun a_1 n_1 c_1 vs => .popI .i64 vs fun n_2 vs => .unNil vs (.leaf (.ret (.tuple #[.slice a n c, .slice a_1 n_1 c_1, .int .i64 n_2])))) fun x x_1 => .fail
theorem w3128 (t_0p : Option Addr) (t_0n t_0c : Nat) (t_1p : Option Addr) (t_1n t_1c : Nat) (t_2p : Option Addr) (t_2n t_2c : Nat) (from0 to : Int) (listp : Option Addr) (listn listc : Nat) (hX : XOK X) (hw : (n3128 t_0p t_0n t_0c t_1p t_1n t_1c t_2p t_2n t_2c from0 to listp listn listc).wp X Tryz.prog (retQ A) h) : FWK X Tryz.prog .normal 46 #[.agg #[.slice t_0p t_0n t_0c, .slice t_1p t_1n t_1c, .slice t_2p t_2n t_2c], .int .i64 from0, .int .i64 to, .slice listp listn listc] h A := fwk_neat (show ftree ({ P := Tryz.prog, priv := [4, 12, 14, 15], loops := [], joins := [{ id := 7, slots := [(8, .slice), (9, .slice), (10, .int .i64)], ro := [4, 12], outs := [] }] }) Tryz.f46 [.agg #[.slice t_0p t_0n t_0c, .slice t_1p t_1n t_1c, .slice t_2p t_2n t_2c], .int .i64 from0, .int .i64 to, .slice listp listn listc] = n3128 t_0p t_0n t_0c t_1p t_1n t_1c t_2p t_2n t_2c from0 to listp listn listc by kernel_rfl) (by simp) (by kernel_rfl) (by kernel_rfl) hX hw
end Go.Proofs.YtldamlcehbdkdaaGreatDoor
end
section
namespace Go.TM
open Go Go.Conc
variable {P : Program} {X : XP} {Q : Leaf → LH → Prop}
open Te in
def Arr8 (h : Cells) (r : Nat) (el : TypeId) (s : Items) : Prop := ∃ cs, h r = some (true, .cells cs el (0, 0)) ∧ cs.size = 8 ∧ ∀ j, j < 8 → cs[j]? = some (.bool (s j))
theorem Arr8.le {h h' : Cells} {r : Nat} {el : TypeId} {s : Te.Items} (hl : h.le h') (a : Arr8 h r el s) : Arr8 h' r el s := by
 obtain ⟨cs, h1, h2⟩ := a
 exact ⟨cs, hl _ _ h1, h2⟩
theorem Arr8.cell {h : Cells} {r : Nat} {el : TypeId} {s : Te.Items} (a : Arr8 h r el s) {j : Nat} (hj : j < 8) : h.cell? (Addr.add ⟨r, 0, none⟩ j) = some (.bool (s j)) := by
 obtain ⟨cs, h1, h2, h3⟩ := a
 rw [add_plain, Nat.zero_add]
 unfold Cells.cell?
 rw [h1]
 exact h3 j hj
theorem Arr8.new {h : Cells} {r : Nat} {el : TypeId} (s : Te.Items) : Arr8 (h.upd r (true, .cells #[.bool (s 0), .bool (s 1), .bool (s 2), .bool (s 3), .bool (s 4), .bool (s 5), .bool (s 6), .bool (s 7)] el (0, 0))) r el s := by
 refine ⟨_, Cells.upd_self _ _ _, rfl, fun j hj => ?_⟩
 match j, hj with
 | 0, _ => rfl
 | 1, _ => rfl
 | 2, _ => rfl
 | 3, _ => rfl
 | 4, _ => rfl
 | 5, _ => rfl
 | 6, _ => rfl
 | 7, _ => rfl
structure Turn1 (r : Nat) (h h' : LH) : Prop where
 keep : ∀ b, b ≠ r → h'.get b = h.get b
 rest : h'.chans = h.chans ∧ h'.pend = h.pend ∧ h'.todo = h.todo
theorem Turn1.le {r : Nat} {h₀ h h' : LH} (t : Turn1 r h h') (hl : h₀.le h) (hr : h₀.get r = none) : h₀.le h' :=
 ⟨fun b y hb => by
  have : b ≠ r := by rintro rfl; rw [hr] at hb; cases hb
  rw [t.keep b this]; exact hl.1 b y hb, by rw [t.rest.1]; exact hl.2.1, by rw [t.rest.2.1]; exact hl.2.2.1, by rw [t.rest.2.2]; exact hl.2.2.2⟩
theorem Turn1.arr {r b : Nat} {h h' : LH} {el : TypeId} {s : Te.Items} (t : Turn1 r h h') (hb : b ≠ r) (a : Arr8 h.get b el s) : Arr8 h'.get b el s := by
 obtain ⟨cs, h1, h2⟩ := a
 exact ⟨cs, by rw [t.keep b hb]; exact h1, h2⟩
def setA (s : Te.Items) (j : Nat) (b : Bool) : Te.Items := fun i => if i = j then b else s i
theorem t_storeA {h : LH} {r j : Nat} {el : TypeId} {s : Te.Items} {a : Addr} {b : Bool} {k : T} (ha : a = ⟨r, j, none⟩) (hs : Arr8 h.get r el s) (hj : j < 8) (hk : ∀ h', Turn1 r h h' → Arr8 h'.get r el (setA s j b) → k.wp X P Q h') : (T.store a (.bool b) k).wp X P Q h := by
 subst ha
 obtain ⟨cs, h1, h2, h3⟩ := hs
 refine t_store (v₀ := .bool (s j)) rfl ⟨_, h1⟩ ?_ (by simp [Cells.frozen?, h1]) (hk _ ⟨fun b' hb => ?_, rfl, rfl, rfl⟩ ⟨cs.setIfInBounds j (.bool b), ?_, by simp [h2], fun i hi => ?_⟩)
 ·unfold Cells.cell?
  simp only [h1]
  exact h3 j hj
 ·show h.get.setCell _ _ b' = _
  unfold Cells.setCell
  rw [if_neg hb]
 ·show h.get.setCell _ _ r = _
  unfold Cells.setCell
  rw [if_pos rfl, h1]
  rfl
 ·rw [Array.getElem?_setIfInBounds]
  unfold setA
  by_cases e : j = i
  ·subst e; rw [if_pos rfl, if_pos (by omega), if_pos rfl]
  ·rw [if_neg e, if_neg (Ne.symm e)]; exact h3 i hi
abbrev boolsV (s : Te.Items) : Value := .agg #[.bool (s 0), .bool (s 1), .bool (s 2), .bool (s 3), .bool (s 4), .bool (s 5), .bool (s 6), .bool (s 7)]
def setL (l : List Int) : Te.Items := fun i => l.contains (i : Int)
def listT (s : Te.Items) : List Int := ((List.range 8).filter s).map fun i : Nat => (i : Int)
end Go.TM
namespace Go.Proofs.YtldamlcehbdkdaaGreatDoor
open Go Go.TM Go.Proofs
attribute [local irreducible] T.wp CV FWK
theorem und1189 : Tryz.prog.underlying 183 = some (.array 8 4) := by kernel_rfl
theorem und4 : Tryz.prog.underlying 4 = some .bool := by kernel_rfl
theorem agg4 : isAggT Tryz.prog 4 = false := by kernel_rfl
theorem c3184 {h : LH} {p : Option Addr} {n c : Nat} {l : List Int} (hl : Sl IntE 1 h.get p n l) (hin : ∀ v ∈ l, 0 ≤ v ∧ v < 8) : Gr Tryz.prog 157 #[.slice p n c] h fun r _ => r = boolsV (setL l) := by
 refine w3184 _ _ _ X0_ok ?_
 unfold n3184
 have hn := hl.1
 have hb := hl.2.1
 refine t_new fun r hr => ?_
 refine t_loop (fun mm vs h' => h.le h' ∧ ∃ i : Nat, vs = [.int .i64 i] ∧ i ≤ n ∧ mm = n - i ∧ Arr8 h'.get r 183 (setL (l.take i))) ⟨LH.upd_le hr, 0, rfl, Nat.zero_le _, rfl, Arr8.new (setL [])⟩ ?_
 rintro Y mm vs h1 hY ⟨le1, i, rfl, hi, rfl, ha⟩
 refine gZ ?_
 refine t_if (fun e1 => ?_) (fun e1 => ?_)
 ·obtain ⟨x, a, hx, ha', e2⟩ := (hl.le IntE.grow le1.1).at (i := i) (by omega)
  unfold IntE at e2
  have hxr := hin x (List.mem_of_getElem? hx)
  have hin' : 0 ≤ (i : Int) ∧ (i : Int) < (n : Int) := by omega
  have hx8 : 0 ≤ x ∧ x < ((8 : Nat) : Int) := by omega
  refine gZ ?_
  refine t_storeA (j := x.toNat) (by rw [add_plain, add_plain]; simp) ha (by omega) fun h2 t2 a2 => ?_
  refine t_again (hY (n - (i + 1)) _ _ (by omega) ⟨t2.le le1 hr, i + 1, ?_, by omega, rfl, ?_⟩)
  ·rw [wrap_id (by omega) (by omega)]; rfl
  ·have : setA (setL (l.take i)) x.toNat true = setL (l.take (i + 1)) := by
    funext j
    unfold setA setL
    rw [List.take_add_one, hx]
    by_cases e : j = x.toNat
    ·subst e
     rw [if_pos rfl]
     have : ((x.toNat : Nat) : Int) = x := by omega
     simp [this]
    ·rw [if_neg e]
     have : ¬ (j : Int) = x := by omega
     simp [this]
   rw [← this]; exact a2
 ·have htake : l.take i = l := List.take_of_length_le (by omega)
  rw [htake] at ha
  have k0 := ha.cell (j := 0) (by decide)
  have k1 := ha.cell (j := 1) (by decide)
  have k2 := ha.cell (j := 2) (by decide)
  have k3 := ha.cell (j := 3) (by decide)
  have k4 := ha.cell (j := 4) (by decide)
  have k5 := ha.cell (j := 5) (by decide)
  have k6 := ha.cell (j := 6) (by decide)
  have k7 := ha.cell (j := 7) (by decide)
  refine gZ ?_
  exact t_ret ⟨le1, rfl⟩
theorem list_take {s : Te.Items} {i : Nat} (hi : i < 8) : ((List.range 8).take (i + 1)).filter s = ((List.range 8).take i).filter s ++ (if s i then [i] else []) := by
 rw [List.take_add_one, List.getElem?_range hi, List.filter_append]
 congr 1
 simp only [Option.toList_some, List.filter_cons, List.filter_nil]
theorem c3163 {h : LH} (s : Te.Items) : Gr Tryz.prog 109 #[boolsV s] h fun r h' => ∃ p n c, r = .slice p n c ∧ n ≤ c ∧ Sl IntE 1 h'.get p n (listT s) := by
 refine w3163 _ _ _ _ _ _ _ _ X0_ok ?_
 unfold n3163
 refine t_loop (fun mm vs h' => h.le h' ∧ ∃ (i : Nat) (p : Option Addr) (n c : Nat), vs = [.slice p n c, .int .i64 i] ∧ i ≤ 8 ∧ mm = 8 - i ∧ Growing IntEnc 3 1 h.get h'.get p n c ((((List.range 8).take i).filter s).map fun j : Nat => (j : Int)))
  ⟨LH.le_refl _, 0, none, 0, 0, rfl, Nat.zero_le _, rfl, Growing.nil⟩ ?_
 rintro Y mm vs h₁ hY ⟨hle, i, p, n, c, rfl, hi, rfl, g⟩
 refine gZ ?_
 refine t_if (fun e1 => ?_) (fun e1 => ?_)
 ·have hi8 : i < 8 := by omega
  have hst := list_take (s := s) hi8
  have hlen : (((List.range 8).take i).filter s).length ≤ 8 := Nat.le_trans (List.length_filter_le _ _) (by rw [List.length_take, List.length_range]; omega)
  have hng := g.count IntEnc.len (by omega)
  rw [List.length_map] at hng
  refine t_index (v := .bool (s i)) und1189 inf4 und4 agg4 hi8 ?_ ?_
  ·match i, hi8 with
   | 0, _ => rfl
   | 1, _ => rfl
   | 2, _ => rfl
   | 3, _ => rfl
   | 4, _ => rfl
   | 5, _ => rfl
   | 6, _ => rfl
   | 7, _ => rfl
  refine gZ ?_
  refine t_cond (fun b1 => ?_) (fun b1 => ?_)
  ·rw [if_pos b1] at hst
   refine t_pushI g hle (by omega) fun p' c' h₂ hle2 g2 => ?_
   refine gZ ?_
   refine t_again (hY (8 - (i + 1)) _ _ (by omega) ⟨hle2, i + 1, p', n + 1, c', ?_, by omega, rfl, by rw [hst, List.map_append]; exact g2⟩)
   rw [wrap_id (by omega) (by omega)]; rfl
  ·rw [if_neg (by rw [b1]; simp), List.append_nil] at hst
   refine t_again (hY (8 - (i + 1)) _ _ (by omega) ⟨hle, i + 1, p, n, c, ?_, by omega, rfl, by rw [hst]; exact g⟩)
   rw [wrap_id (by omega) (by omega)]; rfl
 ·refine gZ ?_
  have htake : ((List.range 8).take i) = List.range 8 := List.take_of_length_le (by simp; omega)
  rw [htake] at g
  have hlen : (listT s).length ≤ 8 := by unfold listT; rw [List.length_map]; exact Nat.le_trans (List.length_filter_le _ _) (by simp)
  have hng := g.count IntEnc.len (by omega)
  obtain ⟨_, o2, _⟩ := g.row
  have hcap : n ≤ c := by rcases o2.2 with ⟨_, e, e'⟩ | ⟨_, _, _, _, _, hc, _⟩ <;> omega
  exact t_ret ⟨hle, p, n, c, rfl, hcap, g.sl IntEnc.len (by omega) IntEnc.e (by show (listT s).length < _; omega)⟩
/-! ### The moves out of an edition -/
def mvPair (back : Bool) (m : GMv) : List Value := if back then [.int .i64 m.dst, .int .i64 m.src] else [.int .i64 m.src, .int .i64 m.dst]
def mvSel (back : Bool) (e : Int) (m : GMv) : Bool := if back then m.ed == e - 1 else m.ed == e
def mvL (back : Bool) (e : Int) (l : List GMv) : List (List Value) := (l.filter (mvSel back e)).map (mvPair back)
theorem mvL_cons (back : Bool) (e : Int) (m : GMv) (l : List GMv) : mvL back e (m :: l) = (if mvSel back e m then [mvPair back m] else []) ++ mvL back e l := by
 unfold mvL
 rw [List.filter_cons]
 split <;> rfl
theorem hands3209 {h₀ : LH} {f : TabC} {t : GTab} {z0 z1 : Addr} {e : Int} (he : IsI (e - 1)) (hz0 : h₀.get.cell? (Addr.add (Addr.add z0 0) 1) = some (.slice f.p1 f.n1 f.c1)) (hz1 : h₀.get.cell? z1 = some (.int .i64 e)) (hr : TabR h₀.get f t) :
  Hands X0 Tryz.prog (.func (.func 207) #[] #[.pointer (some z0), .pointer (some z1)]) h₀ (mvL false e t.moves) := by
 intro y J E _ _ hyield h hle hJ
 refine cv_fw X0_ok (by rfl) (?_ : FW X0 Tryz.prog 207 #[y, .pointer (some z0), .pointer (some z1)] h _)
 refine w3209 _ _ _ X0_ok ?_
 unfold n3209
 have hn := hr.moves.1
 have hb := hr.moves.2.1
 have y0 := Cells.cell?_le hle.1 hz0
 refine gZ ?_
 refine t_loop (fun mm vs h' => h₀.le h' ∧ ∃ (j cnt : Nat), vs = [.int .i64 j] ∧ j ≤ f.n1 ∧ mm = f.n1 - j ∧ J cnt h' ∧ cnt ≤ (mvL false e t.moves).length ∧ (mvL false e t.moves).drop cnt = mvL false e (t.moves.drop j)) (n := f.n1) ⟨hle, 0, 0, rfl, Nat.zero_le _, by omega, hJ, Nat.zero_le _, rfl⟩ ?_
 rintro Y mm vs h₁ hY ⟨le1, j, cnt, rfl, hj, rfl, hJ1, hcl, hdrop⟩
 refine gZ ?_
 refine t_if (fun e1 => ?_) (fun e1 => ?_)
 ·obtain ⟨m, a, hm, ha, g1, g2, g3⟩ := (hr.moves.le MvE.grow le1.1).at (i := j) (by omega)
  have hin : 0 ≤ (j : Int) ∧ (j : Int) < (f.n1 : Int) := by omega
  have w1 := Cells.cell?_le le1.1 hz1
  rw [drop_of hm, mvL_cons] at hdrop
  refine gZ ?_
  refine t_cond (fun b1 => ?_) (fun b1 => ?_)
  ·have hs : mvSel false e m = true := b1
   rw [if_pos hs] at hdrop
   have hget : (mvL false e t.moves)[cnt]? = some (mvPair false m) := by
    have : ((mvL false e t.moves).drop cnt)[0]? = some (mvPair false m) := by rw [hdrop]; rfl
    simpa using this
   have hlt : cnt < (mvL false e t.moves).length := (List.getElem?_eq_some_iff.1 hget).1
   have hcv := hyield cnt h₁ _ le1 hget hJ1
   refine t_callv hcv ?_
   rintro b h₂ ⟨le2, ⟨rfl, hJ2⟩ | ⟨rfl, hE⟩⟩
   ·refine gZ ?_
    refine t_cond (fun e => by cases e) (fun _ => ?_)
    refine t_again (hY (f.n1 - (j + 1)) _ _ (by omega) ⟨le2, j + 1, cnt + 1, ?_, by omega, rfl, hJ2, by omega, ?_⟩)
    ·rw [wrap_id (by omega) (by omega)]; rfl
    ·rw [← List.drop_drop, hdrop]; rfl
   ·refine gZ ?_
    refine t_cond (fun _ => ?_) (fun e => by cases e)
    refine gI ?_
    refine gZ ?_
    exact t_ret ⟨le2, .inr hE⟩
  ·have hs : mvSel false e m = false := b1
   rw [if_neg (by rw [hs]; simp), List.nil_append] at hdrop
   refine t_again (hY (f.n1 - (j + 1)) _ _ (by omega) ⟨le1, j + 1, cnt, ?_, by omega, rfl, hJ1, hcl, hdrop⟩)
   rw [wrap_id (by omega) (by omega)]; rfl
 ·refine gZ ?_
  refine t_ret ⟨le1, .inl ?_⟩
  rw [List.drop_eq_nil_of_le (by omega : t.moves.length ≤ j)] at hdrop
  have hd := congrArg List.length hdrop
  rw [List.length_drop] at hd
  have h0 : (mvL false e ([] : List GMv)).length = 0 := rfl
  have : cnt = (mvL false e t.moves).length := by omega
  rw [← this]; exact hJ1
theorem hands3210 {h₀ : LH} {f : TabC} {t : GTab} {z0 z1 : Addr} {e : Int} (he : IsI (e - 1)) (hz0 : h₀.get.cell? (Addr.add (Addr.add z0 0) 1) = some (.slice f.p1 f.n1 f.c1)) (hz1 : h₀.get.cell? z1 = some (.int .i64 e)) (hr : TabR h₀.get f t) :
  Hands X0 Tryz.prog (.func (.func 208) #[] #[.pointer (some z0), .pointer (some z1)]) h₀ (mvL true e t.moves) := by
 intro y J E _ _ hyield h hle hJ
 refine cv_fw X0_ok (by rfl) (?_ : FW X0 Tryz.prog 208 #[y, .pointer (some z0), .pointer (some z1)] h _)
 refine w3210 _ _ _ X0_ok ?_
 unfold n3210
 have hn := hr.moves.1
 have hb := hr.moves.2.1
 have y0 := Cells.cell?_le hle.1 hz0
 refine gZ ?_
 refine t_loop (fun mm vs h' => h₀.le h' ∧ ∃ (j cnt : Nat), vs = [.int .i64 j] ∧ j ≤ f.n1 ∧ mm = f.n1 - j ∧ J cnt h' ∧ cnt ≤ (mvL true e t.moves).length ∧ (mvL true e t.moves).drop cnt = mvL true e (t.moves.drop j)) (n := f.n1) ⟨hle, 0, 0, rfl, Nat.zero_le _, by omega, hJ, Nat.zero_le _, rfl⟩ ?_
 rintro Y mm vs h₁ hY ⟨le1, j, cnt, rfl, hj, rfl, hJ1, hcl, hdrop⟩
 refine gZ ?_
 refine t_if (fun e1 => ?_) (fun e1 => ?_)
 ·obtain ⟨m, a, hm, ha, g1, g2, g3⟩ := (hr.moves.le MvE.grow le1.1).at (i := j) (by omega)
  have hin : 0 ≤ (j : Int) ∧ (j : Int) < (f.n1 : Int) := by omega
  have w1 := Cells.cell?_le le1.1 hz1
  rw [drop_of hm, mvL_cons] at hdrop
  refine gZ ?_
  rw [wrap_id he.1 he.2]
  refine t_cond (fun b1 => ?_) (fun b1 => ?_)
  ·have hs : mvSel true e m = true := b1
   rw [if_pos hs] at hdrop
   have hget : (mvL true e t.moves)[cnt]? = some (mvPair true m) := by
    have : ((mvL true e t.moves).drop cnt)[0]? = some (mvPair true m) := by rw [hdrop]; rfl
    simpa using this
   have hlt : cnt < (mvL true e t.moves).length := (List.getElem?_eq_some_iff.1 hget).1
   have hcv := hyield cnt h₁ _ le1 hget hJ1
   refine t_callv hcv ?_
   rintro b h₂ ⟨le2, ⟨rfl, hJ2⟩ | ⟨rfl, hE⟩⟩
   ·refine gZ ?_
    refine t_cond (fun e => by cases e) (fun _ => ?_)
    refine t_again (hY (f.n1 - (j + 1)) _ _ (by omega) ⟨le2, j + 1, cnt + 1, ?_, by omega, rfl, hJ2, by omega, ?_⟩)
    ·rw [wrap_id (by omega) (by omega)]; rfl
    ·rw [← List.drop_drop, hdrop]; rfl
   ·refine gZ ?_
    refine t_cond (fun _ => ?_) (fun e => by cases e)
    refine gI ?_
    refine gZ ?_
    exact t_ret ⟨le2, .inr hE⟩
  ·have hs : mvSel true e m = false := b1
   rw [if_neg (by rw [hs]; simp), List.nil_append] at hdrop
   refine t_again (hY (f.n1 - (j + 1)) _ _ (by omega) ⟨le1, j + 1, cnt, ?_, by omega, rfl, hJ1, hcl, hdrop⟩)
   rw [wrap_id (by omega) (by omega)]; rfl
 ·refine gZ ?_
  refine t_ret ⟨le1, .inl ?_⟩
  rw [List.drop_eq_nil_of_le (by omega : t.moves.length ≤ j)] at hdrop
  have hd := congrArg List.length hdrop
  rw [List.length_drop] at hd
  have h0 : (mvL true e ([] : List GMv)).length = 0 := rfl
  have : cnt = (mvL true e t.moves).length := by omega
  rw [← this]; exact hJ1
theorem c3185 {h : LH} {f : TabC} {t : GTab} (hr : TabR h.get f t) {e : Int} (he : IsI (e - 1)) : Gr Tryz.prog 158 #[tabV f, .int .i64 e] h fun r h' => Hands X0 Tryz.prog r h' (mvL false e t.moves) := by
 refine w3185 _ _ _ _ _ _ _ _ _ _ X0_ok ?_
 unfold n3185
 refine t_new fun r hr0 => ?_
 refine t_new fun r1 hr1 => ?_
 have le1 := LH.upd_le (x := (true, .cells #[.slice f.p0 f.n0 f.c0, .slice f.p1 f.n1 f.c1, .slice f.p2 f.n2 f.c2] 133 (0, 0))) hr0
 have le2 := LH.le_trans le1 (LH.upd_le (x := (true, .cells #[.int .i64 e] 3 (0, 0))) hr1)
 refine t_ret ⟨le2, hands3209 he ?_ ?_ (hr.le le2.1)⟩
 ·rw [add_plain, add_plain]
  refine Cells.cell?_le (LH.upd_le hr1).1 (cell_upd rfl)
 ·exact cell_upd rfl
theorem c3186 {h : LH} {f : TabC} {t : GTab} (hr : TabR h.get f t) {e : Int} (he : IsI (e - 1)) : Gr Tryz.prog 159 #[tabV f, .int .i64 e] h fun r h' => Hands X0 Tryz.prog r h' (mvL true e t.moves) := by
 refine w3186 _ _ _ _ _ _ _ _ _ _ X0_ok ?_
 unfold n3186
 refine t_new fun r hr0 => ?_
 refine t_new fun r1 hr1 => ?_
 have le1 := LH.upd_le (x := (true, .cells #[.slice f.p0 f.n0 f.c0, .slice f.p1 f.n1 f.c1, .slice f.p2 f.n2 f.c2] 133 (0, 0))) hr0
 have le2 := LH.le_trans le1 (LH.upd_le (x := (true, .cells #[.int .i64 e] 3 (0, 0))) hr1)
 refine t_ret ⟨le2, hands3210 he ?_ ?_ (hr.le le2.1)⟩
 ·rw [add_plain, add_plain]
  refine Cells.cell?_le (LH.upd_le hr1).1 (cell_upd rfl)
 ·exact cell_upd rfl
end Go.Proofs.YtldamlcehbdkdaaGreatDoor
end
section
namespace Go.TM
open Go Go.Conc
variable {P : Program} {X : XP} {Q : Leaf → LH → Prop}
theorem none_of_le {h h' : LH} (hl : h.le h') {b : Nat} (hb : h'.get b = none) : h.get b = none := by
 cases hh : h.get b with
 | none => rfl
 | some y => rw [hl.1 b y hh] at hb; cases hb
theorem Arr8.ne {h : Cells} {r b : Nat} {el : TypeId} {s : Te.Items} (a : Arr8 h r el s) (hb : h b = none) : r ≠ b := by
 rintro rfl
 obtain ⟨cs, h1, _⟩ := a
 rw [h1] at hb; cases hb
theorem Arr8.congr {h : Cells} {r : Nat} {el : TypeId} {s t : Te.Items} (a : Arr8 h r el s) (hst : ∀ j, j < 8 → s j = t j) : Arr8 h r el t := by
 obtain ⟨cs, h1, h2, h3⟩ := a
 exact ⟨cs, h1, h2, fun j hj => by rw [h3 j hj, hst j hj]⟩
theorem t_newA {h : LH} {el : TypeId} (s : Te.Items) {k : Nat → T} (hk : ∀ r h', h.get r = none → h.le h' → Arr8 h'.get r el s → (k r).wp X P Q h') : (T.new el #[.bool (s 0), .bool (s 1), .bool (s 2), .bool (s 3), .bool (s 4), .bool (s 5), .bool (s 6), .bool (s 7)] k).wp X P Q h :=
 t_new fun r hr => hk r _ hr (LH.upd_le hr) (Arr8.new s)
namespace Te
def anyT (mv : List (Nat × Nat)) (f : Nat × Nat → Bool) : Items := fun y => mv.any fun m => m.2 == y && f m
theorem anyT_step {mv : List (Nat × Nat)} {f : Nat × Nat → Bool} {i : Nat} {m : Nat × Nat} (hm : mv[i]? = some m) : anyT (mv.take (i + 1)) f = setA (anyT (mv.take i) f) m.2 (anyT (mv.take i) f m.2 || f m) := by
 funext y
 unfold anyT setA
 rw [List.take_add_one, hm, List.any_append]
 simp only [Option.toList_some, List.any_cons, List.any_nil, Bool.or_false]
 by_cases e : y = m.2
 ·subst e; simp
 ·rw [if_neg e]
  have : (m.2 == y) = false := by simpa using fun h => e h.symm
  simp [this]
theorem sure_is (mv : List (Nat × Nat)) (s : Items) (y : Nat) : coverSure mv s y = (anyT mv (fun _ => true) y && !anyT mv (fun m => !s m.1) y) := by
 unfold coverSure anyT
 rw [List.not_any_eq_all_not]
 congr 1
 ·simp
 ·congr 1
  funext m
  cases h : m.2 == y <;> cases h2 : s m.1 <;> simp [bne, h, h2]
theorem cov_step (a b : Items) (i : Nat) : setA (fun y => a y && (decide (i ≤ y) || !b y)) i (a i && !b i) = fun y => a y && (decide (i + 1 ≤ y) || !b y) := by
 funext y
 unfold setA
 by_cases e : y = i
 ·subst e
  rw [if_pos rfl, show decide (y + 1 ≤ y) = false by rw [decide_eq_false_iff_not]; omega, Bool.false_or]
 ·rw [if_neg e]
  have : decide (i ≤ y) = decide (i + 1 ≤ y) := by
   rw [decide_eq_decide]; omega
  simp only [this]
end Te
end Go.TM
namespace Go.Proofs.YtldamlcehbdkdaaGreatDoor
open Go Go.TM Go.Proofs
attribute [local irreducible] T.wp CV FWK
set_option maxRecDepth 10000 in
theorem c3187 {h : LH} {v : Value} {mv : List (Nat × Nat)} (hH : Hands X0 Tryz.prog v h (mv.map fun m => [.int .i64 (m.1 : Int), .int .i64 (m.2 : Int)])) (h8 : ∀ m ∈ mv, m.1 < 8 ∧ m.2 < 8) (s c : Te.Items) :
  Gr Tryz.prog 160 #[v, boolsV s, boolsV c] h fun r _ => r = .tuple #[boolsV (Te.coverSure mv s), boolsV (Te.coverCan mv c)] := by
 refine w3187 _ _ _ _ _ _ _ _ _ _ _ _ _ _ _ _ _ X0_ok ?_
 unfold n3187
 refine t_newA s fun r g0 hr0 l0 a0 => ?_
 refine t_newA c fun r1 g1 hr1 l1 a1 => ?_
 refine t_newA (fun _ => false) fun r2 g2 hr2 l2 a2 => ?_
 refine t_newA (fun _ => false) fun r3 g3 hr3 l3 a3 => ?_
 refine t_newA (fun _ => false) fun r4 g4 hr4 l4 a4 => ?_
 have l12 := LH.le_trans l1 l2
 have l23 := LH.le_trans l2 l3
 have l34 := LH.le_trans l3 l4
 have l234 := LH.le_trans l2 l34
 have l1234 := LH.le_trans l1 l234
 have l01 := LH.le_trans l0 l1
 have l012 := LH.le_trans l01 l2
 have l0123 := LH.le_trans l012 l3
 have l01234 := LH.le_trans l0123 l4
 have n02 := (a0.le l1.1).ne hr2
 have n03 := (a0.le l12.1).ne hr3
 have n04 := (a0.le (LH.le_trans l12 l3).1).ne hr4
 have n12 := a1.ne hr2
 have n13 := (a1.le l2.1).ne hr3
 have n14 := (a1.le l23.1).ne hr4
 have n23 := a2.ne hr3
 have n24 := (a2.le l3.1).ne hr4
 have n34 := a3.ne hr4
 replace hr2 := none_of_le l01 hr2
 replace hr3 := none_of_le l012 hr3
 replace hr4 := none_of_le l0123 hr4
 refine t_each (h₀ := h) l01234 hH (fun i vs h' => vs = [] ∧ Arr8 h'.get r 183 s ∧ Arr8 h'.get r1 183 c ∧ Arr8 h'.get r2 183 (Te.anyT (mv.take i) fun _ => true) ∧ Arr8 h'.get r3 183 (Te.anyT (mv.take i) fun m => !s m.1) ∧ Arr8 h'.get r4 183 (Te.anyT (mv.take i) fun m => c m.1))
  ⟨rfl, a0.le l1234.1, a1.le l234.1, a2.le l34.1, a3.le l4.1, a4⟩ ?_ ?_
 ·rintro vs h' hle ⟨rfl, A, B, C, D, E⟩
  rw [List.length_map, List.take_length] at C D E
  refine gZ ?_
  refine t_loop (fun mm vs h' => h.le h' ∧ ∃ i : Nat, vs = [.int .i64 i] ∧ i ≤ 8 ∧ mm = 8 - i ∧ Arr8 h'.get r2 183 (fun y => Te.anyT mv (fun _ => true) y && (decide (i ≤ y) || !Te.anyT mv (fun m => !s m.1) y)) ∧ Arr8 h'.get r3 183 (Te.anyT mv fun m => !s m.1) ∧ Arr8 h'.get r4 183 (Te.anyT mv fun m => c m.1))
   ⟨hle, 0, rfl, by omega, rfl, C.congr fun j _ => by simp, D, E⟩ ?_
  rintro Y mm vs h1 hY ⟨le1, i, rfl, hi, rfl, C1, D1, E1⟩
  refine gZ ?_
  refine t_if (fun e1 => ?_) (fun e1 => ?_)
  ·have hi8 : i < 8 := by omega
   have hin : 0 ≤ (i : Int) ∧ (i : Int) < ((8 : Nat) : Int) := by omega
   have k1 : h1.get.cell? (Addr.add ⟨r2, 0, none⟩ (Int.toNat (i : Int) * 1)) = some (.bool (Te.anyT mv (fun _ => true) i)) := by
    rw [Int.toNat_natCast, Nat.mul_one]
    have := C1.cell hi8
    simpa using this
   have k2 : h1.get.cell? (Addr.add ⟨r3, 0, none⟩ (Int.toNat (i : Int) * 1)) = some (.bool (Te.anyT mv (fun m => !s m.1) i)) := by rw [Int.toNat_natCast, Nat.mul_one]; exact D1.cell hi8
   have next : ∀ h2, Turn1 r2 h1 h2 → Arr8 h2.get r2 183 (setA (fun y => Te.anyT mv (fun _ => true) y && (decide (i ≤ y) || !Te.anyT mv (fun m => !s m.1) y)) i (Te.anyT mv (fun _ => true) i && !Te.anyT mv (fun m => !s m.1) i)) → Y [.int .i64 (IntKind.wrap .i64 ((i : Int) + 1))] h2 := fun h2 t2 a2 => by
    rw [Te.cov_step] at a2
    refine hY (8 - (i + 1)) _ _ (by omega) ⟨t2.le le1 hr2, i + 1, ?_, by omega, rfl, a2, t2.arr n23.symm D1, t2.arr n24.symm E1⟩
    rw [wrap_id (by omega) (by omega)]; rfl
   refine gZ ?_
   refine t_cond (fun b1 => ?_) (fun b1 => ?_)
   ·refine gZ ?_
    refine t_storeA (j := i) (by rw [add_plain, add_plain]; simp) C1 hi8 fun h2 t2 a2 => ?_
    refine t_again (next h2 t2 ?_)
    rw [b1, Bool.true_and]; exact a2
   ·refine gZ ?_
    refine t_storeA (j := i) (by rw [add_plain, add_plain]; simp) C1 hi8 fun h2 t2 a2 => ?_
    refine t_again (next h2 t2 ?_)
    rw [b1, Bool.false_and]; exact a2
  ·have C2 : Arr8 h1.get r2 183 (Te.coverSure mv s) := C1.congr fun j hj => by
    rw [Te.sure_is]
    have : decide (i ≤ j) = false := by rw [decide_eq_false_iff_not]; omega
    rw [this, Bool.false_or]
   have E2 : Arr8 h1.get r4 183 (Te.coverCan mv c) := E1
   have k0 := C2.cell (j := 0) (by decide)
   have k1 := C2.cell (j := 1) (by decide)
   have k2 := C2.cell (j := 2) (by decide)
   have k3 := C2.cell (j := 3) (by decide)
   have k4 := C2.cell (j := 4) (by decide)
   have k5 := C2.cell (j := 5) (by decide)
   have k6 := C2.cell (j := 6) (by decide)
   have k7 := C2.cell (j := 7) (by decide)
   have m0 := E2.cell (j := 0) (by decide)
   have m1 := E2.cell (j := 1) (by decide)
   have m2 := E2.cell (j := 2) (by decide)
   have m3 := E2.cell (j := 3) (by decide)
   have m4 := E2.cell (j := 4) (by decide)
   have m5 := E2.cell (j := 5) (by decide)
   have m6 := E2.cell (j := 6) (by decide)
   have m7 := E2.cell (j := 7) (by decide)
   refine gZ ?_
   exact t_ret ⟨le1, rfl⟩
 ·rintro i xs vs h' hxs hle ⟨rfl, A, B, C, D, E⟩ Y hY
  rw [List.getElem?_map] at hxs
  obtain ⟨m, hm, rfl⟩ := Option.map_eq_some_iff.1 hxs
  obtain ⟨m1, m2⟩ := h8 m (List.mem_of_getElem? hm)
  have i1 : 0 ≤ (m.1 : Int) ∧ (m.1 : Int) < ((8 : Nat) : Int) := by omega
  have i2 : 0 ≤ (m.2 : Int) ∧ (m.2 : Int) < ((8 : Nat) : Int) := by omega
  refine gZ ?_
  refine t_storeA (j := m.2) (by rw [add_plain, add_plain]; simp) C m2 fun h2 t2 C2 => ?_
  have le2 := t2.le hle hr2
  have A2 := t2.arr n02 A
  have B2 := t2.arr n12 B
  have D2 := t2.arr n23.symm D
  have E2 := t2.arr n24.symm E
  replace C2 : Arr8 h2.get r2 183 (Te.anyT (mv.take (i + 1)) fun _ => true) := by
   rw [Te.anyT_step hm, Bool.or_true]; exact C2
  have d' : h2.get.cell? (Addr.add ⟨r3, 0, none⟩ (Int.toNat (m.2 : Int) * 1)) = some (.bool (Te.anyT (mv.take i) (fun m => !s m.1) m.2)) := by rw [Int.toNat_natCast, Nat.mul_one]; exact D2.cell m2
  refine gZ ?_
  refine t_cond (fun e1 => ?_) (fun e1 => ?_)
  ·refine gZ ?_
   refine t_storeA (j := m.2) (by rw [add_plain, add_plain]; simp) D2 m2 fun h3 t3 D3 => ?_
   have le3 := t3.le le2 hr3
   have A3 := t3.arr n03 A2
   have B3 := t3.arr n13 B2
   have C3 := t3.arr n23 C2
   have E3 := t3.arr n34.symm E2
   replace D3 : Arr8 h3.get r3 183 (Te.anyT (mv.take (i + 1)) fun m => !s m.1) := by
    rw [Te.anyT_step hm, e1, Bool.true_or]; exact D3
   have e' : h3.get.cell? (Addr.add ⟨r4, 0, none⟩ (Int.toNat (m.2 : Int) * 1)) = some (.bool (Te.anyT (mv.take i) (fun m => c m.1) m.2)) := by rw [Int.toNat_natCast, Nat.mul_one]; exact E3.cell m2
   refine gZ ?_
   refine t_cond (fun e2 => ?_) (fun e2 => ?_)
   ·refine gZ ?_
    refine t_storeA (j := m.2) (by rw [add_plain, add_plain]; simp) E3 m2 fun h4 t4 E4 => ?_
    refine t_againE (t4.le le3 hr4) (hY _ _ (t4.le le3 hr4) ⟨rfl, t4.arr n04 A3, t4.arr n14 B3, t4.arr n24 C3, t4.arr n34 D3, ?_⟩)
    rw [Te.anyT_step hm, e2, Bool.true_or]; exact E4
   ·have b' : h3.get.cell? (Addr.add ⟨r1, 0, none⟩ (Int.toNat (m.1 : Int) * 1)) = some (.bool (c m.1)) := by rw [Int.toNat_natCast, Nat.mul_one]; exact B3.cell m1
    refine gZ ?_
    refine t_storeA (j := m.2) (by rw [add_plain, add_plain]; simp) E3 m2 fun h4 t4 E4 => ?_
    refine t_againE (t4.le le3 hr4) (hY _ _ (t4.le le3 hr4) ⟨rfl, t4.arr n04 A3, t4.arr n14 B3, t4.arr n24 C3, t4.arr n34 D3, ?_⟩)
    rw [Te.anyT_step hm, e2, Bool.false_or]; exact E4
  ·have a' : h2.get.cell? (Addr.add ⟨r, 0, none⟩ (Int.toNat (m.1 : Int) * 1)) = some (.bool (s m.1)) := by rw [Int.toNat_natCast, Nat.mul_one]; exact A2.cell m1
   refine gZ ?_
   refine t_storeA (j := m.2) (by rw [add_plain, add_plain]; simp) D2 m2 fun h3 t3 D3 => ?_
   have le3 := t3.le le2 hr3
   have A3 := t3.arr n03 A2
   have B3 := t3.arr n13 B2
   have C3 := t3.arr n23 C2
   have E3 := t3.arr n34.symm E2
   replace D3 : Arr8 h3.get r3 183 (Te.anyT (mv.take (i + 1)) fun m => !s m.1) := by
    rw [Te.anyT_step hm, e1, Bool.false_or]; exact D3
   have e' : h3.get.cell? (Addr.add ⟨r4, 0, none⟩ (Int.toNat (m.2 : Int) * 1)) = some (.bool (Te.anyT (mv.take i) (fun m => c m.1) m.2)) := by rw [Int.toNat_natCast, Nat.mul_one]; exact E3.cell m2
   refine gZ ?_
   refine t_cond (fun e2 => ?_) (fun e2 => ?_)
   ·refine gZ ?_
    refine t_storeA (j := m.2) (by rw [add_plain, add_plain]; simp) E3 m2 fun h4 t4 E4 => ?_
    refine t_againE (t4.le le3 hr4) (hY _ _ (t4.le le3 hr4) ⟨rfl, t4.arr n04 A3, t4.arr n14 B3, t4.arr n24 C3, t4.arr n34 D3, ?_⟩)
    rw [Te.anyT_step hm, e2, Bool.true_or]; exact E4
   ·have b' : h3.get.cell? (Addr.add ⟨r1, 0, none⟩ (Int.toNat (m.1 : Int) * 1)) = some (.bool (c m.1)) := by rw [Int.toNat_natCast, Nat.mul_one]; exact B3.cell m1
    refine gZ ?_
    refine t_storeA (j := m.2) (by rw [add_plain, add_plain]; simp) E3 m2 fun h4 t4 E4 => ?_
    refine t_againE (t4.le le3 hr4) (hY _ _ (t4.le le3 hr4) ⟨rfl, t4.arr n04 A3, t4.arr n14 B3, t4.arr n24 C3, t4.arr n34 D3, ?_⟩)
    rw [Te.anyT_step hm, e2, Bool.false_or]; exact E4
end Go.Proofs.YtldamlcehbdkdaaGreatDoor
end
section
namespace Go.TM
open Go Go.Conc Go.Proofs.YtldamlcehbdkdaaGreatDoor
def gm (m : GMv) : Te.GMove := ⟨m.ed, m.src.toNat, m.dst.toNat⟩
theorem mvL_steps {l : List GMv} (h0 : ∀ m ∈ l, 0 ≤ m.src ∧ 0 ≤ m.dst) (back : Bool) (e : Int) : mvL back e l = (Te.stepsT (l.map gm) back e).map fun m => [.int .i64 (m.1 : Int), .int .i64 (m.2 : Int)] := by
 cases back
 ·unfold Te.stepsT
  simp only [Bool.false_eq_true, if_false]
  rw [List.filter_map, List.map_map, List.map_map]
  unfold mvL
  refine List.map_congr_left fun m hm => ?_
  have := h0 m (List.mem_filter.1 hm).1
  show [Value.int .i64 m.src, .int .i64 m.dst] = [.int .i64 (m.src.toNat : Int), .int .i64 (m.dst.toNat : Int)]
  rw [Int.toNat_of_nonneg this.1, Int.toNat_of_nonneg this.2]
 ·unfold Te.stepsT
  simp only [if_true]
  rw [List.filter_map, List.map_map, List.map_map]
  unfold mvL
  refine List.map_congr_left fun m hm => ?_
  have := h0 m (List.mem_filter.1 hm).1
  show [Value.int .i64 m.dst, .int .i64 m.src] = [.int .i64 (m.dst.toNat : Int), .int .i64 (m.src.toNat : Int)]
  rw [Int.toNat_of_nonneg this.1, Int.toNat_of_nonneg this.2]
theorem steps8 {l : List GMv} (h : ∀ m ∈ l, (0 ≤ m.src ∧ m.src < 8) ∧ 0 ≤ m.dst ∧ m.dst < 8) (back : Bool) (e : Int) : ∀ m ∈ Te.stepsT (l.map gm) back e, m.1 < 8 ∧ m.2 < 8 := by
 intro m hm
 cases back
 ·unfold Te.stepsT at hm
  simp only [Bool.false_eq_true, if_false, List.mem_map, List.mem_filter] at hm
  obtain ⟨_, ⟨⟨x, hx, rfl⟩, _⟩, rfl⟩ := hm
  have := h x hx
  show x.src.toNat < 8 ∧ x.dst.toNat < 8
  omega
 ·unfold Te.stepsT at hm
  simp only [if_true, List.mem_map, List.mem_filter] at hm
  obtain ⟨_, ⟨⟨x, hx, rfl⟩, _⟩, rfl⟩ := hm
  have := h x hx
  show x.dst.toNat < 8 ∧ x.src.toNat < 8
  omega
theorem TabOk.mv8 {t : GTab} (ok : TabOk t) : ∀ m ∈ t.moves, (0 ≤ m.src ∧ m.src < 8) ∧ 0 ≤ m.dst ∧ m.dst < 8 := fun m hm => by
 obtain ⟨⟨_, _, h3, h4⟩, _, _, h5, h6⟩ := ok.move m hm
 have := ok.items8 m.ed
 have := ok.items8 (m.ed + 1)
 omega
def coverAt (t : GTab) (a b : Int) (l : List Int) : Te.Items × Te.Items := Te.moveT (t.moves.map gm) (decide (b < a)) (b - a).natAbs a (setL l, setL l)
structure ListOk (t : GTab) (e : Int) (l : List Int) : Prop where
 item : ∀ v ∈ l, itemB t e v
 up : l.Pairwise (· < ·)
theorem ListOk.in8 {t : GTab} {e : Int} {l : List Int} (ok : TabOk t) (o : ListOk t e l) : ∀ v ∈ l, 0 ≤ v ∧ v < 8 := fun v hv => by
 obtain ⟨_, _, h3, h4⟩ := o.item v hv
 have := ok.items8 e
 omega
theorem pair_at {l : List Int} (h : l.Pairwise (· < ·)) {i j : Nat} {x y : Int} (hij : i < j) (hx : l[i]? = some x) (hy : l[j]? = some y) : x < y := by
 obtain ⟨hi, rfl⟩ := List.getElem?_eq_some_iff.1 hx
 obtain ⟨hj, rfl⟩ := List.getElem?_eq_some_iff.1 hy
 exact List.pairwise_iff_getElem.1 h i j hi hj hij
end Go.TM
namespace Go.Proofs.YtldamlcehbdkdaaGreatDoor
open Go Go.TM Go.Proofs
attribute [local irreducible] T.wp CV FWK
set_option maxRecDepth 10000 in
theorem c3162 {h : LH} {f : TabC} {t : GTab} (hr : TabR h.get f t) (ok : TabOk t) {a b : Int} (ha : 0 ≤ a ∧ a < (t.eds.length : Int)) (hb : 0 ≤ b ∧ b < (t.eds.length : Int)) {p : Option Addr} {n c : Nat} {l : List Int} (hl : Sl IntE 1 h.get p n l) (hin : ∀ v ∈ l, 0 ≤ v ∧ v < 8) :
  Gr Tryz.prog 108 #[tabV f, .int .i64 a, .int .i64 b, .slice p n c] h fun r _ => r = .tuple #[boolsV (coverAt t a b l).1, boolsV (coverAt t a b l).2] := by
 refine w3162 _ _ _ _ _ _ _ _ _ _ _ _ _ _ X0_ok ?_
 unfold n3162
 have hmany := ok.many
 refine t_gr (c3184 hl hin) ?_
 rintro _ h1 le1 rfl
 refine gZ ?_
 refine t_gr (c3184 (hl.le IntE.grow le1.1) hin) ?_
 rintro _ h2 le2 rfl
 have le02 := LH.le_trans le1 le2
 refine gZ ?_
 refine t_blk (fun vs h' => vs = [.func (.func (bif decide (b < a) then 159 else 158)) #[tabV f] #[], .int .i64 (bif decide (b < a) then -1 else 1)] ∧ h2 = h') ?_ ?_
 ·refine t_if (fun hb => ?_) (fun hb => ?_)
  ·refine t_again ⟨?_, rfl⟩
   rw [decide_eq_true hb]; rfl
  ·refine t_again ⟨?_, rfl⟩
   rw [decide_eq_false hb]; rfl
 rintro vs _ ⟨rfl, rfl⟩
 have hbk : ∀ back : Bool, back = decide (b < a) → (back = true → b < a) ∧ (back = false → a ≤ b) := fun back e => by
  subst e
  exact ⟨fun h => of_decide_eq_true h, fun h => by have := of_decide_eq_false h; omega⟩
 have hcov : coverAt t a b l = Te.moveT (t.moves.map gm) (decide (b < a)) (b - a).natAbs a (setL l, setL l) := rfl
 generalize hB : decide (b < a) = back at *
 have hdir := hbk back rfl
 refine gZ ?_
 refine t_loop (fun mm vs h' => h.le h' ∧ ∃ (k : Nat) (s c : Te.Items), vs = [.int .i64 (bif back then a - k else a + k), .bool (s 0), .bool (s 1), .bool (s 2), .bool (s 3), .bool (s 4), .bool (s 5), .bool (s 6), .bool (s 7), .bool (c 0), .bool (c 1), .bool (c 2), .bool (c 3), .bool (c 4), .bool (c 5), .bool (c 6), .bool (c 7)] ∧ k ≤ (b - a).natAbs ∧ mm = (b - a).natAbs - k ∧
   coverAt t a b l = Te.moveT (t.moves.map gm) back ((b - a).natAbs - k) (bif back then a - k else a + k) (s, c)) ⟨le02, 0, setL l, setL l, ?_, Nat.zero_le _, rfl, ?_⟩ ?_
 ·cases back <;> simp
 ·rw [hcov]; cases back <;> simp
 rintro Y mm vs h3 hY ⟨le3, k, s, c, rfl, hk, rfl, hc⟩
 refine gZ ?_
 refine t_cond (fun e1 => ?_) (fun e1 => ?_)
 ·have hlt : k < (b - a).natAbs := by
   have : (bif back then a - k else a + k) ≠ b := by simpa using e1
   cases back
   ·have := hdir.2 rfl
    simp only [cond_false] at *
    omega
   ·have := hdir.1 rfl
    simp only [cond_true] at *
    omega
  have run : CV X0 Tryz.prog (.func (.func (bif back then 159 else 158)) #[tabV f] #[]) #[.int .i64 (bif back then a - k else a + k)] h3 fun r h' => h3.le h' ∧ Hands X0 Tryz.prog r h' (mvL back (bif back then a - k else a + k) t.moves) := by
   cases back
   ·exact cv_fw X0_ok (by rfl) (c3185 (hr.le le3.1) ⟨by have := hdir.2 rfl; simp only [cond_false]; omega, by have := hdir.2 rfl; simp only [cond_false]; omega⟩)
   ·exact cv_fw X0_ok (by rfl) (c3186 (hr.le le3.1) ⟨by have := hdir.1 rfl; simp only [cond_true]; omega, by have := hdir.1 rfl; simp only [cond_true]; omega⟩)
  refine t_callv run ?_
  rintro r h4 ⟨le4, hh⟩
  rw [mvL_steps (fun m hm => ⟨(ok.mv8 m hm).1.1, (ok.mv8 m hm).2.1⟩)] at hh
  refine gZ ?_
  refine t_gr (c3187 hh (steps8 ok.mv8 _ _) s c) ?_
  rintro _ h5 le5 rfl
  refine gZ ?_
  refine t_again (hY ((b - a).natAbs - (k + 1)) _ _ (by omega) ⟨LH.le_trans le3 (LH.le_trans le4 le5), k + 1, Te.coverSure (Te.stepsT (t.moves.map gm) back (bif back then a - (k : Int) else a + (k : Int))) s, Te.coverCan (Te.stepsT (t.moves.map gm) back (bif back then a - (k : Int) else a + (k : Int))) c, ?_, by omega, rfl, ?_⟩)
  ·have : IntKind.wrap .i64 ((bif back then a - k else a + k) + (bif back then -1 else 1)) = (bif back then a - ((k + 1 : Nat) : Int) else a + ((k + 1 : Nat) : Int)) := by
    cases back
    ·have := hdir.2 rfl
     simp only [cond_false]
     rw [wrap_id (by omega) (by omega)]; omega
    ·have := hdir.1 rfl
     simp only [cond_true]
     rw [wrap_id (by omega) (by omega)]; omega
   rw [this]
  ·rw [hc, show (b - a).natAbs - k = ((b - a).natAbs - (k + 1)) + 1 by omega]
   have : (if back then (bif back then a - (k : Int) else a + k) - 1 else (bif back then a - (k : Int) else a + k) + 1) = (bif back then a - ((k + 1 : Nat) : Int) else a + ((k + 1 : Nat) : Int)) := by
    cases back
    ·simp only [cond_false, Bool.false_eq_true, if_false]; omega
    ·simp only [cond_true, if_true]; omega
   show Te.moveT _ _ _ (if back then _ else _) _ = _
   rw [this]
 ·have hkK : k = (b - a).natAbs := by
   have : (bif back then a - k else a + k) = b := by simpa using e1
   cases back
   ·have := hdir.2 rfl
    simp only [cond_false] at *
    omega
   ·have := hdir.1 rfl
    simp only [cond_true] at *
    omega
  rw [hkK, Nat.sub_self] at hc
  have hs : coverAt t a b l = (s, c) := hc
  refine gZ ?_
  refine t_ret ⟨le3, ?_⟩
  rw [hs]
theorem c3136 {h : LH} {f : TabC} {t : GTab} (hr : TabR h.get f t) {e : Int} {p : Option Addr} {n c : Nat} {l : List Int} (hl : Sl IntE 1 h.get p n l) (o : ListOk t e l) : Pu Tryz.prog 67 #[tabV f, .int .i64 e, .slice p n c] h (.int .i64 0) := by
 refine w3136 _ _ _ _ _ _ _ _ _ _ _ _ _ X0_ok ?_
 unfold n3136
 have hn := hl.1
 have hb := hl.2.1
 refine t_loop (fun mm vs h' => h = h' ∧ ∃ i : Nat, vs = [.int .i64 0, .int .i64 i] ∧ i ≤ n ∧ mm = n - i) ⟨rfl, 0, rfl, Nat.zero_le _, rfl⟩ ?_
 rintro Y mm vs _ hY ⟨rfl, i, rfl, hi, rfl⟩
 have next : Y [.int .i64 0, .int .i64 (IntKind.wrap .i64 ((i : Int) + 1))] h ∨ n ≤ i := by
  by_cases e : i < n
  ·refine .inl (hY (n - (i + 1)) _ _ (by omega) ⟨rfl, i + 1, ?_, by omega, rfl⟩)
   rw [wrap_id (by omega) (by omega)]; rfl
  ·exact .inr (by omega)
 refine gZ ?_
 refine t_if (fun e1 => ?_) (fun e1 => ?_)
 ·obtain ⟨x, a, hx, ha, e2⟩ := hl.at (i := i) (by omega)
  unfold IntE at e2
  have hin : 0 ≤ (i : Int) ∧ (i : Int) < (n : Int) := by omega
  have nxt := next.resolve_right (by omega)
  refine gZ ?_
  refine t_pu (c3168 hr _ _) ?_
  rw [item_is.2 (o.item x (List.mem_of_getElem? hx))]
  refine gZ ?_
  refine t_cond (fun e => by cases e) (fun _ => ?_)
  refine t_if (fun e3 => ?_) (fun e3 => ?_)
  ·obtain ⟨y, a', hy, ha', e4⟩ := hl.at (i := i - 1) (by omega)
   obtain rfl : a = a' := Option.some.inj (ha.symm.trans ha')
   unfold IntE at e4
   have hlt := pair_at o.up (by omega : i - 1 < i) hy hx
   have ew : IntKind.wrap .i64 ((i : Int) - 1) = ((i - 1 : Nat) : Int) := by rw [wrap_id (by omega) (by omega)]; omega
   have hin1 : 0 ≤ ((i - 1 : Nat) : Int) ∧ ((i - 1 : Nat) : Int) < (n : Int) := by omega
   rw [ew]
   refine gZ ?_
   refine t_if (fun e => by omega) (fun _ => ?_)
   exact t_again nxt
  ·exact t_again nxt
 ·refine gZ ?_
  exact t_ret ⟨rfl, rfl⟩
theorem flatBools (s : Te.Items) : FlatAgg Tryz.prog 183 [.bool (s 0), .bool (s 1), .bool (s 2), .bool (s 3), .bool (s 4), .bool (s 5), .bool (s 6), .bool (s 7)] := by
 obtain ⟨inf, hi, h1⟩ : ∃ inf, Tryz.prog.info? 4 = some inf ∧ inf.size = 1 := by
  have := inf4
  cases hh : Tryz.prog.info? 4 with
  | none => rw [hh] at this; cases this
  | some inf => rw [hh] at this; exact ⟨inf, rfl, by have := Option.some.inj this; exact (Prod.mk.inj this).1⟩
 refine .arr 8 4 inf und1189 hi h1 rfl fun v hv => ?_
 have hbas : ∀ b : Bool, isBas Tryz.prog 4 (.bool b) := fun b => by
  unfold isBas
  simp
 simp only [List.mem_cons, List.not_mem_nil, or_false] at hv
 rcases hv with rfl | rfl | rfl | rfl | rfl | rfl | rfl | rfl <;> exact hbas _
theorem egSet : Tryz.prog.eqGuardType Tryz.prog.depth 183 = false := by kernel_rfl
theorem listT_congr {s t : Te.Items} (h : ∀ j, j < 8 → s j = t j) : listT s = listT t := by
 unfold listT
 congr 1
 exact List.filter_congr fun j hj => h j (List.mem_range.1 hj)
set_option maxRecDepth 10000 in
theorem c3128 {h : LH} {f : TabC} {t : GTab} (hr : TabR h.get f t) (ok : TabOk t) {a b : Int} (ha : 0 ≤ a ∧ a < (t.eds.length : Int)) (hb : 0 ≤ b ∧ b < (t.eds.length : Int)) {p : Option Addr} {n c : Nat} {l : List Int} (hl : Sl IntE 1 h.get p n l) (o : ListOk t a l) :
  Gr Tryz.prog 46 #[tabV f, .int .i64 a, .int .i64 b, .slice p n c] h fun r h' => ∃ p1 n1 c1 p2 n2 c2, r = .tuple #[.slice p1 n1 c1, .slice p2 n2 c2, .int .i64 0] ∧ Sl IntE 1 h'.get p1 n1 (listT (coverAt t a b l).1) ∧ Sl IntE 1 h'.get p2 n2 (listT (coverAt t a b l).2) := by
 refine w3128 _ _ _ _ _ _ _ _ _ _ _ _ _ _ X0_ok ?_
 unfold n3128
 refine t_gr (c3160 hr ok) ?_
 rintro _ h1 le1 rfl
 have hr1 := hr.le le1.1
 have hl1 := hl.le IntE.grow le1.1
 refine gZ ?_
 refine t_cond (fun e => by cases e) (fun _ => ?_)
 refine t_blk (fun vs h' => vs = [.slice none 0 0, .slice none 0 0, .int .i64 0] ∧ h1 = h') ?_ ?_
 ·refine t_pu (c3161 hr1 _) ?_
  rw [in_iff.2 (show 0 ≤ a ∧ a ≤ (t.eds.length : Int) - 1 by omega)]
  refine gZ ?_
  refine t_cond (fun e => by cases e) (fun _ => ?_)
  refine t_pu (c3161 hr1 _) ?_
  rw [in_iff.2 (show 0 ≤ b ∧ b ≤ (t.eds.length : Int) - 1 by omega)]
  refine gZ ?_
  refine t_cond (fun e => by cases e) (fun _ => ?_)
  exact t_again ⟨rfl, rfl⟩
 rintro vs _ ⟨rfl, rfl⟩
 refine gZ ?_
 refine t_pu (c3136 hr1 hl1 o) ?_
 refine gZ ?_
 refine t_cond (fun e => by cases e) (fun _ => ?_)
 refine t_gr (c3162 hr1 ok ha hb hl1 (o.in8 ok)) ?_
 rintro _ h2 le2 rfl
 have le02 := LH.le_trans le1 le2
 refine gZ ?_
 refine t_eqK (flatBools _) (flatBools _) egSet fun cb hcb => ?_
 refine gZ ?_
 refine t_cond (fun b1 => ?_) (fun b1 => ?_)
 ·have heq := hcb.1 b1
  simp only [List.cons.injEq, Value.bool.injEq, and_true] at heq
  have hc : listT (coverAt t a b l).1 = listT (coverAt t a b l).2 := listT_congr fun j hj => by
   obtain ⟨e0, e1, e2, e3, e4, e5, e6, e7⟩ := heq
   match j, hj with
   | 0, _ => exact e0
   | 1, _ => exact e1
   | 2, _ => exact e2
   | 3, _ => exact e3
   | 4, _ => exact e4
   | 5, _ => exact e5
   | 6, _ => exact e6
   | 7, _ => exact e7
  refine t_gr (c3163 _) ?_
  rintro _ h3 le3 ⟨p1, n1, c1, rfl, _, s1⟩
  refine gZ ?_
  refine t_gr (c3163 _) ?_
  rintro _ h4 le4 ⟨p2, n2, c2, rfl, _, s2⟩
  refine gZ ?_
  exact t_ret ⟨LH.le_trans le02 (LH.le_trans le3 le4), _, _, _, _, _, _, rfl, s1.le IntE.grow le4.1, by rw [← hc]; exact s2⟩
 ·refine t_gr (c3163 _) ?_
  rintro _ h3 le3 ⟨p1, n1, c1, rfl, _, s1⟩
  refine gZ ?_
  refine t_gr (c3163 _) ?_
  rintro _ h4 le4 ⟨p2, n2, c2, rfl, _, s2⟩
  refine gZ ?_
  exact t_ret ⟨LH.le_trans le02 (LH.le_trans le3 le4), _, _, _, _, _, _, rfl, s1.le IntE.grow le4.1, s2⟩
end Go.Proofs.YtldamlcehbdkdaaGreatDoor
end
section
namespace Go.TM
open Go Go.Conc
section
variable {P : Program} {X : XP} {Q : Leaf → LH → Prop}
theorem t_sliceLow {h : LH} {K : Value → T} {t el : TypeId} {s b : Nat} {z : Option Value} {p : Option Addr} {n c i : Nat} (hu : P.underlying t = some (.slice el)) (hi : (P.info? el).map (fun i => (i.size, i.bytes, i.zero)) = some (s, b, z)) (hin : i ≤ n)
  (hk : (K (.slice (if c = i then p else p.map (·.add (i * s))) (n - i) (c - i))).wp X P Q h) : (T.sem false (Instr.sliceAt t (.slice p n c) (some (.int .i64 (i : Int))) none none) K).wp X P Q h := by
 obtain ⟨inf, g1, g2, _, _⟩ := info_of hi
 refine t_sem (A := fun v h' => v = .slice (if c = i then p else p.map (·.add (i * s))) (n - i) (c - i) ∧ h' = h.get) ?_ (by rintro v h' ⟨rfl, rfl⟩; exact hk)
 unfold Instr.sliceAt
 simp only [lwp_bind, lwp_underlying hu]
 unfold Instr.slice
 simp only [lwp_bind, lwp_underlying hu]
 unfold Instr.sliceBounds Instr.sliceBound
 simp only [lwp_bind, lwp_pure, asIntOf, asInt]
 rw [if_pos (show 0 ≤ (i : Int) ∧ (i : Int) ≤ (n : Int) by omega)]
 simp only [lwp_pure, lwp_sizeOf g1, Int.toNat_natCast, g2]
 exact ⟨trivial, trivial⟩
end
theorem Growing.base {α : Type} {Enc : α → List Value → Prop} {el : TypeId} {k : Nat} {h₀ h₁ h : Cells} {p : Option Addr} {n c : Nat} {l : List α} (g : Growing Enc el k h₀ h p n c l) (hb : ∀ r, h₀ r = none → h₁ r = none) : Growing Enc el k h₁ h p n c l := ⟨g.row, fun a ha => hb _ (g.new a ha)⟩
theorem IntE.told {h : Cells} : ToldE IntE IntEnc 1 h := by
 rintro a x h1
 refine ⟨_, rfl, rfl, fun j w hj => ?_, fun w hw => by simp at hw; subst hw; rfl⟩
 match j, hj with
 | 0, hj => cases hj; exact h1
 | j + 1, hj => simp at hj
section
variable {P : Program} {X : XP} {Q : Leaf → LH → Prop}
end
end Go.TM
end
section
namespace Go.Proofs.YtldamlcehbdkdaaGreatDoor
open Go Go.TM Go.Proofs
attribute [local irreducible] T.wp CV FWK
theorem t_sliceHigh {P : Program} {X : XP} {Q : Leaf → LH → Prop} {h : LH} {K : Value → T} {t el : TypeId} {s b : Nat} {z : Option Value} {p : Option Addr} {n c i : Nat} (hu : P.underlying t = some (.slice el)) (hi : (P.info? el).map (fun i => (i.size, i.bytes, i.zero)) = some (s, b, z)) (hin : i ≤ c)
  (hk : (K (.slice p i c)).wp X P Q h) : (T.sem false (Instr.sliceAt t (.slice p n c) none (some (.int .i64 (i : Int))) none) K).wp X P Q h := by
 obtain ⟨inf, g1, g2, _, _⟩ := info_of hi
 refine t_sem (A := fun v h' => v = .slice p i c ∧ h' = h.get) ?_ (by rintro v h' ⟨rfl, rfl⟩; exact hk)
 unfold Instr.sliceAt
 simp only [lwp_bind, lwp_underlying hu]
 unfold Instr.slice
 simp only [lwp_bind, lwp_underlying hu]
 unfold Instr.sliceBounds Instr.sliceBound
 simp only [lwp_bind, lwp_pure, asIntOf]
 rw [if_pos (show 0 ≤ (i : Int) ∧ (i : Int) ≤ (c : Int) by omega)]
 simp only [lwp_pure, lwp_sizeOf g1, Int.toNat_natCast, g2, Nat.zero_mul, Nat.sub_zero]
 have e : (p.map fun x : Addr => x.add 0) = p := by cases p <;> simp [Addr.add]
 rw [e]
 simp
end Go.Proofs.YtldamlcehbdkdaaGreatDoor
end
section
namespace Go.TM
open Go Go.Conc
section
variable {P : Program} {X : XP} {Q : Leaf → LH → Prop}
theorem zeroCells_int (n : Nat) : (Builtin.zeroCells #[Value.int .i64 0] n).toList = List.replicate n (.int .i64 0) := by
 unfold Builtin.zeroCells
 refine List.ext_getElem? fun i => ?_
 simp only [Array.toList_map, Array.toList_range, List.getElem?_map, List.getElem?_replicate]
 by_cases h : i < n
 ·rw [List.getElem?_range (by simpa using h), if_pos h]
  simp [Nat.mod_one]
 ·rw [List.getElem?_eq_none (by simp; omega), if_neg h]; rfl
theorem t_clear {h : LH} {K : Value → T} {t el eb ty : TypeId} {b r o n c : Nat} {cs : Array Value} (hu : P.underlying t = some (.slice el)) (hi : (P.info? el).map (fun i => (i.size, i.bytes, i.zero)) = some (1, b, some (.int .i64 0))) (hr : h.get r = some (true, .cells cs eb (0, 0))) (ho : o + n ≤ cs.size)
  (hk : ∀ h', Turn1 r h h' → h'.get r = some (true, .cells (setMany cs o (List.replicate n (.int .i64 0))) eb (0, 0)) → (K (.tuple #[])).wp X P Q h') : (T.sem false (Builtin.clear_ #[t] ty #[.slice (some ⟨r, o, none⟩) n c]) K).wp X P Q h := by
 obtain ⟨inf, g1, g2, g3, g4⟩ := info_of hi
 refine t_sem (A := fun v h' => v = .tuple #[] ∧ h' = h.get.upd r (true, .cells (setMany cs o (List.replicate n (.int .i64 0))) eb (0, 0))) ?_ (by
  rintro v h' ⟨rfl, rfl⟩
  refine hk _ ⟨fun b' hb => ?_, rfl, rfl, rfl⟩ (Cells.upd_self _ _ _)
  show h.get.upd r _ b' = _
  rw [Cells.upd_ne _ _ hb])
 unfold Builtin.clear_
 match n, ho with
 | 0, _ =>
  have e : h.get.upd r (true, .cells cs eb (0, 0)) = h.get := by
   funext b'
   by_cases hb : b' = r
   ·subst hb; rw [Cells.upd_self, hr]
   ·rw [Cells.upd_ne _ _ hb]
  show Sem.lwp P (underlying t >>= _) _ _ _
  rw [lwp_bind, lwp_underlying hu]
  show Sem.lwp P (pure (Value.tuple #[])) _ _ _
  rw [lwp_pure]
  exact ⟨rfl, e.symm⟩
 | n + 1, ho =>
  show Sem.lwp P (underlying t >>= _) _ _ _
  rw [lwp_bind, lwp_underlying hu]
  show Sem.lwp P (zeroValue el >>= _) _ _ _
  rw [lwp_bind, lwp_zeroValue g1 g4]
  rw [show Value.cells (.int .i64 0) = #[.int .i64 0] from rfl, zeroCells_int, lwp_bind]
  refine lwp_storeCells _ 0 _ r o cs eb hr (by rw [List.length_replicate]; omega) (fun v hv => ?_) ⟨rfl, rfl⟩
  rw [List.eq_of_mem_replicate hv]; rfl
end
theorem t_storeC {P : Program} {X : XP} {Q : Leaf → LH → Prop} {h : LH} {r j : Nat} {el : TypeId} {cs : Array Value} {a : Addr} {v : Value} {k : T} (ha : a = ⟨r, j, none⟩) (hr : h.get r = some (true, .cells cs el (0, 0))) (hj : j < cs.size) (one : isOne v = true)
  (hk : ∀ h', Turn1 r h h' → h'.get r = some (true, .cells (cs.setIfInBounds j v) el (0, 0)) → k.wp X P Q h') : (T.store a v k).wp X P Q h := by
 subst ha
 refine t_store (v₀ := cs[j]) one ⟨_, hr⟩ ?_ (by simp [Cells.frozen?, hr]) ?_
 ·unfold Cells.cell?
  simp [hr, hj]
 ·have hset : h.get.setCell ⟨r, j, none⟩ v = h.get.upd r (true, .cells (cs.setIfInBounds j v) el (0, 0)) := by
   funext b
   unfold Cells.setCell Cells.upd
   by_cases e : b = r
   ·subst e; simp [hr]
   ·simp [e]
  rw [hset]
  exact hk _ ⟨fun b hb => Cells.upd_ne _ _ hb, rfl, rfl, rfl⟩ (Cells.upd_self _ _ _)
def Keeps (p : Option Addr) (h h' : LH) : Prop := (∀ b, (∀ a, p = some a → a.block ≠ b) → h'.get b = h.get b) ∧ h'.chans = h.chans ∧ h'.pend = h.pend ∧ h'.todo = h.todo
theorem Keeps.refl (p : Option Addr) (h : LH) : Keeps p h h := ⟨fun _ _ => rfl, rfl, rfl, rfl⟩
theorem Turn1.refl (r : Nat) (h : LH) : Turn1 r h h := ⟨fun _ _ => rfl, rfl, rfl, rfl⟩
theorem Turn1.trans {r : Nat} {h h' h'' : LH} (a : Turn1 r h h') (b : Turn1 r h' h'') : Turn1 r h h'' :=
 ⟨fun x hx => (b.keep x hx).trans (a.keep x hx), b.rest.1.trans a.rest.1, b.rest.2.1.trans a.rest.2.1, b.rest.2.2.trans a.rest.2.2⟩
theorem Turn1.keeps {r : Nat} {h h' : LH} (t : Turn1 r h h') : Keeps (some ⟨r, 0, none⟩) h h' := ⟨fun b hb => t.keep b fun e => hb _ rfl e.symm, t.rest⟩
theorem Keeps.le {p : Option Addr} {h₀ h h' : LH} (k : Keeps p h h') (hl : h₀.le h) (hn : NewIn h₀.get p) : h₀.le h' :=
 ⟨fun b y hb => by
  rw [k.1 b fun a ha e => by have := hn a ha; rw [e, hb] at this; cases this]
  exact hl.1 b y hb, by rw [k.2.1]; exact hl.2.1, by rw [k.2.2.1]; exact hl.2.2.1, by rw [k.2.2.2]; exact hl.2.2.2⟩
theorem rows_ints : ∀ (l : List Int), Rows IntEnc (l.map (Value.int .i64)) l := by
 have : ∀ (k : Nat) (l : List Int), l.length = k → Rows IntEnc (l.map (Value.int .i64)) l := by
  intro k
  induction k with
  | zero => intro l h; rw [List.eq_nil_of_length_eq_zero h]; exact .nil
  | succ k ih =>
   intro l h
   have hne : l ≠ [] := by rintro rfl; simp at h
   rw [← List.dropLast_concat_getLast hne, List.map_append]
   exact .snoc (ih _ (by simp [h])) rfl
 exact fun l => this _ l rfl
theorem filter_take {α : Type} {f : α → Bool} {l : List α} {j : Nat} {x : α} (h : l[j]? = some x) : (l.take (j + 1)).filter f = (l.take j).filter f ++ (if f x then [x] else []) := by
 rw [List.take_add_one, h, List.filter_append]
 congr 1
 simp only [Option.toList_some, List.filter_cons, List.filter_nil]
end Go.TM
namespace Go.Proofs.YtldamlcehbdkdaaGreatDoor
open Go Go.TM Go.Proofs
attribute [local irreducible] T.wp CV FWK
theorem c3134 {h : LH} {p : Option Addr} {n c : Nat} {l : List Int} {fv : Value} {g : Int → Bool} (hl : Sl IntE 1 h.get p n l) (hf : ∀ x, CV X0 Tryz.prog fv #[.int .i64 x] h fun r h' => r = .bool (g x) ∧ h' = h) :
  FW X0 Tryz.prog 64 #[.slice p n c, fv] h fun r h' => h = h' ∧ ∃ i : Nat, i ≤ n ∧ (∀ (j : Nat) x, j < i → l[j]? = some x → g x = false) ∧ ((i = n ∧ r = .int .i64 (-1)) ∨ (i < n ∧ r = .int .i64 i ∧ ∃ x, l[i]? = some x ∧ g x = true)) := by
 refine w3134 _ _ _ _ X0_ok ?_
 unfold n3134
 have hn := hl.1
 have hb := hl.2.1
 refine t_loop (fun mm vs h' => h' = h ∧ ∃ i : Nat, vs = [.int .i64 0, .int .i64 i] ∧ i ≤ n ∧ mm = n - i ∧ ∀ (j : Nat) x, j < i → l[j]? = some x → g x = false) ⟨rfl, 0, rfl, Nat.zero_le _, rfl, fun j x hj => absurd hj (Nat.not_lt_zero _)⟩ ?_
 rintro Y mm vs _ hY ⟨rfl, i, rfl, hi, rfl, hall⟩
 refine gZ ?_
 refine t_if (fun e1 => ?_) (fun e1 => ?_)
 ·obtain ⟨x, a, hx, ha, e2⟩ := hl.at (i := i) (by omega)
  unfold IntE at e2
  have hin : 0 ≤ (i : Int) ∧ (i : Int) < (n : Int) := by omega
  refine gZ ?_
  refine t_callv (hf x) ?_
  rintro _ _ ⟨rfl, rfl⟩
  refine gZ ?_
  refine t_cond (fun b1 => ?_) (fun b1 => ?_)
  ·refine gI ?_
   refine gZ ?_
   exact t_ret ⟨rfl, i, hi, hall, .inr ⟨by omega, rfl, x, hx, b1⟩⟩
  ·refine t_again (hY (n - (i + 1)) _ _ (by omega) ⟨rfl, i + 1, ?_, by omega, rfl, fun j y hj hy => ?_⟩)
   ·rw [wrap_id (by omega) (by omega)]; rfl
   ·by_cases e : j = i
    ·subst e; rw [hx] at hy; cases hy; exact b1
    ·exact hall j y (by omega) hy
 ·refine gZ ?_
  exact t_ret ⟨rfl, n, Nat.le_refl _, fun j x hj hx => hall j x (by omega) hx, .inl ⟨rfl, rfl⟩⟩
theorem c3137 {h : LH} {p : Option Addr} {n c : Nat} {l : List Int} (hl : Sl IntE 1 h.get p n l) (h30 : l.length ≤ 2 ^ 29) : Gr Tryz.prog 68 #[.slice p n c] h fun r h' => ∃ p' c', r = .slice p' n c' ∧ Growing IntEnc 3 1 h.get h'.get p' n c' l := by
 refine w3137 _ _ _ X0_ok ?_
 unfold n3137
 have hn := hl.1
 refine t_eqNil und50 ?_
 refine gZ ?_
 refine t_cond (fun e1 => ?_) (fun e1 => ?_)
 ·have hp : p = none := by cases p with | none => rfl | some a => cases e1
  subst hp
  have h0 : l = [] := by
   cases l with
   | nil => rfl
   | cons x l =>
    obtain ⟨a, ha, _⟩ := hl.2.2 0 x rfl
    cases ha
  subst h0
  have hn0 : n = 0 := hn
  subst hn0
  exact t_ret ⟨LH.le_refl _, none, 0, rfl, Growing.nil⟩
 ·refine t_build0G (h₀ := h) (Enc := IntEnc) und50 inf3 (LH.le_refl _) fun r0 h1 hr0 le1 g1 => ?_
  refine gZ ?_
  refine t_copy (h₀ := h) rfl rfl und50 und50 inf3 rfl (by omega) (by omega) g1 le1 (hl.le IntE.grow le1.1) IntE.told fun p2 c2 h2 le2 _ g2 => ?_
  refine gZ ?_
  rw [List.nil_append, Nat.zero_add] at g2
  rw [Nat.zero_add]
  exact t_ret ⟨le2, p2, c2, rfl, g2⟩
set_option maxRecDepth 10000 in
theorem c3138 {h₀ h : LH} {p : Option Addr} {n c : Nat} {l : List Int} {fv : Value} {g : Int → Bool} (hle : h₀.le h) (gr : Growing IntEnc 3 1 h₀.get h.get p n c l) (h30 : l.length ≤ 2 ^ 29)
  (hf : ∀ h', Keeps p h h' → ∀ x, CV X0 Tryz.prog fv #[.int .i64 x] h' fun r h'' => r = .bool (g x) ∧ h'' = h') :
  FW X0 Tryz.prog 69 #[.slice p n c, fv] h fun r h' => ∃ n' c', r = .slice p n' c' ∧ Keeps p h h' ∧ Growing IntEnc 3 1 h₀.get h'.get p n' c' (l.filter fun x => !g x) := by
 refine w3138 _ _ _ _ X0_ok ?_
 unfold n3138
 have hl : Sl IntE 1 h.get p n l := gr.sl IntEnc.len (by omega) IntEnc.e (by omega)
 have hn := hl.1
 refine t_call (FW.top (c3134 hl (hf h (Keeps.refl _ _)))) ?_
 rintro _ _ ⟨rfl, i, hi, hall, ⟨hin, rfl⟩ | ⟨hin, rfl, x, hx, hgx⟩⟩
 ·refine gZ ?_
  refine t_cond (fun _ => ?_) (fun e => by cases e)
  have : l.filter (fun x => !g x) = l := List.filter_eq_self.2 fun x hx => by
   obtain ⟨j, hj⟩ := List.mem_iff_getElem?.1 hx
   rw [hall j x (by have := (List.getElem?_eq_some_iff.1 hj).1; omega) hj]; rfl
  exact t_ret ⟨n, c, rfl, Keeps.refl _ _, by rw [this]; exact gr⟩
 refine gZ ?_
 refine t_cond (fun e => absurd e (by simp)) (fun _ => ?_)
 obtain ⟨vs, ⟨hvl, hown⟩, rows⟩ := gr.row
 have new := gr.new
 rcases hown with ⟨rfl, hz, _⟩ | ⟨r, cs₀, rfl, hr, hcs, hnc, hv⟩
 ·omega
 have hr0 : h₀.get r = none := new _ rfl
 have hv' : ∀ (j : Nat) y, l[j]? = some y → cs₀[j]? = some (.int .i64 y) := fun j y hj => by
  obtain ⟨ws, e1, e2⟩ := rows.at IntEnc.len j y hj
  rw [e1] at e2
  have := e2 0 _ rfl
  rw [Nat.mul_one, Nat.add_zero] at this
  exact hv j _ this
 rw [wrap_id (by omega) (by omega)]
 have hpre : (l.take (i + 1)).filter (fun x => !g x) = l.take i := by
  rw [filter_take hx, hgx]
  simp only [Bool.not_true, Bool.false_eq_true, if_false, List.append_nil]
  refine List.filter_eq_self.2 fun y hy => ?_
  obtain ⟨j, hj⟩ := List.mem_iff_getElem?.1 hy
  rw [List.getElem?_take] at hj
  split at hj
  ·rename_i hji; rw [hall j y hji hj]; rfl
  ·cases hj
 refine t_loop (fun mm vs h' => ∃ (j : Nat) (cs : Array Value) (a : Nat), vs = [.int .i64 a, .int .i64 j] ∧ a < j ∧ j ≤ n ∧ mm = n - j ∧ Turn1 r h h' ∧ h'.get r = some (true, .cells cs 3 (0, 0)) ∧ cs.size = c * 1 ∧ a = ((l.take j).filter fun x => !g x).length ∧
   (∀ (k : Nat) y, ((l.take j).filter fun x => !g x)[k]? = some y → cs[k]? = some (.int .i64 y)) ∧ ∀ (k : Nat) y, j ≤ k → l[k]? = some y → cs[k]? = some (.int .i64 y))
  ⟨i + 1, cs₀, i, by simp, by omega, by omega, rfl, Turn1.refl _ _, hr, hcs, by rw [hpre, List.length_take]; omega, fun k y hk => ?_, fun k y _ hk => hv' k y hk⟩ ?_
 ·rw [hpre, List.getElem?_take] at hk
  split at hk
  ·exact hv' k y hk
  ·cases hk
 rintro Y mm vs h1 hY ⟨j, cs, a, rfl, haj, hj, rfl, t1, hr1, hs1, hal, hlow, hhigh⟩
 have ks : Keeps (some ⟨r, 0, none⟩) h h1 := t1.keeps
 refine gZ ?_
 refine t_if (fun e1 => ?_) (fun e1 => ?_)
 ·have hjn : 0 ≤ (j : Int) ∧ (j : Int) < (n : Int) := by omega
  have hlj : j < l.length := by omega
  obtain ⟨y, hy⟩ : ∃ y, l[j]? = some y := ⟨l[j], List.getElem?_eq_getElem hlj⟩
  have hcell : h1.get.cell? (Addr.add ⟨r, 0, none⟩ (Int.toNat (j : Int) * 1)) = some (.int .i64 y) := by
   rw [Int.toNat_natCast, Nat.mul_one, add_plain, Nat.zero_add]
   unfold Cells.cell?
   rw [hr1]
   exact hhigh j y (Nat.le_refl _) hy
  have hft := filter_take (f := fun x => !g x) hy
  refine gZ ?_
  refine t_callv (hf h1 ks y) ?_
  rintro _ h1' ⟨rfl, hh⟩
  obtain rfl : h1 = h1' := hh.symm
  refine gZ ?_
  refine t_cond (fun b1 => ?_) (fun b1 => ?_)
  ·have han : 0 ≤ (a : Int) ∧ (a : Int) < (n : Int) := by omega
   refine gZ ?_
   have hac : a < cs.size := by omega
   refine t_storeC (r := r) (j := a) (by rw [add_plain, add_plain]; simp) hr1 hac rfl fun h2 t2 e2 => ?_
   ·rw [b1, if_pos rfl] at hft
    refine t_again (hY (n - (j + 1)) _ _ (by omega) ⟨j + 1, cs.setIfInBounds a (.int .i64 y), a + 1, ?_, by omega, by omega, rfl, t1.trans t2, e2, by simpa using hs1, by rw [hft, List.length_append, ← hal]; rfl, fun k z hk => ?_, fun k z hk hz => ?_⟩)
    ·rw [wrap_id (by omega) (by omega), wrap_id (by omega) (by omega)]; rfl
    ·rw [hft] at hk
     by_cases e : k = a
     ·subst e
      rw [hal, List.getElem?_append_right (Nat.le_refl _), Nat.sub_self] at hk
      cases hk
      rw [Array.getElem?_setIfInBounds_self, if_pos hac]
     ·rw [Array.getElem?_setIfInBounds_ne (Ne.symm e)]
      have hlt : k < ((l.take j).filter fun x => !g x).length := by
       have := (List.getElem?_eq_some_iff.1 hk).1
       rw [List.length_append, ← hal] at this
       rw [← hal]
       simp at this
       omega
      rw [List.getElem?_append_left hlt] at hk
      exact hlow k z hk
    ·rw [Array.getElem?_setIfInBounds_ne (by omega)]
     exact hhigh k z (by omega) hz
  ·rw [b1, if_neg (by simp), List.append_nil] at hft
   refine t_again (hY (n - (j + 1)) _ _ (by omega) ⟨j + 1, cs, a, ?_, by omega, by omega, rfl, t1, hr1, hs1, by rw [hft]; exact hal, fun k z hk => hlow k z (by rw [hft] at hk; exact hk), fun k z hk hz => hhigh k z (by omega) hz⟩)
   rw [wrap_id (by omega) (by omega)]; rfl
 ·have hjn : j = n := by omega
  have htake : l.take j = l := List.take_of_length_le (by omega)
  rw [htake] at hal hlow
  have han : a ≤ n := by omega
  refine gZ ?_
  refine t_sliceLow und50 inf3 han ?_
  refine gZ ?_
  have fin : ∀ h2, Turn1 r h1 h2 → (∃ cs', h2.get r = some (true, .cells cs' 3 (0, 0)) ∧ cs'.size = c * 1 ∧ ∀ k, k < a → cs'[k]? = cs[k]?) → (T.sem false (Instr.sliceAt 30 (.slice (some ⟨r, 0, none⟩) n c) none (some (.int .i64 (a : Int))) none) fun w => T.unS w fun a n c => T.leaf (.ret (.slice a n c))).wp X0 Tryz.prog (retQ fun w h' => ∃ n' c', w = .slice (some ⟨r, 0, none⟩) n' c' ∧ Keeps (some ⟨r, 0, none⟩) h h' ∧ Growing IntEnc 3 1 h₀.get h'.get (some ⟨r, 0, none⟩) n' c' (l.filter fun x => !g x)) h2 := fun h2 t2 ⟨cs', e2, e3, e4⟩ => by
   refine t_sliceHigh und50 inf3 (by omega) ?_
   refine gZ ?_
   refine t_ret ⟨a, c, rfl, (t1.trans t2).keeps, ⟨(l.filter fun x => !g x).map (Value.int .i64), ⟨by rw [List.length_map, ← hal, Nat.mul_one], .inr ⟨r, cs', rfl, e2, e3, by omega, fun k w hk => ?_⟩⟩, rows_ints _⟩, new⟩
   rw [List.getElem?_map] at hk
   obtain ⟨z, hz, rfl⟩ := Option.map_eq_some_iff.1 hk
   rw [e4 k (by have := (List.getElem?_eq_some_iff.1 hz).1; omega)]
   exact hlow k z hz
  have hcl : ∀ (q : Option Addr), (n - a ≠ 0 → q = some ⟨r, a, none⟩) → (T.sem false (Builtin.clear_ #[30] 0 #[.slice q (n - a) (c - a)]) fun _ => T.sem false (Instr.sliceAt 30 (.slice (some ⟨r, 0, none⟩) n c) none (some (.int .i64 (a : Int))) none) fun w => T.unS w fun a n c => T.leaf (.ret (.slice a n c))).wp X0 Tryz.prog (retQ fun w h' => ∃ n' c', w = .slice (some ⟨r, 0, none⟩) n' c' ∧ Keeps (some ⟨r, 0, none⟩) h h' ∧ Growing IntEnc 3 1 h₀.get h'.get (some ⟨r, 0, none⟩) n' c' (l.filter fun x => !g x)) h1 := fun q hq => by
   have hna : n - a ≠ 0 := by omega
   rw [hq hna]
   refine t_clear und50 inf3 hr1 (by omega) fun h2 t2 e2 => ?_
   refine fin h2 t2 ⟨setMany cs a (List.replicate (n - a) (.int .i64 0)), e2, by rw [size_setMany]; exact hs1, fun k hk => ?_⟩
   rw [get_setMany _ _ _ (by rw [List.length_replicate]; omega), if_neg (by omega)]
  refine hcl _ fun _ => ?_
  rw [if_neg (by omega)]
  show some (Addr.add _ _) = _
  rw [add_plain]; simp
end Go.Proofs.YtldamlcehbdkdaaGreatDoor
end
section
namespace Go.TM
open Go Go.Conc
def LstE (h : Cells) (a : Addr) (l : List Int) : Prop := ∃ q n c, h.cell? a = some (.slice q n c) ∧ Sl IntE 1 h q n l
theorem LstE.grow : Grow LstE := fun _ _ _ _ hl ⟨q, n, c, h1, h2⟩ => ⟨q, n, c, hl _ _ h1, h2.rd IntE.grow hl⟩
def CutE (h : Cells) (a : Addr) (l : List Int) : Prop := ∃ q n c, h.cell? (a.add 0) = some (.slice q n c) ∧ h.cell? (a.add 1) = some (.bool false) ∧ Sl IntE 1 h q n l
theorem CutE.grow : Grow CutE := fun _ _ _ _ hl ⟨q, n, c, h1, h2, h3⟩ => ⟨q, n, c, hl _ _ h1, hl _ _ h2, h3.rd IntE.grow hl⟩
theorem sorted_len : ∀ (l : List Int) (k : Int), l.Pairwise (· < ·) → (∀ v ∈ l, k ≤ v ∧ v < 8) → (l.length : Int) ≤ max 0 (8 - k) := by
 intro l
 induction l with
 | nil => intro k _ _; simp; omega
 | cons x l ih =>
  intro k hp hv
  obtain ⟨h1, h2⟩ := List.pairwise_cons.1 hp
  have hx := hv x (by simp)
  have := ih (x + 1) h2 fun v hm => ⟨by have := h1 v hm; omega, (hv v (by simp [hm])).2⟩
  simp only [List.length_cons]
  omega
theorem ListOk.len8 {t : GTab} {e : Int} {l : List Int} (ok : TabOk t) (o : ListOk t e l) : l.length ≤ 8 := by
 have := sorted_len l 0 o.up (o.in8 ok)
 omega
def cutsT (l : List Int) (cs : List (List Int)) : List Int := cs.foldl Te.cutT l
theorem cutsT_step {l : List Int} {cs : List (List Int)} {i : Nat} {s : List Int} (h : cs[i]? = some s) : cutsT l (cs.take (i + 1)) = Te.cutT (cutsT l (cs.take i)) s := by
 unfold cutsT
 rw [List.take_add_one, h, List.foldl_append]; rfl
theorem cutsT_len (cs : List (List Int)) : ∀ l : List Int, (cutsT l cs).length ≤ l.length := by
 unfold cutsT
 induction cs with
 | nil => intro l; exact Nat.le_refl _
 | cons s cs ih => intro l; exact Nat.le_trans (ih _) (List.length_filter_le _ _)
theorem sl_two {h : Cells} {r : Nat} {m : Bool} {el : TypeId} {p q : Option Addr} {n c k d : Nat} {a b : List Int} (hr : h r = some (m, .cells #[.slice p n c, .slice q k d] el (0, 0))) (ha : Sl IntE 1 h p n a) (hb : Sl IntE 1 h q k b) : Sl LstE 1 h (some ⟨r, 0, none⟩) 2 [a, b] := by
 refine ⟨rfl, by simp, fun i x hx => ⟨_, rfl, ?_⟩⟩
 match i, hx with
 | 0, hx => cases hx; exact ⟨p, n, c, by rw [add_plain]; unfold Cells.cell?; rw [hr]; rfl, ha⟩
 | 1, hx => cases hx; exact ⟨q, k, d, by rw [add_plain]; unfold Cells.cell?; rw [hr]; rfl, hb⟩
theorem sl_one {h : Cells} {r : Nat} {m : Bool} {el : TypeId} {p : Option Addr} {n c : Nat} {a : List Int} (hr : h r = some (m, .cells #[.slice p n c] el (0, 0))) (ha : Sl IntE 1 h p n a) : Sl LstE 1 h (some ⟨r, 0, none⟩) 1 [a] := by
 refine ⟨rfl, by simp, fun i x hx => ⟨_, rfl, ?_⟩⟩
 match i, hx with
 | 0, hx => cases hx; exact ⟨p, n, c, by rw [add_plain]; unfold Cells.cell?; rw [hr]; rfl, ha⟩
end Go.TM
namespace Go.Proofs.YtldamlcehbdkdaaGreatDoor
open Go Go.TM Go.Proofs
attribute [local irreducible] T.wp CV FWK
theorem infL : (Tryz.prog.info? 30).map (fun i => (i.size, i.bytes, i.zero)) = some (1, 24, some (.slice none 0 0)) := by kernel_rfl
theorem c3133 {h : LH} {f : TabC} {t : GTab} (hr : TabR h.get f t) (ok : TabOk t) {e : Int} (he : 0 ≤ e ∧ e < (t.eds.length : Int)) {p : Option Addr} {n c : Nat} {ls : List (List Int)} (hl : Sl LstE 1 h.get p n ls) (ho : ∀ l ∈ ls, ListOk t e l) :
  Gr Tryz.prog 63 #[tabV f, .int .i64 e, .slice p n c] h fun r _ => r = .tuple #[tabV f, .int .i64 0] := by
 refine w3133 _ _ _ _ _ _ _ _ _ _ _ _ _ X0_ok ?_
 unfold n3133
 refine t_gr (c3160 hr ok) ?_
 rintro _ h1 le1 rfl
 have hr1 := hr.le le1.1
 have hl1 := hl.le LstE.grow le1.1
 have hn := hl1.1
 have hb := hl1.2.1
 refine gZ ?_
 refine t_cond (fun e => by cases e) (fun _ => ?_)
 refine t_pu (c3161 hr1 _) ?_
 rw [in_iff.2 (show 0 ≤ e ∧ e ≤ (t.eds.length : Int) - 1 by omega)]
 refine gZ ?_
 refine t_cond (fun e => by cases e) (fun _ => ?_)
 refine t_loop (fun mm vs h' => h' = h1 ∧ ∃ i : Nat, vs = [.int .i64 0, .int .i64 i, .slice none 0 0, .slice none 0 0, .slice none 0 0] ∧ i ≤ n ∧ mm = n - i) ⟨rfl, 0, rfl, Nat.zero_le _, rfl⟩ ?_
 rintro Y mm vs _ hY ⟨rfl, i, rfl, hi, rfl⟩
 refine gZ ?_
 refine t_if (fun e1 => ?_) (fun e1 => ?_)
 ·obtain ⟨l, a, hx, ha, q, k, d, e2, e3⟩ := hl1.at (i := i) (by omega)
  have hin : 0 ≤ (i : Int) ∧ (i : Int) < (n : Int) := by omega
  refine gZ ?_
  refine t_pu (c3136 hr1 e3 (ho l (List.mem_of_getElem? hx))) ?_
  refine gZ ?_
  refine t_cond (fun e => by cases e) (fun _ => ?_)
  refine t_again (hY (n - (i + 1)) _ _ (by omega) ⟨rfl, i + 1, ?_, by omega, rfl⟩)
  rw [wrap_id (by omega) (by omega)]; rfl
 ·refine gZ ?_
  exact t_ret ⟨le1, rfl⟩
theorem c3135 {h : LH} {z0 : Addr} {p : Option Addr} {n c : Nat} {l : List Int} (hz : h.get.cell? z0 = some (.slice p n c)) (hl : Sl IntE 1 h.get p n l) (x : Int) : Pu Tryz.prog 65 #[.int .i64 x, .pointer (some z0)] h (.bool (!l.contains x)) := by
 refine w3135 _ _ X0_ok ?_
 unfold n3135
 refine gZ ?_
 refine t_pu (c100 hl x) ?_
 refine gZ ?_
 exact t_ret ⟨rfl, rfl⟩
theorem c3139 {h : LH} {z0 : Addr} {p : Option Addr} {n c : Nat} {l : List Int} (hz : h.get.cell? (z0.add 0) = some (.slice p n c)) (hz1 : h.get.cell? (z0.add 1) = some (.bool false)) (hl : Sl IntE 1 h.get p n l) (x : Int) : Pu Tryz.prog 70 #[.int .i64 x, .pointer (some z0)] h (.bool (l.contains x)) := by
 refine w3139 _ _ X0_ok ?_
 unfold n3139
 refine gZ ?_
 refine t_pu (c100 hl x) ?_
 refine gZ ?_
 refine t_ret ⟨?_, rfl⟩
 cases l.contains x <;> rfl
theorem c3113 {h : LH} {f : TabC} {t : GTab} (hr : TabR h.get f t) (ok : TabOk t) {e : Int} (he : 0 ≤ e ∧ e < (t.eds.length : Int)) {p q : Option Addr} {n c m d : Nat} {old now : List Int} (hl : Sl IntE 1 h.get p n old) (ho : ListOk t e old) (hl' : Sl IntE 1 h.get q m now) (ho' : ListOk t e now) (hsub : ∀ v ∈ now, v ∈ old) :
  Gr Tryz.prog 19 #[tabV f, .int .i64 e, .slice p n c, .slice q m d] h fun r _ => r = .tuple #[.int .i64 (-1), .int .i64 0] := by
 refine w3113 _ _ _ _ _ _ _ _ _ _ _ _ _ _ _ _ X0_ok ?_
 unfold n3113
 refine t_new fun r hr0 => ?_
 have le1 : h.le { h with get := h.get.upd r (true, .cells #[.slice p n c] 30 (0, 0)) } := LH.upd_le hr0
 generalize hh1 : ({ h with get := h.get.upd r (true, .cells #[.slice p n c] 30 (0, 0)) } : LH) = h1 at *
 have y0 : h1.get.cell? ⟨r, 0, none⟩ = some (.slice p n c) := by rw [← hh1]; exact cell_upd rfl
 refine gZ ?_
 refine t_buildG und106 infL (by decide) (by decide) (cells := #[.slice p n c, .slice q m d]) (by kernel_rfl) fun r2 h2 le2 _ e2 => ?_
 have le02 := LH.le_trans le1 le2
 refine gZ ?_
 refine t_gr (c3133 (hr.le le02.1) ok he (sl_two e2 (hl.le IntE.grow le02.1) (hl'.le IntE.grow le02.1)) fun l hm => ?_) ?_
 ·simp only [List.mem_cons, List.not_mem_nil, or_false] at hm
  rcases hm with rfl | rfl
  ·exact ho
  ·exact ho'
 rintro _ h3 le3 rfl
 have le13 := LH.le_trans le2 le3
 have le03 := LH.le_trans le1 le13
 unfold tabV
 refine gZ ?_
 refine t_cond (fun e => by cases e) (fun _ => ?_)
 refine t_call (FW.top (c3134 (g := fun x => !old.contains x) (hl'.le IntE.grow le03.1) fun x => cv_fw X0_ok (by rfl) (c3135 (Cells.cell?_le le13.1 y0) (hl.le IntE.grow le03.1) x))) ?_
 rintro _ _ ⟨rfl, i, hi, hall, ⟨_, rfl⟩ | ⟨hin, rfl, x, hx, hg⟩⟩
 ·refine gZ ?_
  refine t_if (fun e => by omega) (fun _ => ?_)
  exact t_ret ⟨le03, rfl⟩
 ·exfalso
  have := hsub x (List.mem_of_getElem? hx)
  simp at hg
  exact hg this
theorem cut_type {h : LH} {r : Nat} (hr : h.get r = none) {k : T} {Q : Leaf → LH → Prop} {p : Option Addr} {n c : Nat} {el : TypeId}
  (hk : ∀ h', h.le h' → h'.get.cell? (Addr.add ⟨r, 0, none⟩ 0) = some (.slice p n c) → h'.get.cell? (Addr.add ⟨r, 0, none⟩ 1) = some (.bool false) → k.wp X0 Tryz.prog Q h') :
  (T.store (Addr.add { block := r, off := 0 } 0) (.slice p n c) (T.store (Addr.add { block := r, off := 0 } 1) (.bool false) k)).wp X0 Tryz.prog Q { h with get := h.get.upd r (true, .cells #[.slice none 0 0, .bool false] el (0, 0)) } := by
 refine t_storeC (j := 0) (by rw [add_plain]) (Cells.upd_self _ _ _) (by simp) rfl fun h1 t1 e1 => ?_
 refine t_storeC (j := 1) (by rw [add_plain]) e1 (by simp) rfl fun h2 t2 e2 => ?_
 refine hk h2 ((t1.trans t2).le (LH.upd_le hr) hr) ?_ ?_
 ·rw [add_plain]; unfold Cells.cell?; rw [e2]; rfl
 ·rw [add_plain]; unfold Cells.cell?; rw [e2]; rfl
set_option maxRecDepth 10000 in
theorem c3114 {h : LH} {f : TabC} {t : GTab} (hr : TabR h.get f t) (ok : TabOk t) {e : Int} (he : 0 ≤ e ∧ e < (t.eds.length : Int)) {p q : Option Addr} {n c m d : Nat} {l : List Int} {cs : List (List Int)} (hl : Sl IntE 1 h.get p n l) (ho : ListOk t e l) (hc : Sl CutE 2 h.get q m cs) (h4 : cs.length ≤ 4) (hco : ∀ s ∈ cs, ListOk t e s) :
  Gr Tryz.prog 21 #[tabV f, .int .i64 e, .slice p n c, .slice q m d] h fun r h' => ∃ p' n' c', r = .tuple #[.slice p' n' c', .int .i64 0] ∧ Sl IntE 1 h'.get p' n' (cutsT l cs) := by
 refine w3114 _ _ _ _ _ _ _ _ _ _ _ _ _ _ _ _ X0_ok ?_
 unfold n3114
 have hcn := hc.1
 have h8 := ho.len8 ok
 refine t_buildG und106 infL (by decide) (by decide) (cells := #[.slice p n c]) (by kernel_rfl) fun r2 h1 le1 _ e2 => ?_
 refine gZ ?_
 refine t_gr (c3133 (hr.le le1.1) ok he (sl_one e2 (hl.le IntE.grow le1.1)) fun l' hm => ?_) ?_
 ·simp only [List.mem_cons, List.not_mem_nil, or_false] at hm
  subst hm; exact ho
 rintro _ h2 le2 rfl
 have le02 := LH.le_trans le1 le2
 unfold tabV
 refine gZ ?_
 refine t_cond (fun e => by cases e) (fun _ => ?_)
 refine t_if (fun e => by omega) (fun _ => ?_)
 refine t_loop (fun mm vs h' => h' = h2 ∧ ∃ i : Nat, vs = [.slice none 0 0, .int .i64 0, .int .i64 i] ∧ i ≤ m ∧ mm = m - i) ⟨rfl, 0, rfl, Nat.zero_le _, rfl⟩ ?_
 rintro Y mm vs _ hY ⟨rfl, i, rfl, hi, rfl⟩
 refine gZ ?_
 refine t_if (fun e1 => ?_) (fun e1 => ?_)
 ·obtain ⟨s, a, hx, ha, q1, k1, d1, g1, g2, g3⟩ := (hc.le CutE.grow le02.1).at (i := i) (by omega)
  have hin : 0 ≤ (i : Int) ∧ (i : Int) < (m : Int) := by omega
  refine gZ ?_
  refine t_pu (c3136 (f := f) (hr.le le02.1) g3 (hco s (List.mem_of_getElem? hx))) ?_
  refine gZ ?_
  refine t_cond (fun e => by cases e) (fun _ => ?_)
  refine t_again (hY (m - (i + 1)) _ _ (by omega) ⟨rfl, i + 1, ?_, by omega, rfl⟩)
  rw [wrap_id (by omega) (by omega)]; rfl
 clear hY
 refine gZ ?_
 refine t_gr (c3137 (hl.le IntE.grow le02.1) (by omega)) ?_
 rintro _ h3 le3 ⟨p3, c3, rfl, g3⟩
 have le03 := LH.le_trans le02 le3
 refine gZ ?_
 refine t_loop (fun mm vs h' => h.le h' ∧ ∃ (i : Nat) (p' : Option Addr) (n' c' : Nat), vs = [.slice p' n' c', .int .i64 i] ∧ i ≤ m ∧ mm = m - i ∧ Growing IntEnc 3 1 h.get h'.get p' n' c' (cutsT l (cs.take i))) ⟨le03, 0, p3, n, c3, rfl, Nat.zero_le _, rfl, g3.base fun r => none_of_le le02⟩ ?_
 rintro Y mm vs h4 hY ⟨le4, i, p', n', c', rfl, hi, rfl, g4⟩
 refine gZ ?_
 refine t_if (fun e1 => ?_) (fun e1 => ?_)
 ·obtain ⟨s, a, hx, ha, q1, k1, d1, g1, g2, gs⟩ := (hc.le CutE.grow le4.1).at (i := i) (by omega)
  have hin : 0 ≤ (i : Int) ∧ (i : Int) < (m : Int) := by omega
  have hlen := cutsT_len (cs.take i) l
  refine gZ ?_
  refine t_new fun r hr0 => ?_
  refine cut_type hr0 fun h5 le5 z0 z1 => ?_
  have le05 := LH.le_trans le4 le5
  refine t_call (FW.top (c3138 (h₀ := h) (g := fun x => s.contains x) le05 (g4.le le5.1) (by omega) fun h' ks x => ?_)) ?_
  ·have hne : ∀ a, p' = some a → a.block ≠ r := fun a ha e => by
    obtain ⟨vs, ⟨_, ho⟩, _⟩ := g4.row
    rcases ho with ⟨hh, _⟩ | ⟨r', cs', hh, hr', _⟩
    ·rw [hh] at ha; cases ha
    ·rw [hh] at ha; cases ha
     have e : r' = r := e
     rw [e, hr0] at hr'; cases hr'
   have hb := ks.1 r hne
   have cellk : ∀ j, h'.get.cell? (Addr.add ⟨r, 0, none⟩ j) = h5.get.cell? (Addr.add ⟨r, 0, none⟩ j) := fun j => by
    rw [add_plain]; unfold Cells.cell?; rw [hb]
   have le' := ks.le le05 (g4.le le5.1).new
   refine cv_fw X0_ok (by rfl) (c3139 ((cellk 0).trans z0) ((cellk 1).trans z1) (?_ : Sl IntE 1 h'.get _ _ _) x)
   obtain ⟨s', a', hx', ha', q', k', d', g1', g2', gs'⟩ := (hc.le CutE.grow le'.1).at (i := i) (by omega)
   obtain rfl : s = s' := Option.some.inj (hx.symm.trans hx')
   obtain rfl : a = a' := Option.some.inj (ha.symm.trans ha')
   obtain ⟨a0, ha0, q0, k0, d0, f1, f2, f3⟩ := hc.2.2 i s hx
   obtain rfl : a = a0 := Option.some.inj (ha.symm.trans ha0)
   rw [Cells.cell?_le le'.1 f1] at g1'
   rw [Cells.cell?_le le4.1 f1] at g1
   cases g1; cases g1'
   exact gs'
  rintro _ h6 ⟨n6, c6, rfl, ks, g6⟩
  have le6 := ks.le le05 (g4.le le5.1).new
  refine gZ ?_
  refine t_again (hY (m - (i + 1)) _ _ (by omega) ⟨le6, i + 1, p', n6, c6, ?_, by omega, rfl, by rw [cutsT_step hx]; exact g6⟩)
  rw [wrap_id (by omega) (by omega)]; rfl
 ·have htake : cs.take i = cs := List.take_of_length_le (by omega)
  rw [htake] at g4
  have hlen := cutsT_len cs l
  refine gZ ?_
  exact t_ret ⟨le4, p', n', c', rfl, g4.sl IntEnc.len (by omega) IntEnc.e (by omega)⟩
end Go.Proofs.YtldamlcehbdkdaaGreatDoor
end
section
namespace Go.TM
open Go Go.Conc
variable {P : Program} {E : Halt → Cells → Prop} {h : Cells}
theorem lwp_equalIn2 {Q : Bool → Cells → Prop} {t : TypeId} {k : Nat} {a b c d : Int} (ht : twoInts P t = true) (hq : Q (decide (a = c ∧ b = d)) h) : Sem.lwp P (Op.equalIn (k + 1 + 1) t (.agg #[.int .i64 a, .int .i64 b]) (.agg #[.int .i64 c, .int .i64 d])) Q E h := by
 obtain ⟨f, g, hu, n1, n2, i1, i2, o1, o2, hs⟩ := twoInts_spec ht
 rw [Op.equalIn]
 rw [lwp_bind, lwp_underlying hu]
 simp only [lwp_bind, lwp_program, hs, Bool.false_eq_true, if_false, List.forIn_toArray, List.forIn_cons, List.forIn_nil, n1, n2, ne_eq, not_false_eq_true, if_true]
 refine lwp_partI i1 (v := .int .i64 a) (by rw [o1]; rfl) ?_
 refine lwp_partI i1 (v := .int .i64 c) (by rw [o1]; rfl) ?_
 refine lwp_equalI i1 ?_
 by_cases e1 : a = c
 ·subst e1
  simp only [beq_self_eq_true, Bool.not_true, Bool.false_eq_true, if_false, lwp_pure, lwp_bind]
  refine lwp_partI i2 (v := .int .i64 b) (by rw [o2]; rfl) ?_
  refine lwp_partI i2 (v := .int .i64 d) (by rw [o2]; rfl) ?_
  refine lwp_equalI i2 ?_
  by_cases e2 : b = d
  ·subst e2
   simpa [lwp_pure] using hq
  ·have e3 : (b == d) = false := by simpa using e2
   simpa [lwp_pure, e2, e3] using hq
 ·have e3 : (a == c) = false := by simpa using e1
  simpa [lwp_pure, e1, e3] using hq
def twoAndTwo (P : Program) (t : TypeId) : Bool := match P.underlying t with
 | some (.struct fs) => (match fs.toList with
  | [a, b, w] => a.name != "_" && b.name != "_" && w.name != "_" && isI64 P a.type && isI64 P b.type && twoInts P w.type && Nat.beq a.offset 0 && Nat.beq b.offset 1 && Nat.beq w.offset 2 && (match P.info? w.type with | some i => Nat.beq i.size 2 | none => false)
  | _ => false) && !P.stoodInHeld t
 | _ => false
theorem twoInts_agg {t : TypeId} (ht : twoInts P t = true) : isAggT P t = true := by
 obtain ⟨f, g, hu, _⟩ := twoInts_spec ht
 unfold isAggT; rw [hu]
theorem lwp_part2 {Q : Value → Cells → Prop} {t : TypeId} {cs : Array Value} {o : Nat} {i : TypeInfo} (ht : twoInts P t = true) (hi : P.info? t = some i) (hs : i.size = 2) (hq : Q (.agg (cs.extract o (o + 2))) h) : Sem.lwp P (part t cs o) Q E h := by
 unfold part
 rw [lwp_bind, lwp_isAgg_true (twoInts_agg ht)]
 simp only [if_true, lwp_bind, lwp_sizeOf hi, hs, lwp_pure]
 exact hq
theorem lwp_equal4 {Q : Bool → Cells → Prop} {t : TypeId} {a b c d a' b' c' d' : Int} (ht : twoAndTwo P t = true) (hq : Q (decide (a = a' ∧ b = b' ∧ c = c' ∧ d = d')) h) : Sem.lwp P (Op.equal t (.agg #[.int .i64 a, .int .i64 b, .int .i64 c, .int .i64 d]) (.agg #[.int .i64 a', .int .i64 b', .int .i64 c', .int .i64 d'])) Q E h := by
 unfold twoAndTwo at ht
 split at ht
 next fs hu =>
  simp only [Bool.and_eq_true, Bool.not_eq_true'] at ht
  obtain ⟨h1, hs⟩ := ht
  split at h1
  next x y w hfs =>
   simp only [Bool.and_eq_true, bne_iff_ne] at h1
   obtain ⟨⟨⟨⟨⟨⟨⟨⟨⟨n1, n2⟩, n3⟩, i1⟩, i2⟩, i3⟩, o1⟩, o2⟩, o3⟩, sz⟩ := h1
   have hfs' : fs = #[x, y, w] := by rw [← hfs]
   subst hfs'
   have o1 := nbeq_true o1
   have o2 := nbeq_true o2
   have o3 := nbeq_true o3
   cases hi : P.info? w.type with
   | none => rw [hi] at sz; cases sz
   | some inf =>
    rw [hi] at sz
    have sz := nbeq_true sz
    unfold Op.equal
    have hmd : Op.maxDepth = 9997 + 1 + 1 + 1 := rfl
    rw [hmd, Op.equalIn]
    rw [lwp_bind, lwp_underlying hu]
    simp only [lwp_bind, lwp_program, hs, Bool.false_eq_true, if_false, List.forIn_toArray, List.forIn_cons, List.forIn_nil, n1, n2, n3, ne_eq, not_false_eq_true, if_true]
    refine lwp_partI i1 (v := .int .i64 a) (by rw [o1]; rfl) ?_
    refine lwp_partI i1 (v := .int .i64 a') (by rw [o1]; rfl) ?_
    refine lwp_equalI i1 ?_
    by_cases e1 : a = a'
    ·subst e1
     simp only [beq_self_eq_true, Bool.not_true, Bool.false_eq_true, if_false, lwp_pure, lwp_bind]
     refine lwp_partI i2 (v := .int .i64 b) (by rw [o2]; rfl) ?_
     refine lwp_partI i2 (v := .int .i64 b') (by rw [o2]; rfl) ?_
     refine lwp_equalI i2 ?_
     by_cases e2 : b = b'
     ·subst e2
      simp only [beq_self_eq_true, Bool.not_true, Bool.false_eq_true, if_false, lwp_pure, lwp_bind]
      refine lwp_part2 i3 hi sz ?_
      refine lwp_part2 i3 hi sz ?_
      rw [o3]
      refine lwp_equalIn2 (a := c) (b := d) (c := c') (d := d') i3 ?_
      by_cases e3 : c = c' ∧ d = d'
      ·simpa [lwp_pure, e3] using hq
      ·simpa [lwp_pure, e3] using hq
     ·have e3 : (b == b') = false := by simpa using e2
      simpa [lwp_pure, e2, e3] using hq
    ·have e3 : (a == a') = false := by simpa using e1
     simpa [lwp_pure, e1, e3] using hq
  next => cases h1
 next => cases ht
variable {X : XP} {Q : Leaf → LH → Prop}
theorem t_ne4 {h : LH} {K : Value → T} {t : TypeId} {x y : Operand} {a b c d a' b' c' d' : Int} (ht : twoAndTwo P t = true) (hg : P.eqGuardType P.depth t = false) (hk : (K (.bool (!decide (a = a' ∧ b = b' ∧ c = c' ∧ d = d')))).wp X P Q h) :
  (T.sem false (Sem.bind (eqGuard .neq t x y (.agg #[.int .i64 a, .int .i64 b, .int .i64 c, .int .i64 d]) (.agg #[.int .i64 a', .int .i64 b', .int .i64 c', .int .i64 d'])) fun _ => binOp .neq t (.agg #[.int .i64 a, .int .i64 b, .int .i64 c, .int .i64 d]) (.agg #[.int .i64 a', .int .i64 b', .int .i64 c', .int .i64 d'])) K).wp X P Q h := by
 refine t_sem (A := fun w h' => w = .bool (!decide (a = a' ∧ b = b' ∧ c = c' ∧ d = d')) ∧ h' = h.get) (Sem.lwp_bind _ _ ?_) (by rintro w h' ⟨rfl, rfl⟩; exact hk)
 unfold eqGuard
 simp only [Bool.not_true, Bool.false_eq_true, if_false, lwp_bind, lwp_program, hg, Bool.not_false, if_true, lwp_pure]
 unfold binOp
 rw [lwp_bind]
 exact lwp_equal4 ht ⟨rfl, rfl⟩
end Go.TM
end
section
namespace Go.Proofs.YtldamlcehbdkdaaGreatDoor
open Go Go.TM Go.Proofs
attribute [local irreducible] T.wp CV FWK
theorem two79 : twoAndTwo Tryz.prog 131 = true := by kernel_rfl
theorem g79 : Tryz.prog.eqGuardType Tryz.prog.depth 131 = false := by kernel_rfl
theorem c30 {h : LH} {p q : Option Addr} {n c m d : Nat} {a b : List Lack} (ha : Sl LackE 4 h.get p n a) (hb : Sl LackE 4 h.get q m b) : Pu Tryz.prog 62 #[.slice p n c, .slice q m d] h (.bool (decide (a = b))) := by
 refine w30 _ _ _ _ _ _ X0_ok ?_
 unfold n30
 have hn := ha.1
 have hm := hb.1
 have hbn := ha.2.1
 have hbm := hb.2.1
 refine t_cond (fun e => ?_) (fun e => ?_)
 ·have : a ≠ b := by rintro rfl; simp at e; omega
  exact t_ret ⟨by simp [this], rfl⟩
 have hnm : n = m := by simp at e; omega
 refine t_loop (fun mm vs h' => h = h' ∧ ∃ i : Nat, vs = [.bool false, .int .i64 i] ∧ i ≤ n ∧ mm = n - i ∧ a.take i = b.take i) ⟨rfl, 0, rfl, Nat.zero_le _, rfl, rfl⟩ ?_
 rintro Y mm vs _ hY ⟨rfl, i, rfl, hi, rfl, hc⟩
 refine gZ ?_
 refine t_if (fun e => ?_) (fun e => ?_)
 ·obtain ⟨x, a1, hx, ha1, e1, e2, e3, e4⟩ := ha.at (i := i) (by omega)
  obtain ⟨y, a2, hy, ha2, f1, f2, f3, f4⟩ := hb.at (i := i) (by omega)
  refine gZ ?_
  refine t_ne4 two79 g79 ?_
  refine gZ ?_
  refine t_cond (fun b1 => ?_) (fun b1 => ?_)
  ·refine gZ ?_
   have : a ≠ b := by rintro rfl; rw [hx] at hy; cases hy; simp at b1
   exact t_ret ⟨by simp [this], rfl⟩
  ·have b2 : x = y := by
    obtain ⟨x1, x2, x3, x4⟩ := x
    obtain ⟨y1, y2, y3, y4⟩ := y
    simp at b1
    obtain ⟨rfl, rfl, rfl, rfl⟩ := b1
    rfl
   refine t_again (hY (n - (i + 1)) _ _ (by omega) ⟨rfl, i + 1, ?_, by omega, rfl, ?_⟩)
   ·rw [wrap_id (by omega) (by omega)]; rfl
   ·rw [List.take_add_one, List.take_add_one, hc, hx, hy, b2]
 ·refine gZ ?_
  rw [List.take_of_length_le (by omega), List.take_of_length_le (by omega)] at hc
  exact t_ret ⟨by simp [hc], rfl⟩
theorem c15 {h : LH} {f : FileC} {u : UseFile} (hu : FileR h.get f u) : FW X0 Tryz.prog 49 #[fileV f u] h fun r h' => h = h' ∧ ∃ b : Bool, r = .bool b ∧ (b = false → u.excuses.length ≤ 20 ∧ u.papers.length ≤ 20 ∧ u.requests.length ≤ 20) := by
 refine w15 _ _ _ _ _ _ _ _ _ _ _ _ _ X0_ok ?_
 unfold n15
 have x0 := hu.excuses.1
 have p0 := hu.papers.1
 have r0 := hu.requests.1
 have pb := hu.papers.2.1
 have rb := hu.requests.2.1
 refine t_blk (fun vs h' => vs = [.bool false] ∧ h = h' ∧ u.excuses.length ≤ 20 ∧ u.papers.length ≤ 20 ∧ u.requests.length ≤ 20) ?_ ?_
 ·refine t_if (fun e1 => ?_) (fun e1 => ?_)
  ·refine gZ ?_
   exact t_ret ⟨rfl, true, rfl, fun e => by cases e⟩
  refine t_if (fun e2 => ?_) (fun e2 => ?_)
  ·refine gZ ?_
   exact t_ret ⟨rfl, true, rfl, fun e => by cases e⟩
  refine t_if (fun e3 => ?_) (fun e3 => ?_)
  ·refine gZ ?_
   exact t_ret ⟨rfl, true, rfl, fun e => by cases e⟩
  exact t_again ⟨rfl, rfl, by omega, by omega, by omega⟩
 rintro vs _ ⟨rfl, rfl, h1, h2, h3⟩
 refine gZ ?_
 refine t_loop (fun mm vs h' => h = h' ∧ ∃ i : Nat, vs = [.bool false, .int .i64 i] ∧ i ≤ f.n5 ∧ mm = f.n5 - i) ⟨rfl, 0, rfl, Nat.zero_le _, rfl⟩ ?_
 rintro Y mm vs _ hY ⟨rfl, i, rfl, hi, rfl⟩
 refine gZ ?_
 refine t_if (fun e => ?_) (fun e => ?_)
 ·obtain ⟨x, a1, hx, ha1, e1, e2, e3, q, m, c, e4, e5⟩ := hu.papers.at (i := i) (by omega)
  refine gZ ?_
  refine t_if (fun e6 => ?_) (fun e6 => ?_)
  ·refine gZ ?_
   exact t_ret ⟨rfl, true, rfl, fun e => by cases e⟩
  ·refine t_again (hY (f.n5 - (i + 1)) _ _ (by omega) ⟨rfl, i + 1, ?_, by omega, rfl⟩)
   rw [wrap_id (by omega) (by omega)]; rfl
 ·refine gZ ?_
  refine t_loop (fun mm vs h' => h = h' ∧ ∃ i : Nat, vs = [.bool false, .int .i64 i] ∧ i ≤ f.n6 ∧ mm = f.n6 - i) ⟨rfl, 0, rfl, Nat.zero_le _, rfl⟩ ?_
  rintro Y2 mm vs _ hY2 ⟨rfl, i, rfl, hi, rfl⟩
  refine gZ ?_
  refine t_if (fun e => ?_) (fun e => ?_)
  ·obtain ⟨x, a1, hx, ha1, e1, e2, q, m, c, e4, e5⟩ := hu.requests.at (i := i) (by omega)
   refine gZ ?_
   refine t_if (fun e6 => ?_) (fun e6 => ?_)
   ·refine gZ ?_
    exact t_ret ⟨rfl, true, rfl, fun e => by cases e⟩
   ·refine t_again (hY2 (f.n6 - (i + 1)) _ _ (by omega) ⟨rfl, i + 1, ?_, by omega, rfl⟩)
    rw [wrap_id (by omega) (by omega)]; rfl
  ·refine gZ ?_
   exact t_ret ⟨rfl, false, rfl, fun _ => ⟨h1, h2, h3⟩⟩
end Go.Proofs.YtldamlcehbdkdaaGreatDoor
end
section
namespace Go.Proofs.YtldamlcehbdkdaaGreatDoor
open Go Go.TM Go.Proofs
theorem lack_grow : Grow LackE := fun _ _ _ _ hl h => ⟨hl _ _ h.1, hl _ _ h.2.1, hl _ _ h.2.2.1, hl _ _ h.2.2.2⟩
theorem ev1 : window exU 20 = ⟨16, 20⟩ := by decide +kernel
theorem ev2 : window exU 25 = ⟨18, 25⟩ := by decide +kernel
theorem ev3 : safe exU 0 1 16 = 1 := by decide +kernel
theorem ev4 : safe exU 0 1 18 = 0 := by decide +kernel
theorem ev5 : safe exU 0 1 19 = 2 := by decide +kernel
theorem ev6 : weak exU 0 1 = 17 := by decide +kernel
theorem ev7 : weak exU 1 2 = 15 := by decide +kernel
theorem ev8 : leftAll exU 0 25 = [1, 2, 0] := by decide +kernel
theorem ev9 : lacks exU 0 20 = [⟨1, 0, ⟨16, 20⟩⟩, ⟨2, 0, ⟨16, 20⟩⟩] := by decide +kernel
theorem ev10 : enoughB exU 0 25 [0, 2] (leftAll exU 0 25) = false := by decide +kernel
theorem ev11 : ∀ i, i < 16 → okF exU 0 25 i = true → (∀ j, j < 16 → okF exU 0 25 j = true → fewerF (subsetL 4 i) (subsetL 4 j) ≤ 0) → subsetL 4 i = [1] := by decide +kernel
theorem ev12 : okF exU 0 25 2 = true := by decide +kernel
theorem exWindow20 : windowR exU 20 = .tuple #[.agg #[.int .i64 16, .int .i64 20], .int .i64 0] := by rw [windowR, if_neg (by decide +kernel), ev1]
theorem exWindow25 : windowR exU 25 = .tuple #[.agg #[.int .i64 18, .int .i64 25], .int .i64 0] := by rw [windowR, if_neg (by decide +kernel), ev2]
theorem exSafe16 : safeR exU 0 1 16 = .tuple #[.int .i64 1, .int .i64 0] := by rw [safeR, if_neg (by decide +kernel), ev3]
theorem exSafe18 : safeR exU 0 1 18 = .tuple #[.int .i64 0, .int .i64 0] := by rw [safeR, if_neg (by decide +kernel), ev4]
theorem exSafe19 : safeR exU 0 1 19 = .tuple #[.int .i64 2, .int .i64 0] := by rw [safeR, if_neg (by decide +kernel), ev5]
theorem exWeak1 : weakR exU 0 1 = .tuple #[.int .i64 17, .int .i64 0] := by rw [weakR, if_neg (by decide +kernel), ev6]
theorem exWeak2 : weakR exU 1 2 = .tuple #[.int .i64 15, .int .i64 0] := by rw [weakR, if_neg (by decide +kernel), ev7]
theorem exEnough : enoughR exU 0 25 [0, 2] = .tuple #[.bool false, .int .i64 0] := by rw [enoughR, if_neg (by decide +kernel), ev10]
theorem exOpen25 : openF exU [landQ exU 0, dayQ 25] = 0 := by decide +kernel
theorem exOpen20 : openF exU [landQ exU 0, dayQ 20] = 0 := by decide +kernel
attribute [local irreducible] T.wp CV FWK
set_option maxRecDepth 100000 in
theorem c16 {h : LH} (hch : h.chans = []) (hpe : h.pend = []) (hp : Parts h.get) : FW XT Tryz.prog 13 #[] h fun r h' => r = .bool true ∧ Rd h.get h'.get ∧ h'.chans = [] ∧ h'.pend = [] ∧ h'.todo = h.todo := by
 refine w16 XT_ok ?_
 unfold n16
 refine t_gr c52 ?_
 rintro _ h1 le1 ⟨f, rfl, hu⟩
 have hp := hp.le le1.1
 refine gZ ?_
 refine t_gr (c17 hp hu 20) ?_
 rintro _ h2 le2 rfl
 rw [exWindow20]
 refine gZ ?_
 have hp := hp.le le2.1
 have hu := hu.le le2.1
 refine t_gr (c17 hp hu 25) ?_
 rintro _ h3 le3 rfl
 rw [exWindow25]
 refine gZ ?_
 have hp := hp.le le3.1
 have hu := hu.le le3.1
 refine t_gr (c19 hp hu 0 1 16) ?_
 rintro _ h4 le4 rfl
 rw [exSafe16]
 refine gZ ?_
 have hp := hp.le le4.1
 have hu := hu.le le4.1
 refine t_gr (c19 hp hu 0 1 18) ?_
 rintro _ h5 le5 rfl
 rw [exSafe18]
 refine gZ ?_
 have hp := hp.le le5.1
 have hu := hu.le le5.1
 refine t_gr (c19 hp hu 0 1 19) ?_
 rintro _ h6 le6 rfl
 rw [exSafe19]
 refine gZ ?_
 have hp := hp.le le6.1
 have hu := hu.le le6.1
 refine t_gr (c21 hp hu 0 1) ?_
 rintro _ h7 le7 rfl
 rw [exWeak1]
 refine gZ ?_
 have hp := hp.le le7.1
 have hu := hu.le le7.1
 refine t_gr (c21 hp hu 1 2) ?_
 rintro _ h8 le8 rfl
 rw [exWeak2]
 refine gZ ?_
 have hp := hp.le le8.1
 have hu := hu.le le8.1
 refine t_gr (c23 hp hu 0 25) ?_
 rintro _ h9 le9 (⟨hne, _⟩ | ⟨_, lp, ln, lc, rfl, hl⟩)
 ·exact absurd exOpen25 hne
 rw [ev8] at hl
 refine gZ ?_
 have hp := hp.le le9.1
 have hu := hu.le le9.1
 refine t_gr (c28 hp hu 0 20) ?_
 rintro _ h10 le10 (⟨hne, _⟩ | ⟨_, kp, kn, kc, rfl, hk⟩)
 ·exact absurd exOpen20 hne
 rw [ev9] at hk
 refine gZ ?_
 have hp := hp.le le10.1
 have hu := hu.le le10.1
 have hl := hl.le IntE.grow le10.1
 have le := LH.le_trans (LH.le_trans (LH.le_trans (LH.le_trans (LH.le_trans (LH.le_trans (LH.le_trans (LH.le_trans (LH.le_trans le1 le2) le3) le4) le5) le6) le7) le8) le9) le10
 refine t_call (c33 (by rw [le.2.1, hch]) (by rw [le.2.2.1, hpe]) hp hu 0 25) ?_
 rintro _ h11 ⟨rd11, ch11, pe11, td11, ⟨hne, _⟩ | ⟨_, pp, pn, pc, rfl, hb, _⟩⟩
 ·exact absurd exOpen25 hne
 have hpk : Sl IntE 1 h11.get pp pn [1] := by
  rcases hb with ⟨_, _, hno⟩ | ⟨i, a, rfl, hi, hok, hs, hmin⟩
  ·have := hno 2 (by decide) (by simp)
   rw [ev12] at this; cases this
  ·have e := ev11 i hi hok fun j hj hj2 => hmin j hj (by simp) hj2
   rw [← e]; exact hs
 refine gZ ?_
 have hp := hp.rd rd11
 have hu := hu.rd rd11
 have hl := hl.rd IntE.grow rd11
 have hk := hk.rd lack_grow rd11
 refine t_buildG und50 inf3 (by decide) (by decide) (cells := #[.int .i64 0, .int .i64 2]) (by kernel_rfl) fun r12 h12 le12 _ e12 => ?_
 refine gZ ?_
 have hp := hp.le le12.1
 have hu := hu.le le12.1
 refine t_gr (c31 hp hu 0 25 (pl := [0, 2]) (sl_ints (l := [0, 2]) rfl e12 (by show (2 : Nat) < _; omega))) ?_
 rintro _ h13 le13 rfl
 rw [exEnough]
 refine gZ ?_
 have le1113 := LH.le_trans le12 le13
 have hl := hl.le IntE.grow le1113.1
 have hk := hk.le lack_grow le1113.1
 have hpk := hpk.le IntE.grow le1113.1
 refine t_blk (fun vs h' => vs = [.bool false] ∧ h13 = h') ?_ ?_
 ·iterate 11 refine t_cond (fun e => absurd e (by decide)) (fun _ => ?_)
  exact t_again ⟨rfl, rfl⟩
 rintro vs _ ⟨rfl, rfl⟩
 refine gZ ?_
 refine t_blk (fun vs h' => vs = [.bool false] ∧ h13.le h') ?_ ?_
 ·refine t_pu (c42 _ _) ?_
  refine gZ ?_
  refine t_ne2 two30 g30 ?_
  refine gZ ?_
  refine t_cond (fun e => absurd e (by decide)) (fun _ => ?_)
  refine t_pu (c42 _ _) ?_
  refine gZ ?_
  refine t_ne2 two30 g30 ?_
  refine gZ ?_
  refine t_cond (fun e => absurd e (by decide)) (fun _ => ?_)
  refine gZ ?_
  refine t_cond (fun e => absurd e (by decide)) (fun _ => ?_)
  refine gZ ?_
  refine t_cond (fun e => absurd e (by decide)) (fun _ => ?_)
  refine gZ ?_
  refine t_cond (fun e => absurd e (by decide)) (fun _ => ?_)
  refine gZ ?_
  refine t_cond (fun e => absurd e (by decide)) (fun _ => ?_)
  refine gZ ?_
  refine t_cond (fun e => absurd e (by decide)) (fun _ => ?_)
  refine gZ ?_
  refine t_cond (fun e => absurd e (by decide)) (fun _ => ?_)
  refine gZ ?_
  refine t_buildG und50 inf3 (by decide) (by decide) (cells := #[.int .i64 1]) (by kernel_rfl) fun r14 h14 le14 _ e14 => ?_
  refine gZ ?_
  refine t_pu (c35 (hpk.le IntE.grow le14.1) (sl_ints (l := [1]) rfl e14 (by show (1 : Nat) < _; omega))) ?_
  refine gZ ?_
  refine t_cond (fun e => absurd e (by decide)) (fun _ => ?_)
  exact t_again ⟨rfl, le14⟩
 rintro vs h15 ⟨rfl, le15⟩
 have hl := hl.le IntE.grow le15.1
 have hk := hk.le lack_grow le15.1
 refine gZ ?_
 refine t_buildG und40 inf34 (by decide) (by decide) (cells := #[.int .i64 1, .int .i64 2, .int .i64 0]) (by kernel_rfl) fun r16 h16 le16 _ e16 => ?_
 refine gZ ?_
 refine t_pu (c25 (hl.le IntE.grow le16.1) (sl_ints (l := [1, 2, 0]) rfl e16 (by show (3 : Nat) < _; omega))) ?_
 refine gZ ?_
 refine t_cond (fun _ => ?_) (fun e => absurd e (by decide))
 refine gZ ?_
 refine t_pu (c42 _ _) ?_
 refine gZ ?_
 refine t_pu (c42 _ _) ?_
 refine gZ ?_
 refine t_buildG und45 inf79 (by decide) (by decide) (cells := #[.int .i64 1, .int .i64 0, .int .i64 16, .int .i64 20, .int .i64 2, .int .i64 0, .int .i64 16, .int .i64 20]) (by kernel_rfl) fun r17 h17 le17 _ e17 => ?_
 refine gZ ?_
 have le1617 := LH.le_trans le16 le17
 refine t_pu (c30 (hk.le lack_grow le1617.1) (b := [⟨1, 0, ⟨16, 20⟩⟩, ⟨2, 0, ⟨16, 20⟩⟩]) ?_) ?_
 ·refine ⟨rfl, by show (2 : Nat) < _; omega, ?_⟩
  have cr : ∀ {i j : Nat} {v : Value}, (#[.int .i64 1, .int .i64 0, .int .i64 16, .int .i64 20, .int .i64 2, .int .i64 0, .int .i64 16, .int .i64 20] : Array Value)[i + j]? = some v → h17.get.cell? (Addr.add (Addr.add ⟨r17, 0, none⟩ i) j) = some v := by
   intro i j v hv
   rw [add_plain, add_plain, Nat.zero_add]; exact cell_row e17 hv
  intro i x hx
  match i, hx with
  | 0, hx => cases hx; exact ⟨_, rfl, cr rfl, cr rfl, cr rfl, cr rfl⟩
  | 1, hx => cases hx; exact ⟨_, rfl, cr rfl, cr rfl, cr rfl, cr rfl⟩
  | i + 2, hx => simp at hx
 refine gZ ?_
 have leZ := LH.le_trans (LH.le_trans le1113 le15) le1617
 refine t_ret ⟨by simp, (Rd.of_le le.1).trans (rd11.trans (Rd.of_le leZ.1)), by rw [leZ.2.1, ch11], by rw [leZ.2.2.1, pe11], by rw [leZ.2.2.2, td11, le.2.2.2]⟩
end Go.Proofs.YtldamlcehbdkdaaGreatDoor
end
section
namespace Go.Proofs.YtldamlcehbdkdaaGreatDoor
open Go Go.TM Go.Proofs
attribute [local irreducible] T.wp CV FWK
theorem LeftR.form {h' : Cells} {u : UseFile} {land day : Int} {r : Value} (hr : LeftR h' u land day r) : ∃ p n c, r = .tuple #[.slice p n c, .int .i64 (openF u [landQ u land, dayQ day])] ∧ Sl IntE 1 h' p n (if openF u [landQ u land, dayQ day] = 0 then leftAll u land day else []) := by
 rcases hr with ⟨h1, rfl⟩ | ⟨h1, p, n, c, rfl, s⟩
 ·exact ⟨none, 0, 0, rfl, by rw [if_neg h1]; exact Sl.nil⟩
 ·exact ⟨p, n, c, by rw [h1], by rw [if_pos h1]; exact s⟩
def Fin (h : LH) : Value → LH → Prop := fun r h' => r = .bool true ∧ h'.chans = [] ∧ h'.pend = [] ∧ h'.todo = h.todo
theorem fin_shown {h h' : LH} (hch : h.chans = []) (hpe : h.pend = []) (hp : Parts h.get) (hle : h.le h') : FW XT Tryz.prog 13 #[] h' (Fin h) := by
 refine FW.mono (c16 (by rw [hle.2.1, hch]) (by rw [hle.2.2.1, hpe]) (hp.le hle.1)) ?_
 rintro v h'' ⟨h1, _, h2, h3, h4⟩
 exact ⟨h1, h2, h3, by rw [h4, hle.2.2.2]⟩
theorem t_shown {h h' : LH} {k : Bool → T} {Q : Leaf → LH → Prop} (hch : h.chans = []) (hpe : h.pend = []) (hp : Parts h.get) (hle : h.le h') (hk : ∀ h'', h''.chans = [] ∧ h''.pend = [] ∧ h''.todo = h.todo → (k true).wp XT Tryz.prog Q h'') :
  (T.call false 13 #[] fun v => T.unB v k).wp XT Tryz.prog Q h' := by
 refine t_call (fin_shown hch hpe hp hle) ?_
 rintro _ h'' ⟨rfl, h2⟩
 exact gC (hk h'' h2)
end Go.Proofs.YtldamlcehbdkdaaGreatDoor
end
section
namespace Go.TM
open Go
def cum (c : Int → Bool) : Nat → Int
 | 0 => 0
 | n + 1 => cum c n + (if c ((n + 1 : Nat) : Int) then 1 else 0)
theorem firstDay_spec (c : Int → Bool) (idle : Int) : ∀ (d : Nat) (n : Int), n < idle → ∃ w : Nat, firstDay c idle d n = w ∧ w ≤ d ∧ n + cum c d - cum c w < idle ∧ (1 ≤ w → n + cum c d - cum c (w - 1) ≥ idle) := by
 intro d
 induction d with
 | zero => intro n hn; exact ⟨0, rfl, Nat.le_refl _, by omega, fun h => by omega⟩
 | succ d ih =>
  intro n hn
  have hc : (if c ((d + 1 : Nat) : Int) then n + 1 else n) + cum c d = n + cum c (d + 1) := by
   rw [cum]; split <;> omega
  rw [firstDay]
  by_cases e : (if c ((d + 1 : Nat) : Int) then n + 1 else n) ≥ idle
  ·rw [if_pos e]
   refine ⟨d + 1, rfl, Nat.le_refl _, by omega, fun _ => ?_⟩
   rw [Nat.add_sub_cancel]; omega
  ·rw [if_neg e]
   obtain ⟨w, h1, h2, h3, h4⟩ := ih _ (by omega : (if c ((d + 1 : Nat) : Int) then n + 1 else n) < idle)
   exact ⟨w, h1, by omega, by omega, fun h => by have := h4 h; omega⟩
def cnt (u : UseFile) (a d : Int) : Int := cum (counts u) d.toNat - cum (counts u) a.toNat
theorem window_bound {u : UseFile} (hi : 1 ≤ u.idle) {day : Int} (hd : 0 ≤ day) : 0 ≤ (window u day).first ∧ (window u day).first ≤ day ∧ (window u day).last = day ∧ cnt u (window u day).first day < u.idle ∧ (1 ≤ (window u day).first → cnt u ((window u day).first - 1) day ≥ u.idle) := by
 obtain ⟨w, h1, h2, h3, h4⟩ := firstDay_spec (counts u) u.idle day.toNat 0 (by omega)
 unfold window cnt
 simp only [h1]
 refine ⟨by omega, by omega, trivial, ?_, fun h => ?_⟩
 ·rw [show ((w : Nat) : Int).toNat = w by omega]; omega
 ·have := h4 (by omega)
  rw [show (((w : Nat) : Int) - 1).toNat = w - 1 by omega]; omega
end Go.TM
end
section
namespace Go.Proofs.YtldamlcehbdkdaaGreatDoor
open Go Go.TM Go.Proofs
attribute [local irreducible] T.wp CV FWK
theorem c36 {h : LH} {f : FileC} {u : UseFile} (hu : FileR h.get f u) : FW X0 Tryz.prog 11 #[fileV f u] h fun r h' => h = h' ∧ ∃ b : Bool, r = .bool b ∧ (b = true → checkF u = 0) := by
 refine w36 _ _ _ _ _ _ _ _ _ _ _ _ _ X0_ok ?_
 unfold n36
 refine t_call (c15 hu) ?_
 rintro _ _ ⟨rfl, b, rfl, hb⟩
 refine gZ ?_
 refine t_cond (fun _ => ?_) (fun _ => ?_)
 ·refine t_pu (c27 hu) ?_
  refine gZ ?_
  exact t_ret ⟨rfl, _, rfl, fun e => by simpa using e⟩
 ·exact t_ret ⟨rfl, _, rfl, fun e => by cases e⟩
theorem wrap_u16 {n : Int} (h : 0 ≤ n ∧ n ≤ 65535) : IntKind.i64.wrap n = n := wrap_id (by omega) (by omega)
theorem wrap_u8 {n : Int} (h : 0 ≤ n ∧ n ≤ 255) : IntKind.i64.wrap n = n := wrap_id (by omega) (by omega)
theorem tmod_nn {a b : Int} (ha : 0 ≤ a) : Int.tmod a b = a % b := by rw [Int.tmod_eq_emod_of_nonneg ha]
theorem mod_day {n : Int} : 0 ≤ n % 2001 ∧ n % 2001 ≤ 2000 := by omega
theorem c37 {h : LH} {n : Int} (hn : 0 ≤ n ∧ n ≤ 65535) : Pu Tryz.prog 14 #[.int .u16 n] h (.int .i64 (n % 2001)) := by
 refine w37 _ X0_ok ?_
 unfold n37
 refine gT (by omega) ?_
 rw [wrap_u16 hn, tmod_nn hn.1]
 exact t_ret ⟨rfl, rfl⟩
end Go.Proofs.YtldamlcehbdkdaaGreatDoor
end
section
namespace Go.Proofs.YtldamlcehbdkdaaGreatDoor
open Go Go.TM Go.Proofs
attribute [local irreducible] T.wp CV FWK
theorem openF_all {u : UseFile} (hck : checkF u = 0) : ∀ {l : List Int}, (∀ x ∈ l, x = 0) → openF u l = 0 := by
 intro l hl
 rw [openF, if_neg (by simp [hck])]
 have key : ∀ (l : List Int) (i : Nat), (∀ x ∈ l, x = 0) → firstF (fun _ x => x) i l = 0 := by
  intro l
  induction l with
  | nil => intro i _; rfl
  | cons y l ih =>
   intro i h
   rw [firstF, if_neg (by simp [h y (by simp)])]
   exact ih _ fun x hx => h x (by simp [hx])
 exact key l 0 hl
theorem landQ_ok {u : UseFile} {k : Int} (h : 0 ≤ k ∧ k < u.lands) : landQ u k = 0 := by
 unfold landQ isIn
 rw [if_pos]; simp; omega
theorem dayQ_ok {d : Int} (h : 0 ≤ d ∧ d ≤ 2000) : dayQ d = 0 := by
 unfold dayQ isDay isIn
 rw [if_pos]; simp; omega
theorem leftQ_ok {u : UseFile} (hck : checkF u = 0) {k d : Int} (hk : 0 ≤ k ∧ k < u.lands) (hd : 0 ≤ d ∧ d ≤ 2000) : openF u [landQ u k, dayQ d] = 0 :=
 openF_all hck (by intro x hx; simp at hx; rcases hx with rfl | rfl; exact landQ_ok hk; exact dayQ_ok hd)
theorem mod_pos {n b : Int} (hb : 0 < b) : 0 ≤ n % b ∧ n % b < b := ⟨Int.emod_nonneg _ (by omega), Int.emod_lt_of_pos _ hb⟩
end Go.Proofs.YtldamlcehbdkdaaGreatDoor
end

/- Contracts and laws for the proof, joined by a program. No condition. -/
import Derived.Test.YtopkdkedjkidhaaDoorM3
set_option linter.all false
section
namespace Go.Proofs.YtopkdkedjkidhaaDoor
open Go Go.TM Go.Proofs
attribute [local irreducible] T.wp CV FWK
def De (f : FuncId) (args : Array Value) (h : LH) (d m : Nat) (fc : FileC) (u : UseFile) (V : Value → LH → Prop) : Prop := FW X0 Tryd.prog f args h fun r h' => Mv m h h' ∧ Desk h'.get d m fc u ∧ V r h'
theorem t_de {X : XP} {Q : Leaf → LH → Prop} {h : LH} {f : FuncId} {args : Array Value} {d m : Nat} {fc : FileC} {u : UseFile} {k : Value → T} {V : Value → LH → Prop} (c : De f args h d m fc u V) (hk : ∀ v h', Mv m h h' → Desk h'.get d m fc u → V v h' → (k v).wp X Tryd.prog Q h') : (T.call false f args k).wp X Tryd.prog Q h :=
  t_call (FW.top c) fun v h' ha => hk v h' ha.1 ha.2.1 ha.2.2
theorem two119 : twoInts Tryd.prog 131 = true := by kernel_rfl
theorem two30 : twoInts Tryd.prog 30 = true := by kernel_rfl
theorem i64_3 : isI64 Tryd.prog 3 = true := by kernel_rfl
theorem Desk.updMap {h : Cells} {d m : Nat} {f : FileC} {u : UseFile} (k : Desk h d m f u) {es' : Array MapEntry} {c : Nat} (he : ∀ e ∈ es'.toList, ∃ day : Int, e.key = .agg #[.int .i64 day, .int .i64 u.idle] ∧ e.val = .agg #[.int .i64 (window u day).first, .int .i64 day]) : Rd h (h.upd m (true, .map es' c)) ∧ Desk (h.upd m (true, .map es' c)) d m f u := by
  have hr : Rd h (h.upd m (true, .map es' c)) := by
    intro a v hc
    have hne : a.block ≠ m := by
      intro e
      obtain ⟨es, c, hm⟩ := k.isMap
      unfold Cells.cell? at hc
      rw [e, hm] at hc; cases hc
    unfold Cells.cell? at hc ⊢
    rw [Cells.upd_ne _ _ hne]; exact hc
  exact ⟨hr, k.file.rd hr, k.rep.rd hr, fun j hj => hr _ _ (k.counts j hj), hr _ _ k.mapp, _, _, Cells.upd_self _ _ _, he⟩
theorem Mv.updMap {m : Nat} {h : LH} {es' : Array MapEntry} {c : Nat} : Mv m h { h with get := h.get.upd m (true, .map es' c) } :=
  ⟨fun r x hr hx => by show Cells.upd _ _ _ r = _; rw [Cells.upd_ne _ _ hr]; exact hx, fun _ _ _ => ⟨es', c, Cells.upd_self _ _ _⟩, rfl, rfl, rfl⟩
theorem c55 {h : LH} {d m : Nat} {f : FileC} {u : UseFile} (k : Desk h.get d m f u) (hid : 1 ≤ u.idle ∧ u.idle ≤ 2000) (day : Int) (hd : 0 ≤ day ∧ day ≤ 2000) :
    De 46 #[.pointer (some ⟨d, 0, none⟩), .int .i64 day] h d m f u fun r _ => r = .agg #[.int .i64 (window u day).first, .int .i64 day] := by
  refine w55 _ _ X0_ok ?_
  unfold n55
  obtain ⟨f0, f1, f2, f3, f4, f5, f6⟩ := k.file
  have hmp := k.mapp
  obtain ⟨es, c, hm, hes⟩ := k.map
  have hkey : ∀ e ∈ es.toList, IsKey Tryd.prog 131 e.key := fun e he => by obtain ⟨dy, h1, _⟩ := hes e he; exact .inr ⟨two119, dy, u.idle, h1⟩
  have hkey' : IsKey Tryd.prog 131 (.agg #[.int .i64 day, .int .i64 u.idle]) := .inr ⟨two119, _, _, rfl⟩
  have found : ∀ e ∈ es.toList, e.key = .agg #[.int .i64 day, .int .i64 u.idle] → e.val = .agg #[.int .i64 (window u day).first, .int .i64 day] := by
    intro e he hk
    obtain ⟨dy, h1, h2⟩ := hes e he
    rw [hk] at h1
    simp only [Value.agg.injEq, Array.mk.injEq, List.cons.injEq, Value.int.injEq, and_true, true_and] at h1
    rw [h2, h1]
  (repeat (first | (with_reducible first | apply gA | apply gB | apply gC | apply gD | apply gE | apply gF | apply gG | apply gH | apply gI | apply gJ | apply gK | apply gL | apply gM | apply gN | apply gO | apply gP | apply gQ | apply gR) | ((with_reducible first | apply gT | apply gS2); first | exact rfl | assumption | omega | exact ⟨⟩) | ((with_reducible first | apply gL0 | apply gL1 | apply gL2 | apply gL3 | apply gL4); assumption)))
  refine t_blk (fun vs h' => vs = [.int .i64 0, .int .i64 0] ∧ h = h') ?_ ?_
  · (repeat (first | (with_reducible first | apply gA | apply gB | apply gC | apply gD | apply gE | apply gF | apply gG | apply gH | apply gI | apply gJ | apply gK | apply gL | apply gM | apply gN | apply gO | apply gP | apply gQ | apply gR) | ((with_reducible first | apply gT | apply gS2); first | exact rfl | assumption | omega | exact ⟨⟩) | ((with_reducible first | apply gL0 | apply gL1 | apply gL2 | apply gL3 | apply gL4); assumption)))
    refine t_both ?_ ?_
    · refine t_lookup und111 inf30 ⟨c, hm⟩ hkey' hkey (fun e he hk => ?_) fun hno => ?_
      · rw [found e he hk]
        simp only [if_true]
        (repeat (first | (with_reducible first | apply gA | apply gB | apply gC | apply gD | apply gE | apply gF | apply gG | apply gH | apply gI | apply gJ | apply gK | apply gL | apply gM | apply gN | apply gO | apply gP | apply gQ | apply gR) | ((with_reducible first | apply gT | apply gS2); first | exact rfl | assumption | omega | exact ⟨⟩) | ((with_reducible first | apply gL0 | apply gL1 | apply gL2 | apply gL3 | apply gL4); assumption)))
        refine t_cond (fun _ => ?_) (fun e => by cases e)
        (repeat (first | (with_reducible first | apply gA | apply gB | apply gC | apply gD | apply gE | apply gF | apply gG | apply gH | apply gI | apply gJ | apply gK | apply gL | apply gM | apply gN | apply gO | apply gP | apply gQ | apply gR) | ((with_reducible first | apply gT | apply gS2); first | exact rfl | assumption | omega | exact ⟨⟩) | ((with_reducible first | apply gL0 | apply gL1 | apply gL2 | apply gL3 | apply gL4); assumption)))
        exact t_ret ⟨Mv.refl, k, rfl⟩
      · simp only [if_true]
        (repeat (first | (with_reducible first | apply gA | apply gB | apply gC | apply gD | apply gE | apply gF | apply gG | apply gH | apply gI | apply gJ | apply gK | apply gL | apply gM | apply gN | apply gO | apply gP | apply gQ | apply gR) | ((with_reducible first | apply gT | apply gS2); first | exact rfl | assumption | omega | exact ⟨⟩) | ((with_reducible first | apply gL0 | apply gL1 | apply gL2 | apply gL3 | apply gL4); assumption)))
        refine t_cond (fun e => by cases e) (fun _ => ?_)
        exact t_again ⟨rfl, rfl⟩
    · (repeat (first | (with_reducible first | apply gA | apply gB | apply gC | apply gD | apply gE | apply gF | apply gG | apply gH | apply gI | apply gJ | apply gK | apply gL | apply gM | apply gN | apply gO | apply gP | apply gQ | apply gR) | ((with_reducible first | apply gT | apply gS2); first | exact rfl | assumption | omega | exact ⟨⟩) | ((with_reducible first | apply gL0 | apply gL1 | apply gL2 | apply gL3 | apply gL4); assumption)))
      refine t_lookup und111 inf30 ⟨c, hm⟩ hkey' hkey (fun e he hk => ?_) fun hno => ?_
      · rw [found e he hk]
        simp only [if_true]
        (repeat (first | (with_reducible first | apply gA | apply gB | apply gC | apply gD | apply gE | apply gF | apply gG | apply gH | apply gI | apply gJ | apply gK | apply gL | apply gM | apply gN | apply gO | apply gP | apply gQ | apply gR) | ((with_reducible first | apply gT | apply gS2); first | exact rfl | assumption | omega | exact ⟨⟩) | ((with_reducible first | apply gL0 | apply gL1 | apply gL2 | apply gL3 | apply gL4); assumption)))
        refine t_cond (fun _ => ?_) (fun e => by cases e)
        (repeat (first | (with_reducible first | apply gA | apply gB | apply gC | apply gD | apply gE | apply gF | apply gG | apply gH | apply gI | apply gJ | apply gK | apply gL | apply gM | apply gN | apply gO | apply gP | apply gQ | apply gR) | ((with_reducible first | apply gT | apply gS2); first | exact rfl | assumption | omega | exact ⟨⟩) | ((with_reducible first | apply gL0 | apply gL1 | apply gL2 | apply gL3 | apply gL4); assumption)))
        exact t_ret ⟨Mv.refl, k, rfl⟩
      · simp only [if_true]
        (repeat (first | (with_reducible first | apply gA | apply gB | apply gC | apply gD | apply gE | apply gF | apply gG | apply gH | apply gI | apply gJ | apply gK | apply gL | apply gM | apply gN | apply gO | apply gP | apply gQ | apply gR) | ((with_reducible first | apply gT | apply gS2); first | exact rfl | assumption | omega | exact ⟨⟩) | ((with_reducible first | apply gL0 | apply gL1 | apply gL2 | apply gL3 | apply gL4); assumption)))
        refine t_cond (fun e => by cases e) (fun _ => ?_)
        exact t_again ⟨rfl, rfl⟩
  · rintro vs _ ⟨rfl, rfl⟩
    (repeat (first | (with_reducible first | apply gA | apply gB | apply gC | apply gD | apply gE | apply gF | apply gG | apply gH | apply gI | apply gJ | apply gK | apply gL | apply gM | apply gN | apply gO | apply gP | apply gQ | apply gR) | ((with_reducible first | apply gT | apply gS2); first | exact rfl | assumption | omega | exact ⟨⟩) | ((with_reducible first | apply gL0 | apply gL1 | apply gL2 | apply gL3 | apply gL4); assumption)))
    refine t_loop (fun mm vs h' => h = h' ∧ ∃ (x : Nat) (n : Int), vs = [.int .i64 (u.idle - n), .int .i64 x, .int .i64 day] ∧ x ≤ 2000 ∧ 0 ≤ n ∧ n < u.idle ∧ x = mm ∧ firstDay (counts u) u.idle day.toNat 0 = firstDay (counts u) u.idle x n)
      ⟨rfl, day.toNat, 0, by simp; omega, by omega, by omega, by omega, rfl, rfl⟩ ?_
    rintro Y mm vs _ hY ⟨rfl, x, n, rfl, hx, hn0, hn1, rfl, hc⟩
    have fin : ∀ (w : Int), w = (window u day).first → ∀ {K : Value → T} {Q : Leaf → LH → Prop}, (∀ h', Mv m h h' → Desk h'.get d m f u → (K undef).wp X0 Tryd.prog Q h') → (T.sem false (Sem.bind (Instr.mapUpdate 124 (.map (some m)) (.agg #[.int .i64 day, .int .i64 u.idle]) (.agg #[.int .i64 w, .int .i64 day])) fun _ => pure (.tuple #[])) K).wp X0 Tryd.prog Q h := by
      intro w hw K Q hK
      refine t_mapUpdate und111 ⟨c, hm⟩ hkey' hkey fun es' c' h1 _ _ => hK _ Mv.updMap (Desk.updMap k fun e he => ?_).2
      rcases h1 e he with ⟨h1, h2⟩ | h1
      · exact ⟨day, h1, by rw [h2, hw]⟩
      · exact hes e h1
    (repeat (first | (with_reducible first | apply gA | apply gB | apply gC | apply gD | apply gE | apply gF | apply gG | apply gH | apply gI | apply gJ | apply gK | apply gL | apply gM | apply gN | apply gO | apply gP | apply gQ | apply gR) | ((with_reducible first | apply gT | apply gS2); first | exact rfl | assumption | omega | exact ⟨⟩) | ((with_reducible first | apply gL0 | apply gL1 | apply gL2 | apply gL3 | apply gL4); assumption)))
    refine t_if (fun e1 => ?_) (fun e1 => ?_)
    · have hcell : h.get.cell? ((Addr.add ⟨d, 0, none⟩ 7).add ((x : Int).toNat * 1)) = some (.bool (counts u x)) := by
        have h7 : 0 + 7 + (x : Int).toNat * 1 = 7 + x := by omega
        rw [add_plain, add_plain, h7]; exact k.counts x (by omega)
      obtain ⟨y, rfl⟩ : ∃ y, x = y + 1 := ⟨x - 1, by omega⟩
      (repeat (first | (with_reducible first | apply gA | apply gB | apply gC | apply gD | apply gE | apply gF | apply gG | apply gH | apply gI | apply gJ | apply gK | apply gL | apply gM | apply gN | apply gO | apply gP | apply gQ | apply gR) | ((with_reducible first | apply gT | apply gS2); first | exact rfl | assumption | omega | exact ⟨⟩) | ((with_reducible first | apply gL0 | apply gL1 | apply gL2 | apply gL3 | apply gL4); assumption)))
      rw [firstDay] at hc
      refine t_cond (fun e2 => ?_) (fun e2 => ?_)
      · have hin : (if counts u ((y + 1 : Nat) : Int) = true then n + 1 else n) = n + 1 := if_pos e2
        simp only [hin] at hc
        rw [wrap_id (by omega) (by omega)]
        refine t_cond (fun e3 => ?_) (fun e3 => ?_)
        · (repeat (first | (with_reducible first | apply gA | apply gB | apply gC | apply gD | apply gE | apply gF | apply gG | apply gH | apply gI | apply gJ | apply gK | apply gL | apply gM | apply gN | apply gO | apply gP | apply gQ | apply gR) | ((with_reducible first | apply gT | apply gS2); first | exact rfl | assumption | omega | exact ⟨⟩) | ((with_reducible first | apply gL0 | apply gL1 | apply gL2 | apply gL3 | apply gL4); assumption)))
          have e3' : u.idle - n - 1 = 0 := by simpa using e3
          rw [if_pos (by omega)] at hc
          refine fin _ (by rw [window]; exact hc.symm) fun h' hv hk => ?_
          exact t_ret ⟨hv, hk, by rw [window, hc]⟩
        · have e3' : u.idle - n - 1 ≠ 0 := by simpa using e3
          rw [if_neg (by omega)] at hc
          refine t_again (hY y _ _ (by omega) ⟨rfl, y, n + 1, ?_, by omega, by omega, by omega, rfl, hc⟩)
          have a1 : u.idle - n - 1 = u.idle - (n + 1) := by omega
          have a2 : ((y + 1 : Nat) : Int) - 1 = (y : Int) := by omega
          rw [wrap_id (by omega) (by omega), a1, a2]
      · have hin : (if counts u ((y + 1 : Nat) : Int) = true then n + 1 else n) = n := if_neg (by rw [e2]; simp)
        simp only [hin] at hc
        refine t_cond (fun e3 => ?_) (fun e3 => ?_)
        · exfalso
          have e3' : u.idle - n = 0 := by simpa using e3
          omega
        · rw [if_neg (by omega)] at hc
          refine t_again (hY y _ _ (by omega) ⟨rfl, y, n, ?_, by omega, by omega, by omega, rfl, hc⟩)
          have a2 : ((y + 1 : Nat) : Int) - 1 = (y : Int) := by omega
          rw [wrap_id (by omega) (by omega), a2]
    · (repeat (first | (with_reducible first | apply gA | apply gB | apply gC | apply gD | apply gE | apply gF | apply gG | apply gH | apply gI | apply gJ | apply gK | apply gL | apply gM | apply gN | apply gO | apply gP | apply gQ | apply gR) | ((with_reducible first | apply gT | apply gS2); first | exact rfl | assumption | omega | exact ⟨⟩) | ((with_reducible first | apply gL0 | apply gL1 | apply gL2 | apply gL3 | apply gL4); assumption)))
      obtain rfl : x = 0 := by omega
      rw [firstDay] at hc
      refine fin _ (by rw [window]; exact hc.symm) fun h' hv hk => ?_
      exact t_ret ⟨hv, hk, by rw [window, hc]; rfl⟩
end Go.Proofs.YtopkdkedjkidhaaDoor
end
section
namespace Go.Proofs.YtopkdkedjkidhaaDoor
open Go Go.TM Go.Proofs
attribute [local irreducible] T.wp CV FWK
def AskSl (h : LH) (p : Option Addr) (n : Nat) (u : UseFile) (l : List Int) : Prop :=
  n = l.length ∧ l.length < 4611686018427387904 ∧ ∀ i g, l[i]? = some g → ∃ a v, p = some a ∧ h.get.cell? (a.add (i * 1)) = some v ∧ Asks v h u g
noncomputable def deskOf (f : FileC) (u : UseFile) (m : Nat) : Array Value := match buildV Tryd.prog 127 [(0, fileV f u), (2, .map (some m))] with
  | some (.agg cs) => cs
  | _ => #[]
set_option maxRecDepth 100000 in
theorem deskOf_build (f : FileC) (u : UseFile) (m : Nat) : buildV Tryd.prog 127 [(0, fileV f u), (2, .map (some m))] = some (.agg (deskOf f u m)) := by kernel_rfl
theorem deskOf_size (f : FileC) (u : UseFile) (m : Nat) : (deskOf f u m).size = 2009 := by kernel_rfl
theorem deskOf_0 (f : FileC) (u : UseFile) (m : Nat) : (deskOf f u m)[0]? = some (.int .i64 u.items) := by kernel_rfl
theorem deskOf_1 (f : FileC) (u : UseFile) (m : Nat) : (deskOf f u m)[1]? = some (.int .i64 u.lands) := by kernel_rfl
theorem deskOf_2 (f : FileC) (u : UseFile) (m : Nat) : (deskOf f u m)[2]? = some (.int .i64 u.from_) := by kernel_rfl
theorem deskOf_3 (f : FileC) (u : UseFile) (m : Nat) : (deskOf f u m)[3]? = some (.int .i64 u.idle) := by kernel_rfl
theorem deskOf_4 (f : FileC) (u : UseFile) (m : Nat) : (deskOf f u m)[4]? = some (.slice f.p4 f.n4 f.c4) := by kernel_rfl
theorem deskOf_5 (f : FileC) (u : UseFile) (m : Nat) : (deskOf f u m)[5]? = some (.slice f.p5 f.n5 f.c5) := by kernel_rfl
theorem deskOf_6 (f : FileC) (u : UseFile) (m : Nat) : (deskOf f u m)[6]? = some (.slice f.p6 f.n6 f.c6) := by kernel_rfl
theorem deskOf_m (f : FileC) (u : UseFile) (m : Nat) : (deskOf f u m)[2008]? = some (.map (some m)) := by kernel_rfl
attribute [irreducible] deskOf
def openF (u : UseFile) (l : List Int) : Int := if checkF u ≠ 0 then checkF u else firstF (fun _ x => x) 0 l
def Opened (h h' : LH) (f : FileC) (u : UseFile) (g : Int) (r : Value) : Prop :=
  h.le h' ∧ ((g ≠ 0 ∧ r = .tuple #[.pointer none, .int .i64 g]) ∨ (g = 0 ∧ ∃ d m, r = .tuple #[.pointer (some ⟨d, 0, none⟩), .int .i64 0] ∧ h.get d = none ∧ h.get m = none ∧ Desk h'.get d m f u))
theorem setCell_upd {h : Cells} {r i : Nat} {m : Bool} {cs : Array Value} {el : TypeId} {v : Value} (hr : h r = some (m, .cells cs el (0, 0))) : h.setCell ⟨r, i, none⟩ v = h.upd r (m, .cells (cs.setIfInBounds i v) el (0, 0)) := by
  funext b
  unfold Cells.setCell Cells.upd
  by_cases e : b = r
  · subst e; simp [hr]
  · simp [e]
theorem frozen_plain {h : Cells} {r i : Nat} {m : Bool} {cs : Array Value} {el : TypeId} (hr : h r = some (m, .cells cs el (0, 0))) : h.frozen? ⟨r, i, none⟩ = false := by
  simp [Cells.frozen?, hr]
theorem c53 {h : LH} {f : FileC} {u : UseFile} {p : Option Addr} {n c : Nat} {l : List Int} (hp : Parts h.get) (hu : FileR h.get f u) (hw : AskSl h p n u l) :
    FW X0 Tryd.prog 44 #[fileV f u, .slice p n c] h fun r h' => Opened h h' f u (openF u l) r := by
  refine w53 _ _ _ _ _ _ _ _ _ _ _ _ _ _ _ _ X0_ok ?_
  unfold n53
  refine t_gr (c26 hp hu) ?_
  rintro _ h₁ le1 rfl
  (repeat (first | (with_reducible first | apply gA | apply gB | apply gC | apply gD | apply gE | apply gF | apply gG | apply gH | apply gI | apply gJ | apply gK | apply gL | apply gM | apply gN | apply gO | apply gP | apply gQ | apply gR) | ((with_reducible first | apply gT | apply gS2); first | exact rfl | assumption | omega | exact ⟨⟩) | ((with_reducible first | apply gL0 | apply gL1 | apply gL2 | apply gL3 | apply gL4); assumption)))
  refine t_cond (fun e0 => ?_) (fun e0 => ?_)
  · have e0' : checkF u ≠ 0 := by simpa using e0
    refine t_ret ⟨le1, .inl ⟨?_, ?_⟩⟩
    · rw [openF, if_pos e0']; exact e0'
    · rw [openF, if_pos e0']
  have e0' : checkF u = 0 := by simpa using e0
  have hn0 := check_num e0'
  have ho : openF u l = firstF (fun _ x => x) 0 l := by rw [openF, if_neg (by simp [e0'])]
  have hn := hw.1
  have hb := hw.2.1
  refine t_loop (fun mm vs h' => h.le h' ∧ ∃ i : Nat, vs = [.pointer none, .int .i64 0, .int .i64 i] ∧ i ≤ n ∧ mm = n - i ∧ openF u l = firstF (fun _ x => x) i (l.drop i)) ⟨le1, 0, rfl, Nat.zero_le _, rfl, ho⟩ ?_
  rintro Y mm vs h₂ hY ⟨hle, i, rfl, hi, rfl, hc⟩
  (repeat (first | (with_reducible first | apply gA | apply gB | apply gC | apply gD | apply gE | apply gF | apply gG | apply gH | apply gI | apply gJ | apply gK | apply gL | apply gM | apply gN | apply gO | apply gP | apply gQ | apply gR) | ((with_reducible first | apply gT | apply gS2); first | exact rfl | assumption | omega | exact ⟨⟩) | ((with_reducible first | apply gL0 | apply gL1 | apply gL2 | apply gL3 | apply gL4); assumption)))
  refine t_if (fun e1 => ?_) (fun e1 => ?_)
  · obtain ⟨g, hg⟩ : ∃ g, l[i]? = some g := ⟨l[i]'(by omega), List.getElem?_eq_getElem (by omega)⟩
    obtain ⟨a, v, ha, hv, hask⟩ := hw.2.2 i g hg
    have hv2 := Cells.cell?_le hle.1 hv
    refine gT (by omega) (gS2 ha (t_loadV hv2 ?_))
    refine t_callv (hask hn0 f h₂ hle (hu.le hle.1)) ?_
    rintro _ h₃ ⟨le3, rfl⟩
    (repeat (first | (with_reducible first | apply gA | apply gB | apply gC | apply gD | apply gE | apply gF | apply gG | apply gH | apply gI | apply gJ | apply gK | apply gL | apply gM | apply gN | apply gO | apply gP | apply gQ | apply gR) | ((with_reducible first | apply gT | apply gS2); first | exact rfl | assumption | omega | exact ⟨⟩) | ((with_reducible first | apply gL0 | apply gL1 | apply gL2 | apply gL3 | apply gL4); assumption)))
    rw [drop_of hg, firstF] at hc
    refine t_cond (fun e2 => ?_) (fun e2 => ?_)
    · have e2' : g ≠ 0 := by simpa using e2
      (repeat (first | (with_reducible first | apply gA | apply gB | apply gC | apply gD | apply gE | apply gF | apply gG | apply gH | apply gI | apply gJ | apply gK | apply gL | apply gM | apply gN | apply gO | apply gP | apply gQ | apply gR) | ((with_reducible first | apply gT | apply gS2); first | exact rfl | assumption | omega | exact ⟨⟩) | ((with_reducible first | apply gL0 | apply gL1 | apply gL2 | apply gL3 | apply gL4); assumption)))
      rw [if_pos e2'] at hc
      exact t_ret ⟨LH.le_trans hle le3, .inl ⟨by rw [hc]; exact e2', by rw [hc]⟩⟩
    · have e2' : g = 0 := by simpa using e2
      rw [if_neg (by simp [e2'])] at hc
      refine t_again (hY (n - (i + 1)) _ _ (by omega) ⟨LH.le_trans hle le3, i + 1, ?_, by omega, rfl, hc⟩)
      rw [wrap_id (by omega) (by omega)]; rfl
  · (repeat (first | (with_reducible first | apply gA | apply gB | apply gC | apply gD | apply gE | apply gF | apply gG | apply gH | apply gI | apply gJ | apply gK | apply gL | apply gM | apply gN | apply gO | apply gP | apply gQ | apply gR) | ((with_reducible first | apply gT | apply gS2); first | exact rfl | assumption | omega | exact ⟨⟩) | ((with_reducible first | apply gL0 | apply gL1 | apply gL2 | apply gL3 | apply gL4); assumption)))
    rw [List.drop_eq_nil_of_le (by omega), firstF] at hc
    refine t_makeMap fun m hm => ?_
    (repeat (first | (with_reducible first | apply gA | apply gB | apply gC | apply gD | apply gE | apply gF | apply gG | apply gH | apply gI | apply gJ | apply gK | apply gL | apply gM | apply gN | apply gO | apply gP | apply gQ | apply gR) | ((with_reducible first | apply gT | apply gS2); first | exact rfl | assumption | omega | exact ⟨⟩) | ((with_reducible first | apply gL0 | apply gL1 | apply gL2 | apply gL3 | apply gL4); assumption)))
    have le4 : h₂.le _ := LH.upd_le (x := (true, .map #[] 0)) hm
    refine t_struct (deskOf_build f u m) ?_
    refine t_new fun d hd => ?_
    have le5 : LH.le _ _ := LH.upd_le (x := (true, .cells (deskOf f u m) 127 (0, 0))) hd
    have hdm : d ≠ m := by
      rintro rfl
      change Cells.upd _ _ _ d = none at hd
      rw [Cells.upd_self] at hd; cases hd
    have hd0 : h.get d = none := by
      cases hx : h.get d with
      | none => rfl
      | some x => rw [(LH.le_trans hle le4).1 _ _ hx] at hd; cases hd
    have hm0 : h.get m = none := by
      cases hx : h.get m with
      | none => rfl
      | some x => rw [hle.1 _ _ hx] at hm; cases hm
    refine t_loop (fun mm vs h' => ∃ (i : Nat) (cs : Array Value), vs = [.int .i64 i] ∧ i ≤ 2001 ∧ mm = 2001 - i ∧ h₂.le h' ∧ h'.get m = some (true, .map #[] 0) ∧ h'.get d = some (true, .cells cs 127 (0, 0)) ∧ cs.size = 2009 ∧ (∀ j, j < 7 ∨ j = 2008 → cs[j]? = (deskOf f u m)[j]?) ∧ ∀ j : Nat, j < i → cs[7 + j]? = some (.bool (counts u j)))
      (n := 2001) ⟨0, deskOf f u m, rfl, by omega, by omega, LH.le_trans le4 le5, ?_, Cells.upd_self _ _ _, deskOf_size _ _ _, fun _ _ => rfl, fun j hj => by omega⟩ ?_
    · show Cells.upd _ _ _ m = _
      rw [Cells.upd_ne _ _ (Ne.symm hdm)]; exact Cells.upd_self _ _ _
    rintro Y2 mm2 vs2 h₆ hY2 ⟨j, cs, rfl, hj, rfl, le6, hm6, hd6, hsz, hfix, hcnt⟩
    (repeat (first | (with_reducible first | apply gA | apply gB | apply gC | apply gD | apply gE | apply gF | apply gG | apply gH | apply gI | apply gJ | apply gK | apply gL | apply gM | apply gN | apply gO | apply gP | apply gQ | apply gR) | ((with_reducible first | apply gT | apply gS2); first | exact rfl | assumption | omega | exact ⟨⟩) | ((with_reducible first | apply gL0 | apply gL1 | apply gL2 | apply gL3 | apply gL4); assumption)))
    refine t_if (fun e5 => ?_) (fun e5 => ?_)
    · refine t_new fun r1 hr1 => ?_
      have hr1d : r1 ≠ d := by rintro rfl; rw [hd6] at hr1; cases hr1
      have hr1m : r1 ≠ m := by rintro rfl; rw [hm6] at hr1; cases hr1
      have le7 : h₆.le _ := LH.upd_le (x := (true, .cells #[.int .i64 0] 3 (0, 0))) hr1
      have own1 : (h₆.get.upd r1 (true, .cells #[.int .i64 0] 3 (0, 0))) r1 = some (true, .cells #[.int .i64 0] 3 (0, 0)) := Cells.upd_self _ _ _
      refine t_store rfl ⟨_, own1⟩ (v₀ := .int .i64 0) (by show Cells.cell? _ _ = _; exact cell_upd rfl) (frozen_plain (i := 0) own1) ?_
      have hset : (h₆.get.upd r1 (true, .cells #[.int .i64 0] 3 (0, 0))).setCell ⟨r1, 0, none⟩ (.int .i64 j) = h₆.get.upd r1 (true, .cells #[.int .i64 j] 3 (0, 0)) := by
        rw [setCell_upd own1]
        funext b; unfold Cells.upd; by_cases e : b = r1 <;> simp [e]
      have hset' : (h₆.get.upd r1 (true, .cells #[.int .i64 0] 3 (0, 0))).setCell (Addr.add ⟨r1, 0, none⟩ 0) (.int .i64 j) = h₆.get.upd r1 (true, .cells #[.int .i64 j] 3 (0, 0)) := hset
      simp only [hset']
      have le8 : h₆.le { h₆ with get := h₆.get.upd r1 (true, .cells #[.int .i64 j] 3 (0, 0)) } := LH.upd_le hr1
      have hz : Cells.cell? (h₆.get.upd r1 (true, .cells #[.int .i64 j] 3 (0, 0))) ⟨r1, 0, none⟩ = some (.int .i64 j) := cell_upd rfl
      refine gL0 hz ?_
      refine gS2 rfl ?_
      refine t_gr (c79 (g := fun x => isIn j x.first x.last) (hu.le (LH.le_trans (LH.le_trans hle le6) le8).1).excuses fun x h' hl' => cv_fw X0_ok (by rfl) (pu_gr (c80 (Cells.cell?_le hl'.1 hz) _ _))) ?_
      rintro _ h₉ le9 rfl
      have hz9 := Cells.cell?_le le9.1 hz
      have hd9 := (LH.le_trans le8 le9).1 _ _ hd6
      (repeat (first | (with_reducible first | apply gA | apply gB | apply gC | apply gD | apply gE | apply gF | apply gG | apply gH | apply gI | apply gJ | apply gK | apply gL | apply gM | apply gN | apply gO | apply gP | apply gQ | apply gR) | ((with_reducible first | apply gT | apply gS2); first | exact rfl | assumption | omega | exact ⟨⟩) | ((with_reducible first | apply gL0 | apply gL1 | apply gL2 | apply gL3 | apply gL4); assumption)))
      have hcl : h₉.get.cell? ⟨d, 7 + j, none⟩ = some (cs[7 + j]'(by omega)) := by
        simp only [Cells.cell?, hd9]
        simp [show 7 + j < cs.size by omega]
      have ha7 : Addr.add (Addr.add (Addr.add ⟨d, 0, none⟩ 7) ((j : Int).toNat * 1)) 0 = ⟨d, 7 + j, none⟩ := by
        have h7 : 0 + 7 + (j : Int).toNat * 1 + 0 = 7 + j := by omega
        rw [add_plain, add_plain, add_plain, h7]
      refine t_store rfl ?_ (v₀ := cs[7 + j]'(by omega)) ?_ ?_ ?_
      · rw [ha7]; exact ⟨_, hd9⟩
      · rw [ha7]; exact hcl
      · rw [ha7]; exact frozen_plain hd9
      rw [ha7, setCell_upd hd9]
      (repeat (first | (with_reducible first | apply gA | apply gB | apply gC | apply gD | apply gE | apply gF | apply gG | apply gH | apply gI | apply gJ | apply gK | apply gL | apply gM | apply gN | apply gO | apply gP | apply gQ | apply gR) | ((with_reducible first | apply gT | apply gS2); first | exact rfl | assumption | omega | exact ⟨⟩) | ((with_reducible first | apply gL0 | apply gL1 | apply gL2 | apply gL3 | apply gL4); assumption)))
      refine t_again (hY2 (2001 - (j + 1)) _ _ (by omega) ⟨j + 1, _, ?_, by omega, rfl, ?_, ?_, Cells.upd_self _ _ _, by rw [Array.size_setIfInBounds]; exact hsz, ?_, ?_⟩)
      · rw [wrap_id (by omega) (by omega)]; rfl
      · have := LH.le_trans (LH.le_trans le6 le8) le9
        refine ⟨fun b x hb => ?_, this.2⟩
        have hbd : b ≠ d := by
          rintro rfl
          rw [le4.1 _ _ hb] at hd; cases hd
        show Cells.upd _ _ _ b = _
        rw [Cells.upd_ne _ _ hbd]; exact this.1 _ _ hb
      · show Cells.upd _ _ _ m = _
        rw [Cells.upd_ne _ _ (Ne.symm hdm)]; exact (LH.le_trans le8 le9).1 _ _ hm6
      · intro i hi
        rw [Array.getElem?_setIfInBounds_ne (by omega)]; exact hfix i hi
      · intro i hi
        by_cases e : i = j
        · subst e
          rw [Array.getElem?_setIfInBounds_self, if_pos (by omega)]
          congr 2
          simp only [counts, List.not_any_eq_all_not]
        · rw [Array.getElem?_setIfInBounds_ne (by omega)]; exact hcnt i (by omega)
    · (repeat (first | (with_reducible first | apply gA | apply gB | apply gC | apply gD | apply gE | apply gF | apply gG | apply gH | apply gI | apply gJ | apply gK | apply gL | apply gM | apply gN | apply gO | apply gP | apply gQ | apply gR) | ((with_reducible first | apply gT | apply gS2); first | exact rfl | assumption | omega | exact ⟨⟩) | ((with_reducible first | apply gL0 | apply gL1 | apply gL2 | apply gL3 | apply gL4); assumption)))
      have hcell : ∀ i v, cs[i]? = some v → h₆.get.cell? (Addr.add ⟨d, 0, none⟩ i) = some v := by
        intro i v hv
        rw [add_plain, Nat.zero_add]
        simp only [Cells.cell?, hd6]
        simpa using hv
      have hcell' : ∀ i v, cs[i]? = some v → h₆.get.cell? ⟨d, i, none⟩ = some v := by
        intro i v hv
        simp only [Cells.cell?, hd6]
        simpa using hv
      refine t_ret ⟨LH.le_trans hle le6, .inr ⟨hc, d, m, rfl, hd0, hm0, ?_, hu.le (LH.le_trans hle le6).1, ?_, ?_, ?_⟩⟩
      · exact ⟨hcell _ _ ((hfix 0 (by omega)).trans (deskOf_0 _ _ _)), hcell _ _ ((hfix 1 (by omega)).trans (deskOf_1 _ _ _)), hcell _ _ ((hfix 2 (by omega)).trans (deskOf_2 _ _ _)), hcell _ _ ((hfix 3 (by omega)).trans (deskOf_3 _ _ _)),
          hcell _ _ ((hfix 4 (by omega)).trans (deskOf_4 _ _ _)), hcell _ _ ((hfix 5 (by omega)).trans (deskOf_5 _ _ _)), hcell _ _ ((hfix 6 (by omega)).trans (deskOf_6 _ _ _))⟩
      · intro i hi
        exact hcell' _ _ (hcnt i (by omega))
      · exact hcell' _ _ ((hfix 2008 (.inr rfl)).trans (deskOf_m _ _ _))
      · exact ⟨_, _, hm6, fun e he => by simp at he⟩
end Go.Proofs.YtopkdkedjkidhaaDoor
end
section
namespace Go.Proofs.YtopkdkedjkidhaaDoor
open Go Go.TM Go.Proofs
attribute [local irreducible] T.wp CV FWK
theorem Mv.le_of {m : Nat} {h h₁ h' : LH} (hle : h.le h₁) (hm : h.get m = none) (mv : Mv m h₁ h') : h.le h' := by
  refine ⟨fun r x hr => mv.keep r x ?_ (hle.1 r x hr), mv.same.1.trans hle.2.1, mv.same.2.1.trans hle.2.2.1, mv.same.2.2.trans hle.2.2.2⟩
  rintro rfl; rw [hm] at hr; cases hr
theorem asks1 {h : LH} {X : XP} {Q : Leaf → LH → Prop} {k : Value → T} {u : UseFile} {v0 : Value} {g0 : Int} (q0 : ∃ fn a b, v0 = Value.func fn a b) (a0 : Asks v0 h u g0) (hk : ∀ r h', h.le h' → AskSl h' (some ⟨r, 0, none⟩) 1 u [g0] → (k (.slice (some ⟨r, 0, none⟩) 1 1)).wp X Tryd.prog Q h') : (T.sem false (Instr.buildSlice 123 1 #[(0, v0)]) k).wp X Tryd.prog Q h := by
  obtain ⟨fn0, x0, y0, rfl⟩ := q0
  refine t_build und110 inf87 (by decide) (by decide) (cells := #[.func fn0 x0 y0]) (by kernel_rfl) fun r hr => ?_
  have le1 : h.le _ := LH.upd_le (x := (true, .cells #[.func fn0 x0 y0] 89 (0, 0))) hr
  refine hk r _ le1 ⟨rfl, by show 1 < _; omega, ?_⟩
  intro i g hg
  have hc : ∀ i v, (#[.func fn0 x0 y0] : Array Value)[i]? = some v → Cells.cell? (h.get.upd r (true, .cells #[.func fn0 x0 y0] 89 (0, 0))) (Addr.add ⟨r, 0, none⟩ (i * 1)) = some v := by
    intro i v hv
    rw [add_plain, Nat.zero_add, Nat.mul_one]
    exact cell_upd hv
  match i, hg with
  | 0, hg => simp at hg; subst hg; exact ⟨_, _, rfl, hc 0 _ rfl, a0.le le1⟩
  | i + 1, hg => simp at hg
theorem asks2 {h : LH} {X : XP} {Q : Leaf → LH → Prop} {k : Value → T} {u : UseFile} {v0 v1 : Value} {g0 g1 : Int} (q0 : ∃ fn a b, v0 = Value.func fn a b) (a0 : Asks v0 h u g0) (q1 : ∃ fn a b, v1 = Value.func fn a b) (a1 : Asks v1 h u g1) (hk : ∀ r h', h.le h' → AskSl h' (some ⟨r, 0, none⟩) 2 u [g0, g1] → (k (.slice (some ⟨r, 0, none⟩) 2 2)).wp X Tryd.prog Q h') : (T.sem false (Instr.buildSlice 123 2 #[(0, v0), (1, v1)]) k).wp X Tryd.prog Q h := by
  obtain ⟨fn0, x0, y0, rfl⟩ := q0
  obtain ⟨fn1, x1, y1, rfl⟩ := q1
  refine t_build und110 inf87 (by decide) (by decide) (cells := #[.func fn0 x0 y0, .func fn1 x1 y1]) (by kernel_rfl) fun r hr => ?_
  have le1 : h.le _ := LH.upd_le (x := (true, .cells #[.func fn0 x0 y0, .func fn1 x1 y1] 89 (0, 0))) hr
  refine hk r _ le1 ⟨rfl, by show 2 < _; omega, ?_⟩
  intro i g hg
  have hc : ∀ i v, (#[.func fn0 x0 y0, .func fn1 x1 y1] : Array Value)[i]? = some v → Cells.cell? (h.get.upd r (true, .cells #[.func fn0 x0 y0, .func fn1 x1 y1] 89 (0, 0))) (Addr.add ⟨r, 0, none⟩ (i * 1)) = some v := by
    intro i v hv
    rw [add_plain, Nat.zero_add, Nat.mul_one]
    exact cell_upd hv
  match i, hg with
  | 0, hg => simp at hg; subst hg; exact ⟨_, _, rfl, hc 0 _ rfl, a0.le le1⟩
  | 1, hg => simp at hg; subst hg; exact ⟨_, _, rfl, hc 1 _ rfl, a1.le le1⟩
  | i + 2, hg => simp at hg
theorem asks3 {h : LH} {X : XP} {Q : Leaf → LH → Prop} {k : Value → T} {u : UseFile} {v0 v1 v2 : Value} {g0 g1 g2 : Int} (q0 : ∃ fn a b, v0 = Value.func fn a b) (a0 : Asks v0 h u g0) (q1 : ∃ fn a b, v1 = Value.func fn a b) (a1 : Asks v1 h u g1) (q2 : ∃ fn a b, v2 = Value.func fn a b) (a2 : Asks v2 h u g2) (hk : ∀ r h', h.le h' → AskSl h' (some ⟨r, 0, none⟩) 3 u [g0, g1, g2] → (k (.slice (some ⟨r, 0, none⟩) 3 3)).wp X Tryd.prog Q h') : (T.sem false (Instr.buildSlice 123 3 #[(0, v0), (1, v1), (2, v2)]) k).wp X Tryd.prog Q h := by
  obtain ⟨fn0, x0, y0, rfl⟩ := q0
  obtain ⟨fn1, x1, y1, rfl⟩ := q1
  obtain ⟨fn2, x2, y2, rfl⟩ := q2
  refine t_build und110 inf87 (by decide) (by decide) (cells := #[.func fn0 x0 y0, .func fn1 x1 y1, .func fn2 x2 y2]) (by kernel_rfl) fun r hr => ?_
  have le1 : h.le _ := LH.upd_le (x := (true, .cells #[.func fn0 x0 y0, .func fn1 x1 y1, .func fn2 x2 y2] 89 (0, 0))) hr
  refine hk r _ le1 ⟨rfl, by show 3 < _; omega, ?_⟩
  intro i g hg
  have hc : ∀ i v, (#[.func fn0 x0 y0, .func fn1 x1 y1, .func fn2 x2 y2] : Array Value)[i]? = some v → Cells.cell? (h.get.upd r (true, .cells #[.func fn0 x0 y0, .func fn1 x1 y1, .func fn2 x2 y2] 89 (0, 0))) (Addr.add ⟨r, 0, none⟩ (i * 1)) = some v := by
    intro i v hv
    rw [add_plain, Nat.zero_add, Nat.mul_one]
    exact cell_upd hv
  match i, hg with
  | 0, hg => simp at hg; subst hg; exact ⟨_, _, rfl, hc 0 _ rfl, a0.le le1⟩
  | 1, hg => simp at hg; subst hg; exact ⟨_, _, rfl, hc 1 _ rfl, a1.le le1⟩
  | 2, hg => simp at hg; subst hg; exact ⟨_, _, rfl, hc 2 _ rfl, a2.le le1⟩
  | i + 3, hg => simp at hg
theorem open_num {u : UseFile} {l : List Int} (h : openF u l = 0) : numbersF u = 0 ∧ checkF u = 0 := by
  unfold openF at h
  split at h
  · rename_i h1; exact absurd h h1
  · rename_i h1
    have : checkF u = 0 := by simpa using h1
    exact ⟨check_num this, this⟩
theorem firstF_zero {l : List Int} : ∀ {i : Nat}, firstF (fun _ x => x) i l = 0 → ∀ x ∈ l, x = 0 := by
  induction l with
  | nil => intro i _ x hx; simp at hx
  | cons y l ih =>
    intro i h x hx
    unfold firstF at h
    split at h
    · rename_i h1; exact absurd h h1
    · rename_i h1
      have hy : y = 0 := by simpa using h1
      rcases List.mem_cons.1 hx with rfl | hx
      · exact hy
      · exact ih h x hx
theorem open_zero {u : UseFile} {l : List Int} (h : openF u l = 0) : ∀ x ∈ l, x = 0 := by
  have h0 := (open_num h).2
  unfold openF at h
  rw [if_neg (by simp [h0])] at h
  exact firstF_zero h
theorem dayQ_zero {d : Int} (h : dayQ d = 0) : 0 ≤ d ∧ d ≤ 2000 := by
  unfold dayQ at h
  split at h
  · rename_i h1; simpa [isDay, isIn] using h1
  · cases h
def windowR (u : UseFile) (day : Int) : Value := if openF u [dayQ day] ≠ 0 then .tuple #[.agg #[.int .i64 0, .int .i64 0], .int .i64 (openF u [dayQ day])] else .tuple #[.agg #[.int .i64 (window u day).first, .int .i64 day], .int .i64 0]
theorem c17 {h : LH} {f : FileC} {u : UseFile} (hp : Parts h.get) (hu : FileR h.get f u) (day : Int) : Gr Tryd.prog 12 #[fileV f u, .int .i64 day] h fun r _ => r = windowR u day := by
  refine w17 _ _ _ _ _ _ _ _ _ _ _ _ _ _ X0_ok ?_
  unfold n17
  refine t_gr (c54 u day) ?_
  rintro v h₁ le1 ⟨q, a⟩
  (repeat (first | (with_reducible first | apply gA | apply gB | apply gC | apply gD | apply gE | apply gF | apply gG | apply gH | apply gI | apply gJ | apply gK | apply gL | apply gM | apply gN | apply gO | apply gP | apply gQ | apply gR) | ((with_reducible first | apply gT | apply gS2); first | exact rfl | assumption | omega | exact ⟨⟩) | ((with_reducible first | apply gL0 | apply gL1 | apply gL2 | apply gL3 | apply gL4); assumption)))
  refine asks1 q a fun r h₂ le2 hs => ?_
  (repeat (first | (with_reducible first | apply gA | apply gB | apply gC | apply gD | apply gE | apply gF | apply gG | apply gH | apply gI | apply gJ | apply gK | apply gL | apply gM | apply gN | apply gO | apply gP | apply gQ | apply gR) | ((with_reducible first | apply gT | apply gS2); first | exact rfl | assumption | omega | exact ⟨⟩) | ((with_reducible first | apply gL0 | apply gL1 | apply gL2 | apply gL3 | apply gL4); assumption)))
  have le12 := LH.le_trans le1 le2
  refine t_call (c53 (f := f) (hp.le le12.1) (hu.le le12.1) hs) ?_
  rintro v h₃ ⟨le3, ⟨hne, rfl⟩ | ⟨h0, d, m, rfl, hd, hm, k⟩⟩
  · (repeat (first | (with_reducible first | apply gA | apply gB | apply gC | apply gD | apply gE | apply gF | apply gG | apply gH | apply gI | apply gJ | apply gK | apply gL | apply gM | apply gN | apply gO | apply gP | apply gQ | apply gR) | ((with_reducible first | apply gT | apply gS2); first | exact rfl | assumption | omega | exact ⟨⟩) | ((with_reducible first | apply gL0 | apply gL1 | apply gL2 | apply gL3 | apply gL4); assumption)))
    refine t_cond (fun _ => ?_) (fun e => absurd (by simpa using e) hne)
    refine t_ret ⟨LH.le_trans le12 le3, ?_⟩
    show _ = windowR u day
    rw [windowR, if_pos hne]
  · (repeat (first | (with_reducible first | apply gA | apply gB | apply gC | apply gD | apply gE | apply gF | apply gG | apply gH | apply gI | apply gJ | apply gK | apply gL | apply gM | apply gN | apply gO | apply gP | apply gQ | apply gR) | ((with_reducible first | apply gT | apply gS2); first | exact rfl | assumption | omega | exact ⟨⟩) | ((with_reducible first | apply gL0 | apply gL1 | apply gL2 | apply gL3 | apply gL4); assumption)))
    refine t_cond (fun e => by cases e) (fun _ => ?_)
    have hq := dayQ_zero (open_zero h0 _ (by simp; rfl))
    refine t_de (c55 k (num_ok (open_num h0).1).2.2.2 day hq) ?_
    rintro _ h₄ mv k4 rfl
    (repeat (first | (with_reducible first | apply gA | apply gB | apply gC | apply gD | apply gE | apply gF | apply gG | apply gH | apply gI | apply gJ | apply gK | apply gL | apply gM | apply gN | apply gO | apply gP | apply gQ | apply gR) | ((with_reducible first | apply gT | apply gS2); first | exact rfl | assumption | omega | exact ⟨⟩) | ((with_reducible first | apply gL0 | apply gL1 | apply gL2 | apply gL3 | apply gL4); assumption)))
    refine t_ret ⟨LH.le_trans le12 (Mv.le_of le3 hm mv), ?_⟩
    show _ = windowR u day
    rw [windowR, if_neg (by simpa using h0)]
end Go.Proofs.YtopkdkedjkidhaaDoor
end
section
namespace Go.Proofs.YtopkdkedjkidhaaDoor
open Go Go.TM Go.Proofs
set_option linter.unusedVariables false
set_option maxRecDepth 100000
noncomputable def n15 (u_0 : Int) (u_1 : Int) (u_2 : Int) (u_3 : Int) (u_4p : Option Addr) (u_4n u_4c : Nat) (u_5p : Option Addr) (u_5n u_5c : Nat) (u_6p : Option Addr) (u_6n u_6c : Nat) : T := .blk (bif decide ((↑u_4n : Int) > 20) then .leaf (.retn [.bool true]) else bif decide ((↑u_5n : Int) > 20) then .leaf (.retn [.bool true]) else bif decide ((↑u_6n : Int) > 20) then .leaf (.retn [.bool true]) else .leaf (.again [.bool false])) (fun vs => .popB vs fun b vs => .unNil vs (.loop [.bool b, .int .i64 0] (fun vs => .popB vs fun b vs => .popI .i64 vs fun n vs => .unNil vs (bif decide (n < (↑u_5n : Int)) then .need (0 ≤ n ∧ n < (↑u_5n : Int)) (.someA u_5p fun a => .loadS (Addr.add (Addr.add a (Int.toNat n * 4)) 3) fun p n_1 c => bif decide ((↑n_1 : Int) > 20) then .leaf (.retn [.bool true, .int .i64 n]) else .leaf (.again [.bool b, .int .i64 (IntKind.wrap .i64 (n + 1))])) else .leaf (.brk [.bool b, .int .i64 n]))) (fun vs => .popB vs fun b vs => .popI .i64 vs fun n vs => .unNil vs (.loop [.bool b, .int .i64 0] (fun vs => .popB vs fun b vs => .popI .i64 vs fun n vs => .unNil vs (bif decide (n < (↑u_6n : Int)) then .need (0 ≤ n ∧ n < (↑u_6n : Int)) (.someA u_6p fun a => .loadS (Addr.add (Addr.add a (Int.toNat n * 3)) 2) fun p n_1 c => bif decide ((↑n_1 : Int) > 20) then .leaf (.retn [.bool true, .int .i64 n]) else .leaf (.again [.bool b, .int .i64 (IntKind.wrap .i64 (n + 1))])) else .leaf (.brk [.bool b, .int .i64 n]))) (fun vs => .popB vs fun b vs => .popI .i64 vs fun n vs => .unNil vs (.leaf (.ret (.bool false)))) (fun vs => .popB vs fun b vs => .popI .i64 vs fun n vs => .unNil vs (.leaf (.ret (.bool b)))) fun x x_1 => .fail)) (fun vs => .popB vs fun b vs => .popI .i64 vs fun n vs => .unNil vs (.leaf (.ret (.bool b)))) fun x x_1 => .fail)) (fun vs => .popB vs fun b vs => .unNil vs (.leaf (.ret (.bool b)))) fun x x_1 => .fail
theorem t15 (u_0 : Int) (u_1 : Int) (u_2 : Int) (u_3 : Int) (u_4p : Option Addr) (u_4n u_4c : Nat) (u_5p : Option Addr) (u_5n u_5c : Nat) (u_6p : Option Addr) (u_6n u_6c : Nat) : ftree ({ P := Tryd.prog, priv := [1], loops := [{ id := 0, slots := [(2, .bool), (3, .int .i64)], ro := [1], outs := [] }, { id := 2, slots := [(2, .bool), (4, .int .i64)], ro := [1], outs := [] }], joins := [{ id := 3, slots := [(2, .bool)], ro := [1], outs := [] }] }) Tryd.f10 [.agg #[.int .i64 u_0, .int .i64 u_1, .int .i64 u_2, .int .i64 u_3, .slice u_4p u_4n u_4c, .slice u_5p u_5n u_5c, .slice u_6p u_6n u_6c]] = n15 u_0 u_1 u_2 u_3 u_4p u_4n u_4c u_5p u_5n u_5c u_6p u_6n u_6c := by kernel_rfl
theorem w15 (u_0 : Int) (u_1 : Int) (u_2 : Int) (u_3 : Int) (u_4p : Option Addr) (u_4n u_4c : Nat) (u_5p : Option Addr) (u_5n u_5c : Nat) (u_6p : Option Addr) (u_6n u_6c : Nat) {X : XP} (hX : XOK X) {h : LH} {A : Value → LH → Prop} (hw : (n15 u_0 u_1 u_2 u_3 u_4p u_4n u_4c u_5p u_5n u_5c u_6p u_6n u_6c).wp X Tryd.prog (retQ A) h) : FWK X Tryd.prog .normal 10 #[.agg #[.int .i64 u_0, .int .i64 u_1, .int .i64 u_2, .int .i64 u_3, .slice u_4p u_4n u_4c, .slice u_5p u_5n u_5c, .slice u_6p u_6n u_6c]] h A := fwk_neat (t15 u_0 u_1 u_2 u_3 u_4p u_4n u_4c u_5p u_5n u_5c u_6p u_6n u_6c) (by simp) (by kernel_rfl) (by kernel_rfl) hX hw
noncomputable def n25 (ap : Option Addr) (an ac : Nat) (bp : Option Addr) (bn bc : Nat) : T := bif (↑an : Int) != (↑bn : Int) then .leaf (.ret (.bool false)) else .loop [.bool false, .int .i64 0] (fun vs => .popB vs fun b vs => .popI .i64 vs fun n vs => .unNil vs (bif decide (n < (↑an : Int)) then .need (0 ≤ n ∧ n < (↑an : Int)) (.someA ap fun a => .loadI .i64 (Addr.add a (Int.toNat n * 1)) fun n_1 => .need (0 ≤ n ∧ n < (↑bn : Int)) (.someA bp fun a => .loadI .i64 (Addr.add a (Int.toNat n * 1)) fun n_2 => bif n_1 != n_2 then .leaf (.retn [.bool false, .int .i64 n]) else .leaf (.again [.bool b, .int .i64 (IntKind.wrap .i64 (n + 1))]))) else .leaf (.brk [.bool b, .int .i64 n]))) (fun vs => .popB vs fun b vs => .popI .i64 vs fun n vs => .unNil vs (.leaf (.ret (.bool true)))) (fun vs => .popB vs fun b vs => .popI .i64 vs fun n vs => .unNil vs (.leaf (.ret (.bool b)))) fun x x_1 => .fail
theorem t25 (ap : Option Addr) (an ac : Nat) (bp : Option Addr) (bn bc : Nat) : ftree ({ P := Tryd.prog, priv := [], loops := [{ id := 0, slots := [(4, .bool), (5, .int .i64)], ro := [], outs := [] }], joins := [] }) Tryd.f20 [.slice ap an ac, .slice bp bn bc] = n25 ap an ac bp bn bc := by kernel_rfl
theorem w25 (ap : Option Addr) (an ac : Nat) (bp : Option Addr) (bn bc : Nat) {X : XP} (hX : XOK X) {h : LH} {A : Value → LH → Prop} (hw : (n25 ap an ac bp bn bc).wp X Tryd.prog (retQ A) h) : FWK X Tryd.prog .normal 20 #[.slice ap an ac, .slice bp bn bc] h A := fwk_neat (t25 ap an ac bp bn bc) (by simp) (by kernel_rfl) (by kernel_rfl) hX hw
noncomputable def n27 (u_0 : Int) (u_1 : Int) (u_2 : Int) (u_3 : Int) (u_4p : Option Addr) (u_4n u_4c : Nat) (u_5p : Option Addr) (u_5n u_5c : Nat) (u_6p : Option Addr) (u_6n u_6c : Nat) : T := .blk (.call false 53 #[.int .i64 u_0, .int .i64 0, .int .i64 6] fun v => .unB v fun b => bif !b then .leaf (.retn [.int .i64 1]) else .call false 53 #[.int .i64 u_1, .int .i64 1, .int .i64 3] fun v => .unB v fun b => bif !b then .leaf (.retn [.int .i64 1]) else .call false 47 #[.int .i64 u_2] fun v => .unB v fun b => bif !b then .leaf (.retn [.int .i64 1]) else .call false 53 #[.int .i64 u_3, .int .i64 1, .int .i64 2000] fun v => .unB v fun b => bif !b then .leaf (.retn [.int .i64 1]) else .leaf (.again [.int .i64 0])) (fun vs => .popI .i64 vs fun n vs => .unNil vs (.call false 58 #[.slice u_4p u_4n u_4c] fun v => .unI .i64 v fun n => bif n != 0 then .leaf (.ret (.int .i64 n)) else .call false 59 #[.agg #[.int .i64 u_0, .int .i64 u_1, .int .i64 u_2, .int .i64 u_3, .slice u_4p u_4n u_4c, .slice u_5p u_5n u_5c, .slice u_6p u_6n u_6c]] fun v => .unI .i64 v fun n => bif n != 0 then .leaf (.ret (.int .i64 n)) else .call false 60 #[.agg #[.int .i64 u_0, .int .i64 u_1, .int .i64 u_2, .int .i64 u_3, .slice u_4p u_4n u_4c, .slice u_5p u_5n u_5c, .slice u_6p u_6n u_6c]] fun v => .unI .i64 v fun n => .leaf (.ret (.int .i64 n)))) (fun vs => .popI .i64 vs fun n vs => .unNil vs (.leaf (.ret (.int .i64 n)))) fun x x_1 => .fail
theorem t27 (u_0 : Int) (u_1 : Int) (u_2 : Int) (u_3 : Int) (u_4p : Option Addr) (u_4n u_4c : Nat) (u_5p : Option Addr) (u_5n u_5c : Nat) (u_6p : Option Addr) (u_6n u_6c : Nat) : ftree ({ P := Tryd.prog, priv := [1], loops := [], joins := [{ id := 3, slots := [(2, .int .i64)], ro := [1], outs := [] }] }) Tryd.f22 [.agg #[.int .i64 u_0, .int .i64 u_1, .int .i64 u_2, .int .i64 u_3, .slice u_4p u_4n u_4c, .slice u_5p u_5n u_5c, .slice u_6p u_6n u_6c]] = n27 u_0 u_1 u_2 u_3 u_4p u_4n u_4c u_5p u_5n u_5c u_6p u_6n u_6c := by kernel_rfl
theorem w27 (u_0 : Int) (u_1 : Int) (u_2 : Int) (u_3 : Int) (u_4p : Option Addr) (u_4n u_4c : Nat) (u_5p : Option Addr) (u_5n u_5c : Nat) (u_6p : Option Addr) (u_6n u_6c : Nat) {X : XP} (hX : XOK X) {h : LH} {A : Value → LH → Prop} (hw : (n27 u_0 u_1 u_2 u_3 u_4p u_4n u_4c u_5p u_5n u_5c u_6p u_6n u_6c).wp X Tryd.prog (retQ A) h) : FWK X Tryd.prog .normal 22 #[.agg #[.int .i64 u_0, .int .i64 u_1, .int .i64 u_2, .int .i64 u_3, .slice u_4p u_4n u_4c, .slice u_5p u_5n u_5c, .slice u_6p u_6n u_6c]] h A := fwk_neat (t27 u_0 u_1 u_2 u_3 u_4p u_4n u_4c u_5p u_5n u_5c u_6p u_6n u_6c) (by simp) (by kernel_rfl) (by kernel_rfl) hX hw
noncomputable def n30 (ap : Option Addr) (an ac : Nat) (bp : Option Addr) (bn bc : Nat) : T := bif (↑an : Int) != (↑bn : Int) then .leaf (.ret (.bool false)) else .loop [.bool false, .int .i64 0] (fun vs => .popB vs fun b vs => .popI .i64 vs fun n vs => .unNil vs (bif decide (n < (↑an : Int)) then .need (0 ≤ n ∧ n < (↑an : Int)) (.someA ap fun a => .loadI .i64 (Addr.add (Addr.add a (Int.toNat n * 4)) 0) fun n_1 => .loadI .i64 (Addr.add (Addr.add a (Int.toNat n * 4)) 1) fun n_2 => .loadI .i64 (Addr.add (Addr.add a (Int.toNat n * 4)) 2) fun n_3 => .loadI .i64 (Addr.add (Addr.add a (Int.toNat n * 4)) 3) fun n_4 => .need (0 ≤ n ∧ n < (↑bn : Int)) (.someA bp fun a_1 => .loadI .i64 (Addr.add (Addr.add a_1 (Int.toNat n * 4)) 0) fun n_5 => .loadI .i64 (Addr.add (Addr.add a_1 (Int.toNat n * 4)) 1) fun n_6 => .loadI .i64 (Addr.add (Addr.add a_1 (Int.toNat n * 4)) 2) fun n_7 => .loadI .i64 (Addr.add (Addr.add a_1 (Int.toNat n * 4)) 3) fun n_8 => .sem false (Sem.bind (eqGuard BinOp.neq 85 (Operand.tmp 20) (Operand.tmp 24) (.agg #[.int .i64 n_1, .int .i64 n_2, .int .i64 n_3, .int .i64 n_4]) (.agg #[.int .i64 n_5, .int .i64 n_6, .int .i64 n_7, .int .i64 n_8])) fun __r => binOp BinOp.neq 85 (.agg #[.int .i64 n_1, .int .i64 n_2, .int .i64 n_3, .int .i64 n_4]) (.agg #[.int .i64 n_5, .int .i64 n_6, .int .i64 n_7, .int .i64 n_8])) fun v => .unB v fun b_1 => .need (0 ≤ n ∧ n < (↑bn : Int)) (.someA bp fun a_2 => .need (AV.val (.pointer (some (Addr.add a_2 (Int.toNat n * 4)))) = AV.val (.pointer (some (Addr.add a_1 (Int.toNat n * 4))))) (.nd (.int .i64 n) (.nd (.slice bp bn bc) (.need (0 ≤ n ∧ n < (↑an : Int)) (.someA ap fun a_3 => .need (AV.val (.pointer (some (Addr.add a_3 (Int.toNat n * 4)))) = AV.val (.pointer (some (Addr.add a (Int.toNat n * 4))))) (.nd (.int .i64 n) (.nd (.slice ap an ac) (bif b_1 then .leaf (.retn [.bool false, .int .i64 n]) else .leaf (.again [.bool b, .int .i64 (IntKind.wrap .i64 (n + 1))]))))))))))) else .leaf (.brk [.bool b, .int .i64 n]))) (fun vs => .popB vs fun b vs => .popI .i64 vs fun n vs => .unNil vs (.leaf (.ret (.bool true)))) (fun vs => .popB vs fun b vs => .popI .i64 vs fun n vs => .unNil vs (.leaf (.ret (.bool b)))) fun x x_1 => .fail
theorem t30 (ap : Option Addr) (an ac : Nat) (bp : Option Addr) (bn bc : Nat) : ftree ({ P := Tryd.prog, priv := [], loops := [{ id := 0, slots := [(4, .bool), (5, .int .i64)], ro := [], outs := [] }], joins := [] }) Tryd.f25 [.slice ap an ac, .slice bp bn bc] = n30 ap an ac bp bn bc := by kernel_rfl
theorem w30 (ap : Option Addr) (an ac : Nat) (bp : Option Addr) (bn bc : Nat) {X : XP} (hX : XOK X) {h : LH} {A : Value → LH → Prop} (hw : (n30 ap an ac bp bn bc).wp X Tryd.prog (retQ A) h) : FWK X Tryd.prog .normal 25 #[.slice ap an ac, .slice bp bn bc] h A := fwk_neat (t30 ap an ac bp bn bc) (by simp) (by kernel_rfl) (by kernel_rfl) hX hw
noncomputable def n35 (ap : Option Addr) (an ac : Nat) (bp : Option Addr) (bn bc : Nat) : T := bif (↑an : Int) != (↑bn : Int) then .leaf (.ret (.bool false)) else .loop [.bool false, .int .i64 0] (fun vs => .popB vs fun b vs => .popI .i64 vs fun n vs => .unNil vs (bif decide (n < (↑an : Int)) then .need (0 ≤ n ∧ n < (↑an : Int)) (.someA ap fun a => .loadI .i64 (Addr.add a (Int.toNat n * 1)) fun n_1 => .need (0 ≤ n ∧ n < (↑bn : Int)) (.someA bp fun a => .loadI .i64 (Addr.add a (Int.toNat n * 1)) fun n_2 => bif n_1 != n_2 then .leaf (.retn [.bool false, .int .i64 n]) else .leaf (.again [.bool b, .int .i64 (IntKind.wrap .i64 (n + 1))]))) else .leaf (.brk [.bool b, .int .i64 n]))) (fun vs => .popB vs fun b vs => .popI .i64 vs fun n vs => .unNil vs (.leaf (.ret (.bool true)))) (fun vs => .popB vs fun b vs => .popI .i64 vs fun n vs => .unNil vs (.leaf (.ret (.bool b)))) fun x x_1 => .fail
theorem t35 (ap : Option Addr) (an ac : Nat) (bp : Option Addr) (bn bc : Nat) : ftree ({ P := Tryd.prog, priv := [], loops := [{ id := 0, slots := [(4, .bool), (5, .int .i64)], ro := [], outs := [] }], joins := [] }) Tryd.f30 [.slice ap an ac, .slice bp bn bc] = n35 ap an ac bp bn bc := by kernel_rfl
theorem w35 (ap : Option Addr) (an ac : Nat) (bp : Option Addr) (bn bc : Nat) {X : XP} (hX : XOK X) {h : LH} {A : Value → LH → Prop} (hw : (n35 ap an ac bp bn bc).wp X Tryd.prog (retQ A) h) : FWK X Tryd.prog .normal 30 #[.slice ap an ac, .slice bp bn bc] h A := fwk_neat (t35 ap an ac bp bn bc) (by simp) (by kernel_rfl) (by kernel_rfl) hX hw
noncomputable def n36 (u_0 : Int) (u_1 : Int) (u_2 : Int) (u_3 : Int) (u_4p : Option Addr) (u_4n u_4c : Nat) (u_5p : Option Addr) (u_5n u_5c : Nat) (u_6p : Option Addr) (u_6n u_6c : Nat) : T := .call false 10 #[.agg #[.int .i64 u_0, .int .i64 u_1, .int .i64 u_2, .int .i64 u_3, .slice u_4p u_4n u_4c, .slice u_5p u_5n u_5c, .slice u_6p u_6n u_6c]] fun v => .unB v fun b => bif !b then .call false 22 #[.agg #[.int .i64 u_0, .int .i64 u_1, .int .i64 u_2, .int .i64 u_3, .slice u_4p u_4n u_4c, .slice u_5p u_5n u_5c, .slice u_6p u_6n u_6c]] fun v => .unI .i64 v fun n => .leaf (.ret (.bool (n == 0))) else .leaf (.ret (.bool false))
theorem t36 (u_0 : Int) (u_1 : Int) (u_2 : Int) (u_3 : Int) (u_4p : Option Addr) (u_4n u_4c : Nat) (u_5p : Option Addr) (u_5n u_5c : Nat) (u_6p : Option Addr) (u_6n u_6c : Nat) : ftree ({ P := Tryd.prog, priv := [1], loops := [], joins := [] }) Tryd.f31 [.agg #[.int .i64 u_0, .int .i64 u_1, .int .i64 u_2, .int .i64 u_3, .slice u_4p u_4n u_4c, .slice u_5p u_5n u_5c, .slice u_6p u_6n u_6c]] = n36 u_0 u_1 u_2 u_3 u_4p u_4n u_4c u_5p u_5n u_5c u_6p u_6n u_6c := by kernel_rfl
theorem w36 (u_0 : Int) (u_1 : Int) (u_2 : Int) (u_3 : Int) (u_4p : Option Addr) (u_4n u_4c : Nat) (u_5p : Option Addr) (u_5n u_5c : Nat) (u_6p : Option Addr) (u_6n u_6c : Nat) {X : XP} (hX : XOK X) {h : LH} {A : Value → LH → Prop} (hw : (n36 u_0 u_1 u_2 u_3 u_4p u_4n u_4c u_5p u_5n u_5c u_6p u_6n u_6c).wp X Tryd.prog (retQ A) h) : FWK X Tryd.prog .normal 31 #[.agg #[.int .i64 u_0, .int .i64 u_1, .int .i64 u_2, .int .i64 u_3, .slice u_4p u_4n u_4c, .slice u_5p u_5n u_5c, .slice u_6p u_6n u_6c]] h A := fwk_neat (t36 u_0 u_1 u_2 u_3 u_4p u_4n u_4c u_5p u_5n u_5c u_6p u_6n u_6c) (by simp) (by kernel_rfl) (by kernel_rfl) hX hw
noncomputable def n37 (n : Int) : T := .need ((2001 : Int) ≠ 0) (.leaf (.ret (.int .i64 (Int.tmod (IntKind.wrap .i64 n) 2001))))
theorem t37 (n : Int) : ftree ({ P := Tryd.prog, priv := [], loops := [], joins := [] }) Tryd.f32 [.int .u16 n] = n37 n := by kernel_rfl
theorem w37 (n : Int) {X : XP} (hX : XOK X) {h : LH} {A : Value → LH → Prop} (hw : (n37 n).wp X Tryd.prog (retQ A) h) : FWK X Tryd.prog .normal 32 #[.int .u16 n] h A := fwk_neat (t37 n) (by simp) (by kernel_rfl) (by kernel_rfl) hX hw
noncomputable def n42 (a : Int) (b : Int) : T := .leaf (.ret (.agg #[.int .i64 a, .int .i64 b]))
theorem t42 (a : Int) (b : Int) : ftree ({ P := Tryd.prog, priv := [4], loops := [], joins := [] }) Tryd.f43 [.int .i64 a, .int .i64 b] = n42 a b := by kernel_rfl
theorem w42 (a : Int) (b : Int) {X : XP} (hX : XOK X) {h : LH} {A : Value → LH → Prop} (hw : (n42 a b).wp X Tryd.prog (retQ A) h) : FWK X Tryd.prog .normal 43 #[.int .i64 a, .int .i64 b] h A := fwk_neat (t42 a b) (by simp) (by kernel_rfl) (by kernel_rfl) hX hw
noncomputable def n49 (n : Int) (first : Int) (last : Int) : T := bif decide (first ≤ n) then .leaf (.ret (.bool (decide (n ≤ last)))) else .leaf (.ret (.bool false))
theorem t49 (n : Int) (first : Int) (last : Int) : ftree ({ P := Tryd.prog, priv := [], loops := [], joins := [] }) Tryd.f53 [.int .i64 n, .int .i64 first, .int .i64 last] = n49 n first last := by kernel_rfl
theorem w49 (n : Int) (first : Int) (last : Int) {X : XP} (hX : XOK X) {h : LH} {A : Value → LH → Prop} (hw : (n49 n first last).wp X Tryd.prog (retQ A) h) : FWK X Tryd.prog .normal 53 #[.int .i64 n, .int .i64 first, .int .i64 last] h A := fwk_neat (t49 n first last) (by simp) (by kernel_rfl) (by kernel_rfl) hX hw
noncomputable def n52  : T := .call false 43 #[.int .i64 21, .int .i64 23] fun v => .unAgg v fun l => .popI .i64 l fun n vs => .popI .i64 vs fun n_1 vs => .unNil vs (.sem false (Instr.buildSlice 22 1 #[(0, .agg #[.int .i64 n, .int .i64 n_1])]) fun v => .unS v fun a n c => .call false 43 #[.int .i64 12, .int .i64 14] fun v => .unAgg v fun l => .popI .i64 l fun n_2 vs => .popI .i64 vs fun n_3 vs => .unNil vs (.sem false (Instr.buildSlice 50 2 #[(0, .int .i64 0), (1, .int .i64 1)]) fun v => .unS v fun a_1 n_4 c_1 => .call false 43 #[.int .i64 19, .int .i64 19] fun v => .unAgg v fun l => .popI .i64 l fun n_5 vs => .popI .i64 vs fun n_6 vs => .unNil vs (.sem false (Instr.buildSlice 50 1 #[(0, .int .i64 0)]) fun v => .unS v fun a_2 n_7 c_2 => .call false 43 #[.int .i64 17, .int .i64 26] fun v => .unAgg v fun l => .popI .i64 l fun n_8 vs => .popI .i64 vs fun n_9 vs => .unNil vs (.sem false (Instr.buildSlice 50 1 #[(0, .int .i64 2)]) fun v => .unS v fun a_3 n_10 c_3 => .call false 43 #[.int .i64 18, .int .i64 18] fun v => .unAgg v fun l => .popI .i64 l fun n_11 vs => .popI .i64 vs fun n_12 vs => .unNil vs (.sem false (Instr.buildSlice 50 2 #[(0, .int .i64 0), (1, .int .i64 1)]) fun v => .unS v fun a_4 n_13 c_4 => .sem false (Instr.buildSlice 23 4 #[(0, .agg #[.int .i64 n_2, .int .i64 n_3, .int .i64 0, .slice a_1 n_4 c_1]), (1, .agg #[.int .i64 n_5, .int .i64 n_6, .int .i64 0, .slice a_2 n_7 c_2]), (2, .agg #[.int .i64 n_8, .int .i64 n_9, .int .i64 0, .slice a_3 n_10 c_3]), (3, .agg #[.int .i64 n_11, .int .i64 n_12, .int .i64 1, .slice a_4 n_13 c_4])]) fun v => .unS v fun a_5 n_14 c_5 => .sem false (Instr.buildSlice 50 3 #[(0, .int .i64 0), (1, .int .i64 1), (2, .int .i64 2)]) fun v => .unS v fun a_6 n_15 c_6 => .sem false (Instr.buildSlice 50 2 #[(0, .int .i64 0), (1, .int .i64 2)]) fun v => .unS v fun a_7 n_16 c_7 => .sem false (Instr.buildSlice 24 2 #[(0, .agg #[.int .i64 20, .int .i64 0, .slice a_6 n_15 c_6]), (1, .agg #[.int .i64 25, .int .i64 0, .slice a_7 n_16 c_7])]) fun v => .unS v fun a_8 n_17 c_8 => .leaf (.ret (.agg #[.int .i64 3, .int .i64 2, .int .i64 10, .int .i64 5, .slice a n c, .slice a_5 n_14 c_5, .slice a_8 n_17 c_8])))))))
theorem t52  : ftree ({ P := Tryd.prog, priv := [0], loops := [], joins := [] }) Tryd.f42 [] = n52  := by kernel_rfl
theorem w52  {X : XP} (hX : XOK X) {h : LH} {A : Value → LH → Prop} (hw : (n52 ).wp X Tryd.prog (retQ A) h) : FWK X Tryd.prog .normal 42 #[] h A := fwk_neat (t52 ) (by simp) (by kernel_rfl) (by kernel_rfl) hX hw
noncomputable def n56 (n : Int) : T := .call false 53 #[.int .i64 n, .int .i64 0, .int .i64 2000] fun v => .unB v fun b => .leaf (.ret (.bool b))
theorem t56 (n : Int) : ftree ({ P := Tryd.prog, priv := [], loops := [], joins := [] }) Tryd.f47 [.int .i64 n] = n56 n := by kernel_rfl
theorem w56 (n : Int) {X : XP} (hX : XOK X) {h : LH} {A : Value → LH → Prop} (hw : (n56 n).wp X Tryd.prog (retQ A) h) : FWK X Tryd.prog .normal 47 #[.int .i64 n] h A := fwk_neat (t56 n) (by simp) (by kernel_rfl) (by kernel_rfl) hX hw
noncomputable def n66 (lp : Option Addr) (ln lc : Nat) : T := bif decide ((↑ln : Int) > 4) then .leaf (.ret (.int .i64 2)) else .loop [.int .i64 0, .int .i64 0] (fun vs => .popI .i64 vs fun n vs => .popI .i64 vs fun n_1 vs => .unNil vs (bif decide (n_1 < (↑ln : Int)) then .need (0 ≤ n_1 ∧ n_1 < (↑ln : Int)) (.someA lp fun a => .loadI .i64 (Addr.add (Addr.add a (Int.toNat n_1 * 2)) 0) fun n_2 => .loadI .i64 (Addr.add (Addr.add a (Int.toNat n_1 * 2)) 1) fun n_3 => .call false 73 #[.agg #[.int .i64 n_2, .int .i64 n_3], .int .i64 0, .int .i64 2000] fun v => .unB v fun b => bif !b then .leaf (.retn [.int .i64 1, .int .i64 n_1]) else .leaf (.again [.int .i64 n, .int .i64 (IntKind.wrap .i64 (n_1 + 1))])) else .leaf (.brk [.int .i64 n, .int .i64 n_1]))) (fun vs => .popI .i64 vs fun n vs => .popI .i64 vs fun n vs => .unNil vs (.leaf (.ret (.int .i64 0)))) (fun vs => .popI .i64 vs fun n vs => .popI .i64 vs fun n_1 vs => .unNil vs (.leaf (.ret (.int .i64 n)))) fun x x_1 => .fail
theorem t66 (lp : Option Addr) (ln lc : Nat) : ftree ({ P := Tryd.prog, priv := [], loops := [{ id := 0, slots := [(2, .int .i64), (3, .int .i64)], ro := [], outs := [] }], joins := [] }) Tryd.f58 [.slice lp ln lc] = n66 lp ln lc := by kernel_rfl
theorem w66 (lp : Option Addr) (ln lc : Nat) {X : XP} (hX : XOK X) {h : LH} {A : Value → LH → Prop} (hw : (n66 lp ln lc).wp X Tryd.prog (retQ A) h) : FWK X Tryd.prog .normal 58 #[.slice lp ln lc] h A := fwk_neat (t66 lp ln lc) (by simp) (by kernel_rfl) (by kernel_rfl) hX hw
noncomputable def n67 (u_0 : Int) (u_1 : Int) (u_2 : Int) (u_3 : Int) (u_4p : Option Addr) (u_4n u_4c : Nat) (u_5p : Option Addr) (u_5n u_5c : Nat) (u_6p : Option Addr) (u_6n u_6c : Nat) : T := bif decide ((↑u_5n : Int) > 8) then .leaf (.ret (.int .i64 2)) else .loop [.int .i64 0, .int .i64 0] (fun vs => .popI .i64 vs fun n vs => .popI .i64 vs fun n_1 vs => .unNil vs (bif decide (n_1 < (↑u_5n : Int)) then .need (0 ≤ n_1 ∧ n_1 < (↑u_5n : Int)) (.someA u_5p fun a => .loadI .i64 (Addr.add (Addr.add a (Int.toNat n_1 * 4)) 0) fun n_2 => .loadI .i64 (Addr.add (Addr.add a (Int.toNat n_1 * 4)) 1) fun n_3 => .loadI .i64 (Addr.add (Addr.add a (Int.toNat n_1 * 4)) 2) fun n_4 => .loadS (Addr.add (Addr.add a (Int.toNat n_1 * 4)) 3) fun p n_5 c => .call false 73 #[.agg #[.int .i64 n_2, .int .i64 n_3], .int .i64 0, .int .i64 2000] fun v => .unB v fun b => bif !b then .leaf (.retn [.int .i64 1, .int .i64 n_1]) else .call false 53 #[.int .i64 n_4, .int .i64 0, .int .i64 (IntKind.wrap .i64 (u_1 - 1))] fun v => .unB v fun b => bif !b then .leaf (.retn [.int .i64 6, .int .i64 n_1]) else .call false 64 #[.slice p n_5 c, .int .i64 u_0] fun v => .unI .i64 v fun n_6 => bif n_6 != 0 then .leaf (.retn [.int .i64 n_6, .int .i64 n_1]) else .leaf (.again [.int .i64 n, .int .i64 (IntKind.wrap .i64 (n_1 + 1))])) else .leaf (.brk [.int .i64 n, .int .i64 n_1]))) (fun vs => .popI .i64 vs fun n vs => .popI .i64 vs fun n vs => .unNil vs (.leaf (.ret (.int .i64 0)))) (fun vs => .popI .i64 vs fun n vs => .popI .i64 vs fun n_1 vs => .unNil vs (.leaf (.ret (.int .i64 n)))) fun x x_1 => .fail
theorem t67 (u_0 : Int) (u_1 : Int) (u_2 : Int) (u_3 : Int) (u_4p : Option Addr) (u_4n u_4c : Nat) (u_5p : Option Addr) (u_5n u_5c : Nat) (u_6p : Option Addr) (u_6n u_6c : Nat) : ftree ({ P := Tryd.prog, priv := [1, 4], loops := [{ id := 0, slots := [(2, .int .i64), (3, .int .i64)], ro := [1], outs := [] }], joins := [] }) Tryd.f59 [.agg #[.int .i64 u_0, .int .i64 u_1, .int .i64 u_2, .int .i64 u_3, .slice u_4p u_4n u_4c, .slice u_5p u_5n u_5c, .slice u_6p u_6n u_6c]] = n67 u_0 u_1 u_2 u_3 u_4p u_4n u_4c u_5p u_5n u_5c u_6p u_6n u_6c := by kernel_rfl
theorem w67 (u_0 : Int) (u_1 : Int) (u_2 : Int) (u_3 : Int) (u_4p : Option Addr) (u_4n u_4c : Nat) (u_5p : Option Addr) (u_5n u_5c : Nat) (u_6p : Option Addr) (u_6n u_6c : Nat) {X : XP} (hX : XOK X) {h : LH} {A : Value → LH → Prop} (hw : (n67 u_0 u_1 u_2 u_3 u_4p u_4n u_4c u_5p u_5n u_5c u_6p u_6n u_6c).wp X Tryd.prog (retQ A) h) : FWK X Tryd.prog .normal 59 #[.agg #[.int .i64 u_0, .int .i64 u_1, .int .i64 u_2, .int .i64 u_3, .slice u_4p u_4n u_4c, .slice u_5p u_5n u_5c, .slice u_6p u_6n u_6c]] h A := fwk_neat (t67 u_0 u_1 u_2 u_3 u_4p u_4n u_4c u_5p u_5n u_5c u_6p u_6n u_6c) (by simp) (by kernel_rfl) (by kernel_rfl) hX hw
noncomputable def n68 (u_0 : Int) (u_1 : Int) (u_2 : Int) (u_3 : Int) (u_4p : Option Addr) (u_4n u_4c : Nat) (u_5p : Option Addr) (u_5n u_5c : Nat) (u_6p : Option Addr) (u_6n u_6c : Nat) : T := bif decide ((↑u_6n : Int) > 4) then .leaf (.ret (.int .i64 2)) else .loop [.int .i64 0, .int .i64 0] (fun vs => .popI .i64 vs fun n vs => .popI .i64 vs fun n_1 vs => .unNil vs (bif decide (n_1 < (↑u_6n : Int)) then .need (0 ≤ n_1 ∧ n_1 < (↑u_6n : Int)) (.someA u_6p fun a => .loadI .i64 (Addr.add (Addr.add a (Int.toNat n_1 * 3)) 0) fun n_2 => .loadI .i64 (Addr.add (Addr.add a (Int.toNat n_1 * 3)) 1) fun n_3 => .loadS (Addr.add (Addr.add a (Int.toNat n_1 * 3)) 2) fun p n_4 c => .call false 47 #[.int .i64 n_2] fun v => .unB v fun b => bif !b then .leaf (.retn [.int .i64 1, .int .i64 n_1]) else .blk (bif decide (n_2 < u_2) then .nd (.bool (decide (n_2 < u_2))) (.nd (.int .i64 u_2) (.need (AV.pp 1 2 = AV.pp 1 2) (.nd (.int .i64 n_2) (.need (AV.pp 4 0 = AV.pp 4 0) (.nd (.tuple #[]) (.nd (.tuple #[]) (.nd (.tuple #[]) (.nd (.tuple #[]) (.nd (.bool (decide (n_2 < u_2))) (.nd (.int .i64 u_2) (.need (AV.pp 1 2 = AV.pp 1 2) (.nd (.int .i64 n_2) (.need (AV.pp 4 0 = AV.pp 4 0) (.nd (.tuple #[]) (.nd (.tuple #[]) (.nd (.tuple #[]) (.nd (.tuple #[]) (.nd (.tuple #[]) (.nd (.bool (decide (n_2 < u_2))) (.nd (.int .i64 u_2) (.need (AV.pp 1 2 = AV.pp 1 2) (.nd (.int .i64 n_2) (.need (AV.pp 4 0 = AV.pp 4 0) (.leaf (.retn [.int .i64 7]))))))))))))))))))))))))) else bif decide (n_1 > 0) then .need (0 ≤ IntKind.wrap .i64 (n_1 - 1) ∧ IntKind.wrap .i64 (n_1 - 1) < (↑u_6n : Int)) (.someA u_6p fun a => .loadI .i64 (Addr.add (Addr.add a (Int.toNat (IntKind.wrap .i64 (n_1 - 1)) * 3)) 0) fun n_5 => bif decide (n_2 < n_5) then .leaf (.retn [.int .i64 7]) else .leaf (.again [.int .i64 n])) else .nd (.tuple #[]) (.nd (.tuple #[]) (.nd (.tuple #[]) (.nd (.tuple #[]) (.nd (.bool (decide (n_1 > 0))) (.nd (.int .i64 n_1) (.need (AV.val (.bool (decide (n_2 < u_2))) = AV.val (.bool false)) (.nd (.bool (decide (n_2 < u_2))) (.nd (.int .i64 u_2) (.need (AV.pp 1 2 = AV.pp 1 2) (.nd (.int .i64 n_2) (.need (AV.pp 4 0 = AV.pp 4 0) (.nd (.tuple #[]) (.nd (.tuple #[]) (.nd (.tuple #[]) (.nd (.tuple #[]) (.nd (.tuple #[]) (.nd (.bool (decide (n_1 > 0))) (.nd (.int .i64 n_1) (.need (AV.val (.bool (decide (n_2 < u_2))) = AV.val (.bool false)) (.nd (.bool (decide (n_2 < u_2))) (.nd (.int .i64 u_2) (.need (AV.pp 1 2 = AV.pp 1 2) (.nd (.int .i64 n_2) (.need (AV.pp 4 0 = AV.pp 4 0) (.leaf (.again [.int .i64 n]))))))))))))))))))))))))))) (fun vs => .popI .i64 vs fun n vs => .unNil vs (.call false 53 #[.int .i64 n_3, .int .i64 0, .int .i64 (IntKind.wrap .i64 (u_1 - 1))] fun v => .unB v fun b => bif !b then .leaf (.retn [.int .i64 6, .int .i64 n_1]) else .call false 64 #[.slice p n_4 c, .int .i64 u_0] fun v => .unI .i64 v fun n_5 => bif n_5 != 0 then .leaf (.retn [.int .i64 n_5, .int .i64 n_1]) else .leaf (.again [.int .i64 n, .int .i64 (IntKind.wrap .i64 (n_1 + 1))]))) (fun vs => .popI .i64 vs fun n vs => .unNil vs (.leaf (.retn [.int .i64 n, .int .i64 n_1]))) fun x x_1 => .fail) else .leaf (.brk [.int .i64 n, .int .i64 n_1]))) (fun vs => .popI .i64 vs fun n vs => .popI .i64 vs fun n vs => .unNil vs (.leaf (.ret (.int .i64 0)))) (fun vs => .popI .i64 vs fun n vs => .popI .i64 vs fun n_1 vs => .unNil vs (.leaf (.ret (.int .i64 n)))) fun x x_1 => .fail
theorem t68 (u_0 : Int) (u_1 : Int) (u_2 : Int) (u_3 : Int) (u_4p : Option Addr) (u_4n u_4c : Nat) (u_5p : Option Addr) (u_5n u_5c : Nat) (u_6p : Option Addr) (u_6n u_6c : Nat) : ftree ({ P := Tryd.prog, priv := [1, 4], loops := [{ id := 0, slots := [(2, .int .i64), (3, .int .i64)], ro := [1], outs := [] }], joins := [{ id := 11, slots := [(2, .int .i64)], ro := [1, 4], outs := [] }] }) Tryd.f60 [.agg #[.int .i64 u_0, .int .i64 u_1, .int .i64 u_2, .int .i64 u_3, .slice u_4p u_4n u_4c, .slice u_5p u_5n u_5c, .slice u_6p u_6n u_6c]] = n68 u_0 u_1 u_2 u_3 u_4p u_4n u_4c u_5p u_5n u_5c u_6p u_6n u_6c := by kernel_rfl
theorem w68 (u_0 : Int) (u_1 : Int) (u_2 : Int) (u_3 : Int) (u_4p : Option Addr) (u_4n u_4c : Nat) (u_5p : Option Addr) (u_5n u_5c : Nat) (u_6p : Option Addr) (u_6n u_6c : Nat) {X : XP} (hX : XOK X) {h : LH} {A : Value → LH → Prop} (hw : (n68 u_0 u_1 u_2 u_3 u_4p u_4n u_4c u_5p u_5n u_5c u_6p u_6n u_6c).wp X Tryd.prog (retQ A) h) : FWK X Tryd.prog .normal 60 #[.agg #[.int .i64 u_0, .int .i64 u_1, .int .i64 u_2, .int .i64 u_3, .slice u_4p u_4n u_4c, .slice u_5p u_5n u_5c, .slice u_6p u_6n u_6c]] h A := fwk_neat (t68 u_0 u_1 u_2 u_3 u_4p u_4n u_4c u_5p u_5n u_5c u_6p u_6n u_6c) (by simp) (by kernel_rfl) (by kernel_rfl) hX hw
noncomputable def n72 (lp : Option Addr) (ln lc : Nat) (below : Int) : T := .loop [.int .i64 0, .int .i64 0] (fun vs => .popI .i64 vs fun n vs => .popI .i64 vs fun n_1 vs => .unNil vs (bif decide (n_1 < (↑ln : Int)) then .need (0 ≤ n_1 ∧ n_1 < (↑ln : Int)) (.someA lp fun a => .loadI .i64 (Addr.add a (Int.toNat n_1 * 1)) fun n_2 => .call false 53 #[.int .i64 n_2, .int .i64 0, .int .i64 (IntKind.wrap .i64 (below - 1))] fun v => .unB v fun b => bif !b then .leaf (.retn [.int .i64 6, .int .i64 n_1]) else bif decide (n_1 > 0) then .need (0 ≤ n_1 ∧ n_1 < (↑ln : Int)) (.someA lp fun a => .loadI .i64 (Addr.add a (Int.toNat n_1 * 1)) fun n_3 => .need (0 ≤ IntKind.wrap .i64 (n_1 - 1) ∧ IntKind.wrap .i64 (n_1 - 1) < (↑ln : Int)) (.someA lp fun a => .loadI .i64 (Addr.add a (Int.toNat (IntKind.wrap .i64 (n_1 - 1)) * 1)) fun n_4 => bif decide (n_3 ≤ n_4) then .leaf (.retn [.int .i64 7, .int .i64 n_1]) else .leaf (.again [.int .i64 n, .int .i64 (IntKind.wrap .i64 (n_1 + 1))]))) else .nd (.tuple #[]) (.nd (.tuple #[]) (.nd (.tuple #[]) (.nd (.tuple #[]) (.nd (.tuple #[]) (.nd (.bool (decide (n_1 > 0))) (.nd (.int .i64 n_1) (.nd (.tuple #[]) (.nd (.tuple #[]) (.nd (.tuple #[]) (.nd (.tuple #[]) (.nd (.tuple #[]) (.nd (.bool (decide (n_1 > 0))) (.nd (.int .i64 n_1) (.leaf (.again [.int .i64 n, .int .i64 (IntKind.wrap .i64 (n_1 + 1))])))))))))))))))) else .leaf (.brk [.int .i64 n, .int .i64 n_1]))) (fun vs => .popI .i64 vs fun n vs => .popI .i64 vs fun n vs => .unNil vs (.leaf (.ret (.int .i64 0)))) (fun vs => .popI .i64 vs fun n vs => .popI .i64 vs fun n_1 vs => .unNil vs (.leaf (.ret (.int .i64 n)))) fun x x_1 => .fail
theorem t72 (lp : Option Addr) (ln lc : Nat) (below : Int) : ftree ({ P := Tryd.prog, priv := [], loops := [{ id := 0, slots := [(4, .int .i64), (5, .int .i64)], ro := [], outs := [] }], joins := [] }) Tryd.f64 [.slice lp ln lc, .int .i64 below] = n72 lp ln lc below := by kernel_rfl
theorem w72 (lp : Option Addr) (ln lc : Nat) (below : Int) {X : XP} (hX : XOK X) {h : LH} {A : Value → LH → Prop} (hw : (n72 lp ln lc below).wp X Tryd.prog (retQ A) h) : FWK X Tryd.prog .normal 64 #[.slice lp ln lc, .int .i64 below] h A := fwk_neat (t72 lp ln lc below) (by simp) (by kernel_rfl) (by kernel_rfl) hX hw
noncomputable def n93 (x_0 : Int) (x_1 : Int) (first : Int) (last : Int) : T := bif decide (first ≤ x_0) then bif decide (x_0 ≤ x_1) then .leaf (.ret (.bool (decide (x_1 ≤ last)))) else .leaf (.ret (.bool false)) else .leaf (.ret (.bool false))
theorem t93 (x_0 : Int) (x_1 : Int) (first : Int) (last : Int) : ftree ({ P := Tryd.prog, priv := [3], loops := [], joins := [] }) Tryd.f73 [.agg #[.int .i64 x_0, .int .i64 x_1], .int .i64 first, .int .i64 last] = n93 x_0 x_1 first last := by kernel_rfl
theorem w93 (x_0 : Int) (x_1 : Int) (first : Int) (last : Int) {X : XP} (hX : XOK X) {h : LH} {A : Value → LH → Prop} (hw : (n93 x_0 x_1 first last).wp X Tryd.prog (retQ A) h) : FWK X Tryd.prog .normal 73 #[.agg #[.int .i64 x_0, .int .i64 x_1], .int .i64 first, .int .i64 last] h A := fwk_neat (t93 x_0 x_1 first last) (by simp) (by kernel_rfl) (by kernel_rfl) hX hw
end Go.Proofs.YtopkdkedjkidhaaDoor
end
section
namespace Go.Proofs.YtopkdkedjkidhaaDoor
open Go Go.TM Go.Proofs
attribute [local irreducible] T.wp CV FWK
theorem c49 {h : LH} (n a b : Int) : Pu Tryd.prog 53 #[.int .i64 n, .int .i64 a, .int .i64 b] h (.bool (isIn n a b)) := by
  refine w49 _ _ _ X0_ok ?_
  unfold n49
  refine t_if (fun e => ?_) (fun e => ?_) <;> refine t_ret ⟨?_, rfl⟩ <;> simp [isIn, e]
theorem c56 {h : LH} (n : Int) : Pu Tryd.prog 47 #[.int .i64 n] h (.bool (isDay n)) := by
  refine w56 _ X0_ok ?_
  unfold n56
  refine t_pu (c49 _ _ _) ?_
  (repeat (first | (with_reducible first | apply gA | apply gB | apply gC | apply gD | apply gE | apply gF | apply gG | apply gH | apply gI | apply gJ | apply gK | apply gL | apply gM | apply gN | apply gO | apply gP | apply gQ | apply gR) | ((with_reducible first | apply gT | apply gS2); first | exact rfl | assumption | omega | exact ⟨⟩) | ((with_reducible first | apply gL0 | apply gL1 | apply gL2 | apply gL3 | apply gL4); assumption)))
  exact t_ret ⟨rfl, rfl⟩
theorem c93 {h : LH} (a b x y : Int) : Pu Tryd.prog 73 #[.agg #[.int .i64 a, .int .i64 b], .int .i64 x, .int .i64 y] h (.bool (decide (x ≤ a) && (decide (a ≤ b) && decide (b ≤ y)))) := by
  refine w93 _ _ _ _ X0_ok ?_
  unfold n93
  refine t_if (fun e => ?_) (fun e => ?_)
  · refine t_if (fun e' => ?_) (fun e' => ?_) <;> refine t_ret ⟨?_, rfl⟩ <;> simp [e, e']
  · refine t_ret ⟨?_, rfl⟩; simp [e]
theorem inside_span (x : Span) : (decide ((0 : Int) ≤ x.first) && (decide (x.first ≤ x.last) && decide (x.last ≤ 2000))) = isSpan x := by
  unfold isSpan isDay isIn
  rw [Bool.eq_iff_iff]
  simp only [Bool.and_eq_true, decide_eq_true_eq]
  omega
theorem c72 {h : LH} {below : Int} {p : Option Addr} {n c : Nat} {l : List Int} (hl : Sl IntE 1 h.get p n l) (hb : IsI (below - 1)) : Pu Tryd.prog 64 #[.slice p n c, .int .i64 below] h (.int .i64 (risesF l below)) := by
  refine w72 _ _ _ _ X0_ok ?_
  unfold n72
  have hn := hl.1
  have hbn := hl.2.1
  have hw : IntKind.wrap .i64 (below - 1) = below - 1 := wrap_id hb.1 hb.2
  refine t_loop (fun mm vs h' => h = h' ∧ ∃ i : Nat, vs = [.int .i64 0, .int .i64 i] ∧ i ≤ n ∧ mm = n - i ∧ risesF l below = firstF (riseF l below) i (l.drop i)) ⟨rfl, 0, rfl, Nat.zero_le _, rfl, rfl⟩ ?_
  rintro Y mm vs _ hY ⟨rfl, i, rfl, hi, rfl, hc⟩
  (repeat (first | (with_reducible first | apply gA | apply gB | apply gC | apply gD | apply gE | apply gF | apply gG | apply gH | apply gI | apply gJ | apply gK | apply gL | apply gM | apply gN | apply gO | apply gP | apply gQ | apply gR) | ((with_reducible first | apply gT | apply gS2); first | exact rfl | assumption | omega | exact ⟨⟩) | ((with_reducible first | apply gL0 | apply gL1 | apply gL2 | apply gL3 | apply gL4); assumption)))
  refine t_if (fun e => ?_) (fun e => ?_)
  · obtain ⟨x, a, hx, ha, e1⟩ := hl.at (i := i) (by omega)
    unfold IntE at e1
    rw [drop_of hx, firstF] at hc
    (repeat (first | (with_reducible first | apply gA | apply gB | apply gC | apply gD | apply gE | apply gF | apply gG | apply gH | apply gI | apply gJ | apply gK | apply gL | apply gM | apply gN | apply gO | apply gP | apply gQ | apply gR) | ((with_reducible first | apply gT | apply gS2); first | exact rfl | assumption | omega | exact ⟨⟩) | ((with_reducible first | apply gL0 | apply gL1 | apply gL2 | apply gL3 | apply gL4); assumption)))
    refine t_pu (c49 _ _ _) ?_
    (repeat (first | (with_reducible first | apply gA | apply gB | apply gC | apply gD | apply gE | apply gF | apply gG | apply gH | apply gI | apply gJ | apply gK | apply gL | apply gM | apply gN | apply gO | apply gP | apply gQ | apply gR) | ((with_reducible first | apply gT | apply gS2); first | exact rfl | assumption | omega | exact ⟨⟩) | ((with_reducible first | apply gL0 | apply gL1 | apply gL2 | apply gL3 | apply gL4); assumption)))
    rw [hw]
    have next : riseF l below i x = 0 → Y [.int .i64 0, .int .i64 (IntKind.wrap .i64 ((i : Int) + 1))] h := by
      intro hz
      rw [if_neg (by simp [hz])] at hc
      refine hY (n - (i + 1)) _ _ (by omega) ⟨rfl, i + 1, ?_, by omega, rfl, hc⟩
      rw [wrap_id (by omega) (by omega)]; rfl
    have stop : ∀ z : Int, z ≠ 0 → riseF l below i x = z → risesF l below = z := by
      intro z hz hr
      rw [if_pos (by rw [hr]; exact hz), hr] at hc; exact hc
    refine t_cond (fun b => ?_) (fun b => ?_)
    · (repeat (first | (with_reducible first | apply gA | apply gB | apply gC | apply gD | apply gE | apply gF | apply gG | apply gH | apply gI | apply gJ | apply gK | apply gL | apply gM | apply gN | apply gO | apply gP | apply gQ | apply gR) | ((with_reducible first | apply gT | apply gS2); first | exact rfl | assumption | omega | exact ⟨⟩) | ((with_reducible first | apply gL0 | apply gL1 | apply gL2 | apply gL3 | apply gL4); assumption)))
      have b' : isIn x 0 (below - 1) = false := by simpa using b
      exact t_ret ⟨by rw [stop 6 (by omega) (by rw [riseF, if_pos b'])], rfl⟩
    · have b' : ¬ isIn x 0 (below - 1) = false := by simp at b; simp [b]
      refine t_if (fun e2 => ?_) (fun e2 => ?_)
      · obtain ⟨y, a2, hy, ha2, e3⟩ := hl.at (i := i - 1) (by omega)
        unfold IntE at e3
        rw [ha] at ha2; cases ha2
        have hwi : IntKind.wrap .i64 ((i : Int) - 1) = ((i - 1 : Nat) : Int) := by rw [wrap_id (by omega) (by omega)]; omega
        have hg : l.getD (i - 1) 0 = y := by simp [List.getD, hy]
        rw [hwi]
        (repeat (first | (with_reducible first | apply gA | apply gB | apply gC | apply gD | apply gE | apply gF | apply gG | apply gH | apply gI | apply gJ | apply gK | apply gL | apply gM | apply gN | apply gO | apply gP | apply gQ | apply gR) | ((with_reducible first | apply gT | apply gS2); first | exact rfl | assumption | omega | exact ⟨⟩) | ((with_reducible first | apply gL0 | apply gL1 | apply gL2 | apply gL3 | apply gL4); assumption)))
        refine t_if (fun e4 => ?_) (fun e4 => ?_)
        · (repeat (first | (with_reducible first | apply gA | apply gB | apply gC | apply gD | apply gE | apply gF | apply gG | apply gH | apply gI | apply gJ | apply gK | apply gL | apply gM | apply gN | apply gO | apply gP | apply gQ | apply gR) | ((with_reducible first | apply gT | apply gS2); first | exact rfl | assumption | omega | exact ⟨⟩) | ((with_reducible first | apply gL0 | apply gL1 | apply gL2 | apply gL3 | apply gL4); assumption)))
          exact t_ret ⟨by rw [stop 7 (by omega) (by rw [riseF, if_neg b', if_pos ⟨by omega, by rw [hg]; exact e4⟩])], rfl⟩
        · exact t_again (next (by rw [riseF, if_neg b', if_neg (by rw [hg]; omega)]))
      · (repeat (first | (with_reducible first | apply gA | apply gB | apply gC | apply gD | apply gE | apply gF | apply gG | apply gH | apply gI | apply gJ | apply gK | apply gL | apply gM | apply gN | apply gO | apply gP | apply gQ | apply gR) | ((with_reducible first | apply gT | apply gS2); first | exact rfl | assumption | omega | exact ⟨⟩) | ((with_reducible first | apply gL0 | apply gL1 | apply gL2 | apply gL3 | apply gL4); assumption)))
        exact t_again (next (by rw [riseF, if_neg b', if_neg (by omega)]))
  · (repeat (first | (with_reducible first | apply gA | apply gB | apply gC | apply gD | apply gE | apply gF | apply gG | apply gH | apply gI | apply gJ | apply gK | apply gL | apply gM | apply gN | apply gO | apply gP | apply gQ | apply gR) | ((with_reducible first | apply gT | apply gS2); first | exact rfl | assumption | omega | exact ⟨⟩) | ((with_reducible first | apply gL0 | apply gL1 | apply gL2 | apply gL3 | apply gL4); assumption)))
    rw [List.drop_eq_nil_of_le (by omega)] at hc
    exact t_ret ⟨by rw [hc]; rfl, rfl⟩
theorem c66 {h : LH} {p : Option Addr} {n c : Nat} {l : List Span} (hl : Sl SpanE 2 h.get p n l) : Pu Tryd.prog 58 #[.slice p n c] h (.int .i64 (eachF 4 (fun _ x => if isSpan x then 0 else 1) l)) := by
  refine w66 _ _ _ X0_ok ?_
  unfold n66
  have hn := hl.1
  have hbn := hl.2.1
  refine t_if (fun e => ?_) (fun e => ?_)
  · exact t_ret ⟨by rw [eachF, if_pos (by omega)], rfl⟩
  have he : eachF 4 (fun _ x => if isSpan x then 0 else 1) l = firstF (fun _ x => if isSpan x then 0 else 1) 0 l := by rw [eachF, if_neg (by omega)]
  refine t_loop (fun mm vs h' => h = h' ∧ ∃ i : Nat, vs = [.int .i64 0, .int .i64 i] ∧ i ≤ n ∧ mm = n - i ∧ eachF 4 (fun _ x => if isSpan x then 0 else 1) l = firstF (fun _ x => if isSpan x then 0 else 1) i (l.drop i)) ⟨rfl, 0, rfl, Nat.zero_le _, rfl, he⟩ ?_
  rintro Y mm vs _ hY ⟨rfl, i, rfl, hi, rfl, hc⟩
  (repeat (first | (with_reducible first | apply gA | apply gB | apply gC | apply gD | apply gE | apply gF | apply gG | apply gH | apply gI | apply gJ | apply gK | apply gL | apply gM | apply gN | apply gO | apply gP | apply gQ | apply gR) | ((with_reducible first | apply gT | apply gS2); first | exact rfl | assumption | omega | exact ⟨⟩) | ((with_reducible first | apply gL0 | apply gL1 | apply gL2 | apply gL3 | apply gL4); assumption)))
  refine t_if (fun e => ?_) (fun e => ?_)
  · obtain ⟨x, a, hx, ha, e1, e2⟩ := hl.at (i := i) (by omega)
    rw [drop_of hx, firstF] at hc
    (repeat (first | (with_reducible first | apply gA | apply gB | apply gC | apply gD | apply gE | apply gF | apply gG | apply gH | apply gI | apply gJ | apply gK | apply gL | apply gM | apply gN | apply gO | apply gP | apply gQ | apply gR) | ((with_reducible first | apply gT | apply gS2); first | exact rfl | assumption | omega | exact ⟨⟩) | ((with_reducible first | apply gL0 | apply gL1 | apply gL2 | apply gL3 | apply gL4); assumption)))
    refine t_pu (c93 _ _ _ _) ?_
    rw [inside_span]
    (repeat (first | (with_reducible first | apply gA | apply gB | apply gC | apply gD | apply gE | apply gF | apply gG | apply gH | apply gI | apply gJ | apply gK | apply gL | apply gM | apply gN | apply gO | apply gP | apply gQ | apply gR) | ((with_reducible first | apply gT | apply gS2); first | exact rfl | assumption | omega | exact ⟨⟩) | ((with_reducible first | apply gL0 | apply gL1 | apply gL2 | apply gL3 | apply gL4); assumption)))
    refine t_cond (fun b => ?_) (fun b => ?_)
    · (repeat (first | (with_reducible first | apply gA | apply gB | apply gC | apply gD | apply gE | apply gF | apply gG | apply gH | apply gI | apply gJ | apply gK | apply gL | apply gM | apply gN | apply gO | apply gP | apply gQ | apply gR) | ((with_reducible first | apply gT | apply gS2); first | exact rfl | assumption | omega | exact ⟨⟩) | ((with_reducible first | apply gL0 | apply gL1 | apply gL2 | apply gL3 | apply gL4); assumption)))
      have b' : isSpan x = false := by simpa using b
      rw [b'] at hc
      exact t_ret ⟨by rw [hc]; rfl, rfl⟩
    · have b' : isSpan x = true := by simpa using b
      rw [b'] at hc
      refine t_again (hY (n - (i + 1)) _ _ (by omega) ⟨rfl, i + 1, ?_, by omega, rfl, by simpa using hc⟩)
      rw [wrap_id (by omega) (by omega)]; rfl
  · (repeat (first | (with_reducible first | apply gA | apply gB | apply gC | apply gD | apply gE | apply gF | apply gG | apply gH | apply gI | apply gJ | apply gK | apply gL | apply gM | apply gN | apply gO | apply gP | apply gQ | apply gR) | ((with_reducible first | apply gT | apply gS2); first | exact rfl | assumption | omega | exact ⟨⟩) | ((with_reducible first | apply gL0 | apply gL1 | apply gL2 | apply gL3 | apply gL4); assumption)))
    rw [List.drop_eq_nil_of_le (by omega)] at hc
    exact t_ret ⟨by rw [hc]; rfl, rfl⟩
theorem c67 {h : LH} {f : FileC} {u : UseFile} (hu : FileR h.get f u) (hnum : numbersF u = 0) : Pu Tryd.prog 59 #[fileV f u] h (.int .i64 (papersF u)) := by
  refine w67 _ _ _ _ _ _ _ _ _ _ _ _ _ X0_ok ?_
  unfold n67
  have hp := hu.papers
  have hn := hp.1
  have hbn := hp.2.1
  have hw : IntKind.wrap .i64 (u.lands - 1) = u.lands - 1 := wrap_id (num_lands hnum).1 (num_lands hnum).2
  refine t_if (fun e => ?_) (fun e => ?_)
  · exact t_ret ⟨by rw [papersF, eachF, if_pos (by omega)], rfl⟩
  have he : papersF u = firstF (fun _ p => paperF u p) 0 u.papers := by rw [papersF, eachF, if_neg (by omega)]
  refine t_loop (fun mm vs h' => h = h' ∧ ∃ i : Nat, vs = [.int .i64 0, .int .i64 i] ∧ i ≤ f.n5 ∧ mm = f.n5 - i ∧ papersF u = firstF (fun _ p => paperF u p) i (u.papers.drop i)) ⟨rfl, 0, rfl, Nat.zero_le _, rfl, he⟩ ?_
  rintro Y mm vs _ hY ⟨rfl, i, rfl, hi, rfl, hc⟩
  (repeat (first | (with_reducible first | apply gA | apply gB | apply gC | apply gD | apply gE | apply gF | apply gG | apply gH | apply gI | apply gJ | apply gK | apply gL | apply gM | apply gN | apply gO | apply gP | apply gQ | apply gR) | ((with_reducible first | apply gT | apply gS2); first | exact rfl | assumption | omega | exact ⟨⟩) | ((with_reducible first | apply gL0 | apply gL1 | apply gL2 | apply gL3 | apply gL4); assumption)))
  refine t_if (fun e => ?_) (fun e => ?_)
  · obtain ⟨x, a, hx, ha, e1, e2, e3, q, m, c, e4, e5⟩ := hp.at (i := i) (by omega)
    rw [drop_of hx, firstF] at hc
    (repeat (first | (with_reducible first | apply gA | apply gB | apply gC | apply gD | apply gE | apply gF | apply gG | apply gH | apply gI | apply gJ | apply gK | apply gL | apply gM | apply gN | apply gO | apply gP | apply gQ | apply gR) | ((with_reducible first | apply gT | apply gS2); first | exact rfl | assumption | omega | exact ⟨⟩) | ((with_reducible first | apply gL0 | apply gL1 | apply gL2 | apply gL3 | apply gL4); assumption)))
    have next : paperF u x = 0 → Y [.int .i64 0, .int .i64 (IntKind.wrap .i64 ((i : Int) + 1))] h := by
      intro hz
      rw [if_neg (by simp [hz])] at hc
      refine hY (f.n5 - (i + 1)) _ _ (by omega) ⟨rfl, i + 1, ?_, by omega, rfl, hc⟩
      rw [wrap_id (by omega) (by omega)]; rfl
    have stop : ∀ z : Int, z ≠ 0 → paperF u x = z → papersF u = z := by
      intro z hz hr
      rw [if_pos (by rw [hr]; exact hz), hr] at hc; exact hc
    refine t_pu (c93 _ _ _ _) ?_
    rw [inside_span x.days]
    (repeat (first | (with_reducible first | apply gA | apply gB | apply gC | apply gD | apply gE | apply gF | apply gG | apply gH | apply gI | apply gJ | apply gK | apply gL | apply gM | apply gN | apply gO | apply gP | apply gQ | apply gR) | ((with_reducible first | apply gT | apply gS2); first | exact rfl | assumption | omega | exact ⟨⟩) | ((with_reducible first | apply gL0 | apply gL1 | apply gL2 | apply gL3 | apply gL4); assumption)))
    refine t_cond (fun b => ?_) (fun b => ?_)
    · (repeat (first | (with_reducible first | apply gA | apply gB | apply gC | apply gD | apply gE | apply gF | apply gG | apply gH | apply gI | apply gJ | apply gK | apply gL | apply gM | apply gN | apply gO | apply gP | apply gQ | apply gR) | ((with_reducible first | apply gT | apply gS2); first | exact rfl | assumption | omega | exact ⟨⟩) | ((with_reducible first | apply gL0 | apply gL1 | apply gL2 | apply gL3 | apply gL4); assumption)))
      have b' : isSpan x.days = false := by simpa using b
      exact t_ret ⟨by rw [stop 1 (by omega) (by rw [paperF, if_pos b'])], rfl⟩
    have b1 : ¬ isSpan x.days = false := by simp at b; simp [b]
    refine t_pu (c49 _ _ _) ?_
    rw [hw]
    (repeat (first | (with_reducible first | apply gA | apply gB | apply gC | apply gD | apply gE | apply gF | apply gG | apply gH | apply gI | apply gJ | apply gK | apply gL | apply gM | apply gN | apply gO | apply gP | apply gQ | apply gR) | ((with_reducible first | apply gT | apply gS2); first | exact rfl | assumption | omega | exact ⟨⟩) | ((with_reducible first | apply gL0 | apply gL1 | apply gL2 | apply gL3 | apply gL4); assumption)))
    refine t_cond (fun b => ?_) (fun b => ?_)
    · (repeat (first | (with_reducible first | apply gA | apply gB | apply gC | apply gD | apply gE | apply gF | apply gG | apply gH | apply gI | apply gJ | apply gK | apply gL | apply gM | apply gN | apply gO | apply gP | apply gQ | apply gR) | ((with_reducible first | apply gT | apply gS2); first | exact rfl | assumption | omega | exact ⟨⟩) | ((with_reducible first | apply gL0 | apply gL1 | apply gL2 | apply gL3 | apply gL4); assumption)))
      have b' : isIn x.land 0 (u.lands - 1) = false := by simpa using b
      exact t_ret ⟨by rw [stop 6 (by omega) (by rw [paperF, if_neg b1, if_pos b'])], rfl⟩
    have b2 : ¬ isIn x.land 0 (u.lands - 1) = false := by simp at b; simp [b]
    refine t_pu (c72 e5 (num_items hnum)) ?_
    (repeat (first | (with_reducible first | apply gA | apply gB | apply gC | apply gD | apply gE | apply gF | apply gG | apply gH | apply gI | apply gJ | apply gK | apply gL | apply gM | apply gN | apply gO | apply gP | apply gQ | apply gR) | ((with_reducible first | apply gT | apply gS2); first | exact rfl | assumption | omega | exact ⟨⟩) | ((with_reducible first | apply gL0 | apply gL1 | apply gL2 | apply gL3 | apply gL4); assumption)))
    have hr : paperF u x = risesF x.items u.items := by rw [paperF, if_neg b1, if_neg b2]
    refine t_cond (fun b => ?_) (fun b => ?_)
    · (repeat (first | (with_reducible first | apply gA | apply gB | apply gC | apply gD | apply gE | apply gF | apply gG | apply gH | apply gI | apply gJ | apply gK | apply gL | apply gM | apply gN | apply gO | apply gP | apply gQ | apply gR) | ((with_reducible first | apply gT | apply gS2); first | exact rfl | assumption | omega | exact ⟨⟩) | ((with_reducible first | apply gL0 | apply gL1 | apply gL2 | apply gL3 | apply gL4); assumption)))
      exact t_ret ⟨by rw [stop _ (by simpa using b) hr], rfl⟩
    · exact t_again (next (by rw [hr]; simpa using b))
  · (repeat (first | (with_reducible first | apply gA | apply gB | apply gC | apply gD | apply gE | apply gF | apply gG | apply gH | apply gI | apply gJ | apply gK | apply gL | apply gM | apply gN | apply gO | apply gP | apply gQ | apply gR) | ((with_reducible first | apply gT | apply gS2); first | exact rfl | assumption | omega | exact ⟨⟩) | ((with_reducible first | apply gL0 | apply gL1 | apply gL2 | apply gL3 | apply gL4); assumption)))
    rw [List.drop_eq_nil_of_le (by omega)] at hc
    exact t_ret ⟨by rw [hc]; rfl, rfl⟩
def lateB (u : UseFile) (i : Nat) (x : Request) : Bool := decide (x.day < u.from_) || (decide (0 < i) && (match u.requests[i - 1]? with | some q => decide (x.day < q.day) | none => false))
theorem requestF_eq (u : UseFile) (i : Nat) (x : Request) : requestF u i x = if isDay x.day = false then 1 else if lateB u i x = true then 7 else if isIn x.land 0 (u.lands - 1) = false then 6 else risesF x.items u.items := rfl
theorem lateB_prev {u : UseFile} {i : Nat} {x y : Request} (hy : u.requests[i - 1]? = some y) : lateB u i x = (decide (x.day < u.from_) || (decide (0 < i) && decide (x.day < y.day))) := by
  unfold lateB; rw [hy]
theorem c68 {h : LH} {f : FileC} {u : UseFile} (hu : FileR h.get f u) (hnum : numbersF u = 0) : Pu Tryd.prog 60 #[fileV f u] h (.int .i64 (requestsF u)) := by
  refine w68 _ _ _ _ _ _ _ _ _ _ _ _ _ X0_ok ?_
  unfold n68
  have hp := hu.requests
  have hn := hp.1
  have hbn := hp.2.1
  have hw : IntKind.wrap .i64 (u.lands - 1) = u.lands - 1 := wrap_id (num_lands hnum).1 (num_lands hnum).2
  refine t_if (fun e => ?_) (fun e => ?_)
  · exact t_ret ⟨by rw [requestsF, eachF, if_pos (by omega)], rfl⟩
  have he : requestsF u = firstF (requestF u) 0 u.requests := by rw [requestsF, eachF, if_neg (by omega)]
  refine t_loop (fun mm vs h' => h = h' ∧ ∃ i : Nat, vs = [.int .i64 0, .int .i64 i] ∧ i ≤ f.n6 ∧ mm = f.n6 - i ∧ requestsF u = firstF (requestF u) i (u.requests.drop i)) ⟨rfl, 0, rfl, Nat.zero_le _, rfl, he⟩ ?_
  rintro Y mm vs _ hY ⟨rfl, i, rfl, hi, rfl, hc⟩
  (repeat (first | (with_reducible first | apply gA | apply gB | apply gC | apply gD | apply gE | apply gF | apply gG | apply gH | apply gI | apply gJ | apply gK | apply gL | apply gM | apply gN | apply gO | apply gP | apply gQ | apply gR) | ((with_reducible first | apply gT | apply gS2); first | exact rfl | assumption | omega | exact ⟨⟩) | ((with_reducible first | apply gL0 | apply gL1 | apply gL2 | apply gL3 | apply gL4); assumption)))
  refine t_if (fun e => ?_) (fun e => ?_)
  · obtain ⟨x, a, hx, ha, e1, e2, q, m, c, e4, e5⟩ := hp.at (i := i) (by omega)
    rw [drop_of hx, firstF] at hc
    (repeat (first | (with_reducible first | apply gA | apply gB | apply gC | apply gD | apply gE | apply gF | apply gG | apply gH | apply gI | apply gJ | apply gK | apply gL | apply gM | apply gN | apply gO | apply gP | apply gQ | apply gR) | ((with_reducible first | apply gT | apply gS2); first | exact rfl | assumption | omega | exact ⟨⟩) | ((with_reducible first | apply gL0 | apply gL1 | apply gL2 | apply gL3 | apply gL4); assumption)))
    have next : requestF u i x = 0 → Y [.int .i64 0, .int .i64 (IntKind.wrap .i64 ((i : Int) + 1))] h := by
      intro hz
      rw [if_neg (by simp [hz])] at hc
      refine hY (f.n6 - (i + 1)) _ _ (by omega) ⟨rfl, i + 1, ?_, by omega, rfl, hc⟩
      rw [wrap_id (by omega) (by omega)]; rfl
    have stop : ∀ z : Int, z ≠ 0 → requestF u i x = z → requestsF u = z := by
      intro z hz hr
      rw [if_pos (by rw [hr]; exact hz), hr] at hc; exact hc
    refine t_pu (c56 _) ?_
    (repeat (first | (with_reducible first | apply gA | apply gB | apply gC | apply gD | apply gE | apply gF | apply gG | apply gH | apply gI | apply gJ | apply gK | apply gL | apply gM | apply gN | apply gO | apply gP | apply gQ | apply gR) | ((with_reducible first | apply gT | apply gS2); first | exact rfl | assumption | omega | exact ⟨⟩) | ((with_reducible first | apply gL0 | apply gL1 | apply gL2 | apply gL3 | apply gL4); assumption)))
    refine t_cond (fun b => ?_) (fun b => ?_)
    · (repeat (first | (with_reducible first | apply gA | apply gB | apply gC | apply gD | apply gE | apply gF | apply gG | apply gH | apply gI | apply gJ | apply gK | apply gL | apply gM | apply gN | apply gO | apply gP | apply gQ | apply gR) | ((with_reducible first | apply gT | apply gS2); first | exact rfl | assumption | omega | exact ⟨⟩) | ((with_reducible first | apply gL0 | apply gL1 | apply gL2 | apply gL3 | apply gL4); assumption)))
      have b' : isDay x.day = false := by simpa using b
      exact t_ret ⟨by rw [stop 1 (by omega) (by rw [requestF_eq, if_pos b'])], rfl⟩
    have b1 : ¬ isDay x.day = false := by simp at b; simp [b]
    refine t_blk (fun vs h' => vs = [.int .i64 0] ∧ h = h' ∧ lateB u i x = false) ?_ ?_
    · refine t_if (fun e3 => ?_) (fun e3 => ?_)
      · (repeat (first | (with_reducible first | apply gA | apply gB | apply gC | apply gD | apply gE | apply gF | apply gG | apply gH | apply gI | apply gJ | apply gK | apply gL | apply gM | apply gN | apply gO | apply gP | apply gQ | apply gR) | ((with_reducible first | apply gT | apply gS2); first | exact rfl | assumption | omega | exact ⟨⟩) | ((with_reducible first | apply gL0 | apply gL1 | apply gL2 | apply gL3 | apply gL4); assumption)))
        exact t_ret ⟨by rw [stop 7 (by omega) (by rw [requestF_eq, if_neg b1, if_pos (by simp [lateB, e3])])], rfl⟩
      · refine t_if (fun e6 => ?_) (fun e6 => ?_)
        · obtain ⟨y, a2, hy, ha2, f1, f2, _⟩ := hp.at (i := i - 1) (by omega)
          have hwi : IntKind.wrap .i64 ((i : Int) - 1) = ((i - 1 : Nat) : Int) := by rw [wrap_id (by omega) (by omega)]; omega
          rw [hwi]
          (repeat (first | (with_reducible first | apply gA | apply gB | apply gC | apply gD | apply gE | apply gF | apply gG | apply gH | apply gI | apply gJ | apply gK | apply gL | apply gM | apply gN | apply gO | apply gP | apply gQ | apply gR) | ((with_reducible first | apply gT | apply gS2); first | exact rfl | assumption | omega | exact ⟨⟩) | ((with_reducible first | apply gL0 | apply gL1 | apply gL2 | apply gL3 | apply gL4); assumption)))
          refine t_if (fun e7 => ?_) (fun e7 => ?_)
          · (repeat (first | (with_reducible first | apply gA | apply gB | apply gC | apply gD | apply gE | apply gF | apply gG | apply gH | apply gI | apply gJ | apply gK | apply gL | apply gM | apply gN | apply gO | apply gP | apply gQ | apply gR) | ((with_reducible first | apply gT | apply gS2); first | exact rfl | assumption | omega | exact ⟨⟩) | ((with_reducible first | apply gL0 | apply gL1 | apply gL2 | apply gL3 | apply gL4); assumption)))
            exact t_ret ⟨by rw [stop 7 (by omega) (by rw [requestF_eq, if_neg b1, if_pos (by rw [lateB_prev hy]; simp [e7]; omega)])], rfl⟩
          · refine t_again ⟨rfl, rfl, ?_⟩
            rw [lateB_prev hy]; simp; omega
        · have e3' : decide (x.day < u.from_) = false := by simpa using e3
          have e3'' : AV.val (.bool (decide (x.day < u.from_))) = AV.val (.bool false) := by rw [e3']
          (repeat (first | (with_reducible first | apply gA | apply gB | apply gC | apply gD | apply gE | apply gF | apply gG | apply gH | apply gI | apply gJ | apply gK | apply gL | apply gM | apply gN | apply gO | apply gP | apply gQ | apply gR) | ((with_reducible first | apply gT | apply gS2); first | exact rfl | assumption | omega | exact ⟨⟩) | ((with_reducible first | apply gL0 | apply gL1 | apply gL2 | apply gL3 | apply gL4); assumption)))
          refine t_again ⟨rfl, rfl, ?_⟩
          have hi0 : i = 0 := by omega
          subst hi0
          unfold lateB; rw [e3']; rfl
    rintro vs _ ⟨rfl, rfl, hq⟩
    (repeat (first | (with_reducible first | apply gA | apply gB | apply gC | apply gD | apply gE | apply gF | apply gG | apply gH | apply gI | apply gJ | apply gK | apply gL | apply gM | apply gN | apply gO | apply gP | apply gQ | apply gR) | ((with_reducible first | apply gT | apply gS2); first | exact rfl | assumption | omega | exact ⟨⟩) | ((with_reducible first | apply gL0 | apply gL1 | apply gL2 | apply gL3 | apply gL4); assumption)))
    refine t_pu (c49 _ _ _) ?_
    rw [hw]
    (repeat (first | (with_reducible first | apply gA | apply gB | apply gC | apply gD | apply gE | apply gF | apply gG | apply gH | apply gI | apply gJ | apply gK | apply gL | apply gM | apply gN | apply gO | apply gP | apply gQ | apply gR) | ((with_reducible first | apply gT | apply gS2); first | exact rfl | assumption | omega | exact ⟨⟩) | ((with_reducible first | apply gL0 | apply gL1 | apply gL2 | apply gL3 | apply gL4); assumption)))
    refine t_cond (fun b => ?_) (fun b => ?_)
    · (repeat (first | (with_reducible first | apply gA | apply gB | apply gC | apply gD | apply gE | apply gF | apply gG | apply gH | apply gI | apply gJ | apply gK | apply gL | apply gM | apply gN | apply gO | apply gP | apply gQ | apply gR) | ((with_reducible first | apply gT | apply gS2); first | exact rfl | assumption | omega | exact ⟨⟩) | ((with_reducible first | apply gL0 | apply gL1 | apply gL2 | apply gL3 | apply gL4); assumption)))
      have b' : isIn x.land 0 (u.lands - 1) = false := by simpa using b
      exact t_ret ⟨by rw [stop 6 (by omega) (by rw [requestF_eq, if_neg b1, hq, if_neg (by simp), if_pos b'])], rfl⟩
    have b2 : ¬ isIn x.land 0 (u.lands - 1) = false := by simp at b; simp [b]
    refine t_pu (c72 e5 (num_items hnum)) ?_
    (repeat (first | (with_reducible first | apply gA | apply gB | apply gC | apply gD | apply gE | apply gF | apply gG | apply gH | apply gI | apply gJ | apply gK | apply gL | apply gM | apply gN | apply gO | apply gP | apply gQ | apply gR) | ((with_reducible first | apply gT | apply gS2); first | exact rfl | assumption | omega | exact ⟨⟩) | ((with_reducible first | apply gL0 | apply gL1 | apply gL2 | apply gL3 | apply gL4); assumption)))
    have hr : requestF u i x = risesF x.items u.items := by rw [requestF_eq, if_neg b1, hq, if_neg (by simp), if_neg b2]
    refine t_cond (fun b => ?_) (fun b => ?_)
    · (repeat (first | (with_reducible first | apply gA | apply gB | apply gC | apply gD | apply gE | apply gF | apply gG | apply gH | apply gI | apply gJ | apply gK | apply gL | apply gM | apply gN | apply gO | apply gP | apply gQ | apply gR) | ((with_reducible first | apply gT | apply gS2); first | exact rfl | assumption | omega | exact ⟨⟩) | ((with_reducible first | apply gL0 | apply gL1 | apply gL2 | apply gL3 | apply gL4); assumption)))
      exact t_ret ⟨by rw [stop _ (by simpa using b) hr], rfl⟩
    · exact t_again (next (by rw [hr]; simpa using b))
  · (repeat (first | (with_reducible first | apply gA | apply gB | apply gC | apply gD | apply gE | apply gF | apply gG | apply gH | apply gI | apply gJ | apply gK | apply gL | apply gM | apply gN | apply gO | apply gP | apply gQ | apply gR) | ((with_reducible first | apply gT | apply gS2); first | exact rfl | assumption | omega | exact ⟨⟩) | ((with_reducible first | apply gL0 | apply gL1 | apply gL2 | apply gL3 | apply gL4); assumption)))
    rw [List.drop_eq_nil_of_le (by omega)] at hc
    exact t_ret ⟨by rw [hc]; rfl, rfl⟩
theorem c27 {h : LH} {f : FileC} {u : UseFile} (hu : FileR h.get f u) : Pu Tryd.prog 22 #[fileV f u] h (.int .i64 (checkF u)) := by
  refine w27 _ _ _ _ _ _ _ _ _ _ _ _ _ X0_ok ?_
  unfold n27
  have bad : numbersF u ≠ 0 → checkF u = 1 := by
    intro hz
    have : numbersF u = 1 := by unfold numbersF at hz ⊢; split at hz <;> simp_all
    unfold checkF firstF
    rw [if_pos hz, this]
  refine t_blk (fun vs h' => vs = [.int .i64 0] ∧ h = h' ∧ numbersF u = 0) ?_ ?_
  · refine t_pu (c49 _ _ _) ?_
    (repeat (first | (with_reducible first | apply gA | apply gB | apply gC | apply gD | apply gE | apply gF | apply gG | apply gH | apply gI | apply gJ | apply gK | apply gL | apply gM | apply gN | apply gO | apply gP | apply gQ | apply gR) | ((with_reducible first | apply gT | apply gS2); first | exact rfl | assumption | omega | exact ⟨⟩) | ((with_reducible first | apply gL0 | apply gL1 | apply gL2 | apply gL3 | apply gL4); assumption)))
    refine t_cond (fun b1 => ?_) (fun b1 => ?_)
    · (repeat (first | (with_reducible first | apply gA | apply gB | apply gC | apply gD | apply gE | apply gF | apply gG | apply gH | apply gI | apply gJ | apply gK | apply gL | apply gM | apply gN | apply gO | apply gP | apply gQ | apply gR) | ((with_reducible first | apply gT | apply gS2); first | exact rfl | assumption | omega | exact ⟨⟩) | ((with_reducible first | apply gL0 | apply gL1 | apply gL2 | apply gL3 | apply gL4); assumption)))
      exact t_ret ⟨by rw [bad (by simp at b1; simp [numbersF, b1])], rfl⟩
    refine t_pu (c49 _ _ _) ?_
    (repeat (first | (with_reducible first | apply gA | apply gB | apply gC | apply gD | apply gE | apply gF | apply gG | apply gH | apply gI | apply gJ | apply gK | apply gL | apply gM | apply gN | apply gO | apply gP | apply gQ | apply gR) | ((with_reducible first | apply gT | apply gS2); first | exact rfl | assumption | omega | exact ⟨⟩) | ((with_reducible first | apply gL0 | apply gL1 | apply gL2 | apply gL3 | apply gL4); assumption)))
    refine t_cond (fun b2 => ?_) (fun b2 => ?_)
    · (repeat (first | (with_reducible first | apply gA | apply gB | apply gC | apply gD | apply gE | apply gF | apply gG | apply gH | apply gI | apply gJ | apply gK | apply gL | apply gM | apply gN | apply gO | apply gP | apply gQ | apply gR) | ((with_reducible first | apply gT | apply gS2); first | exact rfl | assumption | omega | exact ⟨⟩) | ((with_reducible first | apply gL0 | apply gL1 | apply gL2 | apply gL3 | apply gL4); assumption)))
      exact t_ret ⟨by rw [bad (by simp at b2; simp [numbersF, b2])], rfl⟩
    refine t_pu (c56 _) ?_
    (repeat (first | (with_reducible first | apply gA | apply gB | apply gC | apply gD | apply gE | apply gF | apply gG | apply gH | apply gI | apply gJ | apply gK | apply gL | apply gM | apply gN | apply gO | apply gP | apply gQ | apply gR) | ((with_reducible first | apply gT | apply gS2); first | exact rfl | assumption | omega | exact ⟨⟩) | ((with_reducible first | apply gL0 | apply gL1 | apply gL2 | apply gL3 | apply gL4); assumption)))
    refine t_cond (fun b3 => ?_) (fun b3 => ?_)
    · (repeat (first | (with_reducible first | apply gA | apply gB | apply gC | apply gD | apply gE | apply gF | apply gG | apply gH | apply gI | apply gJ | apply gK | apply gL | apply gM | apply gN | apply gO | apply gP | apply gQ | apply gR) | ((with_reducible first | apply gT | apply gS2); first | exact rfl | assumption | omega | exact ⟨⟩) | ((with_reducible first | apply gL0 | apply gL1 | apply gL2 | apply gL3 | apply gL4); assumption)))
      exact t_ret ⟨by rw [bad (by simp at b3; simp [numbersF, b3])], rfl⟩
    refine t_pu (c49 _ _ _) ?_
    (repeat (first | (with_reducible first | apply gA | apply gB | apply gC | apply gD | apply gE | apply gF | apply gG | apply gH | apply gI | apply gJ | apply gK | apply gL | apply gM | apply gN | apply gO | apply gP | apply gQ | apply gR) | ((with_reducible first | apply gT | apply gS2); first | exact rfl | assumption | omega | exact ⟨⟩) | ((with_reducible first | apply gL0 | apply gL1 | apply gL2 | apply gL3 | apply gL4); assumption)))
    refine t_cond (fun b4 => ?_) (fun b4 => ?_)
    · (repeat (first | (with_reducible first | apply gA | apply gB | apply gC | apply gD | apply gE | apply gF | apply gG | apply gH | apply gI | apply gJ | apply gK | apply gL | apply gM | apply gN | apply gO | apply gP | apply gQ | apply gR) | ((with_reducible first | apply gT | apply gS2); first | exact rfl | assumption | omega | exact ⟨⟩) | ((with_reducible first | apply gL0 | apply gL1 | apply gL2 | apply gL3 | apply gL4); assumption)))
      exact t_ret ⟨by rw [bad (by simp at b4; simp [numbersF, b4])], rfl⟩
    exact t_again ⟨rfl, rfl, by simp at b1 b2 b3 b4; simp [numbersF, b1, b2, b3, b4]⟩
  rintro vs _ ⟨rfl, rfl, hnum⟩
  (repeat (first | (with_reducible first | apply gA | apply gB | apply gC | apply gD | apply gE | apply gF | apply gG | apply gH | apply gI | apply gJ | apply gK | apply gL | apply gM | apply gN | apply gO | apply gP | apply gQ | apply gR) | ((with_reducible first | apply gT | apply gS2); first | exact rfl | assumption | omega | exact ⟨⟩) | ((with_reducible first | apply gL0 | apply gL1 | apply gL2 | apply gL3 | apply gL4); assumption)))
  refine t_pu (c66 hu.excuses) ?_
  (repeat (first | (with_reducible first | apply gA | apply gB | apply gC | apply gD | apply gE | apply gF | apply gG | apply gH | apply gI | apply gJ | apply gK | apply gL | apply gM | apply gN | apply gO | apply gP | apply gQ | apply gR) | ((with_reducible first | apply gT | apply gS2); first | exact rfl | assumption | omega | exact ⟨⟩) | ((with_reducible first | apply gL0 | apply gL1 | apply gL2 | apply gL3 | apply gL4); assumption)))
  have h0 : checkF u = firstF (fun _ x => x) 1 [excusesF u, papersF u, requestsF u] := by
    unfold checkF; rw [firstF, if_neg (by simp [hnum])]
  rw [firstF] at h0
  refine t_cond (fun b => ?_) (fun b => ?_)
  · rw [if_pos (show excusesF u ≠ 0 by simpa [excusesF] using b)] at h0
    exact t_ret ⟨by rw [h0]; rfl, rfl⟩
  rw [if_neg (show ¬ excusesF u ≠ 0 by simpa [excusesF] using b), firstF] at h0
  refine t_pu (c67 hu hnum) ?_
  (repeat (first | (with_reducible first | apply gA | apply gB | apply gC | apply gD | apply gE | apply gF | apply gG | apply gH | apply gI | apply gJ | apply gK | apply gL | apply gM | apply gN | apply gO | apply gP | apply gQ | apply gR) | ((with_reducible first | apply gT | apply gS2); first | exact rfl | assumption | omega | exact ⟨⟩) | ((with_reducible first | apply gL0 | apply gL1 | apply gL2 | apply gL3 | apply gL4); assumption)))
  refine t_cond (fun b => ?_) (fun b => ?_)
  · rw [if_pos (by simpa using b)] at h0
    exact t_ret ⟨by rw [h0], rfl⟩
  rw [if_neg (by simpa using b), firstF] at h0
  refine t_pu (c68 hu hnum) ?_
  (repeat (first | (with_reducible first | apply gA | apply gB | apply gC | apply gD | apply gE | apply gF | apply gG | apply gH | apply gI | apply gJ | apply gK | apply gL | apply gM | apply gN | apply gO | apply gP | apply gQ | apply gR) | ((with_reducible first | apply gT | apply gS2); first | exact rfl | assumption | omega | exact ⟨⟩) | ((with_reducible first | apply gL0 | apply gL1 | apply gL2 | apply gL3 | apply gL4); assumption)))
  refine t_ret ⟨?_, rfl⟩
  rw [h0]
  by_cases e : requestsF u = 0
  · rw [if_neg (by simp [e]), e]; rfl
  · rw [if_pos e]
end Go.Proofs.YtopkdkedjkidhaaDoor
end
section
namespace Go.Proofs.YtopkdkedjkidhaaDoor
open Go Go.TM Go.Proofs
attribute [local irreducible] T.wp CV FWK
theorem c88 {h : LH} (p : Option Addr) (land item : Int) : Gr Tryd.prog 92 #[.pointer p, .int .i64 land, .int .i64 item] h fun r h' => ∃ z0 z1 z2, r = .func (.func 109) #[] #[.pointer (some z0), .pointer (some z1), .pointer (some z2)] ∧
    h'.get.cell? z0 = some (.pointer p) ∧ h'.get.cell? z1 = some (.int .i64 land) ∧ h'.get.cell? z2 = some (.int .i64 item) := by
  refine w88 _ _ _ X0_ok ?_
  unfold n88
  refine t_new fun r hr => ?_
  refine t_new fun r1 hr1 => ?_
  refine t_new fun r2 hr2 => ?_
  have l1 : h.le _ := LH.upd_le (x := (true, .cells #[.pointer p] 86 (0, 0))) hr
  have l2 := LH.upd_le (x := (true, .cells #[.int .i64 land] 3 (0, 0))) hr1
  have l3 := LH.upd_le (x := (true, .cells #[.int .i64 item] 3 (0, 0))) hr2
  have c1 : Cells.cell? (h.get.upd r (true, .cells #[.pointer p] 86 (0, 0))) ⟨r, 0, none⟩ = some (.pointer p) := cell_upd rfl
  have c2 : Cells.cell? ((h.get.upd r (true, .cells #[.pointer p] 86 (0, 0))).upd r1 (true, .cells #[.int .i64 land] 3 (0, 0))) ⟨r1, 0, none⟩ = some (.int .i64 land) := cell_upd rfl
  have c3 : Cells.cell? (((h.get.upd r (true, .cells #[.pointer p] 86 (0, 0))).upd r1 (true, .cells #[.int .i64 land] 3 (0, 0))).upd r2 (true, .cells #[.int .i64 item] 3 (0, 0))) ⟨r2, 0, none⟩ = some (.int .i64 item) := cell_upd rfl
  exact t_ret ⟨LH.le_trans (LH.le_trans l1 l2) l3, _, _, _, rfl, Cells.cell?_le l3.1 (Cells.cell?_le l2.1 c1), Cells.cell?_le l3.1 c2, c3⟩
def handed (V : Nat → Value) (s : Paper → Bool) : List Paper → Nat → List (List Value)
  | [], _ => []
  | x :: l, i => if s x then [V i] :: handed V s l (i + 1) else handed V s l (i + 1)
theorem handed_len (V : Nat → Value) (s : Paper → Bool) : ∀ (l : List Paper) (i : Nat), (handed V s l i).length = (l.filter s).length := by
  intro l
  induction l with
  | nil => intro i; rfl
  | cons x l ih => intro i; rw [handed, List.filter_cons]; split <;> simp [ih]
theorem handed_get (V : Nat → Value) (s : Paper → Bool) : ∀ (l : List Paper) (i k : Nat) xs, (handed V s l i)[k]? = some xs → ∃ x j, (l.filter s)[k]? = some x ∧ l[j]? = some x ∧ xs = [V (i + j)] := by
  intro l
  induction l with
  | nil => intro i k xs h; simp [handed] at h
  | cons x l ih =>
    intro i k xs h
    rw [handed] at h
    rw [List.filter_cons]
    split at h
    · rename_i hs
      rw [if_pos hs]
      cases k with
      | zero => simp at h; exact ⟨x, 0, rfl, rfl, by simp [← h]⟩
      | succ k =>
        obtain ⟨y, j, h1, h2, h3⟩ := ih (i + 1) k xs (by simpa using h)
        exact ⟨y, j + 1, by simpa using h1, by simpa using h2, by rw [h3, show i + 1 + j = i + (j + 1) by omega]⟩
    · rename_i hs
      rw [if_neg hs]
      obtain ⟨y, j, h1, h2, h3⟩ := ih (i + 1) k xs h
      exact ⟨y, j + 1, h1, by simpa using h2, by rw [h3, show i + 1 + j = i + (j + 1) by omega]⟩
theorem hands99 {X : XP} (hX : XOK X) {h₀ : LH} {d : Nat} {z0 z1 z2 : Addr} {land item : Int} {p : Option Addr} {n c : Nat} {ps : List Paper} (hz0 : h₀.get.cell? z0 = some (.pointer (some ⟨d, 0, none⟩))) (hz1 : h₀.get.cell? z1 = some (.int .i64 land)) (hz2 : h₀.get.cell? z2 = some (.int .i64 item))
    (h5 : h₀.get.cell? (Addr.add ⟨d, 0, none⟩ 5) = some (.slice p n c)) (hs : Sl PaperE 4 h₀.get p n ps) :
    ∃ L, L.length = (ps.filter (showsB land item)).length ∧ (∀ (i : Nat) xs, L[i]? = some xs → ∃ x q m c, (ps.filter (showsB land item))[i]? = some x ∧ xs = [paperV x q m c] ∧ Sl IntE 1 h₀.get q m x.items) ∧
      Hands X Tryd.prog (.func (.func 109) #[] #[.pointer (some z0), .pointer (some z1), .pointer (some z2)]) h₀ L := by
  let R : Nat → Value → Prop := fun i v => ∃ x a q m c, ps[i]? = some x ∧ p = some a ∧ v = paperV x q m c ∧ h₀.get.cell? ((a.add (i * 4)).add 0) = some (.int .i64 x.days.first) ∧ h₀.get.cell? ((a.add (i * 4)).add 1) = some (.int .i64 x.days.last) ∧ h₀.get.cell? ((a.add (i * 4)).add 2) = some (.int .i64 x.land) ∧ h₀.get.cell? ((a.add (i * 4)).add 3) = some (.slice q m c) ∧ Sl IntE 1 h₀.get q m x.items
  have hR : ∀ i x, ps[i]? = some x → ∃ v, R i v := by
    intro i x hx
    obtain ⟨a, ha, e1, e2, e3, q, m, k, e4, e5⟩ := hs.2.2 i x hx
    exact ⟨_, x, a, q, m, k, hx, ha, rfl, e1, e2, e3, e4, e5⟩
  let V : Nat → Value := fun i => Classical.epsilon (R i)
  have hV : ∀ i x, ps[i]? = some x → R i (V i) := fun i x hx => Classical.epsilon_spec (hR i x hx)
  refine ⟨handed V (showsB land item) ps 0, handed_len _ _ _ _, ?_, ?_⟩
  · intro i xs hi
    obtain ⟨x, j, h1, h2, h3⟩ := handed_get _ _ _ _ _ _ hi
    rw [Nat.zero_add] at h3
    obtain ⟨x', a, q, m, k, g1, _, g3, _, _, _, _, g8⟩ := hV j x h2
    rw [h2] at g1; cases g1
    exact ⟨x, q, m, k, h1, by rw [h3, g3], g8⟩
  · intro y J E _ _ hyield h hle hJ
    generalize hL : handed V (showsB land item) ps 0 = L at hyield ⊢
    refine cv_fw hX (by rfl) (?_ : FW X Tryd.prog 109 #[y, .pointer (some z0), .pointer (some z1), .pointer (some z2)] h _)
    refine w99 _ _ _ _ hX ?_
    unfold n99
    have hn := hs.1
    have hb := hs.2.1
    have y0 := Cells.cell?_le hle.1 hz0
    have y5 := Cells.cell?_le hle.1 h5
    refine gL3 y0 ?_
    refine gS2 rfl ?_
    refine gL1 y5 ?_
    refine t_loop (fun mm vs h' => h₀.le h' ∧ ∃ (j cnt : Nat), vs = [.int .i64 j] ∧ j ≤ n ∧ mm = n - j ∧ J cnt h' ∧ cnt ≤ L.length ∧ L.drop cnt = handed V (showsB land item) (ps.drop j) j) (n := n) ⟨hle, 0, 0, rfl, Nat.zero_le _, by omega, hJ, Nat.zero_le _, by rw [← hL]; rfl⟩ ?_
    rintro Y mm vs h₁ hY ⟨le1, j, cnt, rfl, hj, rfl, hJ1, hcl, hdrop⟩
    (repeat (first | (with_reducible first | apply gA | apply gB | apply gC | apply gD | apply gE | apply gF | apply gG | apply gH | apply gI | apply gJ | apply gK | apply gL | apply gM | apply gN | apply gO | apply gP | apply gQ | apply gR) | ((with_reducible first | apply gT | apply gS2); first | exact rfl | assumption | omega | exact ⟨⟩) | ((with_reducible first | apply gL0 | apply gL1 | apply gL2 | apply gL3 | apply gL4); assumption)))
    refine t_if (fun e1 => ?_) (fun e1 => ?_)
    · obtain ⟨x, hx⟩ : ∃ x, ps[j]? = some x := ⟨ps[j]'(by omega), List.getElem?_eq_getElem (by omega)⟩
      obtain ⟨x', a, q, m, k, g1, ha, hVj, c0, c1, c2, c3, hit⟩ := hV j x hx
      rw [hx] at g1; cases g1
      have d0 := Cells.cell?_le le1.1 c0
      have d1 := Cells.cell?_le le1.1 c1
      have d2 := Cells.cell?_le le1.1 c2
      have d3 := Cells.cell?_le le1.1 c3
      have w1 := Cells.cell?_le le1.1 hz1
      have w2 := Cells.cell?_le le1.1 hz2
      rw [drop_of hx, handed] at hdrop
      (repeat (first | (with_reducible first | apply gA | apply gB | apply gC | apply gD | apply gE | apply gF | apply gG | apply gH | apply gI | apply gJ | apply gK | apply gL | apply gM | apply gN | apply gO | apply gP | apply gQ | apply gR) | ((with_reducible first | apply gT | apply gS2); first | exact rfl | assumption | omega | exact ⟨⟩) | ((with_reducible first | apply gL0 | apply gL1 | apply gL2 | apply gL3 | apply gL4); assumption)))
      have skip : showsB land item x = false → (T.leaf (.again [.int .i64 (IntKind.wrap .i64 ((j : Int) + 1))])).wp X Tryd.prog (fun l h' => l.go h' Y (fun vs h' => T.wp X Tryd.prog (T.popI .i64 vs fun n vs => T.unNil vs (T.leaf (.ret (.tuple #[])))) (retQ fun _ h' => h₀.le h' ∧ (J L.length h' ∨ E h')) h') (fun vs h' => T.wp X Tryd.prog (T.popI .i64 vs fun n vs => T.unNil vs (T.leaf (.ret (.tuple #[])))) (retQ fun _ h' => h₀.le h' ∧ (J L.length h' ∨ E h')) h') (fun _ _ h' => T.wp X Tryd.prog .fail (retQ fun _ h' => h₀.le h' ∧ (J L.length h' ∨ E h')) h')) h₁ := by
        intro hno
        rw [if_neg (by rw [hno]; simp)] at hdrop
        refine t_again (hY (n - (j + 1)) _ _ (by omega) ⟨le1, j + 1, cnt, ?_, by omega, rfl, hJ1, hcl, hdrop⟩)
        rw [wrap_id (by omega) (by omega)]; rfl
      refine t_cond (fun e2 => ?_) (fun e2 => ?_)
      · (repeat (first | (with_reducible first | apply gA | apply gB | apply gC | apply gD | apply gE | apply gF | apply gG | apply gH | apply gI | apply gJ | apply gK | apply gL | apply gM | apply gN | apply gO | apply gP | apply gQ | apply gR) | ((with_reducible first | apply gT | apply gS2); first | exact rfl | assumption | omega | exact ⟨⟩) | ((with_reducible first | apply gL0 | apply gL1 | apply gL2 | apply gL3 | apply gL4); assumption)))
        refine t_pu (c100 (hit.le IntE.grow le1.1) item) ?_
        (repeat (first | (with_reducible first | apply gA | apply gB | apply gC | apply gD | apply gE | apply gF | apply gG | apply gH | apply gI | apply gJ | apply gK | apply gL | apply gM | apply gN | apply gO | apply gP | apply gQ | apply gR) | ((with_reducible first | apply gT | apply gS2); first | exact rfl | assumption | omega | exact ⟨⟩) | ((with_reducible first | apply gL0 | apply gL1 | apply gL2 | apply gL3 | apply gL4); assumption)))
        refine t_cond (fun e3 => ?_) (fun e3 => ?_)
        · have hsh : showsB land item x = true := by unfold showsB; rw [e2, e3]; rfl
          rw [if_pos hsh] at hdrop
          have hget : L[cnt]? = some [V j] := by
            have : (L.drop cnt)[0]? = some [V j] := by rw [hdrop]; rfl
            simpa using this
          have hlt : cnt < L.length := (List.getElem?_eq_some_iff.1 hget).1
          have hcv := hyield cnt h₁ [V j] le1 hget hJ1
          rw [hVj] at hcv
          refine t_callv hcv ?_
          rintro b h₂ ⟨le2, ⟨rfl, hJ2⟩ | ⟨rfl, hE⟩⟩
          · (repeat (first | (with_reducible first | apply gA | apply gB | apply gC | apply gD | apply gE | apply gF | apply gG | apply gH | apply gI | apply gJ | apply gK | apply gL | apply gM | apply gN | apply gO | apply gP | apply gQ | apply gR) | ((with_reducible first | apply gT | apply gS2); first | exact rfl | assumption | omega | exact ⟨⟩) | ((with_reducible first | apply gL0 | apply gL1 | apply gL2 | apply gL3 | apply gL4); assumption)))
            refine t_cond (fun e => by cases e) (fun _ => ?_)
            refine t_again (hY (n - (j + 1)) _ _ (by omega) ⟨le2, j + 1, cnt + 1, ?_, by omega, rfl, hJ2, by omega, ?_⟩)
            · rw [wrap_id (by omega) (by omega)]; rfl
            · rw [← List.drop_drop, hdrop]; rfl
          · (repeat (first | (with_reducible first | apply gA | apply gB | apply gC | apply gD | apply gE | apply gF | apply gG | apply gH | apply gI | apply gJ | apply gK | apply gL | apply gM | apply gN | apply gO | apply gP | apply gQ | apply gR) | ((with_reducible first | apply gT | apply gS2); first | exact rfl | assumption | omega | exact ⟨⟩) | ((with_reducible first | apply gL0 | apply gL1 | apply gL2 | apply gL3 | apply gL4); assumption)))
            refine t_cond (fun _ => ?_) (fun e => by cases e)
            (repeat (first | (with_reducible first | apply gA | apply gB | apply gC | apply gD | apply gE | apply gF | apply gG | apply gH | apply gI | apply gJ | apply gK | apply gL | apply gM | apply gN | apply gO | apply gP | apply gQ | apply gR) | ((with_reducible first | apply gT | apply gS2); first | exact rfl | assumption | omega | exact ⟨⟩) | ((with_reducible first | apply gL0 | apply gL1 | apply gL2 | apply gL3 | apply gL4); assumption)))
            exact t_ret ⟨le2, .inr hE⟩
        · exact skip (by unfold showsB; rw [e2, e3]; rfl)
      · exact skip (by unfold showsB; rw [e2]; rfl)
    · (repeat (first | (with_reducible first | apply gA | apply gB | apply gC | apply gD | apply gE | apply gF | apply gG | apply gH | apply gI | apply gJ | apply gK | apply gL | apply gM | apply gN | apply gO | apply gP | apply gQ | apply gR) | ((with_reducible first | apply gT | apply gS2); first | exact rfl | assumption | omega | exact ⟨⟩) | ((with_reducible first | apply gL0 | apply gL1 | apply gL2 | apply gL3 | apply gL4); assumption)))
      refine t_ret ⟨le1, .inl ?_⟩
      rw [List.drop_eq_nil_of_le (by omega : ps.length ≤ j), handed] at hdrop
      have : L.length ≤ cnt := List.drop_eq_nil_iff.1 hdrop
      obtain rfl : cnt = L.length := by omega
      exact hJ1
end Go.Proofs.YtopkdkedjkidhaaDoor
end
section
namespace Go.Proofs.YtopkdkedjkidhaaDoor
open Go Go.TM Go.Proofs
attribute [local irreducible] T.wp CV FWK
theorem g30 : Tryd.prog.eqGuardType Tryd.prog.depth 30 = false := by kernel_rfl
theorem c60 {h : LH} {d m : Nat} {f : FileC} {u : UseFile} (k : Desk h.get d m f u) (hnum : numbersF u = 0) (land item day : Int) (hd : 0 ≤ day ∧ day ≤ 2000) :
    De 51 #[.pointer (some ⟨d, 0, none⟩), .int .i64 land, .int .i64 item, .int .i64 day] h d m f u fun r _ => r = .int .i64 (safe u land item day) := by
  refine w60 _ _ _ _ X0_ok ?_
  unfold n60
  refine t_de (c55 k (num_ok hnum).2.2.2 day hd) ?_
  rintro _ h₁ mv k1 rfl
  obtain ⟨f0, f1, f2, f3, f4, f5, f6⟩ := k1.file
  (repeat (first | (with_reducible first | apply gA | apply gB | apply gC | apply gD | apply gE | apply gF | apply gG | apply gH | apply gI | apply gJ | apply gK | apply gL | apply gM | apply gN | apply gO | apply gP | apply gQ | apply gR) | ((with_reducible first | apply gT | apply gS2); first | exact rfl | assumption | omega | exact ⟨⟩) | ((with_reducible first | apply gL0 | apply gL1 | apply gL2 | apply gL3 | apply gL4); assumption)))
  refine t_pu (c81 _ _ _) ?_
  (repeat (first | (with_reducible first | apply gA | apply gB | apply gC | apply gD | apply gE | apply gF | apply gG | apply gH | apply gI | apply gJ | apply gK | apply gL | apply gM | apply gN | apply gO | apply gP | apply gQ | apply gR) | ((with_reducible first | apply gT | apply gS2); first | exact rfl | assumption | omega | exact ⟨⟩) | ((with_reducible first | apply gL0 | apply gL1 | apply gL2 | apply gL3 | apply gL4); assumption)))
  refine t_cond (fun e => ?_) (fun e => ?_)
  · exact t_ret ⟨mv, k1, by rw [safe, if_pos e]⟩
  refine t_gr (c88 _ _ _) ?_
  rintro _ h₂ le2 ⟨z0, z1, z2, rfl, hz0, hz1, hz2⟩
  have k2 := k1.le le2.1
  obtain ⟨L, hL1, hL2, hH⟩ := hands99 X0_ok hz0 hz1 hz2 k2.file.f5 k2.rep.papers
  refine t_each (LH.le_refl h₂) hH (fun i vs h' => ∃ out, vs = [.int .i64 0, .int .i64 out] ∧ safe u land item day = safeGo (window u day) ((shown u land item).drop i) out) ⟨2, rfl, by rw [safe, if_neg (by rw [e]; simp)]; rfl⟩ ?_ ?_
  · rintro vs h' hle ⟨out, rfl, hc⟩
    rw [List.drop_eq_nil_of_le (by rw [hL1]; exact Nat.le_refl _), safeGo] at hc
    (repeat (first | (with_reducible first | apply gA | apply gB | apply gC | apply gD | apply gE | apply gF | apply gG | apply gH | apply gI | apply gJ | apply gK | apply gL | apply gM | apply gN | apply gO | apply gP | apply gQ | apply gR) | ((with_reducible first | apply gT | apply gS2); first | exact rfl | assumption | omega | exact ⟨⟩) | ((with_reducible first | apply gL0 | apply gL1 | apply gL2 | apply gL3 | apply gL4); assumption)))
    exact t_ret ⟨mv.trans (Mv.of_le (LH.le_trans le2 hle)), k2.le hle.1, by rw [hc]⟩
  · rintro i xs vs h' hi hle ⟨out, rfl, hc⟩ Y hY
    obtain ⟨x, q, n, c, hx, rfl, hit⟩ := hL2 i xs hi
    have hx' : (shown u land item)[i]? = some x := hx
    rw [drop_of hx', safeGo] at hc
    unfold paperV
    (repeat (first | (with_reducible first | apply gA | apply gB | apply gC | apply gD | apply gE | apply gF | apply gG | apply gH | apply gI | apply gJ | apply gK | apply gL | apply gM | apply gN | apply gO | apply gP | apply gQ | apply gR) | ((with_reducible first | apply gT | apply gS2); first | exact rfl | assumption | omega | exact ⟨⟩) | ((with_reducible first | apply gL0 | apply gL1 | apply gL2 | apply gL3 | apply gL4); assumption)))
    refine t_eq2 two30 g30 ?_
    (repeat (first | (with_reducible first | apply gA | apply gB | apply gC | apply gD | apply gE | apply gF | apply gG | apply gH | apply gI | apply gJ | apply gK | apply gL | apply gM | apply gN | apply gO | apply gP | apply gQ | apply gR) | ((with_reducible first | apply gT | apply gS2); first | exact rfl | assumption | omega | exact ⟨⟩) | ((with_reducible first | apply gL0 | apply gL1 | apply gL2 | apply gL3 | apply gL4); assumption)))
    refine t_cond (fun e2 => ?_) (fun e2 => ?_)
    · refine t_retnE hle ?_
      have e2' : insideB (window u day) x.days = true := e2
      rw [if_pos e2'] at hc
      (repeat (first | (with_reducible first | apply gA | apply gB | apply gC | apply gD | apply gE | apply gF | apply gG | apply gH | apply gI | apply gJ | apply gK | apply gL | apply gM | apply gN | apply gO | apply gP | apply gQ | apply gR) | ((with_reducible first | apply gT | apply gS2); first | exact rfl | assumption | omega | exact ⟨⟩) | ((with_reducible first | apply gL0 | apply gL1 | apply gL2 | apply gL3 | apply gL4); assumption)))
      exact t_ret ⟨mv.trans (Mv.of_le (LH.le_trans le2 hle)), k2.le hle.1, by rw [hc]⟩
    · have e2' : insideB (window u day) x.days = false := e2
      rw [if_neg (by rw [e2']; simp)] at hc
      refine t_cond (fun e3 => ?_) (fun e3 => ?_)
      · have e3' : meetsB (window u day) x.days = true := e3
        rw [if_pos e3'] at hc
        exact t_againE hle (hY _ _ hle ⟨0, rfl, hc⟩)
      · have e3' : meetsB (window u day) x.days = false := e3
        rw [if_neg (by rw [e3']; simp)] at hc
        exact t_againE hle (hY _ _ hle ⟨out, rfl, hc⟩)
def safeR (u : UseFile) (land item day : Int) : Value :=
  if openF u [landQ u land, itemQ u item, dayQ day] ≠ 0 then .tuple #[.int .i64 0, .int .i64 (openF u [landQ u land, itemQ u item, dayQ day])] else .tuple #[.int .i64 (safe u land item day), .int .i64 0]
theorem c19 {h : LH} {f : FileC} {u : UseFile} (hp : Parts h.get) (hu : FileR h.get f u) (land item day : Int) : Gr Tryd.prog 14 #[fileV f u, .int .i64 land, .int .i64 item, .int .i64 day] h fun r _ => r = safeR u land item day := by
  refine w19 _ _ _ _ _ _ _ _ _ _ _ _ _ _ _ _ X0_ok ?_
  unfold n19
  refine t_gr (c58 u land) ?_
  rintro v0 h₁ le1 ⟨q0, a0⟩
  (repeat (first | (with_reducible first | apply gA | apply gB | apply gC | apply gD | apply gE | apply gF | apply gG | apply gH | apply gI | apply gJ | apply gK | apply gL | apply gM | apply gN | apply gO | apply gP | apply gQ | apply gR) | ((with_reducible first | apply gT | apply gS2); first | exact rfl | assumption | omega | exact ⟨⟩) | ((with_reducible first | apply gL0 | apply gL1 | apply gL2 | apply gL3 | apply gL4); assumption)))
  refine t_gr (c59 u item) ?_
  rintro v1 h₂ le2 ⟨q1, a1⟩
  (repeat (first | (with_reducible first | apply gA | apply gB | apply gC | apply gD | apply gE | apply gF | apply gG | apply gH | apply gI | apply gJ | apply gK | apply gL | apply gM | apply gN | apply gO | apply gP | apply gQ | apply gR) | ((with_reducible first | apply gT | apply gS2); first | exact rfl | assumption | omega | exact ⟨⟩) | ((with_reducible first | apply gL0 | apply gL1 | apply gL2 | apply gL3 | apply gL4); assumption)))
  refine t_gr (c54 u day) ?_
  rintro v2 h₃ le3 ⟨q2, a2⟩
  (repeat (first | (with_reducible first | apply gA | apply gB | apply gC | apply gD | apply gE | apply gF | apply gG | apply gH | apply gI | apply gJ | apply gK | apply gL | apply gM | apply gN | apply gO | apply gP | apply gQ | apply gR) | ((with_reducible first | apply gT | apply gS2); first | exact rfl | assumption | omega | exact ⟨⟩) | ((with_reducible first | apply gL0 | apply gL1 | apply gL2 | apply gL3 | apply gL4); assumption)))
  refine asks3 q0 (a0.le (LH.le_trans le2 le3)) q1 (a1.le le3) q2 a2 fun r h₄ le4 hs => ?_
  (repeat (first | (with_reducible first | apply gA | apply gB | apply gC | apply gD | apply gE | apply gF | apply gG | apply gH | apply gI | apply gJ | apply gK | apply gL | apply gM | apply gN | apply gO | apply gP | apply gQ | apply gR) | ((with_reducible first | apply gT | apply gS2); first | exact rfl | assumption | omega | exact ⟨⟩) | ((with_reducible first | apply gL0 | apply gL1 | apply gL2 | apply gL3 | apply gL4); assumption)))
  have le14 := LH.le_trans (LH.le_trans (LH.le_trans le1 le2) le3) le4
  refine t_call (c53 (f := f) (hp.le le14.1) (hu.le le14.1) hs) ?_
  rintro v h₅ ⟨le5, ⟨hne, rfl⟩ | ⟨h0, d, m, rfl, hd, hm, k⟩⟩
  · (repeat (first | (with_reducible first | apply gA | apply gB | apply gC | apply gD | apply gE | apply gF | apply gG | apply gH | apply gI | apply gJ | apply gK | apply gL | apply gM | apply gN | apply gO | apply gP | apply gQ | apply gR) | ((with_reducible first | apply gT | apply gS2); first | exact rfl | assumption | omega | exact ⟨⟩) | ((with_reducible first | apply gL0 | apply gL1 | apply gL2 | apply gL3 | apply gL4); assumption)))
    refine t_cond (fun _ => ?_) (fun e => absurd (by simpa using e) hne)
    refine t_ret ⟨LH.le_trans le14 le5, ?_⟩
    show _ = safeR u land item day
    rw [safeR, if_pos hne]
  · (repeat (first | (with_reducible first | apply gA | apply gB | apply gC | apply gD | apply gE | apply gF | apply gG | apply gH | apply gI | apply gJ | apply gK | apply gL | apply gM | apply gN | apply gO | apply gP | apply gQ | apply gR) | ((with_reducible first | apply gT | apply gS2); first | exact rfl | assumption | omega | exact ⟨⟩) | ((with_reducible first | apply gL0 | apply gL1 | apply gL2 | apply gL3 | apply gL4); assumption)))
    refine t_cond (fun e => by cases e) (fun _ => ?_)
    have hq := dayQ_zero (open_zero h0 _ (by simp; exact .inr (.inr rfl)))
    refine t_de (c60 k (open_num h0).1 land item day hq) ?_
    rintro _ h₆ mv k6 rfl
    (repeat (first | (with_reducible first | apply gA | apply gB | apply gC | apply gD | apply gE | apply gF | apply gG | apply gH | apply gI | apply gJ | apply gK | apply gL | apply gM | apply gN | apply gO | apply gP | apply gQ | apply gR) | ((with_reducible first | apply gT | apply gS2); first | exact rfl | assumption | omega | exact ⟨⟩) | ((with_reducible first | apply gL0 | apply gL1 | apply gL2 | apply gL3 | apply gL4); assumption)))
    refine t_ret ⟨LH.le_trans le14 (Mv.le_of le5 hm mv), ?_⟩
    show _ = safeR u land item day
    rw [safeR, if_neg (by simpa using h0)]
def weakR (u : UseFile) (land item : Int) : Value :=
  if openF u [landQ u land, itemQ u item] ≠ 0 then .tuple #[.int .i64 0, .int .i64 (openF u [landQ u land, itemQ u item])] else .tuple #[.int .i64 (weak u land item), .int .i64 0]
theorem c21 {h : LH} {f : FileC} {u : UseFile} (hp : Parts h.get) (hu : FileR h.get f u) (land item : Int) : Gr Tryd.prog 16 #[fileV f u, .int .i64 land, .int .i64 item] h fun r _ => r = weakR u land item := by
  refine w21 _ _ _ _ _ _ _ _ _ _ _ _ _ _ _ X0_ok ?_
  unfold n21
  refine t_gr (c58 u land) ?_
  rintro v0 h₁ le1 ⟨q0, a0⟩
  (repeat (first | (with_reducible first | apply gA | apply gB | apply gC | apply gD | apply gE | apply gF | apply gG | apply gH | apply gI | apply gJ | apply gK | apply gL | apply gM | apply gN | apply gO | apply gP | apply gQ | apply gR) | ((with_reducible first | apply gT | apply gS2); first | exact rfl | assumption | omega | exact ⟨⟩) | ((with_reducible first | apply gL0 | apply gL1 | apply gL2 | apply gL3 | apply gL4); assumption)))
  refine t_gr (c59 u item) ?_
  rintro v1 h₂ le2 ⟨q1, a1⟩
  (repeat (first | (with_reducible first | apply gA | apply gB | apply gC | apply gD | apply gE | apply gF | apply gG | apply gH | apply gI | apply gJ | apply gK | apply gL | apply gM | apply gN | apply gO | apply gP | apply gQ | apply gR) | ((with_reducible first | apply gT | apply gS2); first | exact rfl | assumption | omega | exact ⟨⟩) | ((with_reducible first | apply gL0 | apply gL1 | apply gL2 | apply gL3 | apply gL4); assumption)))
  refine asks2 q0 (a0.le le2) q1 a1 fun r h₄ le4 hs => ?_
  (repeat (first | (with_reducible first | apply gA | apply gB | apply gC | apply gD | apply gE | apply gF | apply gG | apply gH | apply gI | apply gJ | apply gK | apply gL | apply gM | apply gN | apply gO | apply gP | apply gQ | apply gR) | ((with_reducible first | apply gT | apply gS2); first | exact rfl | assumption | omega | exact ⟨⟩) | ((with_reducible first | apply gL0 | apply gL1 | apply gL2 | apply gL3 | apply gL4); assumption)))
  have le14 := LH.le_trans (LH.le_trans le1 le2) le4
  refine t_call (c53 (f := f) (hp.le le14.1) (hu.le le14.1) hs) ?_
  rintro v h₅ ⟨le5, ⟨hne, rfl⟩ | ⟨h0, d, m, rfl, hd, hm, k⟩⟩
  · (repeat (first | (with_reducible first | apply gA | apply gB | apply gC | apply gD | apply gE | apply gF | apply gG | apply gH | apply gI | apply gJ | apply gK | apply gL | apply gM | apply gN | apply gO | apply gP | apply gQ | apply gR) | ((with_reducible first | apply gT | apply gS2); first | exact rfl | assumption | omega | exact ⟨⟩) | ((with_reducible first | apply gL0 | apply gL1 | apply gL2 | apply gL3 | apply gL4); assumption)))
    refine t_cond (fun _ => ?_) (fun e => absurd (by simpa using e) hne)
    refine t_ret ⟨LH.le_trans le14 le5, ?_⟩
    show _ = weakR u land item
    rw [weakR, if_pos hne]
  · (repeat (first | (with_reducible first | apply gA | apply gB | apply gC | apply gD | apply gE | apply gF | apply gG | apply gH | apply gI | apply gJ | apply gK | apply gL | apply gM | apply gN | apply gO | apply gP | apply gQ | apply gR) | ((with_reducible first | apply gT | apply gS2); first | exact rfl | assumption | omega | exact ⟨⟩) | ((with_reducible first | apply gL0 | apply gL1 | apply gL2 | apply gL3 | apply gL4); assumption)))
    refine t_cond (fun e => by cases e) (fun _ => ?_)
    have hnum := (open_num h0).1
    have hfrom := (num_ok hnum).2.2.1
    refine t_loop (fun mm vs h' => Mv m h₅ h' ∧ Desk h'.get d m f u ∧ ∃ x : Int, vs = [.int .i64 0, .int .i64 0, .int .i64 x] ∧ 0 ≤ x ∧ x ≤ 2001 ∧ mm = (2001 - x).toNat ∧ weak u land item = weakGo (fun d => decide (safe u land item d ≠ 1)) (2001 - x).toNat x)
      ⟨Mv.refl, k, u.from_, rfl, by omega, by omega, rfl, rfl⟩ ?_
    rintro Y mm vs h₆ hY ⟨mv, k6, x, rfl, hx0, hx1, rfl, hc⟩
    (repeat (first | (with_reducible first | apply gA | apply gB | apply gC | apply gD | apply gE | apply gF | apply gG | apply gH | apply gI | apply gJ | apply gK | apply gL | apply gM | apply gN | apply gO | apply gP | apply gQ | apply gR) | ((with_reducible first | apply gT | apply gS2); first | exact rfl | assumption | omega | exact ⟨⟩) | ((with_reducible first | apply gL0 | apply gL1 | apply gL2 | apply gL3 | apply gL4); assumption)))
    refine t_if (fun e1 => ?_) (fun e1 => ?_)
    · refine t_de (c60 k6 hnum land item x ⟨hx0, e1⟩) ?_
      rintro _ h₇ mv7 k7 rfl
      (repeat (first | (with_reducible first | apply gA | apply gB | apply gC | apply gD | apply gE | apply gF | apply gG | apply gH | apply gI | apply gJ | apply gK | apply gL | apply gM | apply gN | apply gO | apply gP | apply gQ | apply gR) | ((with_reducible first | apply gT | apply gS2); first | exact rfl | assumption | omega | exact ⟨⟩) | ((with_reducible first | apply gL0 | apply gL1 | apply gL2 | apply gL3 | apply gL4); assumption)))
      obtain ⟨y, hy⟩ : ∃ y, (2001 - x).toNat = y + 1 := ⟨(2000 - x).toNat, by omega⟩
      have hy' : (2001 - (x + 1)).toNat = y := by omega
      rw [hy, weakGo] at hc
      refine t_cond (fun e2 => ?_) (fun e2 => ?_)
      · (repeat (first | (with_reducible first | apply gA | apply gB | apply gC | apply gD | apply gE | apply gF | apply gG | apply gH | apply gI | apply gJ | apply gK | apply gL | apply gM | apply gN | apply gO | apply gP | apply gQ | apply gR) | ((with_reducible first | apply gT | apply gS2); first | exact rfl | assumption | omega | exact ⟨⟩) | ((with_reducible first | apply gL0 | apply gL1 | apply gL2 | apply gL3 | apply gL4); assumption)))
        refine t_ret ⟨LH.le_trans le14 (Mv.le_of le5 hm (mv.trans mv7)), ?_⟩
        show _ = weakR u land item
        rw [weakR, if_neg (by simpa using h0), hc, if_pos (by simpa using e2)]
      · rw [if_neg (by simpa using e2)] at hc
        refine t_again (hY (2001 - (x + 1)).toNat _ _ (by omega) ⟨mv.trans mv7, k7, x + 1, ?_, by omega, by omega, rfl, by rw [hy']; exact hc⟩)
        rw [wrap_id (by omega) (by omega)]
    · (repeat (first | (with_reducible first | apply gA | apply gB | apply gC | apply gD | apply gE | apply gF | apply gG | apply gH | apply gI | apply gJ | apply gK | apply gL | apply gM | apply gN | apply gO | apply gP | apply gQ | apply gR) | ((with_reducible first | apply gT | apply gS2); first | exact rfl | assumption | omega | exact ⟨⟩) | ((with_reducible first | apply gL0 | apply gL1 | apply gL2 | apply gL3 | apply gL4); assumption)))
      have h01 : (2001 - x).toNat = 0 := by omega
      rw [h01, weakGo] at hc
      refine t_ret ⟨LH.le_trans le14 (Mv.le_of le5 hm mv), ?_⟩
      show _ = weakR u land item
      rw [weakR, if_neg (by simpa using h0), hc]
end Go.Proofs.YtopkdkedjkidhaaDoor
end
section
namespace Go.TM
open Go Go.Conc
theorem OwnRow.le {el : TypeId} {k : Nat} {h h' : Cells} {p : Option Addr} {n c : Nat} {vs : List Value} (hl : h.le h') (o : OwnRow el k h p n c vs) : OwnRow el k h' p n c vs := by
  obtain ⟨h1, h2 | ⟨r, cs, e1, e2, e3, e4, e5⟩⟩ := o
  · exact ⟨h1, .inl h2⟩
  · exact ⟨h1, .inr ⟨r, cs, e1, hl _ _ e2, e3, e4, e5⟩⟩
def NewIn (h₀ : Cells) (p : Option Addr) : Prop := ∀ a, p = some a → h₀ a.block = none
theorem NewIn.none {h₀ : Cells} : NewIn h₀ none := fun a h => by cases h
theorem after_append {h₀ h h' : Cells} {p p' : Option Addr} (hle : h₀.le h) (hp : NewIn h₀ p) (hk : KeptBut p h h') (hp' : p' = p ∨ ∃ r, p' = some ⟨r, 0, none⟩ ∧ h r = none) : h₀.le h' ∧ NewIn h₀ p' := by
  refine ⟨fun r x hr => hk r x (hle r x hr) fun a ha e => ?_, ?_⟩
  · have := hp a ha; rw [e, hr] at this; cases this
  · rcases hp' with rfl | ⟨r, rfl, hr⟩
    · exact hp
    · intro a ha
      cases ha
      cases hx : h₀ r with
      | none => rfl
      | some x => rw [hle _ _ hx] at hr; cases hr
inductive Rows {α : Type} (Enc : α → List Value → Prop) : List Value → List α → Prop
  | nil : Rows Enc [] []
  | snoc {vs : List Value} {l : List α} {x : α} {ws : List Value} : Rows Enc vs l → Enc x ws → Rows Enc (vs ++ ws) (l ++ [x])
theorem Rows.len {α : Type} {Enc : α → List Value → Prop} {k : Nat} (hk : ∀ x ws, Enc x ws → ws.length = k) {vs : List Value} {l : List α} (r : Rows Enc vs l) : vs.length = l.length * k := by
  induction r with
  | nil => simp
  | snoc r he ih => simp [ih, hk _ _ he, Nat.add_mul]
theorem Rows.at {α : Type} {Enc : α → List Value → Prop} {k : Nat} (hk : ∀ x ws, Enc x ws → ws.length = k) {vs : List Value} {l : List α} (r : Rows Enc vs l) : ∀ (i : Nat) x, l[i]? = some x → ∃ ws, Enc x ws ∧ ∀ (j : Nat) w, ws[j]? = some w → vs[i * k + j]? = some w := by
  induction r with
  | nil => intro i x h; simp at h
  | snoc r he ih =>
    rename_i vs l y ws
    intro i x hi
    have hlen := r.len hk
    by_cases hlt : i < l.length
    · rw [List.getElem?_append_left hlt] at hi
      obtain ⟨us, h1, h2⟩ := ih i x hi
      refine ⟨us, h1, fun j w hj => ?_⟩
      have hjl : j < us.length := (List.getElem?_eq_some_iff.1 hj).1
      rw [hk _ _ h1] at hjl
      have : i * k + j < vs.length := by
        rw [hlen]
        calc i * k + j < i * k + k := by omega
          _ = (i + 1) * k := by rw [Nat.add_mul]; omega
          _ ≤ l.length * k := Nat.mul_le_mul_right _ hlt
      rw [List.getElem?_append_left this]; exact h2 j w hj
    · have hil : i = l.length := by
        have := (List.getElem?_eq_some_iff.1 hi).1
        simp at this; omega
      subst hil
      rw [List.getElem?_append_right (Nat.le_refl _), Nat.sub_self] at hi
      simp at hi; subst hi
      refine ⟨ws, he, fun j w hj => ?_⟩
      rw [List.getElem?_append_right (by omega), hlen]
      rw [show l.length * k + j - l.length * k = j by omega]; exact hj
theorem Rows.sl {α : Type} {E : Cells → Addr → α → Prop} {Enc : α → List Value → Prop} {el : TypeId} {k : Nat} {h' : Cells} {p : Option Addr} {n c : Nat} {vs : List Value} {l : List α} (hk : ∀ x ws, Enc x ws → ws.length = k) (hpos : 0 < k) (hE : ∀ a x ws, Enc x ws → (∀ (j : Nat) w, ws[j]? = some w → h'.cell? (a.add j) = some w) → E h' a x)
    (own : OwnRow el k h' p n c vs) (r : Rows Enc vs l) (hb : l.length < 4611686018427387904) : Sl E k h' p n l := by
  have hlen := r.len hk
  obtain ⟨h1, h2⟩ := own
  have hn : n = l.length := Nat.eq_of_mul_eq_mul_right hpos (h1.symm.trans hlen)
  refine ⟨hn, hb, fun i x hx => ?_⟩
  obtain ⟨ws, e1, e2⟩ := r.at hk i x hx
  rcases h2 with ⟨rfl, rfl, rfl⟩ | ⟨b, cs, rfl, hr, hcs, hnc, hv⟩
  · have : l = [] := List.eq_nil_of_length_eq_zero hn.symm
    subst this; simp at hx
  · refine ⟨_, rfl, hE _ _ _ e1 fun j w hj => ?_⟩
    rw [add_plain, add_plain, Nat.zero_add]
    simp only [Cells.cell?, hr, Option.isSome_none, Bool.false_eq_true, if_false]
    exact hv _ _ (e2 j w hj)
def IntEnc (x : Int) (ws : List Value) : Prop := ws = [.int .i64 x]
theorem IntEnc.len : ∀ x ws, IntEnc x ws → ws.length = 1 := by rintro x _ rfl; rfl
theorem IntEnc.e {h' : Cells} : ∀ a x ws, IntEnc x ws → (∀ (j : Nat) w, ws[j]? = some w → h'.cell? (a.add j) = some w) → IntE h' a x := by
  rintro a x _ rfl hc
  exact hc 0 _ rfl
structure Growing {α : Type} (Enc : α → List Value → Prop) (el : TypeId) (k : Nat) (h₀ h : Cells) (p : Option Addr) (n c : Nat) (l : List α) : Prop where
  row : ∃ vs, OwnRow el k h p n c vs ∧ Rows Enc vs l
  new : NewIn h₀ p
theorem Growing.nil {α : Type} {Enc : α → List Value → Prop} {el : TypeId} {k : Nat} {h₀ h : Cells} : Growing Enc el k h₀ h none 0 0 [] := ⟨⟨[], OwnRow.nil, .nil⟩, NewIn.none⟩
theorem Growing.le {α : Type} {Enc : α → List Value → Prop} {el : TypeId} {k : Nat} {h₀ h h' : Cells} {p : Option Addr} {n c : Nat} {l : List α} (hl : h.le h') (g : Growing Enc el k h₀ h p n c l) : Growing Enc el k h₀ h' p n c l := by
  obtain ⟨vs, h1, h2⟩ := g.row
  exact ⟨⟨vs, h1.le hl, h2⟩, g.new⟩
theorem Growing.mv {α : Type} {Enc : α → List Value → Prop} {el : TypeId} {k m : Nat} {h₀ : Cells} {h h' : LH} {p : Option Addr} {n c : Nat} {l : List α} (hm : ∃ es c, h.get m = some (true, .map es c)) (hl : Mv m h h') (g : Growing Enc el k h₀ h.get p n c l) : Growing Enc el k h₀ h'.get p n c l := by
  obtain ⟨vs, ⟨h1, h2⟩, h3⟩ := g.row
  refine ⟨⟨vs, ⟨h1, ?_⟩, h3⟩, g.new⟩
  rcases h2 with h2 | ⟨r, cs, e1, e2, e3⟩
  · exact .inl h2
  · refine .inr ⟨r, cs, e1, hl.keep _ _ ?_ e2, e3⟩
    rintro rfl
    obtain ⟨es, c', hm⟩ := hm
    rw [hm] at e2; cases e2
theorem Growing.count {α : Type} {Enc : α → List Value → Prop} {el : TypeId} {k : Nat} {h₀ h : Cells} {p : Option Addr} {n c : Nat} {l : List α} (hk : ∀ x ws, Enc x ws → ws.length = k) (hpos : 0 < k) (g : Growing Enc el k h₀ h p n c l) : n = l.length := by
  obtain ⟨vs, h1, h2⟩ := g.row
  exact Nat.eq_of_mul_eq_mul_right hpos (h1.1.symm.trans (h2.len hk))
theorem Growing.sl {α : Type} {E : Cells → Addr → α → Prop} {Enc : α → List Value → Prop} {el : TypeId} {k : Nat} {h₀ h : Cells} {p : Option Addr} {n c : Nat} {l : List α} (hk : ∀ x ws, Enc x ws → ws.length = k) (hpos : 0 < k) (hE : ∀ a x ws, Enc x ws → (∀ (j : Nat) w, ws[j]? = some w → h.cell? (a.add j) = some w) → E h a x)
    (g : Growing Enc el k h₀ h p n c l) (hb : l.length < 4611686018427387904) : Sl E k h p n l := by
  obtain ⟨vs, h1, h2⟩ := g.row
  exact h2.sl hk hpos hE h1 hb
section
variable {P : Program} {X : XP} {Q : Leaf → LH → Prop}
theorem t_grow {α : Type} {Enc : α → List Value → Prop} {h h₀ : LH} {k : Value → T} {ts : Array TypeId} {ty sT xT el xe : TypeId} {s by_ : Nat} {z : Value} {p : Option Addr} {n c mc : Nat} {b : Addr} {l : List α} {x : α} {ws : List Value} (h0 : ts[0]? = some sT) (h1 : ts[1]? = some xT) (hu : P.underlying sT = some (.slice el)) (hx : P.underlying xT = some (.slice xe))
    (hi : (P.info? el).map (fun i => (i.size, i.bytes, i.zero)) = some (s, by_, some z)) (hsz : z.cells.size = s) (hb : by_ ≤ 1024) (hn : n + 1 ≤ 2 ^ 30) (g : Growing Enc el s h₀.get h.get p n c l) (hle : h₀.le h) (he : Enc x ws) (hl : ws.length = s) (hc : ∀ (j : Nat) v, ws[j]? = some v → h.get.cell? (b.add j) = some v) (one : ∀ v ∈ ws, isOne v = true)
    (hk : ∀ p' c' h', h₀.le h' → (∀ r y, (∀ a, p = some a → a.block ≠ r) → h.get r = some y → h'.get r = some y) → Growing Enc el s h₀.get h'.get p' (n + 1) c' (l ++ [x]) → (k (.slice p' (n + 1) c')).wp X P Q h') : (T.sem false (Builtin.append_ ts ty #[.slice p n c, .slice (some b) 1 mc]) k).wp X P Q h := by
  obtain ⟨vs, o, r⟩ := g.row
  refine t_append h0 h1 hu hx hi hsz hb hn o (by rw [hl, Nat.one_mul]) hc one (by omega) fun p' c' h' a b c => ?_
  obtain ⟨l1, l2⟩ := after_append hle.1 g.new b c
  refine hk p' c' _ ⟨l1, hle.2⟩ (fun r y hr hy => b r y hy hr) ⟨⟨vs ++ ws, a, .snoc r he⟩, l2⟩
end
end Go.TM
end
section
namespace Go.Proofs.YtopkdkedjkidhaaDoor
open Go Go.TM Go.Proofs
attribute [local irreducible] T.wp CV FWK
def ReqEnc (h₀ : Cells) (x : Request) (ws : List Value) : Prop := ∃ q m c, ws = [.int .i64 x.day, .int .i64 x.land, .slice q m c] ∧ Sl IntE 1 h₀ q m x.items
theorem ReqEnc.len {h₀ : Cells} : ∀ x ws, ReqEnc h₀ x ws → ws.length = 3 := by rintro x _ ⟨q, m, c, rfl, _⟩; rfl
theorem ReqEnc.e {h₀ h' : Cells} (hr : Rd h₀ h') : ∀ a x ws, ReqEnc h₀ x ws → (∀ (j : Nat) w, ws[j]? = some w → h'.cell? (a.add j) = some w) → RequestE h' a x := by
  rintro a x _ ⟨q, m, c, rfl, hs⟩ hc
  exact ⟨hc 0 _ rfl, hc 1 _ rfl, q, m, c, hc 2 _ rfl, hs.rd IntE.grow hr⟩
theorem c101 {h : LH} {d m : Nat} {f : FileC} {u : UseFile} (k : Desk h.get d m f u) (hck : checkF u = 0) (land item day : Int) :
    Gr Tryd.prog 111 #[.pointer (some ⟨d, 0, none⟩), .int .i64 land, .int .i64 item, .int .i64 day] h fun r h' => ∃ p n c, r = .slice p n c ∧ Sl RequestE 3 h'.get p n (against u land item day) := by
  refine w101 _ _ _ _ X0_ok ?_
  unfold n101
  obtain ⟨f0, f1, f2, f3, f4, f5, f6⟩ := k.file
  have hlen := (check_requests hck).1
  have hn6 := k.rep.requests.1
  (repeat (first | (with_reducible first | apply gA | apply gB | apply gC | apply gD | apply gE | apply gF | apply gG | apply gH | apply gI | apply gJ | apply gK | apply gL | apply gM | apply gN | apply gO | apply gP | apply gQ | apply gR) | ((with_reducible first | apply gT | apply gS2); first | exact rfl | assumption | omega | exact ⟨⟩) | ((with_reducible first | apply gL0 | apply gL1 | apply gL2 | apply gL3 | apply gL4); assumption)))
  refine t_loop (fun mm vs h' => h.le h' ∧ ∃ (i : Nat) (p : Option Addr) (n c : Nat) (rs : List Request), vs = [.slice p n c, .int .i64 i] ∧ i ≤ f.n6 ∧ mm = f.n6 - i ∧ Growing (ReqEnc h.get) 64 3 h.get h'.get p n c rs ∧ rs.length ≤ i ∧ against u land item day = rs ++ (u.requests.drop i).filter (agB land item day))
    ⟨LH.le_refl _, 0, none, 0, 0, [], rfl, Nat.zero_le _, rfl, Growing.nil, Nat.le_refl _, rfl⟩ ?_
  rintro Y mm vs h₁ hY ⟨hle, i, p, n, c, rs, rfl, hi, rfl, g, hrl, hc⟩
  (repeat (first | (with_reducible first | apply gA | apply gB | apply gC | apply gD | apply gE | apply gF | apply gG | apply gH | apply gI | apply gJ | apply gK | apply gL | apply gM | apply gN | apply gO | apply gP | apply gQ | apply gR) | ((with_reducible first | apply gT | apply gS2); first | exact rfl | assumption | omega | exact ⟨⟩) | ((with_reducible first | apply gL0 | apply gL1 | apply gL2 | apply gL3 | apply gL4); assumption)))
  refine t_if (fun e1 => ?_) (fun e1 => ?_)
  · obtain ⟨x, a, hx, ha, e2, e3, q, mq, cq, e4, e5⟩ := k.rep.requests.at (i := i) (by omega)
    have e2 := Cells.cell?_le hle.1 e2
    have e3 := Cells.cell?_le hle.1 e3
    have e4 := Cells.cell?_le hle.1 e4
    rw [drop_of hx, List.filter_cons] at hc
    have skip : agB land item day x = false → Y [.slice p n c, .int .i64 (IntKind.wrap .i64 ((i : Int) + 1))] h₁ := by
      intro hno
      rw [if_neg (by rw [hno]; simp)] at hc
      refine hY (f.n6 - (i + 1)) _ _ (by omega) ⟨hle, i + 1, p, n, c, rs, ?_, by omega, rfl, g, by omega, hc⟩
      rw [wrap_id (by omega) (by omega)]; rfl
    (repeat (first | (with_reducible first | apply gA | apply gB | apply gC | apply gD | apply gE | apply gF | apply gG | apply gH | apply gI | apply gJ | apply gK | apply gL | apply gM | apply gN | apply gO | apply gP | apply gQ | apply gR) | ((with_reducible first | apply gT | apply gS2); first | exact rfl | assumption | omega | exact ⟨⟩) | ((with_reducible first | apply gL0 | apply gL1 | apply gL2 | apply gL3 | apply gL4); assumption)))
    refine t_cond (fun b1 => ?_) (fun b1 => ?_)
    · refine t_if (fun b2 => ?_) (fun b2 => ?_)
      · refine t_pu (c100 (e5.le IntE.grow hle.1) item) ?_
        (repeat (first | (with_reducible first | apply gA | apply gB | apply gC | apply gD | apply gE | apply gF | apply gG | apply gH | apply gI | apply gJ | apply gK | apply gL | apply gM | apply gN | apply gO | apply gP | apply gQ | apply gR) | ((with_reducible first | apply gT | apply gS2); first | exact rfl | assumption | omega | exact ⟨⟩) | ((with_reducible first | apply gL0 | apply gL1 | apply gL2 | apply gL3 | apply gL4); assumption)))
        refine t_cond (fun b3 => ?_) (fun b3 => ?_)
        · have hag : agB land item day x = true := by unfold agB; rw [b1, b3]; simp [b2]
          rw [if_pos hag] at hc
          refine t_build und24 inf64 (by decide) (by decide) (cells := #[.int .i64 x.day, .int .i64 x.land, .slice q mq cq]) (by kernel_rfl) fun r hr => ?_
          have le1 : h₁.le _ := LH.upd_le (x := (true, .cells #[.int .i64 x.day, .int .i64 x.land, .slice q mq cq] 64 (0, 0))) hr
          have hng := g.count ReqEnc.len (by omega)
          (repeat (first | (with_reducible first | apply gA | apply gB | apply gC | apply gD | apply gE | apply gF | apply gG | apply gH | apply gI | apply gJ | apply gK | apply gL | apply gM | apply gN | apply gO | apply gP | apply gQ | apply gR) | ((with_reducible first | apply gT | apply gS2); first | exact rfl | assumption | omega | exact ⟨⟩) | ((with_reducible first | apply gL0 | apply gL1 | apply gL2 | apply gL3 | apply gL4); assumption)))
          refine t_grow (x := x) (ws := [.int .i64 x.day, .int .i64 x.land, .slice q mq cq]) rfl rfl und24 und24 inf64 rfl (by omega) (by omega) (g.le le1.1) (LH.le_trans hle le1) ⟨q, mq, cq, rfl, e5⟩ rfl ?_ ?_ ?_
          · intro j w hj
            rw [add_plain, Nat.zero_add]
            exact cell_upd (by simpa using hj)
          · intro w hw
            simp at hw
            rcases hw with rfl | rfl | rfl <;> rfl
          · intro p' c' h₂ hle2 _ g2
            (repeat (first | (with_reducible first | apply gA | apply gB | apply gC | apply gD | apply gE | apply gF | apply gG | apply gH | apply gI | apply gJ | apply gK | apply gL | apply gM | apply gN | apply gO | apply gP | apply gQ | apply gR) | ((with_reducible first | apply gT | apply gS2); first | exact rfl | assumption | omega | exact ⟨⟩) | ((with_reducible first | apply gL0 | apply gL1 | apply gL2 | apply gL3 | apply gL4); assumption)))
            refine t_again (hY (f.n6 - (i + 1)) _ _ (by omega) ⟨hle2, i + 1, p', n + 1, c', rs ++ [x], ?_, by omega, rfl, g2, by simp; omega, by rw [hc]; simp⟩)
            rw [wrap_id (by omega) (by omega)]; rfl
        · exact t_again (skip (by unfold agB; rw [b1, b3]; simp))
      · exact t_again (skip (by unfold agB; rw [b1]; simp [b2]))
    · exact t_again (skip (by unfold agB; rw [b1]; rfl))
  · (repeat (first | (with_reducible first | apply gA | apply gB | apply gC | apply gD | apply gE | apply gF | apply gG | apply gH | apply gI | apply gJ | apply gK | apply gL | apply gM | apply gN | apply gO | apply gP | apply gQ | apply gR) | ((with_reducible first | apply gT | apply gS2); first | exact rfl | assumption | omega | exact ⟨⟩) | ((with_reducible first | apply gL0 | apply gL1 | apply gL2 | apply gL3 | apply gL4); assumption)))
    rw [List.drop_eq_nil_of_le (by omega)] at hc
    simp at hc
    refine t_ret ⟨hle, p, n, c, rfl, ?_⟩
    rw [hc]
    exact g.sl ReqEnc.len (by omega) (ReqEnc.e (Rd.of_le hle.1)) (by omega)
theorem or_bits {a k : Nat} (ha : a < 2 ^ 32) (hk : k < 32) : IntKind.wrap .i64 (((BitVec.ofInt 64 (a : Int) ||| BitVec.ofInt 64 (IntKind.wrap .i64 (1 * 2 ^ min (k : Int).toNat 64))).toNat : Nat) : Int) = ((a ||| 2 ^ k : Nat) : Int) := by
  have hm : min (k : Int).toNat 64 = k := by simp; omega
  have hp : (2 : Nat) ^ k < 2 ^ 32 := Nat.pow_lt_pow_right (by omega) hk
  have hp' : (1 * 2 ^ k : Int) = ((2 ^ k : Nat) : Int) := by simp
  rw [hm, hp']
  generalize hq : (2 : Nat) ^ k = q at hp
  have hw : IntKind.wrap .i64 ((q : Nat) : Int) = (q : Int) := wrap_id (by omega) (by omega)
  rw [hw]
  have h1 : (BitVec.ofInt 64 (a : Int)).toNat = a := by rw [BitVec.toNat_ofInt]; omega
  have h2 : (BitVec.ofInt 64 (q : Int)).toNat = q := by rw [BitVec.toNat_ofInt]; omega
  rw [BitVec.toNat_or, h1, h2]
  have h3 : a ||| q < 2 ^ 32 := Nat.or_lt_two_pow ha hp
  exact wrap_id (by omega) (by omega)
theorem c107 {h : LH} {d m : Nat} {f : FileC} {u : UseFile} (k : Desk h.get d m f u) (hck : checkF u = 0) {p : Option Addr} {n c : Nat} {l : List Request} (hl : Sl RequestE 3 h.get p n l) (hl4 : l.length ≤ 4) (hdays : ∀ r ∈ l, 0 ≤ r.day ∧ r.day ≤ 2000) (day : Int) :
    De 120 #[.pointer (some ⟨d, 0, none⟩), .slice p n c, .int .i64 day] h d m f u fun r _ => r = .int .i64 (meets u l day) := by
  refine w107 _ _ _ _ _ X0_ok ?_
  unfold n107
  have hn := hl.1
  refine t_loop (fun mm vs h' => Mv m h h' ∧ Desk h'.get d m f u ∧ ∃ (i acc : Nat), vs = [.int .i64 acc, .int .i64 i] ∧ i ≤ n ∧ mm = n - i ∧ acc < 2 ^ 32 ∧ meets u l day = meetsGo u day (l.drop i) i acc)
    ⟨Mv.refl, k, 0, 0, rfl, Nat.zero_le _, rfl, by omega, rfl⟩ ?_
  rintro Y mm vs h₁ hY ⟨mv, k1, i, acc, rfl, hi, rfl, hacc, hc⟩
  (repeat (first | (with_reducible first | apply gA | apply gB | apply gC | apply gD | apply gE | apply gF | apply gG | apply gH | apply gI | apply gJ | apply gK | apply gL | apply gM | apply gN | apply gO | apply gP | apply gQ | apply gR) | ((with_reducible first | apply gT | apply gS2); first | exact rfl | assumption | omega | exact ⟨⟩) | ((with_reducible first | apply gL0 | apply gL1 | apply gL2 | apply gL3 | apply gL4); assumption)))
  refine t_if (fun e1 => ?_) (fun e1 => ?_)
  · obtain ⟨x, a, hx, ha, e2, e3, q, mq, cq, e4, e5⟩ := (hl.rd RequestE.grow (mv.rd k.isMap)).at (i := i) (by omega)
    rw [drop_of hx, meetsGo] at hc
    (repeat (first | (with_reducible first | apply gA | apply gB | apply gC | apply gD | apply gE | apply gF | apply gG | apply gH | apply gI | apply gJ | apply gK | apply gL | apply gM | apply gN | apply gO | apply gP | apply gQ | apply gR) | ((with_reducible first | apply gT | apply gS2); first | exact rfl | assumption | omega | exact ⟨⟩) | ((with_reducible first | apply gL0 | apply gL1 | apply gL2 | apply gL3 | apply gL4); assumption)))
    have hxd := hdays x (List.mem_of_getElem? hx)
    refine t_de (c55 k1 (num_ok (check_num hck)).2.2.2 x.day hxd) ?_
    rintro _ h₂ mv2 k2 rfl
    (repeat (first | (with_reducible first | apply gA | apply gB | apply gC | apply gD | apply gE | apply gF | apply gG | apply gH | apply gI | apply gJ | apply gK | apply gL | apply gM | apply gN | apply gO | apply gP | apply gQ | apply gR) | ((with_reducible first | apply gT | apply gS2); first | exact rfl | assumption | omega | exact ⟨⟩) | ((with_reducible first | apply gL0 | apply gL1 | apply gL2 | apply gL3 | apply gL4); assumption)))
    refine t_pu (c81 _ _ _) ?_
    (repeat (first | (with_reducible first | apply gA | apply gB | apply gC | apply gD | apply gE | apply gF | apply gG | apply gH | apply gI | apply gJ | apply gK | apply gL | apply gM | apply gN | apply gO | apply gP | apply gQ | apply gR) | ((with_reducible first | apply gT | apply gS2); first | exact rfl | assumption | omega | exact ⟨⟩) | ((with_reducible first | apply gL0 | apply gL1 | apply gL2 | apply gL3 | apply gL4); assumption)))
    refine t_cond (fun b => ?_) (fun b => ?_)
    · rw [if_pos b] at hc
      (repeat (first | (with_reducible first | apply gA | apply gB | apply gC | apply gD | apply gE | apply gF | apply gG | apply gH | apply gI | apply gJ | apply gK | apply gL | apply gM | apply gN | apply gO | apply gP | apply gQ | apply gR) | ((with_reducible first | apply gT | apply gS2); first | exact rfl | assumption | omega | exact ⟨⟩) | ((with_reducible first | apply gL0 | apply gL1 | apply gL2 | apply gL3 | apply gL4); assumption)))
      rw [or_bits hacc (by omega)]
      refine t_again (hY (n - (i + 1)) _ _ (by omega) ⟨mv.trans mv2, k2, i + 1, acc ||| 2 ^ i, ?_, by omega, rfl, Nat.or_lt_two_pow hacc (Nat.pow_lt_pow_right (by omega) (by omega)), hc⟩)
      rw [wrap_id (by omega) (by omega)]; rfl
    · rw [if_neg (by rw [b]; simp)] at hc
      refine t_again (hY (n - (i + 1)) _ _ (by omega) ⟨mv.trans mv2, k2, i + 1, acc, ?_, by omega, rfl, hacc, hc⟩)
      rw [wrap_id (by omega) (by omega)]; rfl
  · (repeat (first | (with_reducible first | apply gA | apply gB | apply gC | apply gD | apply gE | apply gF | apply gG | apply gH | apply gI | apply gJ | apply gK | apply gL | apply gM | apply gN | apply gO | apply gP | apply gQ | apply gR) | ((with_reducible first | apply gT | apply gS2); first | exact rfl | assumption | omega | exact ⟨⟩) | ((with_reducible first | apply gL0 | apply gL1 | apply gL2 | apply gL3 | apply gL4); assumption)))
    rw [List.drop_eq_nil_of_le (by omega), meetsGo] at hc
    exact t_ret ⟨mv, k1, by rw [hc]⟩
end Go.Proofs.YtopkdkedjkidhaaDoor
end
section
namespace Go.Proofs.YtopkdkedjkidhaaDoor
open Go Go.TM Go.Proofs
attribute [local irreducible] T.wp CV FWK
def MapIs (h : Cells) (a : Nat) (R : Nat → Prop) : Prop := ∃ es, MapAt h a es ∧ (∀ e ∈ es.toList, ∃ n : Nat, e.key = .int .i64 n ∧ e.val = .bool true ∧ R n) ∧ ∀ n, R n → ∃ e ∈ es.toList, e.key = .int .i64 (n : Int)
theorem MapIs.isMap {h : Cells} {a : Nat} {R : Nat → Prop} (m : MapIs h a R) : ∃ es c, h a = some (true, .map es c) := by obtain ⟨es, ⟨c, h1⟩, _⟩ := m; exact ⟨es, c, h1⟩
theorem MapIs.mv {m a : Nat} {h h' : LH} {R : Nat → Prop} (hne : a ≠ m) (mv : Mv m h h') (hm : MapIs h.get a R) : MapIs h'.get a R := by
  obtain ⟨es, ⟨c, h1⟩, h2⟩ := hm
  exact ⟨es, ⟨c, mv.keep _ _ hne h1⟩, h2⟩
theorem MapIs.congr {h : Cells} {a : Nat} {R R' : Nat → Prop} (hm : MapIs h a R) (hR : ∀ n, R n ↔ R' n) : MapIs h a R' := by
  obtain ⟨es, h1, h2, h3⟩ := hm
  refine ⟨es, h1, fun e he => ?_, fun n hn => h3 n ((hR n).2 hn)⟩
  obtain ⟨n, a, b, c⟩ := h2 e he
  exact ⟨n, a, b, (hR n).1 c⟩
theorem MapIs.keys {h : Cells} {a : Nat} {es : Array MapEntry} {R : Nat → Prop} (h2 : ∀ e ∈ es.toList, ∃ n : Nat, e.key = .int .i64 n ∧ e.val = .bool true ∧ R n) : ∀ e ∈ es.toList, IsKey Tryd.prog 3 e.key := fun e he => by
  obtain ⟨n, h, _⟩ := h2 e he; exact .inl ⟨i64_3, n, h⟩
theorem t_lookSet {X : XP} {Q : Leaf → LH → Prop} {h : LH} {K : Value → T} {a : Nat} {R : Nat → Prop} (hm : MapIs h.get a R) {n : Nat} (h1 : R n → (K (.bool true)).wp X Tryd.prog Q h) (h2 : ¬ R n → (K (.bool false)).wp X Tryd.prog Q h) : (T.sem false (Instr.lookup 156 (.map (some a)) (.int .i64 n) false) K).wp X Tryd.prog Q h := by
  obtain ⟨es, hat, e1, e2⟩ := hm
  refine t_lookup und138 inf4 hat (.inl ⟨i64_3, _, rfl⟩) (MapIs.keys (h := h.get) (a := a) e1) (fun e he hk => ?_) fun hno => ?_
  · obtain ⟨n', g1, g2, g3⟩ := e1 e he
    rw [hk] at g1
    have : n = n' := by simp at g1; omega
    subst this
    rw [g2]
    exact h1 g3
  · refine h2 fun hr => ?_
    obtain ⟨e, he, hk⟩ := e2 n hr
    exact hno e he hk
theorem t_addSet {X : XP} {Q : Leaf → LH → Prop} {h : LH} {K : Value → T} {a : Nat} {R : Nat → Prop} (hm : MapIs h.get a R) {n : Nat} (hk : ∀ es c, MapIs (h.get.upd a (true, .map es c)) a (fun x => R x ∨ x = n) → (K undef).wp X Tryd.prog Q { h with get := h.get.upd a (true, .map es c) }) :
    (T.sem false (Sem.bind (Instr.mapUpdate 156 (.map (some a)) (.int .i64 n) (.bool true)) fun _ => pure (.tuple #[])) K).wp X Tryd.prog Q h := by
  obtain ⟨es, hat, e1, e2⟩ := hm
  refine t_mapUpdate und138 hat (.inl ⟨i64_3, _, rfl⟩) (MapIs.keys (h := h.get) (a := a) e1) fun es' c g1 g2 g3 => hk es' c ⟨es', ⟨c, Cells.upd_self _ _ _⟩, fun e he => ?_, fun x hx => ?_⟩
  · rcases g1 e he with ⟨k1, k2⟩ | k1
    · exact ⟨n, k1, k2, .inr rfl⟩
    · obtain ⟨n', a, b, c⟩ := e1 e k1
      exact ⟨n', a, b, .inl c⟩
  · rcases hx with hx | rfl
    · obtain ⟨e, he, hke⟩ := e2 x hx
      obtain ⟨e', he', hk'⟩ := g3 e he
      exact ⟨e', he', hk'.trans hke⟩
    · exact g2
theorem rd_updMap {h : Cells} {a : Nat} {es' : Array MapEntry} {c : Nat} (hm : ∃ es c, h a = some (true, .map es c)) : Rd h (h.upd a (true, .map es' c)) := by
  intro x v hc
  have hne : x.block ≠ a := by
    intro e
    obtain ⟨es, c, hm⟩ := hm
    unfold Cells.cell? at hc
    rw [e, hm] at hc; cases hc
  unfold Cells.cell? at hc ⊢
  rw [Cells.upd_ne _ _ hne]; exact hc
theorem desk_other {h : Cells} {d m a : Nat} {f : FileC} {u : UseFile} (k : Desk h d m f u) (hne : a ≠ m) (hm : ∃ es c, h a = some (true, .map es c)) {es' : Array MapEntry} {c : Nat} : Desk (h.upd a (true, .map es' c)) d m f u := by
  have hr := rd_updMap (es' := es') (c := c) hm
  refine ⟨k.file.rd hr, k.rep.rd hr, fun j hj => hr _ _ (k.counts j hj), hr _ _ k.mapp, ?_⟩
  obtain ⟨es, c', h1, h2⟩ := k.map
  exact ⟨es, c', by rw [Cells.upd_ne _ _ (Ne.symm hne)]; exact h1, h2⟩
theorem mv_other {m a : Nat} {h h' : LH} (mv : Mv m h h') (hno : h.get a = none) (hne : a ≠ m) {es : Array MapEntry} {c : Nat} : Mv m h { h' with get := h'.get.upd a (true, .map es c) } := by
  refine ⟨fun r x hr hx => ?_, fun es c hm => ?_, mv.same⟩
  · have : r ≠ a := by rintro rfl; rw [hno] at hx; cases hx
    show Cells.upd _ _ _ r = _
    rw [Cells.upd_ne _ _ this]; exact mv.keep r x hr hx
  · obtain ⟨es', c', h1⟩ := mv.isMap es c hm
    exact ⟨es', c', by show Cells.upd _ _ _ m = _; rw [Cells.upd_ne _ _ (Ne.symm hne)]; exact h1⟩
section
variable {X : XP} {Q : Leaf → LH → Prop} {h h' : LH} {d m : Nat} {f : FileC} {u : UseFile} {o : Option (Nat × (Nat → Prop))}
structure St (h : LH) (d m : Nat) (f : FileC) (u : UseFile) (h' : LH) (o : Option (Nat × (Nat → Prop))) : Prop where
  mv : Mv m h h'
  desk : Desk h'.get d m f u
  made : ∀ a R, o = some (a, R) → MapIs h'.get a R ∧ a ≠ m ∧ h.get a = none
theorem s_from (s : St h d m f u h' o) {k : Int → T} (hk : (k u.from_).wp X Tryd.prog Q h') : (T.loadI .i64 (Addr.add (Addr.add (Addr.add ⟨d, 0, none⟩ 0) 0) 2) k).wp X Tryd.prog Q h' := gL0 s.desk.file.f2 hk
theorem s_make (hm : ∃ es c, h.get m = some (true, .map es c)) (s : St h d m f u h' none) {k : Value → T} (hk : ∀ a h'', St h d m f u h'' (some (a, fun _ => False)) → (k (.map (some a))).wp X Tryd.prog Q h'') : (T.sem false (Instr.makeMap 156 none) k).wp X Tryd.prog Q h' := by
  refine t_makeMap fun a ha => hk a _ ?_
  have le1 : h'.le _ := LH.upd_le (x := (true, .map #[] 0)) ha
  have hno : h.get a = none := by
    cases hx : h.get a with
    | none => rfl
    | some x =>
      by_cases e : a = m
      · subst e
        obtain ⟨es, c, hm⟩ := hm
        obtain ⟨es', c', h1⟩ := s.mv.isMap es c hm
        rw [h1] at ha; cases ha
      · rw [s.mv.keep a x e hx] at ha; cases ha
  have hne : a ≠ m := by rintro rfl; obtain ⟨es, c, hm⟩ := hm; rw [hm] at hno; cases hno
  refine ⟨s.mv.trans (Mv.of_le le1), s.desk.le le1.1, fun a' R e => ?_⟩
  cases e
  exact ⟨⟨#[], ⟨0, Cells.upd_self _ _ _⟩, fun e he => by simp at he, fun n hn => hn.elim⟩, hne, hno⟩
theorem s_call (hck : checkF u = 0) (hm : ∃ es c, h.get m = some (true, .map es c)) (s : St h d m f u h' o) {p : Option Addr} {n c : Nat} {l : List Request} (hl : Sl RequestE 3 h.get p n l) (hl4 : l.length ≤ 4) (hdays : ∀ r ∈ l, 0 ≤ r.day ∧ r.day ≤ 2000) {day : Int} {k : Value → T} (hk : ∀ h'', St h d m f u h'' o → (k (.int .i64 (meets u l day))).wp X Tryd.prog Q h'') : (T.call false 120 #[.pointer (some ⟨d, 0, none⟩), .slice p n c, .int .i64 day] k).wp X Tryd.prog Q h' := by
  refine t_de (c107 s.desk hck (hl.rd RequestE.grow (s.mv.rd hm)) hl4 hdays day) ?_
  rintro _ h'' mv k2 rfl
  refine hk h'' ⟨s.mv.trans mv, k2, fun a R e => ?_⟩
  obtain ⟨a1, a2, a3⟩ := s.made a R e
  exact ⟨a1.mv a2 mv, a2, a3⟩
theorem s_add {a : Nat} {R : Nat → Prop} (s : St h d m f u h' (some (a, R))) {n : Nat} {K : Value → T} (hk : ∀ h'', St h d m f u h'' (some (a, fun x => R x ∨ x = n)) → (K undef).wp X Tryd.prog Q h'') :
    (T.sem false (Sem.bind (Instr.mapUpdate 156 (.map (some a)) (.int .i64 n) (.bool true)) fun _ => pure (.tuple #[])) K).wp X Tryd.prog Q h' := by
  obtain ⟨a1, a2, a3⟩ := s.made a R rfl
  refine t_addSet a1 fun es c hm => hk _ ⟨mv_other s.mv a3 a2, desk_other s.desk a2 a1.isMap, fun a' R' e => ?_⟩
  cases e
  exact ⟨hm, a2, a3⟩
end
theorem meets_lt (u : UseFile) (day : Int) : ∀ (l : List Request) (k acc : Nat), acc < 2 ^ (k + l.length) → meetsGo u day l k acc < 2 ^ (k + l.length) := by
  intro l
  induction l with
  | nil => intro k acc h; exact h
  | cons r l ih =>
    intro k acc h
    rw [meetsGo]
    have e : k + (r :: l).length = k + 1 + l.length := by simp; omega
    rw [e] at h ⊢
    refine ih _ _ ?_
    split
    · exact Nat.or_lt_two_pow h (Nat.pow_lt_pow_right (by omega) (by omega))
    · exact h
theorem meets_lt' (u : UseFile) (l : List Request) (day : Int) : meets u l day < 2 ^ l.length := by
  have := meets_lt u day l 0 0 (Nat.two_pow_pos _)
  rw [Nat.zero_add] at this; exact this
theorem or_small {a b : Nat} (ha : a < 16) (hb : b < 16) : IntKind.wrap .i64 (((BitVec.ofInt 64 (a : Int) ||| BitVec.ofInt 64 (b : Int)).toNat : Nat) : Int) = ((a ||| b : Nat) : Int) := by
  have h1 : (BitVec.ofInt 64 (a : Int)).toNat = a := by rw [BitVec.toNat_ofInt]; omega
  have h2 : (BitVec.ofInt 64 (b : Int)).toNat = b := by rw [BitVec.toNat_ofInt]; omega
  rw [BitVec.toNat_or, h1, h2]
  have h3 : a ||| b < 2 ^ 4 := Nat.or_lt_two_pow (by omega) (by omega)
  exact wrap_id (by omega) (by omega)
theorem reach_lt {u : UseFile} {l : List Request} : ∀ {ps : List Paper} {R : List Nat}, (∀ s ∈ R, s < 2 ^ l.length) → ∀ s ∈ reachL u l ps R, s < 2 ^ l.length := by
  intro ps
  induction ps with
  | nil => intro R h s hs; exact h s hs
  | cons p ps ih =>
    intro R h s hs
    rw [reachL] at hs
    refine ih (fun s hs => ?_) s hs
    simp only [stepL, List.mem_flatMap, List.mem_map] at hs
    obtain ⟨s0, h0, m, ⟨dd, _, rfl⟩, rfl⟩ := hs
    exact Nat.or_lt_two_pow (h s0 h0) (meets_lt' u l dd)
theorem c102 {h : LH} {d m : Nat} {f : FileC} {u : UseFile} (k : Desk h.get d m f u) (hck : checkF u = 0) {p : Option Addr} {n c : Nat} {l : List Request} (hl : Sl RequestE 3 h.get p n l) (hl4 : l.length ≤ 4) (hdays : ∀ r ∈ l, 0 ≤ r.day ∧ r.day ≤ 2000) (land item : Int) :
    De 112 #[.pointer (some ⟨d, 0, none⟩), .int .i64 land, .int .i64 item, .slice p n c] h d m f u fun r _ => r = .bool (!can u land item l) := by
  refine w102 _ _ _ _ _ _ X0_ok ?_
  unfold n102
  have hn := hl.1
  have hm := k.isMap
  (repeat (first | (with_reducible first | apply gA | apply gB | apply gC | apply gD | apply gE | apply gF | apply gG | apply gH | apply gI | apply gJ | apply gK | apply gL | apply gM | apply gN | apply gO | apply gP | apply gQ | apply gR) | ((with_reducible first | apply gT | apply gS2); first | exact rfl | assumption | omega | exact ⟨⟩) | ((with_reducible first | apply gL0 | apply gL1 | apply gL2 | apply gL3 | apply gL4); assumption)))
  refine t_blk (fun vs h' => ∃ a, vs = [.map (some a)] ∧ St h d m f u h' (some (a, fun x => False ∨ x = meets u l u.from_))) ?_ ?_
  · have s0 : St h d m f u h none := ⟨Mv.refl, k, fun a R e => by cases e⟩
    (repeat (first | (with_reducible first | apply gA | apply gB | apply gC | apply gD | apply gE | apply gF | apply gG | apply gH | apply gI | apply gJ | apply gK | apply gL | apply gM | apply gN | apply gO | apply gP | apply gQ | apply gR) | ((with_reducible first | apply gT | apply gS2); first | exact rfl | assumption | omega | exact ⟨⟩) | ((with_reducible first | apply gL0 | apply gL1 | apply gL2 | apply gL3 | apply gL4); assumption)))
    repeat' (first
      | refine t_both ?_ ?_
      | (refine s_make hm (by assumption) fun a hx s => ?_)
      | (refine s_call hck hm (by assumption) hl hl4 hdays fun hx s => ?_)
      | (refine s_add (by assumption) fun hx s => ?_)
      | (refine s_from (by assumption) ?_)
      | (with_reducible refine gD ?_) | (with_reducible refine gP ?_) | ((with_reducible apply gT); first | exact rfl | exact True.intro) | ((with_reducible apply gS2); exact rfl)
      | (refine t_again ⟨_, rfl, by assumption⟩))
  · rintro vs h₁ ⟨a0, rfl, s1⟩
    (repeat (first | (with_reducible first | apply gA | apply gB | apply gC | apply gD | apply gE | apply gF | apply gG | apply gH | apply gI | apply gJ | apply gK | apply gL | apply gM | apply gN | apply gO | apply gP | apply gQ | apply gR) | ((with_reducible first | apply gT | apply gS2); first | exact rfl | assumption | omega | exact ⟨⟩) | ((with_reducible first | apply gL0 | apply gL1 | apply gL2 | apply gL3 | apply gL4); assumption)))
    obtain ⟨am, ane, ano⟩ := s1.made a0 _ rfl
    refine t_gr (c88 _ _ _) ?_
    rintro _ h₂ le2 ⟨z0, z1, z2, rfl, hz0, hz1, hz2⟩
    have k2 := s1.desk.le le2.1
    have hm2 := k2.isMap
    let h₀ : LH := { h₂ with get := fun b => if b = m then none else h₂.get b }
    have le0 : h₀.le h₂ := ⟨fun b x hb => by
      show h₂.get b = some x
      have hb' : (if b = m then none else h₂.get b) = some x := hb
      split at hb'
      · cases hb'
      · exact hb', rfl, rfl, rfl⟩
    have rd0 : Rd h₂.get h₀.get := by
      intro x v hc
      have hne : x.block ≠ m := by
        intro e
        obtain ⟨es, c, hm⟩ := hm2
        unfold Cells.cell? at hc
        rw [e, hm] at hc; cases hc
      unfold Cells.cell? at hc ⊢
      show (match (if x.block = m then none else h₂.get x.block) with | some (_, .cells c _ _) => if x.spot.isSome then none else c[x.off]? | _ => none) = _
      rw [if_neg hne]; exact hc
    obtain ⟨L, hL1, hL2, hH⟩ := hands99 X0_ok (rd0 _ _ hz0) (rd0 _ _ hz1) (rd0 _ _ hz2) (rd0 _ _ k2.file.f5) (k2.rep.papers.rd PaperE.grow rd0)
    have mv2 := s1.mv.trans (Mv.of_le (m := m) le2)
    have hcan : ∀ R, reachL u l (shown u land item) [meets u l u.from_] = reachL u l [] R → can u land item l = R.contains (2 ^ l.length - 1) := by
      intro R e; unfold can; rw [e]; rfl
    have hpw : (2 : Nat) ^ l.length ≤ 16 := by
      have : (2 : Nat) ^ l.length ≤ 2 ^ 4 := Nat.pow_le_pow_right (by omega) hl4
      omega
    have hpw1 : 0 < (2 : Nat) ^ l.length := Nat.two_pow_pos _
    have hm1 : (1 * 2 ^ min (n : Int).toNat 64 : Int) = ((2 ^ l.length : Nat) : Int) := by
      have : min (n : Int).toNat 64 = l.length := by rw [hn]; simp; omega
      rw [this]; simp
    generalize hP : (2 : Nat) ^ l.length = pw at hpw hpw1 hm1
    have hall : IntKind.wrap .i64 (IntKind.wrap .i64 (1 * 2 ^ min (n : Int).toNat 64) - 1) = ((pw - 1 : Nat) : Int) := by
      rw [hm1, wrap_id (n := (pw : Int)) (by omega) (by omega), wrap_id (by omega) (by omega)]; omega
    have hall2 : IntKind.wrap .i64 (((pw - 1 : Nat) : Int) + 1) = (pw : Int) := by
      rw [wrap_id (by omega) (by omega)]; omega
    simp only [hall, hall2]
    refine t_each le0 hH (fun i vs h' => Mv m h h' ∧ Desk h'.get d m f u ∧ ∃ a R, vs = [.map (some a)] ∧ a ≠ m ∧ MapIs h'.get a (fun x => x ∈ R) ∧ (∀ s ∈ R, s < pw) ∧ reachL u l (shown u land item) [meets u l u.from_] = reachL u l ((shown u land item).drop i) R)
      ⟨mv2, k2, a0, [meets u l u.from_], rfl, ane, (am.mv ane (Mv.of_le (m := m) le2)).congr (fun x => by simp), by intro s hs; simp at hs; subst hs; rw [← hP]; exact meets_lt' u l _, rfl⟩ ?_ ?_
    · rintro vs h₃ hle ⟨mv3, k3, a, R, rfl, hne, hmap, hR, hc⟩
      rw [List.drop_eq_nil_of_le (by rw [hL1]; exact Nat.le_refl _)] at hc
      have hcan' := hcan R hc
      rw [hP] at hcan'
      (repeat (first | (with_reducible first | apply gA | apply gB | apply gC | apply gD | apply gE | apply gF | apply gG | apply gH | apply gI | apply gJ | apply gK | apply gL | apply gM | apply gN | apply gO | apply gP | apply gQ | apply gR) | ((with_reducible first | apply gT | apply gS2); first | exact rfl | assumption | omega | exact ⟨⟩) | ((with_reducible first | apply gL0 | apply gL1 | apply gL2 | apply gL3 | apply gL4); assumption)))
      refine t_lookSet hmap (fun hin => ?_) fun hnot => ?_
      · (repeat (first | (with_reducible first | apply gA | apply gB | apply gC | apply gD | apply gE | apply gF | apply gG | apply gH | apply gI | apply gJ | apply gK | apply gL | apply gM | apply gN | apply gO | apply gP | apply gQ | apply gR) | ((with_reducible first | apply gT | apply gS2); first | exact rfl | assumption | omega | exact ⟨⟩) | ((with_reducible first | apply gL0 | apply gL1 | apply gL2 | apply gL3 | apply gL4); assumption)))
        refine t_ret ⟨mv3, k3, ?_⟩
        rw [hcan']
        have : R.contains (pw - 1) = true := by simpa using hin
        rw [this]
      · (repeat (first | (with_reducible first | apply gA | apply gB | apply gC | apply gD | apply gE | apply gF | apply gG | apply gH | apply gI | apply gJ | apply gK | apply gL | apply gM | apply gN | apply gO | apply gP | apply gQ | apply gR) | ((with_reducible first | apply gT | apply gS2); first | exact rfl | assumption | omega | exact ⟨⟩) | ((with_reducible first | apply gL0 | apply gL1 | apply gL2 | apply gL3 | apply gL4); assumption)))
        refine t_ret ⟨mv3, k3, ?_⟩
        rw [hcan']
        have : R.contains (pw - 1) = false := by simpa using hnot
        rw [this]
    · rintro i xs vs h₃ hi hle ⟨mv3, k3, a, R, rfl, hne, hmap, hR, hc⟩ Y hY
      obtain ⟨x, q, nq, cq, hx, rfl, hit⟩ := hL2 i xs hi
      have hx' : (shown u land item)[i]? = some x := hx
      have hxp := (check_papers hck).2 x (List.mem_filter.1 (List.mem_of_getElem? hx')).1
      rw [drop_of hx', reachL] at hc
      unfold paperV
      (repeat (first | (with_reducible first | apply gA | apply gB | apply gC | apply gD | apply gE | apply gF | apply gG | apply gH | apply gI | apply gJ | apply gK | apply gL | apply gM | apply gN | apply gO | apply gP | apply gQ | apply gR) | ((with_reducible first | apply gT | apply gS2); first | exact rfl | assumption | omega | exact ⟨⟩) | ((with_reducible first | apply gL0 | apply gL1 | apply gL2 | apply gL3 | apply gL4); assumption)))
      have hm3 := k3.isMap
      refine t_makeMap fun b hb => ?_
      (repeat (first | (with_reducible first | apply gA | apply gB | apply gC | apply gD | apply gE | apply gF | apply gG | apply gH | apply gI | apply gJ | apply gK | apply gL | apply gM | apply gN | apply gO | apply gP | apply gQ | apply gR) | ((with_reducible first | apply gT | apply gS2); first | exact rfl | assumption | omega | exact ⟨⟩) | ((with_reducible first | apply gL0 | apply gL1 | apply gL2 | apply gL3 | apply gL4); assumption)))
      have le4 : h₃.le _ := LH.upd_le (x := (true, .map #[] 0)) hb
      have hbm : b ≠ m := by rintro rfl; obtain ⟨es, c, hm3⟩ := hm3; rw [hm3] at hb; cases hb
      have hba : b ≠ a := by rintro rfl; obtain ⟨es, c, ha⟩ := hmap.isMap; rw [ha] at hb; cases hb
      -- the days of the paper
      refine t_loop (fun mm vs h' => Mv m h₃ h' ∧ h₀.le h' ∧ Desk h'.get d m f u ∧ ∃ dy : Int, vs = [.int .i64 dy] ∧ x.days.first ≤ dy ∧ dy ≤ x.days.last + 1 ∧ mm = (x.days.last + 1 - dy).toNat ∧ MapIs h'.get b (fun y => ∃ s ∈ R, ∃ e : Int, x.days.first ≤ e ∧ e < dy ∧ y = s ||| meets u l e))
        ⟨Mv.of_le le4, LH.le_trans hle le4, k3.le le4.1, x.days.first, rfl, by omega, by omega, rfl, ⟨#[], ⟨0, Cells.upd_self _ _ _⟩, fun e he => by simp at he, fun y hy => by obtain ⟨s, _, e, h1, h2, _⟩ := hy; omega⟩⟩ ?_
      rintro Y2 mm vs h₅ hY2 ⟨mv5, le5, k5, dy, rfl, hd1, hd2, rfl, hmb⟩
      (repeat (first | (with_reducible first | apply gA | apply gB | apply gC | apply gD | apply gE | apply gF | apply gG | apply gH | apply gI | apply gJ | apply gK | apply gL | apply gM | apply gN | apply gO | apply gP | apply gQ | apply gR) | ((with_reducible first | apply gT | apply gS2); first | exact rfl | assumption | omega | exact ⟨⟩) | ((with_reducible first | apply gL0 | apply gL1 | apply gL2 | apply gL3 | apply gL4); assumption)))
      refine t_if (fun e1 => ?_) (fun e1 => ?_)
      · have hl5 := hl.rd RequestE.grow (Mv.rd hm (mv3.trans mv5))
        refine t_de (c107 k5 hck hl5 hl4 hdays dy) ?_
        rintro _ h₆ mv6 k6 rfl
        (repeat (first | (with_reducible first | apply gA | apply gB | apply gC | apply gD | apply gE | apply gF | apply gG | apply gH | apply gI | apply gJ | apply gK | apply gL | apply gM | apply gN | apply gO | apply gP | apply gQ | apply gR) | ((with_reducible first | apply gT | apply gS2); first | exact rfl | assumption | omega | exact ⟨⟩) | ((with_reducible first | apply gL0 | apply gL1 | apply gL2 | apply gL3 | apply gL4); assumption)))
        have le6 : h₀.le h₆ := ⟨fun r y hr => mv6.keep r y (by
          rintro rfl
          have : (if r = r then none else h₂.get r) = some y := hr
          simp at this) (le5.1 r y hr), mv6.same.1.trans le5.2.1, mv6.same.2.1.trans le5.2.2.1, mv6.same.2.2.trans le5.2.2.2⟩
        have hmt := meets_lt' u l dy
        rw [hP] at hmt
        refine t_loop (fun mm vs h' => Mv m h₃ h' ∧ h₀.le h' ∧ Desk h'.get d m f u ∧ ∃ j : Nat, vs = [.int .i64 j] ∧ j ≤ pw ∧ mm = pw - j ∧ MapIs h'.get b (fun y => (∃ s ∈ R, ∃ e : Int, x.days.first ≤ e ∧ e < dy ∧ y = s ||| meets u l e) ∨ ∃ s ∈ R, s < j ∧ y = s ||| meets u l dy))
          ⟨mv5.trans mv6, le6, k6, 0, rfl, Nat.zero_le _, rfl, (hmb.mv hbm mv6).congr fun y => ⟨.inl, fun h => by rcases h with h | ⟨s, _, h1, _⟩; exact h; omega⟩⟩ ?_
        rintro Y3 mm vs h₇ hY3 ⟨mv7, le7, k7, j, rfl, hj, rfl, hmb7⟩
        (repeat (first | (with_reducible first | apply gA | apply gB | apply gC | apply gD | apply gE | apply gF | apply gG | apply gH | apply gI | apply gJ | apply gK | apply gL | apply gM | apply gN | apply gO | apply gP | apply gQ | apply gR) | ((with_reducible first | apply gT | apply gS2); first | exact rfl | assumption | omega | exact ⟨⟩) | ((with_reducible first | apply gL0 | apply gL1 | apply gL2 | apply gL3 | apply gL4); assumption)))
        refine t_if (fun e2 => ?_) (fun e2 => ?_)
        · have hma : MapIs h₇.get a (fun x => x ∈ R) := hmap.mv hne mv7
          refine t_lookSet hma (fun hin => ?_) fun hnot => ?_
          · (repeat (first | (with_reducible first | apply gA | apply gB | apply gC | apply gD | apply gE | apply gF | apply gG | apply gH | apply gI | apply gJ | apply gK | apply gL | apply gM | apply gN | apply gO | apply gP | apply gQ | apply gR) | ((with_reducible first | apply gT | apply gS2); first | exact rfl | assumption | omega | exact ⟨⟩) | ((with_reducible first | apply gL0 | apply gL1 | apply gL2 | apply gL3 | apply gL4); assumption)))
            refine t_cond (fun _ => ?_) (fun e => by cases e)
            rw [or_small (by omega) (by omega)]
            refine t_addSet hmb7 fun es cc hnew => ?_
            have mv8 : Mv m h₃ { h₇ with get := h₇.get.upd b (true, .map es cc) } := mv_other mv7 hb hbm
            have hb0 : h₀.get b = none := by
              cases hx0 : h₀.get b with
              | none => rfl
              | some y => rw [hle.1 _ _ hx0] at hb; cases hb
            refine t_again (hY3 (pw - (j + 1)) _ _ (by omega) ⟨mv8, ⟨fun r y hr => ?_, le7.2⟩, desk_other k7 hbm hmb7.isMap, j + 1, ?_, by omega, rfl, hnew.congr fun y => ?_⟩)
            · have : r ≠ b := by rintro rfl; rw [hb0] at hr; cases hr
              show Cells.upd _ _ _ r = _
              rw [Cells.upd_ne _ _ this]; exact le7.1 r y hr
            · rw [wrap_id (by omega) (by omega)]; rfl
            · constructor
              · rintro ((h1 | ⟨s, h1, h2, h3⟩) | rfl)
                · exact .inl h1
                · exact .inr ⟨s, h1, by omega, h3⟩
                · exact .inr ⟨j, hin, by omega, rfl⟩
              · rintro (h1 | ⟨s, h1, h2, h3⟩)
                · exact .inl (.inl h1)
                · by_cases e : s = j
                  · subst e; exact .inr h3
                  · exact .inl (.inr ⟨s, h1, by omega, h3⟩)
          · (repeat (first | (with_reducible first | apply gA | apply gB | apply gC | apply gD | apply gE | apply gF | apply gG | apply gH | apply gI | apply gJ | apply gK | apply gL | apply gM | apply gN | apply gO | apply gP | apply gQ | apply gR) | ((with_reducible first | apply gT | apply gS2); first | exact rfl | assumption | omega | exact ⟨⟩) | ((with_reducible first | apply gL0 | apply gL1 | apply gL2 | apply gL3 | apply gL4); assumption)))
            refine t_cond (fun e => by cases e) (fun _ => ?_)
            refine t_again (hY3 (pw - (j + 1)) _ _ (by omega) ⟨mv7, le7, k7, j + 1, ?_, by omega, rfl, hmb7.congr fun y => ?_⟩)
            · rw [wrap_id (by omega) (by omega)]; rfl
            · constructor
              · rintro (h1 | ⟨s, h1, h2, h3⟩)
                · exact .inl h1
                · exact .inr ⟨s, h1, by omega, h3⟩
              · rintro (h1 | ⟨s, h1, h2, h3⟩)
                · exact .inl h1
                · refine .inr ⟨s, h1, ?_, h3⟩
                  have : s ≠ j := by rintro rfl; exact hnot h1
                  omega
        · (repeat (first | (with_reducible first | apply gA | apply gB | apply gC | apply gD | apply gE | apply gF | apply gG | apply gH | apply gI | apply gJ | apply gK | apply gL | apply gM | apply gN | apply gO | apply gP | apply gQ | apply gR) | ((with_reducible first | apply gT | apply gS2); first | exact rfl | assumption | omega | exact ⟨⟩) | ((with_reducible first | apply gL0 | apply gL1 | apply gL2 | apply gL3 | apply gL4); assumption)))
          refine t_again (hY2 (x.days.last + 1 - (dy + 1)).toNat _ _ (by omega) ⟨mv7, le7, k7, dy + 1, ?_, by omega, by omega, rfl, hmb7.congr fun y => ?_⟩)
          · rw [wrap_id (by omega) (by omega)]
          · constructor
            · rintro (⟨s, h1, e, h2, h3, h4⟩ | ⟨s, h1, h2, h3⟩)
              · exact ⟨s, h1, e, h2, by omega, h4⟩
              · exact ⟨s, h1, dy, hd1, by omega, h3⟩
            · rintro ⟨s, h1, e, h2, h3, h4⟩
              by_cases he : e = dy
              · subst he; exact .inr ⟨s, h1, by have := hR s h1; omega, h4⟩
              · exact .inl ⟨s, h1, e, h2, by omega, h4⟩
      · (repeat (first | (with_reducible first | apply gA | apply gB | apply gC | apply gD | apply gE | apply gF | apply gG | apply gH | apply gI | apply gJ | apply gK | apply gL | apply gM | apply gN | apply gO | apply gP | apply gQ | apply gR) | ((with_reducible first | apply gT | apply gS2); first | exact rfl | assumption | omega | exact ⟨⟩) | ((with_reducible first | apply gL0 | apply gL1 | apply gL2 | apply gL3 | apply gL4); assumption)))
        have hdy : dy = x.days.last + 1 := by omega
        subst hdy
        refine t_againE le5 (hY _ _ le5 ⟨mv3.trans mv5, k5, b, stepL ((daysOf x.days).map (meets u l)) R, rfl, hbm, hmb.congr fun y => ?_, ?_, hc⟩)
        · simp only [stepL, List.mem_flatMap, List.mem_map, daysOf, List.mem_range]
          constructor
          · rintro ⟨s, h1, e, h2, h3, rfl⟩
            exact ⟨s, h1, _, ⟨e, ⟨(e - x.days.first).toNat, by omega, by omega⟩, rfl⟩, rfl⟩
          · rintro ⟨s, h1, _, ⟨e, ⟨i, h2, rfl⟩, rfl⟩, rfl⟩
            exact ⟨s, h1, _, by omega, by omega, rfl⟩
        · intro s hs
          simp only [stepL, List.mem_flatMap, List.mem_map] at hs
          obtain ⟨s0, h0, mm, ⟨e, _, rfl⟩, rfl⟩ := hs
          rw [← hP]
          exact Nat.or_lt_two_pow (by rw [hP]; exact hR s0 h0) (meets_lt' u l e)
end Go.Proofs.YtopkdkedjkidhaaDoor
end
section
namespace Go.Proofs.YtopkdkedjkidhaaDoor
open Go Go.TM Go.Proofs
attribute [local irreducible] T.wp CV FWK
theorem against_sub {u : UseFile} {land item day : Int} : ∀ r ∈ against u land item day, r ∈ u.requests := fun r hr => (List.mem_filter.1 hr).1
theorem against_len {u : UseFile} (hck : checkF u = 0) (land item day : Int) : (against u land item day).length ≤ 4 := Nat.le_trans (List.length_filter_le _ _) (check_requests hck).1
theorem c91 {h : LH} {d m : Nat} {f : FileC} {u : UseFile} (k : Desk h.get d m f u) (hck : checkF u = 0) (land item day : Int) :
    De 95 #[.pointer (some ⟨d, 0, none⟩), .int .i64 land, .int .i64 item, .int .i64 day] h d m f u fun r _ => r = .int .i64 (left u land item day) := by
  refine w91 _ _ _ _ X0_ok ?_
  unfold n91
  refine t_gr (c101 k hck land item day) ?_
  rintro _ h₁ le1 ⟨p, n, c, rfl, hl⟩
  have k1 := k.le le1.1
  have hm1 := k1.isMap
  have hdays : ∀ r ∈ against u land item day, 0 ≤ r.day ∧ r.day ≤ 2000 := fun r hr => (check_requests hck).2 r (against_sub r hr)
  have hl4 := against_len hck land item day
  (repeat (first | (with_reducible first | apply gA | apply gB | apply gC | apply gD | apply gE | apply gF | apply gG | apply gH | apply gI | apply gJ | apply gK | apply gL | apply gM | apply gN | apply gO | apply gP | apply gQ | apply gR) | ((with_reducible first | apply gT | apply gS2); first | exact rfl | assumption | omega | exact ⟨⟩) | ((with_reducible first | apply gL0 | apply gL1 | apply gL2 | apply gL3 | apply gL4); assumption)))
  have hn := hl.1
  refine t_loop (fun mm vs h' => Mv m h₁ h' ∧ Desk h'.get d m f u ∧ ∃ i : Nat, vs = [.bool true, .int .i64 i] ∧ i ≤ n ∧ mm = n - i ∧ ∀ j r, j < i → (against u land item day)[j]? = some r → safe u land item r.day = 1)
    ⟨Mv.refl, k1, 0, rfl, Nat.zero_le _, rfl, fun j r hj => by omega⟩ ?_
  rintro Y mm vs h₂ hY ⟨mv, k2, i, rfl, hi, rfl, hall⟩
  (repeat (first | (with_reducible first | apply gA | apply gB | apply gC | apply gD | apply gE | apply gF | apply gG | apply gH | apply gI | apply gJ | apply gK | apply gL | apply gM | apply gN | apply gO | apply gP | apply gQ | apply gR) | ((with_reducible first | apply gT | apply gS2); first | exact rfl | assumption | omega | exact ⟨⟩) | ((with_reducible first | apply gL0 | apply gL1 | apply gL2 | apply gL3 | apply gL4); assumption)))
  refine t_if (fun e1 => ?_) (fun e1 => ?_)
  · obtain ⟨x, a, hx, ha, e2, e3, q, mq, cq, e4, e5⟩ := (hl.rd RequestE.grow (mv.rd hm1)).at (i := i) (by omega)
    (repeat (first | (with_reducible first | apply gA | apply gB | apply gC | apply gD | apply gE | apply gF | apply gG | apply gH | apply gI | apply gJ | apply gK | apply gL | apply gM | apply gN | apply gO | apply gP | apply gQ | apply gR) | ((with_reducible first | apply gT | apply gS2); first | exact rfl | assumption | omega | exact ⟨⟩) | ((with_reducible first | apply gL0 | apply gL1 | apply gL2 | apply gL3 | apply gL4); assumption)))
    have hxd := hdays x (List.mem_of_getElem? hx)
    refine t_de (c60 k2 (check_num hck) land item x.day hxd) ?_
    rintro _ h₃ mv3 k3 rfl
    (repeat (first | (with_reducible first | apply gA | apply gB | apply gC | apply gD | apply gE | apply gF | apply gG | apply gH | apply gI | apply gJ | apply gK | apply gL | apply gM | apply gN | apply gO | apply gP | apply gQ | apply gR) | ((with_reducible first | apply gT | apply gS2); first | exact rfl | assumption | omega | exact ⟨⟩) | ((with_reducible first | apply gL0 | apply gL1 | apply gL2 | apply gL3 | apply gL4); assumption)))
    refine t_cond (fun b => ?_) (fun b => ?_)
    · (repeat (first | (with_reducible first | apply gA | apply gB | apply gC | apply gD | apply gE | apply gF | apply gG | apply gH | apply gI | apply gJ | apply gK | apply gL | apply gM | apply gN | apply gO | apply gP | apply gQ | apply gR) | ((with_reducible first | apply gT | apply gS2); first | exact rfl | assumption | omega | exact ⟨⟩) | ((with_reducible first | apply gL0 | apply gL1 | apply gL2 | apply gL3 | apply gL4); assumption)))
      refine t_cond (fun e => by cases e) (fun _ => ?_)
      have mv13 := mv.trans mv3
      refine t_de (c102 k3 hck (hl.rd RequestE.grow (mv13.rd hm1)) hl4 hdays land item) ?_
      rintro _ h₄ mv4 k4 rfl
      (repeat (first | (with_reducible first | apply gA | apply gB | apply gC | apply gD | apply gE | apply gF | apply gG | apply gH | apply gI | apply gJ | apply gK | apply gL | apply gM | apply gN | apply gO | apply gP | apply gQ | apply gR) | ((with_reducible first | apply gT | apply gS2); first | exact rfl | assumption | omega | exact ⟨⟩) | ((with_reducible first | apply gL0 | apply gL1 | apply gL2 | apply gL3 | apply gL4); assumption)))
      have hne : safe u land item x.day ≠ 1 := by simpa using b
      have hnot : ¬ ((against u land item day).all fun r => decide (safe u land item r.day = 1)) = true := by
        intro hh
        have := List.all_eq_true.1 hh x (List.mem_of_getElem? hx)
        exact hne (by simpa using this)
      refine t_cond (fun e => ?_) (fun e => ?_)
      · refine t_ret ⟨(Mv.of_le le1).trans (mv13.trans mv4), k4, ?_⟩
        have : can u land item (against u land item day) = false := by simpa using e
        rw [left, if_neg hnot, this]; rfl
      · refine t_ret ⟨(Mv.of_le le1).trans (mv13.trans mv4), k4, ?_⟩
        have : can u land item (against u land item day) = true := by simpa using e
        rw [left, if_neg hnot, this]; rfl
    · refine t_again (hY (n - (i + 1)) _ _ (by omega) ⟨mv.trans mv3, k3, i + 1, ?_, by omega, rfl, fun j r hj hr => ?_⟩)
      · rw [wrap_id (by omega) (by omega)]; rfl
      · by_cases e : j = i
        · subst e; rw [hx] at hr; cases hr; simpa using b
        · exact hall j r (by omega) hr
  · (repeat (first | (with_reducible first | apply gA | apply gB | apply gC | apply gD | apply gE | apply gF | apply gG | apply gH | apply gI | apply gJ | apply gK | apply gL | apply gM | apply gN | apply gO | apply gP | apply gQ | apply gR) | ((with_reducible first | apply gT | apply gS2); first | exact rfl | assumption | omega | exact ⟨⟩) | ((with_reducible first | apply gL0 | apply gL1 | apply gL2 | apply gL3 | apply gL4); assumption)))
    refine t_cond (fun _ => ?_) (fun e => by cases e)
    refine t_ret ⟨(Mv.of_le le1).trans mv, k2, ?_⟩
    have : ((against u land item day).all fun r => decide (safe u land item r.day = 1)) = true := by
      rw [List.all_eq_true]
      intro r hr
      obtain ⟨j, hj⟩ := List.mem_iff_getElem?.1 hr
      have := hall j r (by have := (List.getElem?_eq_some_iff.1 hj).1; omega) hj
      simpa using this
    rw [left, if_pos this]
def dropM (m : Nat) (h : LH) : LH := { h with get := fun b => if b = m then none else h.get b }
theorem dropM_le {m : Nat} {h h' : LH} (mv : Mv m h h') : (dropM m h).le h' := by
  refine ⟨fun r x hr => ?_, mv.same⟩
  have hr' : (if r = m then none else h.get r) = some x := hr
  split at hr'
  · cases hr'
  · exact mv.keep r x (by assumption) hr'
theorem dropM_rd {m : Nat} {h : LH} (hm : ∃ es c, h.get m = some (true, .map es c)) : Rd h.get (dropM m h).get := by
  intro x v hc
  have hne : x.block ≠ m := by
    intro e
    obtain ⟨es, c, hm⟩ := hm
    unfold Cells.cell? at hc
    rw [e, hm] at hc; cases hc
  unfold Cells.cell? at hc ⊢
  show (match (if x.block = m then none else h.get x.block) with | some (_, .cells c _ _) => if x.spot.isSome then none else c[x.off]? | _ => none) = _
  rw [if_neg hne]; exact hc
theorem mv_of_drop {m : Nat} {h h' : LH} (hl : (dropM m h).le h') (hm : ∃ es c, h'.get m = some (true, .map es c)) : Mv m h h' :=
  ⟨fun r x hr hx => hl.1 r x (by show (if r = m then none else h.get r) = _; rw [if_neg hr]; exact hx), fun _ _ _ => hm, hl.2⟩
theorem desk_of_drop {h h' : LH} {d m : Nat} {f : FileC} {u : UseFile} (k : Desk h.get d m f u) (hl : (dropM m h).le h') (hm : ∃ es c, h'.get m = some (true, .map es c) ∧ ∀ e ∈ es.toList, ∃ day : Int, e.key = .agg #[.int .i64 day, .int .i64 u.idle] ∧ e.val = .agg #[.int .i64 (window u day).first, .int .i64 day]) : Desk h'.get d m f u := by
  have hr : Rd h.get h'.get := (dropM_rd k.isMap).trans (Rd.of_le hl.1)
  exact ⟨k.file.rd hr, k.rep.rd hr, fun j hj => hr _ _ (k.counts j hj), hr _ _ k.mapp, hm⟩
theorem t_growD {α : Type} {X : XP} {Q : Leaf → LH → Prop} {Enc : α → List Value → Prop} {h h₁ : LH} {d m : Nat} {f : FileC} {u : UseFile} {k : Value → T} {ts : Array TypeId} {ty sT xT el xe : TypeId} {s by_ : Nat} {z : Value} {p : Option Addr} {n c mc : Nat} {b : Addr} {l : List α} {x : α} {ws : List Value} (kd : Desk h.get d m f u) (k1 : Desk h₁.get d m f u) (mv : Mv m h h₁)
    (h0 : ts[0]? = some sT) (h1 : ts[1]? = some xT) (hu : Tryd.prog.underlying sT = some (.slice el)) (hx : Tryd.prog.underlying xT = some (.slice xe)) (hi : (Tryd.prog.info? el).map (fun i => (i.size, i.bytes, i.zero)) = some (s, by_, some z)) (hsz : z.cells.size = s) (hb : by_ ≤ 1024) (hn : n + 1 ≤ 2 ^ 30) (g : Growing Enc el s (dropM m h).get h₁.get p n c l) (he : Enc x ws) (hl : ws.length = s) (hc : ∀ (j : Nat) v, ws[j]? = some v → h₁.get.cell? (b.add j) = some v) (one : ∀ v ∈ ws, isOne v = true)
    (hk : ∀ p' c' h', Mv m h h' → Desk h'.get d m f u → Growing Enc el s (dropM m h).get h'.get p' (n + 1) c' (l ++ [x]) → (k (.slice p' (n + 1) c')).wp X Tryd.prog Q h') : (T.sem false (Builtin.append_ ts ty #[.slice p n c, .slice (some b) 1 mc]) k).wp X Tryd.prog Q h₁ := by
  have hpm : ∀ a, p = some a → a.block ≠ m := by
    intro a ha e
    obtain ⟨vs, ⟨_, h2⟩, _⟩ := g.row
    obtain ⟨es, c', hm⟩ := k1.isMap
    rcases h2 with ⟨rfl, _⟩ | ⟨r, cs, rfl, hr, _⟩
    · cases ha
    · cases ha; subst e; rw [hm] at hr; cases hr
  refine t_grow h0 h1 hu hx hi hsz hb hn g (dropM_le mv) he hl hc one fun p' c' h' hle hkeep g' => ?_
  obtain ⟨es, c0, hm, hv⟩ := k1.map
  have hm' := hkeep m _ hpm hm
  exact hk p' c' h' (mv_of_drop hle ⟨es, c0, hm'⟩) (desk_of_drop kd hle ⟨es, c0, hm', hv⟩) g'
theorem leftAll_take {u : UseFile} {land day : Int} (i : Nat) (hi : i < u.items.toNat) : (leftAll u land day).take (i + 1) = (leftAll u land day).take i ++ [left u land i day] := by
  have hlen : i < (leftAll u land day).length := by unfold leftAll; rw [List.length_map, List.length_range]; exact hi
  rw [List.take_succ_eq_append_getElem hlen]
  congr 2
  simp [leftAll]
theorem c63 {h : LH} {d m : Nat} {f : FileC} {u : UseFile} (k : Desk h.get d m f u) (hck : checkF u = 0) (land day : Int) :
    De 55 #[.pointer (some ⟨d, 0, none⟩), .int .i64 land, .int .i64 day] h d m f u fun r h' => ∃ p n c, r = .slice p n c ∧ Growing IntEnc 34 1 (dropM m h).get h'.get p n c (leftAll u land day) := by
  refine w63 _ _ _ X0_ok ?_
  unfold n63
  obtain ⟨f0, f1, f2, f3, f4, f5, f6⟩ := k.file
  have hit := (num_ok (check_num hck)).1
  (repeat (first | (with_reducible first | apply gA | apply gB | apply gC | apply gD | apply gE | apply gF | apply gG | apply gH | apply gI | apply gJ | apply gK | apply gL | apply gM | apply gN | apply gO | apply gP | apply gQ | apply gR) | ((with_reducible first | apply gT | apply gS2); first | exact rfl | assumption | omega | exact ⟨⟩) | ((with_reducible first | apply gL0 | apply gL1 | apply gL2 | apply gL3 | apply gL4); assumption)))
  have hlen : (leftAll u land day).length = u.items.toNat := by unfold leftAll; rw [List.length_map, List.length_range]
  refine t_loop (fun mm vs h' => Mv m h h' ∧ Desk h'.get d m f u ∧ ∃ (i : Nat) (p : Option Addr) (n c : Nat), vs = [.slice p n c, .int .i64 i] ∧ i ≤ u.items.toNat ∧ mm = u.items.toNat - i ∧ Growing IntEnc 34 1 (dropM m h).get h'.get p n c ((leftAll u land day).take i))
    ⟨Mv.refl, k, 0, none, 0, 0, rfl, Nat.zero_le _, rfl, Growing.nil⟩ ?_
  rintro Y mm vs h₁ hY ⟨mv, k1, i, p, n, c, rfl, hi, rfl, g⟩
  (repeat (first | (with_reducible first | apply gA | apply gB | apply gC | apply gD | apply gE | apply gF | apply gG | apply gH | apply gI | apply gJ | apply gK | apply gL | apply gM | apply gN | apply gO | apply gP | apply gQ | apply gR) | ((with_reducible first | apply gT | apply gS2); first | exact rfl | assumption | omega | exact ⟨⟩) | ((with_reducible first | apply gL0 | apply gL1 | apply gL2 | apply gL3 | apply gL4); assumption)))
  refine t_if (fun e1 => ?_) (fun e1 => ?_)
  · have hm1 := k1.isMap
    refine t_de (c91 k1 hck land i day) ?_
    rintro _ h₂ mv2 k2 rfl
    (repeat (first | (with_reducible first | apply gA | apply gB | apply gC | apply gD | apply gE | apply gF | apply gG | apply gH | apply gI | apply gJ | apply gK | apply gL | apply gM | apply gN | apply gO | apply gP | apply gQ | apply gR) | ((with_reducible first | apply gT | apply gS2); first | exact rfl | assumption | omega | exact ⟨⟩) | ((with_reducible first | apply gL0 | apply gL1 | apply gL2 | apply gL3 | apply gL4); assumption)))
    have g2 := g.mv hm1 mv2
    refine t_build und40 inf34 (by decide) (by decide) (cells := #[.int .i64 (left u land i day)]) (by kernel_rfl) fun r hr => ?_
    have le3 : h₂.le _ := LH.upd_le (x := (true, .cells #[.int .i64 (left u land i day)] 34 (0, 0))) hr
    have hng := g2.count IntEnc.len (by omega)
    rw [List.length_take] at hng
    (repeat (first | (with_reducible first | apply gA | apply gB | apply gC | apply gD | apply gE | apply gF | apply gG | apply gH | apply gI | apply gJ | apply gK | apply gL | apply gM | apply gN | apply gO | apply gP | apply gQ | apply gR) | ((with_reducible first | apply gT | apply gS2); first | exact rfl | assumption | omega | exact ⟨⟩) | ((with_reducible first | apply gL0 | apply gL1 | apply gL2 | apply gL3 | apply gL4); assumption)))
    refine t_growD (x := left u land i day) (ws := [.int .i64 (left u land i day)]) k (k2.le le3.1) ((mv.trans mv2).trans (Mv.of_le le3)) rfl rfl und40 und40 inf34 rfl (by omega) (by omega) (g2.le le3.1) rfl rfl ?_ ?_ ?_
    · intro j w hj
      rw [add_plain, Nat.zero_add]
      exact cell_upd (by simpa using hj)
    · intro w hw; simp at hw; subst hw; rfl
    · intro p' c' h₄ mv4 k4 g4
      (repeat (first | (with_reducible first | apply gA | apply gB | apply gC | apply gD | apply gE | apply gF | apply gG | apply gH | apply gI | apply gJ | apply gK | apply gL | apply gM | apply gN | apply gO | apply gP | apply gQ | apply gR) | ((with_reducible first | apply gT | apply gS2); first | exact rfl | assumption | omega | exact ⟨⟩) | ((with_reducible first | apply gL0 | apply gL1 | apply gL2 | apply gL3 | apply gL4); assumption)))
      refine t_again (hY (u.items.toNat - (i + 1)) _ _ (by omega) ⟨mv4, k4, i + 1, p', n + 1, c', ?_, by omega, rfl, ?_⟩)
      · rw [wrap_id (by omega) (by omega)]; rfl
      · rw [leftAll_take i (by omega)]; exact g4
  · (repeat (first | (with_reducible first | apply gA | apply gB | apply gC | apply gD | apply gE | apply gF | apply gG | apply gH | apply gI | apply gJ | apply gK | apply gL | apply gM | apply gN | apply gO | apply gP | apply gQ | apply gR) | ((with_reducible first | apply gT | apply gS2); first | exact rfl | assumption | omega | exact ⟨⟩) | ((with_reducible first | apply gL0 | apply gL1 | apply gL2 | apply gL3 | apply gL4); assumption)))
    have : i = u.items.toNat := by omega
    subst this
    rw [List.take_of_length_le (by omega)] at g
    exact t_ret ⟨mv, k1, p, n, c, rfl, g⟩
def LeftR (h' : Cells) (u : UseFile) (land day : Int) (r : Value) : Prop :=
  (openF u [landQ u land, dayQ day] ≠ 0 ∧ r = .tuple #[.slice none 0 0, .int .i64 (openF u [landQ u land, dayQ day])]) ∨
  (openF u [landQ u land, dayQ day] = 0 ∧ ∃ p n c, r = .tuple #[.slice p n c, .int .i64 0] ∧ Sl IntE 1 h' p n (leftAll u land day))
theorem c23 {h : LH} {f : FileC} {u : UseFile} (hp : Parts h.get) (hu : FileR h.get f u) (land day : Int) : Gr Tryd.prog 18 #[fileV f u, .int .i64 land, .int .i64 day] h fun r h' => LeftR h'.get u land day r := by
  refine w23 _ _ _ _ _ _ _ _ _ _ _ _ _ _ _ X0_ok ?_
  unfold n23
  refine t_gr (c58 u land) ?_
  rintro v0 h₁ le1 ⟨q0, a0⟩
  (repeat (first | (with_reducible first | apply gA | apply gB | apply gC | apply gD | apply gE | apply gF | apply gG | apply gH | apply gI | apply gJ | apply gK | apply gL | apply gM | apply gN | apply gO | apply gP | apply gQ | apply gR) | ((with_reducible first | apply gT | apply gS2); first | exact rfl | assumption | omega | exact ⟨⟩) | ((with_reducible first | apply gL0 | apply gL1 | apply gL2 | apply gL3 | apply gL4); assumption)))
  refine t_gr (c54 u day) ?_
  rintro v1 h₂ le2 ⟨q1, a1⟩
  (repeat (first | (with_reducible first | apply gA | apply gB | apply gC | apply gD | apply gE | apply gF | apply gG | apply gH | apply gI | apply gJ | apply gK | apply gL | apply gM | apply gN | apply gO | apply gP | apply gQ | apply gR) | ((with_reducible first | apply gT | apply gS2); first | exact rfl | assumption | omega | exact ⟨⟩) | ((with_reducible first | apply gL0 | apply gL1 | apply gL2 | apply gL3 | apply gL4); assumption)))
  refine asks2 q0 (a0.le le2) q1 a1 fun r h₄ le4 hs => ?_
  (repeat (first | (with_reducible first | apply gA | apply gB | apply gC | apply gD | apply gE | apply gF | apply gG | apply gH | apply gI | apply gJ | apply gK | apply gL | apply gM | apply gN | apply gO | apply gP | apply gQ | apply gR) | ((with_reducible first | apply gT | apply gS2); first | exact rfl | assumption | omega | exact ⟨⟩) | ((with_reducible first | apply gL0 | apply gL1 | apply gL2 | apply gL3 | apply gL4); assumption)))
  have le14 := LH.le_trans (LH.le_trans le1 le2) le4
  refine t_call (c53 (f := f) (hp.le le14.1) (hu.le le14.1) hs) ?_
  rintro v h₅ ⟨le5, ⟨hne, rfl⟩ | ⟨h0, d, m, rfl, hd, hm, k⟩⟩
  · (repeat (first | (with_reducible first | apply gA | apply gB | apply gC | apply gD | apply gE | apply gF | apply gG | apply gH | apply gI | apply gJ | apply gK | apply gL | apply gM | apply gN | apply gO | apply gP | apply gQ | apply gR) | ((with_reducible first | apply gT | apply gS2); first | exact rfl | assumption | omega | exact ⟨⟩) | ((with_reducible first | apply gL0 | apply gL1 | apply gL2 | apply gL3 | apply gL4); assumption)))
    refine t_cond (fun _ => ?_) (fun e => absurd (by simpa using e) hne)
    exact t_ret ⟨LH.le_trans le14 le5, .inl ⟨hne, rfl⟩⟩
  · (repeat (first | (with_reducible first | apply gA | apply gB | apply gC | apply gD | apply gE | apply gF | apply gG | apply gH | apply gI | apply gJ | apply gK | apply gL | apply gM | apply gN | apply gO | apply gP | apply gQ | apply gR) | ((with_reducible first | apply gT | apply gS2); first | exact rfl | assumption | omega | exact ⟨⟩) | ((with_reducible first | apply gL0 | apply gL1 | apply gL2 | apply gL3 | apply gL4); assumption)))
    refine t_cond (fun e => by cases e) (fun _ => ?_)
    refine t_de (c63 k (open_num h0).2 land day) ?_
    rintro _ h₆ mv k6 ⟨p, n, c, rfl, g⟩
    (repeat (first | (with_reducible first | apply gA | apply gB | apply gC | apply gD | apply gE | apply gF | apply gG | apply gH | apply gI | apply gJ | apply gK | apply gL | apply gM | apply gN | apply gO | apply gP | apply gQ | apply gR) | ((with_reducible first | apply gT | apply gS2); first | exact rfl | assumption | omega | exact ⟨⟩) | ((with_reducible first | apply gL0 | apply gL1 | apply gL2 | apply gL3 | apply gL4); assumption)))
    refine t_ret ⟨LH.le_trans le14 (Mv.le_of le5 hm mv), .inr ⟨h0, p, n, c, rfl, ?_⟩⟩
    refine g.sl IntEnc.len (by omega) IntEnc.e ?_
    have := (num_ok (open_num h0).1).1
    unfold leftAll; rw [List.length_map, List.length_range]; omega
end Go.Proofs.YtopkdkedjkidhaaDoor
end
section
namespace Go.Proofs.YtopkdkedjkidhaaDoor
open Go Go.TM Go.Proofs
attribute [local irreducible] T.wp CV FWK
def LackEnc (x : Lack) (ws : List Value) : Prop := ws = [.int .i64 x.item, .int .i64 x.request, .int .i64 x.window.first, .int .i64 x.window.last]
theorem LackEnc.len : ∀ x ws, LackEnc x ws → ws.length = 4 := by rintro x _ rfl; rfl
theorem LackEnc.e {h' : Cells} : ∀ a x ws, LackEnc x ws → (∀ (j : Nat) w, ws[j]? = some w → h'.cell? (a.add j) = some w) → LackE h' a x := by
  rintro a x _ rfl hc
  exact ⟨hc 0 _ rfl, hc 1 _ rfl, hc 2 _ rfl, hc 3 _ rfl⟩
theorem check_items {u : UseFile} (h : checkF u = 0) : ∀ r ∈ u.requests, risesF r.items u.items = 0 := by
  obtain ⟨_, h2⟩ := eachF_zero (check_parts h).2.2.2
  intro r hr
  obtain ⟨j, hj⟩ := List.mem_iff_getElem?.1 hr
  have := h2 j r hj
  have key : ∀ (c1 c2 c3 : Prop) [Decidable c1] [Decidable c2] [Decidable c3] (x : Int), (if c1 then (1 : Int) else if c2 then 7 else if c3 then 6 else x) = 0 → x = 0 := by
    intro c1 c2 c3 _ _ _ x hx
    by_cases a1 : c1
    · rw [if_pos a1] at hx; cases hx
    · rw [if_neg a1] at hx
      by_cases a2 : c2
      · rw [if_pos a2] at hx; cases hx
      · rw [if_neg a2] at hx
        by_cases a3 : c3
        · rw [if_pos a3] at hx; cases hx
        · rw [if_neg a3] at hx; exact hx
  exact key _ _ _ _ this
theorem rises_len {l : List Int} {b : Int} (h : risesF l b = 0) : (∀ i (hi : i < l.length), (i : Int) ≤ l[i] ∧ l[i] < b ∧ 0 ≤ l[i]) := by
  have h' := firstF_zero' h
  intro i
  induction i with
  | zero =>
    intro hi
    have := h' 0 l[0] (List.getElem?_eq_getElem hi)
    unfold riseF at this
    split at this
    · cases this
    · rename_i h1
      simp [isIn] at h1
      omega
  | succ i ih =>
    intro hi
    have h1 := ih (by omega)
    have := h' (i + 1) l[i + 1] (List.getElem?_eq_getElem hi)
    unfold riseF at this
    split at this
    · cases this
    · split at this
      · cases this
      · rename_i h2 h3
        simp [isIn] at h2
        have e : l.getD (0 + (i + 1) - 1) 0 = l[i] := by
          rw [show 0 + (i + 1) - 1 = i by omega]
          simp [List.getD, List.getElem?_eq_getElem (show i < l.length by omega)]
        rw [e] at h3
        have : ¬ l[i + 1] ≤ l[i] := fun hh => h3 ⟨by omega, hh⟩
        omega
theorem rises_len' {l : List Int} {b : Int} (h : risesF l b = 0) (hb : 0 ≤ b) : (l.length : Int) ≤ b := by
  by_cases h0 : l.length = 0
  · omega
  · have := rises_len h (l.length - 1) (by omega)
    omega
theorem lacksGo_len {u : UseFile} {land day : Int} (hi : ∀ r ∈ u.requests, r.items.length ≤ 6) : ∀ (l : List Request) (i : Nat), (∀ r ∈ l, r ∈ u.requests) → (lacksGo u land day l i).length ≤ l.length * 6 := by
  intro l
  induction l with
  | nil => intro i _; simp [lacksGo]
  | cons r l ih =>
    intro i hs
    rw [lacksGo, List.length_append]
    have h1 := ih (i + 1) fun r hr => hs r (by simp [hr])
    have h2 : (lacksOf u land day i r).length ≤ 6 := by
      unfold lacksOf
      split
      · simp
      · rw [List.length_map]
        exact Nat.le_trans (List.length_filter_le _ _) (hi r (hs r (by simp)))
    simp only [List.length_cons]; omega
def LacksR (h' : Cells) (u : UseFile) (land day : Int) (r : Value) : Prop :=
  (openF u [landQ u land, dayQ day] ≠ 0 ∧ r = .tuple #[.slice none 0 0, .int .i64 (openF u [landQ u land, dayQ day])]) ∨
  (openF u [landQ u land, dayQ day] = 0 ∧ ∃ p n c, r = .tuple #[.slice p n c, .int .i64 0] ∧ Sl LackE 4 h' p n (lacks u land day))
theorem c28 {h : LH} {f : FileC} {u : UseFile} (hp : Parts h.get) (hu : FileR h.get f u) (land day : Int) : Gr Tryd.prog 23 #[fileV f u, .int .i64 land, .int .i64 day] h fun r h' => LacksR h'.get u land day r := by
  refine w28 _ _ _ _ _ _ _ _ _ _ _ _ _ _ _ X0_ok ?_
  unfold n28
  refine t_gr (c58 u land) ?_
  rintro v0 h₁ le1 ⟨q0, a0⟩
  (repeat (first | (with_reducible first | apply gA | apply gB | apply gC | apply gD | apply gE | apply gF | apply gG | apply gH | apply gI | apply gJ | apply gK | apply gL | apply gM | apply gN | apply gO | apply gP | apply gQ | apply gR) | ((with_reducible first | apply gT | apply gS2); first | exact rfl | assumption | omega | exact ⟨⟩) | ((with_reducible first | apply gL0 | apply gL1 | apply gL2 | apply gL3 | apply gL4); assumption)))
  refine t_gr (c54 u day) ?_
  rintro v1 h₂ le2 ⟨q1, a1⟩
  (repeat (first | (with_reducible first | apply gA | apply gB | apply gC | apply gD | apply gE | apply gF | apply gG | apply gH | apply gI | apply gJ | apply gK | apply gL | apply gM | apply gN | apply gO | apply gP | apply gQ | apply gR) | ((with_reducible first | apply gT | apply gS2); first | exact rfl | assumption | omega | exact ⟨⟩) | ((with_reducible first | apply gL0 | apply gL1 | apply gL2 | apply gL3 | apply gL4); assumption)))
  refine asks2 q0 (a0.le le2) q1 a1 fun r h₄ le4 hs => ?_
  (repeat (first | (with_reducible first | apply gA | apply gB | apply gC | apply gD | apply gE | apply gF | apply gG | apply gH | apply gI | apply gJ | apply gK | apply gL | apply gM | apply gN | apply gO | apply gP | apply gQ | apply gR) | ((with_reducible first | apply gT | apply gS2); first | exact rfl | assumption | omega | exact ⟨⟩) | ((with_reducible first | apply gL0 | apply gL1 | apply gL2 | apply gL3 | apply gL4); assumption)))
  have le14 := LH.le_trans (LH.le_trans le1 le2) le4
  refine t_call (c53 (f := f) (hp.le le14.1) (hu.le le14.1) hs) ?_
  rintro v h₅ ⟨le5, ⟨hne, rfl⟩ | ⟨h0, d, m, rfl, hd, hm, k⟩⟩
  · (repeat (first | (with_reducible first | apply gA | apply gB | apply gC | apply gD | apply gE | apply gF | apply gG | apply gH | apply gI | apply gJ | apply gK | apply gL | apply gM | apply gN | apply gO | apply gP | apply gQ | apply gR) | ((with_reducible first | apply gT | apply gS2); first | exact rfl | assumption | omega | exact ⟨⟩) | ((with_reducible first | apply gL0 | apply gL1 | apply gL2 | apply gL3 | apply gL4); assumption)))
    refine t_cond (fun _ => ?_) (fun e => absurd (by simpa using e) hne)
    exact t_ret ⟨LH.le_trans le14 le5, .inl ⟨hne, rfl⟩⟩
  · (repeat (first | (with_reducible first | apply gA | apply gB | apply gC | apply gD | apply gE | apply gF | apply gG | apply gH | apply gI | apply gJ | apply gK | apply gL | apply gM | apply gN | apply gO | apply gP | apply gQ | apply gR) | ((with_reducible first | apply gT | apply gS2); first | exact rfl | assumption | omega | exact ⟨⟩) | ((with_reducible first | apply gL0 | apply gL1 | apply gL2 | apply gL3 | apply gL4); assumption)))
    refine t_cond (fun e => by cases e) (fun _ => ?_)
    have hck := (open_num h0).2
    have hnum := check_num hck
    have hreq := check_requests hck
    have hitn := (num_ok hnum).1
    have hitems : ∀ r ∈ u.requests, r.items.length ≤ 6 := fun r hr => by have := rises_len' (check_items hck r hr) (by omega); omega
    have hlen6 := lacksGo_len (land := land) (day := day) hitems u.requests 0 fun r hr => hr
    have le15 := LH.le_trans le14 le5
    have hrq := (hu.le le15.1).requests
    have hn6 := hrq.1
    have hm5 := k.isMap
    refine t_loop (fun mm vs h' => Mv m h₅ h' ∧ Desk h'.get d m f u ∧ ∃ (i : Nat) (p : Option Addr) (n c : Nat) (rs : List Lack), vs = [.slice p n c, .int .i64 i] ∧ i ≤ f.n6 ∧ mm = f.n6 - i ∧ Growing LackEnc 85 4 (dropM m h₅).get h'.get p n c rs ∧ lacks u land day = rs ++ lacksGo u land day (u.requests.drop i) i)
      ⟨Mv.refl, k, 0, none, 0, 0, [], rfl, Nat.zero_le _, rfl, Growing.nil, rfl⟩ ?_
    rintro Y mm vs h₆ hY ⟨mv, k6, i, p, n, c, rs, rfl, hi, rfl, g, hc⟩
    (repeat (first | (with_reducible first | apply gA | apply gB | apply gC | apply gD | apply gE | apply gF | apply gG | apply gH | apply gI | apply gJ | apply gK | apply gL | apply gM | apply gN | apply gO | apply gP | apply gQ | apply gR) | ((with_reducible first | apply gT | apply gS2); first | exact rfl | assumption | omega | exact ⟨⟩) | ((with_reducible first | apply gL0 | apply gL1 | apply gL2 | apply gL3 | apply gL4); assumption)))
    refine t_if (fun e1 => ?_) (fun e1 => ?_)
    · obtain ⟨x, a, hx, ha, e2, e3, q, mq, cq, e4, e5⟩ := hrq.at (i := i) (by omega)
      have e2 := mv.rd hm5 _ _ e2
      have e3 := mv.rd hm5 _ _ e3
      have e4 := mv.rd hm5 _ _ e4
      have hxm := List.mem_of_getElem? hx
      have hxd := hreq.2 x hxm
      have hx6 := hitems x hxm
      rw [drop_of hx, lacksGo] at hc
      (repeat (first | (with_reducible first | apply gA | apply gB | apply gC | apply gD | apply gE | apply gF | apply gG | apply gH | apply gI | apply gJ | apply gK | apply gL | apply gM | apply gN | apply gO | apply gP | apply gQ | apply gR) | ((with_reducible first | apply gT | apply gS2); first | exact rfl | assumption | omega | exact ⟨⟩) | ((with_reducible first | apply gL0 | apply gL1 | apply gL2 | apply gL3 | apply gL4); assumption)))
      have next : ∀ h' p n c rs', Mv m h₅ h' → Desk h'.get d m f u → Growing LackEnc 85 4 (dropM m h₅).get h'.get p n c rs' → rs' = rs ++ lacksOf u land day i x → Y [.slice p n c, .int .i64 (IntKind.wrap .i64 ((i : Int) + 1))] h' := by
        rintro h' p n c rs' mv' k' g' rfl
        refine hY (f.n6 - (i + 1)) _ _ (by omega) ⟨mv', k', i + 1, p, n, c, _, ?_, by omega, rfl, g', by rw [hc, List.append_assoc]⟩
        rw [wrap_id (by omega) (by omega)]; rfl
      refine t_blk (fun vs h' => vs = [] ∧ h₆ = h' ∧ x.land = land ∧ x.day ≤ day) ?_ ?_
      · refine t_cond (fun b1 => ?_) (fun b1 => ?_)
        · refine gR ?_
          refine t_cond (fun _ => ?_) (fun e => by cases e)
          (repeat (first | (with_reducible first | apply gA | apply gB | apply gC | apply gD | apply gE | apply gF | apply gG | apply gH | apply gI | apply gJ | apply gK | apply gL | apply gM | apply gN | apply gO | apply gP | apply gQ | apply gR) | ((with_reducible first | apply gT | apply gS2); first | exact rfl | assumption | omega | exact ⟨⟩) | ((with_reducible first | apply gL0 | apply gL1 | apply gL2 | apply gL3 | apply gL4); assumption)))
          refine t_again (next h₆ p n c rs mv k6 g ?_)
          have : x.land ≠ land := by simpa using b1
          rw [lacksOf, if_pos (.inl this)]; simp
        · refine t_if (fun b2 => ?_) (fun b2 => ?_)
          · refine gR ?_
            refine t_cond (fun _ => ?_) (fun e => by cases e)
            (repeat (first | (with_reducible first | apply gA | apply gB | apply gC | apply gD | apply gE | apply gF | apply gG | apply gH | apply gI | apply gJ | apply gK | apply gL | apply gM | apply gN | apply gO | apply gP | apply gQ | apply gR) | ((with_reducible first | apply gT | apply gS2); first | exact rfl | assumption | omega | exact ⟨⟩) | ((with_reducible first | apply gL0 | apply gL1 | apply gL2 | apply gL3 | apply gL4); assumption)))
            refine t_again (next h₆ p n c rs mv k6 g ?_)
            rw [lacksOf, if_pos (.inr b2)]; simp
          · exact t_again ⟨rfl, rfl, by simpa using b1, by omega⟩
      · rintro vs _ ⟨rfl, rfl, hland, hday⟩
        (repeat (first | (with_reducible first | apply gA | apply gB | apply gC | apply gD | apply gE | apply gF | apply gG | apply gH | apply gI | apply gJ | apply gK | apply gL | apply gM | apply gN | apply gO | apply gP | apply gQ | apply gR) | ((with_reducible first | apply gT | apply gS2); first | exact rfl | assumption | omega | exact ⟨⟩) | ((with_reducible first | apply gL0 | apply gL1 | apply gL2 | apply gL3 | apply gL4); assumption)))
        have hof : lacksOf u land day i x = (x.items.filter fun n => decide (safe u land n x.day ≠ 1)).map fun n => ⟨n, (i : Int), ⟨(window u x.day).first, x.day⟩⟩ := by
          rw [lacksOf, if_neg (by omega)]
        have hmq := e5.1
        refine t_loop (fun mm vs h' => Mv m h₅ h' ∧ Desk h'.get d m f u ∧ ∃ (j : Nat) (p : Option Addr) (n c : Nat) (ss : List Lack), vs = [.slice p n c, .int .i64 j] ∧ j ≤ mq ∧ mm = mq - j ∧ ss.length ≤ j ∧ Growing LackEnc 85 4 (dropM m h₅).get h'.get p n c (rs ++ ss) ∧ lacksOf u land day i x = ss ++ ((x.items.drop j).filter fun n => decide (safe u land n x.day ≠ 1)).map fun n => ⟨n, (i : Int), ⟨(window u x.day).first, x.day⟩⟩)
          ⟨mv, k6, 0, p, n, c, [], rfl, Nat.zero_le _, rfl, Nat.le_refl _, by simpa using g, hof⟩ ?_
        rintro Y2 mm vs h₇ hY2 ⟨mv7, k7, j, p, n, c, ss, rfl, hj, rfl, hsl, g7, hc7⟩
        (repeat (first | (with_reducible first | apply gA | apply gB | apply gC | apply gD | apply gE | apply gF | apply gG | apply gH | apply gI | apply gJ | apply gK | apply gL | apply gM | apply gN | apply gO | apply gP | apply gQ | apply gR) | ((with_reducible first | apply gT | apply gS2); first | exact rfl | assumption | omega | exact ⟨⟩) | ((with_reducible first | apply gL0 | apply gL1 | apply gL2 | apply gL3 | apply gL4); assumption)))
        refine t_if (fun e6 => ?_) (fun e6 => ?_)
        · obtain ⟨y, b, hy, hb, e7⟩ := (e5.rd IntE.grow (mv7.rd hm5)).at (i := j) (by omega)
          unfold IntE at e7
          rw [drop_of hy, List.filter_cons] at hc7
          (repeat (first | (with_reducible first | apply gA | apply gB | apply gC | apply gD | apply gE | apply gF | apply gG | apply gH | apply gI | apply gJ | apply gK | apply gL | apply gM | apply gN | apply gO | apply gP | apply gQ | apply gR) | ((with_reducible first | apply gT | apply gS2); first | exact rfl | assumption | omega | exact ⟨⟩) | ((with_reducible first | apply gL0 | apply gL1 | apply gL2 | apply gL3 | apply gL4); assumption)))
          refine t_de (c60 k7 hnum land y x.day hxd) ?_
          rintro _ h₈ mv8 k8 rfl
          have g8 := g7.mv k7.isMap mv8
          (repeat (first | (with_reducible first | apply gA | apply gB | apply gC | apply gD | apply gE | apply gF | apply gG | apply gH | apply gI | apply gJ | apply gK | apply gL | apply gM | apply gN | apply gO | apply gP | apply gQ | apply gR) | ((with_reducible first | apply gT | apply gS2); first | exact rfl | assumption | omega | exact ⟨⟩) | ((with_reducible first | apply gL0 | apply gL1 | apply gL2 | apply gL3 | apply gL4); assumption)))
          refine t_cond (fun b1 => ?_) (fun b1 => ?_)
          · have b1' : decide (safe u land y x.day ≠ 1) = true := by simpa using b1
            rw [if_pos b1', List.map_cons] at hc7
            refine t_de (c55 k8 (num_ok hnum).2.2.2 x.day hxd) ?_
            rintro _ h₉ mv9 k9 rfl
            have g9 := g8.mv k8.isMap mv9
            have e7' := (mv8.trans mv9).rd k7.isMap _ _ e7
            (repeat (first | (with_reducible first | apply gA | apply gB | apply gC | apply gD | apply gE | apply gF | apply gG | apply gH | apply gI | apply gJ | apply gK | apply gL | apply gM | apply gN | apply gO | apply gP | apply gQ | apply gR) | ((with_reducible first | apply gT | apply gS2); first | exact rfl | assumption | omega | exact ⟨⟩) | ((with_reducible first | apply gL0 | apply gL1 | apply gL2 | apply gL3 | apply gL4); assumption)))
            refine t_build und45 inf79 (by decide) (by decide) (cells := #[.int .i64 y, .int .i64 i, .int .i64 (window u x.day).first, .int .i64 x.day]) (by kernel_rfl) fun r hr => ?_
            have le10 : h₉.le _ := LH.upd_le (x := (true, .cells #[.int .i64 y, .int .i64 i, .int .i64 (window u x.day).first, .int .i64 x.day] 85 (0, 0))) hr
            have hng := g9.count LackEnc.len (by omega)
            have hrs6 : rs.length ≤ u.requests.length * 6 := by
              have := hlen6
              unfold lacks at hc
              rw [hc, List.length_append] at this; omega
            have hssl : ss.length ≤ 6 := by have := e5.1; omega
            rw [List.length_append] at hng
            (repeat (first | (with_reducible first | apply gA | apply gB | apply gC | apply gD | apply gE | apply gF | apply gG | apply gH | apply gI | apply gJ | apply gK | apply gL | apply gM | apply gN | apply gO | apply gP | apply gQ | apply gR) | ((with_reducible first | apply gT | apply gS2); first | exact rfl | assumption | omega | exact ⟨⟩) | ((with_reducible first | apply gL0 | apply gL1 | apply gL2 | apply gL3 | apply gL4); assumption)))
            refine t_growD (x := (⟨y, (i : Int), ⟨(window u x.day).first, x.day⟩⟩ : Lack)) (ws := [.int .i64 y, .int .i64 i, .int .i64 (window u x.day).first, .int .i64 x.day]) k (k9.le le10.1) (((mv7.trans mv8).trans mv9).trans (Mv.of_le le10)) rfl rfl und45 und45 inf79 rfl (by omega) (by omega) (g9.le le10.1) rfl rfl ?_ ?_ ?_
            · intro j w hj
              rw [add_plain, Nat.zero_add]
              exact cell_upd (by simpa using hj)
            · intro w hw; simp at hw; rcases hw with rfl | rfl | rfl | rfl <;> rfl
            · intro p' c' h₁₀ mv10 k10 g10
              (repeat (first | (with_reducible first | apply gA | apply gB | apply gC | apply gD | apply gE | apply gF | apply gG | apply gH | apply gI | apply gJ | apply gK | apply gL | apply gM | apply gN | apply gO | apply gP | apply gQ | apply gR) | ((with_reducible first | apply gT | apply gS2); first | exact rfl | assumption | omega | exact ⟨⟩) | ((with_reducible first | apply gL0 | apply gL1 | apply gL2 | apply gL3 | apply gL4); assumption)))
              refine t_again (hY2 (mq - (j + 1)) _ _ (by omega) ⟨mv10, k10, j + 1, p', n + 1, c', ss ++ [⟨y, (i : Int), ⟨(window u x.day).first, x.day⟩⟩], ?_, by omega, rfl, by simp; omega, by rw [← List.append_assoc]; exact g10, by rw [hc7]; simp⟩)
              rw [wrap_id (by omega) (by omega)]; rfl
          · have b1' : decide (safe u land y x.day ≠ 1) = false := by simpa using b1
            rw [if_neg (by rw [b1']; simp)] at hc7
            refine t_again (hY2 (mq - (j + 1)) _ _ (by omega) ⟨mv7.trans mv8, k8, j + 1, p, n, c, ss, ?_, by omega, rfl, by omega, g8, hc7⟩)
            rw [wrap_id (by omega) (by omega)]; rfl
        · (repeat (first | (with_reducible first | apply gA | apply gB | apply gC | apply gD | apply gE | apply gF | apply gG | apply gH | apply gI | apply gJ | apply gK | apply gL | apply gM | apply gN | apply gO | apply gP | apply gQ | apply gR) | ((with_reducible first | apply gT | apply gS2); first | exact rfl | assumption | omega | exact ⟨⟩) | ((with_reducible first | apply gL0 | apply gL1 | apply gL2 | apply gL3 | apply gL4); assumption)))
          rw [List.drop_eq_nil_of_le (by omega)] at hc7
          refine t_again (next h₇ p n c _ mv7 k7 g7 ?_)
          rw [hc7]; simp
    · (repeat (first | (with_reducible first | apply gA | apply gB | apply gC | apply gD | apply gE | apply gF | apply gG | apply gH | apply gI | apply gJ | apply gK | apply gL | apply gM | apply gN | apply gO | apply gP | apply gQ | apply gR) | ((with_reducible first | apply gT | apply gS2); first | exact rfl | assumption | omega | exact ⟨⟩) | ((with_reducible first | apply gL0 | apply gL1 | apply gL2 | apply gL3 | apply gL4); assumption)))
      rw [List.drop_eq_nil_of_le (by omega), lacksGo, List.append_nil] at hc
      refine t_ret ⟨LH.le_trans le14 (Mv.le_of le5 hm mv), .inr ⟨h0, p, n, c, rfl, ?_⟩⟩
      rw [hc]
      refine g.sl LackEnc.len (by omega) LackEnc.e ?_
      have : rs.length ≤ u.requests.length * 6 := by
        have := hlen6
        unfold lacks at hc
        rw [hc] at this; exact this
      omega
def PaperEnc (h₀ : Cells) (x : Paper) (ws : List Value) : Prop := ∃ q m c, ws = [.int .i64 x.days.first, .int .i64 x.days.last, .int .i64 x.land, .slice q m c] ∧ Sl IntE 1 h₀ q m x.items
theorem PaperEnc.len {h₀ : Cells} : ∀ x ws, PaperEnc h₀ x ws → ws.length = 4 := by rintro x _ ⟨q, m, c, rfl, _⟩; rfl
theorem PaperEnc.e {h₀ h' : Cells} (hr : Rd h₀ h') : ∀ a x ws, PaperEnc h₀ x ws → (∀ (j : Nat) w, ws[j]? = some w → h'.cell? (a.add j) = some w) → PaperE h' a x := by
  rintro a x _ ⟨q, m, c, rfl, hs⟩ hc
  exact ⟨hc 0 _ rfl, hc 1 _ rfl, hc 2 _ rfl, q, m, c, hc 3 _ rfl, hs.rd IntE.grow hr⟩
def enoughB (u : UseFile) (land day : Int) (papers all : List Int) : Bool := decide (checkF (withP u papers) = 0) && coversB all (leftAll (withP u papers) land day)
theorem withP_take {u : UseFile} {pl : List Int} {i : Nat} {v : Int} {x : Paper} (hv : pl[i]? = some v) (hx : u.papers[v.toNat]? = some x) : (pl.take (i + 1)).filterMap (fun n => u.papers[n.toNat]?) = (pl.take i).filterMap (fun n => u.papers[n.toNat]?) ++ [x] := by
  obtain ⟨hlt, rfl⟩ := List.getElem?_eq_some_iff.1 hv
  rw [List.take_succ_eq_append_getElem hlt, List.filterMap_append]
  simp [hx]
theorem c71 {h : LH} {f : FileC} {u : UseFile} (hp : Parts h.get) (hu : FileR h.get f u) (land day : Int) {pp : Option Addr} {pn pc : Nat} {pl : List Int} (hpl : Sl IntE 1 h.get pp pn pl) (hin : ∀ v ∈ pl, 0 ≤ v ∧ v < (u.papers.length : Int)) (hpl8 : pl.length ≤ 8)
    {ap : Option Addr} {an ac : Nat} {all : List Int} (hal : Sl IntE 1 h.get ap an all) (halen : all.length = u.items.toNat) : Gr Tryd.prog 63 #[fileV f u, .int .i64 land, .int .i64 day, .slice pp pn pc, .slice ap an ac] h fun r _ => r = .bool (enoughB u land day pl all) := by
  refine w71 _ _ _ _ _ _ _ _ _ _ _ _ _ _ _ _ _ _ _ _ _ X0_ok ?_
  unfold n71
  have hn := hpl.1
  have hn5 := hu.papers.1
  refine t_loop (fun mm vs h' => h.le h' ∧ ∃ (i : Nat) (p : Option Addr) (n c : Nat), vs = [.int .i64 i, .int .i64 u.items, .int .i64 u.lands, .int .i64 u.from_, .int .i64 u.idle, .slice f.p4 f.n4 f.c4, .slice p n c, .slice f.p6 f.n6 f.c6] ∧ i ≤ pn ∧ mm = pn - i ∧
      Growing (PaperEnc h.get) 68 4 h.get h'.get p n c ((pl.take i).filterMap fun n => u.papers[n.toNat]?)) ⟨LH.le_refl _, 0, none, 0, 0, rfl, Nat.zero_le _, rfl, Growing.nil⟩ ?_
  rintro Y mm vs h₁ hY ⟨hle, i, p, n, c, rfl, hi, rfl, g⟩
  (repeat (first | (with_reducible first | apply gA | apply gB | apply gC | apply gD | apply gE | apply gF | apply gG | apply gH | apply gI | apply gJ | apply gK | apply gL | apply gM | apply gN | apply gO | apply gP | apply gQ | apply gR) | ((with_reducible first | apply gT | apply gS2); first | exact rfl | assumption | omega | exact ⟨⟩) | ((with_reducible first | apply gL0 | apply gL1 | apply gL2 | apply gL3 | apply gL4); assumption)))
  refine t_if (fun e1 => ?_) (fun e1 => ?_)
  · obtain ⟨v, a, hv, ha, e2⟩ := hpl.at (i := i) (by omega)
    unfold IntE at e2
    have e2 := Cells.cell?_le hle.1 e2
    have hvr := hin v (List.mem_of_getElem? hv)
    have hvn : ((v.toNat : Nat) : Int) = v := by omega
    obtain ⟨x, b, hx, hb, e3, e4, e5, q, mq, cq, e6, e7⟩ := hu.papers.at (i := v.toNat) (by omega)
    have e3 := Cells.cell?_le hle.1 e3
    have e4 := Cells.cell?_le hle.1 e4
    have e5 := Cells.cell?_le hle.1 e5
    have e6 := Cells.cell?_le hle.1 e6
    have hnv : 0 ≤ v ∧ v < (f.n5 : Int) := by omega
    (repeat (first | (with_reducible first | apply gA | apply gB | apply gC | apply gD | apply gE | apply gF | apply gG | apply gH | apply gI | apply gJ | apply gK | apply gL | apply gM | apply gN | apply gO | apply gP | apply gQ | apply gR) | ((with_reducible first | apply gT | apply gS2); first | exact rfl | assumption | omega | exact ⟨⟩) | ((with_reducible first | apply gL0 | apply gL1 | apply gL2 | apply gL3 | apply gL4); assumption)))
    refine t_build und23 inf69 (by decide) (by decide) (cells := #[.int .i64 x.days.first, .int .i64 x.days.last, .int .i64 x.land, .slice q mq cq]) (by kernel_rfl) fun r hr => ?_
    have le2 : h₁.le _ := LH.upd_le (x := (true, .cells #[.int .i64 x.days.first, .int .i64 x.days.last, .int .i64 x.land, .slice q mq cq] 68 (0, 0))) hr
    have hng := g.count PaperEnc.len (by omega)
    have hlen : ((pl.take i).filterMap fun n => u.papers[n.toNat]?).length ≤ 8 := Nat.le_trans (List.length_filterMap_le _ _) (by rw [List.length_take]; omega)
    (repeat (first | (with_reducible first | apply gA | apply gB | apply gC | apply gD | apply gE | apply gF | apply gG | apply gH | apply gI | apply gJ | apply gK | apply gL | apply gM | apply gN | apply gO | apply gP | apply gQ | apply gR) | ((with_reducible first | apply gT | apply gS2); first | exact rfl | assumption | omega | exact ⟨⟩) | ((with_reducible first | apply gL0 | apply gL1 | apply gL2 | apply gL3 | apply gL4); assumption)))
    refine t_grow (x := x) (ws := [.int .i64 x.days.first, .int .i64 x.days.last, .int .i64 x.land, .slice q mq cq]) rfl rfl und23 und23 inf69 rfl (by omega) (by omega) (g.le le2.1) (LH.le_trans hle le2) ⟨q, mq, cq, rfl, e7⟩ rfl ?_ ?_ ?_
    · intro j w hj
      rw [add_plain, Nat.zero_add]
      exact cell_upd (by simpa using hj)
    · intro w hw; simp at hw; rcases hw with rfl | rfl | rfl | rfl <;> rfl
    · intro p' c' h₂ hle2 _ g2
      (repeat (first | (with_reducible first | apply gA | apply gB | apply gC | apply gD | apply gE | apply gF | apply gG | apply gH | apply gI | apply gJ | apply gK | apply gL | apply gM | apply gN | apply gO | apply gP | apply gQ | apply gR) | ((with_reducible first | apply gT | apply gS2); first | exact rfl | assumption | omega | exact ⟨⟩) | ((with_reducible first | apply gL0 | apply gL1 | apply gL2 | apply gL3 | apply gL4); assumption)))
      refine t_again (hY (pn - (i + 1)) _ _ (by omega) ⟨hle2, i + 1, p', n + 1, c', ?_, by omega, rfl, by rw [withP_take hv hx]; exact g2⟩)
      rw [wrap_id (by omega) (by omega)]; rfl
  · (repeat (first | (with_reducible first | apply gA | apply gB | apply gC | apply gD | apply gE | apply gF | apply gG | apply gH | apply gI | apply gJ | apply gK | apply gL | apply gM | apply gN | apply gO | apply gP | apply gQ | apply gR) | ((with_reducible first | apply gT | apply gS2); first | exact rfl | assumption | omega | exact ⟨⟩) | ((with_reducible first | apply gL0 | apply gL1 | apply gL2 | apply gL3 | apply gL4); assumption)))
    have hpi : pl.take i = pl := List.take_of_length_le (by omega)
    rw [hpi] at g
    have hlen : (pl.filterMap fun n => u.papers[n.toNat]?).length ≤ 8 := Nat.le_trans (List.length_filterMap_le _ _) hpl8
    have hsl := g.sl PaperEnc.len (by omega) (PaperEnc.e (Rd.of_le hle.1)) (by omega)
    have hu' : FileR h₁.get { f with p5 := p, n5 := n, c5 := c } (withP u pl) := ⟨hu.excuses.le SpanE.grow hle.1, hsl, hu.requests.le RequestE.grow hle.1⟩
    refine t_call (c53 (f := { f with p5 := p, n5 := n, c5 := c }) (u := withP u pl) (l := []) (hp.le hle.1) hu' ⟨rfl, by show 0 < _; omega, fun i g hg => by simp at hg⟩) ?_
    rintro v h₂ ⟨le2, ⟨hne, rfl⟩ | ⟨h0, d, m, rfl, hd, hm, k⟩⟩
    · (repeat (first | (with_reducible first | apply gA | apply gB | apply gC | apply gD | apply gE | apply gF | apply gG | apply gH | apply gI | apply gJ | apply gK | apply gL | apply gM | apply gN | apply gO | apply gP | apply gQ | apply gR) | ((with_reducible first | apply gT | apply gS2); first | exact rfl | assumption | omega | exact ⟨⟩) | ((with_reducible first | apply gL0 | apply gL1 | apply gL2 | apply gL3 | apply gL4); assumption)))
      refine t_cond (fun _ => ?_) (fun e => absurd (by simpa using e) hne)
      refine t_ret ⟨LH.le_trans hle le2, ?_⟩
      have : checkF (withP u pl) ≠ 0 := by
        intro hc
        apply hne
        rw [openF, if_neg (by simp [hc])]; rfl
      unfold enoughB
      rw [decide_eq_false this]; rfl
    · (repeat (first | (with_reducible first | apply gA | apply gB | apply gC | apply gD | apply gE | apply gF | apply gG | apply gH | apply gI | apply gJ | apply gK | apply gL | apply gM | apply gN | apply gO | apply gP | apply gQ | apply gR) | ((with_reducible first | apply gT | apply gS2); first | exact rfl | assumption | omega | exact ⟨⟩) | ((with_reducible first | apply gL0 | apply gL1 | apply gL2 | apply gL3 | apply gL4); assumption)))
      refine t_cond (fun e => by cases e) (fun _ => ?_)
      have hck := (open_num h0).2
      refine t_de (c63 k hck land day) ?_
      rintro _ h₃ mv k3 ⟨p3, n3, c3, rfl, g3⟩
      (repeat (first | (with_reducible first | apply gA | apply gB | apply gC | apply gD | apply gE | apply gF | apply gG | apply gH | apply gI | apply gJ | apply gK | apply gL | apply gM | apply gN | apply gO | apply gP | apply gQ | apply gR) | ((with_reducible first | apply gT | apply gS2); first | exact rfl | assumption | omega | exact ⟨⟩) | ((with_reducible first | apply gL0 | apply gL1 | apply gL2 | apply gL3 | apply gL4); assumption)))
      have hitn := (num_ok (open_num h0).1).1
      have hitn' : (withP u pl).items = u.items := rfl
      rw [hitn'] at hitn
      have hll : (leftAll (withP u pl) land day).length = u.items.toNat := by unfold leftAll; rw [List.length_map, List.length_range, hitn']
      have hs3 := g3.sl IntEnc.len (by omega) IntEnc.e (by omega)
      have hle3 := Mv.le_of (LH.le_trans hle le2) (by
        cases hx : h.get m with
        | none => rfl
        | some y => rw [hle.1 _ _ hx] at hm; cases hm) mv
      have hal3 := hal.le IntE.grow hle3.1
      have hn3 := hs3.1
      have han := hal3.1
      refine t_loop (fun mm vs h' => h₃ = h' ∧ ∃ j : Nat, vs = [.bool false, .int .i64 j] ∧ j ≤ n3 ∧ mm = n3 - j ∧ coversB all (leftAll (withP u pl) land day) = coversB (all.drop j) ((leftAll (withP u pl) land day).drop j)) ⟨rfl, 0, rfl, Nat.zero_le _, rfl, rfl⟩ ?_
      rintro Y2 mm vs _ hY2 ⟨rfl, j, rfl, hj, rfl, hc⟩
      (repeat (first | (with_reducible first | apply gA | apply gB | apply gC | apply gD | apply gE | apply gF | apply gG | apply gH | apply gI | apply gJ | apply gK | apply gL | apply gM | apply gN | apply gO | apply gP | apply gQ | apply gR) | ((with_reducible first | apply gT | apply gS2); first | exact rfl | assumption | omega | exact ⟨⟩) | ((with_reducible first | apply gL0 | apply gL1 | apply gL2 | apply gL3 | apply gL4); assumption)))
      have hfin : ∀ b, coversB all (leftAll (withP u pl) land day) = b → Value.bool b = .bool (enoughB u land day pl all) := by
        intro b hb
        unfold enoughB
        rw [decide_eq_true hck, hb]; rfl
      refine t_if (fun e6 => ?_) (fun e6 => ?_)
      · obtain ⟨y, a1, hy, ha1, e7⟩ := hs3.at (i := j) (by omega)
        obtain ⟨z, a2, hz, ha2, e8⟩ := hal3.at (i := j) (by omega)
        unfold IntE at e7 e8
        rw [drop_of hy, drop_of hz, coversB] at hc
        (repeat (first | (with_reducible first | apply gA | apply gB | apply gC | apply gD | apply gE | apply gF | apply gG | apply gH | apply gI | apply gJ | apply gK | apply gL | apply gM | apply gN | apply gO | apply gP | apply gQ | apply gR) | ((with_reducible first | apply gT | apply gS2); first | exact rfl | assumption | omega | exact ⟨⟩) | ((with_reducible first | apply gL0 | apply gL1 | apply gL2 | apply gL3 | apply gL4); assumption)))
        have next : (!decide (z = 1) || decide (y = 1)) = true → Y2 [.bool false, .int .i64 (IntKind.wrap .i64 ((j : Int) + 1))] h₃ := by
          intro hh
          rw [hh, Bool.true_and] at hc
          refine hY2 (n3 - (j + 1)) _ _ (by omega) ⟨rfl, j + 1, ?_, by omega, rfl, hc⟩
          rw [wrap_id (by omega) (by omega)]; rfl
        refine t_cond (fun b1 => ?_) (fun b1 => ?_)
        · have b1' : z = 1 := by simpa using b1
          refine t_cond (fun b2 => ?_) (fun b2 => ?_)
          · have b2' : y ≠ 1 := by simpa using b2
            (repeat (first | (with_reducible first | apply gA | apply gB | apply gC | apply gD | apply gE | apply gF | apply gG | apply gH | apply gI | apply gJ | apply gK | apply gL | apply gM | apply gN | apply gO | apply gP | apply gQ | apply gR) | ((with_reducible first | apply gT | apply gS2); first | exact rfl | assumption | omega | exact ⟨⟩) | ((with_reducible first | apply gL0 | apply gL1 | apply gL2 | apply gL3 | apply gL4); assumption)))
            refine t_ret ⟨hle3, hfin false ?_⟩
            rw [hc]; simp [b1', b2']
          · have b2' : y = 1 := by simpa using b2
            exact t_again (next (by simp [b2']))
        · have b1' : z ≠ 1 := by simpa using b1
          exact t_again (next (by simp [b1']))
      · (repeat (first | (with_reducible first | apply gA | apply gB | apply gC | apply gD | apply gE | apply gF | apply gG | apply gH | apply gI | apply gJ | apply gK | apply gL | apply gM | apply gN | apply gO | apply gP | apply gQ | apply gR) | ((with_reducible first | apply gT | apply gS2); first | exact rfl | assumption | omega | exact ⟨⟩) | ((with_reducible first | apply gL0 | apply gL1 | apply gL2 | apply gL3 | apply gL4); assumption)))
        refine t_ret ⟨hle3, hfin true ?_⟩
        rw [hc, List.drop_eq_nil_of_le (show (leftAll (withP u pl) land day).length ≤ j by omega)]
        cases all.drop j <;> rfl
theorem c69 {h : LH} {f : FileC} {u : UseFile} (hu5 : f.n5 = u.papers.length) (hub : (u.papers.length : Int) < 4611686018427387904) {z : Addr} {p : Option Addr} {n c : Nat} {l : List Int} (hz : h.get.cell? z = some (.slice p n c)) (hl : Sl IntE 1 h.get p n l) : Gr Tryd.prog 61 #[fileV f u, .pointer (some z)] h fun r _ => r = .int .i64 (risesF l u.papers.length) := by
  refine w69 _ _ _ _ _ _ _ _ _ _ _ _ _ _ X0_ok ?_
  unfold n69
  refine gL1 hz ?_
  rw [hu5]
  refine t_gr (c70 hl (by unfold IsI; omega)) ?_
  rintro _ h' hle rfl
  (repeat (first | (with_reducible first | apply gA | apply gB | apply gC | apply gD | apply gE | apply gF | apply gG | apply gH | apply gI | apply gJ | apply gK | apply gL | apply gM | apply gN | apply gO | apply gP | apply gQ | apply gR) | ((with_reducible first | apply gT | apply gS2); first | exact rfl | assumption | omega | exact ⟨⟩) | ((with_reducible first | apply gL0 | apply gL1 | apply gL2 | apply gL3 | apply gL4); assumption)))
  exact t_ret ⟨hle, rfl⟩
theorem rises_in {l : List Int} {b : Int} (h : risesF l b = 0) : ∀ v ∈ l, 0 ≤ v ∧ v < b := by
  intro v hv
  obtain ⟨i, hi, rfl⟩ := List.getElem_of_mem hv
  have := rises_len h i hi
  omega
def enoughQ (u : UseFile) (land day : Int) (papers : List Int) : List Int := [landQ u land, dayQ day, risesF papers u.papers.length]
def enoughR (u : UseFile) (land day : Int) (papers : List Int) : Value :=
  if openF u (enoughQ u land day papers) ≠ 0 then .tuple #[.bool false, .int .i64 (openF u (enoughQ u land day papers))] else .tuple #[.bool (enoughB u land day papers (leftAll u land day)), .int .i64 0]
theorem c31 {h : LH} {f : FileC} {u : UseFile} (hp : Parts h.get) (hu : FileR h.get f u) (land day : Int) {pp : Option Addr} {pn pc : Nat} {pl : List Int} (hpl : Sl IntE 1 h.get pp pn pl) : Gr Tryd.prog 26 #[fileV f u, .int .i64 land, .int .i64 day, .slice pp pn pc] h fun r _ => r = enoughR u land day pl := by
  refine w31 _ _ _ _ _ _ _ _ _ _ _ _ _ _ _ _ _ _ X0_ok ?_
  unfold n31
  refine t_new fun r hr => ?_
  have le0 : h.le _ := LH.upd_le (x := (true, .cells #[.slice pp pn pc] 50 (0, 0))) hr
  have z0 : Cells.cell? (h.get.upd r (true, .cells #[.slice pp pn pc] 50 (0, 0))) ⟨r, 0, none⟩ = some (.slice pp pn pc) := cell_upd rfl
  refine t_gr (c58 u land) ?_
  rintro v0 h₁ le1 ⟨q0, a0⟩
  (repeat (first | (with_reducible first | apply gA | apply gB | apply gC | apply gD | apply gE | apply gF | apply gG | apply gH | apply gI | apply gJ | apply gK | apply gL | apply gM | apply gN | apply gO | apply gP | apply gQ | apply gR) | ((with_reducible first | apply gT | apply gS2); first | exact rfl | assumption | omega | exact ⟨⟩) | ((with_reducible first | apply gL0 | apply gL1 | apply gL2 | apply gL3 | apply gL4); assumption)))
  refine t_gr (c54 u day) ?_
  rintro v1 h₂ le2 ⟨q1, a1⟩
  (repeat (first | (with_reducible first | apply gA | apply gB | apply gC | apply gD | apply gE | apply gF | apply gG | apply gH | apply gI | apply gJ | apply gK | apply gL | apply gM | apply gN | apply gO | apply gP | apply gQ | apply gR) | ((with_reducible first | apply gT | apply gS2); first | exact rfl | assumption | omega | exact ⟨⟩) | ((with_reducible first | apply gL0 | apply gL1 | apply gL2 | apply gL3 | apply gL4); assumption)))
  have le02 := LH.le_trans (LH.le_trans le0 le1) le2
  have hub := hu.papers.2.1
  have z2 := Cells.cell?_le (LH.le_trans le1 le2).1 z0
  have a2 : Asks (.func (.func 61) #[] #[.pointer (some ⟨r, 0, none⟩)]) h₂ u (risesF pl u.papers.length) := by
    intro _ f' h' hle hu'
    exact cv_fw X0_ok (by rfl) (c69 hu'.papers.1 (by omega) (Cells.cell?_le hle.1 z2) (hpl.le IntE.grow (LH.le_trans le02 hle).1))
  refine asks3 q0 (a0.le le2) q1 a1 ⟨_, _, _, rfl⟩ a2 fun r' h₄ le4 hs => ?_
  (repeat (first | (with_reducible first | apply gA | apply gB | apply gC | apply gD | apply gE | apply gF | apply gG | apply gH | apply gI | apply gJ | apply gK | apply gL | apply gM | apply gN | apply gO | apply gP | apply gQ | apply gR) | ((with_reducible first | apply gT | apply gS2); first | exact rfl | assumption | omega | exact ⟨⟩) | ((with_reducible first | apply gL0 | apply gL1 | apply gL2 | apply gL3 | apply gL4); assumption)))
  have le14 := LH.le_trans le02 le4
  refine t_call (c53 (f := f) (hp.le le14.1) (hu.le le14.1) hs) ?_
  rintro v h₅ ⟨le5, ⟨hne, rfl⟩ | ⟨h0, d, m, rfl, hd, hm, k⟩⟩
  · (repeat (first | (with_reducible first | apply gA | apply gB | apply gC | apply gD | apply gE | apply gF | apply gG | apply gH | apply gI | apply gJ | apply gK | apply gL | apply gM | apply gN | apply gO | apply gP | apply gQ | apply gR) | ((with_reducible first | apply gT | apply gS2); first | exact rfl | assumption | omega | exact ⟨⟩) | ((with_reducible first | apply gL0 | apply gL1 | apply gL2 | apply gL3 | apply gL4); assumption)))
    refine t_cond (fun _ => ?_) (fun e => absurd (by simpa using e) hne)
    refine t_ret ⟨LH.le_trans le14 le5, ?_⟩
    show _ = enoughR u land day pl
    rw [enoughR, if_pos (show openF u (enoughQ u land day pl) ≠ 0 from hne)]; rfl
  · (repeat (first | (with_reducible first | apply gA | apply gB | apply gC | apply gD | apply gE | apply gF | apply gG | apply gH | apply gI | apply gJ | apply gK | apply gL | apply gM | apply gN | apply gO | apply gP | apply gQ | apply gR) | ((with_reducible first | apply gT | apply gS2); first | exact rfl | assumption | omega | exact ⟨⟩) | ((with_reducible first | apply gL0 | apply gL1 | apply gL2 | apply gL3 | apply gL4); assumption)))
    refine t_cond (fun e => by cases e) (fun _ => ?_)
    have le25 := LH.le_trans le4 le5
    have z5 := Cells.cell?_le le25.1 z2
    refine gL1 z5 ?_
    have hck := (open_num h0).2
    refine t_de (c63 k hck land day) ?_
    rintro _ h₆ mv k6 ⟨p, n, c, rfl, g⟩
    (repeat (first | (with_reducible first | apply gA | apply gB | apply gC | apply gD | apply gE | apply gF | apply gG | apply gH | apply gI | apply gJ | apply gK | apply gL | apply gM | apply gN | apply gO | apply gP | apply gQ | apply gR) | ((with_reducible first | apply gT | apply gS2); first | exact rfl | assumption | omega | exact ⟨⟩) | ((with_reducible first | apply gL0 | apply gL1 | apply gL2 | apply gL3 | apply gL4); assumption)))
    have z6 := mv.rd k.isMap _ _ z5
    refine gL1 z6 ?_
    (repeat (first | (with_reducible first | apply gA | apply gB | apply gC | apply gD | apply gE | apply gF | apply gG | apply gH | apply gI | apply gJ | apply gK | apply gL | apply gM | apply gN | apply gO | apply gP | apply gQ | apply gR) | ((with_reducible first | apply gT | apply gS2); first | exact rfl | assumption | omega | exact ⟨⟩) | ((with_reducible first | apply gL0 | apply gL1 | apply gL2 | apply gL3 | apply gL4); assumption)))
    have hm0 : h.get m = none := by
      cases hx : h.get m with
      | none => rfl
      | some x => rw [le14.1 _ _ hx] at hm; cases hm
    have le6 := Mv.le_of (LH.le_trans le14 le5) hm0 mv
    have hrise : risesF pl u.papers.length = 0 := open_zero h0 _ (by simp)
    have hpap := (check_papers hck).1
    have hpl8 := rises_len' hrise (by omega)
    have hitn := (num_ok (open_num h0).1).1
    have hll : (leftAll u land day).length = u.items.toNat := by unfold leftAll; rw [List.length_map, List.length_range]
    refine t_gr (c71 (hp.le le6.1) (hu.le le6.1) land day (hpl.le IntE.grow le6.1) (rises_in hrise) (by omega) (g.sl IntEnc.len (by omega) IntEnc.e (by omega)) hll) ?_
    rintro _ h₇ le7 rfl
    (repeat (first | (with_reducible first | apply gA | apply gB | apply gC | apply gD | apply gE | apply gF | apply gG | apply gH | apply gI | apply gJ | apply gK | apply gL | apply gM | apply gN | apply gO | apply gP | apply gQ | apply gR) | ((with_reducible first | apply gT | apply gS2); first | exact rfl | assumption | omega | exact ⟨⟩) | ((with_reducible first | apply gL0 | apply gL1 | apply gL2 | apply gL3 | apply gL4); assumption)))
    refine t_ret ⟨LH.le_trans le6 le7, ?_⟩
    show _ = enoughR u land day pl
    rw [enoughR, if_neg (by unfold enoughQ; simpa using h0)]
def cmpI (x y : Int) : Int := if x < y then -1 else if x > y then 1 else 0
def cmpL : List Int → List Int → Int
  | [], [] => 0
  | [], _ :: _ => -1
  | _ :: _, [] => 1
  | x :: xs, y :: ys => if cmpI x y ≠ 0 then cmpI x y else cmpL xs ys
def fewerF (a b : List Int) : Int := if a.length ≠ b.length then (a.length : Int) - b.length else cmpL a b
theorem c109 {h : LH} (x : Int) : Pu Tryd.prog 122 #[.int .i64 x] h (.bool false) := by
  refine w109 _ X0_ok ?_
  unfold n109
  refine t_ret ⟨?_, rfl⟩
  simp
theorem c105 {h : LH} (x y : Int) : Pu Tryd.prog 115 #[.int .i64 x, .int .i64 y] h (.int .i64 (cmpI x y)) := by
  refine w105 _ _ X0_ok ?_
  unfold n105
  refine t_pu (c109 _) ?_
  (repeat (first | (with_reducible first | apply gA | apply gB | apply gC | apply gD | apply gE | apply gF | apply gG | apply gH | apply gI | apply gJ | apply gK | apply gL | apply gM | apply gN | apply gO | apply gP | apply gQ | apply gR) | ((with_reducible first | apply gT | apply gS2); first | exact rfl | assumption | omega | exact ⟨⟩) | ((with_reducible first | apply gL0 | apply gL1 | apply gL2 | apply gL3 | apply gL4); assumption)))
  refine t_pu (c109 _) ?_
  (repeat (first | (with_reducible first | apply gA | apply gB | apply gC | apply gD | apply gE | apply gF | apply gG | apply gH | apply gI | apply gJ | apply gK | apply gL | apply gM | apply gN | apply gO | apply gP | apply gQ | apply gR) | ((with_reducible first | apply gT | apply gS2); first | exact rfl | assumption | omega | exact ⟨⟩) | ((with_reducible first | apply gL0 | apply gL1 | apply gL2 | apply gL3 | apply gL4); assumption)))
  refine t_cond (fun e => by cases e) (fun _ => ?_)
  refine t_cond (fun e => by cases e) (fun _ => ?_)
  refine t_if (fun e => ?_) (fun e => ?_)
  · refine t_ret ⟨?_, rfl⟩; rw [cmpI, if_pos e]
  · refine t_if (fun e' => ?_) (fun e' => ?_) <;> refine t_ret ⟨?_, rfl⟩ <;> simp [cmpI, e, e']
theorem c97 {h : LH} {p q : Option Addr} {n c m d : Nat} {a b : List Int} (ha : Sl IntE 1 h.get p n a) (hb : Sl IntE 1 h.get q m b) : Pu Tryd.prog 100 #[.slice p n c, .slice q m d] h (.int .i64 (cmpL a b)) := by
  refine w97 _ _ _ _ _ _ X0_ok ?_
  unfold n97
  have hn := ha.1
  have hm := hb.1
  have hbn := ha.2.1
  have hbm := hb.2.1
  refine t_loop (fun mm vs h' => h = h' ∧ ∃ i : Nat, vs = [.int .i64 0, .int .i64 i] ∧ i ≤ n ∧ i ≤ m ∧ mm = n - i ∧ cmpL a b = cmpL (a.drop i) (b.drop i)) ⟨rfl, 0, rfl, Nat.zero_le _, Nat.zero_le _, rfl, rfl⟩ ?_
  rintro Y mm vs _ hY ⟨rfl, i, rfl, hi, hi', rfl, hc⟩
  (repeat (first | (with_reducible first | apply gA | apply gB | apply gC | apply gD | apply gE | apply gF | apply gG | apply gH | apply gI | apply gJ | apply gK | apply gL | apply gM | apply gN | apply gO | apply gP | apply gQ | apply gR) | ((with_reducible first | apply gT | apply gS2); first | exact rfl | assumption | omega | exact ⟨⟩) | ((with_reducible first | apply gL0 | apply gL1 | apply gL2 | apply gL3 | apply gL4); assumption)))
  refine t_if (fun e1 => ?_) (fun e1 => ?_)
  · obtain ⟨x, a1, hx, ha1, e2⟩ := ha.at (i := i) (by omega)
    unfold IntE at e2
    rw [drop_of hx] at hc
    (repeat (first | (with_reducible first | apply gA | apply gB | apply gC | apply gD | apply gE | apply gF | apply gG | apply gH | apply gI | apply gJ | apply gK | apply gL | apply gM | apply gN | apply gO | apply gP | apply gQ | apply gR) | ((with_reducible first | apply gT | apply gS2); first | exact rfl | assumption | omega | exact ⟨⟩) | ((with_reducible first | apply gL0 | apply gL1 | apply gL2 | apply gL3 | apply gL4); assumption)))
    refine t_if (fun e3 => ?_) (fun e3 => ?_)
    · (repeat (first | (with_reducible first | apply gA | apply gB | apply gC | apply gD | apply gE | apply gF | apply gG | apply gH | apply gI | apply gJ | apply gK | apply gL | apply gM | apply gN | apply gO | apply gP | apply gQ | apply gR) | ((with_reducible first | apply gT | apply gS2); first | exact rfl | assumption | omega | exact ⟨⟩) | ((with_reducible first | apply gL0 | apply gL1 | apply gL2 | apply gL3 | apply gL4); assumption)))
      rw [List.drop_eq_nil_of_le (show b.length ≤ i by omega), cmpL] at hc
      exact t_ret ⟨by rw [hc], rfl⟩
    · obtain ⟨y, b1, hy, hb1, e4⟩ := hb.at (i := i) (by omega)
      unfold IntE at e4
      rw [drop_of hy, cmpL] at hc
      (repeat (first | (with_reducible first | apply gA | apply gB | apply gC | apply gD | apply gE | apply gF | apply gG | apply gH | apply gI | apply gJ | apply gK | apply gL | apply gM | apply gN | apply gO | apply gP | apply gQ | apply gR) | ((with_reducible first | apply gT | apply gS2); first | exact rfl | assumption | omega | exact ⟨⟩) | ((with_reducible first | apply gL0 | apply gL1 | apply gL2 | apply gL3 | apply gL4); assumption)))
      refine t_pu (c105 _ _) ?_
      (repeat (first | (with_reducible first | apply gA | apply gB | apply gC | apply gD | apply gE | apply gF | apply gG | apply gH | apply gI | apply gJ | apply gK | apply gL | apply gM | apply gN | apply gO | apply gP | apply gQ | apply gR) | ((with_reducible first | apply gT | apply gS2); first | exact rfl | assumption | omega | exact ⟨⟩) | ((with_reducible first | apply gL0 | apply gL1 | apply gL2 | apply gL3 | apply gL4); assumption)))
      refine t_cond (fun e5 => ?_) (fun e5 => ?_)
      · (repeat (first | (with_reducible first | apply gA | apply gB | apply gC | apply gD | apply gE | apply gF | apply gG | apply gH | apply gI | apply gJ | apply gK | apply gL | apply gM | apply gN | apply gO | apply gP | apply gQ | apply gR) | ((with_reducible first | apply gT | apply gS2); first | exact rfl | assumption | omega | exact ⟨⟩) | ((with_reducible first | apply gL0 | apply gL1 | apply gL2 | apply gL3 | apply gL4); assumption)))
        rw [if_pos (by simpa using e5)] at hc
        exact t_ret ⟨by rw [hc], rfl⟩
      · rw [if_neg (by simpa using e5)] at hc
        refine t_again (hY (n - (i + 1)) _ _ (by omega) ⟨rfl, i + 1, ?_, by omega, by omega, rfl, hc⟩)
        rw [wrap_id (by omega) (by omega)]; rfl
  · (repeat (first | (with_reducible first | apply gA | apply gB | apply gC | apply gD | apply gE | apply gF | apply gG | apply gH | apply gI | apply gJ | apply gK | apply gL | apply gM | apply gN | apply gO | apply gP | apply gQ | apply gR) | ((with_reducible first | apply gT | apply gS2); first | exact rfl | assumption | omega | exact ⟨⟩) | ((with_reducible first | apply gL0 | apply gL1 | apply gL2 | apply gL3 | apply gL4); assumption)))
    rw [List.drop_eq_nil_of_le (show a.length ≤ i by omega)] at hc
    refine t_if (fun e3 => ?_) (fun e3 => ?_)
    · obtain ⟨y, hy⟩ : ∃ y, b[i]? = some y := ⟨b[i]'(by omega), List.getElem?_eq_getElem (by omega)⟩
      rw [drop_of hy, cmpL] at hc
      exact t_ret ⟨by rw [hc], rfl⟩
    · rw [List.drop_eq_nil_of_le (show b.length ≤ i by omega), cmpL] at hc
      exact t_ret ⟨by rw [hc], rfl⟩
theorem c75 {h : LH} {p q : Option Addr} {n c m d : Nat} {a b : List Int} (ha : Sl IntE 1 h.get p n a) (hb : Sl IntE 1 h.get q m b) : Pu Tryd.prog 67 #[.slice p n c, .slice q m d] h (.int .i64 (fewerF a b)) := by
  refine w75 _ _ _ _ _ _ X0_ok ?_
  unfold n75
  have hn := ha.1
  have hm := hb.1
  have hbn := ha.2.1
  have hbm := hb.2.1
  refine t_cond (fun e => ?_) (fun e => ?_)
  · have e' : a.length ≠ b.length := by simp at e; omega
    rw [wrap_id (by omega) (by omega)]
    refine t_ret ⟨?_, rfl⟩
    rw [fewerF, if_pos e', hn, hm]
  · have e' : ¬ a.length ≠ b.length := by simp at e; omega
    refine t_pu (c97 ha hb) ?_
    (repeat (first | (with_reducible first | apply gA | apply gB | apply gC | apply gD | apply gE | apply gF | apply gG | apply gH | apply gI | apply gJ | apply gK | apply gL | apply gM | apply gN | apply gO | apply gP | apply gQ | apply gR) | ((with_reducible first | apply gT | apply gS2); first | exact rfl | assumption | omega | exact ⟨⟩) | ((with_reducible first | apply gL0 | apply gL1 | apply gL2 | apply gL3 | apply gL4); assumption)))
    refine t_ret ⟨?_, rfl⟩
    rw [fewerF, if_neg e']
end Go.Proofs.YtopkdkedjkidhaaDoor
end
section
namespace Go.TM
open Go Go.Conc
variable {P : Program}
theorem spawn_wk {f : FuncId} {first args cap hargs : Array Value} {hc : Cells} {s : Script} (hne : s ≠ []) (ha : (first ++ args) ++ cap = hargs) (c : FWK XW P .deferred f hargs ⟨hc, [], [], s⟩ fun _ _ => False) :
    Wk P (G (baseOf P [deferOf (.func (.func f) first cap) args]) []) ⟨hc, [], [], s⟩ := by
  obtain ⟨⟨fn, hf, hb, hname⟩, hrun⟩ := c
  have hgo := hrun false _ (wk_closed P) [baseOf P []] (.inr ⟨rfl, rfl⟩) (fun _ _ _ _ _ _ _ hq => hq.elim) hne
  have hbn : fn.body.isNone = false := by cases h : fn.body <;> simp_all
  refine .step (N := fun g h => g = G (Frame.enter P f hargs .deferred) [baseOf P []] ∧ h = ⟨hc, [], [], s⟩) hne ?_ ?_
  · intro w hfit
    refine ⟨_, w, #[], hc, ?_, Tr.refl hfit, by simp, rfl, rfl⟩
    have hcall : (callFunc f hargs).runT P w #[] = (.ok (.enter f hargs) w, #[]) := by
      show ((program).bind _).runT P w #[] = _
      simp only [program, Sem.bind, Sem.runT, hf, hname, hbn, Bool.false_eq_true, if_false]
      rfl
    have h1 : (callFunc f hargs).run P w = .ok (.enter f hargs) w := by rw [← Sem.runT_fst _ _ _ #[], hcall]
    have h2 : (callFunc f hargs).events P w #[] = #[] := by show ((callFunc f hargs).runT P w #[]).2 = _; rw [hcall]
    have hinv : invoke (deferOf (.func (.func f) first cap) args).target (deferOf (.func (.func f) first cap) args).args = callFunc f hargs := by rw [← ha]; rfl
    have hnil : ((deferOf (.func (.func f) first cap) args).target matches .nil) = false := rfl
    have hcd : ∀ fr cs, callDeferred P fr cs none (deferOf (.func (.func f) first cap) args) w = .go (G (Frame.enter P f hargs .deferred) (fr :: cs)) w (seen P fr.fn #[]) := by
      intro fr cs
      unfold callDeferred
      simp only [hinv, hnil, Bool.false_and, Bool.false_eq_true, if_false, hcall]
      rfl
    show unwind P false (baseOf P [deferOf (.func (.func f) first cap) args]) [] none w = _
    unfold unwind
    simp only [baseOf, deferOf]
    exact hcd _ _
  · rintro _ _ ⟨rfl, rfl⟩; exact hgo
theorem spawnW {f : FuncId} {first args cap hargs : Array Value} {h : LH} {Q : LH → Prop} (F : Nat → Bool) (hc : Cells) (s : Script) (hne : s ≠ []) (ha : (first ++ args) ++ cap = hargs) (hhc : ∀ r x, hc r = some x → x.1 = false ∧ freezeC F h.get r = some x)
    (hch : ∀ y ∈ s, y.1 ∈ h.chans) (c : FWK XW P .deferred f hargs ⟨hc, [], [], s⟩ fun _ _ => False) (hQ : Q { h with get := freezeC F h.get, pend := h.pend ++ [s] }) : SpawnW XT P (.func (.func f) first cap) args h Q := by
  intro main R hR fr cs _ _ hst k d hk
  obtain ⟨rfl, _, h2, _, _⟩ := hR.2
  refine h2 fr cs (h.add k) (fun r => F r && (h.get r).isSome) hc _ s ⟨hst⟩ ?_ hne hch (spawn_wk hne ha c) ?_
  · intro r x hx
    obtain ⟨a, b⟩ := hhc r x hx
    refine ⟨a, ?_⟩
    show freezeC _ (h.get.add k) r = _
    rw [freezeC_add]; exact Cells.add_left b
  · have e : freezeC (fun r => F r && (h.get r).isSome) (h.add k).get = (freezeC F h.get).add k := freezeC_add F h.get k
    rw [e]
    refine hk { h with get := freezeC F h.get, pend := h.pend ++ [s] } ?_ hQ
    intro r
    rcases d r with hr | hr
    · left; simp only [freezeC, hr]
    · exact .inr hr
theorem drop_add {a k : Cells} {c : Nat} (hk : k c = none) : dropC (a.add k) c = (dropC a c).add k := by
  funext r
  unfold dropC Cells.add
  by_cases e : r = c
  · subst e; simp [hk]
  · simp [e]
theorem upd_add {a k : Cells} {c : Nat} {x : Bool × Obj} : (a.add k).upd c x = (a.upd c x).add k := by
  funext r
  unfold Cells.upd Cells.add
  by_cases e : r = c <;> simp [e]
theorem Disj.drop {a k : Cells} (d : Disj a k) (c : Nat) : Disj (dropC a c) k := by
  intro r
  rcases d r with hr | hr
  · left; unfold dropC; split
    · rfl
    · exact hr
  · exact .inr hr
theorem SpawnW.opened {v : Value} {args : Array Value} {h : LH} {Q : LH → Prop} (c s : Nat) (hs : h.get c = some (true, .chan 0 #[] false s s false)) (hS : SpawnW XT P v args { h with get := dropC h.get c, chans := c :: h.chans } Q) : SpawnW XT P v args h Q := by
  intro main R hR fr cs hat hstk hst k d hk
  have hkc : k c = none := by
    rcases d c with h' | h'
    · rw [hs] at h'; cases h'
    · exact h'
  refine hR.2.2.2.2.1 _ (h.add k) c s (Cells.add_left hs) ?_
  have := hS main R hR fr cs hat hstk hst k (d.drop c) hk
  unfold LH.add at this ⊢
  simp only [drop_add hkc]
  exact this
theorem commW_recv {last : Bool} {cases : Array CommCase} {shape : CommShape} {h : LH} {Q : Value → LH → Prop} (recv : ∀ (k : Nat) (cc : CommCase), cases[k]? = some cc → ∃ c z, cc = rcase c z ∧ c ∈ h.chans) (some_ : h.pend ≠ [])
    (heads : ∀ s ∈ h.pend, ∃ (c : Nat) (φ : Value → Cells → Prop) (s' : Script) (k : Nat) (z : Value), s = (c, φ) :: s' ∧ cases[k]? = some (rcase c z))
    (hQ : ∀ pre φ s post (k : Nat) c v hv z, h.pend = pre ++ ((c, φ) :: s) :: post → cases[k]? = some (rcase c z) → Disj h.get hv → (∀ r x, hv r = some x → x.1 = true) → φ v hv →
      Q (commResult cases shape (k : Nat) v true) { h with get := h.get.add hv, pend := pre ++ cons' s post }) : CommW XT P last cases shape h Q := by
  intro main R hR fr cs _ _ _ hst k d hk
  obtain ⟨rfl, h1, _, _, _⟩ := hR.2
  refine h1 fr cs cases shape (h.add k) ⟨hst, recv, some_, heads⟩ ?_
  intro pre φ s post j c v hv z hp hcase hd hown hφ
  have d1 : Disj h.get hv := hd.of_add_left
  have d2 : Disj k hv := Disj.of_add_right d hd
  have e : ((h.get.add hv).add k) = ((h.get.add k).add hv) := Cells.add_swap d2.symm
  have := hk _ { h with get := h.get.add hv, pend := pre ++ cons' s post } (Disj.add d d2.symm) (hQ pre φ s post j c v hv z hp hcase d1 hown hφ)
  unfold LH.add at this
  simp only [e] at this
  exact this
theorem CommW.closed {last : Bool} {cases : Array CommCase} {shape : CommShape} {h : LH} {Q : Value → LH → Prop}
    (hC : CommW XT P last cases shape h fun v h' => Q v h' ∨ ∃ c ∈ h'.chans, h'.pend = [] ∧ ∀ s, h'.get c = none → Q v { h' with get := h'.get.upd c (true, .chan 0 #[] false s s false), chans := h'.chans.filter (· ≠ c) }) : CommW XT P last cases shape h Q := by
  intro main R hR fr cs hat hstk hl hst k d hk
  refine hC main R hR fr cs hat hstk hl hst k d ?_
  rintro v h' d' (hq | ⟨c, hc, hp, hq⟩)
  · exact hk v h' d' hq
  · refine hR.2.2.2.2.2 _ (h'.add k) c hc hp ?_
    intro hcn s
    have hhc : h'.get c = none := by
      cases hx : h'.get c with
      | none => rfl
      | some x => rw [show (h'.add k).get c = some x from Cells.add_left hx] at hcn; cases hcn
    have hkc : k c = none := by
      have := hcn
      rw [show (h'.add k).get c = k c from Cells.add_right hhc] at this; exact this
    have d2 : Disj (h'.get.upd c (true, .chan 0 #[] false s s false)) k := by
      intro r
      by_cases e : r = c
      · right; rw [e]; exact hkc
      · rw [Cells.upd_ne _ _ e]; exact d' r
    have := hk v _ d2 (hq s hhc)
    unfold LH.add at this ⊢
    simp only [upd_add]
    exact this
theorem commW_send {last : Bool} {c : Nat} {v z : Value} {φ : Value → Cells → Prop} {s : Script} {h : LH} {hv hr : Cells} {Q : Value → LH → Prop} (todo : h.todo = (c, φ) :: s) (get : h.get = hv.add hr) (disj : Disj hv hr) (own : ∀ r x, hv r = some x → x.1 = true)
    (val : φ v hv) (hl : s = [] → last = true) (hQ : s ≠ [] → Q undef { h with get := hr, todo := s }) : CommW XW P last #[scase c v z] .send h Q := by
  intro main R hR fr cs hat hstk hlast hst k d hk
  obtain ⟨rfl, h1⟩ := hR.2
  have hs : Sends P fr cs h c z v φ s hv hr := ⟨hat, hst, todo, get, disj, own, val⟩
  exact h1 fr cs (h.add k) c z v φ s hv (hr.add k) hstk (hs.frame d) (fun e => hlast (hl e)) fun hne => hk undef { h with get := hr, todo := s } (hs.rest d) (hQ hne)
end Go.TM
end
section
namespace Go.TM
open Go Go.Conc
variable {P : Program} {X : XP} {Q : Leaf → LH → Prop} {h : LH}
theorem t_spawn {v : Value} {args : Array Value} {k : T} (hs : SpawnW X P v args h fun h' => k.wp X P Q h') : (T.spawn v args k).wp X P Q h := hs
theorem t_comm {last : Bool} {cases : Array CommCase} {shape : CommShape} {k : Value → T} (hc : CommW X P last cases shape h fun v h' => (k v).wp X P Q h') : (T.comm last cases shape k).wp X P Q h := hc
theorem t_makeChan {t el : TypeId} {d : ChanDir} {s b : Nat} {z : Option Value} {K : Value → T} (hu : P.underlying t = some (.chan d el)) (hi : (P.info? el).map (fun i => (i.size, i.bytes, i.zero)) = some (s, b, z))
    (hk : ∀ r, h.get r = none → (K (.chan (some r))).wp X P Q { h with get := h.get.upd r (true, .chan 0 #[] false 0 0 false) }) : (T.sem false (Instr.makeChan t (.int .i64 0)) K).wp X P Q h := by
  obtain ⟨inf, g1, _, _, _⟩ := info_of hi
  refine t_sem (A := fun v h' => ∃ r, h.get r = none ∧ v = .chan (some r) ∧ h' = h.get.upd r (true, .chan 0 #[] false 0 0 false)) ?_ (by rintro v h' ⟨r, hr, rfl, rfl⟩; exact hk r hr)
  unfold Instr.makeChan
  have e : IntKind.i64.max = 9223372036854775807 := rfl
  simp only [asInt, asIntOf, lwp_bind, lwp_pure, lwp_underlying hu, lwp_typeInfo g1]
  rw [if_neg (by rw [e]; omega)]
  rw [lwp_bind]
  intro r hr
  exact ⟨r, hr, rfl, rfl⟩
theorem t_close {ts : Array TypeId} {ty : TypeId} {c s : Nat} {K : Value → T} (hc : h.get c = some (true, .chan 0 #[] false s s false)) (hk : (K (.tuple #[])).wp X P Q { h with get := h.get.upd c (true, .chan 0 #[] true s s false) }) : (T.sem false (Builtin.close_ ts ty #[.chan (some c)]) K).wp X P Q h := by
  refine t_sem (A := fun v h' => v = .tuple #[] ∧ h' = h.get.upd c (true, .chan 0 #[] true s s false)) ?_ (by rintro v h' ⟨rfl, rfl⟩; exact hk)
  change Sem.lwp P (getObj c >>= _) _ _ _
  rw [lwp_bind]
  exact ⟨_, _, hc, trivial, ⟨_, hc, trivial⟩, rfl, rfl⟩
theorem t_eqNil {t el : TypeId} {x y : Operand} {a : Option Addr} {n c : Nat} {K : Value → T} (hu : P.underlying t = some (.slice el)) (hk : (K (.bool a.isNone)).wp X P Q h) :
    (T.sem false (Sem.bind (eqGuard .eql t x y (.slice a n c) (.slice none 0 0)) fun _ => binOp .eql t (.slice a n c) (.slice none 0 0)) K).wp X P Q h := by
  refine t_sem (A := fun w h' => w = .bool a.isNone ∧ h' = h.get) (Sem.lwp_bind _ _ ?_) (by rintro w h' ⟨rfl, rfl⟩; exact hk)
  unfold eqGuard
  simp only [Bool.not_true, Bool.false_eq_true, if_false, lwp_pure]
  unfold binOp Op.equal
  have hmd : Op.maxDepth = 9999 + 1 := rfl
  rw [lwp_bind, hmd, Op.equalIn, lwp_bind, lwp_underlying hu]
  cases a <;> exact ⟨rfl, rfl⟩
theorem t_neNil {t el : TypeId} {x y : Operand} {a : Option Addr} {n c : Nat} {K : Value → T} (hu : P.underlying t = some (.slice el)) (hk : (K (.bool a.isSome)).wp X P Q h) :
    (T.sem false (Sem.bind (eqGuard .neq t x y (.slice a n c) (.slice none 0 0)) fun _ => binOp .neq t (.slice a n c) (.slice none 0 0)) K).wp X P Q h := by
  refine t_sem (A := fun w h' => w = .bool a.isSome ∧ h' = h.get) (Sem.lwp_bind _ _ ?_) (by rintro w h' ⟨rfl, rfl⟩; exact hk)
  unfold eqGuard
  simp only [Bool.not_true, Bool.false_eq_true, if_false, lwp_pure]
  unfold binOp Op.equal
  have hmd : Op.maxDepth = 9999 + 1 := rfl
  rw [lwp_bind, hmd, Op.equalIn, lwp_bind, lwp_underlying hu]
  cases a <;> exact ⟨rfl, rfl⟩
theorem t_build0 {K : Value → T} {t el : TypeId} {s b : Nat} {z : Option Value} (hu : P.underlying t = some (.slice el)) (hi : (P.info? el).map (fun i => (i.size, i.bytes, i.zero)) = some (s, b, z))
    (hk : ∀ r, h.get r = none → (K (.slice (some ⟨r, 0, none⟩) 0 0)).wp X P Q { h with get := h.get.upd r (true, .cells #[] el (0, 0)) }) : (T.sem false (Instr.buildSlice t 0 #[]) K).wp X P Q h := by
  obtain ⟨inf, g1, _, _, _⟩ := info_of hi
  refine t_sem (A := fun v h' => ∃ r, h.get r = none ∧ v = .slice (some ⟨r, 0, none⟩) 0 0 ∧ h' = h.get.upd r (true, .cells #[] el (0, 0))) ?_ (by rintro v h' ⟨r, hr, rfl, rfl⟩; exact hk r hr)
  unfold Instr.buildSlice
  simp only [lwp_bind, lwp_underlying hu, lwp_sizeOf g1, Nat.zero_mul, lwp_pure]
  rw [if_neg (by omega)]
  simp only [if_true, lwp_bind, lwp_pure]
  have hf : Instr.fill (fun i => some (i * inf.size, inf.size)) (Array.map (fun x => (#[] : Array Value)[x % (#[] : Array Value).size]!) (Array.range 0)) (#[] : Array (Nat × Value)).toList = some #[] := by simp [Instr.fill]
  rw [hf]
  simp only [lwp_bind]
  exact lwp_newRow fun r hr => ⟨r, hr, rfl, rfl⟩
end Go.TM
end

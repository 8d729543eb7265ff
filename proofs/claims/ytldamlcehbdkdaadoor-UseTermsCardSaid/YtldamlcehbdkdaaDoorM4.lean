/- Contracts and laws for the proof, joined by a program. No condition. -/
import Derived.Test.YtldamlcehbdkdaaDoorM3
set_option linter.all false
section
namespace Go.TM
open Go Go.Conc
variable {P : Program} {X : XP} {Q : Leaf → LH → Prop} {h : LH}
theorem t_spawn {v : Value} {args : Array Value} {k : T} (hs : SpawnW X P v args h fun h' => k.wp X P Q h') : (T.spawn v args k).wp X P Q h := hs
theorem t_comm {last : Bool} {cases : Array CommCase} {shape : CommShape} {k : Value → T} (hc : CommW X P last cases shape h fun v h' => (k v).wp X P Q h') : (T.comm last cases shape k).wp X P Q h := hc
theorem t_makeChan {t el : TypeId} {d : ChanDir} {s b : Nat} {z : Option Value} {K : Value → T} (hu : P.underlying t = some (.chan d el)) (hi : (P.info? el).map (fun i => (i.size, i.bytes, i.zero)) = some (s, b, z))
    (hk : ∀ r, h.get r = none → (K (.chan (some r))).wp X P Q { h with get := h.get.upd r (true, .chan 0 #[] false 0 0 false) }) : (T.sem false (Instr.makeChan t (.int .i64 0)) K).wp X P Q h := by
  obtain ⟨inf, g1, _, _, _⟩ := info_of hi
  refine t_sem (A := fun v h' => ∃ r, h.get r = none ∧ v = .chan (some r) ∧ h' = h.get.upd r (true, .chan 0 #[] false 0 0 false)) ?_ (by rintro v h' ⟨r, hr, rfl, rfl⟩; exact hk r hr)
  unfold Instr.makeChan
  have e : IntKind.i64.max = 9223372036854775807 := rfl
  simp only [asInt, asIntOf, lwp_bind, lwp_pure, lwp_underlying hu, lwp_typeInfo g1]
  rw [if_neg (by rw [e]; omega)]
  rw [lwp_bind]
  intro r hr
  exact ⟨r, hr, rfl, rfl⟩
theorem t_close {ts : Array TypeId} {ty : TypeId} {c s : Nat} {K : Value → T} (hc : h.get c = some (true, .chan 0 #[] false s s false)) (hk : (K (.tuple #[])).wp X P Q { h with get := h.get.upd c (true, .chan 0 #[] true s s false) }) : (T.sem false (Builtin.close_ ts ty #[.chan (some c)]) K).wp X P Q h := by
  refine t_sem (A := fun v h' => v = .tuple #[] ∧ h' = h.get.upd c (true, .chan 0 #[] true s s false)) ?_ (by rintro v h' ⟨rfl, rfl⟩; exact hk)
  change Sem.lwp P (getObj c >>= _) _ _ _
  rw [lwp_bind]
  exact ⟨_, _, hc, trivial, ⟨_, hc, trivial⟩, rfl, rfl⟩
theorem t_eqNil {t el : TypeId} {x y : Operand} {a : Option Addr} {n c : Nat} {K : Value → T} (hu : P.underlying t = some (.slice el)) (hk : (K (.bool a.isNone)).wp X P Q h) :
    (T.sem false (Sem.bind (eqGuard .eql t x y (.slice a n c) (.slice none 0 0)) fun _ => binOp .eql t (.slice a n c) (.slice none 0 0)) K).wp X P Q h := by
  refine t_sem (A := fun w h' => w = .bool a.isNone ∧ h' = h.get) (Sem.lwp_bind _ _ ?_) (by rintro w h' ⟨rfl, rfl⟩; exact hk)
  unfold eqGuard
  simp only [Bool.not_true, Bool.false_eq_true, if_false, lwp_pure]
  unfold binOp Op.equal
  have hmd : Op.maxDepth = 9999 + 1 := rfl
  rw [lwp_bind, hmd, Op.equalIn, lwp_bind, lwp_underlying hu]
  cases a <;> exact ⟨rfl, rfl⟩
theorem t_neNil {t el : TypeId} {x y : Operand} {a : Option Addr} {n c : Nat} {K : Value → T} (hu : P.underlying t = some (.slice el)) (hk : (K (.bool a.isSome)).wp X P Q h) :
    (T.sem false (Sem.bind (eqGuard .neq t x y (.slice a n c) (.slice none 0 0)) fun _ => binOp .neq t (.slice a n c) (.slice none 0 0)) K).wp X P Q h := by
  refine t_sem (A := fun w h' => w = .bool a.isSome ∧ h' = h.get) (Sem.lwp_bind _ _ ?_) (by rintro w h' ⟨rfl, rfl⟩; exact hk)
  unfold eqGuard
  simp only [Bool.not_true, Bool.false_eq_true, if_false, lwp_pure]
  unfold binOp Op.equal
  have hmd : Op.maxDepth = 9999 + 1 := rfl
  rw [lwp_bind, hmd, Op.equalIn, lwp_bind, lwp_underlying hu]
  cases a <;> exact ⟨rfl, rfl⟩
theorem t_build0 {K : Value → T} {t el : TypeId} {s b : Nat} {z : Option Value} (hu : P.underlying t = some (.slice el)) (hi : (P.info? el).map (fun i => (i.size, i.bytes, i.zero)) = some (s, b, z))
    (hk : ∀ r, h.get r = none → (K (.slice (some ⟨r, 0, none⟩) 0 0)).wp X P Q { h with get := h.get.upd r (true, .cells #[] el (0, 0)) }) : (T.sem false (Instr.buildSlice t 0 #[]) K).wp X P Q h := by
  obtain ⟨inf, g1, _, _, _⟩ := info_of hi
  refine t_sem (A := fun v h' => ∃ r, h.get r = none ∧ v = .slice (some ⟨r, 0, none⟩) 0 0 ∧ h' = h.get.upd r (true, .cells #[] el (0, 0))) ?_ (by rintro v h' ⟨r, hr, rfl, rfl⟩; exact hk r hr)
  unfold Instr.buildSlice
  simp only [lwp_bind, lwp_underlying hu, lwp_sizeOf g1, Nat.zero_mul, lwp_pure]
  rw [if_neg (by omega)]
  simp only [if_true, lwp_bind, lwp_pure]
  have hf : Instr.fill (fun i => some (i * inf.size, inf.size)) (Array.map (fun x => (#[] : Array Value)[x % (#[] : Array Value).size]!) (Array.range 0)) (#[] : Array (Nat × Value)).toList = some #[] := by simp [Instr.fill]
  rw [hf]
  simp only [lwp_bind]
  exact lwp_newRow fun r hr => ⟨r, hr, rfl, rfl⟩
end Go.TM
end
section
namespace Go.TM
open Go Go.Conc
theorem Addr.add_add' (a : Addr) (x y : Nat) : (a.add x).add y = a.add (x + y) := by
  unfold Addr.add
  by_cases h1 : x = 0
  · subst h1; simp
  · by_cases h2 : y = 0
    · subst h2; simp [h1]
    · simp [h1, h2]; omega
def ToldE {α : Type} (E : Cells → Addr → α → Prop) (Enc : α → List Value → Prop) (k : Nat) (h : Cells) : Prop := ∀ a x, E h a x → ∃ ws, Enc x ws ∧ ws.length = k ∧ (∀ (j : Nat) w, ws[j]? = some w → h.cell? (a.add j) = some w) ∧ ∀ w ∈ ws, isOne w = true
theorem flat {α : Type} {E : Cells → Addr → α → Prop} {Enc : α → List Value → Prop} {k : Nat} {h : Cells} (he : ToldE E Enc k h) {b : Addr} {n : Nat} {l : List α} (s : Sl E k h (some b) n l) : ∀ i, i ≤ l.length → ∃ vs, Rows Enc vs (l.take i) ∧ vs.length = i * k ∧ (∀ (t : Nat) v, vs[t]? = some v → h.cell? (b.add t) = some v) ∧ ∀ v ∈ vs, isOne v = true := by
  intro i
  induction i with
  | zero => intro _; exact ⟨[], .nil, by simp, fun t v hv => by simp at hv, fun v hv => by simp at hv⟩
  | succ i ih =>
    intro hi
    obtain ⟨vs, h1, h2, h3, h4⟩ := ih (by omega)
    obtain ⟨x, a, hx, ha, hE⟩ := s.at (i := i) (by rw [s.1]; omega)
    cases ha
    obtain ⟨ws, w1, w2, w3, w4⟩ := he _ _ hE
    refine ⟨vs ++ ws, ?_, by rw [List.length_append, h2, w2, Nat.add_mul]; omega, fun t v hv => ?_, fun v hv => ?_⟩
    · rw [List.take_add_one, hx]; exact h1.snoc w1
    · by_cases ht : t < vs.length
      · rw [List.getElem?_append_left ht] at hv; exact h3 t v hv
      · rw [List.getElem?_append_right (by omega)] at hv
        have := w3 _ v hv
        rw [Addr.add_add'] at this
        rw [show t = i * k + (t - vs.length) by omega]; exact this
    · rcases List.mem_append.1 hv with hv | hv
      · exact h4 v hv
      · exact w4 v hv
theorem Rows.append {α : Type} {Enc : α → List Value → Prop} {vs : List Value} {l : List α} (r : Rows Enc vs l) {ws : List Value} {l' : List α} (r' : Rows Enc ws l') : Rows Enc (vs ++ ws) (l ++ l') := by
  induction r' with
  | nil => simpa using r
  | snoc r' he ih => rw [← List.append_assoc, ← List.append_assoc]; exact ih.snoc he
section
variable {P : Program} {X : XP} {Q : Leaf → LH → Prop}
theorem t_append0 {h : LH} {k : Value → T} {ts : Array TypeId} {ty sT xT el xe : TypeId} {s by_ : Nat} {z : Option Value} {p q : Option Addr} {n c mc : Nat} (h0 : ts[0]? = some sT) (h1 : ts[1]? = some xT) (hu : P.underlying sT = some (.slice el)) (hx : P.underlying xT = some (.slice xe))
    (hi : (P.info? el).map (fun i => (i.size, i.bytes, i.zero)) = some (s, by_, z)) (hnc : n ≤ c) (hk : (k (.slice p n c)).wp X P Q h) : (T.sem false (Builtin.append_ ts ty #[.slice p n c, .slice q 0 mc]) k).wp X P Q h := by
  obtain ⟨inf, g1, _, _, _⟩ := info_of hi
  refine t_sem (A := fun v h' => v = .slice p n c ∧ h' = h.get) ?_ (by rintro v h' ⟨rfl, rfl⟩; exact hk)
  unfold Builtin.append_
  rw [h0, h1]
  simp only [List.getElem?_toArray, List.getElem?_cons_zero, List.getElem?_cons_succ]
  simp only [lwp_bind, lwp_underlying hu, lwp_sizeOf g1, lwp_underlying hx, lwp_pure, Bool.false_eq_true, if_false, Bool.not_false, if_true, Builtin.lenOf, Nat.add_zero, if_pos hnc]
  cases q with
  | none =>
    simp only [Builtin.firstCells, lwp_pure]
    cases p with
    | none => exact ⟨rfl, rfl⟩
    | some a => exact ⟨rfl, rfl⟩
  | some b =>
    simp only [Builtin.firstCells, Nat.zero_mul]
    refine lwp_loads (l := []) rfl (fun t v hv => by simp at hv) ?_
    cases p with
    | none => exact ⟨rfl, rfl⟩
    | some a => exact ⟨rfl, rfl⟩
theorem OwnRow.le_cap {el : TypeId} {k : Nat} {h : Cells} {p : Option Addr} {n c : Nat} {vs : List Value} (o : OwnRow el k h p n c vs) : n ≤ c := by
  rcases o.2 with ⟨_, h1, h2⟩ | ⟨_, _, _, _, _, h, _⟩
  · omega
  · exact h
theorem t_copy {α : Type} {E : Cells → Addr → α → Prop} {Enc : α → List Value → Prop} {h h₀ : LH} {k : Value → T} {ts : Array TypeId} {ty sT xT el xe : TypeId} {s by_ : Nat} {z : Value} {p q : Option Addr} {n c m mc : Nat} {l l1 : List α} (h0 : ts[0]? = some sT) (h1 : ts[1]? = some xT) (hu : P.underlying sT = some (.slice el)) (hx : P.underlying xT = some (.slice xe))
    (hi : (P.info? el).map (fun i => (i.size, i.bytes, i.zero)) = some (s, by_, some z)) (hsz : z.cells.size = s) (hb : by_ ≤ 1024) (hn : n + m ≤ 2 ^ 30) (g : Growing Enc el s h₀.get h.get p n c l) (hle : h₀.le h) (src : Sl E s h.get q m l1) (he : ToldE E Enc s h.get)
    (hk : ∀ p' c' h', h₀.le h' → (∀ r y, (∀ a, p = some a → a.block ≠ r) → h.get r = some y → h'.get r = some y) → Growing Enc el s h₀.get h'.get p' (n + m) c' (l ++ l1) → (k (.slice p' (n + m) c')).wp X P Q h') : (T.sem false (Builtin.append_ ts ty #[.slice p n c, .slice q m mc]) k).wp X P Q h := by
  obtain ⟨vs, o, r⟩ := g.row
  by_cases hm : m = 0
  · subst hm
    have hl1 : l1 = [] := List.eq_nil_of_length_eq_zero src.1.symm
    subst hl1
    refine t_append0 h0 h1 hu hx hi o.le_cap ?_
    have := hk p c h hle (fun r y _ hy => hy) (by rw [List.append_nil]; exact g)
    exact this
  · obtain ⟨x, b, _, hb', _⟩ := src.at (i := 0) (by omega)
    subst hb'
    obtain ⟨ws, w1, w2, w3, w4⟩ := flat he src l1.length (Nat.le_refl _)
    rw [List.take_length] at w1
    have hm' := src.1
    refine t_append h0 h1 hu hx hi hsz hb hn o (by rw [w2, hm']) w3 w4 (by omega) fun p' c' h' a b c => ?_
    obtain ⟨l1', l2'⟩ := after_append hle.1 g.new b c
    exact hk p' c' _ ⟨l1', hle.2⟩ (fun r y hr hy => b r y hy hr) ⟨⟨vs ++ ws, a, r.append w1⟩, l2'⟩
theorem t_build0G {α : Type} {Enc : α → List Value → Prop} {h h₀ : LH} {K : Value → T} {t el : TypeId} {s b : Nat} {z : Option Value} (hu : P.underlying t = some (.slice el)) (hi : (P.info? el).map (fun i => (i.size, i.bytes, i.zero)) = some (s, b, z)) (hle : h₀.le h)
    (hk : ∀ r h', h.get r = none → h.le h' → Growing Enc el s h₀.get h'.get (some ⟨r, 0, none⟩) 0 0 [] → (K (.slice (some ⟨r, 0, none⟩) 0 0)).wp X P Q h') : (T.sem false (Instr.buildSlice t 0 #[]) K).wp X P Q h := by
  refine t_build0 hu hi fun r hr => ?_
  refine hk r _ hr (LH.upd_le hr) ⟨⟨[], ⟨by simp, .inr ⟨r, #[], rfl, Cells.upd_self _ _ _, by simp, Nat.le_refl _, fun j v hv => by simp at hv⟩⟩, .nil⟩, fun a ha => ?_⟩
  cases ha
  cases hx : h₀.get r with
  | none => rfl
  | some x => rw [hle.1 _ _ hx] at hr; cases hr
end
end Go.TM
end
section
namespace Go.TM
open Go Go.Conc Go.ChangeShapes Go.RowKit
theorem trodAll10 {H : Type} {enc : TypeId × Value → H} {P : Program} {w : World} {base : Nat} {spare : Nat → Bool} {held : Bool} {t0 t1 t2 t3 t4 t5 t6 t7 t8 t9 : TypeId} {args : Array Value} {ds : List (DataW H)} {ps : List MemPlace} (h : DataW.TrodAll enc P w base spare held [t0, t1, t2, t3, t4, t5, t6, t7, t8, t9] args.toList ds ps) :
    ∃ v0 v1 v2 v3 v4 v5 v6 v7 v8 v9 d0 d1 d2 d3 d4 d5 d6 d7 d8 d9 p0 p1 p2 p3 p4 p5 p6 p7 p8 p9, args = #[v0, v1, v2, v3, v4, v5, v6, v7, v8, v9] ∧ ds = [d0, d1, d2, d3, d4, d5, d6, d7, d8, d9] ∧ ps = p0 ++ p1 ++ p2 ++ p3 ++ p4 ++ p5 ++ p6 ++ p7 ++ p8 ++ p9 ∧ DataW.Trod enc P w base spare held t0 v0 d0 p0 ∧ DataW.Trod enc P w base spare held t1 v1 d1 p1 ∧ DataW.Trod enc P w base spare held t2 v2 d2 p2 ∧ DataW.Trod enc P w base spare held t3 v3 d3 p3 ∧ DataW.Trod enc P w base spare held t4 v4 d4 p4 ∧ DataW.Trod enc P w base spare held t5 v5 d5 p5 ∧ DataW.Trod enc P w base spare held t6 v6 d6 p6 ∧ DataW.Trod enc P w base spare held t7 v7 d7 p7 ∧ DataW.Trod enc P w base spare held t8 v8 d8 p8 ∧ DataW.Trod enc P w base spare held t9 v9 d9 p9 := by
  obtain ⟨v0, vs0, d0, ds0, p0, q0, hargs, rfl, rfl, hd0, hr0⟩ := trodAll_cons h
  obtain ⟨v1, vs1, d1, ds1, p1, q1, rfl, rfl, rfl, hd1, hr1⟩ := trodAll_cons hr0
  obtain ⟨v2, vs2, d2, ds2, p2, q2, rfl, rfl, rfl, hd2, hr2⟩ := trodAll_cons hr1
  obtain ⟨v3, vs3, d3, ds3, p3, q3, rfl, rfl, rfl, hd3, hr3⟩ := trodAll_cons hr2
  obtain ⟨v4, vs4, d4, ds4, p4, q4, rfl, rfl, rfl, hd4, hr4⟩ := trodAll_cons hr3
  obtain ⟨v5, vs5, d5, ds5, p5, q5, rfl, rfl, rfl, hd5, hr5⟩ := trodAll_cons hr4
  obtain ⟨v6, vs6, d6, ds6, p6, q6, rfl, rfl, rfl, hd6, hr6⟩ := trodAll_cons hr5
  obtain ⟨v7, vs7, d7, ds7, p7, q7, rfl, rfl, rfl, hd7, hr7⟩ := trodAll_cons hr6
  obtain ⟨v8, vs8, d8, ds8, p8, q8, rfl, rfl, rfl, hd8, hr8⟩ := trodAll_cons hr7
  obtain ⟨v9, vs9, d9, ds9, p9, q9, rfl, rfl, rfl, hd9, hr9⟩ := trodAll_cons hr8
  obtain ⟨rfl, rfl, rfl⟩ := trodAll_nil hr9
  exact ⟨v0, v1, v2, v3, v4, v5, v6, v7, v8, v9, d0, d1, d2, d3, d4, d5, d6, d7, d8, d9, p0, p1, p2, p3, p4, p5, p6, p7, p8, p9, by cases args; simp_all, rfl, by simp, hd0, hd1, hd2, hd3, hd4, hd5, hd6, hd7, hd8, hd9⟩
end Go.TM
end
section
namespace Go.Proofs.YtldamlcehbdkdaaDoor
open Go Go.TM Go.Proofs Go.ChangeShapes Go.WideShapes Go.RowKit
set_option maxRecDepth 100000
theorem UT : UseTy Tryd.prog 3 28 32 22 105 23 107 24 26 where
  int := by kernel_rfl
  int1 := by kernel_rfl
  bytes := ⟨of_decide_eq_true (by kernel_rfl), of_decide_eq_true (by kernel_rfl), of_decide_eq_true (by kernel_rfl), of_decide_eq_true (by kernel_rfl)⟩
  ints := by kernel_rfl
  ints1 := by kernel_rfl
  span := ⟨_, Tryd.underlying32, rfl⟩
  span2 := by kernel_rfl
  spans := by kernel_rfl
  spans1 := by kernel_rfl
  paper := ⟨_, Tryd.underlying105, rfl⟩
  paper4 := by kernel_rfl
  papers := by kernel_rfl
  papers1 := by kernel_rfl
  req := ⟨_, Tryd.underlying107, rfl⟩
  req3 := by kernel_rfl
  reqs := by kernel_rfl
  reqs1 := by kernel_rfl
  file := ⟨_, Tryd.underlying26, rfl⟩
  file7 := by kernel_rfl
def partsN : String := "touchmark/use.parts"
theorem gParts : Tryd.prog.globalNamed partsN = some 2 := by kernel_rfl
theorem tParts : (Tryd.prog.globals[2]?).map (·.type) = some 186 := by kernel_rfl
theorem cells98 : Tryd.prog.cellsOf 186 = 4 := by kernel_rfl
theorem array4 {α : Type} : ∀ {l : List α}, l.length = 4 → ∃ a b c d, l = [a, b, c, d]
  | [a, b, c, d], _ => ⟨a, b, c, d, rfl⟩
theorem parts_of_laid {l : List (String × DataW Unit)} {W : World} (h : laidMetH Tryd.prog l W) (hm : (partsN, Rows.laid_touchmark_use_parts) ∈ l) : Parts (getW W) := by
  obtain ⟨g, t, cs, fuel, p, hg, ht, hv, hd⟩ := laidMetH.funcs h (n := partsN) hm
  obtain rfl := Option.some.inj (gParts.symm.trans hg)
  obtain rfl := Option.some.inj (tParts.symm.trans ht)
  obtain ⟨xs, m, _, hx, hl, hn, hel⟩ := DataW.trod_array Tryd.underlying186 hd
  rw [cells98] at hl
  have hcell : ∀ j : Nat, W.cell? ⟨2, j, none⟩ = cs[j]? := World.var?_cell gParts hv
  obtain ⟨x0, x1, x2, x3, rfl⟩ := array4 hn
  obtain ⟨v0, v1, v2, v3, hc⟩ := array4 hl
  have e1 : Tryd.prog.cellsOf 112 = 1 := by kernel_rfl
  have ec : ∀ j : Nat, cs[j]? = [v0, v1, v2, v3][j]? := fun j => by rw [← hc]; simp
  simp only [Prod.mk.injEq] at hx
  obtain ⟨hx, _⟩ := hx
  simp only [DataW.funcsOut, DataW.funcsOutAll, List.map_cons, List.map_nil, DataW.agg.injEq, List.cons.injEq, beq_self_eq_true, if_true, and_true] at hx
  obtain ⟨h0, h1, h2, h3⟩ := hx
  have k0 := hel 0 (by decide)
  have k1 := hel 1 (by decide)
  have k2 := hel 2 (by decide)
  have k3 := hel 3 (by decide)
  rw [hc, e1] at k0 k1 k2 k3
  obtain ⟨d0, q0⟩ := x0; obtain ⟨d1, q1⟩ := x1; obtain ⟨d2, q2⟩ := x2; obtain ⟨d3, q3⟩ := x3
  simp only at h0 h1 h2 h3
  subst h0; subst h1; subst h2; subst h3
  have r0 : v0 = .func (.func 177) #[] #[] := func_of_trod (P := Tryd.prog) Tryd.underlying112 (by kernel_rfl) k0
  have r1 : v1 = .func (.func 178) #[] #[] := func_of_trod (P := Tryd.prog) Tryd.underlying112 (by kernel_rfl) k1
  have r2 : v2 = .func (.func 179) #[] #[] := func_of_trod (P := Tryd.prog) Tryd.underlying112 (by kernel_rfl) k2
  have r3 : v3 = .func (.func 180) #[] #[] := func_of_trod (P := Tryd.prog) Tryd.underlying112 (by kernel_rfl) k3
  intro j hj
  refine getW_cell ?_
  rw [hcell, ec]
  match j, hj with
  | 0, _ => simp [r0]
  | 1, _ => simp [r1]
  | 2, _ => simp [r2]
  | 3, _ => simp [r3]
def noUse : Value := .agg #[.int .i64 0, .int .i64 0, .int .i64 0, .int .i64 0, .slice none 0 0, .slice none 0 0, .slice none 0 0]
end Go.Proofs.YtldamlcehbdkdaaDoor
namespace Go.Proofs.YtldamlcehbdkdaaDoor.Tre
open Go Go.TM Go.Proofs Go.ChangeShapes Go.WideShapes Go.RowKit
set_option maxRecDepth 100000
theorem own : ownKnob Tryd.prog.godebug = none := by kernel_rfl
theorem lo : laidOutB Tryd.prog = true := by kernel_rfl
theorem und57 : Tryd.prog.underlying 27 = some (.int .u16) := by kernel_rfl
theorem und5 : Tryd.prog.underlying 5 = some (.int .u8) := by kernel_rfl
theorem wf_u16 {n : Int} (h : (Lit.int .u16 n).wf = true) : 0 ≤ n ∧ n ≤ 65535 := by simpa [Lit.wf, IntKind.min, IntKind.max, IntKind.signed, IntKind.bits] using h
theorem wf_u8 {n : Int} (h : (Lit.int .u8 n).wf = true) : 0 ≤ n ∧ n ≤ 255 := by simpa [Lit.wf, IntKind.min, IntKind.max, IntKind.signed, IntKind.bits] using h
theorem laid_at {P : Program} {w : World} {n : String} {d : DataW Unit} : ∀ {l : List (String × DataW Unit)} {ps : List MemPlace}, DataW.LaidVars P w l ps → (n, d) ∈ l → ∃ g t cs fuel p, P.globalNamed n = some g ∧ (P.globals[g]?).map (·.type) = some t ∧ w.var? P n = some cs ∧ DataW.trod (fun _ => ()) P w 0 (fun _ => true) false fuel t cs.toList = some (d, p)
  | [], _, _, h => by simp at h
  | (m, e) :: r, ps, h, hm => by
    obtain ⟨g, t, cs, fuel, p, q, h1, h2, h3, h4, h5, _⟩ := h
    rcases List.mem_cons.1 hm with h6 | h6
    · cases h6
      exact ⟨g, t, cs, fuel, p, h1, h2, h3, h4⟩
    · exact laid_at h5 h6
end Go.Proofs.YtldamlcehbdkdaaDoor.Tre
end
section
namespace Go.TM.Te
def lens : List Int := [31, 28, 31, 30, 31, 30, 31, 31, 30, 31, 30, 31]
def lengthT (y m : Int) : Int := if m = 2 ∧ y % 4 = 0 then 29 else lens.getD (m - 1).toNat 0
def beforeT (y : Int) : Int := (y - 2000) / 4 * 1461 + (y - 2000) % 4 * 365 + (if (y - 2000) % 4 < 1 then (y - 2000) % 4 else 1)
def sumT (y : Int) : Nat → Int
  | 0 => 0
  | 1 => 0
  | m + 2 => sumT y (m + 1) + lengthT y ((m + 1 : Nat) : Int)
def dayOfT (y m d : Int) : Int := beforeT y + sumT y m.toNat + d - 1
theorem month_of {m : Int} (h : 1 ≤ m ∧ m ≤ 12) : m = 1 ∨ m = 2 ∨ m = 3 ∨ m = 4 ∨ m = 5 ∨ m = 6 ∨ m = 7 ∨ m = 8 ∨ m = 9 ∨ m = 10 ∨ m = 11 ∨ m = 12 := by omega
theorem length_range {y m : Int} (h : 1 ≤ m ∧ m ≤ 12) : 28 ≤ lengthT y m ∧ lengthT y m ≤ 31 := by
  unfold lengthT
  split
  · omega
  · rcases month_of h with rfl | rfl | rfl | rfl | rfl | rfl | rfl | rfl | rfl | rfl | rfl | rfl <;> decide
theorem sum_next {y m : Int} (h : 1 ≤ m) : sumT y (m + 1).toNat = sumT y m.toNat + lengthT y m := by
  obtain ⟨n, rfl⟩ : ∃ n : Nat, m = ((n + 1 : Nat) : Int) := ⟨(m - 1).toNat, by omega⟩
  have e1 : (((n + 1 : Nat) : Int) + 1).toNat = n + 2 := by omega
  have e2 : ((n + 1 : Nat) : Int).toNat = n + 1 := by omega
  rw [e1, e2]; rfl
theorem before_next (y : Int) : beforeT (y + 1) = beforeT y + (if y % 4 = 0 then 366 else 365) := by
  unfold beforeT
  split <;> split <;> split <;> omega
theorem year_sum (y : Int) : sumT y 12 + lengthT y 12 = if y % 4 = 0 then 366 else 365 := by
  have key : sumT y 12 = 31 + lengthT y 2 + 31 + 30 + 31 + 30 + 31 + 31 + 30 + 31 + 30 := by
    simp only [sumT]
    simp [lengthT, lens]
  rw [key]
  unfold lengthT
  by_cases h : y % 4 = 0
  · simp [h, lens]
  · simp [h, lens]
def startM (M : Int) : Int := dayOfT (M / 12) (M % 12 + 1) 1
def lenM (M : Int) : Int := lengthT (M / 12) (M % 12 + 1)
theorem lenM_range (M : Int) : 28 ≤ lenM M ∧ lenM M ≤ 31 := length_range (by omega)
theorem startM_next (M : Int) : startM (M + 1) = startM M + lenM M := by
  unfold startM lenM dayOfT
  by_cases h : M % 12 = 11
  · have e1 : (M + 1) / 12 = M / 12 + 1 := by omega
    have e2 : (M + 1) % 12 + 1 = 1 := by omega
    have e3 : M % 12 + 1 = 12 := by omega
    rw [e1, e2, e3, before_next]
    have := year_sum (M / 12)
    have e4 : (12 : Int).toNat = 12 := rfl
    have e5 : sumT (M / 12 + 1) (1 : Int).toNat = 0 := rfl
    rw [e4, e5]
    omega
  · have e1 : (M + 1) / 12 = M / 12 := by omega
    have e2 : (M + 1) % 12 = M % 12 + 1 := by omega
    rw [e1, e2, sum_next (by omega)]
    omega
theorem startM_far {M : Int} : ∀ (n : Nat), startM M + 28 * (n : Int) ≤ startM (M + n)
  | 0 => by simp
  | n + 1 => by
    have ih := startM_far (M := M) n
    have h1 := startM_next (M + n)
    have h2 := lenM_range (M + n)
    have : M + ((n + 1 : Nat) : Int) = M + n + 1 := by omega
    rw [this, h1]
    omega
theorem startM_up {a b : Int} (h : a ≤ b) : startM a ≤ startM b := by
  have := startM_far (M := a) (b - a).toNat
  rw [show a + ((b - a).toNat : Int) = b by omega] at this
  omega
theorem startM_lt {a b : Int} (h : a < b) : startM a + lenM a ≤ startM b := by
  rw [← startM_next]
  exact startM_up (by omega)
theorem last_day : startM (2100 * 12) = 36525 := by decide +kernel
structure PartsOf (s y m d : Int) : Prop where
  year : 2000 ≤ y ∧ y ≤ 2099
  month : 1 ≤ m ∧ m ≤ 12
  date : 1 ≤ d ∧ d ≤ lengthT y m
  day : dayOfT y m d = s
theorem parts_of {s y m r : Int} (hy : 2000 ≤ y ∧ y ≤ 2099) (hm : 1 ≤ m ∧ m ≤ 12) (h : s = beforeT y + sumT y m.toNat + r) (hr : 0 ≤ r ∧ r < lengthT y m) : PartsOf s y m (r + 1) :=
  ⟨hy, hm, by omega, by unfold dayOfT; omega⟩
theorem month_more {y m r : Int} (hm : 1 ≤ m ∧ m ≤ 12) (h : sumT y m.toNat + r < if y % 4 = 0 then 366 else 365) (hr : lengthT y m ≤ r) : m + 1 ≤ 12 := by
  by_cases e : m = 12
  · subst e
    have := year_sum y
    have e4 : (12 : Int).toNat = 12 := rfl
    rw [e4] at h
    omega
  · omega
theorem year_here {s y : Int} (h : s < beforeT (y + 1)) : s - beforeT y < if y % 4 = 0 then 366 else 365 := by
  rw [before_next] at h
  omega
theorem year_last : beforeT 2100 = 36525 := by decide +kernel
theorem year_first : beforeT 2000 = 0 := by decide +kernel
def monthNo (y m : Int) : Int := y * 12 + (m - 1)
theorem day_start {y m d : Int} (hm : 1 ≤ m ∧ m ≤ 12) : dayOfT y m d = startM (monthNo y m) + d - 1 ∧ lengthT y m = lenM (monthNo y m) := by
  unfold startM lenM monthNo dayOfT
  have e1 : (y * 12 + (m - 1)) / 12 = y := by omega
  have e2 : (y * 12 + (m - 1)) % 12 + 1 = m := by omega
  rw [e1, e2]
  exact ⟨by omega, rfl⟩
def monthsT (y m d n : Int) : Int :=
  if 2099 < y + (m + n - 1) / 12 then 36524 else dayOfT (y + (m + n - 1) / 12) ((m + n - 1) % 12 + 1) (if lengthT (y + (m + n - 1) / 12) ((m + n - 1) % 12 + 1) < d then lengthT (y + (m + n - 1) / 12) ((m + n - 1) % 12 + 1) else d)
theorem months_is {y m d n : Int} : monthsT y m d n = if 2099 < (monthNo y m + n) / 12 then 36524 else startM (monthNo y m + n) + (if lenM (monthNo y m + n) < d then lenM (monthNo y m + n) else d) - 1 := by
  have e1 : y + (m + n - 1) / 12 = (monthNo y m + n) / 12 := by unfold monthNo; omega
  have e2 : (m + n - 1) % 12 = (monthNo y m + n) % 12 := by unfold monthNo; omega
  unfold monthsT
  rw [e1, e2]
  split
  · rfl
  · obtain ⟨h1, h2⟩ := day_start (y := (monthNo y m + n) / 12) (m := (monthNo y m + n) % 12 + 1) (d := if lenM (monthNo y m + n) < d then lenM (monthNo y m + n) else d) (by omega)
    have e3 : monthNo ((monthNo y m + n) / 12) ((monthNo y m + n) % 12 + 1) = monthNo y m + n := by
      generalize monthNo y m + n = K
      unfold monthNo; omega
    rw [e3] at h1 h2
    rw [h2, h1]
theorem months_up {y m d n k : Int} (hd : 1 ≤ d) (h : n ≤ k) : monthsT y m d n ≤ monthsT y m d k := by
  rw [months_is, months_is]
  generalize ha : monthNo y m + n = a
  generalize hb : monthNo y m + k = b
  have hab : a ≤ b := by omega
  have la := lenM_range a
  have lb := lenM_range b
  by_cases h1 : 2099 < a / 12
  · rw [if_pos h1, if_pos (by omega)]; omega
  · rw [if_neg h1]
    by_cases h2 : 2099 < b / 12
    · rw [if_pos h2]
      have := startM_lt (a := a) (b := 2100 * 12) (by omega)
      rw [last_day] at this
      split <;> omega
    · rw [if_neg h2]
      by_cases e : a = b
      · subst e; omega
      · have := startM_lt (a := a) (b := b) (by omega)
        split <;> split <;> omega
theorem months_none {s y m d : Int} (p : PartsOf s y m d) : monthsT y m d 0 = s := by
  obtain ⟨h1, h2⟩ := day_start (y := y) (m := m) (d := d) p.month
  have := p.date
  have := p.year
  have := p.month
  have := p.day
  rw [months_is, if_neg (by unfold monthNo; omega), Int.add_zero, if_neg (by omega)]
  omega
structure Cal where
  closed : List Int
  closures : List (Int × Int)
def openB (c : Cal) (day : Int) : Bool := !(c.closed.contains ((day + 5) % 7) || c.closures.any fun s => decide (s.1 ≤ day) && decide (day ≤ s.2))
def nextGo (c : Cal) : Nat → Int → Int
  | 0, _ => 36524
  | n + 1, day => if openB c day then day else nextGo c n (day + 1)
def nextT (c : Cal) (day : Int) : Int := nextGo c (36525 - day).toNat day
theorem next_ge (c : Cal) : ∀ (n : Nat) (day : Int), day + n ≤ 36525 → day ≤ 36524 → day ≤ nextGo c n day ∧ nextGo c n day ≤ 36524
  | 0, day, _, h => ⟨h, Int.le_refl _⟩
  | n + 1, day, h, hd => by
    rw [nextGo]
    split
    · exact ⟨Int.le_refl _, hd⟩
    · by_cases e : day = 36524
      · have : n = 0 := by omega
        subst this
        exact ⟨hd, Int.le_refl _⟩
      · have := next_ge c n (day + 1) (by omega) (by omega)
        omega
theorem next_up (c : Cal) : ∀ (n m : Nat) (a b : Int), a + n = 36525 → b + m = 36525 → a ≤ b → b ≤ 36524 → nextGo c n a ≤ nextGo c m b
  | 0, m, a, b, h1, h2, h3, h4 => by omega
  | n + 1, m, a, b, h1, h2, h3, h4 => by
    rw [nextGo]
    split
    · have := next_ge c m b (by omega) h4
      omega
    · rename_i hc
      by_cases e : a = b
      · subst e
        have : m = n + 1 := by omega
        subst this
        rw [nextGo, if_neg hc]; exact Int.le_refl _
      · exact next_up c n m (a + 1) b (by omega) h2 (by omega) h4
theorem nextT_up {c : Cal} {a b : Int} (h : a ≤ b) (hb : b ≤ 36524) : nextT c a ≤ nextT c b := next_up c _ _ a b (by omega) (by omega) h hb
theorem next_closed {c : Cal} {s : Int × Int} : ∀ (n : Nat) (day : Int), day + n ≤ 36525 → day ≤ 36524 → nextGo c n day ≤ nextGo { c with closures := c.closures ++ [s] } n day
  | 0, _, _, _ => Int.le_refl _
  | n + 1, day, h, hd => by
    rw [nextGo, nextGo]
    have key : openB { c with closures := c.closures ++ [s] } day = true → openB c day = true := by
      unfold openB
      simp only [List.any_append, Bool.not_eq_true', Bool.or_eq_false_iff]
      exact fun hh => ⟨hh.1, hh.2.1⟩
    by_cases h1 : openB { c with closures := c.closures ++ [s] } day = true
    · rw [if_pos h1, if_pos (key h1)]; exact Int.le_refl _
    · rw [if_neg h1]
      split
      · by_cases e : day = 36524
        · have : n = 0 := by omega
          subst this
          rw [nextGo]; exact hd
        · have := (next_ge { c with closures := c.closures ++ [s] } n (day + 1) (by omega) (by omega)).1
          omega
      · by_cases e : day = 36524
        · have : n = 0 := by omega
          subst this
          exact Int.le_refl _
        · exact next_closed n (day + 1) (by omega) (by omega)
theorem nextT_closed {c : Cal} {s : Int × Int} {a : Int} (h : a ≤ 36524) : nextT c a ≤ nextT { c with closures := c.closures ++ [s] } a := next_closed _ a (by omega) h
end Go.TM.Te
end
section
namespace Go.TM.Te
theorem parts_uniq {s y m d y' m' d' : Int} (p : PartsOf s y m d) (q : PartsOf s y' m' d') : y = y' ∧ m = m' ∧ d = d' := by
  obtain ⟨h1, h2⟩ := day_start (y := y) (m := m) (d := d) p.month
  obtain ⟨g1, g2⟩ := day_start (y := y') (m := m') (d := d') q.month
  have pd := p.date; have pm := p.month; have pe := p.day
  have qd := q.date; have qm := q.month; have qe := q.day
  rw [h2] at pd; rw [g2] at qd
  have hM : monthNo y m = monthNo y' m' := by
    by_cases c1 : monthNo y m < monthNo y' m'
    · have := startM_lt c1; omega
    · by_cases c2 : monthNo y' m' < monthNo y m
      · have := startM_lt c2; omega
      · omega
  have e1 : y = y' ∧ m = m' := by unfold monthNo at hM; omega
  rw [hM] at h1
  exact ⟨e1.1, e1.2, by omega⟩
theorem months_most {y m d n : Int} : monthsT y m d n ≤ 36524 := by
  rw [months_is]
  split
  · omega
  · rename_i h
    have h1 := startM_lt (a := monthNo y m + n) (b := 2100 * 12) (by omega)
    rw [last_day] at h1
    split <;> omega
def LeadsTo (s unit n r : Int) : Prop := (unit = 2 ∧ ∃ y m d, PartsOf s y m d ∧ r = monthsT y m d n) ∨ (unit = 1 ∧ r = if s + n * 7 < 36524 then s + n * 7 else 36524) ∨ (unit = 0 ∧ r = if s + n < 36524 then s + n else 36524)
theorem LeadsTo.most {s unit n r : Int} (h : LeadsTo s unit n r) : r ≤ 36524 := by
  rcases h with ⟨_, y, m, d, _, rfl⟩ | ⟨_, rfl⟩ | ⟨_, rfl⟩
  · exact months_most
  · split <;> omega
  · split <;> omega
theorem LeadsTo.from {s unit n r : Int} (h : LeadsTo s unit n r) (hs : s ≤ 36524) (hn : 0 ≤ n) : s ≤ r := by
  rcases h with ⟨_, y, m, d, p, rfl⟩ | ⟨_, rfl⟩ | ⟨_, rfl⟩
  · have h1 := months_up (y := y) (m := m) p.date.1 hn
    rw [months_none p] at h1
    exact h1
  · split <;> omega
  · split <;> omega
theorem LeadsTo.up {s unit n k r r' : Int} (h : LeadsTo s unit n r) (h' : LeadsTo s unit k r') (hn : n ≤ k) : r ≤ r' := by
  rcases h with ⟨e, y, m, d, p, rfl⟩ | ⟨e, rfl⟩ | ⟨e, rfl⟩
  · rcases h' with ⟨_, y', m', d', p', rfl⟩ | ⟨e', _⟩ | ⟨e', _⟩
    · obtain ⟨rfl, rfl, rfl⟩ := parts_uniq p p'
      exact months_up p.date.1 hn
    · omega
    · omega
  · rcases h' with ⟨e', _⟩ | ⟨_, rfl⟩ | ⟨e', _⟩
    · omega
    · split <;> split <;> omega
    · omega
  · rcases h' with ⟨e', _⟩ | ⟨e', _⟩ | ⟨_, rfl⟩
    · omega
    · omega
    · split <;> split <;> omega
def EndsAt (c : Cal) (s unit n x : Int) : Prop := ∃ r, LeadsTo s unit n r ∧ x = nextT c r
theorem EndsAt.up {c : Cal} {s unit n k x y : Int} (h : EndsAt c s unit n x) (h' : EndsAt c s unit k y) (hn : n ≤ k) : x ≤ y := by
  obtain ⟨r, h1, rfl⟩ := h
  obtain ⟨r', h2, rfl⟩ := h'
  exact nextT_up (h1.up h2 hn) h2.most
theorem EndsAt.closed {c : Cal} {t : Int × Int} {s unit n x y : Int} (h : EndsAt c s unit n x) (h' : EndsAt { c with closures := c.closures ++ [t] } s unit n y) : x ≤ y := by
  obtain ⟨r, h1, rfl⟩ := h
  obtain ⟨r', h2, rfl⟩ := h'
  have e1 := h1.up h2 (Int.le_refl _)
  have e2 := h2.up h1 (Int.le_refl _)
  have : r = r' := by omega
  subst this
  exact nextT_closed h1.most
end Go.TM.Te
end
section
namespace Go.TM
open Go
structure CalC where
  p0 : Option Addr
  n0 : Nat
  c0 : Nat
  p1 : Option Addr
  n1 : Nat
  c1 : Nat
structure CalD where
  closed : List Int
  closures : List Span
def calV (f : CalC) : Value := .agg #[.slice f.p0 f.n0 f.c0, .slice f.p1 f.n1 f.c1]
structure CalR (h : Cells) (f : CalC) (x : CalD) : Prop where
  closed : Sl IntE 1 h f.p0 f.n0 x.closed
  closures : Sl SpanE 2 h f.p1 f.n1 x.closures
theorem CalR.rd {h h' : Cells} {f : CalC} {x : CalD} (hl : Rd h h') (r : CalR h f x) : CalR h' f x := ⟨r.closed.rd IntE.grow hl, r.closures.rd SpanE.grow hl⟩
theorem CalR.le {h h' : Cells} {f : CalC} {x : CalD} (hl : h.le h') (r : CalR h f x) : CalR h' f x := r.rd (Rd.of_le hl)
def CalD.cal (x : CalD) : Te.Cal := ⟨x.closed, x.closures.map fun s => (s.first, s.last)⟩
structure CalOk (x : CalD) : Prop where
  closed : ∀ (i : Nat) v, x.closed[i]? = some v → (0 ≤ v ∧ v ≤ 6) ∧ ∀ u, 0 < i → x.closed[i - 1]? = some u → u < v
  many : x.closures.length ≤ 6
  closures : ∀ s ∈ x.closures, 0 ≤ s.first ∧ s.first ≤ s.last ∧ s.last ≤ 36524
section
variable {H : Type} {enc : TypeId × Value → H} {P : Program} {W : World} {base : Nat} {sp : Nat → Bool} {held : Bool} {fuel : Nat} {t : TypeId} {cs : List Value} {x : DataW H × List MemPlace}
structure DateTy (P : Program) (tIs tSpans tCal : TypeId) : Prop where
  cal : FieldsAre P tCal [(tIs, 0), (tSpans, 1)]
  cal2 : P.cellsOf tCal = 2
variable {tI tIs tSpan tSpans tPaper tPapers tReq tReqs tFile tCal : TypeId}
theorem cal_arg (T : UseTy P tI tIs tSpan tSpans tPaper tPapers tReq tReqs tFile) (D : DateTy P tIs tSpans tCal) {r : Reach} {b0 : Nat} {v : Value} {d : DataW H} {ps : List MemPlace}
    (hv : Value.okWide P W r b0 tCal v) (hz : Light P tCal d) (h : DataW.Trod enc P W base sp held tCal v d ps) : ∃ f y, v = calV f ∧ CalR (getW W) f y := by
  obtain ⟨fs, hu, _⟩ := D.cal
  obtain ⟨cs, rfl, _⟩ := WideShapes.okWide_struct hu hv
  obtain ⟨fuel, hf⟩ := h
  obtain ⟨hl, m, hg⟩ := field_of D.cal hz hf
  rw [D.cal2] at hl
  have hl : cs.toList.length = 2 := hl
  have hcs : ∃ a b, cs.toList = [a, b] := by
    match cs.toList, hl with
    | [a, b], _ => exact ⟨a, b, rfl⟩
  obtain ⟨a, b, hcs⟩ := hcs
  have hc : (Value.agg cs).cells.toList = [a, b] := hcs
  rw [hc] at hg
  obtain ⟨y0, h0, zh0⟩ := hg 0 tIs 0 rfl
  obtain ⟨y1, h1, zh1⟩ := hg 1 tSpans 1 rfl
  rw [T.ints1] at h0; rw [T.spans1] at h1
  obtain ⟨p0, n0, k0, l0, e0, s0⟩ := ints_of_trod T zh0 h0
  obtain ⟨p1, n1, k1, l1, e1, s1⟩ := spans_of_trod T zh1 h1
  simp at e0 e1
  subst e0; subst e1
  exact ⟨⟨p0, n0, k0, p1, n1, k1⟩, ⟨l0, l1⟩, agg_of hc, s0, s1⟩
end
end Go.TM
end
section
namespace Go.Proofs.YtldamlcehbdkdaaDoor
open Go Go.TM Go.Proofs
set_option linter.unusedVariables false
set_option maxRecDepth 100000
noncomputable def n1038 (c_0p : Option Addr) (c_0n c_0c : Nat) (c_1p : Option Addr) (c_1n c_1c : Nat) : T := bif decide ((↑c_0n : Int) > 20) then .leaf (.ret (.bool true)) else .leaf (.ret (.bool (decide ((↑c_1n : Int) > 20))))
theorem t1038 (c_0p : Option Addr) (c_0n c_0c : Nat) (c_1p : Option Addr) (c_1n c_1c : Nat) : ftree ({ P := Tryd.prog, priv := [1], loops := [], joins := [] }) Tryd.f6 [.agg #[.slice c_0p c_0n c_0c, .slice c_1p c_1n c_1c]] = n1038 c_0p c_0n c_0c c_1p c_1n c_1c := by kernel_rfl
theorem w1038 (c_0p : Option Addr) (c_0n c_0c : Nat) (c_1p : Option Addr) (c_1n c_1c : Nat) {X : XP} (hX : XOK X) {h : LH} {A : Value → LH → Prop} (hw : (n1038 c_0p c_0n c_0c c_1p c_1n c_1c).wp X Tryd.prog (retQ A) h) : FWK X Tryd.prog .normal 6 #[.agg #[.slice c_0p c_0n c_0c, .slice c_1p c_1n c_1c]] h A := fwk_neat (t1038 c_0p c_0n c_0c c_1p c_1n c_1c) (by simp) (by kernel_rfl) (by kernel_rfl) hX hw
noncomputable def n1039 (c_0p : Option Addr) (c_0n c_0c : Nat) (c_1p : Option Addr) (c_1n c_1c : Nat) : T := .loop [.int .i64 0, .int .i64 0] (fun vs => .popI .i64 vs fun n vs => .popI .i64 vs fun n_1 vs => .unNil vs (bif decide (n_1 < (↑c_0n : Int)) then .need (0 ≤ n_1 ∧ n_1 < (↑c_0n : Int)) (.someA c_0p fun a => .loadI .i64 (Addr.add a (Int.toNat n_1 * 1)) fun n_2 => .call false 19 #[.int .i64 n_2, .int .i64 0, .int .i64 6] fun v => .unB v fun b => bif !b then .leaf (.retn [.int .i64 1, .int .i64 n_1]) else bif decide (n_1 > 0) then .need (0 ≤ n_1 ∧ n_1 < (↑c_0n : Int)) (.someA c_0p fun a => .loadI .i64 (Addr.add a (Int.toNat n_1 * 1)) fun n_3 => .need (0 ≤ IntKind.wrap .i64 (n_1 - 1) ∧ IntKind.wrap .i64 (n_1 - 1) < (↑c_0n : Int)) (.someA c_0p fun a => .loadI .i64 (Addr.add a (Int.toNat (IntKind.wrap .i64 (n_1 - 1)) * 1)) fun n_4 => bif decide (n_3 ≤ n_4) then .leaf (.retn [.int .i64 7, .int .i64 n_1]) else .leaf (.again [.int .i64 n, .int .i64 (IntKind.wrap .i64 (n_1 + 1))]))) else .nd (.tuple #[]) (.nd (.tuple #[]) (.nd (.tuple #[]) (.nd (.tuple #[]) (.nd (.tuple #[]) (.nd (.tuple #[]) (.nd (.tuple #[]) (.nd (.bool (decide (n_1 > 0))) (.nd (.int .i64 n_1) (.nd (.tuple #[]) (.nd (.tuple #[]) (.nd (.tuple #[]) (.nd (.tuple #[]) (.nd (.tuple #[]) (.nd (.tuple #[]) (.nd (.tuple #[]) (.nd (.bool (decide (n_1 > 0))) (.nd (.int .i64 n_1) (.leaf (.again [.int .i64 n, .int .i64 (IntKind.wrap .i64 (n_1 + 1))])))))))))))))))))))) else .leaf (.brk [.int .i64 n, .int .i64 n_1]))) (fun vs => .popI .i64 vs fun n vs => .popI .i64 vs fun n_1 vs => .unNil vs (bif decide ((↑c_1n : Int) > 6) then .leaf (.ret (.int .i64 2)) else .loop [.int .i64 n, .int .i64 0] (fun vs => .popI .i64 vs fun n vs => .popI .i64 vs fun n_2 vs => .unNil vs (bif decide (n_2 < (↑c_1n : Int)) then .need (0 ≤ n_2 ∧ n_2 < (↑c_1n : Int)) (.someA c_1p fun a => .loadI .i64 (Addr.add (Addr.add a (Int.toNat n_2 * 2)) 0) fun n_3 => .loadI .i64 (Addr.add (Addr.add a (Int.toNat n_2 * 2)) 1) fun n_4 => .call false 20 #[.agg #[.int .i64 n_3, .int .i64 n_4], .int .i64 0, .int .i64 36524] fun v => .unB v fun b => bif !b then .leaf (.retn [.int .i64 1, .int .i64 n_2]) else .leaf (.again [.int .i64 n, .int .i64 (IntKind.wrap .i64 (n_2 + 1))])) else .leaf (.brk [.int .i64 n, .int .i64 n_2]))) (fun vs => .popI .i64 vs fun n vs => .popI .i64 vs fun n vs => .unNil vs (.leaf (.ret (.int .i64 0)))) (fun vs => .popI .i64 vs fun n vs => .popI .i64 vs fun n_2 vs => .unNil vs (.leaf (.ret (.int .i64 n)))) fun x x_1 => .fail)) (fun vs => .popI .i64 vs fun n vs => .popI .i64 vs fun n_1 vs => .unNil vs (.leaf (.ret (.int .i64 n)))) fun x x_1 => .fail
theorem t1039 (c_0p : Option Addr) (c_0n c_0c : Nat) (c_1p : Option Addr) (c_1n c_1c : Nat) : ftree ({ P := Tryd.prog, priv := [1], loops := [{ id := 0, slots := [(2, .int .i64), (3, .int .i64)], ro := [1], outs := [] }, { id := 2, slots := [(2, .int .i64), (4, .int .i64)], ro := [1], outs := [] }], joins := [] }) Tryd.f7 [.agg #[.slice c_0p c_0n c_0c, .slice c_1p c_1n c_1c]] = n1039 c_0p c_0n c_0c c_1p c_1n c_1c := by kernel_rfl
theorem w1039 (c_0p : Option Addr) (c_0n c_0c : Nat) (c_1p : Option Addr) (c_1n c_1c : Nat) {X : XP} (hX : XOK X) {h : LH} {A : Value → LH → Prop} (hw : (n1039 c_0p c_0n c_0c c_1p c_1n c_1c).wp X Tryd.prog (retQ A) h) : FWK X Tryd.prog .normal 7 #[.agg #[.slice c_0p c_0n c_0c, .slice c_1p c_1n c_1c]] h A := fwk_neat (t1039 c_0p c_0n c_0c c_1p c_1n c_1c) (by simp) (by kernel_rfl) (by kernel_rfl) hX hw
noncomputable def n1040 (c_0p : Option Addr) (c_0n c_0c : Nat) (c_1p : Option Addr) (c_1n c_1c : Nat) (start : Int) (t_0 : Int) (t_1 : Int) : T := .call false 34 #[.agg #[.slice c_0p c_0n c_0c, .slice c_1p c_1n c_1c]] fun v => .unI .i64 v fun n => .nd (.agg #[.int .i64 t_0, .int .i64 t_1]) (.nd (.int .i64 start) (.call false 36 #[.int .i64 start] fun v => .unB v fun b => .nd (.agg #[.int .i64 t_0, .int .i64 t_1]) (.call false 35 #[.bool !b, .int .i64 1] fun v => .unI .i64 v fun n_1 => .nd (.agg #[.int .i64 t_0, .int .i64 t_1]) (.call false 37 #[.agg #[.int .i64 t_0, .int .i64 t_1]] fun v => .unI .i64 v fun n_2 => .sem false (Instr.buildSlice 123 3 #[(0, .int .i64 n), (1, .int .i64 n_1), (2, .int .i64 n_2)]) fun v => .unS v fun a n c => .call false 33 #[.slice a n c] fun v => .unI .i64 v fun n => bif n != 0 then .leaf (.ret (.tuple #[.int .i64 0, .int .i64 n])) else .call false 39 #[.int .i64 start, .agg #[.int .i64 t_0, .int .i64 t_1]] fun v => .unI .i64 v fun n => .nd (.agg #[.slice c_0p c_0n c_0c, .slice c_1p c_1n c_1c]) (.call false 38 #[.agg #[.slice c_0p c_0n c_0c, .slice c_1p c_1n c_1c], .int .i64 n] fun v => .unI .i64 v fun n => .leaf (.ret (.tuple #[.int .i64 n, .int .i64 0])))))))
theorem t1040 (c_0p : Option Addr) (c_0n c_0c : Nat) (c_1p : Option Addr) (c_1n c_1c : Nat) (start : Int) (t_0 : Int) (t_1 : Int) : ftree ({ P := Tryd.prog, priv := [3, 5, 8], loops := [], joins := [] }) Tryd.f10 [.agg #[.slice c_0p c_0n c_0c, .slice c_1p c_1n c_1c], .int .i64 start, .agg #[.int .i64 t_0, .int .i64 t_1]] = n1040 c_0p c_0n c_0c c_1p c_1n c_1c start t_0 t_1 := by kernel_rfl
theorem w1040 (c_0p : Option Addr) (c_0n c_0c : Nat) (c_1p : Option Addr) (c_1n c_1c : Nat) (start : Int) (t_0 : Int) (t_1 : Int) {X : XP} (hX : XOK X) {h : LH} {A : Value → LH → Prop} (hw : (n1040 c_0p c_0n c_0c c_1p c_1n c_1c start t_0 t_1).wp X Tryd.prog (retQ A) h) : FWK X Tryd.prog .normal 10 #[.agg #[.slice c_0p c_0n c_0c, .slice c_1p c_1n c_1c], .int .i64 start, .agg #[.int .i64 t_0, .int .i64 t_1]] h A := fwk_neat (t1040 c_0p c_0n c_0c c_1p c_1n c_1c start t_0 t_1) (by simp) (by kernel_rfl) (by kernel_rfl) hX hw
noncomputable def n1041 (u_0 : Int) (u_1 : Int) (u_2 : Int) (u_3 : Int) (u_4p : Option Addr) (u_4n u_4c : Nat) (u_5p : Option Addr) (u_5n u_5c : Nat) (u_6p : Option Addr) (u_6n u_6c : Nat) (by0 : Int) (picksp : Option Addr) (picksn picksc : Nat) : T := .loop [.slice none 0 0, .int .i64 0] (fun vs => .popS vs fun a n c vs => .popI .i64 vs fun n_1 vs => .unNil vs (bif decide (n_1 < (↑u_5n : Int)) then .call false 42 #[.slice picksp picksn picksc, .int .i64 n_1] fun v => .unI .i64 v fun n_2 => .need ((200 : Int) ≠ 0) (bif decide (Int.tmod n_2 200 ≤ by0) then .sem false (Instr.buildSlice 28 1 #[(0, .int .i64 n_1)]) fun v => .unS v fun a_1 n_3 c_1 => .sem false (Builtin.append_ #[28, 28] 28 #[.slice a n c, .slice a_1 n_3 c_1]) fun v => .unS v fun a n c => .leaf (.again [.slice a n c, .int .i64 (IntKind.wrap .i64 (n_1 + 1))]) else .leaf (.again [.slice a n c, .int .i64 (IntKind.wrap .i64 (n_1 + 1))])) else .leaf (.brk [.slice a n c, .int .i64 n_1]))) (fun vs => .popS vs fun a n c vs => .popI .i64 vs fun n_1 vs => .unNil vs (.call false 43 #[.agg #[.int .i64 u_0, .int .i64 u_1, .int .i64 u_2, .int .i64 u_3, .slice u_4p u_4n u_4c, .slice u_5p u_5n u_5c, .slice u_6p u_6n u_6c], .slice a n c] fun v => .unAgg v fun l => .popI .i64 l fun n vs => .popI .i64 vs fun n_2 vs => .popI .i64 vs fun n_3 vs => .popI .i64 vs fun n_4 vs => .popS vs fun a n_5 c vs => .popS vs fun a_1 n_6 c_1 vs => .popS vs fun a_2 n_7 c_2 vs => .unNil vs (.leaf (.ret (.agg #[.int .i64 n, .int .i64 n_2, .int .i64 n_3, .int .i64 n_4, .slice a n_5 c, .slice a_1 n_6 c_1, .slice a_2 n_7 c_2]))))) (fun vs => .popS vs fun a n c vs => .popI .i64 vs fun n vs => .unNil vs (.leaf (.ret (.agg #[.int .i64 0, .int .i64 0, .int .i64 0, .int .i64 0, .slice none 0 0, .slice none 0 0, .slice none 0 0])))) fun x x_1 => .fail
theorem t1041 (u_0 : Int) (u_1 : Int) (u_2 : Int) (u_3 : Int) (u_4p : Option Addr) (u_4n u_4c : Nat) (u_5p : Option Addr) (u_5n u_5c : Nat) (u_6p : Option Addr) (u_6n u_6c : Nat) (by0 : Int) (picksp : Option Addr) (picksn picksc : Nat) : ftree ({ P := Tryd.prog, priv := [3, 6], loops := [{ id := 0, slots := [(7, .slice), (8, .int .i64)], ro := [3, 6], outs := [] }], joins := [] }) Tryd.f12 [.agg #[.int .i64 u_0, .int .i64 u_1, .int .i64 u_2, .int .i64 u_3, .slice u_4p u_4n u_4c, .slice u_5p u_5n u_5c, .slice u_6p u_6n u_6c], .int .i64 by0, .slice picksp picksn picksc] = n1041 u_0 u_1 u_2 u_3 u_4p u_4n u_4c u_5p u_5n u_5c u_6p u_6n u_6c by0 picksp picksn picksc := by kernel_rfl
theorem w1041 (u_0 : Int) (u_1 : Int) (u_2 : Int) (u_3 : Int) (u_4p : Option Addr) (u_4n u_4c : Nat) (u_5p : Option Addr) (u_5n u_5c : Nat) (u_6p : Option Addr) (u_6n u_6c : Nat) (by0 : Int) (picksp : Option Addr) (picksn picksc : Nat) {X : XP} (hX : XOK X) {h : LH} {A : Value → LH → Prop} (hw : (n1041 u_0 u_1 u_2 u_3 u_4p u_4n u_4c u_5p u_5n u_5c u_6p u_6n u_6c by0 picksp picksn picksc).wp X Tryd.prog (retQ A) h) : FWK X Tryd.prog .normal 12 #[.agg #[.int .i64 u_0, .int .i64 u_1, .int .i64 u_2, .int .i64 u_3, .slice u_4p u_4n u_4c, .slice u_5p u_5n u_5c, .slice u_6p u_6n u_6c], .int .i64 by0, .slice picksp picksn picksc] h A := fwk_neat (t1041 u_0 u_1 u_2 u_3 u_4p u_4n u_4c u_5p u_5n u_5c u_6p u_6n u_6c by0 picksp picksn picksc) (by simp) (by kernel_rfl) (by kernel_rfl) hX hw
noncomputable def n1074 (flawsp : Option Addr) (flawsn flawsc : Nat) : T := .loop [.int .i64 0, .int .i64 0] (fun vs => .popI .i64 vs fun n vs => .popI .i64 vs fun n_1 vs => .unNil vs (bif decide (n_1 < (↑flawsn : Int)) then .need (0 ≤ n_1 ∧ n_1 < (↑flawsn : Int)) (.someA flawsp fun a => .loadI .i64 (Addr.add a (Int.toNat n_1 * 1)) fun n_2 => bif n_2 != 0 then .leaf (.retn [.int .i64 n_2, .int .i64 n_1]) else .leaf (.again [.int .i64 n, .int .i64 (IntKind.wrap .i64 (n_1 + 1))])) else .leaf (.brk [.int .i64 n, .int .i64 n_1]))) (fun vs => .popI .i64 vs fun n vs => .popI .i64 vs fun n vs => .unNil vs (.leaf (.ret (.int .i64 0)))) (fun vs => .popI .i64 vs fun n vs => .popI .i64 vs fun n_1 vs => .unNil vs (.leaf (.ret (.int .i64 n)))) fun x x_1 => .fail
theorem t1074 (flawsp : Option Addr) (flawsn flawsc : Nat) : ftree ({ P := Tryd.prog, priv := [], loops := [{ id := 0, slots := [(2, .int .i64), (7, .int .i64)], ro := [], outs := [] }], joins := [] }) Tryd.f33 [.slice flawsp flawsn flawsc] = n1074 flawsp flawsn flawsc := by kernel_rfl
theorem w1074 (flawsp : Option Addr) (flawsn flawsc : Nat) {X : XP} (hX : XOK X) {h : LH} {A : Value → LH → Prop} (hw : (n1074 flawsp flawsn flawsc).wp X Tryd.prog (retQ A) h) : FWK X Tryd.prog .normal 33 #[.slice flawsp flawsn flawsc] h A := fwk_neat (t1074 flawsp flawsn flawsc) (by simp) (by kernel_rfl) (by kernel_rfl) hX hw
noncomputable def n1075 (c_0p : Option Addr) (c_0n c_0c : Nat) (c_1p : Option Addr) (c_1n c_1c : Nat) : T := .loop [.int .i64 0, .int .i64 0] (fun vs => .popI .i64 vs fun n vs => .popI .i64 vs fun n_1 vs => .unNil vs (bif decide (n_1 < (↑c_0n : Int)) then .need (0 ≤ n_1 ∧ n_1 < (↑c_0n : Int)) (.someA c_0p fun a => .loadI .i64 (Addr.add a (Int.toNat n_1 * 1)) fun n_2 => .call false 71 #[.int .i64 n_2, .int .i64 0, .int .i64 6] fun v => .unB v fun b => bif !b then .leaf (.retn [.int .i64 1, .int .i64 n_1]) else bif decide (n_1 > 0) then .need (0 ≤ IntKind.wrap .i64 (n_1 - 1) ∧ IntKind.wrap .i64 (n_1 - 1) < (↑c_0n : Int)) (.someA c_0p fun a => .loadI .i64 (Addr.add a (Int.toNat (IntKind.wrap .i64 (n_1 - 1)) * 1)) fun n_3 => bif decide (n_2 ≤ n_3) then .leaf (.retn [.int .i64 7, .int .i64 n_1]) else .leaf (.again [.int .i64 n, .int .i64 (IntKind.wrap .i64 (n_1 + 1))])) else .leaf (.again [.int .i64 n, .int .i64 (IntKind.wrap .i64 (n_1 + 1))])) else .leaf (.brk [.int .i64 n, .int .i64 n_1]))) (fun vs => .popI .i64 vs fun n vs => .popI .i64 vs fun n vs => .unNil vs (bif decide ((↑c_1n : Int) > 6) then .leaf (.ret (.int .i64 2)) else .call false 73 #[.slice c_1p c_1n c_1c, .func (Fn.func 72) #[] #[]] fun v => .unB v fun b => .call false 35 #[.bool b, .int .i64 1] fun v => .unI .i64 v fun n => .leaf (.ret (.int .i64 n)))) (fun vs => .popI .i64 vs fun n vs => .popI .i64 vs fun n_1 vs => .unNil vs (.leaf (.ret (.int .i64 n)))) fun x x_1 => .fail
theorem t1075 (c_0p : Option Addr) (c_0n c_0c : Nat) (c_1p : Option Addr) (c_1n c_1c : Nat) : ftree ({ P := Tryd.prog, priv := [1], loops := [{ id := 0, slots := [(2, .int .i64), (10, .int .i64)], ro := [1], outs := [] }], joins := [] }) Tryd.f34 [.agg #[.slice c_0p c_0n c_0c, .slice c_1p c_1n c_1c]] = n1075 c_0p c_0n c_0c c_1p c_1n c_1c := by kernel_rfl
theorem w1075 (c_0p : Option Addr) (c_0n c_0c : Nat) (c_1p : Option Addr) (c_1n c_1c : Nat) {X : XP} (hX : XOK X) {h : LH} {A : Value → LH → Prop} (hw : (n1075 c_0p c_0n c_0c c_1p c_1n c_1c).wp X Tryd.prog (retQ A) h) : FWK X Tryd.prog .normal 34 #[.agg #[.slice c_0p c_0n c_0c, .slice c_1p c_1n c_1c]] h A := fwk_neat (t1075 c_0p c_0n c_0c c_1p c_1n c_1c) (by simp) (by kernel_rfl) (by kernel_rfl) hX hw
noncomputable def n1076 (is : Bool) (f : Int) : T := bif is then .leaf (.ret (.int .i64 f)) else .leaf (.ret (.int .i64 0))
theorem t1076 (is : Bool) (f : Int) : ftree ({ P := Tryd.prog, priv := [], loops := [], joins := [] }) Tryd.f35 [.bool is, .int .i64 f] = n1076 is f := by kernel_rfl
theorem w1076 (is : Bool) (f : Int) {X : XP} (hX : XOK X) {h : LH} {A : Value → LH → Prop} (hw : (n1076 is f).wp X Tryd.prog (retQ A) h) : FWK X Tryd.prog .normal 35 #[.bool is, .int .i64 f] h A := fwk_neat (t1076 is f) (by simp) (by kernel_rfl) (by kernel_rfl) hX hw
noncomputable def n1077 (n : Int) : T := .call false 71 #[.int .i64 n, .int .i64 0, .int .i64 36524] fun v => .unB v fun b => .leaf (.ret (.bool b))
theorem t1077 (n : Int) : ftree ({ P := Tryd.prog, priv := [], loops := [], joins := [] }) Tryd.f36 [.int .i64 n] = n1077 n := by kernel_rfl
theorem w1077 (n : Int) {X : XP} (hX : XOK X) {h : LH} {A : Value → LH → Prop} (hw : (n1077 n).wp X Tryd.prog (retQ A) h) : FWK X Tryd.prog .normal 36 #[.int .i64 n] h A := fwk_neat (t1077 n) (by simp) (by kernel_rfl) (by kernel_rfl) hX hw
noncomputable def n1078 (t_0 : Int) (t_1 : Int) : T := .call false 71 #[.int .i64 t_0, .int .i64 0, .int .i64 999] fun v => .unB v fun b => bif !b then .call false 35 #[.bool true, .int .i64 1] fun v => .unI .i64 v fun n => .leaf (.ret (.int .i64 n)) else .call false 71 #[.int .i64 t_1, .int .i64 0, .int .i64 2] fun v => .unB v fun b => .call false 35 #[.bool !b, .int .i64 1] fun v => .unI .i64 v fun n => .leaf (.ret (.int .i64 n))
theorem t1078 (t_0 : Int) (t_1 : Int) : ftree ({ P := Tryd.prog, priv := [1], loops := [], joins := [] }) Tryd.f37 [.agg #[.int .i64 t_0, .int .i64 t_1]] = n1078 t_0 t_1 := by kernel_rfl
theorem w1078 (t_0 : Int) (t_1 : Int) {X : XP} (hX : XOK X) {h : LH} {A : Value → LH → Prop} (hw : (n1078 t_0 t_1).wp X Tryd.prog (retQ A) h) : FWK X Tryd.prog .normal 37 #[.agg #[.int .i64 t_0, .int .i64 t_1]] h A := fwk_neat (t1078 t_0 t_1) (by simp) (by kernel_rfl) (by kernel_rfl) hX hw
noncomputable def n1079 (c_0p : Option Addr) (c_0n c_0c : Nat) (c_1p : Option Addr) (c_1n c_1c : Nat) (day : Int) : T := .call false 74 #[.agg #[.slice c_0p c_0n c_0c, .slice c_1p c_1n c_1c], .int .i64 day] fun v => .each v [.int .i64 0] (fun xs vs => .unCons xs fun v vs_1 => .unI .i64 v fun n => .unNil vs_1 (.popI .i64 vs fun n_1 vs => .unNil vs (.leaf (.retn [.int .i64 n])))) (fun vs => .popI .i64 vs fun n vs => .unNil vs (.leaf (.ret (.int .i64 36524)))) (fun vs => .popI .i64 vs fun n vs => .unNil vs (.leaf (.ret (.int .i64 36524)))) (fun vs => .popI .i64 vs fun n vs => .unNil vs (.leaf (.ret (.int .i64 n)))) fun x x_1 => .fail
theorem t1079 (c_0p : Option Addr) (c_0n c_0c : Nat) (c_1p : Option Addr) (c_1n c_1c : Nat) (day : Int) : ftree ({ P := Tryd.prog, priv := [2, 4], loops := [{ id := 0, slots := [(20480, .int .i64)], ro := [2], outs := [], ps := [.cell (.int .i64)] }], joins := [] }) Tryd.f38 [.agg #[.slice c_0p c_0n c_0c, .slice c_1p c_1n c_1c], .int .i64 day] = n1079 c_0p c_0n c_0c c_1p c_1n c_1c day := by kernel_rfl
theorem w1079 (c_0p : Option Addr) (c_0n c_0c : Nat) (c_1p : Option Addr) (c_1n c_1c : Nat) (day : Int) {X : XP} (hX : XOK X) {h : LH} {A : Value → LH → Prop} (hw : (n1079 c_0p c_0n c_0c c_1p c_1n c_1c day).wp X Tryd.prog (retQ A) h) : FWK X Tryd.prog .normal 38 #[.agg #[.slice c_0p c_0n c_0c, .slice c_1p c_1n c_1c], .int .i64 day] h A := fwk_neat (t1079 c_0p c_0n c_0c c_1p c_1n c_1c day) (by simp) (by kernel_rfl) (by kernel_rfl) hX hw
noncomputable def n1080 (start : Int) (t_0 : Int) (t_1 : Int) : T := bif t_1 == 1 then .leaf (.ret (.int .i64 (if IntKind.wrap .i64 (start + IntKind.wrap .i64 (t_0 * 7)) < 36524 then IntKind.wrap .i64 (start + IntKind.wrap .i64 (t_0 * 7)) else 36524))) else bif t_1 == 0 then .leaf (.ret (.int .i64 (if IntKind.wrap .i64 (start + t_0) < 36524 then IntKind.wrap .i64 (start + t_0) else 36524))) else .call false 75 #[.int .i64 start] fun v => .unTup v fun l => .unCons l fun v vs => .unI .i64 v fun n => .unCons vs fun v vs => .unI .i64 v fun n_1 => .unCons vs fun v vs => .unI .i64 v fun n_2 => .unNil vs (.need ((12 : Int) ≠ 0) (.need ((12 : Int) ≠ 0) (bif decide (IntKind.wrap .i64 (n + IntKind.wrap .i64 (Int.tdiv (IntKind.wrap .i64 (n_1 + IntKind.wrap .i64 (t_0 - 1))) 12)) > 2099) then .leaf (.ret (.int .i64 36524)) else .call false 77 #[.int .i64 (IntKind.wrap .i64 (n + IntKind.wrap .i64 (Int.tdiv (IntKind.wrap .i64 (n_1 + IntKind.wrap .i64 (t_0 - 1))) 12))), .int .i64 (IntKind.wrap .i64 (Int.tmod (IntKind.wrap .i64 (n_1 + IntKind.wrap .i64 (t_0 - 1))) 12 + 1))] fun v => .unI .i64 v fun n_3 => .call false 76 #[.int .i64 (IntKind.wrap .i64 (n + IntKind.wrap .i64 (Int.tdiv (IntKind.wrap .i64 (n_1 + IntKind.wrap .i64 (t_0 - 1))) 12))), .int .i64 (IntKind.wrap .i64 (Int.tmod (IntKind.wrap .i64 (n_1 + IntKind.wrap .i64 (t_0 - 1))) 12 + 1)), .int .i64 (if n_3 < n_2 then n_3 else n_2)] fun v => .unI .i64 v fun n => .leaf (.ret (.int .i64 n)))))
theorem t1080 (start : Int) (t_0 : Int) (t_1 : Int) : ftree ({ P := Tryd.prog, priv := [3], loops := [], joins := [] }) Tryd.f39 [.int .i64 start, .agg #[.int .i64 t_0, .int .i64 t_1]] = n1080 start t_0 t_1 := by kernel_rfl
theorem w1080 (start : Int) (t_0 : Int) (t_1 : Int) {X : XP} (hX : XOK X) {h : LH} {A : Value → LH → Prop} (hw : (n1080 start t_0 t_1).wp X Tryd.prog (retQ A) h) : FWK X Tryd.prog .normal 39 #[.int .i64 start, .agg #[.int .i64 t_0, .int .i64 t_1]] h A := fwk_neat (t1080 start t_0 t_1) (by simp) (by kernel_rfl) (by kernel_rfl) hX hw
noncomputable def n1102 (n : Int) (first : Int) (last : Int) : T := bif decide (first ≤ n) then .leaf (.ret (.bool (decide (n ≤ last)))) else .leaf (.ret (.bool false))
theorem t1102 (n : Int) (first : Int) (last : Int) : ftree ({ P := Tryd.prog, priv := [], loops := [], joins := [] }) Tryd.f71 [.int .i64 n, .int .i64 first, .int .i64 last] = n1102 n first last := by kernel_rfl
theorem w1102 (n : Int) (first : Int) (last : Int) {X : XP} (hX : XOK X) {h : LH} {A : Value → LH → Prop} (hw : (n1102 n first last).wp X Tryd.prog (retQ A) h) : FWK X Tryd.prog .normal 71 #[.int .i64 n, .int .i64 first, .int .i64 last] h A := fwk_neat (t1102 n first last) (by simp) (by kernel_rfl) (by kernel_rfl) hX hw
noncomputable def n1103 (s_0 : Int) (s_1 : Int) : T := .call false 36 #[.int .i64 s_0] fun v => .unB v fun b => bif !b then .leaf (.ret (.bool true)) else .call false 36 #[.int .i64 s_1] fun v => .unB v fun b => bif !b then .leaf (.ret (.bool true)) else .leaf (.ret (.bool (decide (s_0 > s_1))))
theorem t1103 (s_0 : Int) (s_1 : Int) : ftree ({ P := Tryd.prog, priv := [1], loops := [], joins := [] }) Tryd.f72 [.agg #[.int .i64 s_0, .int .i64 s_1]] = n1103 s_0 s_1 := by kernel_rfl
theorem w1103 (s_0 : Int) (s_1 : Int) {X : XP} (hX : XOK X) {h : LH} {A : Value → LH → Prop} (hw : (n1103 s_0 s_1).wp X Tryd.prog (retQ A) h) : FWK X Tryd.prog .normal 72 #[.agg #[.int .i64 s_0, .int .i64 s_1]] h A := fwk_neat (t1103 s_0 s_1) (by simp) (by kernel_rfl) (by kernel_rfl) hX hw
noncomputable def n1104 (c_0p : Option Addr) (c_0n c_0c : Nat) (c_1p : Option Addr) (c_1n c_1c : Nat) (day : Int) : T := .new 81 #[.slice c_0p c_0n c_0c, .slice c_1p c_1n c_1c] fun r => .new 3 #[.int .i64 day] fun r_1 => .leaf (.ret (.func (Fn.func 108) #[] #[.pointer (some { block := r_1, off := 0 }), .pointer (some { block := r, off := 0 })]))
theorem t1104 (c_0p : Option Addr) (c_0n c_0c : Nat) (c_1p : Option Addr) (c_1n c_1c : Nat) (day : Int) : ftree ({ P := Tryd.prog, priv := [], loops := [], joins := [] }) Tryd.f74 [.agg #[.slice c_0p c_0n c_0c, .slice c_1p c_1n c_1c], .int .i64 day] = n1104 c_0p c_0n c_0c c_1p c_1n c_1c day := by kernel_rfl
theorem w1104 (c_0p : Option Addr) (c_0n c_0c : Nat) (c_1p : Option Addr) (c_1n c_1c : Nat) (day : Int) {X : XP} (hX : XOK X) {h : LH} {A : Value → LH → Prop} (hw : (n1104 c_0p c_0n c_0c c_1p c_1n c_1c day).wp X Tryd.prog (retQ A) h) : FWK X Tryd.prog .normal 74 #[.agg #[.slice c_0p c_0n c_0c, .slice c_1p c_1n c_1c], .int .i64 day] h A := fwk_neat (t1104 c_0p c_0n c_0c c_1p c_1n c_1c day) (by simp) (by kernel_rfl) (by kernel_rfl) hX hw
noncomputable def n1105 (day : Int) : T := .loop [.int .i64 2000] (fun vs => .popI .i64 vs fun n vs => .unNil vs (bif decide (n < 2099) then .call false 111 #[.int .i64 (IntKind.wrap .i64 (n + 1))] fun v => .unI .i64 v fun n_1 => bif decide (n_1 ≤ day) then .leaf (.again [.int .i64 (IntKind.wrap .i64 (n + 1))]) else .leaf (.brk [.int .i64 n]) else .leaf (.brk [.int .i64 n]))) (fun vs => .popI .i64 vs fun n vs => .unNil vs (.call false 111 #[.int .i64 n] fun v => .unI .i64 v fun n_1 => .loop [.int .i64 (IntKind.wrap .i64 (day - n_1)), .int .i64 1] (fun vs => .popI .i64 vs fun n_2 vs => .popI .i64 vs fun n_3 vs => .unNil vs (.call false 77 #[.int .i64 n, .int .i64 n_3] fun v => .unI .i64 v fun n_4 => bif decide (n_2 ≥ n_4) then .call false 77 #[.int .i64 n, .int .i64 n_3] fun v => .unI .i64 v fun n => .leaf (.again [.int .i64 (IntKind.wrap .i64 (n_2 - n)), .int .i64 (IntKind.wrap .i64 (n_3 + 1))]) else .leaf (.brk [.int .i64 n_2, .int .i64 n_3]))) (fun vs => .popI .i64 vs fun n_2 vs => .popI .i64 vs fun n_3 vs => .unNil vs (.leaf (.ret (.tuple #[.int .i64 n, .int .i64 n_3, .int .i64 (IntKind.wrap .i64 (n_2 + 1))])))) (fun vs => .popI .i64 vs fun n_2 vs => .popI .i64 vs fun n_3 vs => .unNil vs (.leaf (.ret (.tuple #[.int .i64 n, .int .i64 n_3, .int .i64 0])))) fun x x_1 => .fail)) (fun vs => .popI .i64 vs fun n vs => .unNil vs (.leaf (.ret (.tuple #[.int .i64 n, .int .i64 0, .int .i64 0])))) fun x x_1 => .fail
theorem t1105 (day : Int) : ftree ({ P := Tryd.prog, priv := [], loops := [{ id := 0, slots := [(2, .int .i64)], ro := [], outs := [] }, { id := 2, slots := [(0, .int .i64), (3, .int .i64)], ro := [], outs := [] }], joins := [] }) Tryd.f75 [.int .i64 day] = n1105 day := by kernel_rfl
theorem w1105 (day : Int) {X : XP} (hX : XOK X) {h : LH} {A : Value → LH → Prop} (hw : (n1105 day).wp X Tryd.prog (retQ A) h) : FWK X Tryd.prog .normal 75 #[.int .i64 day] h A := fwk_neat (t1105 day) (by simp) (by kernel_rfl) (by kernel_rfl) hX hw
noncomputable def n1106 (year : Int) (month : Int) (date : Int) : T := .call false 111 #[.int .i64 year] fun v => .unI .i64 v fun n => .loop [.int .i64 n, .int .i64 1] (fun vs => .popI .i64 vs fun n vs => .popI .i64 vs fun n_1 vs => .unNil vs (bif decide (n_1 < month) then .call false 77 #[.int .i64 year, .int .i64 n_1] fun v => .unI .i64 v fun n_2 => .leaf (.again [.int .i64 (IntKind.wrap .i64 (n + n_2)), .int .i64 (IntKind.wrap .i64 (n_1 + 1))]) else .leaf (.brk [.int .i64 n, .int .i64 n_1]))) (fun vs => .popI .i64 vs fun n vs => .popI .i64 vs fun n_1 vs => .unNil vs (.leaf (.ret (.int .i64 (IntKind.wrap .i64 (IntKind.wrap .i64 (n + date) - 1)))))) (fun vs => .popI .i64 vs fun n vs => .popI .i64 vs fun n vs => .unNil vs (.leaf (.ret (.int .i64 0)))) fun x x_1 => .fail
theorem t1106 (year : Int) (month : Int) (date : Int) : ftree ({ P := Tryd.prog, priv := [], loops := [{ id := 0, slots := [(7, .int .i64), (8, .int .i64)], ro := [], outs := [] }], joins := [] }) Tryd.f76 [.int .i64 year, .int .i64 month, .int .i64 date] = n1106 year month date := by kernel_rfl
theorem w1106 (year : Int) (month : Int) (date : Int) {X : XP} (hX : XOK X) {h : LH} {A : Value → LH → Prop} (hw : (n1106 year month date).wp X Tryd.prog (retQ A) h) : FWK X Tryd.prog .normal 76 #[.int .i64 year, .int .i64 month, .int .i64 date] h A := fwk_neat (t1106 year month date) (by simp) (by kernel_rfl) (by kernel_rfl) hX hw
noncomputable def n1107 (year : Int) (month : Int) : T := bif month == 2 then .need ((4 : Int) ≠ 0) (bif Int.tmod year 4 == 0 then .leaf (.ret (.int .i64 29)) else .need (0 ≤ IntKind.wrap .i64 (month - 1) ∧ IntKind.wrap .i64 (month - 1) < (↑12 : Int)) (.loadI .i64 (Addr.add { block := 0, off := 0 } (Int.toNat (IntKind.wrap .i64 (month - 1)) * 1)) fun n => .leaf (.ret (.int .i64 n)))) else .need (0 ≤ IntKind.wrap .i64 (month - 1) ∧ IntKind.wrap .i64 (month - 1) < (↑12 : Int)) (.loadI .i64 (Addr.add { block := 0, off := 0 } (Int.toNat (IntKind.wrap .i64 (month - 1)) * 1)) fun n => .leaf (.ret (.int .i64 n)))
theorem t1107 (year : Int) (month : Int) : ftree ({ P := Tryd.prog, priv := [], loops := [], joins := [] }) Tryd.f77 [.int .i64 year, .int .i64 month] = n1107 year month := by kernel_rfl
theorem w1107 (year : Int) (month : Int) {X : XP} (hX : XOK X) {h : LH} {A : Value → LH → Prop} (hw : (n1107 year month).wp X Tryd.prog (retQ A) h) : FWK X Tryd.prog .normal 77 #[.int .i64 year, .int .i64 month] h A := fwk_neat (t1107 year month) (by simp) (by kernel_rfl) (by kernel_rfl) hX hw
noncomputable def n1116 (yield : Value) (z0 : Addr) (z1 : Addr) : T := .loop [] (fun vs => .unNil vs (.loadI .i64 z0 fun n => .call false 36 #[.int .i64 n] fun v => .unB v fun b => bif b then .loadS (Addr.add (Addr.add z1 0) 0) fun p n c => .loadI .i64 z0 fun n_1 => .need ((7 : Int) ≠ 0) (.call false 109 #[.slice p n c, .int .i64 (Int.tmod (IntKind.wrap .i64 (n_1 + 5)) 7)] fun v => .unB v fun b => bif b then .loadI .i64 z0 fun n => .store (Addr.add z0 0) (.int .i64 (IntKind.wrap .i64 (n + 1))) (.leaf (.again [])) else .loadS (Addr.add (Addr.add z1 0) 1) fun p n c => .call false 73 #[.slice p n c, .func (Fn.func 110) #[] #[.pointer (some z0)]] fun v => .unB v fun b => bif !b then .loadI .i64 z0 fun n => .callv false yield #[.int .i64 n] fun v => .unB v fun b => bif !b then .leaf (.retn []) else .loadI .i64 z0 fun n => .store (Addr.add z0 0) (.int .i64 (IntKind.wrap .i64 (n + 1))) (.leaf (.again [])) else .loadI .i64 z0 fun n => .store (Addr.add z0 0) (.int .i64 (IntKind.wrap .i64 (n + 1))) (.leaf (.again []))) else .leaf (.brk []))) (fun vs => .unNil vs (.leaf (.ret (.tuple #[])))) (fun vs => .unNil vs (.leaf (.ret (.tuple #[])))) fun x x_1 => .fail
theorem t1116 (yield : Value) (z0 : Addr) (z1 : Addr) : ftree ({ P := Tryd.prog, priv := [], loops := [{ id := 0, slots := [], ro := [], outs := [] }], joins := [] }) Tryd.f108 [yield, .pointer (some z0), .pointer (some z1)] = n1116 yield z0 z1 := by kernel_rfl
theorem w1116 (yield : Value) (z0 : Addr) (z1 : Addr) {X : XP} (hX : XOK X) {h : LH} {A : Value → LH → Prop} (hw : (n1116 yield z0 z1).wp X Tryd.prog (retQ A) h) : FWK X Tryd.prog .normal 108 #[yield, .pointer (some z0), .pointer (some z1)] h A := fwk_neat (t1116 yield z0 z1) (by simp) (by kernel_rfl) (by kernel_rfl) hX hw
noncomputable def n1117 (s_0 : Int) (s_1 : Int) (z0 : Addr) : T := .loadI .i64 z0 fun n => .call false 71 #[.int .i64 n, .int .i64 s_0, .int .i64 s_1] fun v => .unB v fun b => .leaf (.ret (.bool b))
theorem t1117 (s_0 : Int) (s_1 : Int) (z0 : Addr) : ftree ({ P := Tryd.prog, priv := [2], loops := [], joins := [] }) Tryd.f110 [.agg #[.int .i64 s_0, .int .i64 s_1], .pointer (some z0)] = n1117 s_0 s_1 z0 := by kernel_rfl
theorem w1117 (s_0 : Int) (s_1 : Int) (z0 : Addr) {X : XP} (hX : XOK X) {h : LH} {A : Value → LH → Prop} (hw : (n1117 s_0 s_1 z0).wp X Tryd.prog (retQ A) h) : FWK X Tryd.prog .normal 110 #[.agg #[.int .i64 s_0, .int .i64 s_1], .pointer (some z0)] h A := fwk_neat (t1117 s_0 s_1 z0) (by simp) (by kernel_rfl) (by kernel_rfl) hX hw
noncomputable def n1118 (year : Int) : T := .need ((4 : Int) ≠ 0) (.need ((4 : Int) ≠ 0) (.need ((4 : Int) ≠ 0) (.leaf (.ret (.int .i64 (IntKind.wrap .i64 (IntKind.wrap .i64 (IntKind.wrap .i64 (IntKind.wrap .i64 (Int.tdiv (IntKind.wrap .i64 (year - 2000)) 4) * 1461) + IntKind.wrap .i64 (Int.tmod (IntKind.wrap .i64 (year - 2000)) 4 * 365)) + if Int.tmod (IntKind.wrap .i64 (year - 2000)) 4 < 1 then Int.tmod (IntKind.wrap .i64 (year - 2000)) 4 else 1)))))))
theorem t1118 (year : Int) : ftree ({ P := Tryd.prog, priv := [], loops := [], joins := [] }) Tryd.f111 [.int .i64 year] = n1118 year := by kernel_rfl
theorem w1118 (year : Int) {X : XP} (hX : XOK X) {h : LH} {A : Value → LH → Prop} (hw : (n1118 year).wp X Tryd.prog (retQ A) h) : FWK X Tryd.prog .normal 111 #[.int .i64 year] h A := fwk_neat (t1118 year) (by simp) (by kernel_rfl) (by kernel_rfl) hX hw
end Go.Proofs.YtldamlcehbdkdaaDoor
end
section
namespace Go.Proofs.YtldamlcehbdkdaaDoor
open Go Go.TM Go.Proofs
attribute [local irreducible] T.wp CV FWK
theorem c1102 {h : LH} (n a b : Int) : Pu Tryd.prog 71 #[.int .i64 n, .int .i64 a, .int .i64 b] h (.bool (isIn n a b)) := by
  refine w1102 _ _ _ X0_ok ?_
  unfold n1102
  refine t_if (fun e => ?_) (fun e => ?_) <;> refine t_ret ⟨?_, rfl⟩ <;> simp [isIn, e]
theorem c1077 {h : LH} (n : Int) : Pu Tryd.prog 36 #[.int .i64 n] h (.bool (isIn n 0 36524)) := by
  refine w1077 _ X0_ok ?_
  unfold n1077
  refine t_pu (c1102 _ _ _) ?_
  refine gZ ?_
  exact t_ret ⟨rfl, rfl⟩
theorem c1076 {h : LH} (b : Bool) (n : Int) : Pu Tryd.prog 35 #[.bool b, .int .i64 n] h (.int .i64 (if b then n else 0)) := by
  refine w1076 _ _ X0_ok ?_
  unfold n1076
  refine t_cond (fun e => ?_) (fun e => ?_) <;> refine t_ret ⟨?_, rfl⟩ <;> simp [e]
def firstNZ : List Int → Int
  | [] => 0
  | x :: l => if x ≠ 0 then x else firstNZ l
theorem c1074 {h : LH} {p : Option Addr} {n c : Nat} {l : List Int} (hl : Sl IntE 1 h.get p n l) : Pu Tryd.prog 33 #[.slice p n c] h (.int .i64 (firstNZ l)) := by
  refine w1074 _ _ _ X0_ok ?_
  unfold n1074
  have hn := hl.1
  have hb := hl.2.1
  refine t_loop (fun mm vs h' => h = h' ∧ ∃ i : Nat, vs = [.int .i64 0, .int .i64 i] ∧ i ≤ n ∧ mm = n - i ∧ firstNZ l = firstNZ (l.drop i)) ⟨rfl, 0, rfl, Nat.zero_le _, rfl, rfl⟩ ?_
  rintro Y mm vs _ hY ⟨rfl, i, rfl, hi, rfl, hc⟩
  refine gZ ?_
  refine t_if (fun e1 => ?_) (fun e1 => ?_)
  · obtain ⟨x, a, hx, ha, e2⟩ := hl.at (i := i) (by omega)
    unfold IntE at e2
    rw [drop_of hx, firstNZ] at hc
    refine gZ ?_
    refine t_cond (fun b1 => ?_) (fun b1 => ?_)
    · have hx0 : x ≠ 0 := by simpa using b1
      rw [if_pos hx0] at hc
      refine gZ ?_
      exact t_ret ⟨by rw [hc], rfl⟩
    · have hx0 : x = 0 := by simpa using b1
      rw [if_neg (by simp [hx0])] at hc
      refine t_again (hY (n - (i + 1)) _ _ (by omega) ⟨rfl, i + 1, ?_, by omega, rfl, hc⟩)
      rw [wrap_id (by omega) (by omega)]; rfl
  · refine gZ ?_
    rw [List.drop_eq_nil_of_le (by omega)] at hc
    exact t_ret ⟨by rw [hc]; rfl, rfl⟩
end Go.Proofs.YtldamlcehbdkdaaDoor
end
section
namespace Go.Proofs.YtldamlcehbdkdaaDoor
open Go Go.TM Go.Proofs
attribute [local irreducible] T.wp CV FWK
def beforeY (year : Int) : Int := (year - 2000) / 4 * 1461 + (year - 2000) % 4 * 365 + (if (year - 2000) % 4 < 1 then (year - 2000) % 4 else 1)
theorem c1118 {h : LH} {year : Int} (hy : 2000 ≤ year ∧ year ≤ 2200) : Pu Tryd.prog 111 #[.int .i64 year] h (.int .i64 (beforeY year)) := by
  refine w1118 _ X0_ok ?_
  unfold n1118
  refine gZ ?_
  refine t_ret ⟨?_, rfl⟩
  have h1 : IntKind.wrap .i64 (year - 2000) = year - 2000 := wrap_id (by omega) (by omega)
  have h2 : Int.tdiv (year - 2000) 4 = (year - 2000) / 4 := Int.tdiv_eq_ediv_of_nonneg (by omega)
  have h3 : Int.tmod (year - 2000) 4 = (year - 2000) % 4 := Int.tmod_eq_emod_of_nonneg (by omega)
  rw [h1, h2, h3]
  have e1 : IntKind.wrap .i64 ((year - 2000) / 4) = (year - 2000) / 4 := wrap_id (by omega) (by omega)
  rw [e1]
  have e2 : IntKind.wrap .i64 ((year - 2000) / 4 * 1461) = (year - 2000) / 4 * 1461 := wrap_id (by omega) (by omega)
  have e3 : IntKind.wrap .i64 ((year - 2000) % 4 * 365) = (year - 2000) % 4 * 365 := wrap_id (by omega) (by omega)
  rw [e2, e3]
  have e4 : IntKind.wrap .i64 ((year - 2000) / 4 * 1461 + (year - 2000) % 4 * 365) = (year - 2000) / 4 * 1461 + (year - 2000) % 4 * 365 := wrap_id (by omega) (by omega)
  rw [e4]
  rw [wrap_id (by split <;> omega) (by split <;> omega)]
  rfl
end Go.Proofs.YtldamlcehbdkdaaDoor
end
section
namespace Go.Proofs.YtldamlcehbdkdaaDoor
open Go Go.TM Go.Proofs
attribute [local irreducible] T.wp CV FWK
def Lens (h : Cells) : Prop := ∀ j : Nat, j < 12 → h.cell? ⟨0, j, none⟩ = some (.int .i64 (Te.lens.getD j 0))
theorem Lens.le {h h' : Cells} (hl : h.le h') (l : Lens h) : Lens h' := fun j hj => Cells.cell?_le hl (l j hj)
theorem c1107 {h : LH} (hl : Lens h.get) {y m : Int} (hy : 0 ≤ y) (hm : 1 ≤ m ∧ m ≤ 12) : Pu Tryd.prog 77 #[.int .i64 y, .int .i64 m] h (.int .i64 (Te.lengthT y m)) := by
  refine w1107 _ _ X0_ok ?_
  unfold n1107
  have e0 : IntKind.wrap .i64 (m - 1) = m - 1 := wrap_id (by omega) (by omega)
  have e1 : h.get.cell? (Addr.add ⟨0, 0, none⟩ (Int.toNat (m - 1) * 1)) = some (.int .i64 (Te.lens.getD (m - 1).toNat 0)) := by
    rw [add_plain, Nat.zero_add, Nat.mul_one]
    exact hl _ (by omega)
  have e2 : Int.tmod y 4 = y % 4 := Int.tmod_eq_emod_of_nonneg hy
  rw [e0, e2]
  have hm' : 0 ≤ m - 1 ∧ m - 1 < ((12 : Nat) : Int) := by omega
  refine t_cond (fun b => ?_) (fun b => ?_)
  · have b' : m = 2 := by simpa using b
    refine gZ ?_
    refine t_cond (fun c => ?_) (fun c => ?_)
    · have c' : y % 4 = 0 := by simpa using c
      refine t_ret ⟨?_, rfl⟩
      rw [Te.lengthT, if_pos ⟨b', c'⟩]
    · have c' : ¬ y % 4 = 0 := by simpa using c
      refine gZ ?_
      refine t_ret ⟨?_, rfl⟩
      rw [Te.lengthT, if_neg (fun hh => c' hh.2)]
  · have b' : ¬ m = 2 := by simpa using b
    refine gZ ?_
    refine t_ret ⟨?_, rfl⟩
    rw [Te.lengthT, if_neg (fun hh => b' hh.1)]
theorem before_same (y : Int) : beforeY y = Te.beforeT y := rfl
theorem sum_range {y : Int} : ∀ m : Nat, m ≤ 12 → 0 ≤ Te.sumT y m ∧ Te.sumT y m ≤ 31 * m
  | 0, _ => by simp [Te.sumT]
  | 1, _ => by simp [Te.sumT]
  | m + 2, h => by
    have ih := sum_range (y := y) (m + 1) (by omega)
    have := Te.length_range (y := y) (m := ((m + 1 : Nat) : Int)) (by omega)
    rw [Te.sumT]
    omega
theorem c1105 {h : LH} (hl : Lens h.get) {s : Int} (hs : 0 ≤ s ∧ s ≤ 36524) : FW X0 Tryd.prog 75 #[.int .i64 s] h fun r h' => h = h' ∧ ∃ y m d, r = .tuple #[.int .i64 y, .int .i64 m, .int .i64 d] ∧ Te.PartsOf s y m d := by
  refine w1105 _ X0_ok ?_
  unfold n1105
  have y0 := Te.year_first
  have y9 := Te.year_last
  refine t_loopB (fun mm vs h' => h = h' ∧ ∃ y : Int, vs = [.int .i64 y] ∧ 2000 ≤ y ∧ y ≤ 2099 ∧ mm = (2099 - y).toNat ∧ Te.beforeT y ≤ s)
    (fun vs h' => h = h' ∧ ∃ y : Int, vs = [.int .i64 y] ∧ 2000 ≤ y ∧ y ≤ 2099 ∧ Te.beforeT y ≤ s ∧ s < Te.beforeT (y + 1)) ⟨rfl, 2000, rfl, by omega, by omega, rfl, by omega⟩ ?_ ?_
  · rintro Y mm vs _ hY ⟨rfl, y, rfl, h1, h2, rfl, h3⟩
    refine gZ ?_
    refine t_if (fun e1 => ?_) (fun e1 => ?_)
    · have ew : IntKind.wrap .i64 (y + 1) = y + 1 := wrap_id (by omega) (by omega)
      rw [ew]
      refine t_pu (c1118 (by omega)) ?_
      rw [before_same]
      refine gZ ?_
      refine t_if (fun e2 => ?_) (fun e2 => ?_)
      · exact t_again (hY (2099 - (y + 1)).toNat _ _ (by omega) ⟨rfl, y + 1, rfl, by omega, by omega, rfl, e2⟩)
      · exact gH ⟨rfl, y, rfl, h1, h2, h3, by omega⟩
    · have : y = 2099 := by omega
      subst this
      exact gH ⟨rfl, 2099, rfl, by omega, by omega, h3, by rw [show (2099 : Int) + 1 = 2100 by rfl]; omega⟩
  · rintro vs _ ⟨rfl, y, rfl, h1, h2, h3, h4⟩
    refine gZ ?_
    refine t_pu (c1118 (by omega)) ?_
    rw [before_same]
    refine gZ ?_
    have hb0 : 0 ≤ Te.beforeT y := by unfold Te.beforeT; split <;> omega
    have hyr := Te.year_here h4
    rw [wrap_id (n := s - Te.beforeT y) (by omega) (by omega)]
    refine t_loop (fun mm vs h' => h = h' ∧ ∃ r m : Int, vs = [.int .i64 r, .int .i64 m] ∧ 1 ≤ m ∧ m ≤ 12 ∧ mm = (12 - m).toNat ∧ 0 ≤ r ∧ s = Te.beforeT y + Te.sumT y m.toNat + r) ⟨rfl, s - Te.beforeT y, 1, rfl, by omega, by omega, rfl, by omega, by show s = _ + 0 + _; omega⟩ ?_
    rintro Y mm vs _ hY ⟨rfl, r, m, rfl, g1, g2, rfl, g3, g4⟩
    refine gZ ?_
    refine t_pu (c1107 hl (by omega) ⟨g1, g2⟩) ?_
    refine gZ ?_
    have hlen := Te.length_range (y := y) ⟨g1, g2⟩
    refine t_if (fun e2 => ?_) (fun e2 => ?_)
    · refine t_pu (c1107 hl (by omega) ⟨g1, g2⟩) ?_
      refine gZ ?_
      have hm1 := Te.month_more (y := y) (m := m) (r := r) ⟨g1, g2⟩ (by omega) e2
      have hn := Te.sum_next (y := y) g1
      have hsr := sum_range (y := y) m.toNat (by omega)
      rw [wrap_id (n := r - Te.lengthT y m) (by omega) (by omega), wrap_id (n := m + 1) (by omega) (by omega)]
      exact t_again (hY (12 - (m + 1)).toNat _ _ (by omega) ⟨rfl, r - Te.lengthT y m, m + 1, rfl, by omega, by omega, rfl, by omega, by omega⟩)
    · refine gZ ?_
      rw [wrap_id (n := r + 1) (by omega) (by omega)]
      exact t_ret ⟨rfl, y, m, r + 1, rfl, Te.parts_of ⟨h1, h2⟩ ⟨g1, g2⟩ g4 ⟨g3, by omega⟩⟩
theorem c1106 {h : LH} (hl : Lens h.get) {y m d : Int} (hy : 2000 ≤ y ∧ y ≤ 2200) (hm : 1 ≤ m ∧ m ≤ 12) (hd : 0 ≤ d ∧ d ≤ 100) : Pu Tryd.prog 76 #[.int .i64 y, .int .i64 m, .int .i64 d] h (.int .i64 (Te.dayOfT y m d)) := by
  refine w1106 _ _ _ X0_ok ?_
  unfold n1106
  refine t_pu (c1118 hy) ?_
  rw [before_same]
  refine gZ ?_
  have hb0 : 0 ≤ Te.beforeT y ∧ Te.beforeT y ≤ 100000 := by unfold Te.beforeT; split <;> omega
  refine t_loop (fun mm vs h' => h = h' ∧ ∃ j : Int, vs = [.int .i64 (Te.beforeT y + Te.sumT y j.toNat), .int .i64 j] ∧ 1 ≤ j ∧ j ≤ m ∧ mm = (m - j).toNat) ⟨rfl, 1, by simp [Te.sumT], by omega, by omega, rfl⟩ ?_
  rintro Y mm vs _ hY ⟨rfl, j, rfl, g1, g2, rfl⟩
  have hs := sum_range (y := y) j.toNat (by omega)
  refine gZ ?_
  refine t_if (fun e1 => ?_) (fun e1 => ?_)
  · refine t_pu (c1107 hl (by omega) ⟨g1, by omega⟩) ?_
    refine gZ ?_
    have hn := Te.sum_next (y := y) g1
    have hlen := Te.length_range (y := y) (m := j) ⟨g1, by omega⟩
    rw [wrap_id (n := Te.beforeT y + Te.sumT y j.toNat + Te.lengthT y j) (by omega) (by omega), wrap_id (n := j + 1) (by omega) (by omega)]
    refine t_again (hY (m - (j + 1)).toNat _ _ (by omega) ⟨rfl, j + 1, ?_, by omega, by omega, rfl⟩)
    rw [hn, Int.add_assoc]
  · have : j = m := by omega
    subst this
    refine gZ ?_
    refine t_ret ⟨?_, rfl⟩
    rw [wrap_id (n := Te.beforeT y + Te.sumT y j.toNat + d) (by omega) (by omega), wrap_id (by omega) (by omega)]
    rfl
theorem c1080 {h : LH} (hl : Lens h.get) {s n unit : Int} (hs : 0 ≤ s ∧ s ≤ 36524) (hn : 0 ≤ n ∧ n ≤ 999) (hu : 0 ≤ unit ∧ unit ≤ 2) : FW X0 Tryd.prog 39 #[.int .i64 s, .agg #[.int .i64 n, .int .i64 unit]] h fun r h' => h = h' ∧ ∃ v, r = .int .i64 v ∧ Te.LeadsTo s unit n v := by
  refine w1080 _ _ _ X0_ok ?_
  unfold n1080
  refine t_cond (fun b => ?_) (fun b => ?_)
  · have b' : unit = 1 := by simpa using b
    rw [wrap_id (n := n * 7) (by omega) (by omega), wrap_id (n := s + n * 7) (by omega) (by omega)]
    exact t_ret ⟨rfl, _, rfl, .inr (.inl ⟨b', rfl⟩)⟩
  refine t_cond (fun c => ?_) (fun c => ?_)
  · have c' : unit = 0 := by simpa using c
    rw [wrap_id (n := s + n) (by omega) (by omega)]
    exact t_ret ⟨rfl, _, rfl, .inr (.inr ⟨c', rfl⟩)⟩
  have hunit : unit = 2 := by
    have b' : ¬ unit = 1 := by simpa using b
    have c' : ¬ unit = 0 := by simpa using c
    omega
  refine t_call (FW.top (c1105 hl hs)) ?_
  rintro _ _ ⟨rfl, y, m, d, rfl, p⟩
  have py := p.year
  have pm := p.month
  have pd := p.date
  have hlen0 := Te.length_range (y := y) pm
  refine gZ ?_
  have e1 : IntKind.wrap .i64 (n - 1) = n - 1 := wrap_id (by omega) (by omega)
  have e2 : IntKind.wrap .i64 (m + (n - 1)) = m + n - 1 := by rw [wrap_id (by omega) (by omega)]; omega
  have e3 : Int.tdiv (m + n - 1) 12 = (m + n - 1) / 12 := Int.tdiv_eq_ediv_of_nonneg (by omega)
  have e4 : Int.tmod (m + n - 1) 12 = (m + n - 1) % 12 := Int.tmod_eq_emod_of_nonneg (by omega)
  have e5 : IntKind.wrap .i64 ((m + n - 1) / 12) = (m + n - 1) / 12 := wrap_id (by omega) (by omega)
  have e6 : IntKind.wrap .i64 (y + (m + n - 1) / 12) = y + (m + n - 1) / 12 := wrap_id (by omega) (by omega)
  have e7 : IntKind.wrap .i64 ((m + n - 1) % 12 + 1) = (m + n - 1) % 12 + 1 := wrap_id (by omega) (by omega)
  simp only [e1, e2, e3, e4, e5, e6, e7]
  refine t_if (fun e8 => ?_) (fun e8 => ?_)
  · refine t_ret ⟨rfl, _, rfl, .inl ⟨hunit, y, m, d, p, ?_⟩⟩
    rw [Te.monthsT, if_pos (by omega)]
  · have hlen := Te.length_range (y := y + (m + n - 1) / 12) (m := (m + n - 1) % 12 + 1) (by omega)
    refine t_pu (c1107 hl (by omega) (by omega)) ?_
    refine gZ ?_
    have hdd : 0 ≤ (if Te.lengthT (y + (m + n - 1) / 12) ((m + n - 1) % 12 + 1) < d then Te.lengthT (y + (m + n - 1) / 12) ((m + n - 1) % 12 + 1) else d) ∧ (if Te.lengthT (y + (m + n - 1) / 12) ((m + n - 1) % 12 + 1) < d then Te.lengthT (y + (m + n - 1) / 12) ((m + n - 1) % 12 + 1) else d) ≤ 100 := by split <;> omega
    refine t_pu (c1106 hl (by omega) (by omega) hdd) ?_
    refine gZ ?_
    refine t_ret ⟨rfl, _, rfl, .inl ⟨hunit, y, m, d, p, ?_⟩⟩
    rw [Te.monthsT, if_neg (show ¬ 2099 < y + (m + n - 1) / 12 by omega)]
end Go.Proofs.YtldamlcehbdkdaaDoor
end
section
namespace Go.Proofs.YtldamlcehbdkdaaDoor
open Go Go.TM Go.Proofs Go.Proofs.YtldamlcehbdkdaaDoor.Tre Go.ChangeShapes Go.WideShapes Go.RowKit
set_option maxRecDepth 100000
theorem DT : DateTy Tryd.prog 28 22 30 where
  cal := ⟨_, Tryd.underlying30, rfl⟩
  cal2 := by kernel_rfl
def lensN : String := "touchmark/dates.lengths"
theorem gLens : Tryd.prog.globalNamed lensN = some 0 := by kernel_rfl
theorem tLens : (Tryd.prog.globals[0]?).map (·.type) = some 166 := by kernel_rfl
theorem und58 : Tryd.prog.underlying 33 = some (.slice 27) := by kernel_rfl
theorem cells57 : Tryd.prog.cellsOf 27 = 1 := by kernel_rfl
theorem bytes57 : 0 < Tryd.prog.bytesOf 27 := of_decide_eq_true (by kernel_rfl)
theorem lens_of_laid {l : List (String × DataW Unit)} {W : World} (h : laidMetH Tryd.prog l W) (hm : (lensN, Rows.laid_touchmark_dates_lengths) ∈ l) : Lens (getW W) := by
  obtain ⟨ps, hL, _⟩ := (laidMetH_iff.1 h).1
  obtain ⟨g', t', cs', fuel', p', hg', ht', hv', hd'⟩ := laid_at hL (List.mem_filter.2 ⟨hm, rfl⟩)
  obtain rfl := Option.some.inj (gLens.symm.trans hg')
  obtain rfl := Option.some.inj (tLens.symm.trans ht')
  obtain ⟨xs, m, _, hx, hl, hn, hel⟩ := DataW.trod_array Tryd.underlying166 hd'
  have e1 : Tryd.prog.cellsOf 3 = 1 := by kernel_rfl
  have hcell : ∀ j : Nat, W.cell? ⟨0, j, none⟩ = cs'[j]? := World.var?_cell gLens hv'
  have hx : (Rows.laid_touchmark_dates_lengths : DataW Unit) = .agg (xs.map (·.1)) := (Prod.mk.inj hx).1
  intro j hj
  refine getW_cell ?_
  rw [hcell]
  have hi := hel j (by omega)
  rw [e1] at hi
  cases hxj : xs[j]? with
  | none => have := List.getElem?_eq_none_iff.1 hxj; omega
  | some y =>
    rw [hxj] at hi
    obtain ⟨n, e2, e3, _⟩ := DataW.trod_int Tryd.underlying3 hi
    have hy : (xs.map (·.1))[j]? = some (.lit (.int .i64 n)) := by rw [List.getElem?_map, hxj, e3]; rfl
    have hlist : ∀ i : Nat, i < 12 → ∀ z : DataW Unit, (xs.map (·.1))[i]? = some z → z = .lit (.int .i64 (Te.lens.getD i 0)) := by
      intro i hi12 z hz
      have : (DataW.agg (xs.map (·.1)) : DataW Unit) = Rows.laid_touchmark_dates_lengths := hx.symm
      unfold Rows.laid_touchmark_dates_lengths at this
      injection this with this
      rw [this] at hz
      match i, hi12 with
      | 0, _ => cases hz; rfl
      | 1, _ => cases hz; rfl
      | 2, _ => cases hz; rfl
      | 3, _ => cases hz; rfl
      | 4, _ => cases hz; rfl
      | 5, _ => cases hz; rfl
      | 6, _ => cases hz; rfl
      | 7, _ => cases hz; rfl
      | 8, _ => cases hz; rfl
      | 9, _ => cases hz; rfl
      | 10, _ => cases hz; rfl
      | 11, _ => cases hz; rfl
    have hn' := hlist j hj _ hy
    injection hn' with hn'
    injection hn' with _ hn'
    have hc : (cs'.toList.drop (j * 1)).take 1 = [.int .i64 n] := e2
    have : cs'.toList[j]? = some (.int .i64 n) := by
      have h2 : ((cs'.toList.drop (j * 1)).take 1)[0]? = some (.int .i64 n) := by rw [hc]; rfl
      rw [List.getElem?_take, if_pos (by omega), List.getElem?_drop] at h2
      simpa using h2
    rw [← Array.getElem?_toList, this, hn']
end Go.Proofs.YtldamlcehbdkdaaDoor
end
section
namespace Go.Proofs.YtldamlcehbdkdaaDoor
open Go Go.TM Go.Proofs
attribute [local irreducible] T.wp CV FWK
def indexF (x : Int) : Nat → List Int → Int
  | _, [] => -1
  | i, y :: l => if x == y then i else indexF x (i + 1) l
theorem indexF_ge (x : Int) : ∀ (l : List Int) (i : Nat), decide (indexF x i l ≥ 0) = l.contains x := by
  intro l
  induction l with
  | nil => intro i; rfl
  | cons y l ih =>
    intro i
    rw [indexF, List.contains_cons]
    split
    · rename_i h; rw [h]; simp
    · rename_i h
      have h' : (x == y) = false := by simpa using h
      rw [ih, h', Bool.false_or]
theorem c106 {h : LH} {p : Option Addr} {n c : Nat} {l : List Int} (hl : Sl IntE 1 h.get p n l) (x : Int) : Pu Tryd.prog 125 #[.slice p n c, .int .i64 x] h (.int .i64 (indexF x 0 l)) := by
  refine w106 _ _ _ _ X0_ok ?_
  unfold n106
  have hn := hl.1
  have hb := hl.2.1
  refine t_loop (fun m vs h' => h' = h ∧ ∃ i : Nat, vs = [.int .i64 0, .int .i64 i] ∧ i ≤ n ∧ m = n - i ∧ indexF x 0 l = indexF x i (l.drop i)) ⟨rfl, 0, rfl, Nat.zero_le _, rfl, rfl⟩ ?_
  rintro Y m vs _ hY ⟨rfl, i, rfl, hi, rfl, hc⟩
  refine gZ ?_
  refine t_if (fun e1 => ?_) (fun e1 => ?_)
  · obtain ⟨y, a, hx, ha, e2⟩ := hl.at (i := i) (by omega)
    unfold IntE at e2
    refine gZ ?_
    rw [drop_of hx, indexF] at hc
    refine t_cond (fun e3 => ?_) (fun e3 => ?_)
    · refine gZ ?_
      refine t_ret ⟨?_, rfl⟩
      rw [hc, if_pos e3]
    · refine t_again (hY (n - (i + 1)) _ _ (by omega) ⟨rfl, i + 1, ?_, by omega, rfl, ?_⟩)
      · rw [wrap_id (by omega) (by omega)]; rfl
      · rw [hc, if_neg (by simp [e3])]
  · refine gZ ?_
    refine t_ret ⟨?_, rfl⟩
    rw [hc, List.drop_eq_nil_of_le (by omega)]; rfl
theorem c100 {h : LH} {p : Option Addr} {n c : Nat} {l : List Int} (hl : Sl IntE 1 h.get p n l) (x : Int) : Pu Tryd.prog 109 #[.slice p n c, .int .i64 x] h (.bool (l.contains x)) := by
  refine w100 _ _ _ _ X0_ok ?_
  unfold n100
  refine t_pu (c106 hl x) ?_
  refine gZ ?_
  refine t_ret ⟨?_, rfl⟩
  rw [indexF_ge]
theorem c80 {h : LH} {z : Addr} {d : Int} (hz : h.get.cell? z = some (.int .i64 d)) (a b : Int) : Pu Tryd.prog 93 #[.agg #[.int .i64 a, .int .i64 b], .pointer (some z)] h (.bool (isIn d a b)) := by
  refine w80 _ _ _ X0_ok ?_
  unfold n80
  refine gZ ?_
  refine t_pu (c81 _ _ _) ?_
  refine gZ ?_
  exact t_ret ⟨rfl, rfl⟩
def placeF {α : Type} (f : α → Bool) : Nat → List α → Int
  | _, [] => -1
  | i, y :: l => if f y then i else placeF f (i + 1) l
theorem placeF_ge {α : Type} (f : α → Bool) : ∀ (l : List α) (i : Nat), decide (placeF f i l ≥ 0) = l.any f := by
  intro l
  induction l with
  | nil => intro i; rfl
  | cons y l ih =>
    intro i
    rw [placeF, List.any_cons]
    split
    · rename_i h; rw [h]; simp
    · rename_i h
      have h' : f y = false := by simpa using h
      rw [ih, h', Bool.false_or]
theorem c98 {h : LH} {p : Option Addr} {n c : Nat} {l : List Span} {fv : Value} {g : Span → Bool} (hl : Sl SpanE 2 h.get p n l) (hf : ∀ x h', h.le h' → CV X0 Tryd.prog fv #[.agg #[.int .i64 x.first, .int .i64 x.last]] h' fun r h'' => h'.le h'' ∧ r = .bool (g x)) :
    Gr Tryd.prog 107 #[.slice p n c, fv] h fun r _ => r = .int .i64 (placeF g 0 l) := by
  refine w98 _ _ _ _ X0_ok ?_
  unfold n98
  have hn := hl.1
  have hb := hl.2.1
  refine t_loop (fun m vs h' => h.le h' ∧ ∃ i : Nat, vs = [.int .i64 0, .int .i64 i] ∧ i ≤ n ∧ m = n - i ∧ placeF g 0 l = placeF g i (l.drop i)) ⟨LH.le_refl _, 0, rfl, Nat.zero_le _, rfl, rfl⟩ ?_
  rintro Y m vs h₁ hY ⟨hle, i, rfl, hi, rfl, hc⟩
  refine gZ ?_
  refine t_if (fun e1 => ?_) (fun e1 => ?_)
  · obtain ⟨x, a, hx, ha, e2, e4⟩ := (hl.le SpanE.grow hle.1).at (i := i) (by omega)
    refine gZ ?_
    refine t_callv (hf x h₁ hle) ?_
    rintro _ h₂ ⟨hle2, rfl⟩
    refine gZ ?_
    rw [drop_of hx, placeF] at hc
    refine t_cond (fun e3 => ?_) (fun e3 => ?_)
    · refine gZ ?_
      refine t_ret ⟨LH.le_trans hle hle2, ?_⟩
      rw [hc, if_pos e3]
    · refine t_again (hY (n - (i + 1)) _ _ (by omega) ⟨LH.le_trans hle hle2, i + 1, ?_, by omega, rfl, ?_⟩)
      · rw [wrap_id (by omega) (by omega)]; rfl
      · rw [hc, if_neg (by simp [e3])]
  · refine gZ ?_
    refine t_ret ⟨hle, ?_⟩
    rw [hc, List.drop_eq_nil_of_le (by omega)]; rfl
theorem c79 {h : LH} {p : Option Addr} {n c : Nat} {l : List Span} {fv : Value} {g : Span → Bool} (hl : Sl SpanE 2 h.get p n l) (hf : ∀ x h', h.le h' → CV X0 Tryd.prog fv #[.agg #[.int .i64 x.first, .int .i64 x.last]] h' fun r h'' => h'.le h'' ∧ r = .bool (g x)) :
    Gr Tryd.prog 73 #[.slice p n c, fv] h fun r _ => r = .bool (l.any g) := by
  refine w79 _ _ _ _ X0_ok ?_
  unfold n79
  refine t_gr (c98 hl hf) ?_
  rintro _ h' hle rfl
  refine gZ ?_
  refine t_ret ⟨hle, ?_⟩
  rw [placeF_ge]
def Asks (v : Value) (h : LH) (u : UseFile) (g : Int) : Prop := numbersF u = 0 → ∀ (f : FileC) h', h.le h' → FileR h'.get f u → CV X0 Tryd.prog v #[fileV f u] h' fun r h'' => h'.le h'' ∧ r = .int .i64 g
theorem Asks.le {v : Value} {h h' : LH} {u : UseFile} {g : Int} (hl : h.le h') (a : Asks v h u g) : Asks v h' u g := fun hn f h2 hl2 => a hn f h2 (LH.le_trans hl hl2)
theorem c82 {h : LH} {f : FileC} {u : UseFile} {z : Addr} {d : Int} (hz : h.get.cell? z = some (.int .i64 d)) : Pu Tryd.prog 95 #[fileV f u, .pointer (some z)] h (.int .i64 (if isDay d then 0 else 1)) := by
  refine w82 _ _ _ _ _ _ _ _ _ _ _ _ _ _ X0_ok ?_
  unfold n82
  refine gZ ?_
  refine t_pu (c84 _) ?_
  refine gZ ?_
  refine t_pu (c83 _ _) ?_
  refine gZ ?_
  refine t_ret ⟨?_, rfl⟩
  unfold isDay
  cases isIn d 0 2000 <;> rfl
theorem c85 {h : LH} {f : FileC} {u : UseFile} (hl : IsI (u.lands - 1)) {z : Addr} {d : Int} (hz : h.get.cell? z = some (.int .i64 d)) : Pu Tryd.prog 98 #[fileV f u, .pointer (some z)] h (.int .i64 (if isIn d 0 (u.lands - 1) then 0 else 6)) := by
  refine w85 _ _ _ _ _ _ _ _ _ _ _ _ _ _ X0_ok ?_
  unfold n85
  refine gZ ?_
  refine t_pu (c86 (f := f) hl _) ?_
  refine gZ ?_
  refine t_pu (c83 _ _) ?_
  refine gZ ?_
  refine t_ret ⟨?_, rfl⟩
  cases isIn d 0 (u.lands - 1) <;> rfl
theorem c87 {h : LH} {f : FileC} {u : UseFile} (hl : IsI (u.items - 1)) {z : Addr} {d : Int} (hz : h.get.cell? z = some (.int .i64 d)) : Pu Tryd.prog 100 #[fileV f u, .pointer (some z)] h (.int .i64 (if isIn d 0 (u.items - 1) then 0 else 6)) := by
  refine w87 _ _ _ _ _ _ _ _ _ _ _ _ _ _ X0_ok ?_
  unfold n87
  refine gZ ?_
  rw [wrap_id hl.1 hl.2]
  refine t_pu (c81 _ _ _) ?_
  refine gZ ?_
  refine t_pu (c83 _ _) ?_
  refine gZ ?_
  refine t_ret ⟨?_, rfl⟩
  cases isIn d 0 (u.items - 1) <;> rfl
def dayQ (d : Int) : Int := if isDay d then 0 else 1
def landQ (u : UseFile) (d : Int) : Int := if isIn d 0 (u.lands - 1) then 0 else 6
def itemQ (u : UseFile) (d : Int) : Int := if isIn d 0 (u.items - 1) then 0 else 6
theorem c54 {h : LH} (u : UseFile) (d : Int) : Gr Tryd.prog 60 #[.int .i64 d] h fun r h' => (∃ fn a b, r = Value.func fn a b) ∧ Asks r h' u (dayQ d) := by
  refine w54 _ X0_ok ?_
  unfold n54
  refine t_new fun r hr => ?_
  have hz : Cells.cell? (h.get.upd r (true, .cells #[.int .i64 d] 3 (0, 0))) ⟨r, 0, none⟩ = some (.int .i64 d) := cell_upd rfl
  refine t_ret ⟨LH.upd_le hr, ⟨_, _, _, rfl⟩, fun hn f h' hle _ => ?_⟩
  exact cv_fw X0_ok (by rfl) (pu_gr (c82 (Cells.cell?_le hle.1 hz)))
theorem c58 {h : LH} (u : UseFile) (d : Int) : Gr Tryd.prog 62 #[.int .i64 d] h fun r h' => (∃ fn a b, r = Value.func fn a b) ∧ Asks r h' u (landQ u d) := by
  refine w58 _ X0_ok ?_
  unfold n58
  refine t_new fun r hr => ?_
  have hz : Cells.cell? (h.get.upd r (true, .cells #[.int .i64 d] 3 (0, 0))) ⟨r, 0, none⟩ = some (.int .i64 d) := cell_upd rfl
  refine t_ret ⟨LH.upd_le hr, ⟨_, _, _, rfl⟩, fun hn f h' hle _ => ?_⟩
  exact cv_fw X0_ok (by rfl) (pu_gr (c85 (num_lands hn) (Cells.cell?_le hle.1 hz)))
theorem c59 {h : LH} (u : UseFile) (d : Int) : Gr Tryd.prog 63 #[.int .i64 d] h fun r h' => (∃ fn a b, r = Value.func fn a b) ∧ Asks r h' u (itemQ u d) := by
  refine w59 _ X0_ok ?_
  unfold n59
  refine t_new fun r hr => ?_
  have hz : Cells.cell? (h.get.upd r (true, .cells #[.int .i64 d] 3 (0, 0))) ⟨r, 0, none⟩ = some (.int .i64 d) := cell_upd rfl
  refine t_ret ⟨LH.upd_le hr, ⟨_, _, _, rfl⟩, fun hn f h' hle _ => ?_⟩
  exact cv_fw X0_ok (by rfl) (pu_gr (c87 (num_items hn) (Cells.cell?_le hle.1 hz)))
end Go.Proofs.YtldamlcehbdkdaaDoor
end
section
namespace Go.Proofs.YtldamlcehbdkdaaDoor
open Go Go.TM Go.Proofs
attribute [local irreducible] T.wp CV FWK
theorem p98 {h : LH} {p : Option Addr} {n c : Nat} {l : List Span} {fv : Value} {g : Span → Bool} (hl : Sl SpanE 2 h.get p n l) (hf : ∀ x : Span, CV X0 Tryd.prog fv #[.agg #[.int .i64 x.first, .int .i64 x.last]] h fun r h' => r = .bool (g x) ∧ h' = h) :
    Pu Tryd.prog 107 #[.slice p n c, fv] h (.int .i64 (placeF g 0 l)) := by
  refine w98 _ _ _ _ X0_ok ?_
  unfold n98
  have hn := hl.1
  have hb := hl.2.1
  refine t_loop (fun m vs h' => h' = h ∧ ∃ i : Nat, vs = [.int .i64 0, .int .i64 i] ∧ i ≤ n ∧ m = n - i ∧ placeF g 0 l = placeF g i (l.drop i)) ⟨rfl, 0, rfl, Nat.zero_le _, rfl, rfl⟩ ?_
  rintro Y m vs _ hY ⟨rfl, i, rfl, hi, rfl, hc⟩
  refine gZ ?_
  refine t_if (fun e1 => ?_) (fun e1 => ?_)
  · obtain ⟨x, a, hx, ha, e2, e4⟩ := hl.at (i := i) (by omega)
    refine gZ ?_
    refine t_callv (hf x) ?_
    rintro _ _ ⟨rfl, rfl⟩
    refine gZ ?_
    rw [drop_of hx, placeF] at hc
    refine t_cond (fun e3 => ?_) (fun e3 => ?_)
    · refine gZ ?_
      refine t_ret ⟨?_, rfl⟩
      rw [hc, if_pos e3]
    · refine t_again (hY (n - (i + 1)) _ _ (by omega) ⟨rfl, i + 1, ?_, by omega, rfl, ?_⟩)
      · rw [wrap_id (by omega) (by omega)]; rfl
      · rw [hc, if_neg (by simp [e3])]
  · refine gZ ?_
    refine t_ret ⟨?_, rfl⟩
    rw [hc, List.drop_eq_nil_of_le (by omega)]; rfl
theorem p79 {h : LH} {p : Option Addr} {n c : Nat} {l : List Span} {fv : Value} {g : Span → Bool} (hl : Sl SpanE 2 h.get p n l) (hf : ∀ x : Span, CV X0 Tryd.prog fv #[.agg #[.int .i64 x.first, .int .i64 x.last]] h fun r h' => r = .bool (g x) ∧ h' = h) :
    Pu Tryd.prog 73 #[.slice p n c, fv] h (.bool (l.any g)) := by
  refine w79 _ _ _ _ X0_ok ?_
  unfold n79
  refine t_pu (p98 hl hf) ?_
  refine gZ ?_
  refine t_ret ⟨?_, rfl⟩
  rw [placeF_ge]
theorem c1117 {h : LH} {z : Addr} {day : Int} (hz : h.get.cell? z = some (.int .i64 day)) (a b : Int) : Pu Tryd.prog 110 #[.agg #[.int .i64 a, .int .i64 b], .pointer (some z)] h (.bool (isIn day a b)) := by
  refine w1117 _ _ _ X0_ok ?_
  unfold n1117
  refine gZ ?_
  refine t_pu (c1102 _ _ _) ?_
  refine gZ ?_
  exact t_ret ⟨rfl, rfl⟩
def boxC (z : Nat) (el : TypeId) (v : Value) : Cells := oneC z (.cells #[v] el (0, 0))
theorem box_cell {h : LH} {z : Nat} {el : TypeId} {v : Value} (hz : h.get z = none) : (h.add (boxC z el v)).get.cell? ⟨z, 0, none⟩ = some v := by
  have : (h.add (boxC z el v)).get z = some (true, .cells #[v] el (0, 0)) := add_oneC_get hz
  unfold Cells.cell?
  simp only [this]
  rfl
theorem box_own {h : LH} {z : Nat} {el : TypeId} {v : Value} (hz : h.get z = none) : (h.add (boxC z el v)).get z = some (true, .cells #[v] el (0, 0)) := add_oneC_get hz
theorem box_store {h : LH} {z : Nat} {el : TypeId} {v w : Value} (hz : h.get z = none) : { h.add (boxC z el v) with get := (h.add (boxC z el v)).get.setCell ⟨z, 0, none⟩ w } = h.add (boxC z el w) := by
  have hg : (h.add (boxC z el v)).get.setCell ⟨z, 0, none⟩ w = (h.add (boxC z el w)).get := by
    funext r
    unfold Cells.setCell
    by_cases e : r = z
    · subst e
      rw [box_own hz, if_pos rfl, box_own hz]
      rfl
    · rw [if_neg e]
      show h.get.add (boxC z el v) r = h.get.add (boxC z el w) r
      unfold Cells.add boxC oneC
      simp only [if_neg e]
  show (⟨(h.add (boxC z el v)).get.setCell ⟨z, 0, none⟩ w, _, _, _⟩ : LH) = _
  rw [hg]
  rfl
theorem LH.le_add (h : LH) (k : Cells) : h.le (h.add k) := ⟨fun _ _ hx => Cells.add_left hx, rfl, rfl, rfl⟩
theorem t_storeBox {X : XP} {P : Program} {Q : Leaf → LH → Prop} {h : LH} {k : T} {z : Nat} {el : TypeId} {v w : Value} (hz : h.get z = none) (h1 : isOne w = true) (hk : k.wp X P Q (h.add (boxC z el w))) : (T.store (Addr.add ⟨z, 0, none⟩ 0) w k).wp X P Q (h.add (boxC z el v)) := by
  have e : Addr.add ⟨z, 0, none⟩ 0 = ⟨z, 0, none⟩ := by rw [add_plain]
  rw [e]
  refine t_store h1 ⟨_, box_own hz⟩ (box_cell hz) (by simp [Cells.frozen?, box_own hz]) ?_
  rw [box_store hz]
  exact hk
def NextDay (c : Te.Cal) (s : Int) (xs : List Value) (s' : Int) : Prop := ∃ d, s ≤ d ∧ d ≤ 36524 ∧ (∀ e, s ≤ e → e < d → Te.openB c e = false) ∧ Te.openB c d = true ∧ xs = [.int .i64 d] ∧ s' = d + 1
def NoDay (c : Te.Cal) (s : Int) : Prop := ∀ e, s ≤ e → e ≤ 36524 → Te.openB c e = false
theorem open_is (c : CalD) (d : Int) : Te.openB c.cal d = !(c.closed.contains ((d + 5) % 7) || c.closures.any fun s => isIn d s.first s.last) := by
  unfold Te.openB CalD.cal isIn
  simp only [List.any_map]
  rfl
theorem hands1116 {h₀ : LH} {zc zd : Nat} {el : TypeId} {f : CalC} {c : CalD} (hc0 : h₀.get.cell? (Addr.add (Addr.add ⟨zc, 0, none⟩ 0) 0) = some (.slice f.p0 f.n0 f.c0)) (hc1 : h₀.get.cell? (Addr.add (Addr.add ⟨zc, 0, none⟩ 0) 1) = some (.slice f.p1 f.n1 f.c1)) (hr : CalR h₀.get f c) {day : Int} (hd : 0 ≤ day ∧ day ≤ 36524) :
    HandsF X0 Tryd.prog (.func (.func 108) #[] #[.pointer (some ⟨zd, 0, none⟩), .pointer (some ⟨zc, 0, none⟩)]) h₀ (boxC zd el (.int .i64 day)) (NextDay c.cal) (NoDay c.cal) day := by
  intro y J E hJ hE hyield h hle hJ0 hdk
  refine cv_fw X0_ok (by rfl) (?_ : FW X0 Tryd.prog 108 #[y, .pointer (some ⟨zd, 0, none⟩), .pointer (some ⟨zc, 0, none⟩)] (h.add (boxC zd el (.int .i64 day))) _)
  refine w1116 _ _ _ X0_ok ?_
  unfold n1116
  refine t_loop (fun mm vs h' => vs = [] ∧ ∃ (n s : Int) (hm : LH), h' = hm.add (boxC zd el (.int .i64 n)) ∧ hm.get zd = none ∧ h₀.le hm ∧ s ≤ n ∧ 0 ≤ n ∧ n ≤ 36525 ∧ (∀ e, s ≤ e → e < n → Te.openB c.cal e = false) ∧ J s hm ∧ mm = (36525 - n).toNat)
    ⟨rfl, day, day, h, rfl, oneC_none hdk, hle, by omega, by omega, by omega, fun e h1 h2 => by omega, hJ0, rfl⟩ ?_
  rintro Y mm vs _ hY ⟨rfl, n, s, hm, rfl, hz, hle1, hsn, hn0, hn1, hcl, hJs, rfl⟩
  have lem := LH.le_add hm (boxC zd el (.int .i64 n))
  have hdm : Disj hm.get (boxC zd el (.int .i64 n)) := disj_oneC hz
  have hz0 := box_cell (el := el) (v := .int .i64 n) hz
  have b0 := Cells.cell?_le (LH.le_trans hle1 lem).1 hc0
  have b1 := Cells.cell?_le (LH.le_trans hle1 lem).1 hc1
  have hr1 := hr.le (LH.le_trans hle1 lem).1
  have ew : IntKind.wrap .i64 (n + 1) = n + 1 := wrap_id (by omega) (by omega)
  have e5 : IntKind.wrap .i64 (n + 5) = n + 5 := wrap_id (by omega) (by omega)
  have e7 : Int.tmod (n + 5) 7 = (n + 5) % 7 := Int.tmod_eq_emod_of_nonneg (by omega)
  have shut : n ≤ 36524 → Te.openB c.cal n = false → Y [] (hm.add (boxC zd el (.int .i64 (n + 1)))) := fun hn2 ho =>
    hY (36525 - (n + 1)).toNat _ _ (by omega) ⟨rfl, n + 1, s, hm, rfl, hz, hle1, by omega, by omega, by omega, fun e h1 h2 => by
      by_cases e9 : e = n
      · rw [e9]; exact ho
      · exact hcl e h1 (by omega), hJs, rfl⟩
  refine gZ ?_
  refine t_pu (c1077 n) ?_
  refine gZ ?_
  refine t_cond (fun g1 => ?_) (fun g1 => ?_)
  · have hin : n ≤ 36524 := by
      unfold isIn at g1
      simp only [Bool.and_eq_true, decide_eq_true_eq] at g1
      exact g1.2
    refine gZ ?_
    rw [e5, e7]
    refine t_pu (c100 hr1.closed _) ?_
    refine gZ ?_
    refine t_cond (fun g2 => ?_) (fun g2 => ?_)
    · refine gZ ?_
      rw [ew]
      refine t_storeBox hz rfl ?_
      exact t_again (shut hin (by rw [open_is, g2]; rfl))
    · refine gZ ?_
      refine t_pu (p79 hr1.closures (g := fun s => isIn n s.first s.last) (fun x => ?_)) ?_
      · exact CV.mono (cv_fw X0_ok (by rfl) (c1117 hz0 x.first x.last)) (by rintro v h' ⟨rfl, rfl⟩; exact ⟨rfl, rfl⟩)
      refine gZ ?_
      refine t_cond (fun g3 => ?_) (fun g3 => ?_)
      · refine gZ ?_
        have ho : Te.openB c.cal n = true := by
          rw [open_is, g2, Bool.false_or]; exact g3
        have hcv := CV.frame X0_ok (hyield s hm [.int .i64 n] (n + 1) hle1 ⟨n, hsn, hin, hcl, ho, rfl, rfl⟩ hJs) hdm
        refine t_callv hcv ?_
        rintro b h₂ ⟨h', hd', rfl, hle2, ⟨rfl, hJ2⟩ | ⟨rfl, hE2⟩⟩
        · have hz' : h'.get zd = none := oneC_none hd'
          have hz2 := box_cell (el := el) (v := .int .i64 n) hz'
          refine gZ ?_
          refine t_cond (fun e => by cases e) (fun _ => ?_)
          refine gZ ?_
          rw [ew]
          refine t_storeBox hz' rfl ?_
          exact t_again (hY (36525 - (n + 1)).toNat _ _ (by omega) ⟨rfl, n + 1, n + 1, h', rfl, hz', hle2, by omega, by omega, by omega, fun e h1 h2 => by omega, hJ2, rfl⟩)
        · refine gZ ?_
          refine t_cond (fun _ => ?_) (fun e => by cases e)
          refine gI ?_
          refine gZ ?_
          exact t_ret ⟨LH.le_trans hle2 (LH.le_add _ _), .inr (hE _ _ hE2 hd')⟩
      · refine gZ ?_
        rw [ew]
        refine t_storeBox hz rfl ?_
        refine t_again (shut hin ?_)
        rw [open_is]
        have : (c.closures.any fun s => isIn n s.first s.last) = true := by simpa using g3
        rw [this, Bool.or_true]; rfl
  · have hout : n = 36525 := by
      unfold isIn at g1
      simp only [Bool.and_eq_false_iff, decide_eq_false_iff_not] at g1
      omega
    refine gH ?_
    refine gZ ?_
    refine t_ret ⟨LH.le_trans hle1 lem, .inl ⟨s, fun e h1 h2 => hcl e h1 (by omega), hJ _ _ _ hJs hdm⟩⟩
theorem next_first {c : Te.Cal} : ∀ (k : Nat) (s d : Int), s + k = 36525 → s ≤ d → d ≤ 36524 → (∀ e, s ≤ e → e < d → Te.openB c e = false) → Te.openB c d = true → Te.nextGo c k s = d
  | 0, s, d, h1, h2, h3, _, _ => by omega
  | k + 1, s, d, h1, h2, h3, h4, h5 => by
    rw [Te.nextGo]
    by_cases e : s = d
    · subst e; rw [if_pos h5]
    · rw [if_neg (by rw [h4 s (by omega) (by omega)]; simp)]
      exact next_first k (s + 1) d (by omega) (by omega) h3 (fun e h6 h7 => h4 e (by omega) h7) h5
theorem next_none {c : Te.Cal} : ∀ (k : Nat) (s : Int), s + k = 36525 → NoDay c s → Te.nextGo c k s = 36524
  | 0, _, _, _ => rfl
  | k + 1, s, h1, h2 => by
    rw [Te.nextGo, if_neg (by rw [h2 s (by omega) (by omega)]; simp)]
    exact next_none k (s + 1) (by omega) fun e h3 h4 => h2 e (by omega) h4
theorem c1079 {h : LH} {f : CalC} {c : CalD} (hr : CalR h.get f c) {day : Int} (hd : 0 ≤ day ∧ day ≤ 36524) : Gr Tryd.prog 38 #[calV f, .int .i64 day] h fun r _ => r = .int .i64 (Te.nextT c.cal day) := by
  refine w1079 _ _ _ _ _ _ _ X0_ok ?_
  unfold n1079
  refine t_call (A := fun r h' => ∃ zc zd : Nat, ∃ hm : LH, r = .func (.func 108) #[] #[.pointer (some ⟨zd, 0, none⟩), .pointer (some ⟨zc, 0, none⟩)] ∧ h.le hm ∧ hm.get.cell? (Addr.add (Addr.add ⟨zc, 0, none⟩ 0) 0) = some (.slice f.p0 f.n0 f.c0) ∧ hm.get.cell? (Addr.add (Addr.add ⟨zc, 0, none⟩ 0) 1) = some (.slice f.p1 f.n1 f.c1) ∧ hm.get zd = none ∧ h' = hm.add (boxC zd 3 (.int .i64 day))) ?_ ?_
  · refine w1104 _ _ _ _ _ _ _ X0_ok ?_
    unfold n1104
    refine t_new fun zc hzc => ?_
    refine t_new fun zd hzd => ?_
    refine t_ret ⟨zc, zd, _, rfl, LH.upd_le hzc, ?_, ?_, hzd, ?_⟩
    · rw [add_plain, add_plain]; exact cell_upd rfl
    · rw [add_plain, add_plain]; exact cell_upd rfl
    · unfold LH.add
      congr 1
      funext r
      unfold Cells.upd Cells.add boxC oneC
      by_cases e : r = zd
      · subst e
        simp only [if_pos rfl]
        have : (if r = zc then some (true, Obj.cells #[Value.slice f.p0 f.n0 f.c0, .slice f.p1 f.n1 f.c1] 81 (0, 0)) else h.get r) = none := hzd
        rw [this]
      · simp only [if_neg e]
        generalize (if r = zc then _ else h.get r) = o
        cases o <;> rfl
  · rintro _ _ ⟨zc, zd, hm, rfl, hle, e0, e1, hz, rfl⟩
    refine t_eachF (μ := fun s : Int => (36525 - s).toNat) ?_ (hm := hm) (k₀ := boxC zd 3 (.int .i64 day)) rfl (disj_oneC hz) (LH.le_refl hm) (hands1116 e0 e1 (hr.le hle.1) hd) (fun s vs h' => s = day ∧ vs = [.int .i64 0]) ⟨rfl, rfl⟩ ?_ ?_
    · rintro s xs s' ⟨d, h1, h2, _, _, _, rfl⟩
      omega
    · rintro s vs h' hfin hl ⟨rfl, rfl⟩
      refine gZ ?_
      refine t_ret ⟨LH.le_trans hle hl, ?_⟩
      rw [Te.nextT, next_none _ _ (by omega) hfin]
    · rintro s xs s' vs h' ⟨d, h1, h2, h3, h4, rfl, rfl⟩ hl ⟨rfl, rfl⟩ Y hY
      refine gZ ?_
      refine t_retnE hl ?_
      refine gZ ?_
      refine t_ret ⟨LH.le_trans hle hl, ?_⟩
      rw [Te.nextT, next_first _ _ d (by omega) h1 h2 h3 h4]
end Go.Proofs.YtldamlcehbdkdaaDoor
end
section
namespace Go.Proofs.YtldamlcehbdkdaaDoor
open Go Go.TM Go.Proofs
attribute [local irreducible] T.wp CV FWK
def De (f : FuncId) (args : Array Value) (h : LH) (d m : Nat) (fc : FileC) (u : UseFile) (V : Value → LH → Prop) : Prop := FW X0 Tryd.prog f args h fun r h' => Mv m h h' ∧ Desk h'.get d m fc u ∧ V r h'
theorem t_de {X : XP} {Q : Leaf → LH → Prop} {h : LH} {f : FuncId} {args : Array Value} {d m : Nat} {fc : FileC} {u : UseFile} {k : Value → T} {V : Value → LH → Prop} (c : De f args h d m fc u V) (hk : ∀ v h', Mv m h h' → Desk h'.get d m fc u → V v h' → (k v).wp X Tryd.prog Q h') : (T.call false f args k).wp X Tryd.prog Q h :=
  t_call (FW.top c) fun v h' ha => hk v h' ha.1 ha.2.1 ha.2.2
theorem two119 : twoInts Tryd.prog 158 = true := by kernel_rfl
theorem two30 : twoInts Tryd.prog 32 = true := by kernel_rfl
theorem i64_3 : isI64 Tryd.prog 3 = true := by kernel_rfl
theorem Desk.updMap {h : Cells} {d m : Nat} {f : FileC} {u : UseFile} (k : Desk h d m f u) {es' : Array MapEntry} {c : Nat} (he : ∀ e ∈ es'.toList, ∃ day : Int, e.key = .agg #[.int .i64 day, .int .i64 u.idle] ∧ e.val = .agg #[.int .i64 (window u day).first, .int .i64 day]) : Rd h (h.upd m (true, .map es' c)) ∧ Desk (h.upd m (true, .map es' c)) d m f u := by
  have hr : Rd h (h.upd m (true, .map es' c)) := by
    intro a v hc
    have hne : a.block ≠ m := by
      intro e
      obtain ⟨es, c, hm⟩ := k.isMap
      unfold Cells.cell? at hc
      rw [e, hm] at hc; cases hc
    unfold Cells.cell? at hc ⊢
    rw [Cells.upd_ne _ _ hne]; exact hc
  exact ⟨hr, k.file.rd hr, k.rep.rd hr, fun j hj => hr _ _ (k.counts j hj), hr _ _ k.mapp, _, _, Cells.upd_self _ _ _, he⟩
theorem Mv.updMap {m : Nat} {h : LH} {es' : Array MapEntry} {c : Nat} : Mv m h { h with get := h.get.upd m (true, .map es' c) } :=
  ⟨fun r x hr hx => by show Cells.upd _ _ _ r = _; rw [Cells.upd_ne _ _ hr]; exact hx, fun _ _ _ => ⟨es', c, Cells.upd_self _ _ _⟩, rfl, rfl, rfl⟩
theorem c55 {h : LH} {d m : Nat} {f : FileC} {u : UseFile} (k : Desk h.get d m f u) (hid : 1 ≤ u.idle ∧ u.idle ≤ 2000) (day : Int) (hd : 0 ≤ day ∧ day ≤ 2000) :
    De 61 #[.pointer (some ⟨d, 0, none⟩), .int .i64 day] h d m f u fun r _ => r = .agg #[.int .i64 (window u day).first, .int .i64 day] := by
  refine w55 _ _ X0_ok ?_
  unfold n55
  obtain ⟨f0, f1, f2, f3, f4, f5, f6⟩ := k.file
  have hmp := k.mapp
  obtain ⟨es, c, hm, hes⟩ := k.map
  have hkey : ∀ e ∈ es.toList, IsKey Tryd.prog 158 e.key := fun e he => by obtain ⟨dy, h1, _⟩ := hes e he; exact .inr ⟨two119, dy, u.idle, h1⟩
  have hkey' : IsKey Tryd.prog 158 (.agg #[.int .i64 day, .int .i64 u.idle]) := .inr ⟨two119, _, _, rfl⟩
  have found : ∀ e ∈ es.toList, e.key = .agg #[.int .i64 day, .int .i64 u.idle] → e.val = .agg #[.int .i64 (window u day).first, .int .i64 day] := by
    intro e he hk
    obtain ⟨dy, h1, h2⟩ := hes e he
    rw [hk] at h1
    simp only [Value.agg.injEq, Array.mk.injEq, List.cons.injEq, Value.int.injEq, and_true, true_and] at h1
    rw [h2, h1]
  refine gZ ?_
  refine t_blk (fun vs h' => vs = [.int .i64 0, .int .i64 0] ∧ h = h') ?_ ?_
  · refine gZ ?_
    refine t_both ?_ ?_
    · refine t_lookup und111 inf30 ⟨c, hm⟩ hkey' hkey (fun e he hk => ?_) fun hno => ?_
      · rw [found e he hk]
        simp only [if_true]
        refine gZ ?_
        refine t_cond (fun _ => ?_) (fun e => by cases e)
        refine gZ ?_
        exact t_ret ⟨Mv.refl, k, rfl⟩
      · simp only [if_true]
        refine gZ ?_
        refine t_cond (fun e => by cases e) (fun _ => ?_)
        exact t_again ⟨rfl, rfl⟩
    · refine gZ ?_
      refine t_lookup und111 inf30 ⟨c, hm⟩ hkey' hkey (fun e he hk => ?_) fun hno => ?_
      · rw [found e he hk]
        simp only [if_true]
        refine gZ ?_
        refine t_cond (fun _ => ?_) (fun e => by cases e)
        refine gZ ?_
        exact t_ret ⟨Mv.refl, k, rfl⟩
      · simp only [if_true]
        refine gZ ?_
        refine t_cond (fun e => by cases e) (fun _ => ?_)
        exact t_again ⟨rfl, rfl⟩
  · rintro vs _ ⟨rfl, rfl⟩
    refine gZ ?_
    refine t_loop (fun mm vs h' => h = h' ∧ ∃ (x : Nat) (n : Int), vs = [.int .i64 (u.idle - n), .int .i64 x, .int .i64 day] ∧ x ≤ 2000 ∧ 0 ≤ n ∧ n < u.idle ∧ x = mm ∧ firstDay (counts u) u.idle day.toNat 0 = firstDay (counts u) u.idle x n)
      ⟨rfl, day.toNat, 0, by simp; omega, by omega, by omega, by omega, rfl, rfl⟩ ?_
    rintro Y mm vs _ hY ⟨rfl, x, n, rfl, hx, hn0, hn1, rfl, hc⟩
    have fin : ∀ (w : Int), w = (window u day).first → ∀ {K : Value → T} {Q : Leaf → LH → Prop}, (∀ h', Mv m h h' → Desk h'.get d m f u → (K undef).wp X0 Tryd.prog Q h') → (T.sem false (Sem.bind (Instr.mapUpdate 153 (.map (some m)) (.agg #[.int .i64 day, .int .i64 u.idle]) (.agg #[.int .i64 w, .int .i64 day])) fun _ => pure (.tuple #[])) K).wp X0 Tryd.prog Q h := by
      intro w hw K Q hK
      refine t_mapUpdate und111 ⟨c, hm⟩ hkey' hkey fun es' c' h1 _ _ => hK _ Mv.updMap (Desk.updMap k fun e he => ?_).2
      rcases h1 e he with ⟨h1, h2⟩ | h1
      · exact ⟨day, h1, by rw [h2, hw]⟩
      · exact hes e h1
    refine gZ ?_
    refine t_if (fun e1 => ?_) (fun e1 => ?_)
    · have hcell : h.get.cell? ((Addr.add ⟨d, 0, none⟩ 7).add ((x : Int).toNat * 1)) = some (.bool (counts u x)) := by
        have h7 : 0 + 7 + (x : Int).toNat * 1 = 7 + x := by omega
        rw [add_plain, add_plain, h7]; exact k.counts x (by omega)
      obtain ⟨y, rfl⟩ : ∃ y, x = y + 1 := ⟨x - 1, by omega⟩
      refine gZ ?_
      rw [firstDay] at hc
      refine t_cond (fun e2 => ?_) (fun e2 => ?_)
      · have hin : (if counts u ((y + 1 : Nat) : Int) = true then n + 1 else n) = n + 1 := if_pos e2
        simp only [hin] at hc
        rw [wrap_id (by omega) (by omega)]
        refine t_cond (fun e3 => ?_) (fun e3 => ?_)
        · refine gZ ?_
          have e3' : u.idle - n - 1 = 0 := by simpa using e3
          rw [if_pos (by omega)] at hc
          refine fin _ (by rw [window]; exact hc.symm) fun h' hv hk => ?_
          exact t_ret ⟨hv, hk, by rw [window, hc]⟩
        · have e3' : u.idle - n - 1 ≠ 0 := by simpa using e3
          rw [if_neg (by omega)] at hc
          refine t_again (hY y _ _ (by omega) ⟨rfl, y, n + 1, ?_, by omega, by omega, by omega, rfl, hc⟩)
          have a1 : u.idle - n - 1 = u.idle - (n + 1) := by omega
          have a2 : ((y + 1 : Nat) : Int) - 1 = (y : Int) := by omega
          rw [wrap_id (by omega) (by omega), a1, a2]
      · have hin : (if counts u ((y + 1 : Nat) : Int) = true then n + 1 else n) = n := if_neg (by rw [e2]; simp)
        simp only [hin] at hc
        refine t_cond (fun e3 => ?_) (fun e3 => ?_)
        · exfalso
          have e3' : u.idle - n = 0 := by simpa using e3
          omega
        · rw [if_neg (by omega)] at hc
          refine t_again (hY y _ _ (by omega) ⟨rfl, y, n, ?_, by omega, by omega, by omega, rfl, hc⟩)
          have a2 : ((y + 1 : Nat) : Int) - 1 = (y : Int) := by omega
          rw [wrap_id (by omega) (by omega), a2]
    · refine gZ ?_
      obtain rfl : x = 0 := by omega
      rw [firstDay] at hc
      refine fin _ (by rw [window]; exact hc.symm) fun h' hv hk => ?_
      exact t_ret ⟨hv, hk, by rw [window, hc]; rfl⟩
end Go.Proofs.YtldamlcehbdkdaaDoor
end
section
namespace Go.Proofs.YtldamlcehbdkdaaDoor
open Go Go.TM Go.Proofs
attribute [local irreducible] T.wp CV FWK
def AskSl (h : LH) (p : Option Addr) (n : Nat) (u : UseFile) (l : List Int) : Prop :=
  n = l.length ∧ l.length < 4611686018427387904 ∧ ∀ i g, l[i]? = some g → ∃ a v, p = some a ∧ h.get.cell? (a.add (i * 1)) = some v ∧ Asks v h u g
noncomputable def deskOf (f : FileC) (u : UseFile) (m : Nat) : Array Value := match buildV Tryd.prog 156 [(0, fileV f u), (2, .map (some m))] with
  | some (.agg cs) => cs
  | _ => #[]
set_option maxRecDepth 100000 in
theorem deskOf_build (f : FileC) (u : UseFile) (m : Nat) : buildV Tryd.prog 156 [(0, fileV f u), (2, .map (some m))] = some (.agg (deskOf f u m)) := by kernel_rfl
theorem deskOf_size (f : FileC) (u : UseFile) (m : Nat) : (deskOf f u m).size = 2009 := by kernel_rfl
theorem deskOf_0 (f : FileC) (u : UseFile) (m : Nat) : (deskOf f u m)[0]? = some (.int .i64 u.items) := by kernel_rfl
theorem deskOf_1 (f : FileC) (u : UseFile) (m : Nat) : (deskOf f u m)[1]? = some (.int .i64 u.lands) := by kernel_rfl
theorem deskOf_2 (f : FileC) (u : UseFile) (m : Nat) : (deskOf f u m)[2]? = some (.int .i64 u.from_) := by kernel_rfl
theorem deskOf_3 (f : FileC) (u : UseFile) (m : Nat) : (deskOf f u m)[3]? = some (.int .i64 u.idle) := by kernel_rfl
theorem deskOf_4 (f : FileC) (u : UseFile) (m : Nat) : (deskOf f u m)[4]? = some (.slice f.p4 f.n4 f.c4) := by kernel_rfl
theorem deskOf_5 (f : FileC) (u : UseFile) (m : Nat) : (deskOf f u m)[5]? = some (.slice f.p5 f.n5 f.c5) := by kernel_rfl
theorem deskOf_6 (f : FileC) (u : UseFile) (m : Nat) : (deskOf f u m)[6]? = some (.slice f.p6 f.n6 f.c6) := by kernel_rfl
theorem deskOf_m (f : FileC) (u : UseFile) (m : Nat) : (deskOf f u m)[2008]? = some (.map (some m)) := by kernel_rfl
attribute [irreducible] deskOf
def openF (u : UseFile) (l : List Int) : Int := if checkF u ≠ 0 then checkF u else firstF (fun _ x => x) 0 l
def Opened (h h' : LH) (f : FileC) (u : UseFile) (g : Int) (r : Value) : Prop :=
  h.le h' ∧ ((g ≠ 0 ∧ r = .tuple #[.pointer none, .int .i64 g]) ∨ (g = 0 ∧ ∃ d m, r = .tuple #[.pointer (some ⟨d, 0, none⟩), .int .i64 0] ∧ h.get d = none ∧ h.get m = none ∧ Desk h'.get d m f u))
theorem setCell_upd {h : Cells} {r i : Nat} {m : Bool} {cs : Array Value} {el : TypeId} {v : Value} (hr : h r = some (m, .cells cs el (0, 0))) : h.setCell ⟨r, i, none⟩ v = h.upd r (m, .cells (cs.setIfInBounds i v) el (0, 0)) := by
  funext b
  unfold Cells.setCell Cells.upd
  by_cases e : b = r
  · subst e; simp [hr]
  · simp [e]
theorem frozen_plain {h : Cells} {r i : Nat} {m : Bool} {cs : Array Value} {el : TypeId} (hr : h r = some (m, .cells cs el (0, 0))) : h.frozen? ⟨r, i, none⟩ = false := by
  simp [Cells.frozen?, hr]
theorem c53 {h : LH} {f : FileC} {u : UseFile} {p : Option Addr} {n c : Nat} {l : List Int} (hp : Parts h.get) (hu : FileR h.get f u) (hw : AskSl h p n u l) :
    FW X0 Tryd.prog 59 #[fileV f u, .slice p n c] h fun r h' => Opened h h' f u (openF u l) r := by
  refine w53 _ _ _ _ _ _ _ _ _ _ _ _ _ _ _ _ X0_ok ?_
  unfold n53
  refine t_gr (c26 hp hu) ?_
  rintro _ h₁ le1 rfl
  refine gZ ?_
  refine t_cond (fun e0 => ?_) (fun e0 => ?_)
  · have e0' : checkF u ≠ 0 := by simpa using e0
    refine t_ret ⟨le1, .inl ⟨?_, ?_⟩⟩
    · rw [openF, if_pos e0']; exact e0'
    · rw [openF, if_pos e0']
  have e0' : checkF u = 0 := by simpa using e0
  have hn0 := check_num e0'
  have ho : openF u l = firstF (fun _ x => x) 0 l := by rw [openF, if_neg (by simp [e0'])]
  have hn := hw.1
  have hb := hw.2.1
  refine t_loop (fun mm vs h' => h.le h' ∧ ∃ i : Nat, vs = [.pointer none, .int .i64 0, .int .i64 i] ∧ i ≤ n ∧ mm = n - i ∧ openF u l = firstF (fun _ x => x) i (l.drop i)) ⟨le1, 0, rfl, Nat.zero_le _, rfl, ho⟩ ?_
  rintro Y mm vs h₂ hY ⟨hle, i, rfl, hi, rfl, hc⟩
  refine gZ ?_
  refine t_if (fun e1 => ?_) (fun e1 => ?_)
  · obtain ⟨g, hg⟩ : ∃ g, l[i]? = some g := ⟨l[i]'(by omega), List.getElem?_eq_getElem (by omega)⟩
    obtain ⟨a, v, ha, hv, hask⟩ := hw.2.2 i g hg
    have hv2 := Cells.cell?_le hle.1 hv
    refine gT (by omega) (gS2 ha (t_loadV hv2 ?_))
    refine t_callv (hask hn0 f h₂ hle (hu.le hle.1)) ?_
    rintro _ h₃ ⟨le3, rfl⟩
    refine gZ ?_
    rw [drop_of hg, firstF] at hc
    refine t_cond (fun e2 => ?_) (fun e2 => ?_)
    · have e2' : g ≠ 0 := by simpa using e2
      refine gZ ?_
      rw [if_pos e2'] at hc
      exact t_ret ⟨LH.le_trans hle le3, .inl ⟨by rw [hc]; exact e2', by rw [hc]⟩⟩
    · have e2' : g = 0 := by simpa using e2
      rw [if_neg (by simp [e2'])] at hc
      refine t_again (hY (n - (i + 1)) _ _ (by omega) ⟨LH.le_trans hle le3, i + 1, ?_, by omega, rfl, hc⟩)
      rw [wrap_id (by omega) (by omega)]; rfl
  · refine gZ ?_
    rw [List.drop_eq_nil_of_le (by omega), firstF] at hc
    refine t_makeMap fun m hm => ?_
    refine gZ ?_
    have le4 : h₂.le _ := LH.upd_le (x := (true, .map #[] 0)) hm
    refine t_struct (deskOf_build f u m) ?_
    refine t_new fun d hd => ?_
    have le5 : LH.le _ _ := LH.upd_le (x := (true, .cells (deskOf f u m) 156 (0, 0))) hd
    have hdm : d ≠ m := by
      rintro rfl
      change Cells.upd _ _ _ d = none at hd
      rw [Cells.upd_self] at hd; cases hd
    have hd0 : h.get d = none := by
      cases hx : h.get d with
      | none => rfl
      | some x => rw [(LH.le_trans hle le4).1 _ _ hx] at hd; cases hd
    have hm0 : h.get m = none := by
      cases hx : h.get m with
      | none => rfl
      | some x => rw [hle.1 _ _ hx] at hm; cases hm
    refine t_loop (fun mm vs h' => ∃ (i : Nat) (cs : Array Value), vs = [.int .i64 i] ∧ i ≤ 2001 ∧ mm = 2001 - i ∧ h₂.le h' ∧ h'.get m = some (true, .map #[] 0) ∧ h'.get d = some (true, .cells cs 156 (0, 0)) ∧ cs.size = 2009 ∧ (∀ j, j < 7 ∨ j = 2008 → cs[j]? = (deskOf f u m)[j]?) ∧ ∀ j : Nat, j < i → cs[7 + j]? = some (.bool (counts u j)))
      (n := 2001) ⟨0, deskOf f u m, rfl, by omega, by omega, LH.le_trans le4 le5, ?_, Cells.upd_self _ _ _, deskOf_size _ _ _, fun _ _ => rfl, fun j hj => by omega⟩ ?_
    · show Cells.upd _ _ _ m = _
      rw [Cells.upd_ne _ _ (Ne.symm hdm)]; exact Cells.upd_self _ _ _
    rintro Y2 mm2 vs2 h₆ hY2 ⟨j, cs, rfl, hj, rfl, le6, hm6, hd6, hsz, hfix, hcnt⟩
    refine gZ ?_
    refine t_if (fun e5 => ?_) (fun e5 => ?_)
    · refine t_new fun r1 hr1 => ?_
      have hr1d : r1 ≠ d := by rintro rfl; rw [hd6] at hr1; cases hr1
      have hr1m : r1 ≠ m := by rintro rfl; rw [hm6] at hr1; cases hr1
      have le7 : h₆.le _ := LH.upd_le (x := (true, .cells #[.int .i64 0] 3 (0, 0))) hr1
      have own1 : (h₆.get.upd r1 (true, .cells #[.int .i64 0] 3 (0, 0))) r1 = some (true, .cells #[.int .i64 0] 3 (0, 0)) := Cells.upd_self _ _ _
      refine t_store rfl ⟨_, own1⟩ (v₀ := .int .i64 0) (by show Cells.cell? _ _ = _; exact cell_upd rfl) (frozen_plain (i := 0) own1) ?_
      have hset : (h₆.get.upd r1 (true, .cells #[.int .i64 0] 3 (0, 0))).setCell ⟨r1, 0, none⟩ (.int .i64 j) = h₆.get.upd r1 (true, .cells #[.int .i64 j] 3 (0, 0)) := by
        rw [setCell_upd own1]
        funext b; unfold Cells.upd; by_cases e : b = r1 <;> simp [e]
      have hset' : (h₆.get.upd r1 (true, .cells #[.int .i64 0] 3 (0, 0))).setCell (Addr.add ⟨r1, 0, none⟩ 0) (.int .i64 j) = h₆.get.upd r1 (true, .cells #[.int .i64 j] 3 (0, 0)) := hset
      simp only [hset']
      have le8 : h₆.le { h₆ with get := h₆.get.upd r1 (true, .cells #[.int .i64 j] 3 (0, 0)) } := LH.upd_le hr1
      have hz : Cells.cell? (h₆.get.upd r1 (true, .cells #[.int .i64 j] 3 (0, 0))) ⟨r1, 0, none⟩ = some (.int .i64 j) := cell_upd rfl
      refine gL0 hz ?_
      refine gS2 rfl ?_
      refine t_gr (c79 (g := fun x => isIn j x.first x.last) (hu.le (LH.le_trans (LH.le_trans hle le6) le8).1).excuses fun x h' hl' => cv_fw X0_ok (by rfl) (pu_gr (c80 (Cells.cell?_le hl'.1 hz) _ _))) ?_
      rintro _ h₉ le9 rfl
      have hz9 := Cells.cell?_le le9.1 hz
      have hd9 := (LH.le_trans le8 le9).1 _ _ hd6
      refine gZ ?_
      have hcl : h₉.get.cell? ⟨d, 7 + j, none⟩ = some (cs[7 + j]'(by omega)) := by
        simp only [Cells.cell?, hd9]
        simp [show 7 + j < cs.size by omega]
      have ha7 : Addr.add (Addr.add (Addr.add ⟨d, 0, none⟩ 7) ((j : Int).toNat * 1)) 0 = ⟨d, 7 + j, none⟩ := by
        have h7 : 0 + 7 + (j : Int).toNat * 1 + 0 = 7 + j := by omega
        rw [add_plain, add_plain, add_plain, h7]
      refine t_store rfl ?_ (v₀ := cs[7 + j]'(by omega)) ?_ ?_ ?_
      · rw [ha7]; exact ⟨_, hd9⟩
      · rw [ha7]; exact hcl
      · rw [ha7]; exact frozen_plain hd9
      rw [ha7, setCell_upd hd9]
      refine gZ ?_
      refine t_again (hY2 (2001 - (j + 1)) _ _ (by omega) ⟨j + 1, _, ?_, by omega, rfl, ?_, ?_, Cells.upd_self _ _ _, by rw [Array.size_setIfInBounds]; exact hsz, ?_, ?_⟩)
      · rw [wrap_id (by omega) (by omega)]; rfl
      · have := LH.le_trans (LH.le_trans le6 le8) le9
        refine ⟨fun b x hb => ?_, this.2⟩
        have hbd : b ≠ d := by
          rintro rfl
          rw [le4.1 _ _ hb] at hd; cases hd
        show Cells.upd _ _ _ b = _
        rw [Cells.upd_ne _ _ hbd]; exact this.1 _ _ hb
      · show Cells.upd _ _ _ m = _
        rw [Cells.upd_ne _ _ (Ne.symm hdm)]; exact (LH.le_trans le8 le9).1 _ _ hm6
      · intro i hi
        rw [Array.getElem?_setIfInBounds_ne (by omega)]; exact hfix i hi
      · intro i hi
        by_cases e : i = j
        · subst e
          rw [Array.getElem?_setIfInBounds_self, if_pos (by omega)]
          congr 2
          simp only [counts, List.not_any_eq_all_not]
        · rw [Array.getElem?_setIfInBounds_ne (by omega)]; exact hcnt i (by omega)
    · refine gZ ?_
      have hcell : ∀ i v, cs[i]? = some v → h₆.get.cell? (Addr.add ⟨d, 0, none⟩ i) = some v := by
        intro i v hv
        rw [add_plain, Nat.zero_add]
        simp only [Cells.cell?, hd6]
        simpa using hv
      have hcell' : ∀ i v, cs[i]? = some v → h₆.get.cell? ⟨d, i, none⟩ = some v := by
        intro i v hv
        simp only [Cells.cell?, hd6]
        simpa using hv
      refine t_ret ⟨LH.le_trans hle le6, .inr ⟨hc, d, m, rfl, hd0, hm0, ?_, hu.le (LH.le_trans hle le6).1, ?_, ?_, ?_⟩⟩
      · exact ⟨hcell _ _ ((hfix 0 (by omega)).trans (deskOf_0 _ _ _)), hcell _ _ ((hfix 1 (by omega)).trans (deskOf_1 _ _ _)), hcell _ _ ((hfix 2 (by omega)).trans (deskOf_2 _ _ _)), hcell _ _ ((hfix 3 (by omega)).trans (deskOf_3 _ _ _)),
          hcell _ _ ((hfix 4 (by omega)).trans (deskOf_4 _ _ _)), hcell _ _ ((hfix 5 (by omega)).trans (deskOf_5 _ _ _)), hcell _ _ ((hfix 6 (by omega)).trans (deskOf_6 _ _ _))⟩
      · intro i hi
        exact hcell' _ _ (hcnt i (by omega))
      · exact hcell' _ _ ((hfix 2008 (.inr rfl)).trans (deskOf_m _ _ _))
      · exact ⟨_, _, hm6, fun e he => by simp at he⟩
end Go.Proofs.YtldamlcehbdkdaaDoor
end
section
namespace Go.Proofs.YtldamlcehbdkdaaDoor
open Go Go.TM Go.Proofs
attribute [local irreducible] T.wp CV FWK
theorem Mv.le_of {m : Nat} {h h₁ h' : LH} (hle : h.le h₁) (hm : h.get m = none) (mv : Mv m h₁ h') : h.le h' := by
  refine ⟨fun r x hr => mv.keep r x ?_ (hle.1 r x hr), mv.same.1.trans hle.2.1, mv.same.2.1.trans hle.2.2.1, mv.same.2.2.trans hle.2.2.2⟩
  rintro rfl; rw [hm] at hr; cases hr
theorem asks1 {h : LH} {X : XP} {Q : Leaf → LH → Prop} {k : Value → T} {u : UseFile} {v0 : Value} {g0 : Int} (q0 : ∃ fn a b, v0 = Value.func fn a b) (a0 : Asks v0 h u g0) (hk : ∀ r h', h.le h' → AskSl h' (some ⟨r, 0, none⟩) 1 u [g0] → (k (.slice (some ⟨r, 0, none⟩) 1 1)).wp X Tryd.prog Q h') : (T.sem false (Instr.buildSlice 152 1 #[(0, v0)]) k).wp X Tryd.prog Q h := by
  obtain ⟨fn0, x0, y0, rfl⟩ := q0
  refine t_build und110 inf87 (by decide) (by decide) (cells := #[.func fn0 x0 y0]) (by kernel_rfl) fun r hr => ?_
  have le1 : h.le _ := LH.upd_le (x := (true, .cells #[.func fn0 x0 y0] 112 (0, 0))) hr
  refine hk r _ le1 ⟨rfl, by show 1 < _; omega, ?_⟩
  intro i g hg
  have hc : ∀ i v, (#[.func fn0 x0 y0] : Array Value)[i]? = some v → Cells.cell? (h.get.upd r (true, .cells #[.func fn0 x0 y0] 112 (0, 0))) (Addr.add ⟨r, 0, none⟩ (i * 1)) = some v := by
    intro i v hv
    rw [add_plain, Nat.zero_add, Nat.mul_one]
    exact cell_upd hv
  match i, hg with
  | 0, hg => simp at hg; subst hg; exact ⟨_, _, rfl, hc 0 _ rfl, a0.le le1⟩
  | i + 1, hg => simp at hg
theorem asks2 {h : LH} {X : XP} {Q : Leaf → LH → Prop} {k : Value → T} {u : UseFile} {v0 v1 : Value} {g0 g1 : Int} (q0 : ∃ fn a b, v0 = Value.func fn a b) (a0 : Asks v0 h u g0) (q1 : ∃ fn a b, v1 = Value.func fn a b) (a1 : Asks v1 h u g1) (hk : ∀ r h', h.le h' → AskSl h' (some ⟨r, 0, none⟩) 2 u [g0, g1] → (k (.slice (some ⟨r, 0, none⟩) 2 2)).wp X Tryd.prog Q h') : (T.sem false (Instr.buildSlice 152 2 #[(0, v0), (1, v1)]) k).wp X Tryd.prog Q h := by
  obtain ⟨fn0, x0, y0, rfl⟩ := q0
  obtain ⟨fn1, x1, y1, rfl⟩ := q1
  refine t_build und110 inf87 (by decide) (by decide) (cells := #[.func fn0 x0 y0, .func fn1 x1 y1]) (by kernel_rfl) fun r hr => ?_
  have le1 : h.le _ := LH.upd_le (x := (true, .cells #[.func fn0 x0 y0, .func fn1 x1 y1] 112 (0, 0))) hr
  refine hk r _ le1 ⟨rfl, by show 2 < _; omega, ?_⟩
  intro i g hg
  have hc : ∀ i v, (#[.func fn0 x0 y0, .func fn1 x1 y1] : Array Value)[i]? = some v → Cells.cell? (h.get.upd r (true, .cells #[.func fn0 x0 y0, .func fn1 x1 y1] 112 (0, 0))) (Addr.add ⟨r, 0, none⟩ (i * 1)) = some v := by
    intro i v hv
    rw [add_plain, Nat.zero_add, Nat.mul_one]
    exact cell_upd hv
  match i, hg with
  | 0, hg => simp at hg; subst hg; exact ⟨_, _, rfl, hc 0 _ rfl, a0.le le1⟩
  | 1, hg => simp at hg; subst hg; exact ⟨_, _, rfl, hc 1 _ rfl, a1.le le1⟩
  | i + 2, hg => simp at hg
theorem asks3 {h : LH} {X : XP} {Q : Leaf → LH → Prop} {k : Value → T} {u : UseFile} {v0 v1 v2 : Value} {g0 g1 g2 : Int} (q0 : ∃ fn a b, v0 = Value.func fn a b) (a0 : Asks v0 h u g0) (q1 : ∃ fn a b, v1 = Value.func fn a b) (a1 : Asks v1 h u g1) (q2 : ∃ fn a b, v2 = Value.func fn a b) (a2 : Asks v2 h u g2) (hk : ∀ r h', h.le h' → AskSl h' (some ⟨r, 0, none⟩) 3 u [g0, g1, g2] → (k (.slice (some ⟨r, 0, none⟩) 3 3)).wp X Tryd.prog Q h') : (T.sem false (Instr.buildSlice 152 3 #[(0, v0), (1, v1), (2, v2)]) k).wp X Tryd.prog Q h := by
  obtain ⟨fn0, x0, y0, rfl⟩ := q0
  obtain ⟨fn1, x1, y1, rfl⟩ := q1
  obtain ⟨fn2, x2, y2, rfl⟩ := q2
  refine t_build und110 inf87 (by decide) (by decide) (cells := #[.func fn0 x0 y0, .func fn1 x1 y1, .func fn2 x2 y2]) (by kernel_rfl) fun r hr => ?_
  have le1 : h.le _ := LH.upd_le (x := (true, .cells #[.func fn0 x0 y0, .func fn1 x1 y1, .func fn2 x2 y2] 112 (0, 0))) hr
  refine hk r _ le1 ⟨rfl, by show 3 < _; omega, ?_⟩
  intro i g hg
  have hc : ∀ i v, (#[.func fn0 x0 y0, .func fn1 x1 y1, .func fn2 x2 y2] : Array Value)[i]? = some v → Cells.cell? (h.get.upd r (true, .cells #[.func fn0 x0 y0, .func fn1 x1 y1, .func fn2 x2 y2] 112 (0, 0))) (Addr.add ⟨r, 0, none⟩ (i * 1)) = some v := by
    intro i v hv
    rw [add_plain, Nat.zero_add, Nat.mul_one]
    exact cell_upd hv
  match i, hg with
  | 0, hg => simp at hg; subst hg; exact ⟨_, _, rfl, hc 0 _ rfl, a0.le le1⟩
  | 1, hg => simp at hg; subst hg; exact ⟨_, _, rfl, hc 1 _ rfl, a1.le le1⟩
  | 2, hg => simp at hg; subst hg; exact ⟨_, _, rfl, hc 2 _ rfl, a2.le le1⟩
  | i + 3, hg => simp at hg
theorem open_num {u : UseFile} {l : List Int} (h : openF u l = 0) : numbersF u = 0 ∧ checkF u = 0 := by
  unfold openF at h
  split at h
  · rename_i h1; exact absurd h h1
  · rename_i h1
    have : checkF u = 0 := by simpa using h1
    exact ⟨check_num this, this⟩
theorem firstF_zero {l : List Int} : ∀ {i : Nat}, firstF (fun _ x => x) i l = 0 → ∀ x ∈ l, x = 0 := by
  induction l with
  | nil => intro i _ x hx; simp at hx
  | cons y l ih =>
    intro i h x hx
    unfold firstF at h
    split at h
    · rename_i h1; exact absurd h h1
    · rename_i h1
      have hy : y = 0 := by simpa using h1
      rcases List.mem_cons.1 hx with rfl | hx
      · exact hy
      · exact ih h x hx
theorem open_zero {u : UseFile} {l : List Int} (h : openF u l = 0) : ∀ x ∈ l, x = 0 := by
  have h0 := (open_num h).2
  unfold openF at h
  rw [if_neg (by simp [h0])] at h
  exact firstF_zero h
theorem dayQ_zero {d : Int} (h : dayQ d = 0) : 0 ≤ d ∧ d ≤ 2000 := by
  unfold dayQ at h
  split at h
  · rename_i h1; simpa [isDay, isIn] using h1
  · cases h
def windowR (u : UseFile) (day : Int) : Value := if openF u [dayQ day] ≠ 0 then .tuple #[.agg #[.int .i64 0, .int .i64 0], .int .i64 (openF u [dayQ day])] else .tuple #[.agg #[.int .i64 (window u day).first, .int .i64 day], .int .i64 0]
theorem c17 {h : LH} {f : FileC} {u : UseFile} (hp : Parts h.get) (hu : FileR h.get f u) (day : Int) : Gr Tryd.prog 22 #[fileV f u, .int .i64 day] h fun r _ => r = windowR u day := by
  refine w17 _ _ _ _ _ _ _ _ _ _ _ _ _ _ X0_ok ?_
  unfold n17
  refine t_gr (c54 u day) ?_
  rintro v h₁ le1 ⟨q, a⟩
  refine gZ ?_
  refine asks1 q a fun r h₂ le2 hs => ?_
  refine gZ ?_
  have le12 := LH.le_trans le1 le2
  refine t_call (c53 (f := f) (hp.le le12.1) (hu.le le12.1) hs) ?_
  rintro v h₃ ⟨le3, ⟨hne, rfl⟩ | ⟨h0, d, m, rfl, hd, hm, k⟩⟩
  · refine gZ ?_
    refine t_cond (fun _ => ?_) (fun e => absurd (by simpa using e) hne)
    refine t_ret ⟨LH.le_trans le12 le3, ?_⟩
    show _ = windowR u day
    rw [windowR, if_pos hne]
  · refine gZ ?_
    refine t_cond (fun e => by cases e) (fun _ => ?_)
    have hq := dayQ_zero (open_zero h0 _ (by simp; rfl))
    refine t_de (c55 k (num_ok (open_num h0).1).2.2.2 day hq) ?_
    rintro _ h₄ mv k4 rfl
    refine gZ ?_
    refine t_ret ⟨LH.le_trans le12 (Mv.le_of le3 hm mv), ?_⟩
    show _ = windowR u day
    rw [windowR, if_neg (by simpa using h0)]
end Go.Proofs.YtldamlcehbdkdaaDoor
end
section
namespace Go.Proofs.YtldamlcehbdkdaaDoor
open Go Go.TM Go.Proofs
set_option linter.unusedVariables false
set_option maxRecDepth 100000
noncomputable def n15 (u_0 : Int) (u_1 : Int) (u_2 : Int) (u_3 : Int) (u_4p : Option Addr) (u_4n u_4c : Nat) (u_5p : Option Addr) (u_5n u_5c : Nat) (u_6p : Option Addr) (u_6n u_6c : Nat) : T := .blk (bif decide ((↑u_4n : Int) > 20) then .leaf (.retn [.bool true]) else bif decide ((↑u_5n : Int) > 20) then .leaf (.retn [.bool true]) else bif decide ((↑u_6n : Int) > 20) then .leaf (.retn [.bool true]) else .leaf (.again [.bool false])) (fun vs => .popB vs fun b vs => .unNil vs (.loop [.bool b, .int .i64 0] (fun vs => .popB vs fun b vs => .popI .i64 vs fun n vs => .unNil vs (bif decide (n < (↑u_5n : Int)) then .need (0 ≤ n ∧ n < (↑u_5n : Int)) (.someA u_5p fun a => .loadS (Addr.add (Addr.add a (Int.toNat n * 4)) 3) fun p n_1 c => bif decide ((↑n_1 : Int) > 20) then .leaf (.retn [.bool true, .int .i64 n]) else .leaf (.again [.bool b, .int .i64 (IntKind.wrap .i64 (n + 1))])) else .leaf (.brk [.bool b, .int .i64 n]))) (fun vs => .popB vs fun b vs => .popI .i64 vs fun n vs => .unNil vs (.loop [.bool b, .int .i64 0] (fun vs => .popB vs fun b vs => .popI .i64 vs fun n vs => .unNil vs (bif decide (n < (↑u_6n : Int)) then .need (0 ≤ n ∧ n < (↑u_6n : Int)) (.someA u_6p fun a => .loadS (Addr.add (Addr.add a (Int.toNat n * 3)) 2) fun p n_1 c => bif decide ((↑n_1 : Int) > 20) then .leaf (.retn [.bool true, .int .i64 n]) else .leaf (.again [.bool b, .int .i64 (IntKind.wrap .i64 (n + 1))])) else .leaf (.brk [.bool b, .int .i64 n]))) (fun vs => .popB vs fun b vs => .popI .i64 vs fun n vs => .unNil vs (.leaf (.ret (.bool false)))) (fun vs => .popB vs fun b vs => .popI .i64 vs fun n vs => .unNil vs (.leaf (.ret (.bool b)))) fun x x_1 => .fail)) (fun vs => .popB vs fun b vs => .popI .i64 vs fun n vs => .unNil vs (.leaf (.ret (.bool b)))) fun x x_1 => .fail)) (fun vs => .popB vs fun b vs => .unNil vs (.leaf (.ret (.bool b)))) fun x x_1 => .fail
theorem t15 (u_0 : Int) (u_1 : Int) (u_2 : Int) (u_3 : Int) (u_4p : Option Addr) (u_4n u_4c : Nat) (u_5p : Option Addr) (u_5n u_5c : Nat) (u_6p : Option Addr) (u_6n u_6c : Nat) : ftree ({ P := Tryd.prog, priv := [1], loops := [{ id := 0, slots := [(2, .bool), (3, .int .i64)], ro := [1], outs := [] }, { id := 2, slots := [(2, .bool), (4, .int .i64)], ro := [1], outs := [] }], joins := [{ id := 3, slots := [(2, .bool)], ro := [1], outs := [] }] }) Tryd.f17 [.agg #[.int .i64 u_0, .int .i64 u_1, .int .i64 u_2, .int .i64 u_3, .slice u_4p u_4n u_4c, .slice u_5p u_5n u_5c, .slice u_6p u_6n u_6c]] = n15 u_0 u_1 u_2 u_3 u_4p u_4n u_4c u_5p u_5n u_5c u_6p u_6n u_6c := by kernel_rfl
theorem w15 (u_0 : Int) (u_1 : Int) (u_2 : Int) (u_3 : Int) (u_4p : Option Addr) (u_4n u_4c : Nat) (u_5p : Option Addr) (u_5n u_5c : Nat) (u_6p : Option Addr) (u_6n u_6c : Nat) {X : XP} (hX : XOK X) {h : LH} {A : Value → LH → Prop} (hw : (n15 u_0 u_1 u_2 u_3 u_4p u_4n u_4c u_5p u_5n u_5c u_6p u_6n u_6c).wp X Tryd.prog (retQ A) h) : FWK X Tryd.prog .normal 17 #[.agg #[.int .i64 u_0, .int .i64 u_1, .int .i64 u_2, .int .i64 u_3, .slice u_4p u_4n u_4c, .slice u_5p u_5n u_5c, .slice u_6p u_6n u_6c]] h A := fwk_neat (t15 u_0 u_1 u_2 u_3 u_4p u_4n u_4c u_5p u_5n u_5c u_6p u_6n u_6c) (by simp) (by kernel_rfl) (by kernel_rfl) hX hw
noncomputable def n25 (ap : Option Addr) (an ac : Nat) (bp : Option Addr) (bn bc : Nat) : T := bif (↑an : Int) != (↑bn : Int) then .leaf (.ret (.bool false)) else .loop [.bool false, .int .i64 0] (fun vs => .popB vs fun b vs => .popI .i64 vs fun n vs => .unNil vs (bif decide (n < (↑an : Int)) then .need (0 ≤ n ∧ n < (↑an : Int)) (.someA ap fun a => .loadI .i64 (Addr.add a (Int.toNat n * 1)) fun n_1 => .need (0 ≤ n ∧ n < (↑bn : Int)) (.someA bp fun a => .loadI .i64 (Addr.add a (Int.toNat n * 1)) fun n_2 => bif n_1 != n_2 then .leaf (.retn [.bool false, .int .i64 n]) else .leaf (.again [.bool b, .int .i64 (IntKind.wrap .i64 (n + 1))]))) else .leaf (.brk [.bool b, .int .i64 n]))) (fun vs => .popB vs fun b vs => .popI .i64 vs fun n vs => .unNil vs (.leaf (.ret (.bool true)))) (fun vs => .popB vs fun b vs => .popI .i64 vs fun n vs => .unNil vs (.leaf (.ret (.bool b)))) fun x x_1 => .fail
theorem t25 (ap : Option Addr) (an ac : Nat) (bp : Option Addr) (bn bc : Nat) : ftree ({ P := Tryd.prog, priv := [], loops := [{ id := 0, slots := [(4, .bool), (5, .int .i64)], ro := [], outs := [] }], joins := [] }) Tryd.f31 [.slice ap an ac, .slice bp bn bc] = n25 ap an ac bp bn bc := by kernel_rfl
theorem w25 (ap : Option Addr) (an ac : Nat) (bp : Option Addr) (bn bc : Nat) {X : XP} (hX : XOK X) {h : LH} {A : Value → LH → Prop} (hw : (n25 ap an ac bp bn bc).wp X Tryd.prog (retQ A) h) : FWK X Tryd.prog .normal 31 #[.slice ap an ac, .slice bp bn bc] h A := fwk_neat (t25 ap an ac bp bn bc) (by simp) (by kernel_rfl) (by kernel_rfl) hX hw
noncomputable def n27 (u_0 : Int) (u_1 : Int) (u_2 : Int) (u_3 : Int) (u_4p : Option Addr) (u_4n u_4c : Nat) (u_5p : Option Addr) (u_5n u_5c : Nat) (u_6p : Option Addr) (u_6n u_6c : Nat) : T := .blk (.call false 19 #[.int .i64 u_0, .int .i64 0, .int .i64 6] fun v => .unB v fun b => bif !b then .leaf (.retn [.int .i64 1]) else .call false 19 #[.int .i64 u_1, .int .i64 1, .int .i64 3] fun v => .unB v fun b => bif !b then .leaf (.retn [.int .i64 1]) else .call false 55 #[.int .i64 u_2] fun v => .unB v fun b => bif !b then .leaf (.retn [.int .i64 1]) else .call false 19 #[.int .i64 u_3, .int .i64 1, .int .i64 2000] fun v => .unB v fun b => bif !b then .leaf (.retn [.int .i64 1]) else .leaf (.again [.int .i64 0])) (fun vs => .popI .i64 vs fun n vs => .unNil vs (.call false 56 #[.slice u_4p u_4n u_4c] fun v => .unI .i64 v fun n => bif n != 0 then .leaf (.ret (.int .i64 n)) else .call false 57 #[.agg #[.int .i64 u_0, .int .i64 u_1, .int .i64 u_2, .int .i64 u_3, .slice u_4p u_4n u_4c, .slice u_5p u_5n u_5c, .slice u_6p u_6n u_6c]] fun v => .unI .i64 v fun n => bif n != 0 then .leaf (.ret (.int .i64 n)) else .call false 58 #[.agg #[.int .i64 u_0, .int .i64 u_1, .int .i64 u_2, .int .i64 u_3, .slice u_4p u_4n u_4c, .slice u_5p u_5n u_5c, .slice u_6p u_6n u_6c]] fun v => .unI .i64 v fun n => .leaf (.ret (.int .i64 n)))) (fun vs => .popI .i64 vs fun n vs => .unNil vs (.leaf (.ret (.int .i64 n)))) fun x x_1 => .fail
theorem t27 (u_0 : Int) (u_1 : Int) (u_2 : Int) (u_3 : Int) (u_4p : Option Addr) (u_4n u_4c : Nat) (u_5p : Option Addr) (u_5n u_5c : Nat) (u_6p : Option Addr) (u_6n u_6c : Nat) : ftree ({ P := Tryd.prog, priv := [1], loops := [], joins := [{ id := 3, slots := [(2, .int .i64)], ro := [1], outs := [] }] }) Tryd.f18 [.agg #[.int .i64 u_0, .int .i64 u_1, .int .i64 u_2, .int .i64 u_3, .slice u_4p u_4n u_4c, .slice u_5p u_5n u_5c, .slice u_6p u_6n u_6c]] = n27 u_0 u_1 u_2 u_3 u_4p u_4n u_4c u_5p u_5n u_5c u_6p u_6n u_6c := by kernel_rfl
theorem w27 (u_0 : Int) (u_1 : Int) (u_2 : Int) (u_3 : Int) (u_4p : Option Addr) (u_4n u_4c : Nat) (u_5p : Option Addr) (u_5n u_5c : Nat) (u_6p : Option Addr) (u_6n u_6c : Nat) {X : XP} (hX : XOK X) {h : LH} {A : Value → LH → Prop} (hw : (n27 u_0 u_1 u_2 u_3 u_4p u_4n u_4c u_5p u_5n u_5c u_6p u_6n u_6c).wp X Tryd.prog (retQ A) h) : FWK X Tryd.prog .normal 18 #[.agg #[.int .i64 u_0, .int .i64 u_1, .int .i64 u_2, .int .i64 u_3, .slice u_4p u_4n u_4c, .slice u_5p u_5n u_5c, .slice u_6p u_6n u_6c]] h A := fwk_neat (t27 u_0 u_1 u_2 u_3 u_4p u_4n u_4c u_5p u_5n u_5c u_6p u_6n u_6c) (by simp) (by kernel_rfl) (by kernel_rfl) hX hw
noncomputable def n30 (ap : Option Addr) (an ac : Nat) (bp : Option Addr) (bn bc : Nat) : T := bif (↑an : Int) != (↑bn : Int) then .leaf (.ret (.bool false)) else .loop [.bool false, .int .i64 0] (fun vs => .popB vs fun b vs => .popI .i64 vs fun n vs => .unNil vs (bif decide (n < (↑an : Int)) then .need (0 ≤ n ∧ n < (↑an : Int)) (.someA ap fun a => .loadI .i64 (Addr.add (Addr.add a (Int.toNat n * 4)) 0) fun n_1 => .loadI .i64 (Addr.add (Addr.add a (Int.toNat n * 4)) 1) fun n_2 => .loadI .i64 (Addr.add (Addr.add a (Int.toNat n * 4)) 2) fun n_3 => .loadI .i64 (Addr.add (Addr.add a (Int.toNat n * 4)) 3) fun n_4 => .need (0 ≤ n ∧ n < (↑bn : Int)) (.someA bp fun a_1 => .loadI .i64 (Addr.add (Addr.add a_1 (Int.toNat n * 4)) 0) fun n_5 => .loadI .i64 (Addr.add (Addr.add a_1 (Int.toNat n * 4)) 1) fun n_6 => .loadI .i64 (Addr.add (Addr.add a_1 (Int.toNat n * 4)) 2) fun n_7 => .loadI .i64 (Addr.add (Addr.add a_1 (Int.toNat n * 4)) 3) fun n_8 => .sem false (Sem.bind (eqGuard BinOp.neq 79 (Operand.tmp 20) (Operand.tmp 24) (.agg #[.int .i64 n_1, .int .i64 n_2, .int .i64 n_3, .int .i64 n_4]) (.agg #[.int .i64 n_5, .int .i64 n_6, .int .i64 n_7, .int .i64 n_8])) fun __r => binOp BinOp.neq 79 (.agg #[.int .i64 n_1, .int .i64 n_2, .int .i64 n_3, .int .i64 n_4]) (.agg #[.int .i64 n_5, .int .i64 n_6, .int .i64 n_7, .int .i64 n_8])) fun v => .unB v fun b_1 => .need (0 ≤ n ∧ n < (↑bn : Int)) (.someA bp fun a_2 => .need (AV.val (.pointer (some (Addr.add a_2 (Int.toNat n * 4)))) = AV.val (.pointer (some (Addr.add a_1 (Int.toNat n * 4))))) (.nd (.int .i64 n) (.nd (.slice bp bn bc) (.need (0 ≤ n ∧ n < (↑an : Int)) (.someA ap fun a_3 => .need (AV.val (.pointer (some (Addr.add a_3 (Int.toNat n * 4)))) = AV.val (.pointer (some (Addr.add a (Int.toNat n * 4))))) (.nd (.int .i64 n) (.nd (.slice ap an ac) (bif b_1 then .leaf (.retn [.bool false, .int .i64 n]) else .leaf (.again [.bool b, .int .i64 (IntKind.wrap .i64 (n + 1))]))))))))))) else .leaf (.brk [.bool b, .int .i64 n]))) (fun vs => .popB vs fun b vs => .popI .i64 vs fun n vs => .unNil vs (.leaf (.ret (.bool true)))) (fun vs => .popB vs fun b vs => .popI .i64 vs fun n vs => .unNil vs (.leaf (.ret (.bool b)))) fun x x_1 => .fail
theorem t30 (ap : Option Addr) (an ac : Nat) (bp : Option Addr) (bn bc : Nat) : ftree ({ P := Tryd.prog, priv := [], loops := [{ id := 0, slots := [(4, .bool), (5, .int .i64)], ro := [], outs := [] }], joins := [] }) Tryd.f32 [.slice ap an ac, .slice bp bn bc] = n30 ap an ac bp bn bc := by kernel_rfl
theorem w30 (ap : Option Addr) (an ac : Nat) (bp : Option Addr) (bn bc : Nat) {X : XP} (hX : XOK X) {h : LH} {A : Value → LH → Prop} (hw : (n30 ap an ac bp bn bc).wp X Tryd.prog (retQ A) h) : FWK X Tryd.prog .normal 32 #[.slice ap an ac, .slice bp bn bc] h A := fwk_neat (t30 ap an ac bp bn bc) (by simp) (by kernel_rfl) (by kernel_rfl) hX hw
noncomputable def n36 (u_0 : Int) (u_1 : Int) (u_2 : Int) (u_3 : Int) (u_4p : Option Addr) (u_4n u_4c : Nat) (u_5p : Option Addr) (u_5n u_5c : Nat) (u_6p : Option Addr) (u_6n u_6c : Nat) : T := .call false 17 #[.agg #[.int .i64 u_0, .int .i64 u_1, .int .i64 u_2, .int .i64 u_3, .slice u_4p u_4n u_4c, .slice u_5p u_5n u_5c, .slice u_6p u_6n u_6c]] fun v => .unB v fun b => bif !b then .call false 18 #[.agg #[.int .i64 u_0, .int .i64 u_1, .int .i64 u_2, .int .i64 u_3, .slice u_4p u_4n u_4c, .slice u_5p u_5n u_5c, .slice u_6p u_6n u_6c]] fun v => .unI .i64 v fun n => .leaf (.ret (.bool (n == 0))) else .leaf (.ret (.bool false))
theorem t36 (u_0 : Int) (u_1 : Int) (u_2 : Int) (u_3 : Int) (u_4p : Option Addr) (u_4n u_4c : Nat) (u_5p : Option Addr) (u_5n u_5c : Nat) (u_6p : Option Addr) (u_6n u_6c : Nat) : ftree ({ P := Tryd.prog, priv := [1], loops := [], joins := [] }) Tryd.f5 [.agg #[.int .i64 u_0, .int .i64 u_1, .int .i64 u_2, .int .i64 u_3, .slice u_4p u_4n u_4c, .slice u_5p u_5n u_5c, .slice u_6p u_6n u_6c]] = n36 u_0 u_1 u_2 u_3 u_4p u_4n u_4c u_5p u_5n u_5c u_6p u_6n u_6c := by kernel_rfl
theorem w36 (u_0 : Int) (u_1 : Int) (u_2 : Int) (u_3 : Int) (u_4p : Option Addr) (u_4n u_4c : Nat) (u_5p : Option Addr) (u_5n u_5c : Nat) (u_6p : Option Addr) (u_6n u_6c : Nat) {X : XP} (hX : XOK X) {h : LH} {A : Value → LH → Prop} (hw : (n36 u_0 u_1 u_2 u_3 u_4p u_4n u_4c u_5p u_5n u_5c u_6p u_6n u_6c).wp X Tryd.prog (retQ A) h) : FWK X Tryd.prog .normal 5 #[.agg #[.int .i64 u_0, .int .i64 u_1, .int .i64 u_2, .int .i64 u_3, .slice u_4p u_4n u_4c, .slice u_5p u_5n u_5c, .slice u_6p u_6n u_6c]] h A := fwk_neat (t36 u_0 u_1 u_2 u_3 u_4p u_4n u_4c u_5p u_5n u_5c u_6p u_6n u_6c) (by simp) (by kernel_rfl) (by kernel_rfl) hX hw
noncomputable def n37 (n : Int) : T := .need ((2001 : Int) ≠ 0) (.leaf (.ret (.int .i64 (Int.tmod (IntKind.wrap .i64 n) 2001))))
theorem t37 (n : Int) : ftree ({ P := Tryd.prog, priv := [], loops := [], joins := [] }) Tryd.f9 [.int .u16 n] = n37 n := by kernel_rfl
theorem w37 (n : Int) {X : XP} (hX : XOK X) {h : LH} {A : Value → LH → Prop} (hw : (n37 n).wp X Tryd.prog (retQ A) h) : FWK X Tryd.prog .normal 9 #[.int .u16 n] h A := fwk_neat (t37 n) (by simp) (by kernel_rfl) (by kernel_rfl) hX hw
noncomputable def n42 (a : Int) (b : Int) : T := .leaf (.ret (.agg #[.int .i64 a, .int .i64 b]))
theorem t42 (a : Int) (b : Int) : ftree ({ P := Tryd.prog, priv := [4], loops := [], joins := [] }) Tryd.f29 [.int .i64 a, .int .i64 b] = n42 a b := by kernel_rfl
theorem w42 (a : Int) (b : Int) {X : XP} (hX : XOK X) {h : LH} {A : Value → LH → Prop} (hw : (n42 a b).wp X Tryd.prog (retQ A) h) : FWK X Tryd.prog .normal 29 #[.int .i64 a, .int .i64 b] h A := fwk_neat (t42 a b) (by simp) (by kernel_rfl) (by kernel_rfl) hX hw
noncomputable def n46 (u_0 : Int) (u_1 : Int) (u_2 : Int) (u_3 : Int) (u_4p : Option Addr) (u_4n u_4c : Nat) (u_5p : Option Addr) (u_5n u_5c : Nat) (u_6p : Option Addr) (u_6n u_6c : Nat) (papersp : Option Addr) (papersn papersc : Nat) : T := .loop [.int .i64 0, .int .i64 u_0, .int .i64 u_1, .int .i64 u_2, .int .i64 u_3, .slice u_4p u_4n u_4c, .slice none 0 0, .slice u_6p u_6n u_6c] (fun vs => .popI .i64 vs fun n vs => .popI .i64 vs fun n_1 vs => .popI .i64 vs fun n_2 vs => .popI .i64 vs fun n_3 vs => .popI .i64 vs fun n_4 vs => .popS vs fun a n_5 c vs => .popS vs fun a_1 n_6 c_1 vs => .popS vs fun a_2 n_7 c_2 vs => .unNil vs (bif decide (n < (↑papersn : Int)) then .need (0 ≤ n ∧ n < (↑papersn : Int)) (.someA papersp fun a_3 => .loadI .i64 (Addr.add a_3 (Int.toNat n * 1)) fun n_8 => .need (0 ≤ n_8 ∧ n_8 < (↑u_5n : Int)) (.someA u_5p fun a_4 => .loadI .i64 (Addr.add (Addr.add a_4 (Int.toNat n_8 * 4)) 0) fun n_9 => .loadI .i64 (Addr.add (Addr.add a_4 (Int.toNat n_8 * 4)) 1) fun n_10 => .loadI .i64 (Addr.add (Addr.add a_4 (Int.toNat n_8 * 4)) 2) fun n_11 => .loadS (Addr.add (Addr.add a_4 (Int.toNat n_8 * 4)) 3) fun p n_12 c_3 => .sem false (Instr.buildSlice 23 1 #[(0, .agg #[.int .i64 n_9, .int .i64 n_10, .int .i64 n_11, .slice p n_12 c_3])]) fun v => .unS v fun a_5 n_13 c_4 => .need (0 ≤ n_8 ∧ n_8 < (↑u_5n : Int)) (.someA u_5p fun a_6 => .need (AV.val (.pointer (some (Addr.add a_6 (Int.toNat n_8 * 4)))) = AV.val (.pointer (some (Addr.add a_4 (Int.toNat n_8 * 4))))) (.loadI .i64 (Addr.add a_3 (Int.toNat n * 1)) fun n_14 => .need (AV.val (.int .i64 n_14) = AV.val (.int .i64 n_8)) (.need (0 ≤ n ∧ n < (↑papersn : Int)) (.someA papersp fun a_7 => .need (AV.val (.pointer (some (Addr.add a_7 (Int.toNat n * 1)))) = AV.val (.pointer (some (Addr.add a_3 (Int.toNat n * 1))))) (.nd (.int .i64 n) (.nd (.slice papersp papersn papersc) (.nd (.slice u_5p u_5n u_5c) (.need (AV.pp 2 5 = AV.pp 2 5) (.nd (.slice a_1 n_6 c_1) (.need (AV.pp 5 5 = AV.pp 5 5) (.sem false (Builtin.append_ #[23, 23] 23 #[.slice a_1 n_6 c_1, .slice a_5 n_13 c_4]) fun v => .unS v fun a_8 n_15 c_5 => .need (0 ≤ n_8 ∧ n_8 < (↑u_5n : Int)) (.someA u_5p fun a_9 => .need (AV.val (.pointer (some (Addr.add a_9 (Int.toNat n_8 * 4)))) = AV.val (.pointer (some (Addr.add a_4 (Int.toNat n_8 * 4))))) (.loadI .i64 (Addr.add a_3 (Int.toNat n * 1)) fun n_16 => .need (AV.val (.int .i64 n_16) = AV.val (.int .i64 n_8)) (.need (0 ≤ n ∧ n < (↑papersn : Int)) (.someA papersp fun a_10 => .need (AV.val (.pointer (some (Addr.add a_10 (Int.toNat n * 1)))) = AV.val (.pointer (some (Addr.add a_3 (Int.toNat n * 1))))) (.nd (.int .i64 n) (.nd (.slice papersp papersn papersc) (.nd (.slice u_5p u_5n u_5c) (.need (AV.pp 2 5 = AV.pp 2 5) (.need (AV.pp 5 5 = AV.pp 5 5) (.leaf (.again [.int .i64 (IntKind.wrap .i64 (n + 1)), .int .i64 n_1, .int .i64 n_2, .int .i64 n_3, .int .i64 n_4, .slice a n_5 c, .slice a_8 n_15 c_5, .slice a_2 n_7 c_2])))))))))))))))))))))))) else .leaf (.brk [.int .i64 n, .int .i64 n_1, .int .i64 n_2, .int .i64 n_3, .int .i64 n_4, .slice a n_5 c, .slice a_1 n_6 c_1, .slice a_2 n_7 c_2]))) (fun vs => .popI .i64 vs fun n vs => .popI .i64 vs fun n vs => .popI .i64 vs fun n_1 vs => .popI .i64 vs fun n_2 vs => .popI .i64 vs fun n_3 vs => .popS vs fun a n_4 c vs => .popS vs fun a_1 n_5 c_1 vs => .popS vs fun a_2 n_6 c_2 vs => .unNil vs (.leaf (.ret (.agg #[.int .i64 n, .int .i64 n_1, .int .i64 n_2, .int .i64 n_3, .slice a n_4 c, .slice a_1 n_5 c_1, .slice a_2 n_6 c_2])))) (fun vs => .popI .i64 vs fun n vs => .popI .i64 vs fun n vs => .popI .i64 vs fun n vs => .popI .i64 vs fun n vs => .popI .i64 vs fun n vs => .popS vs fun a n c vs => .popS vs fun a n c vs => .popS vs fun a n c vs => .unNil vs (.leaf (.ret (.agg #[.int .i64 0, .int .i64 0, .int .i64 0, .int .i64 0, .slice none 0 0, .slice none 0 0, .slice none 0 0])))) fun x x_1 => .fail
theorem t46 (u_0 : Int) (u_1 : Int) (u_2 : Int) (u_3 : Int) (u_4p : Option Addr) (u_4n u_4c : Nat) (u_5p : Option Addr) (u_5n u_5c : Nat) (u_6p : Option Addr) (u_6n u_6c : Nat) (papersp : Option Addr) (papersn papersc : Nat) : ftree ({ P := Tryd.prog, priv := [2, 4, 5], loops := [{ id := 0, slots := [(6, .int .i64), (24576, .int .i64), (24577, .int .i64), (24578, .int .i64), (24579, .int .i64), (24580, .slice), (24581, .slice), (24582, .slice)], ro := [2, 4], outs := [] }], joins := [] }) Tryd.f43 [.agg #[.int .i64 u_0, .int .i64 u_1, .int .i64 u_2, .int .i64 u_3, .slice u_4p u_4n u_4c, .slice u_5p u_5n u_5c, .slice u_6p u_6n u_6c], .slice papersp papersn papersc] = n46 u_0 u_1 u_2 u_3 u_4p u_4n u_4c u_5p u_5n u_5c u_6p u_6n u_6c papersp papersn papersc := by kernel_rfl
theorem w46 (u_0 : Int) (u_1 : Int) (u_2 : Int) (u_3 : Int) (u_4p : Option Addr) (u_4n u_4c : Nat) (u_5p : Option Addr) (u_5n u_5c : Nat) (u_6p : Option Addr) (u_6n u_6c : Nat) (papersp : Option Addr) (papersn papersc : Nat) {X : XP} (hX : XOK X) {h : LH} {A : Value → LH → Prop} (hw : (n46 u_0 u_1 u_2 u_3 u_4p u_4n u_4c u_5p u_5n u_5c u_6p u_6n u_6c papersp papersn papersc).wp X Tryd.prog (retQ A) h) : FWK X Tryd.prog .normal 43 #[.agg #[.int .i64 u_0, .int .i64 u_1, .int .i64 u_2, .int .i64 u_3, .slice u_4p u_4n u_4c, .slice u_5p u_5n u_5c, .slice u_6p u_6n u_6c], .slice papersp papersn papersc] h A := fwk_neat (t46 u_0 u_1 u_2 u_3 u_4p u_4n u_4c u_5p u_5n u_5c u_6p u_6n u_6c papersp papersn papersc) (by simp) (by kernel_rfl) (by kernel_rfl) hX hw
noncomputable def n50 (lp : Option Addr) (ln lc : Nat) (k : Int) : T := bif decide (k < (↑ln : Int)) then .need (0 ≤ k ∧ k < (↑ln : Int)) (.someA lp fun a => .loadI .u16 (Addr.add a (Int.toNat k * 1)) fun n => .leaf (.ret (.int .i64 (IntKind.wrap .i64 n)))) else .leaf (.ret (.int .i64 0))
theorem t50 (lp : Option Addr) (ln lc : Nat) (k : Int) : ftree ({ P := Tryd.prog, priv := [], loops := [], joins := [] }) Tryd.f42 [.slice lp ln lc, .int .i64 k] = n50 lp ln lc k := by kernel_rfl
theorem w50 (lp : Option Addr) (ln lc : Nat) (k : Int) {X : XP} (hX : XOK X) {h : LH} {A : Value → LH → Prop} (hw : (n50 lp ln lc k).wp X Tryd.prog (retQ A) h) : FWK X Tryd.prog .normal 42 #[.slice lp ln lc, .int .i64 k] h A := fwk_neat (t50 lp ln lc k) (by simp) (by kernel_rfl) (by kernel_rfl) hX hw
noncomputable def n52  : T := .call false 29 #[.int .i64 21, .int .i64 23] fun v => .unAgg v fun l => .popI .i64 l fun n vs => .popI .i64 vs fun n_1 vs => .unNil vs (.sem false (Instr.buildSlice 22 1 #[(0, .agg #[.int .i64 n, .int .i64 n_1])]) fun v => .unS v fun a n c => .call false 29 #[.int .i64 12, .int .i64 14] fun v => .unAgg v fun l => .popI .i64 l fun n_2 vs => .popI .i64 vs fun n_3 vs => .unNil vs (.sem false (Instr.buildSlice 28 2 #[(0, .int .i64 0), (1, .int .i64 1)]) fun v => .unS v fun a_1 n_4 c_1 => .call false 29 #[.int .i64 19, .int .i64 19] fun v => .unAgg v fun l => .popI .i64 l fun n_5 vs => .popI .i64 vs fun n_6 vs => .unNil vs (.sem false (Instr.buildSlice 28 1 #[(0, .int .i64 0)]) fun v => .unS v fun a_2 n_7 c_2 => .call false 29 #[.int .i64 17, .int .i64 26] fun v => .unAgg v fun l => .popI .i64 l fun n_8 vs => .popI .i64 vs fun n_9 vs => .unNil vs (.sem false (Instr.buildSlice 28 1 #[(0, .int .i64 2)]) fun v => .unS v fun a_3 n_10 c_3 => .call false 29 #[.int .i64 18, .int .i64 18] fun v => .unAgg v fun l => .popI .i64 l fun n_11 vs => .popI .i64 vs fun n_12 vs => .unNil vs (.sem false (Instr.buildSlice 28 2 #[(0, .int .i64 0), (1, .int .i64 1)]) fun v => .unS v fun a_4 n_13 c_4 => .sem false (Instr.buildSlice 23 4 #[(0, .agg #[.int .i64 n_2, .int .i64 n_3, .int .i64 0, .slice a_1 n_4 c_1]), (1, .agg #[.int .i64 n_5, .int .i64 n_6, .int .i64 0, .slice a_2 n_7 c_2]), (2, .agg #[.int .i64 n_8, .int .i64 n_9, .int .i64 0, .slice a_3 n_10 c_3]), (3, .agg #[.int .i64 n_11, .int .i64 n_12, .int .i64 1, .slice a_4 n_13 c_4])]) fun v => .unS v fun a_5 n_14 c_5 => .sem false (Instr.buildSlice 28 3 #[(0, .int .i64 0), (1, .int .i64 1), (2, .int .i64 2)]) fun v => .unS v fun a_6 n_15 c_6 => .sem false (Instr.buildSlice 28 2 #[(0, .int .i64 0), (1, .int .i64 2)]) fun v => .unS v fun a_7 n_16 c_7 => .sem false (Instr.buildSlice 24 2 #[(0, .agg #[.int .i64 20, .int .i64 0, .slice a_6 n_15 c_6]), (1, .agg #[.int .i64 25, .int .i64 0, .slice a_7 n_16 c_7])]) fun v => .unS v fun a_8 n_17 c_8 => .leaf (.ret (.agg #[.int .i64 3, .int .i64 2, .int .i64 10, .int .i64 5, .slice a n c, .slice a_5 n_14 c_5, .slice a_8 n_17 c_8])))))))
theorem t52  : ftree ({ P := Tryd.prog, priv := [0], loops := [], joins := [] }) Tryd.f21 [] = n52  := by kernel_rfl
theorem w52  {X : XP} (hX : XOK X) {h : LH} {A : Value → LH → Prop} (hw : (n52 ).wp X Tryd.prog (retQ A) h) : FWK X Tryd.prog .normal 21 #[] h A := fwk_neat (t52 ) (by simp) (by kernel_rfl) (by kernel_rfl) hX hw
noncomputable def n56 (n : Int) : T := .call false 19 #[.int .i64 n, .int .i64 0, .int .i64 2000] fun v => .unB v fun b => .leaf (.ret (.bool b))
theorem t56 (n : Int) : ftree ({ P := Tryd.prog, priv := [], loops := [], joins := [] }) Tryd.f55 [.int .i64 n] = n56 n := by kernel_rfl
theorem w56 (n : Int) {X : XP} (hX : XOK X) {h : LH} {A : Value → LH → Prop} (hw : (n56 n).wp X Tryd.prog (retQ A) h) : FWK X Tryd.prog .normal 55 #[.int .i64 n] h A := fwk_neat (t56 n) (by simp) (by kernel_rfl) (by kernel_rfl) hX hw
noncomputable def n66 (lp : Option Addr) (ln lc : Nat) : T := bif decide ((↑ln : Int) > 4) then .leaf (.ret (.int .i64 2)) else .loop [.int .i64 0, .int .i64 0] (fun vs => .popI .i64 vs fun n vs => .popI .i64 vs fun n_1 vs => .unNil vs (bif decide (n_1 < (↑ln : Int)) then .need (0 ≤ n_1 ∧ n_1 < (↑ln : Int)) (.someA lp fun a => .loadI .i64 (Addr.add (Addr.add a (Int.toNat n_1 * 2)) 0) fun n_2 => .loadI .i64 (Addr.add (Addr.add a (Int.toNat n_1 * 2)) 1) fun n_3 => .call false 20 #[.agg #[.int .i64 n_2, .int .i64 n_3], .int .i64 0, .int .i64 2000] fun v => .unB v fun b => bif !b then .leaf (.retn [.int .i64 1, .int .i64 n_1]) else .leaf (.again [.int .i64 n, .int .i64 (IntKind.wrap .i64 (n_1 + 1))])) else .leaf (.brk [.int .i64 n, .int .i64 n_1]))) (fun vs => .popI .i64 vs fun n vs => .popI .i64 vs fun n vs => .unNil vs (.leaf (.ret (.int .i64 0)))) (fun vs => .popI .i64 vs fun n vs => .popI .i64 vs fun n_1 vs => .unNil vs (.leaf (.ret (.int .i64 n)))) fun x x_1 => .fail
theorem t66 (lp : Option Addr) (ln lc : Nat) : ftree ({ P := Tryd.prog, priv := [], loops := [{ id := 0, slots := [(2, .int .i64), (3, .int .i64)], ro := [], outs := [] }], joins := [] }) Tryd.f56 [.slice lp ln lc] = n66 lp ln lc := by kernel_rfl
theorem w66 (lp : Option Addr) (ln lc : Nat) {X : XP} (hX : XOK X) {h : LH} {A : Value → LH → Prop} (hw : (n66 lp ln lc).wp X Tryd.prog (retQ A) h) : FWK X Tryd.prog .normal 56 #[.slice lp ln lc] h A := fwk_neat (t66 lp ln lc) (by simp) (by kernel_rfl) (by kernel_rfl) hX hw
noncomputable def n67 (u_0 : Int) (u_1 : Int) (u_2 : Int) (u_3 : Int) (u_4p : Option Addr) (u_4n u_4c : Nat) (u_5p : Option Addr) (u_5n u_5c : Nat) (u_6p : Option Addr) (u_6n u_6c : Nat) : T := bif decide ((↑u_5n : Int) > 8) then .leaf (.ret (.int .i64 2)) else .loop [.int .i64 0, .int .i64 0] (fun vs => .popI .i64 vs fun n vs => .popI .i64 vs fun n_1 vs => .unNil vs (bif decide (n_1 < (↑u_5n : Int)) then .need (0 ≤ n_1 ∧ n_1 < (↑u_5n : Int)) (.someA u_5p fun a => .loadI .i64 (Addr.add (Addr.add a (Int.toNat n_1 * 4)) 0) fun n_2 => .loadI .i64 (Addr.add (Addr.add a (Int.toNat n_1 * 4)) 1) fun n_3 => .loadI .i64 (Addr.add (Addr.add a (Int.toNat n_1 * 4)) 2) fun n_4 => .loadS (Addr.add (Addr.add a (Int.toNat n_1 * 4)) 3) fun p n_5 c => .call false 20 #[.agg #[.int .i64 n_2, .int .i64 n_3], .int .i64 0, .int .i64 2000] fun v => .unB v fun b => bif !b then .leaf (.retn [.int .i64 1, .int .i64 n_1]) else .call false 19 #[.int .i64 n_4, .int .i64 0, .int .i64 (IntKind.wrap .i64 (u_1 - 1))] fun v => .unB v fun b => bif !b then .leaf (.retn [.int .i64 6, .int .i64 n_1]) else .call false 91 #[.slice p n_5 c, .int .i64 u_0] fun v => .unI .i64 v fun n_6 => bif n_6 != 0 then .leaf (.retn [.int .i64 n_6, .int .i64 n_1]) else .leaf (.again [.int .i64 n, .int .i64 (IntKind.wrap .i64 (n_1 + 1))])) else .leaf (.brk [.int .i64 n, .int .i64 n_1]))) (fun vs => .popI .i64 vs fun n vs => .popI .i64 vs fun n vs => .unNil vs (.leaf (.ret (.int .i64 0)))) (fun vs => .popI .i64 vs fun n vs => .popI .i64 vs fun n_1 vs => .unNil vs (.leaf (.ret (.int .i64 n)))) fun x x_1 => .fail
theorem t67 (u_0 : Int) (u_1 : Int) (u_2 : Int) (u_3 : Int) (u_4p : Option Addr) (u_4n u_4c : Nat) (u_5p : Option Addr) (u_5n u_5c : Nat) (u_6p : Option Addr) (u_6n u_6c : Nat) : ftree ({ P := Tryd.prog, priv := [1, 4], loops := [{ id := 0, slots := [(2, .int .i64), (3, .int .i64)], ro := [1], outs := [] }], joins := [] }) Tryd.f57 [.agg #[.int .i64 u_0, .int .i64 u_1, .int .i64 u_2, .int .i64 u_3, .slice u_4p u_4n u_4c, .slice u_5p u_5n u_5c, .slice u_6p u_6n u_6c]] = n67 u_0 u_1 u_2 u_3 u_4p u_4n u_4c u_5p u_5n u_5c u_6p u_6n u_6c := by kernel_rfl
theorem w67 (u_0 : Int) (u_1 : Int) (u_2 : Int) (u_3 : Int) (u_4p : Option Addr) (u_4n u_4c : Nat) (u_5p : Option Addr) (u_5n u_5c : Nat) (u_6p : Option Addr) (u_6n u_6c : Nat) {X : XP} (hX : XOK X) {h : LH} {A : Value → LH → Prop} (hw : (n67 u_0 u_1 u_2 u_3 u_4p u_4n u_4c u_5p u_5n u_5c u_6p u_6n u_6c).wp X Tryd.prog (retQ A) h) : FWK X Tryd.prog .normal 57 #[.agg #[.int .i64 u_0, .int .i64 u_1, .int .i64 u_2, .int .i64 u_3, .slice u_4p u_4n u_4c, .slice u_5p u_5n u_5c, .slice u_6p u_6n u_6c]] h A := fwk_neat (t67 u_0 u_1 u_2 u_3 u_4p u_4n u_4c u_5p u_5n u_5c u_6p u_6n u_6c) (by simp) (by kernel_rfl) (by kernel_rfl) hX hw
noncomputable def n68 (u_0 : Int) (u_1 : Int) (u_2 : Int) (u_3 : Int) (u_4p : Option Addr) (u_4n u_4c : Nat) (u_5p : Option Addr) (u_5n u_5c : Nat) (u_6p : Option Addr) (u_6n u_6c : Nat) : T := bif decide ((↑u_6n : Int) > 4) then .leaf (.ret (.int .i64 2)) else .loop [.int .i64 0, .int .i64 0] (fun vs => .popI .i64 vs fun n vs => .popI .i64 vs fun n_1 vs => .unNil vs (bif decide (n_1 < (↑u_6n : Int)) then .need (0 ≤ n_1 ∧ n_1 < (↑u_6n : Int)) (.someA u_6p fun a => .loadI .i64 (Addr.add (Addr.add a (Int.toNat n_1 * 3)) 0) fun n_2 => .loadI .i64 (Addr.add (Addr.add a (Int.toNat n_1 * 3)) 1) fun n_3 => .loadS (Addr.add (Addr.add a (Int.toNat n_1 * 3)) 2) fun p n_4 c => .call false 55 #[.int .i64 n_2] fun v => .unB v fun b => bif !b then .leaf (.retn [.int .i64 1, .int .i64 n_1]) else .blk (bif decide (n_2 < u_2) then .nd (.bool (decide (n_2 < u_2))) (.nd (.int .i64 u_2) (.need (AV.pp 1 2 = AV.pp 1 2) (.nd (.int .i64 n_2) (.need (AV.pp 4 0 = AV.pp 4 0) (.nd (.tuple #[]) (.nd (.tuple #[]) (.nd (.tuple #[]) (.nd (.tuple #[]) (.nd (.bool (decide (n_2 < u_2))) (.nd (.int .i64 u_2) (.need (AV.pp 1 2 = AV.pp 1 2) (.nd (.int .i64 n_2) (.need (AV.pp 4 0 = AV.pp 4 0) (.nd (.tuple #[]) (.nd (.tuple #[]) (.nd (.tuple #[]) (.nd (.tuple #[]) (.nd (.tuple #[]) (.nd (.bool (decide (n_2 < u_2))) (.nd (.int .i64 u_2) (.need (AV.pp 1 2 = AV.pp 1 2) (.nd (.int .i64 n_2) (.need (AV.pp 4 0 = AV.pp 4 0) (.leaf (.retn [.int .i64 7]))))))))))))))))))))))))) else bif decide (n_1 > 0) then .need (0 ≤ IntKind.wrap .i64 (n_1 - 1) ∧ IntKind.wrap .i64 (n_1 - 1) < (↑u_6n : Int)) (.someA u_6p fun a => .loadI .i64 (Addr.add (Addr.add a (Int.toNat (IntKind.wrap .i64 (n_1 - 1)) * 3)) 0) fun n_5 => bif decide (n_2 < n_5) then .leaf (.retn [.int .i64 7]) else .leaf (.again [.int .i64 n])) else .nd (.tuple #[]) (.nd (.tuple #[]) (.nd (.tuple #[]) (.nd (.tuple #[]) (.nd (.bool (decide (n_1 > 0))) (.nd (.int .i64 n_1) (.need (AV.val (.bool (decide (n_2 < u_2))) = AV.val (.bool false)) (.nd (.bool (decide (n_2 < u_2))) (.nd (.int .i64 u_2) (.need (AV.pp 1 2 = AV.pp 1 2) (.nd (.int .i64 n_2) (.need (AV.pp 4 0 = AV.pp 4 0) (.nd (.tuple #[]) (.nd (.tuple #[]) (.nd (.tuple #[]) (.nd (.tuple #[]) (.nd (.tuple #[]) (.nd (.bool (decide (n_1 > 0))) (.nd (.int .i64 n_1) (.need (AV.val (.bool (decide (n_2 < u_2))) = AV.val (.bool false)) (.nd (.bool (decide (n_2 < u_2))) (.nd (.int .i64 u_2) (.need (AV.pp 1 2 = AV.pp 1 2) (.nd (.int .i64 n_2) (.need (AV.pp 4 0 = AV.pp 4 0) (.leaf (.again [.int .i64 n]))))))))))))))))))))))))))) (fun vs => .popI .i64 vs fun n vs => .unNil vs (.call false 19 #[.int .i64 n_3, .int .i64 0, .int .i64 (IntKind.wrap .i64 (u_1 - 1))] fun v => .unB v fun b => bif !b then .leaf (.retn [.int .i64 6, .int .i64 n_1]) else .call false 91 #[.slice p n_4 c, .int .i64 u_0] fun v => .unI .i64 v fun n_5 => bif n_5 != 0 then .leaf (.retn [.int .i64 n_5, .int .i64 n_1]) else .leaf (.again [.int .i64 n, .int .i64 (IntKind.wrap .i64 (n_1 + 1))]))) (fun vs => .popI .i64 vs fun n vs => .unNil vs (.leaf (.retn [.int .i64 n, .int .i64 n_1]))) fun x x_1 => .fail) else .leaf (.brk [.int .i64 n, .int .i64 n_1]))) (fun vs => .popI .i64 vs fun n vs => .popI .i64 vs fun n vs => .unNil vs (.leaf (.ret (.int .i64 0)))) (fun vs => .popI .i64 vs fun n vs => .popI .i64 vs fun n_1 vs => .unNil vs (.leaf (.ret (.int .i64 n)))) fun x x_1 => .fail
theorem t68 (u_0 : Int) (u_1 : Int) (u_2 : Int) (u_3 : Int) (u_4p : Option Addr) (u_4n u_4c : Nat) (u_5p : Option Addr) (u_5n u_5c : Nat) (u_6p : Option Addr) (u_6n u_6c : Nat) : ftree ({ P := Tryd.prog, priv := [1, 4], loops := [{ id := 0, slots := [(2, .int .i64), (3, .int .i64)], ro := [1], outs := [] }], joins := [{ id := 11, slots := [(2, .int .i64)], ro := [1, 4], outs := [] }] }) Tryd.f58 [.agg #[.int .i64 u_0, .int .i64 u_1, .int .i64 u_2, .int .i64 u_3, .slice u_4p u_4n u_4c, .slice u_5p u_5n u_5c, .slice u_6p u_6n u_6c]] = n68 u_0 u_1 u_2 u_3 u_4p u_4n u_4c u_5p u_5n u_5c u_6p u_6n u_6c := by kernel_rfl
theorem w68 (u_0 : Int) (u_1 : Int) (u_2 : Int) (u_3 : Int) (u_4p : Option Addr) (u_4n u_4c : Nat) (u_5p : Option Addr) (u_5n u_5c : Nat) (u_6p : Option Addr) (u_6n u_6c : Nat) {X : XP} (hX : XOK X) {h : LH} {A : Value → LH → Prop} (hw : (n68 u_0 u_1 u_2 u_3 u_4p u_4n u_4c u_5p u_5n u_5c u_6p u_6n u_6c).wp X Tryd.prog (retQ A) h) : FWK X Tryd.prog .normal 58 #[.agg #[.int .i64 u_0, .int .i64 u_1, .int .i64 u_2, .int .i64 u_3, .slice u_4p u_4n u_4c, .slice u_5p u_5n u_5c, .slice u_6p u_6n u_6c]] h A := fwk_neat (t68 u_0 u_1 u_2 u_3 u_4p u_4n u_4c u_5p u_5n u_5c u_6p u_6n u_6c) (by simp) (by kernel_rfl) (by kernel_rfl) hX hw
noncomputable def n72 (lp : Option Addr) (ln lc : Nat) (below : Int) : T := .loop [.int .i64 0, .int .i64 0] (fun vs => .popI .i64 vs fun n vs => .popI .i64 vs fun n_1 vs => .unNil vs (bif decide (n_1 < (↑ln : Int)) then .need (0 ≤ n_1 ∧ n_1 < (↑ln : Int)) (.someA lp fun a => .loadI .i64 (Addr.add a (Int.toNat n_1 * 1)) fun n_2 => .call false 19 #[.int .i64 n_2, .int .i64 0, .int .i64 (IntKind.wrap .i64 (below - 1))] fun v => .unB v fun b => bif !b then .leaf (.retn [.int .i64 6, .int .i64 n_1]) else bif decide (n_1 > 0) then .need (0 ≤ n_1 ∧ n_1 < (↑ln : Int)) (.someA lp fun a => .loadI .i64 (Addr.add a (Int.toNat n_1 * 1)) fun n_3 => .need (0 ≤ IntKind.wrap .i64 (n_1 - 1) ∧ IntKind.wrap .i64 (n_1 - 1) < (↑ln : Int)) (.someA lp fun a => .loadI .i64 (Addr.add a (Int.toNat (IntKind.wrap .i64 (n_1 - 1)) * 1)) fun n_4 => bif decide (n_3 ≤ n_4) then .leaf (.retn [.int .i64 7, .int .i64 n_1]) else .leaf (.again [.int .i64 n, .int .i64 (IntKind.wrap .i64 (n_1 + 1))]))) else .nd (.tuple #[]) (.nd (.tuple #[]) (.nd (.tuple #[]) (.nd (.tuple #[]) (.nd (.tuple #[]) (.nd (.bool (decide (n_1 > 0))) (.nd (.int .i64 n_1) (.nd (.tuple #[]) (.nd (.tuple #[]) (.nd (.tuple #[]) (.nd (.tuple #[]) (.nd (.tuple #[]) (.nd (.bool (decide (n_1 > 0))) (.nd (.int .i64 n_1) (.leaf (.again [.int .i64 n, .int .i64 (IntKind.wrap .i64 (n_1 + 1))])))))))))))))))) else .leaf (.brk [.int .i64 n, .int .i64 n_1]))) (fun vs => .popI .i64 vs fun n vs => .popI .i64 vs fun n vs => .unNil vs (.leaf (.ret (.int .i64 0)))) (fun vs => .popI .i64 vs fun n vs => .popI .i64 vs fun n_1 vs => .unNil vs (.leaf (.ret (.int .i64 n)))) fun x x_1 => .fail
theorem t72 (lp : Option Addr) (ln lc : Nat) (below : Int) : ftree ({ P := Tryd.prog, priv := [], loops := [{ id := 0, slots := [(4, .int .i64), (5, .int .i64)], ro := [], outs := [] }], joins := [] }) Tryd.f91 [.slice lp ln lc, .int .i64 below] = n72 lp ln lc below := by kernel_rfl
theorem w72 (lp : Option Addr) (ln lc : Nat) (below : Int) {X : XP} (hX : XOK X) {h : LH} {A : Value → LH → Prop} (hw : (n72 lp ln lc below).wp X Tryd.prog (retQ A) h) : FWK X Tryd.prog .normal 91 #[.slice lp ln lc, .int .i64 below] h A := fwk_neat (t72 lp ln lc below) (by simp) (by kernel_rfl) (by kernel_rfl) hX hw
noncomputable def n93 (x_0 : Int) (x_1 : Int) (first : Int) (last : Int) : T := bif decide (first ≤ x_0) then bif decide (x_0 ≤ x_1) then .leaf (.ret (.bool (decide (x_1 ≤ last)))) else .leaf (.ret (.bool false)) else .leaf (.ret (.bool false))
theorem t93 (x_0 : Int) (x_1 : Int) (first : Int) (last : Int) : ftree ({ P := Tryd.prog, priv := [3], loops := [], joins := [] }) Tryd.f20 [.agg #[.int .i64 x_0, .int .i64 x_1], .int .i64 first, .int .i64 last] = n93 x_0 x_1 first last := by kernel_rfl
theorem w93 (x_0 : Int) (x_1 : Int) (first : Int) (last : Int) {X : XP} (hX : XOK X) {h : LH} {A : Value → LH → Prop} (hw : (n93 x_0 x_1 first last).wp X Tryd.prog (retQ A) h) : FWK X Tryd.prog .normal 20 #[.agg #[.int .i64 x_0, .int .i64 x_1], .int .i64 first, .int .i64 last] h A := fwk_neat (t93 x_0 x_1 first last) (by simp) (by kernel_rfl) (by kernel_rfl) hX hw
end Go.Proofs.YtldamlcehbdkdaaDoor
end
section
namespace Go.Proofs.YtldamlcehbdkdaaDoor
open Go Go.TM Go.Proofs
attribute [local irreducible] T.wp CV FWK
theorem c49 {h : LH} (n a b : Int) : Pu Tryd.prog 19 #[.int .i64 n, .int .i64 a, .int .i64 b] h (.bool (isIn n a b)) := by
  refine w49 _ _ _ X0_ok ?_
  unfold n49
  refine t_if (fun e => ?_) (fun e => ?_) <;> refine t_ret ⟨?_, rfl⟩ <;> simp [isIn, e]
theorem c56 {h : LH} (n : Int) : Pu Tryd.prog 55 #[.int .i64 n] h (.bool (isDay n)) := by
  refine w56 _ X0_ok ?_
  unfold n56
  refine t_pu (c49 _ _ _) ?_
  refine gZ ?_
  exact t_ret ⟨rfl, rfl⟩
theorem c93 {h : LH} (a b x y : Int) : Pu Tryd.prog 20 #[.agg #[.int .i64 a, .int .i64 b], .int .i64 x, .int .i64 y] h (.bool (decide (x ≤ a) && (decide (a ≤ b) && decide (b ≤ y)))) := by
  refine w93 _ _ _ _ X0_ok ?_
  unfold n93
  refine t_if (fun e => ?_) (fun e => ?_)
  · refine t_if (fun e' => ?_) (fun e' => ?_) <;> refine t_ret ⟨?_, rfl⟩ <;> simp [e, e']
  · refine t_ret ⟨?_, rfl⟩; simp [e]
theorem inside_span (x : Span) : (decide ((0 : Int) ≤ x.first) && (decide (x.first ≤ x.last) && decide (x.last ≤ 2000))) = isSpan x := by
  unfold isSpan isDay isIn
  rw [Bool.eq_iff_iff]
  simp only [Bool.and_eq_true, decide_eq_true_eq]
  omega
theorem c72 {h : LH} {below : Int} {p : Option Addr} {n c : Nat} {l : List Int} (hl : Sl IntE 1 h.get p n l) (hb : IsI (below - 1)) : Pu Tryd.prog 91 #[.slice p n c, .int .i64 below] h (.int .i64 (risesF l below)) := by
  refine w72 _ _ _ _ X0_ok ?_
  unfold n72
  have hn := hl.1
  have hbn := hl.2.1
  have hw : IntKind.wrap .i64 (below - 1) = below - 1 := wrap_id hb.1 hb.2
  refine t_loop (fun mm vs h' => h = h' ∧ ∃ i : Nat, vs = [.int .i64 0, .int .i64 i] ∧ i ≤ n ∧ mm = n - i ∧ risesF l below = firstF (riseF l below) i (l.drop i)) ⟨rfl, 0, rfl, Nat.zero_le _, rfl, rfl⟩ ?_
  rintro Y mm vs _ hY ⟨rfl, i, rfl, hi, rfl, hc⟩
  refine gZ ?_
  refine t_if (fun e => ?_) (fun e => ?_)
  · obtain ⟨x, a, hx, ha, e1⟩ := hl.at (i := i) (by omega)
    unfold IntE at e1
    rw [drop_of hx, firstF] at hc
    refine gZ ?_
    refine t_pu (c49 _ _ _) ?_
    refine gZ ?_
    rw [hw]
    have next : riseF l below i x = 0 → Y [.int .i64 0, .int .i64 (IntKind.wrap .i64 ((i : Int) + 1))] h := by
      intro hz
      rw [if_neg (by simp [hz])] at hc
      refine hY (n - (i + 1)) _ _ (by omega) ⟨rfl, i + 1, ?_, by omega, rfl, hc⟩
      rw [wrap_id (by omega) (by omega)]; rfl
    have stop : ∀ z : Int, z ≠ 0 → riseF l below i x = z → risesF l below = z := by
      intro z hz hr
      rw [if_pos (by rw [hr]; exact hz), hr] at hc; exact hc
    refine t_cond (fun b => ?_) (fun b => ?_)
    · refine gZ ?_
      have b' : isIn x 0 (below - 1) = false := by simpa using b
      exact t_ret ⟨by rw [stop 6 (by omega) (by rw [riseF, if_pos b'])], rfl⟩
    · have b' : ¬ isIn x 0 (below - 1) = false := by simp at b; simp [b]
      refine t_if (fun e2 => ?_) (fun e2 => ?_)
      · obtain ⟨y, a2, hy, ha2, e3⟩ := hl.at (i := i - 1) (by omega)
        unfold IntE at e3
        rw [ha] at ha2; cases ha2
        have hwi : IntKind.wrap .i64 ((i : Int) - 1) = ((i - 1 : Nat) : Int) := by rw [wrap_id (by omega) (by omega)]; omega
        have hg : l.getD (i - 1) 0 = y := by simp [List.getD, hy]
        rw [hwi]
        refine gZ ?_
        refine t_if (fun e4 => ?_) (fun e4 => ?_)
        · refine gZ ?_
          exact t_ret ⟨by rw [stop 7 (by omega) (by rw [riseF, if_neg b', if_pos ⟨by omega, by rw [hg]; exact e4⟩])], rfl⟩
        · exact t_again (next (by rw [riseF, if_neg b', if_neg (by rw [hg]; omega)]))
      · refine gZ ?_
        exact t_again (next (by rw [riseF, if_neg b', if_neg (by omega)]))
  · refine gZ ?_
    rw [List.drop_eq_nil_of_le (by omega)] at hc
    exact t_ret ⟨by rw [hc]; rfl, rfl⟩
theorem c66 {h : LH} {p : Option Addr} {n c : Nat} {l : List Span} (hl : Sl SpanE 2 h.get p n l) : Pu Tryd.prog 56 #[.slice p n c] h (.int .i64 (eachF 4 (fun _ x => if isSpan x then 0 else 1) l)) := by
  refine w66 _ _ _ X0_ok ?_
  unfold n66
  have hn := hl.1
  have hbn := hl.2.1
  refine t_if (fun e => ?_) (fun e => ?_)
  · exact t_ret ⟨by rw [eachF, if_pos (by omega)], rfl⟩
  have he : eachF 4 (fun _ x => if isSpan x then 0 else 1) l = firstF (fun _ x => if isSpan x then 0 else 1) 0 l := by rw [eachF, if_neg (by omega)]
  refine t_loop (fun mm vs h' => h = h' ∧ ∃ i : Nat, vs = [.int .i64 0, .int .i64 i] ∧ i ≤ n ∧ mm = n - i ∧ eachF 4 (fun _ x => if isSpan x then 0 else 1) l = firstF (fun _ x => if isSpan x then 0 else 1) i (l.drop i)) ⟨rfl, 0, rfl, Nat.zero_le _, rfl, he⟩ ?_
  rintro Y mm vs _ hY ⟨rfl, i, rfl, hi, rfl, hc⟩
  refine gZ ?_
  refine t_if (fun e => ?_) (fun e => ?_)
  · obtain ⟨x, a, hx, ha, e1, e2⟩ := hl.at (i := i) (by omega)
    rw [drop_of hx, firstF] at hc
    refine gZ ?_
    refine t_pu (c93 _ _ _ _) ?_
    rw [inside_span]
    refine gZ ?_
    refine t_cond (fun b => ?_) (fun b => ?_)
    · refine gZ ?_
      have b' : isSpan x = false := by simpa using b
      rw [b'] at hc
      exact t_ret ⟨by rw [hc]; rfl, rfl⟩
    · have b' : isSpan x = true := by simpa using b
      rw [b'] at hc
      refine t_again (hY (n - (i + 1)) _ _ (by omega) ⟨rfl, i + 1, ?_, by omega, rfl, by simpa using hc⟩)
      rw [wrap_id (by omega) (by omega)]; rfl
  · refine gZ ?_
    rw [List.drop_eq_nil_of_le (by omega)] at hc
    exact t_ret ⟨by rw [hc]; rfl, rfl⟩
theorem c67 {h : LH} {f : FileC} {u : UseFile} (hu : FileR h.get f u) (hnum : numbersF u = 0) : Pu Tryd.prog 57 #[fileV f u] h (.int .i64 (papersF u)) := by
  refine w67 _ _ _ _ _ _ _ _ _ _ _ _ _ X0_ok ?_
  unfold n67
  have hp := hu.papers
  have hn := hp.1
  have hbn := hp.2.1
  have hw : IntKind.wrap .i64 (u.lands - 1) = u.lands - 1 := wrap_id (num_lands hnum).1 (num_lands hnum).2
  refine t_if (fun e => ?_) (fun e => ?_)
  · exact t_ret ⟨by rw [papersF, eachF, if_pos (by omega)], rfl⟩
  have he : papersF u = firstF (fun _ p => paperF u p) 0 u.papers := by rw [papersF, eachF, if_neg (by omega)]
  refine t_loop (fun mm vs h' => h = h' ∧ ∃ i : Nat, vs = [.int .i64 0, .int .i64 i] ∧ i ≤ f.n5 ∧ mm = f.n5 - i ∧ papersF u = firstF (fun _ p => paperF u p) i (u.papers.drop i)) ⟨rfl, 0, rfl, Nat.zero_le _, rfl, he⟩ ?_
  rintro Y mm vs _ hY ⟨rfl, i, rfl, hi, rfl, hc⟩
  refine gZ ?_
  refine t_if (fun e => ?_) (fun e => ?_)
  · obtain ⟨x, a, hx, ha, e1, e2, e3, q, m, c, e4, e5⟩ := hp.at (i := i) (by omega)
    rw [drop_of hx, firstF] at hc
    refine gZ ?_
    have next : paperF u x = 0 → Y [.int .i64 0, .int .i64 (IntKind.wrap .i64 ((i : Int) + 1))] h := by
      intro hz
      rw [if_neg (by simp [hz])] at hc
      refine hY (f.n5 - (i + 1)) _ _ (by omega) ⟨rfl, i + 1, ?_, by omega, rfl, hc⟩
      rw [wrap_id (by omega) (by omega)]; rfl
    have stop : ∀ z : Int, z ≠ 0 → paperF u x = z → papersF u = z := by
      intro z hz hr
      rw [if_pos (by rw [hr]; exact hz), hr] at hc; exact hc
    refine t_pu (c93 _ _ _ _) ?_
    rw [inside_span x.days]
    refine gZ ?_
    refine t_cond (fun b => ?_) (fun b => ?_)
    · refine gZ ?_
      have b' : isSpan x.days = false := by simpa using b
      exact t_ret ⟨by rw [stop 1 (by omega) (by rw [paperF, if_pos b'])], rfl⟩
    have b1 : ¬ isSpan x.days = false := by simp at b; simp [b]
    refine t_pu (c49 _ _ _) ?_
    rw [hw]
    refine gZ ?_
    refine t_cond (fun b => ?_) (fun b => ?_)
    · refine gZ ?_
      have b' : isIn x.land 0 (u.lands - 1) = false := by simpa using b
      exact t_ret ⟨by rw [stop 6 (by omega) (by rw [paperF, if_neg b1, if_pos b'])], rfl⟩
    have b2 : ¬ isIn x.land 0 (u.lands - 1) = false := by simp at b; simp [b]
    refine t_pu (c72 e5 (num_items hnum)) ?_
    refine gZ ?_
    have hr : paperF u x = risesF x.items u.items := by rw [paperF, if_neg b1, if_neg b2]
    refine t_cond (fun b => ?_) (fun b => ?_)
    · refine gZ ?_
      exact t_ret ⟨by rw [stop _ (by simpa using b) hr], rfl⟩
    · exact t_again (next (by rw [hr]; simpa using b))
  · refine gZ ?_
    rw [List.drop_eq_nil_of_le (by omega)] at hc
    exact t_ret ⟨by rw [hc]; rfl, rfl⟩
def lateB (u : UseFile) (i : Nat) (x : Request) : Bool := decide (x.day < u.from_) || (decide (0 < i) && (match u.requests[i - 1]? with | some q => decide (x.day < q.day) | none => false))
theorem requestF_eq (u : UseFile) (i : Nat) (x : Request) : requestF u i x = if isDay x.day = false then 1 else if lateB u i x = true then 7 else if isIn x.land 0 (u.lands - 1) = false then 6 else risesF x.items u.items := rfl
theorem lateB_prev {u : UseFile} {i : Nat} {x y : Request} (hy : u.requests[i - 1]? = some y) : lateB u i x = (decide (x.day < u.from_) || (decide (0 < i) && decide (x.day < y.day))) := by
  unfold lateB; rw [hy]
theorem c68 {h : LH} {f : FileC} {u : UseFile} (hu : FileR h.get f u) (hnum : numbersF u = 0) : Pu Tryd.prog 58 #[fileV f u] h (.int .i64 (requestsF u)) := by
  refine w68 _ _ _ _ _ _ _ _ _ _ _ _ _ X0_ok ?_
  unfold n68
  have hp := hu.requests
  have hn := hp.1
  have hbn := hp.2.1
  have hw : IntKind.wrap .i64 (u.lands - 1) = u.lands - 1 := wrap_id (num_lands hnum).1 (num_lands hnum).2
  refine t_if (fun e => ?_) (fun e => ?_)
  · exact t_ret ⟨by rw [requestsF, eachF, if_pos (by omega)], rfl⟩
  have he : requestsF u = firstF (requestF u) 0 u.requests := by rw [requestsF, eachF, if_neg (by omega)]
  refine t_loop (fun mm vs h' => h = h' ∧ ∃ i : Nat, vs = [.int .i64 0, .int .i64 i] ∧ i ≤ f.n6 ∧ mm = f.n6 - i ∧ requestsF u = firstF (requestF u) i (u.requests.drop i)) ⟨rfl, 0, rfl, Nat.zero_le _, rfl, he⟩ ?_
  rintro Y mm vs _ hY ⟨rfl, i, rfl, hi, rfl, hc⟩
  refine gZ ?_
  refine t_if (fun e => ?_) (fun e => ?_)
  · obtain ⟨x, a, hx, ha, e1, e2, q, m, c, e4, e5⟩ := hp.at (i := i) (by omega)
    rw [drop_of hx, firstF] at hc
    refine gZ ?_
    have next : requestF u i x = 0 → Y [.int .i64 0, .int .i64 (IntKind.wrap .i64 ((i : Int) + 1))] h := by
      intro hz
      rw [if_neg (by simp [hz])] at hc
      refine hY (f.n6 - (i + 1)) _ _ (by omega) ⟨rfl, i + 1, ?_, by omega, rfl, hc⟩
      rw [wrap_id (by omega) (by omega)]; rfl
    have stop : ∀ z : Int, z ≠ 0 → requestF u i x = z → requestsF u = z := by
      intro z hz hr
      rw [if_pos (by rw [hr]; exact hz), hr] at hc; exact hc
    refine t_pu (c56 _) ?_
    refine gZ ?_
    refine t_cond (fun b => ?_) (fun b => ?_)
    · refine gZ ?_
      have b' : isDay x.day = false := by simpa using b
      exact t_ret ⟨by rw [stop 1 (by omega) (by rw [requestF_eq, if_pos b'])], rfl⟩
    have b1 : ¬ isDay x.day = false := by simp at b; simp [b]
    refine t_blk (fun vs h' => vs = [.int .i64 0] ∧ h = h' ∧ lateB u i x = false) ?_ ?_
    · refine t_if (fun e3 => ?_) (fun e3 => ?_)
      · refine gZ ?_
        exact t_ret ⟨by rw [stop 7 (by omega) (by rw [requestF_eq, if_neg b1, if_pos (by simp [lateB, e3])])], rfl⟩
      · refine t_if (fun e6 => ?_) (fun e6 => ?_)
        · obtain ⟨y, a2, hy, ha2, f1, f2, _⟩ := hp.at (i := i - 1) (by omega)
          have hwi : IntKind.wrap .i64 ((i : Int) - 1) = ((i - 1 : Nat) : Int) := by rw [wrap_id (by omega) (by omega)]; omega
          rw [hwi]
          refine gZ ?_
          refine t_if (fun e7 => ?_) (fun e7 => ?_)
          · refine gZ ?_
            exact t_ret ⟨by rw [stop 7 (by omega) (by rw [requestF_eq, if_neg b1, if_pos (by rw [lateB_prev hy]; simp [e7]; omega)])], rfl⟩
          · refine t_again ⟨rfl, rfl, ?_⟩
            rw [lateB_prev hy]; simp; omega
        · have e3' : decide (x.day < u.from_) = false := by simpa using e3
          have e3'' : AV.val (.bool (decide (x.day < u.from_))) = AV.val (.bool false) := by rw [e3']
          refine gZ ?_
          refine t_again ⟨rfl, rfl, ?_⟩
          have hi0 : i = 0 := by omega
          subst hi0
          unfold lateB; rw [e3']; rfl
    rintro vs _ ⟨rfl, rfl, hq⟩
    refine gZ ?_
    refine t_pu (c49 _ _ _) ?_
    rw [hw]
    refine gZ ?_
    refine t_cond (fun b => ?_) (fun b => ?_)
    · refine gZ ?_
      have b' : isIn x.land 0 (u.lands - 1) = false := by simpa using b
      exact t_ret ⟨by rw [stop 6 (by omega) (by rw [requestF_eq, if_neg b1, hq, if_neg (by simp), if_pos b'])], rfl⟩
    have b2 : ¬ isIn x.land 0 (u.lands - 1) = false := by simp at b; simp [b]
    refine t_pu (c72 e5 (num_items hnum)) ?_
    refine gZ ?_
    have hr : requestF u i x = risesF x.items u.items := by rw [requestF_eq, if_neg b1, hq, if_neg (by simp), if_neg b2]
    refine t_cond (fun b => ?_) (fun b => ?_)
    · refine gZ ?_
      exact t_ret ⟨by rw [stop _ (by simpa using b) hr], rfl⟩
    · exact t_again (next (by rw [hr]; simpa using b))
  · refine gZ ?_
    rw [List.drop_eq_nil_of_le (by omega)] at hc
    exact t_ret ⟨by rw [hc]; rfl, rfl⟩
theorem c27 {h : LH} {f : FileC} {u : UseFile} (hu : FileR h.get f u) : Pu Tryd.prog 18 #[fileV f u] h (.int .i64 (checkF u)) := by
  refine w27 _ _ _ _ _ _ _ _ _ _ _ _ _ X0_ok ?_
  unfold n27
  have bad : numbersF u ≠ 0 → checkF u = 1 := by
    intro hz
    have : numbersF u = 1 := by unfold numbersF at hz ⊢; split at hz <;> simp_all
    unfold checkF firstF
    rw [if_pos hz, this]
  refine t_blk (fun vs h' => vs = [.int .i64 0] ∧ h = h' ∧ numbersF u = 0) ?_ ?_
  · refine t_pu (c49 _ _ _) ?_
    refine gZ ?_
    refine t_cond (fun b1 => ?_) (fun b1 => ?_)
    · refine gZ ?_
      exact t_ret ⟨by rw [bad (by simp at b1; simp [numbersF, b1])], rfl⟩
    refine t_pu (c49 _ _ _) ?_
    refine gZ ?_
    refine t_cond (fun b2 => ?_) (fun b2 => ?_)
    · refine gZ ?_
      exact t_ret ⟨by rw [bad (by simp at b2; simp [numbersF, b2])], rfl⟩
    refine t_pu (c56 _) ?_
    refine gZ ?_
    refine t_cond (fun b3 => ?_) (fun b3 => ?_)
    · refine gZ ?_
      exact t_ret ⟨by rw [bad (by simp at b3; simp [numbersF, b3])], rfl⟩
    refine t_pu (c49 _ _ _) ?_
    refine gZ ?_
    refine t_cond (fun b4 => ?_) (fun b4 => ?_)
    · refine gZ ?_
      exact t_ret ⟨by rw [bad (by simp at b4; simp [numbersF, b4])], rfl⟩
    exact t_again ⟨rfl, rfl, by simp at b1 b2 b3 b4; simp [numbersF, b1, b2, b3, b4]⟩
  rintro vs _ ⟨rfl, rfl, hnum⟩
  refine gZ ?_
  refine t_pu (c66 hu.excuses) ?_
  refine gZ ?_
  have h0 : checkF u = firstF (fun _ x => x) 1 [excusesF u, papersF u, requestsF u] := by
    unfold checkF; rw [firstF, if_neg (by simp [hnum])]
  rw [firstF] at h0
  refine t_cond (fun b => ?_) (fun b => ?_)
  · rw [if_pos (show excusesF u ≠ 0 by simpa [excusesF] using b)] at h0
    exact t_ret ⟨by rw [h0]; rfl, rfl⟩
  rw [if_neg (show ¬ excusesF u ≠ 0 by simpa [excusesF] using b), firstF] at h0
  refine t_pu (c67 hu hnum) ?_
  refine gZ ?_
  refine t_cond (fun b => ?_) (fun b => ?_)
  · rw [if_pos (by simpa using b)] at h0
    exact t_ret ⟨by rw [h0], rfl⟩
  rw [if_neg (by simpa using b), firstF] at h0
  refine t_pu (c68 hu hnum) ?_
  refine gZ ?_
  refine t_ret ⟨?_, rfl⟩
  rw [h0]
  by_cases e : requestsF u = 0
  · rw [if_neg (by simp [e]), e]; rfl
  · rw [if_pos e]
end Go.Proofs.YtldamlcehbdkdaaDoor
end
section
namespace Go.Proofs.YtldamlcehbdkdaaDoor
open Go Go.TM Go.Proofs
attribute [local irreducible] T.wp CV FWK
theorem c1103 {h : LH} (a b : Int) : Pu Tryd.prog 72 #[.agg #[.int .i64 a, .int .i64 b]] h (.bool (!isIn a 0 36524 || (!isIn b 0 36524 || decide (a > b)))) := by
  refine w1103 _ _ X0_ok ?_
  unfold n1103
  refine t_pu (c1077 _) ?_
  refine gZ ?_
  refine t_cond (fun e => ?_) (fun e => ?_)
  · exact t_ret ⟨by simp only [e, Bool.true_or], rfl⟩
  refine t_pu (c1077 _) ?_
  refine gZ ?_
  refine t_cond (fun e' => ?_) (fun e' => ?_)
  · exact t_ret ⟨by simp only [e', Bool.true_or, Bool.or_true], rfl⟩
  · exact t_ret ⟨by simp only [e, e', Bool.false_or], rfl⟩
theorem c1075 {h : LH} {f : CalC} {c : CalD} (hr : CalR h.get f c) (ok : CalOk c) : Pu Tryd.prog 34 #[calV f] h (.int .i64 0) := by
  refine w1075 _ _ _ _ _ _ X0_ok ?_
  unfold n1075
  have hn := hr.closed.1
  have hb := hr.closed.2.1
  have hn1 := hr.closures.1
  have hm := ok.many
  refine t_loopB (fun mm vs h' => h = h' ∧ ∃ i : Nat, vs = [.int .i64 0, .int .i64 i] ∧ i ≤ f.n0 ∧ mm = f.n0 - i) (fun vs h' => h = h' ∧ ∃ i : Nat, vs = [.int .i64 0, .int .i64 i]) ⟨rfl, 0, rfl, Nat.zero_le _, rfl⟩ ?_ ?_
  · rintro Y mm vs _ hY ⟨rfl, i, rfl, hi, rfl⟩
    refine gZ ?_
    refine t_if (fun e1 => ?_) (fun e1 => ?_)
    · obtain ⟨x, a, hx, ha, e2⟩ := hr.closed.at (i := i) (by omega)
      unfold IntE at e2
      obtain ⟨⟨k1, k2⟩, k3⟩ := ok.closed i x hx
      have next : Y [.int .i64 0, .int .i64 (IntKind.wrap .i64 ((i : Int) + 1))] h := by
        refine hY (f.n0 - (i + 1)) _ _ (by omega) ⟨rfl, i + 1, ?_, by omega, rfl⟩
        rw [wrap_id (by omega) (by omega)]; rfl
      refine gZ ?_
      refine t_pu (c1102 _ _ _) ?_
      have : isIn x 0 6 = true := by unfold isIn; simp [k1, k2]
      rw [this]
      refine gZ ?_
      refine t_cond (fun e => by cases e) (fun _ => ?_)
      refine t_if (fun e3 => ?_) (fun e3 => t_again next)
      obtain ⟨u, a', hu, ha', e4⟩ := hr.closed.at (i := i - 1) (by omega)
      unfold IntE at e4
      have hlt := k3 u (by omega) hu
      have ew : IntKind.wrap .i64 ((i : Int) - 1) = ((i - 1 : Nat) : Int) := by rw [wrap_id (by omega) (by omega)]; omega
      rw [ew]
      have hin : 0 ≤ ((i - 1 : Nat) : Int) ∧ ((i - 1 : Nat) : Int) < (f.n0 : Int) := by omega
      refine gZ ?_
      refine t_if (fun e5 => by omega) (fun _ => t_again next)
    · exact gH ⟨rfl, i, rfl⟩
  · rintro vs _ ⟨rfl, i, rfl⟩
    refine gZ ?_
    refine t_if (fun e1 => by omega) (fun _ => ?_)
    refine t_pu (p79 hr.closures (g := fun s => !isIn s.first 0 36524 || (!isIn s.last 0 36524 || decide (s.first > s.last))) (fun x => ?_)) ?_
    · exact CV.mono (cv_fw X0_ok (by rfl) (c1103 x.first x.last)) (by rintro v h' ⟨rfl, rfl⟩; exact ⟨rfl, rfl⟩)
    have hall : (c.closures.any fun s => !isIn s.first 0 36524 || (!isIn s.last 0 36524 || decide (s.first > s.last))) = false := by
      rw [List.any_eq_false]
      intro s hs
      obtain ⟨g1, g2, g3⟩ := ok.closures s hs
      unfold isIn
      simp
      omega
    rw [hall]
    refine gZ ?_
    refine t_pu (c1076 _ _) ?_
    refine gZ ?_
    exact t_ret ⟨rfl, rfl⟩
theorem c1078 {h : LH} {n u : Int} (hn : 0 ≤ n ∧ n ≤ 999) (hu : 0 ≤ u ∧ u ≤ 2) : Pu Tryd.prog 37 #[.agg #[.int .i64 n, .int .i64 u]] h (.int .i64 0) := by
  refine w1078 _ _ X0_ok ?_
  unfold n1078
  refine t_pu (c1102 _ _ _) ?_
  have e1 : isIn n 0 999 = true := by unfold isIn; simp [hn]
  have e2 : isIn u 0 2 = true := by unfold isIn; simp [hu]
  rw [e1]
  refine gZ ?_
  refine t_cond (fun e => by cases e) (fun _ => ?_)
  refine t_pu (c1102 _ _ _) ?_
  rw [e2]
  refine gZ ?_
  refine t_pu (c1076 _ _) ?_
  refine gZ ?_
  exact t_ret ⟨rfl, rfl⟩
theorem c1040 {h : LH} (hl : Lens h.get) {f : CalC} {c : CalD} (hr : CalR h.get f c) (ok : CalOk c) {s n u : Int} (hs : 0 ≤ s ∧ s ≤ 36524) (hn : 0 ≤ n ∧ n ≤ 999) (hu : 0 ≤ u ∧ u ≤ 2) :
    Gr Tryd.prog 10 #[calV f, .int .i64 s, .agg #[.int .i64 n, .int .i64 u]] h fun r _ => ∃ x, r = .tuple #[.int .i64 x, .int .i64 0] ∧ Te.EndsAt c.cal s u n x := by
  refine w1040 _ _ _ _ _ _ _ _ _ X0_ok ?_
  unfold n1040
  refine t_pu (c1075 hr ok) ?_
  refine gZ ?_
  refine t_pu (c1077 s) ?_
  have e1 : isIn s 0 36524 = true := by unfold isIn; simp [hs]
  rw [e1]
  refine gZ ?_
  refine t_pu (c1076 _ _) ?_
  refine gZ ?_
  refine t_pu (c1078 hn hu) ?_
  refine gZ ?_
  refine t_build und134 inf31 (by decide) (by decide) (cells := #[.int .i64 0, .int .i64 0, .int .i64 0]) (by kernel_rfl) fun r hr0 => ?_
  have le1 : h.le _ := LH.upd_le (x := (true, .cells #[.int .i64 0, .int .i64 0, .int .i64 0] 36 (0, 0))) hr0
  refine gZ ?_
  have hsl : Sl IntE 1 (h.get.upd r (true, .cells #[.int .i64 0, .int .i64 0, .int .i64 0] 36 (0, 0))) (some ⟨r, 0, none⟩) 3 [0, 0, 0] := by
    refine ⟨rfl, by decide, fun i x hx => ⟨_, rfl, ?_⟩⟩
    unfold IntE
    rw [add_plain, add_plain]
    refine cell_upd ?_
    match i, hx with
    | 0, hx => cases hx; rfl
    | 1, hx => cases hx; rfl
    | 2, hx => cases hx; rfl
  refine t_pu (c1074 hsl) ?_
  refine gZ ?_
  refine t_cond (fun e => absurd e (by decide)) (fun _ => ?_)
  refine t_call (FW.top (c1080 (hl.le le1.1) hs hn hu)) ?_
  rintro _ _ ⟨rfl, v, rfl, hv⟩
  refine gZ ?_
  refine t_gr (c1079 (hr.le le1.1) (day := v) ⟨Int.le_trans hs.1 (hv.from hs.2 hn.1), hv.most⟩) ?_
  rintro _ h2 le2 rfl
  refine gZ ?_
  exact t_ret ⟨LH.le_trans le1 le2, _, rfl, v, hv, rfl⟩
/-! ### What the laws ask of calendars -/
theorem c1038 {h : LH} (f : CalC) : Pu Tryd.prog 6 #[calV f] h (.bool (decide ((f.n0 : Int) > 20) || decide ((f.n1 : Int) > 20))) := by
  refine w1038 _ _ _ _ _ _ X0_ok ?_
  unfold n1038
  refine t_if (fun e => ?_) (fun e => ?_)
  · exact t_ret ⟨by rw [decide_eq_true e, Bool.true_or], rfl⟩
  · exact t_ret ⟨by rw [decide_eq_false e, Bool.false_or], rfl⟩
theorem c1039 {h : LH} {f : CalC} {c : CalD} (hr : CalR h.get f c) : FW X0 Tryd.prog 7 #[calV f] h fun r h' => h = h' ∧ ∃ g : Int, r = .int .i64 g ∧ (g = 0 → CalOk c) := by
  refine w1039 _ _ _ _ _ _ X0_ok ?_
  unfold n1039
  have hn := hr.closed.1
  have hb := hr.closed.2.1
  have hn1 := hr.closures.1
  have hb1 := hr.closures.2.1
  refine t_loopB (fun mm vs h' => h = h' ∧ ∃ i : Nat, vs = [.int .i64 0, .int .i64 i] ∧ i ≤ f.n0 ∧ mm = f.n0 - i ∧ ∀ (j : Nat) v, j < i → c.closed[j]? = some v → (0 ≤ v ∧ v ≤ 6) ∧ ∀ u, 0 < j → c.closed[j - 1]? = some u → u < v)
    (fun vs h' => h = h' ∧ ∃ i : Nat, vs = [.int .i64 0, .int .i64 i] ∧ ∀ (j : Nat) v, c.closed[j]? = some v → (0 ≤ v ∧ v ≤ 6) ∧ ∀ u, 0 < j → c.closed[j - 1]? = some u → u < v) ⟨rfl, 0, rfl, Nat.zero_le _, rfl, fun j v hj => absurd hj (Nat.not_lt_zero _)⟩ ?_ ?_
  · rintro Y mm vs _ hY ⟨rfl, i, rfl, hi, rfl, hall⟩
    refine gZ ?_
    refine t_if (fun e1 => ?_) (fun e1 => ?_)
    · obtain ⟨x, a, hx, ha, e2⟩ := hr.closed.at (i := i) (by omega)
      unfold IntE at e2
      have next : ((0 ≤ x ∧ x ≤ 6) ∧ ∀ u, 0 < i → c.closed[i - 1]? = some u → u < x) → Y [.int .i64 0, .int .i64 (IntKind.wrap .i64 ((i : Int) + 1))] h := by
        intro hok
        refine hY (f.n0 - (i + 1)) _ _ (by omega) ⟨rfl, i + 1, ?_, by omega, rfl, fun j v hj hv => ?_⟩
        · rw [wrap_id (by omega) (by omega)]; rfl
        · by_cases e : j = i
          · subst e; rw [hx] at hv; cases hv; exact hok
          · exact hall j v (by omega) hv
      refine gZ ?_
      refine t_pu (c49 _ _ _) ?_
      refine gZ ?_
      refine t_cond (fun e => ?_) (fun e => ?_)
      · refine gI ?_
        refine gZ ?_
        exact t_ret ⟨rfl, 1, rfl, fun e => by cases e⟩
      have hin6 : 0 ≤ x ∧ x ≤ 6 := by
        unfold isIn at e
        simpa using e
      refine t_if (fun e3 => ?_) (fun e3 => ?_)
      · obtain ⟨u, a', hu, ha', e4⟩ := hr.closed.at (i := i - 1) (by omega)
        unfold IntE at e4
        obtain rfl : a = a' := Option.some.inj (ha.symm.trans ha')
        have ew : IntKind.wrap .i64 ((i : Int) - 1) = ((i - 1 : Nat) : Int) := by rw [wrap_id (by omega) (by omega)]; omega
        rw [ew]
        have hin : 0 ≤ ((i - 1 : Nat) : Int) ∧ ((i - 1 : Nat) : Int) < (f.n0 : Int) := by omega
        refine gZ ?_
        refine t_if (fun e5 => ?_) (fun e5 => ?_)
        · refine gI ?_
          refine gZ ?_
          exact t_ret ⟨rfl, 7, rfl, fun e => by cases e⟩
        · refine t_again (next ⟨hin6, fun u' _ hu' => ?_⟩)
          rw [hu] at hu'; cases hu'; omega
      · refine gZ ?_
        exact t_again (next ⟨hin6, fun u' h0 _ => by omega⟩)
    · refine gH ⟨rfl, i, rfl, fun j v hv => hall j v ?_ hv⟩
      have := (List.getElem?_eq_some_iff.1 hv).1
      omega
  · rintro vs _ ⟨rfl, i, rfl, hcl⟩
    refine gZ ?_
    refine t_if (fun e1 => ?_) (fun e1 => ?_)
    · exact t_ret ⟨rfl, 2, rfl, fun e => by cases e⟩
    refine t_loop (fun mm vs h' => h = h' ∧ ∃ j : Nat, vs = [.int .i64 0, .int .i64 j] ∧ j ≤ f.n1 ∧ mm = f.n1 - j ∧ ∀ (k : Nat) s, k < j → c.closures[k]? = some s → 0 ≤ s.first ∧ s.first ≤ s.last ∧ s.last ≤ 36524) ⟨rfl, 0, rfl, Nat.zero_le _, rfl, fun k s hk => absurd hk (Nat.not_lt_zero _)⟩ ?_
    rintro Y mm vs _ hY ⟨rfl, j, rfl, hj, rfl, hall⟩
    refine gZ ?_
    refine t_if (fun e2 => ?_) (fun e2 => ?_)
    · obtain ⟨x, a, hx, ha, e3, e4⟩ := hr.closures.at (i := j) (by omega)
      refine gZ ?_
      refine t_pu (c93 _ _ _ _) ?_
      refine gZ ?_
      refine t_cond (fun e => ?_) (fun e => ?_)
      · refine gI ?_
        refine gZ ?_
        exact t_ret ⟨rfl, 1, rfl, fun e => by cases e⟩
      · have hin : 0 ≤ x.first ∧ x.first ≤ x.last ∧ x.last ≤ 36524 := by simpa using e
        refine t_again (hY (f.n1 - (j + 1)) _ _ (by omega) ⟨rfl, j + 1, ?_, by omega, rfl, fun k s hk hs => ?_⟩)
        · rw [wrap_id (by omega) (by omega)]; rfl
        · by_cases e5 : k = j
          · subst e5; rw [hx] at hs; cases hs; exact hin
          · exact hall k s (by omega) hs
    · refine gZ ?_
      refine t_ret ⟨rfl, 0, rfl, fun _ => ⟨hcl, by omega, fun s hs => ?_⟩⟩
      obtain ⟨k, hk⟩ := List.mem_iff_getElem?.1 hs
      have := (List.getElem?_eq_some_iff.1 hk).1
      exact hall k s (by omega) hk
def CalEnd (h : LH) (f : CalC) (c : CalD) (y : Span) (vs : List Value) (h' : LH) : Prop := ∃ p n k, vs = [.slice f.p0 f.n0 f.c0, .slice p n k] ∧ h.le h' ∧ CalR h'.get { f with p1 := p, n1 := n, c1 := k } { c with closures := c.closures ++ [y] }
end Go.Proofs.YtldamlcehbdkdaaDoor
end
section
namespace Go.Proofs.YtldamlcehbdkdaaDoor
open Go Go.TM Go.Proofs
attribute [local irreducible] T.wp CV FWK
theorem c88 {h : LH} (p : Option Addr) (land item : Int) : Gr Tryd.prog 101 #[.pointer p, .int .i64 land, .int .i64 item] h fun r h' => ∃ z0 z1 z2, r = .func (.func 121) #[] #[.pointer (some z0), .pointer (some z1), .pointer (some z2)] ∧
    h'.get.cell? z0 = some (.pointer p) ∧ h'.get.cell? z1 = some (.int .i64 land) ∧ h'.get.cell? z2 = some (.int .i64 item) := by
  refine w88 _ _ _ X0_ok ?_
  unfold n88
  refine t_new fun r hr => ?_
  refine t_new fun r1 hr1 => ?_
  refine t_new fun r2 hr2 => ?_
  have l1 : h.le _ := LH.upd_le (x := (true, .cells #[.pointer p] 109 (0, 0))) hr
  have l2 := LH.upd_le (x := (true, .cells #[.int .i64 land] 3 (0, 0))) hr1
  have l3 := LH.upd_le (x := (true, .cells #[.int .i64 item] 3 (0, 0))) hr2
  have c1 : Cells.cell? (h.get.upd r (true, .cells #[.pointer p] 109 (0, 0))) ⟨r, 0, none⟩ = some (.pointer p) := cell_upd rfl
  have c2 : Cells.cell? ((h.get.upd r (true, .cells #[.pointer p] 109 (0, 0))).upd r1 (true, .cells #[.int .i64 land] 3 (0, 0))) ⟨r1, 0, none⟩ = some (.int .i64 land) := cell_upd rfl
  have c3 : Cells.cell? (((h.get.upd r (true, .cells #[.pointer p] 109 (0, 0))).upd r1 (true, .cells #[.int .i64 land] 3 (0, 0))).upd r2 (true, .cells #[.int .i64 item] 3 (0, 0))) ⟨r2, 0, none⟩ = some (.int .i64 item) := cell_upd rfl
  exact t_ret ⟨LH.le_trans (LH.le_trans l1 l2) l3, _, _, _, rfl, Cells.cell?_le l3.1 (Cells.cell?_le l2.1 c1), Cells.cell?_le l3.1 c2, c3⟩
def handed (V : Nat → Value) (s : Paper → Bool) : List Paper → Nat → List (List Value)
  | [], _ => []
  | x :: l, i => if s x then [V i] :: handed V s l (i + 1) else handed V s l (i + 1)
theorem handed_len (V : Nat → Value) (s : Paper → Bool) : ∀ (l : List Paper) (i : Nat), (handed V s l i).length = (l.filter s).length := by
  intro l
  induction l with
  | nil => intro i; rfl
  | cons x l ih => intro i; rw [handed, List.filter_cons]; split <;> simp [ih]
theorem handed_get (V : Nat → Value) (s : Paper → Bool) : ∀ (l : List Paper) (i k : Nat) xs, (handed V s l i)[k]? = some xs → ∃ x j, (l.filter s)[k]? = some x ∧ l[j]? = some x ∧ xs = [V (i + j)] := by
  intro l
  induction l with
  | nil => intro i k xs h; simp [handed] at h
  | cons x l ih =>
    intro i k xs h
    rw [handed] at h
    rw [List.filter_cons]
    split at h
    · rename_i hs
      rw [if_pos hs]
      cases k with
      | zero => simp at h; exact ⟨x, 0, rfl, rfl, by simp [← h]⟩
      | succ k =>
        obtain ⟨y, j, h1, h2, h3⟩ := ih (i + 1) k xs (by simpa using h)
        exact ⟨y, j + 1, by simpa using h1, by simpa using h2, by rw [h3, show i + 1 + j = i + (j + 1) by omega]⟩
    · rename_i hs
      rw [if_neg hs]
      obtain ⟨y, j, h1, h2, h3⟩ := ih (i + 1) k xs h
      exact ⟨y, j + 1, h1, by simpa using h2, by rw [h3, show i + 1 + j = i + (j + 1) by omega]⟩
theorem hands99 {X : XP} (hX : XOK X) {h₀ : LH} {d : Nat} {z0 z1 z2 : Addr} {land item : Int} {p : Option Addr} {n c : Nat} {ps : List Paper} (hz0 : h₀.get.cell? z0 = some (.pointer (some ⟨d, 0, none⟩))) (hz1 : h₀.get.cell? z1 = some (.int .i64 land)) (hz2 : h₀.get.cell? z2 = some (.int .i64 item))
    (h5 : h₀.get.cell? (Addr.add ⟨d, 0, none⟩ 5) = some (.slice p n c)) (hs : Sl PaperE 4 h₀.get p n ps) :
    ∃ L, L.length = (ps.filter (showsB land item)).length ∧ (∀ (i : Nat) xs, L[i]? = some xs → ∃ x q m c, (ps.filter (showsB land item))[i]? = some x ∧ xs = [paperV x q m c] ∧ Sl IntE 1 h₀.get q m x.items) ∧
      Hands X Tryd.prog (.func (.func 121) #[] #[.pointer (some z0), .pointer (some z1), .pointer (some z2)]) h₀ L := by
  let R : Nat → Value → Prop := fun i v => ∃ x a q m c, ps[i]? = some x ∧ p = some a ∧ v = paperV x q m c ∧ h₀.get.cell? ((a.add (i * 4)).add 0) = some (.int .i64 x.days.first) ∧ h₀.get.cell? ((a.add (i * 4)).add 1) = some (.int .i64 x.days.last) ∧ h₀.get.cell? ((a.add (i * 4)).add 2) = some (.int .i64 x.land) ∧ h₀.get.cell? ((a.add (i * 4)).add 3) = some (.slice q m c) ∧ Sl IntE 1 h₀.get q m x.items
  have hR : ∀ i x, ps[i]? = some x → ∃ v, R i v := by
    intro i x hx
    obtain ⟨a, ha, e1, e2, e3, q, m, k, e4, e5⟩ := hs.2.2 i x hx
    exact ⟨_, x, a, q, m, k, hx, ha, rfl, e1, e2, e3, e4, e5⟩
  let V : Nat → Value := fun i => Classical.epsilon (R i)
  have hV : ∀ i x, ps[i]? = some x → R i (V i) := fun i x hx => Classical.epsilon_spec (hR i x hx)
  refine ⟨handed V (showsB land item) ps 0, handed_len _ _ _ _, ?_, ?_⟩
  · intro i xs hi
    obtain ⟨x, j, h1, h2, h3⟩ := handed_get _ _ _ _ _ _ hi
    rw [Nat.zero_add] at h3
    obtain ⟨x', a, q, m, k, g1, _, g3, _, _, _, _, g8⟩ := hV j x h2
    rw [h2] at g1; cases g1
    exact ⟨x, q, m, k, h1, by rw [h3, g3], g8⟩
  · intro y J E _ _ hyield h hle hJ
    generalize hL : handed V (showsB land item) ps 0 = L at hyield ⊢
    refine cv_fw hX (by rfl) (?_ : FW X Tryd.prog 121 #[y, .pointer (some z0), .pointer (some z1), .pointer (some z2)] h _)
    refine w99 _ _ _ _ hX ?_
    unfold n99
    have hn := hs.1
    have hb := hs.2.1
    have y0 := Cells.cell?_le hle.1 hz0
    have y5 := Cells.cell?_le hle.1 h5
    refine gL3 y0 ?_
    refine gS2 rfl ?_
    refine gL1 y5 ?_
    refine t_loop (fun mm vs h' => h₀.le h' ∧ ∃ (j cnt : Nat), vs = [.int .i64 j] ∧ j ≤ n ∧ mm = n - j ∧ J cnt h' ∧ cnt ≤ L.length ∧ L.drop cnt = handed V (showsB land item) (ps.drop j) j) (n := n) ⟨hle, 0, 0, rfl, Nat.zero_le _, by omega, hJ, Nat.zero_le _, by rw [← hL]; rfl⟩ ?_
    rintro Y mm vs h₁ hY ⟨le1, j, cnt, rfl, hj, rfl, hJ1, hcl, hdrop⟩
    refine gZ ?_
    refine t_if (fun e1 => ?_) (fun e1 => ?_)
    · obtain ⟨x, hx⟩ : ∃ x, ps[j]? = some x := ⟨ps[j]'(by omega), List.getElem?_eq_getElem (by omega)⟩
      obtain ⟨x', a, q, m, k, g1, ha, hVj, c0, c1, c2, c3, hit⟩ := hV j x hx
      rw [hx] at g1; cases g1
      have d0 := Cells.cell?_le le1.1 c0
      have d1 := Cells.cell?_le le1.1 c1
      have d2 := Cells.cell?_le le1.1 c2
      have d3 := Cells.cell?_le le1.1 c3
      have w1 := Cells.cell?_le le1.1 hz1
      have w2 := Cells.cell?_le le1.1 hz2
      rw [drop_of hx, handed] at hdrop
      refine gZ ?_
      have skip : showsB land item x = false → (T.leaf (.again [.int .i64 (IntKind.wrap .i64 ((j : Int) + 1))])).wp X Tryd.prog (fun l h' => l.go h' Y (fun vs h' => T.wp X Tryd.prog (T.popI .i64 vs fun n vs => T.unNil vs (T.leaf (.ret (.tuple #[])))) (retQ fun _ h' => h₀.le h' ∧ (J L.length h' ∨ E h')) h') (fun vs h' => T.wp X Tryd.prog (T.popI .i64 vs fun n vs => T.unNil vs (T.leaf (.ret (.tuple #[])))) (retQ fun _ h' => h₀.le h' ∧ (J L.length h' ∨ E h')) h') (fun _ _ h' => T.wp X Tryd.prog .fail (retQ fun _ h' => h₀.le h' ∧ (J L.length h' ∨ E h')) h')) h₁ := by
        intro hno
        rw [if_neg (by rw [hno]; simp)] at hdrop
        refine t_again (hY (n - (j + 1)) _ _ (by omega) ⟨le1, j + 1, cnt, ?_, by omega, rfl, hJ1, hcl, hdrop⟩)
        rw [wrap_id (by omega) (by omega)]; rfl
      refine t_cond (fun e2 => ?_) (fun e2 => ?_)
      · refine gZ ?_
        refine t_pu (c100 (hit.le IntE.grow le1.1) item) ?_
        refine gZ ?_
        refine t_cond (fun e3 => ?_) (fun e3 => ?_)
        · have hsh : showsB land item x = true := by unfold showsB; rw [e2, e3]; rfl
          rw [if_pos hsh] at hdrop
          have hget : L[cnt]? = some [V j] := by
            have : (L.drop cnt)[0]? = some [V j] := by rw [hdrop]; rfl
            simpa using this
          have hlt : cnt < L.length := (List.getElem?_eq_some_iff.1 hget).1
          have hcv := hyield cnt h₁ [V j] le1 hget hJ1
          rw [hVj] at hcv
          refine t_callv hcv ?_
          rintro b h₂ ⟨le2, ⟨rfl, hJ2⟩ | ⟨rfl, hE⟩⟩
          · refine gZ ?_
            refine t_cond (fun e => by cases e) (fun _ => ?_)
            refine t_again (hY (n - (j + 1)) _ _ (by omega) ⟨le2, j + 1, cnt + 1, ?_, by omega, rfl, hJ2, by omega, ?_⟩)
            · rw [wrap_id (by omega) (by omega)]; rfl
            · rw [← List.drop_drop, hdrop]; rfl
          · refine gZ ?_
            refine t_cond (fun _ => ?_) (fun e => by cases e)
            refine gZ ?_
            exact t_ret ⟨le2, .inr hE⟩
        · exact skip (by unfold showsB; rw [e2, e3]; rfl)
      · exact skip (by unfold showsB; rw [e2]; rfl)
    · refine gZ ?_
      refine t_ret ⟨le1, .inl ?_⟩
      rw [List.drop_eq_nil_of_le (by omega : ps.length ≤ j), handed] at hdrop
      have : L.length ≤ cnt := List.drop_eq_nil_iff.1 hdrop
      obtain rfl : cnt = L.length := by omega
      exact hJ1
end Go.Proofs.YtldamlcehbdkdaaDoor
end
section
namespace Go.Proofs.YtldamlcehbdkdaaDoor
open Go Go.TM Go.Proofs
attribute [local irreducible] T.wp CV FWK
theorem g30 : Tryd.prog.eqGuardType Tryd.prog.depth 32 = false := by kernel_rfl
theorem c60 {h : LH} {d m : Nat} {f : FileC} {u : UseFile} (k : Desk h.get d m f u) (hnum : numbersF u = 0) (land item day : Int) (hd : 0 ≤ day ∧ day ≤ 2000) :
    De 64 #[.pointer (some ⟨d, 0, none⟩), .int .i64 land, .int .i64 item, .int .i64 day] h d m f u fun r _ => r = .int .i64 (safe u land item day) := by
  refine w60 _ _ _ _ X0_ok ?_
  unfold n60
  refine t_de (c55 k (num_ok hnum).2.2.2 day hd) ?_
  rintro _ h₁ mv k1 rfl
  obtain ⟨f0, f1, f2, f3, f4, f5, f6⟩ := k1.file
  refine gZ ?_
  refine t_pu (c81 _ _ _) ?_
  refine gZ ?_
  refine t_cond (fun e => ?_) (fun e => ?_)
  · exact t_ret ⟨mv, k1, by rw [safe, if_pos e]⟩
  refine t_gr (c88 _ _ _) ?_
  rintro _ h₂ le2 ⟨z0, z1, z2, rfl, hz0, hz1, hz2⟩
  have k2 := k1.le le2.1
  obtain ⟨L, hL1, hL2, hH⟩ := hands99 X0_ok hz0 hz1 hz2 k2.file.f5 k2.rep.papers
  refine t_each (LH.le_refl h₂) hH (fun i vs h' => ∃ out, vs = [.int .i64 0, .int .i64 out] ∧ safe u land item day = safeGo (window u day) ((shown u land item).drop i) out) ⟨2, rfl, by rw [safe, if_neg (by rw [e]; simp)]; rfl⟩ ?_ ?_
  · rintro vs h' hle ⟨out, rfl, hc⟩
    rw [List.drop_eq_nil_of_le (by rw [hL1]; exact Nat.le_refl _), safeGo] at hc
    refine gZ ?_
    exact t_ret ⟨mv.trans (Mv.of_le (LH.le_trans le2 hle)), k2.le hle.1, by rw [hc]⟩
  · rintro i xs vs h' hi hle ⟨out, rfl, hc⟩ Y hY
    obtain ⟨x, q, n, c, hx, rfl, hit⟩ := hL2 i xs hi
    have hx' : (shown u land item)[i]? = some x := hx
    rw [drop_of hx', safeGo] at hc
    unfold paperV
    refine gZ ?_
    refine t_eq2 two30 g30 ?_
    refine gZ ?_
    refine t_cond (fun e2 => ?_) (fun e2 => ?_)
    · refine t_retnE hle ?_
      have e2' : insideB (window u day) x.days = true := e2
      rw [if_pos e2'] at hc
      refine gZ ?_
      exact t_ret ⟨mv.trans (Mv.of_le (LH.le_trans le2 hle)), k2.le hle.1, by rw [hc]⟩
    · have e2' : insideB (window u day) x.days = false := e2
      rw [if_neg (by rw [e2']; simp)] at hc
      refine t_cond (fun e3 => ?_) (fun e3 => ?_)
      · have e3' : meetsB (window u day) x.days = true := e3
        rw [if_pos e3'] at hc
        exact t_againE hle (hY _ _ hle ⟨0, rfl, hc⟩)
      · have e3' : meetsB (window u day) x.days = false := e3
        rw [if_neg (by rw [e3']; simp)] at hc
        exact t_againE hle (hY _ _ hle ⟨out, rfl, hc⟩)
def safeR (u : UseFile) (land item day : Int) : Value :=
  if openF u [landQ u land, itemQ u item, dayQ day] ≠ 0 then .tuple #[.int .i64 0, .int .i64 (openF u [landQ u land, itemQ u item, dayQ day])] else .tuple #[.int .i64 (safe u land item day), .int .i64 0]
theorem c19 {h : LH} {f : FileC} {u : UseFile} (hp : Parts h.get) (hu : FileR h.get f u) (land item day : Int) : Gr Tryd.prog 23 #[fileV f u, .int .i64 land, .int .i64 item, .int .i64 day] h fun r _ => r = safeR u land item day := by
  refine w19 _ _ _ _ _ _ _ _ _ _ _ _ _ _ _ _ X0_ok ?_
  unfold n19
  refine t_gr (c58 u land) ?_
  rintro v0 h₁ le1 ⟨q0, a0⟩
  refine gZ ?_
  refine t_gr (c59 u item) ?_
  rintro v1 h₂ le2 ⟨q1, a1⟩
  refine gZ ?_
  refine t_gr (c54 u day) ?_
  rintro v2 h₃ le3 ⟨q2, a2⟩
  refine gZ ?_
  refine asks3 q0 (a0.le (LH.le_trans le2 le3)) q1 (a1.le le3) q2 a2 fun r h₄ le4 hs => ?_
  refine gZ ?_
  have le14 := LH.le_trans (LH.le_trans (LH.le_trans le1 le2) le3) le4
  refine t_call (c53 (f := f) (hp.le le14.1) (hu.le le14.1) hs) ?_
  rintro v h₅ ⟨le5, ⟨hne, rfl⟩ | ⟨h0, d, m, rfl, hd, hm, k⟩⟩
  · refine gZ ?_
    refine t_cond (fun _ => ?_) (fun e => absurd (by simpa using e) hne)
    refine t_ret ⟨LH.le_trans le14 le5, ?_⟩
    show _ = safeR u land item day
    rw [safeR, if_pos hne]
  · refine gZ ?_
    refine t_cond (fun e => by cases e) (fun _ => ?_)
    have hq := dayQ_zero (open_zero h0 _ (by simp; exact .inr (.inr rfl)))
    refine t_de (c60 k (open_num h0).1 land item day hq) ?_
    rintro _ h₆ mv k6 rfl
    refine gZ ?_
    refine t_ret ⟨LH.le_trans le14 (Mv.le_of le5 hm mv), ?_⟩
    show _ = safeR u land item day
    rw [safeR, if_neg (by simpa using h0)]
def weakR (u : UseFile) (land item : Int) : Value :=
  if openF u [landQ u land, itemQ u item] ≠ 0 then .tuple #[.int .i64 0, .int .i64 (openF u [landQ u land, itemQ u item])] else .tuple #[.int .i64 (weak u land item), .int .i64 0]
theorem c21 {h : LH} {f : FileC} {u : UseFile} (hp : Parts h.get) (hu : FileR h.get f u) (land item : Int) : Gr Tryd.prog 24 #[fileV f u, .int .i64 land, .int .i64 item] h fun r _ => r = weakR u land item := by
  refine w21 _ _ _ _ _ _ _ _ _ _ _ _ _ _ _ X0_ok ?_
  unfold n21
  refine t_gr (c58 u land) ?_
  rintro v0 h₁ le1 ⟨q0, a0⟩
  refine gZ ?_
  refine t_gr (c59 u item) ?_
  rintro v1 h₂ le2 ⟨q1, a1⟩
  refine gZ ?_
  refine asks2 q0 (a0.le le2) q1 a1 fun r h₄ le4 hs => ?_
  refine gZ ?_
  have le14 := LH.le_trans (LH.le_trans le1 le2) le4
  refine t_call (c53 (f := f) (hp.le le14.1) (hu.le le14.1) hs) ?_
  rintro v h₅ ⟨le5, ⟨hne, rfl⟩ | ⟨h0, d, m, rfl, hd, hm, k⟩⟩
  · refine gZ ?_
    refine t_cond (fun _ => ?_) (fun e => absurd (by simpa using e) hne)
    refine t_ret ⟨LH.le_trans le14 le5, ?_⟩
    show _ = weakR u land item
    rw [weakR, if_pos hne]
  · refine gZ ?_
    refine t_cond (fun e => by cases e) (fun _ => ?_)
    have hnum := (open_num h0).1
    have hfrom := (num_ok hnum).2.2.1
    refine t_loop (fun mm vs h' => Mv m h₅ h' ∧ Desk h'.get d m f u ∧ ∃ x : Int, vs = [.int .i64 0, .int .i64 0, .int .i64 x] ∧ 0 ≤ x ∧ x ≤ 2001 ∧ mm = (2001 - x).toNat ∧ weak u land item = weakGo (fun d => decide (safe u land item d ≠ 1)) (2001 - x).toNat x)
      ⟨Mv.refl, k, u.from_, rfl, by omega, by omega, rfl, rfl⟩ ?_
    rintro Y mm vs h₆ hY ⟨mv, k6, x, rfl, hx0, hx1, rfl, hc⟩
    refine gZ ?_
    refine t_if (fun e1 => ?_) (fun e1 => ?_)
    · refine t_de (c60 k6 hnum land item x ⟨hx0, e1⟩) ?_
      rintro _ h₇ mv7 k7 rfl
      refine gZ ?_
      obtain ⟨y, hy⟩ : ∃ y, (2001 - x).toNat = y + 1 := ⟨(2000 - x).toNat, by omega⟩
      have hy' : (2001 - (x + 1)).toNat = y := by omega
      rw [hy, weakGo] at hc
      refine t_cond (fun e2 => ?_) (fun e2 => ?_)
      · refine gZ ?_
        refine t_ret ⟨LH.le_trans le14 (Mv.le_of le5 hm (mv.trans mv7)), ?_⟩
        show _ = weakR u land item
        rw [weakR, if_neg (by simpa using h0), hc, if_pos (by simpa using e2)]
      · rw [if_neg (by simpa using e2)] at hc
        refine t_again (hY (2001 - (x + 1)).toNat _ _ (by omega) ⟨mv.trans mv7, k7, x + 1, ?_, by omega, by omega, rfl, by rw [hy']; exact hc⟩)
        rw [wrap_id (by omega) (by omega)]
    · refine gZ ?_
      have h01 : (2001 - x).toNat = 0 := by omega
      rw [h01, weakGo] at hc
      refine t_ret ⟨LH.le_trans le14 (Mv.le_of le5 hm mv), ?_⟩
      show _ = weakR u land item
      rw [weakR, if_neg (by simpa using h0), hc]
end Go.Proofs.YtldamlcehbdkdaaDoor
end
section
namespace Go.Proofs.YtldamlcehbdkdaaDoor
open Go Go.TM Go.Proofs
attribute [local irreducible] T.wp CV FWK
def ReqEnc (h₀ : Cells) (x : Request) (ws : List Value) : Prop := ∃ q m c, ws = [.int .i64 x.day, .int .i64 x.land, .slice q m c] ∧ Sl IntE 1 h₀ q m x.items
theorem ReqEnc.len {h₀ : Cells} : ∀ x ws, ReqEnc h₀ x ws → ws.length = 3 := by rintro x _ ⟨q, m, c, rfl, _⟩; rfl
theorem ReqEnc.e {h₀ h' : Cells} (hr : Rd h₀ h') : ∀ a x ws, ReqEnc h₀ x ws → (∀ (j : Nat) w, ws[j]? = some w → h'.cell? (a.add j) = some w) → RequestE h' a x := by
  rintro a x _ ⟨q, m, c, rfl, hs⟩ hc
  exact ⟨hc 0 _ rfl, hc 1 _ rfl, q, m, c, hc 2 _ rfl, hs.rd IntE.grow hr⟩
theorem c101 {h : LH} {d m : Nat} {f : FileC} {u : UseFile} (k : Desk h.get d m f u) (hck : checkF u = 0) (land item day : Int) :
    Gr Tryd.prog 122 #[.pointer (some ⟨d, 0, none⟩), .int .i64 land, .int .i64 item, .int .i64 day] h fun r h' => ∃ p n c, r = .slice p n c ∧ Sl RequestE 3 h'.get p n (against u land item day) := by
  refine w101 _ _ _ _ X0_ok ?_
  unfold n101
  obtain ⟨f0, f1, f2, f3, f4, f5, f6⟩ := k.file
  have hlen := (check_requests hck).1
  have hn6 := k.rep.requests.1
  refine gZ ?_
  refine t_loop (fun mm vs h' => h.le h' ∧ ∃ (i : Nat) (p : Option Addr) (n c : Nat) (rs : List Request), vs = [.slice p n c, .int .i64 i] ∧ i ≤ f.n6 ∧ mm = f.n6 - i ∧ Growing (ReqEnc h.get) 107 3 h.get h'.get p n c rs ∧ rs.length ≤ i ∧ against u land item day = rs ++ (u.requests.drop i).filter (agB land item day))
    ⟨LH.le_refl _, 0, none, 0, 0, [], rfl, Nat.zero_le _, rfl, Growing.nil, Nat.le_refl _, rfl⟩ ?_
  rintro Y mm vs h₁ hY ⟨hle, i, p, n, c, rs, rfl, hi, rfl, g, hrl, hc⟩
  refine gZ ?_
  refine t_if (fun e1 => ?_) (fun e1 => ?_)
  · obtain ⟨x, a, hx, ha, e2, e3, q, mq, cq, e4, e5⟩ := k.rep.requests.at (i := i) (by omega)
    have e2 := Cells.cell?_le hle.1 e2
    have e3 := Cells.cell?_le hle.1 e3
    have e4 := Cells.cell?_le hle.1 e4
    rw [drop_of hx, List.filter_cons] at hc
    have skip : agB land item day x = false → Y [.slice p n c, .int .i64 (IntKind.wrap .i64 ((i : Int) + 1))] h₁ := by
      intro hno
      rw [if_neg (by rw [hno]; simp)] at hc
      refine hY (f.n6 - (i + 1)) _ _ (by omega) ⟨hle, i + 1, p, n, c, rs, ?_, by omega, rfl, g, by omega, hc⟩
      rw [wrap_id (by omega) (by omega)]; rfl
    refine gZ ?_
    refine t_cond (fun b1 => ?_) (fun b1 => ?_)
    · refine t_if (fun b2 => ?_) (fun b2 => ?_)
      · refine t_pu (c100 (e5.le IntE.grow hle.1) item) ?_
        refine gZ ?_
        refine t_cond (fun b3 => ?_) (fun b3 => ?_)
        · have hag : agB land item day x = true := by unfold agB; rw [b1, b3]; simp [b2]
          rw [if_pos hag] at hc
          refine t_build und24 inf64 (by decide) (by decide) (cells := #[.int .i64 x.day, .int .i64 x.land, .slice q mq cq]) (by kernel_rfl) fun r hr => ?_
          have le1 : h₁.le _ := LH.upd_le (x := (true, .cells #[.int .i64 x.day, .int .i64 x.land, .slice q mq cq] 107 (0, 0))) hr
          have hng := g.count ReqEnc.len (by omega)
          refine gZ ?_
          refine t_grow (x := x) (ws := [.int .i64 x.day, .int .i64 x.land, .slice q mq cq]) rfl rfl und24 und24 inf64 rfl (by omega) (by omega) (g.le le1.1) (LH.le_trans hle le1) ⟨q, mq, cq, rfl, e5⟩ rfl ?_ ?_ ?_
          · intro j w hj
            rw [add_plain, Nat.zero_add]
            exact cell_upd (by simpa using hj)
          · intro w hw
            simp at hw
            rcases hw with rfl | rfl | rfl <;> rfl
          · intro p' c' h₂ hle2 _ g2
            refine gZ ?_
            refine t_again (hY (f.n6 - (i + 1)) _ _ (by omega) ⟨hle2, i + 1, p', n + 1, c', rs ++ [x], ?_, by omega, rfl, g2, by simp; omega, by rw [hc]; simp⟩)
            rw [wrap_id (by omega) (by omega)]; rfl
        · exact t_again (skip (by unfold agB; rw [b1, b3]; simp))
      · exact t_again (skip (by unfold agB; rw [b1]; simp [b2]))
    · exact t_again (skip (by unfold agB; rw [b1]; rfl))
  · refine gZ ?_
    rw [List.drop_eq_nil_of_le (by omega)] at hc
    simp at hc
    refine t_ret ⟨hle, p, n, c, rfl, ?_⟩
    rw [hc]
    exact g.sl ReqEnc.len (by omega) (ReqEnc.e (Rd.of_le hle.1)) (by omega)
theorem or_bits {a k : Nat} (ha : a < 2 ^ 32) (hk : k < 32) : IntKind.wrap .i64 (((BitVec.ofInt 64 (a : Int) ||| BitVec.ofInt 64 (IntKind.wrap .i64 (1 * 2 ^ min (k : Int).toNat 64))).toNat : Nat) : Int) = ((a ||| 2 ^ k : Nat) : Int) := by
  have hm : min (k : Int).toNat 64 = k := by simp; omega
  have hp : (2 : Nat) ^ k < 2 ^ 32 := Nat.pow_lt_pow_right (by omega) hk
  have hp' : (1 * 2 ^ k : Int) = ((2 ^ k : Nat) : Int) := by simp
  rw [hm, hp']
  generalize hq : (2 : Nat) ^ k = q at hp
  have hw : IntKind.wrap .i64 ((q : Nat) : Int) = (q : Int) := wrap_id (by omega) (by omega)
  rw [hw]
  have h1 : (BitVec.ofInt 64 (a : Int)).toNat = a := by rw [BitVec.toNat_ofInt]; omega
  have h2 : (BitVec.ofInt 64 (q : Int)).toNat = q := by rw [BitVec.toNat_ofInt]; omega
  rw [BitVec.toNat_or, h1, h2]
  have h3 : a ||| q < 2 ^ 32 := Nat.or_lt_two_pow ha hp
  exact wrap_id (by omega) (by omega)
theorem c107 {h : LH} {d m : Nat} {f : FileC} {u : UseFile} (k : Desk h.get d m f u) (hck : checkF u = 0) {p : Option Addr} {n c : Nat} {l : List Request} (hl : Sl RequestE 3 h.get p n l) (hl4 : l.length ≤ 4) (hdays : ∀ r ∈ l, 0 ≤ r.day ∧ r.day ≤ 2000) (day : Int) :
    De 134 #[.pointer (some ⟨d, 0, none⟩), .slice p n c, .int .i64 day] h d m f u fun r _ => r = .int .i64 (meets u l day) := by
  refine w107 _ _ _ _ _ X0_ok ?_
  unfold n107
  have hn := hl.1
  refine t_loop (fun mm vs h' => Mv m h h' ∧ Desk h'.get d m f u ∧ ∃ (i acc : Nat), vs = [.int .i64 acc, .int .i64 i] ∧ i ≤ n ∧ mm = n - i ∧ acc < 2 ^ 32 ∧ meets u l day = meetsGo u day (l.drop i) i acc)
    ⟨Mv.refl, k, 0, 0, rfl, Nat.zero_le _, rfl, by omega, rfl⟩ ?_
  rintro Y mm vs h₁ hY ⟨mv, k1, i, acc, rfl, hi, rfl, hacc, hc⟩
  refine gZ ?_
  refine t_if (fun e1 => ?_) (fun e1 => ?_)
  · obtain ⟨x, a, hx, ha, e2, e3, q, mq, cq, e4, e5⟩ := (hl.rd RequestE.grow (mv.rd k.isMap)).at (i := i) (by omega)
    rw [drop_of hx, meetsGo] at hc
    refine gZ ?_
    have hxd := hdays x (List.mem_of_getElem? hx)
    refine t_de (c55 k1 (num_ok (check_num hck)).2.2.2 x.day hxd) ?_
    rintro _ h₂ mv2 k2 rfl
    refine gZ ?_
    refine t_pu (c81 _ _ _) ?_
    refine gZ ?_
    refine t_cond (fun b => ?_) (fun b => ?_)
    · rw [if_pos b] at hc
      refine gZ ?_
      rw [or_bits hacc (by omega)]
      refine t_again (hY (n - (i + 1)) _ _ (by omega) ⟨mv.trans mv2, k2, i + 1, acc ||| 2 ^ i, ?_, by omega, rfl, Nat.or_lt_two_pow hacc (Nat.pow_lt_pow_right (by omega) (by omega)), hc⟩)
      rw [wrap_id (by omega) (by omega)]; rfl
    · rw [if_neg (by rw [b]; simp)] at hc
      refine t_again (hY (n - (i + 1)) _ _ (by omega) ⟨mv.trans mv2, k2, i + 1, acc, ?_, by omega, rfl, hacc, hc⟩)
      rw [wrap_id (by omega) (by omega)]; rfl
  · refine gZ ?_
    rw [List.drop_eq_nil_of_le (by omega), meetsGo] at hc
    exact t_ret ⟨mv, k1, by rw [hc]⟩
end Go.Proofs.YtldamlcehbdkdaaDoor
end
section
namespace Go.Proofs.YtldamlcehbdkdaaDoor
open Go Go.TM Go.Proofs
attribute [local irreducible] T.wp CV FWK
def MapIs (h : Cells) (a : Nat) (R : Nat → Prop) : Prop := ∃ es, MapAt h a es ∧ (∀ e ∈ es.toList, ∃ n : Nat, e.key = .int .i64 n ∧ e.val = .bool true ∧ R n) ∧ ∀ n, R n → ∃ e ∈ es.toList, e.key = .int .i64 (n : Int)
theorem MapIs.isMap {h : Cells} {a : Nat} {R : Nat → Prop} (m : MapIs h a R) : ∃ es c, h a = some (true, .map es c) := by obtain ⟨es, ⟨c, h1⟩, _⟩ := m; exact ⟨es, c, h1⟩
theorem MapIs.mv {m a : Nat} {h h' : LH} {R : Nat → Prop} (hne : a ≠ m) (mv : Mv m h h') (hm : MapIs h.get a R) : MapIs h'.get a R := by
  obtain ⟨es, ⟨c, h1⟩, h2⟩ := hm
  exact ⟨es, ⟨c, mv.keep _ _ hne h1⟩, h2⟩
theorem MapIs.congr {h : Cells} {a : Nat} {R R' : Nat → Prop} (hm : MapIs h a R) (hR : ∀ n, R n ↔ R' n) : MapIs h a R' := by
  obtain ⟨es, h1, h2, h3⟩ := hm
  refine ⟨es, h1, fun e he => ?_, fun n hn => h3 n ((hR n).2 hn)⟩
  obtain ⟨n, a, b, c⟩ := h2 e he
  exact ⟨n, a, b, (hR n).1 c⟩
theorem MapIs.keys {h : Cells} {a : Nat} {es : Array MapEntry} {R : Nat → Prop} (h2 : ∀ e ∈ es.toList, ∃ n : Nat, e.key = .int .i64 n ∧ e.val = .bool true ∧ R n) : ∀ e ∈ es.toList, IsKey Tryd.prog 3 e.key := fun e he => by
  obtain ⟨n, h, _⟩ := h2 e he; exact .inl ⟨i64_3, n, h⟩
theorem t_lookSet {X : XP} {Q : Leaf → LH → Prop} {h : LH} {K : Value → T} {a : Nat} {R : Nat → Prop} (hm : MapIs h.get a R) {n : Nat} (h1 : R n → (K (.bool true)).wp X Tryd.prog Q h) (h2 : ¬ R n → (K (.bool false)).wp X Tryd.prog Q h) : (T.sem false (Instr.lookup 142 (.map (some a)) (.int .i64 n) false) K).wp X Tryd.prog Q h := by
  obtain ⟨es, hat, e1, e2⟩ := hm
  refine t_lookup und138 inf4 hat (.inl ⟨i64_3, _, rfl⟩) (MapIs.keys (h := h.get) (a := a) e1) (fun e he hk => ?_) fun hno => ?_
  · obtain ⟨n', g1, g2, g3⟩ := e1 e he
    rw [hk] at g1
    have : n = n' := by simp at g1; omega
    subst this
    rw [g2]
    exact h1 g3
  · refine h2 fun hr => ?_
    obtain ⟨e, he, hk⟩ := e2 n hr
    exact hno e he hk
theorem t_addSet {X : XP} {Q : Leaf → LH → Prop} {h : LH} {K : Value → T} {a : Nat} {R : Nat → Prop} (hm : MapIs h.get a R) {n : Nat} (hk : ∀ es c, MapIs (h.get.upd a (true, .map es c)) a (fun x => R x ∨ x = n) → (K undef).wp X Tryd.prog Q { h with get := h.get.upd a (true, .map es c) }) :
    (T.sem false (Sem.bind (Instr.mapUpdate 142 (.map (some a)) (.int .i64 n) (.bool true)) fun _ => pure (.tuple #[])) K).wp X Tryd.prog Q h := by
  obtain ⟨es, hat, e1, e2⟩ := hm
  refine t_mapUpdate und138 hat (.inl ⟨i64_3, _, rfl⟩) (MapIs.keys (h := h.get) (a := a) e1) fun es' c g1 g2 g3 => hk es' c ⟨es', ⟨c, Cells.upd_self _ _ _⟩, fun e he => ?_, fun x hx => ?_⟩
  · rcases g1 e he with ⟨k1, k2⟩ | k1
    · exact ⟨n, k1, k2, .inr rfl⟩
    · obtain ⟨n', a, b, c⟩ := e1 e k1
      exact ⟨n', a, b, .inl c⟩
  · rcases hx with hx | rfl
    · obtain ⟨e, he, hke⟩ := e2 x hx
      obtain ⟨e', he', hk'⟩ := g3 e he
      exact ⟨e', he', hk'.trans hke⟩
    · exact g2
theorem rd_updMap {h : Cells} {a : Nat} {es' : Array MapEntry} {c : Nat} (hm : ∃ es c, h a = some (true, .map es c)) : Rd h (h.upd a (true, .map es' c)) := by
  intro x v hc
  have hne : x.block ≠ a := by
    intro e
    obtain ⟨es, c, hm⟩ := hm
    unfold Cells.cell? at hc
    rw [e, hm] at hc; cases hc
  unfold Cells.cell? at hc ⊢
  rw [Cells.upd_ne _ _ hne]; exact hc
theorem desk_other {h : Cells} {d m a : Nat} {f : FileC} {u : UseFile} (k : Desk h d m f u) (hne : a ≠ m) (hm : ∃ es c, h a = some (true, .map es c)) {es' : Array MapEntry} {c : Nat} : Desk (h.upd a (true, .map es' c)) d m f u := by
  have hr := rd_updMap (es' := es') (c := c) hm
  refine ⟨k.file.rd hr, k.rep.rd hr, fun j hj => hr _ _ (k.counts j hj), hr _ _ k.mapp, ?_⟩
  obtain ⟨es, c', h1, h2⟩ := k.map
  exact ⟨es, c', by rw [Cells.upd_ne _ _ (Ne.symm hne)]; exact h1, h2⟩
theorem mv_other {m a : Nat} {h h' : LH} (mv : Mv m h h') (hno : h.get a = none) (hne : a ≠ m) {es : Array MapEntry} {c : Nat} : Mv m h { h' with get := h'.get.upd a (true, .map es c) } := by
  refine ⟨fun r x hr hx => ?_, fun es c hm => ?_, mv.same⟩
  · have : r ≠ a := by rintro rfl; rw [hno] at hx; cases hx
    show Cells.upd _ _ _ r = _
    rw [Cells.upd_ne _ _ this]; exact mv.keep r x hr hx
  · obtain ⟨es', c', h1⟩ := mv.isMap es c hm
    exact ⟨es', c', by show Cells.upd _ _ _ m = _; rw [Cells.upd_ne _ _ (Ne.symm hne)]; exact h1⟩
section
variable {X : XP} {Q : Leaf → LH → Prop} {h h' : LH} {d m : Nat} {f : FileC} {u : UseFile} {o : Option (Nat × (Nat → Prop))}
structure St (h : LH) (d m : Nat) (f : FileC) (u : UseFile) (h' : LH) (o : Option (Nat × (Nat → Prop))) : Prop where
  mv : Mv m h h'
  desk : Desk h'.get d m f u
  made : ∀ a R, o = some (a, R) → MapIs h'.get a R ∧ a ≠ m ∧ h.get a = none
theorem s_from (s : St h d m f u h' o) {k : Int → T} (hk : (k u.from_).wp X Tryd.prog Q h') : (T.loadI .i64 (Addr.add (Addr.add (Addr.add ⟨d, 0, none⟩ 0) 0) 2) k).wp X Tryd.prog Q h' := gL0 s.desk.file.f2 hk
theorem s_make (hm : ∃ es c, h.get m = some (true, .map es c)) (s : St h d m f u h' none) {k : Value → T} (hk : ∀ a h'', St h d m f u h'' (some (a, fun _ => False)) → (k (.map (some a))).wp X Tryd.prog Q h'') : (T.sem false (Instr.makeMap 142 none) k).wp X Tryd.prog Q h' := by
  refine t_makeMap fun a ha => hk a _ ?_
  have le1 : h'.le _ := LH.upd_le (x := (true, .map #[] 0)) ha
  have hno : h.get a = none := by
    cases hx : h.get a with
    | none => rfl
    | some x =>
      by_cases e : a = m
      · subst e
        obtain ⟨es, c, hm⟩ := hm
        obtain ⟨es', c', h1⟩ := s.mv.isMap es c hm
        rw [h1] at ha; cases ha
      · rw [s.mv.keep a x e hx] at ha; cases ha
  have hne : a ≠ m := by rintro rfl; obtain ⟨es, c, hm⟩ := hm; rw [hm] at hno; cases hno
  refine ⟨s.mv.trans (Mv.of_le le1), s.desk.le le1.1, fun a' R e => ?_⟩
  cases e
  exact ⟨⟨#[], ⟨0, Cells.upd_self _ _ _⟩, fun e he => by simp at he, fun n hn => hn.elim⟩, hne, hno⟩
theorem s_call (hck : checkF u = 0) (hm : ∃ es c, h.get m = some (true, .map es c)) (s : St h d m f u h' o) {p : Option Addr} {n c : Nat} {l : List Request} (hl : Sl RequestE 3 h.get p n l) (hl4 : l.length ≤ 4) (hdays : ∀ r ∈ l, 0 ≤ r.day ∧ r.day ≤ 2000) {day : Int} {k : Value → T} (hk : ∀ h'', St h d m f u h'' o → (k (.int .i64 (meets u l day))).wp X Tryd.prog Q h'') : (T.call false 134 #[.pointer (some ⟨d, 0, none⟩), .slice p n c, .int .i64 day] k).wp X Tryd.prog Q h' := by
  refine t_de (c107 s.desk hck (hl.rd RequestE.grow (s.mv.rd hm)) hl4 hdays day) ?_
  rintro _ h'' mv k2 rfl
  refine hk h'' ⟨s.mv.trans mv, k2, fun a R e => ?_⟩
  obtain ⟨a1, a2, a3⟩ := s.made a R e
  exact ⟨a1.mv a2 mv, a2, a3⟩
theorem s_add {a : Nat} {R : Nat → Prop} (s : St h d m f u h' (some (a, R))) {n : Nat} {K : Value → T} (hk : ∀ h'', St h d m f u h'' (some (a, fun x => R x ∨ x = n)) → (K undef).wp X Tryd.prog Q h'') :
    (T.sem false (Sem.bind (Instr.mapUpdate 142 (.map (some a)) (.int .i64 n) (.bool true)) fun _ => pure (.tuple #[])) K).wp X Tryd.prog Q h' := by
  obtain ⟨a1, a2, a3⟩ := s.made a R rfl
  refine t_addSet a1 fun es c hm => hk _ ⟨mv_other s.mv a3 a2, desk_other s.desk a2 a1.isMap, fun a' R' e => ?_⟩
  cases e
  exact ⟨hm, a2, a3⟩
end
theorem meets_lt (u : UseFile) (day : Int) : ∀ (l : List Request) (k acc : Nat), acc < 2 ^ (k + l.length) → meetsGo u day l k acc < 2 ^ (k + l.length) := by
  intro l
  induction l with
  | nil => intro k acc h; exact h
  | cons r l ih =>
    intro k acc h
    rw [meetsGo]
    have e : k + (r :: l).length = k + 1 + l.length := by simp; omega
    rw [e] at h ⊢
    refine ih _ _ ?_
    split
    · exact Nat.or_lt_two_pow h (Nat.pow_lt_pow_right (by omega) (by omega))
    · exact h
theorem meets_lt' (u : UseFile) (l : List Request) (day : Int) : meets u l day < 2 ^ l.length := by
  have := meets_lt u day l 0 0 (Nat.two_pow_pos _)
  rw [Nat.zero_add] at this; exact this
theorem or_small {a b : Nat} (ha : a < 16) (hb : b < 16) : IntKind.wrap .i64 (((BitVec.ofInt 64 (a : Int) ||| BitVec.ofInt 64 (b : Int)).toNat : Nat) : Int) = ((a ||| b : Nat) : Int) := by
  have h1 : (BitVec.ofInt 64 (a : Int)).toNat = a := by rw [BitVec.toNat_ofInt]; omega
  have h2 : (BitVec.ofInt 64 (b : Int)).toNat = b := by rw [BitVec.toNat_ofInt]; omega
  rw [BitVec.toNat_or, h1, h2]
  have h3 : a ||| b < 2 ^ 4 := Nat.or_lt_two_pow (by omega) (by omega)
  exact wrap_id (by omega) (by omega)
theorem c102 {h : LH} {d m : Nat} {f : FileC} {u : UseFile} (k : Desk h.get d m f u) (hck : checkF u = 0) {p : Option Addr} {n c : Nat} {l : List Request} (hl : Sl RequestE 3 h.get p n l) (hl4 : l.length ≤ 4) (hdays : ∀ r ∈ l, 0 ≤ r.day ∧ r.day ≤ 2000) (land item : Int) :
    De 123 #[.pointer (some ⟨d, 0, none⟩), .int .i64 land, .int .i64 item, .slice p n c] h d m f u fun r _ => r = .bool (!can u land item l) := by
  refine w102 _ _ _ _ _ _ X0_ok ?_
  unfold n102
  have hn := hl.1
  have hm := k.isMap
  refine gZ ?_
  refine t_blk (fun vs h' => ∃ a, vs = [.map (some a)] ∧ St h d m f u h' (some (a, fun x => False ∨ x = meets u l u.from_))) ?_ ?_
  · have s0 : St h d m f u h none := ⟨Mv.refl, k, fun a R e => by cases e⟩
    refine gZ ?_
    repeat' (first
      | refine t_both ?_ ?_
      | (refine s_make hm (by assumption) fun a hx s => ?_)
      | (refine s_call hck hm (by assumption) hl hl4 hdays fun hx s => ?_)
      | (refine s_add (by assumption) fun hx s => ?_)
      | (refine s_from (by assumption) ?_)
      | (with_reducible refine gD ?_) | (with_reducible refine gP ?_) | ((with_reducible apply gT); first | exact rfl | exact True.intro) | ((with_reducible apply gS2); exact rfl)
      | (refine t_again ⟨_, rfl, by assumption⟩))
  · rintro vs h₁ ⟨a0, rfl, s1⟩
    refine gZ ?_
    obtain ⟨am, ane, ano⟩ := s1.made a0 _ rfl
    refine t_gr (c88 _ _ _) ?_
    rintro _ h₂ le2 ⟨z0, z1, z2, rfl, hz0, hz1, hz2⟩
    have k2 := s1.desk.le le2.1
    have hm2 := k2.isMap
    let h₀ : LH := { h₂ with get := fun b => if b = m then none else h₂.get b }
    have le0 : h₀.le h₂ := ⟨fun b x hb => by
      show h₂.get b = some x
      have hb' : (if b = m then none else h₂.get b) = some x := hb
      split at hb'
      · cases hb'
      · exact hb', rfl, rfl, rfl⟩
    have rd0 : Rd h₂.get h₀.get := by
      intro x v hc
      have hne : x.block ≠ m := by
        intro e
        obtain ⟨es, c, hm⟩ := hm2
        unfold Cells.cell? at hc
        rw [e, hm] at hc; cases hc
      unfold Cells.cell? at hc ⊢
      show (match (if x.block = m then none else h₂.get x.block) with | some (_, .cells c _ _) => if x.spot.isSome then none else c[x.off]? | _ => none) = _
      rw [if_neg hne]; exact hc
    obtain ⟨L, hL1, hL2, hH⟩ := hands99 X0_ok (rd0 _ _ hz0) (rd0 _ _ hz1) (rd0 _ _ hz2) (rd0 _ _ k2.file.f5) (k2.rep.papers.rd PaperE.grow rd0)
    have mv2 := s1.mv.trans (Mv.of_le (m := m) le2)
    have hcan : ∀ R, reachL u l (shown u land item) [meets u l u.from_] = reachL u l [] R → can u land item l = R.contains (2 ^ l.length - 1) := by
      intro R e; unfold can; rw [e]; rfl
    have hpw : (2 : Nat) ^ l.length ≤ 16 := by
      have : (2 : Nat) ^ l.length ≤ 2 ^ 4 := Nat.pow_le_pow_right (by omega) hl4
      omega
    have hpw1 : 0 < (2 : Nat) ^ l.length := Nat.two_pow_pos _
    have hm1 : (1 * 2 ^ min (n : Int).toNat 64 : Int) = ((2 ^ l.length : Nat) : Int) := by
      have : min (n : Int).toNat 64 = l.length := by rw [hn]; simp; omega
      rw [this]; simp
    generalize hP : (2 : Nat) ^ l.length = pw at hpw hpw1 hm1
    have hall : IntKind.wrap .i64 (IntKind.wrap .i64 (1 * 2 ^ min (n : Int).toNat 64) - 1) = ((pw - 1 : Nat) : Int) := by
      rw [hm1, wrap_id (n := (pw : Int)) (by omega) (by omega), wrap_id (by omega) (by omega)]; omega
    have hall2 : IntKind.wrap .i64 (((pw - 1 : Nat) : Int) + 1) = (pw : Int) := by
      rw [wrap_id (by omega) (by omega)]; omega
    simp only [hall, hall2]
    refine t_each le0 hH (fun i vs h' => Mv m h h' ∧ Desk h'.get d m f u ∧ ∃ a R, vs = [.map (some a)] ∧ a ≠ m ∧ MapIs h'.get a (fun x => x ∈ R) ∧ (∀ s ∈ R, s < pw) ∧ reachL u l (shown u land item) [meets u l u.from_] = reachL u l ((shown u land item).drop i) R)
      ⟨mv2, k2, a0, [meets u l u.from_], rfl, ane, (am.mv ane (Mv.of_le (m := m) le2)).congr (fun x => by simp), by intro s hs; simp at hs; subst hs; rw [← hP]; exact meets_lt' u l _, rfl⟩ ?_ ?_
    · rintro vs h₃ hle ⟨mv3, k3, a, R, rfl, hne, hmap, hR, hc⟩
      rw [List.drop_eq_nil_of_le (by rw [hL1]; exact Nat.le_refl _)] at hc
      have hcan' := hcan R hc
      rw [hP] at hcan'
      refine gZ ?_
      refine t_lookSet hmap (fun hin => ?_) fun hnot => ?_
      · refine gZ ?_
        refine t_ret ⟨mv3, k3, ?_⟩
        rw [hcan']
        have : R.contains (pw - 1) = true := by simpa using hin
        rw [this]
      · refine gZ ?_
        refine t_ret ⟨mv3, k3, ?_⟩
        rw [hcan']
        have : R.contains (pw - 1) = false := by simpa using hnot
        rw [this]
    · rintro i xs vs h₃ hi hle ⟨mv3, k3, a, R, rfl, hne, hmap, hR, hc⟩ Y hY
      obtain ⟨x, q, nq, cq, hx, rfl, hit⟩ := hL2 i xs hi
      have hx' : (shown u land item)[i]? = some x := hx
      have hxp := (check_papers hck).2 x (List.mem_filter.1 (List.mem_of_getElem? hx')).1
      rw [drop_of hx', reachL] at hc
      unfold paperV
      refine gZ ?_
      have hm3 := k3.isMap
      refine t_makeMap fun b hb => ?_
      refine gZ ?_
      have le4 : h₃.le _ := LH.upd_le (x := (true, .map #[] 0)) hb
      have hbm : b ≠ m := by rintro rfl; obtain ⟨es, c, hm3⟩ := hm3; rw [hm3] at hb; cases hb
      have hba : b ≠ a := by rintro rfl; obtain ⟨es, c, ha⟩ := hmap.isMap; rw [ha] at hb; cases hb
      -- the days of the paper
      refine t_loop (fun mm vs h' => Mv m h₃ h' ∧ h₀.le h' ∧ Desk h'.get d m f u ∧ ∃ dy : Int, vs = [.int .i64 dy] ∧ x.days.first ≤ dy ∧ dy ≤ x.days.last + 1 ∧ mm = (x.days.last + 1 - dy).toNat ∧ MapIs h'.get b (fun y => ∃ s ∈ R, ∃ e : Int, x.days.first ≤ e ∧ e < dy ∧ y = s ||| meets u l e))
        ⟨Mv.of_le le4, LH.le_trans hle le4, k3.le le4.1, x.days.first, rfl, by omega, by omega, rfl, ⟨#[], ⟨0, Cells.upd_self _ _ _⟩, fun e he => by simp at he, fun y hy => by obtain ⟨s, _, e, h1, h2, _⟩ := hy; omega⟩⟩ ?_
      rintro Y2 mm vs h₅ hY2 ⟨mv5, le5, k5, dy, rfl, hd1, hd2, rfl, hmb⟩
      refine gZ ?_
      refine t_if (fun e1 => ?_) (fun e1 => ?_)
      · have hl5 := hl.rd RequestE.grow (Mv.rd hm (mv3.trans mv5))
        refine t_de (c107 k5 hck hl5 hl4 hdays dy) ?_
        rintro _ h₆ mv6 k6 rfl
        refine gZ ?_
        have le6 : h₀.le h₆ := ⟨fun r y hr => mv6.keep r y (by
          rintro rfl
          have : (if r = r then none else h₂.get r) = some y := hr
          simp at this) (le5.1 r y hr), mv6.same.1.trans le5.2.1, mv6.same.2.1.trans le5.2.2.1, mv6.same.2.2.trans le5.2.2.2⟩
        have hmt := meets_lt' u l dy
        rw [hP] at hmt
        refine t_loop (fun mm vs h' => Mv m h₃ h' ∧ h₀.le h' ∧ Desk h'.get d m f u ∧ ∃ j : Nat, vs = [.int .i64 j] ∧ j ≤ pw ∧ mm = pw - j ∧ MapIs h'.get b (fun y => (∃ s ∈ R, ∃ e : Int, x.days.first ≤ e ∧ e < dy ∧ y = s ||| meets u l e) ∨ ∃ s ∈ R, s < j ∧ y = s ||| meets u l dy))
          ⟨mv5.trans mv6, le6, k6, 0, rfl, Nat.zero_le _, rfl, (hmb.mv hbm mv6).congr fun y => ⟨.inl, fun h => by rcases h with h | ⟨s, _, h1, _⟩; exact h; omega⟩⟩ ?_
        rintro Y3 mm vs h₇ hY3 ⟨mv7, le7, k7, j, rfl, hj, rfl, hmb7⟩
        refine gZ ?_
        refine t_if (fun e2 => ?_) (fun e2 => ?_)
        · have hma : MapIs h₇.get a (fun x => x ∈ R) := hmap.mv hne mv7
          refine t_lookSet hma (fun hin => ?_) fun hnot => ?_
          · refine gZ ?_
            refine t_cond (fun _ => ?_) (fun e => by cases e)
            rw [or_small (by omega) (by omega)]
            refine t_addSet hmb7 fun es cc hnew => ?_
            have mv8 : Mv m h₃ { h₇ with get := h₇.get.upd b (true, .map es cc) } := mv_other mv7 hb hbm
            have hb0 : h₀.get b = none := by
              cases hx0 : h₀.get b with
              | none => rfl
              | some y => rw [hle.1 _ _ hx0] at hb; cases hb
            refine t_again (hY3 (pw - (j + 1)) _ _ (by omega) ⟨mv8, ⟨fun r y hr => ?_, le7.2⟩, desk_other k7 hbm hmb7.isMap, j + 1, ?_, by omega, rfl, hnew.congr fun y => ?_⟩)
            · have : r ≠ b := by rintro rfl; rw [hb0] at hr; cases hr
              show Cells.upd _ _ _ r = _
              rw [Cells.upd_ne _ _ this]; exact le7.1 r y hr
            · rw [wrap_id (by omega) (by omega)]; rfl
            · constructor
              · rintro ((h1 | ⟨s, h1, h2, h3⟩) | rfl)
                · exact .inl h1
                · exact .inr ⟨s, h1, by omega, h3⟩
                · exact .inr ⟨j, hin, by omega, rfl⟩
              · rintro (h1 | ⟨s, h1, h2, h3⟩)
                · exact .inl (.inl h1)
                · by_cases e : s = j
                  · subst e; exact .inr h3
                  · exact .inl (.inr ⟨s, h1, by omega, h3⟩)
          · refine gZ ?_
            refine t_cond (fun e => by cases e) (fun _ => ?_)
            refine t_again (hY3 (pw - (j + 1)) _ _ (by omega) ⟨mv7, le7, k7, j + 1, ?_, by omega, rfl, hmb7.congr fun y => ?_⟩)
            · rw [wrap_id (by omega) (by omega)]; rfl
            · constructor
              · rintro (h1 | ⟨s, h1, h2, h3⟩)
                · exact .inl h1
                · exact .inr ⟨s, h1, by omega, h3⟩
              · rintro (h1 | ⟨s, h1, h2, h3⟩)
                · exact .inl h1
                · refine .inr ⟨s, h1, ?_, h3⟩
                  have : s ≠ j := by rintro rfl; exact hnot h1
                  omega
        · refine gZ ?_
          refine t_again (hY2 (x.days.last + 1 - (dy + 1)).toNat _ _ (by omega) ⟨mv7, le7, k7, dy + 1, ?_, by omega, by omega, rfl, hmb7.congr fun y => ?_⟩)
          · rw [wrap_id (by omega) (by omega)]
          · constructor
            · rintro (⟨s, h1, e, h2, h3, h4⟩ | ⟨s, h1, h2, h3⟩)
              · exact ⟨s, h1, e, h2, by omega, h4⟩
              · exact ⟨s, h1, dy, hd1, by omega, h3⟩
            · rintro ⟨s, h1, e, h2, h3, h4⟩
              by_cases he : e = dy
              · subst he; exact .inr ⟨s, h1, by have := hR s h1; omega, h4⟩
              · exact .inl ⟨s, h1, e, h2, by omega, h4⟩
      · refine gZ ?_
        have hdy : dy = x.days.last + 1 := by omega
        subst hdy
        refine t_againE le5 (hY _ _ le5 ⟨mv3.trans mv5, k5, b, stepL ((daysOf x.days).map (meets u l)) R, rfl, hbm, hmb.congr fun y => ?_, ?_, hc⟩)
        · simp only [stepL, List.mem_flatMap, List.mem_map, daysOf, List.mem_range]
          constructor
          · rintro ⟨s, h1, e, h2, h3, rfl⟩
            exact ⟨s, h1, _, ⟨e, ⟨(e - x.days.first).toNat, by omega, by omega⟩, rfl⟩, rfl⟩
          · rintro ⟨s, h1, _, ⟨e, ⟨i, h2, rfl⟩, rfl⟩, rfl⟩
            exact ⟨s, h1, _, by omega, by omega, rfl⟩
        · intro s hs
          simp only [stepL, List.mem_flatMap, List.mem_map] at hs
          obtain ⟨s0, h0, mm, ⟨e, _, rfl⟩, rfl⟩ := hs
          rw [← hP]
          exact Nat.or_lt_two_pow (by rw [hP]; exact hR s0 h0) (meets_lt' u l e)
end Go.Proofs.YtldamlcehbdkdaaDoor
end
section
namespace Go.Proofs.YtldamlcehbdkdaaDoor
open Go Go.TM Go.Proofs
attribute [local irreducible] T.wp CV FWK
theorem against_sub {u : UseFile} {land item day : Int} : ∀ r ∈ against u land item day, r ∈ u.requests := fun r hr => (List.mem_filter.1 hr).1
theorem against_len {u : UseFile} (hck : checkF u = 0) (land item day : Int) : (against u land item day).length ≤ 4 := Nat.le_trans (List.length_filter_le _ _) (check_requests hck).1
theorem c91 {h : LH} {d m : Nat} {f : FileC} {u : UseFile} (k : Desk h.get d m f u) (hck : checkF u = 0) (land item day : Int) :
    De 102 #[.pointer (some ⟨d, 0, none⟩), .int .i64 land, .int .i64 item, .int .i64 day] h d m f u fun r _ => r = .int .i64 (left u land item day) := by
  refine w91 _ _ _ _ X0_ok ?_
  unfold n91
  refine t_gr (c101 k hck land item day) ?_
  rintro _ h₁ le1 ⟨p, n, c, rfl, hl⟩
  have k1 := k.le le1.1
  have hm1 := k1.isMap
  have hdays : ∀ r ∈ against u land item day, 0 ≤ r.day ∧ r.day ≤ 2000 := fun r hr => (check_requests hck).2 r (against_sub r hr)
  have hl4 := against_len hck land item day
  refine gZ ?_
  have hn := hl.1
  refine t_loop (fun mm vs h' => Mv m h₁ h' ∧ Desk h'.get d m f u ∧ ∃ i : Nat, vs = [.bool true, .int .i64 i] ∧ i ≤ n ∧ mm = n - i ∧ ∀ j r, j < i → (against u land item day)[j]? = some r → safe u land item r.day = 1)
    ⟨Mv.refl, k1, 0, rfl, Nat.zero_le _, rfl, fun j r hj => by omega⟩ ?_
  rintro Y mm vs h₂ hY ⟨mv, k2, i, rfl, hi, rfl, hall⟩
  refine gZ ?_
  refine t_if (fun e1 => ?_) (fun e1 => ?_)
  · obtain ⟨x, a, hx, ha, e2, e3, q, mq, cq, e4, e5⟩ := (hl.rd RequestE.grow (mv.rd hm1)).at (i := i) (by omega)
    refine gZ ?_
    have hxd := hdays x (List.mem_of_getElem? hx)
    refine t_de (c60 k2 (check_num hck) land item x.day hxd) ?_
    rintro _ h₃ mv3 k3 rfl
    refine gZ ?_
    refine t_cond (fun b => ?_) (fun b => ?_)
    · refine gZ ?_
      refine t_cond (fun e => by cases e) (fun _ => ?_)
      have mv13 := mv.trans mv3
      refine t_de (c102 k3 hck (hl.rd RequestE.grow (mv13.rd hm1)) hl4 hdays land item) ?_
      rintro _ h₄ mv4 k4 rfl
      refine gZ ?_
      have hne : safe u land item x.day ≠ 1 := by simpa using b
      have hnot : ¬ ((against u land item day).all fun r => decide (safe u land item r.day = 1)) = true := by
        intro hh
        have := List.all_eq_true.1 hh x (List.mem_of_getElem? hx)
        exact hne (by simpa using this)
      refine t_cond (fun e => ?_) (fun e => ?_)
      · refine t_ret ⟨(Mv.of_le le1).trans (mv13.trans mv4), k4, ?_⟩
        have : can u land item (against u land item day) = false := by simpa using e
        rw [left, if_neg hnot, this]; rfl
      · refine t_ret ⟨(Mv.of_le le1).trans (mv13.trans mv4), k4, ?_⟩
        have : can u land item (against u land item day) = true := by simpa using e
        rw [left, if_neg hnot, this]; rfl
    · refine t_again (hY (n - (i + 1)) _ _ (by omega) ⟨mv.trans mv3, k3, i + 1, ?_, by omega, rfl, fun j r hj hr => ?_⟩)
      · rw [wrap_id (by omega) (by omega)]; rfl
      · by_cases e : j = i
        · subst e; rw [hx] at hr; cases hr; simpa using b
        · exact hall j r (by omega) hr
  · refine gZ ?_
    refine t_cond (fun _ => ?_) (fun e => by cases e)
    refine t_ret ⟨(Mv.of_le le1).trans mv, k2, ?_⟩
    have : ((against u land item day).all fun r => decide (safe u land item r.day = 1)) = true := by
      rw [List.all_eq_true]
      intro r hr
      obtain ⟨j, hj⟩ := List.mem_iff_getElem?.1 hr
      have := hall j r (by have := (List.getElem?_eq_some_iff.1 hj).1; omega) hj
      simpa using this
    rw [left, if_pos this]
def dropM (m : Nat) (h : LH) : LH := { h with get := fun b => if b = m then none else h.get b }
theorem dropM_le {m : Nat} {h h' : LH} (mv : Mv m h h') : (dropM m h).le h' := by
  refine ⟨fun r x hr => ?_, mv.same⟩
  have hr' : (if r = m then none else h.get r) = some x := hr
  split at hr'
  · cases hr'
  · exact mv.keep r x (by assumption) hr'
theorem dropM_rd {m : Nat} {h : LH} (hm : ∃ es c, h.get m = some (true, .map es c)) : Rd h.get (dropM m h).get := by
  intro x v hc
  have hne : x.block ≠ m := by
    intro e
    obtain ⟨es, c, hm⟩ := hm
    unfold Cells.cell? at hc
    rw [e, hm] at hc; cases hc
  unfold Cells.cell? at hc ⊢
  show (match (if x.block = m then none else h.get x.block) with | some (_, .cells c _ _) => if x.spot.isSome then none else c[x.off]? | _ => none) = _
  rw [if_neg hne]; exact hc
theorem mv_of_drop {m : Nat} {h h' : LH} (hl : (dropM m h).le h') (hm : ∃ es c, h'.get m = some (true, .map es c)) : Mv m h h' :=
  ⟨fun r x hr hx => hl.1 r x (by show (if r = m then none else h.get r) = _; rw [if_neg hr]; exact hx), fun _ _ _ => hm, hl.2⟩
theorem desk_of_drop {h h' : LH} {d m : Nat} {f : FileC} {u : UseFile} (k : Desk h.get d m f u) (hl : (dropM m h).le h') (hm : ∃ es c, h'.get m = some (true, .map es c) ∧ ∀ e ∈ es.toList, ∃ day : Int, e.key = .agg #[.int .i64 day, .int .i64 u.idle] ∧ e.val = .agg #[.int .i64 (window u day).first, .int .i64 day]) : Desk h'.get d m f u := by
  have hr : Rd h.get h'.get := (dropM_rd k.isMap).trans (Rd.of_le hl.1)
  exact ⟨k.file.rd hr, k.rep.rd hr, fun j hj => hr _ _ (k.counts j hj), hr _ _ k.mapp, hm⟩
theorem t_growD {α : Type} {X : XP} {Q : Leaf → LH → Prop} {Enc : α → List Value → Prop} {h h₁ : LH} {d m : Nat} {f : FileC} {u : UseFile} {k : Value → T} {ts : Array TypeId} {ty sT xT el xe : TypeId} {s by_ : Nat} {z : Value} {p : Option Addr} {n c mc : Nat} {b : Addr} {l : List α} {x : α} {ws : List Value} (kd : Desk h.get d m f u) (k1 : Desk h₁.get d m f u) (mv : Mv m h h₁)
    (h0 : ts[0]? = some sT) (h1 : ts[1]? = some xT) (hu : Tryd.prog.underlying sT = some (.slice el)) (hx : Tryd.prog.underlying xT = some (.slice xe)) (hi : (Tryd.prog.info? el).map (fun i => (i.size, i.bytes, i.zero)) = some (s, by_, some z)) (hsz : z.cells.size = s) (hb : by_ ≤ 1024) (hn : n + 1 ≤ 2 ^ 30) (g : Growing Enc el s (dropM m h).get h₁.get p n c l) (he : Enc x ws) (hl : ws.length = s) (hc : ∀ (j : Nat) v, ws[j]? = some v → h₁.get.cell? (b.add j) = some v) (one : ∀ v ∈ ws, isOne v = true)
    (hk : ∀ p' c' h', Mv m h h' → Desk h'.get d m f u → Growing Enc el s (dropM m h).get h'.get p' (n + 1) c' (l ++ [x]) → (k (.slice p' (n + 1) c')).wp X Tryd.prog Q h') : (T.sem false (Builtin.append_ ts ty #[.slice p n c, .slice (some b) 1 mc]) k).wp X Tryd.prog Q h₁ := by
  have hpm : ∀ a, p = some a → a.block ≠ m := by
    intro a ha e
    obtain ⟨vs, ⟨_, h2⟩, _⟩ := g.row
    obtain ⟨es, c', hm⟩ := k1.isMap
    rcases h2 with ⟨rfl, _⟩ | ⟨r, cs, rfl, hr, _⟩
    · cases ha
    · cases ha; subst e; rw [hm] at hr; cases hr
  refine t_grow h0 h1 hu hx hi hsz hb hn g (dropM_le mv) he hl hc one fun p' c' h' hle hkeep g' => ?_
  obtain ⟨es, c0, hm, hv⟩ := k1.map
  have hm' := hkeep m _ hpm hm
  exact hk p' c' h' (mv_of_drop hle ⟨es, c0, hm'⟩) (desk_of_drop kd hle ⟨es, c0, hm', hv⟩) g'
theorem leftAll_take {u : UseFile} {land day : Int} (i : Nat) (hi : i < u.items.toNat) : (leftAll u land day).take (i + 1) = (leftAll u land day).take i ++ [left u land i day] := by
  have hlen : i < (leftAll u land day).length := by unfold leftAll; rw [List.length_map, List.length_range]; exact hi
  rw [List.take_succ_eq_append_getElem hlen]
  congr 2
  simp [leftAll]
theorem c63 {h : LH} {d m : Nat} {f : FileC} {u : UseFile} (k : Desk h.get d m f u) (hck : checkF u = 0) (land day : Int) :
    De 65 #[.pointer (some ⟨d, 0, none⟩), .int .i64 land, .int .i64 day] h d m f u fun r h' => ∃ p n c, r = .slice p n c ∧ Growing IntEnc 60 1 (dropM m h).get h'.get p n c (leftAll u land day) := by
  refine w63 _ _ _ X0_ok ?_
  unfold n63
  obtain ⟨f0, f1, f2, f3, f4, f5, f6⟩ := k.file
  have hit := (num_ok (check_num hck)).1
  refine gZ ?_
  have hlen : (leftAll u land day).length = u.items.toNat := by unfold leftAll; rw [List.length_map, List.length_range]
  refine t_loop (fun mm vs h' => Mv m h h' ∧ Desk h'.get d m f u ∧ ∃ (i : Nat) (p : Option Addr) (n c : Nat), vs = [.slice p n c, .int .i64 i] ∧ i ≤ u.items.toNat ∧ mm = u.items.toNat - i ∧ Growing IntEnc 60 1 (dropM m h).get h'.get p n c ((leftAll u land day).take i))
    ⟨Mv.refl, k, 0, none, 0, 0, rfl, Nat.zero_le _, rfl, Growing.nil⟩ ?_
  rintro Y mm vs h₁ hY ⟨mv, k1, i, p, n, c, rfl, hi, rfl, g⟩
  refine gZ ?_
  refine t_if (fun e1 => ?_) (fun e1 => ?_)
  · have hm1 := k1.isMap
    refine t_de (c91 k1 hck land i day) ?_
    rintro _ h₂ mv2 k2 rfl
    refine gZ ?_
    have g2 := g.mv hm1 mv2
    refine t_build und40 inf34 (by decide) (by decide) (cells := #[.int .i64 (left u land i day)]) (by kernel_rfl) fun r hr => ?_
    have le3 : h₂.le _ := LH.upd_le (x := (true, .cells #[.int .i64 (left u land i day)] 60 (0, 0))) hr
    have hng := g2.count IntEnc.len (by omega)
    rw [List.length_take] at hng
    refine gZ ?_
    refine t_growD (x := left u land i day) (ws := [.int .i64 (left u land i day)]) k (k2.le le3.1) ((mv.trans mv2).trans (Mv.of_le le3)) rfl rfl und40 und40 inf34 rfl (by omega) (by omega) (g2.le le3.1) rfl rfl ?_ ?_ ?_
    · intro j w hj
      rw [add_plain, Nat.zero_add]
      exact cell_upd (by simpa using hj)
    · intro w hw; simp at hw; subst hw; rfl
    · intro p' c' h₄ mv4 k4 g4
      refine gZ ?_
      refine t_again (hY (u.items.toNat - (i + 1)) _ _ (by omega) ⟨mv4, k4, i + 1, p', n + 1, c', ?_, by omega, rfl, ?_⟩)
      · rw [wrap_id (by omega) (by omega)]; rfl
      · rw [leftAll_take i (by omega)]; exact g4
  · refine gZ ?_
    have : i = u.items.toNat := by omega
    subst this
    rw [List.take_of_length_le (by omega)] at g
    exact t_ret ⟨mv, k1, p, n, c, rfl, g⟩
def LeftR (h' : Cells) (u : UseFile) (land day : Int) (r : Value) : Prop :=
  (openF u [landQ u land, dayQ day] ≠ 0 ∧ r = .tuple #[.slice none 0 0, .int .i64 (openF u [landQ u land, dayQ day])]) ∨
  (openF u [landQ u land, dayQ day] = 0 ∧ ∃ p n c, r = .tuple #[.slice p n c, .int .i64 0] ∧ Sl IntE 1 h' p n (leftAll u land day))
theorem c23 {h : LH} {f : FileC} {u : UseFile} (hp : Parts h.get) (hu : FileR h.get f u) (land day : Int) : Gr Tryd.prog 25 #[fileV f u, .int .i64 land, .int .i64 day] h fun r h' => LeftR h'.get u land day r := by
  refine w23 _ _ _ _ _ _ _ _ _ _ _ _ _ _ _ X0_ok ?_
  unfold n23
  refine t_gr (c58 u land) ?_
  rintro v0 h₁ le1 ⟨q0, a0⟩
  refine gZ ?_
  refine t_gr (c54 u day) ?_
  rintro v1 h₂ le2 ⟨q1, a1⟩
  refine gZ ?_
  refine asks2 q0 (a0.le le2) q1 a1 fun r h₄ le4 hs => ?_
  refine gZ ?_
  have le14 := LH.le_trans (LH.le_trans le1 le2) le4
  refine t_call (c53 (f := f) (hp.le le14.1) (hu.le le14.1) hs) ?_
  rintro v h₅ ⟨le5, ⟨hne, rfl⟩ | ⟨h0, d, m, rfl, hd, hm, k⟩⟩
  · refine gZ ?_
    refine t_cond (fun _ => ?_) (fun e => absurd (by simpa using e) hne)
    exact t_ret ⟨LH.le_trans le14 le5, .inl ⟨hne, rfl⟩⟩
  · refine gZ ?_
    refine t_cond (fun e => by cases e) (fun _ => ?_)
    refine t_de (c63 k (open_num h0).2 land day) ?_
    rintro _ h₆ mv k6 ⟨p, n, c, rfl, g⟩
    refine gZ ?_
    refine t_ret ⟨LH.le_trans le14 (Mv.le_of le5 hm mv), .inr ⟨h0, p, n, c, rfl, ?_⟩⟩
    refine g.sl IntEnc.len (by omega) IntEnc.e ?_
    have := (num_ok (open_num h0).1).1
    unfold leftAll; rw [List.length_map, List.length_range]; omega
end Go.Proofs.YtldamlcehbdkdaaDoor
end
section
namespace Go.Proofs.YtldamlcehbdkdaaDoor
open Go Go.TM Go.Proofs
attribute [local irreducible] T.wp CV FWK
def LackEnc (x : Lack) (ws : List Value) : Prop := ws = [.int .i64 x.item, .int .i64 x.request, .int .i64 x.window.first, .int .i64 x.window.last]
theorem LackEnc.len : ∀ x ws, LackEnc x ws → ws.length = 4 := by rintro x _ rfl; rfl
theorem LackEnc.e {h' : Cells} : ∀ a x ws, LackEnc x ws → (∀ (j : Nat) w, ws[j]? = some w → h'.cell? (a.add j) = some w) → LackE h' a x := by
  rintro a x _ rfl hc
  exact ⟨hc 0 _ rfl, hc 1 _ rfl, hc 2 _ rfl, hc 3 _ rfl⟩
theorem check_items {u : UseFile} (h : checkF u = 0) : ∀ r ∈ u.requests, risesF r.items u.items = 0 := by
  obtain ⟨_, h2⟩ := eachF_zero (check_parts h).2.2.2
  intro r hr
  obtain ⟨j, hj⟩ := List.mem_iff_getElem?.1 hr
  have := h2 j r hj
  have key : ∀ (c1 c2 c3 : Prop) [Decidable c1] [Decidable c2] [Decidable c3] (x : Int), (if c1 then (1 : Int) else if c2 then 7 else if c3 then 6 else x) = 0 → x = 0 := by
    intro c1 c2 c3 _ _ _ x hx
    by_cases a1 : c1
    · rw [if_pos a1] at hx; cases hx
    · rw [if_neg a1] at hx
      by_cases a2 : c2
      · rw [if_pos a2] at hx; cases hx
      · rw [if_neg a2] at hx
        by_cases a3 : c3
        · rw [if_pos a3] at hx; cases hx
        · rw [if_neg a3] at hx; exact hx
  exact key _ _ _ _ this
theorem rises_len {l : List Int} {b : Int} (h : risesF l b = 0) : (∀ i (hi : i < l.length), (i : Int) ≤ l[i] ∧ l[i] < b ∧ 0 ≤ l[i]) := by
  have h' := firstF_zero' h
  intro i
  induction i with
  | zero =>
    intro hi
    have := h' 0 l[0] (List.getElem?_eq_getElem hi)
    unfold riseF at this
    split at this
    · cases this
    · rename_i h1
      simp [isIn] at h1
      omega
  | succ i ih =>
    intro hi
    have h1 := ih (by omega)
    have := h' (i + 1) l[i + 1] (List.getElem?_eq_getElem hi)
    unfold riseF at this
    split at this
    · cases this
    · split at this
      · cases this
      · rename_i h2 h3
        simp [isIn] at h2
        have e : l.getD (0 + (i + 1) - 1) 0 = l[i] := by
          rw [show 0 + (i + 1) - 1 = i by omega]
          simp [List.getD, List.getElem?_eq_getElem (show i < l.length by omega)]
        rw [e] at h3
        have : ¬ l[i + 1] ≤ l[i] := fun hh => h3 ⟨by omega, hh⟩
        omega
theorem rises_len' {l : List Int} {b : Int} (h : risesF l b = 0) (hb : 0 ≤ b) : (l.length : Int) ≤ b := by
  by_cases h0 : l.length = 0
  · omega
  · have := rises_len h (l.length - 1) (by omega)
    omega
theorem lacksGo_len {u : UseFile} {land day : Int} (hi : ∀ r ∈ u.requests, r.items.length ≤ 6) : ∀ (l : List Request) (i : Nat), (∀ r ∈ l, r ∈ u.requests) → (lacksGo u land day l i).length ≤ l.length * 6 := by
  intro l
  induction l with
  | nil => intro i _; simp [lacksGo]
  | cons r l ih =>
    intro i hs
    rw [lacksGo, List.length_append]
    have h1 := ih (i + 1) fun r hr => hs r (by simp [hr])
    have h2 : (lacksOf u land day i r).length ≤ 6 := by
      unfold lacksOf
      split
      · simp
      · rw [List.length_map]
        exact Nat.le_trans (List.length_filter_le _ _) (hi r (hs r (by simp)))
    simp only [List.length_cons]; omega
def LacksR (h' : Cells) (u : UseFile) (land day : Int) (r : Value) : Prop :=
  (openF u [landQ u land, dayQ day] ≠ 0 ∧ r = .tuple #[.slice none 0 0, .int .i64 (openF u [landQ u land, dayQ day])]) ∨
  (openF u [landQ u land, dayQ day] = 0 ∧ ∃ p n c, r = .tuple #[.slice p n c, .int .i64 0] ∧ Sl LackE 4 h' p n (lacks u land day))
theorem c28 {h : LH} {f : FileC} {u : UseFile} (hp : Parts h.get) (hu : FileR h.get f u) (land day : Int) : Gr Tryd.prog 26 #[fileV f u, .int .i64 land, .int .i64 day] h fun r h' => LacksR h'.get u land day r := by
  refine w28 _ _ _ _ _ _ _ _ _ _ _ _ _ _ _ X0_ok ?_
  unfold n28
  refine t_gr (c58 u land) ?_
  rintro v0 h₁ le1 ⟨q0, a0⟩
  refine gZ ?_
  refine t_gr (c54 u day) ?_
  rintro v1 h₂ le2 ⟨q1, a1⟩
  refine gZ ?_
  refine asks2 q0 (a0.le le2) q1 a1 fun r h₄ le4 hs => ?_
  refine gZ ?_
  have le14 := LH.le_trans (LH.le_trans le1 le2) le4
  refine t_call (c53 (f := f) (hp.le le14.1) (hu.le le14.1) hs) ?_
  rintro v h₅ ⟨le5, ⟨hne, rfl⟩ | ⟨h0, d, m, rfl, hd, hm, k⟩⟩
  · refine gZ ?_
    refine t_cond (fun _ => ?_) (fun e => absurd (by simpa using e) hne)
    exact t_ret ⟨LH.le_trans le14 le5, .inl ⟨hne, rfl⟩⟩
  · refine gZ ?_
    refine t_cond (fun e => by cases e) (fun _ => ?_)
    have hck := (open_num h0).2
    have hnum := check_num hck
    have hreq := check_requests hck
    have hitn := (num_ok hnum).1
    have hitems : ∀ r ∈ u.requests, r.items.length ≤ 6 := fun r hr => by have := rises_len' (check_items hck r hr) (by omega); omega
    have hlen6 := lacksGo_len (land := land) (day := day) hitems u.requests 0 fun r hr => hr
    have le15 := LH.le_trans le14 le5
    have hrq := (hu.le le15.1).requests
    have hn6 := hrq.1
    have hm5 := k.isMap
    refine t_loop (fun mm vs h' => Mv m h₅ h' ∧ Desk h'.get d m f u ∧ ∃ (i : Nat) (p : Option Addr) (n c : Nat) (rs : List Lack), vs = [.slice p n c, .int .i64 i] ∧ i ≤ f.n6 ∧ mm = f.n6 - i ∧ Growing LackEnc 79 4 (dropM m h₅).get h'.get p n c rs ∧ lacks u land day = rs ++ lacksGo u land day (u.requests.drop i) i)
      ⟨Mv.refl, k, 0, none, 0, 0, [], rfl, Nat.zero_le _, rfl, Growing.nil, rfl⟩ ?_
    rintro Y mm vs h₆ hY ⟨mv, k6, i, p, n, c, rs, rfl, hi, rfl, g, hc⟩
    refine gZ ?_
    refine t_if (fun e1 => ?_) (fun e1 => ?_)
    · obtain ⟨x, a, hx, ha, e2, e3, q, mq, cq, e4, e5⟩ := hrq.at (i := i) (by omega)
      have e2 := mv.rd hm5 _ _ e2
      have e3 := mv.rd hm5 _ _ e3
      have e4 := mv.rd hm5 _ _ e4
      have hxm := List.mem_of_getElem? hx
      have hxd := hreq.2 x hxm
      have hx6 := hitems x hxm
      rw [drop_of hx, lacksGo] at hc
      refine gZ ?_
      have next : ∀ h' p n c rs', Mv m h₅ h' → Desk h'.get d m f u → Growing LackEnc 79 4 (dropM m h₅).get h'.get p n c rs' → rs' = rs ++ lacksOf u land day i x → Y [.slice p n c, .int .i64 (IntKind.wrap .i64 ((i : Int) + 1))] h' := by
        rintro h' p n c rs' mv' k' g' rfl
        refine hY (f.n6 - (i + 1)) _ _ (by omega) ⟨mv', k', i + 1, p, n, c, _, ?_, by omega, rfl, g', by rw [hc, List.append_assoc]⟩
        rw [wrap_id (by omega) (by omega)]; rfl
      refine t_blk (fun vs h' => vs = [] ∧ h₆ = h' ∧ x.land = land ∧ x.day ≤ day) ?_ ?_
      · refine t_cond (fun b1 => ?_) (fun b1 => ?_)
        · refine gR ?_
          refine t_cond (fun _ => ?_) (fun e => by cases e)
          refine gZ ?_
          refine t_again (next h₆ p n c rs mv k6 g ?_)
          have : x.land ≠ land := by simpa using b1
          rw [lacksOf, if_pos (.inl this)]; simp
        · refine t_if (fun b2 => ?_) (fun b2 => ?_)
          · refine gR ?_
            refine t_cond (fun _ => ?_) (fun e => by cases e)
            refine gZ ?_
            refine t_again (next h₆ p n c rs mv k6 g ?_)
            rw [lacksOf, if_pos (.inr b2)]; simp
          · exact t_again ⟨rfl, rfl, by simpa using b1, by omega⟩
      · rintro vs _ ⟨rfl, rfl, hland, hday⟩
        refine gZ ?_
        have hof : lacksOf u land day i x = (x.items.filter fun n => decide (safe u land n x.day ≠ 1)).map fun n => ⟨n, (i : Int), ⟨(window u x.day).first, x.day⟩⟩ := by
          rw [lacksOf, if_neg (by omega)]
        have hmq := e5.1
        refine t_loop (fun mm vs h' => Mv m h₅ h' ∧ Desk h'.get d m f u ∧ ∃ (j : Nat) (p : Option Addr) (n c : Nat) (ss : List Lack), vs = [.slice p n c, .int .i64 j] ∧ j ≤ mq ∧ mm = mq - j ∧ ss.length ≤ j ∧ Growing LackEnc 79 4 (dropM m h₅).get h'.get p n c (rs ++ ss) ∧ lacksOf u land day i x = ss ++ ((x.items.drop j).filter fun n => decide (safe u land n x.day ≠ 1)).map fun n => ⟨n, (i : Int), ⟨(window u x.day).first, x.day⟩⟩)
          ⟨mv, k6, 0, p, n, c, [], rfl, Nat.zero_le _, rfl, Nat.le_refl _, by simpa using g, hof⟩ ?_
        rintro Y2 mm vs h₇ hY2 ⟨mv7, k7, j, p, n, c, ss, rfl, hj, rfl, hsl, g7, hc7⟩
        refine gZ ?_
        refine t_if (fun e6 => ?_) (fun e6 => ?_)
        · obtain ⟨y, b, hy, hb, e7⟩ := (e5.rd IntE.grow (mv7.rd hm5)).at (i := j) (by omega)
          unfold IntE at e7
          rw [drop_of hy, List.filter_cons] at hc7
          refine gZ ?_
          refine t_de (c60 k7 hnum land y x.day hxd) ?_
          rintro _ h₈ mv8 k8 rfl
          have g8 := g7.mv k7.isMap mv8
          refine gZ ?_
          refine t_cond (fun b1 => ?_) (fun b1 => ?_)
          · have b1' : decide (safe u land y x.day ≠ 1) = true := by simpa using b1
            rw [if_pos b1', List.map_cons] at hc7
            refine t_de (c55 k8 (num_ok hnum).2.2.2 x.day hxd) ?_
            rintro _ h₉ mv9 k9 rfl
            have g9 := g8.mv k8.isMap mv9
            have e7' := (mv8.trans mv9).rd k7.isMap _ _ e7
            refine gZ ?_
            refine t_build und45 inf79 (by decide) (by decide) (cells := #[.int .i64 y, .int .i64 i, .int .i64 (window u x.day).first, .int .i64 x.day]) (by kernel_rfl) fun r hr => ?_
            have le10 : h₉.le _ := LH.upd_le (x := (true, .cells #[.int .i64 y, .int .i64 i, .int .i64 (window u x.day).first, .int .i64 x.day] 79 (0, 0))) hr
            have hng := g9.count LackEnc.len (by omega)
            have hrs6 : rs.length ≤ u.requests.length * 6 := by
              have := hlen6
              unfold lacks at hc
              rw [hc, List.length_append] at this; omega
            have hssl : ss.length ≤ 6 := by have := e5.1; omega
            rw [List.length_append] at hng
            refine gZ ?_
            refine t_growD (x := (⟨y, (i : Int), ⟨(window u x.day).first, x.day⟩⟩ : Lack)) (ws := [.int .i64 y, .int .i64 i, .int .i64 (window u x.day).first, .int .i64 x.day]) k (k9.le le10.1) (((mv7.trans mv8).trans mv9).trans (Mv.of_le le10)) rfl rfl und45 und45 inf79 rfl (by omega) (by omega) (g9.le le10.1) rfl rfl ?_ ?_ ?_
            · intro j w hj
              rw [add_plain, Nat.zero_add]
              exact cell_upd (by simpa using hj)
            · intro w hw; simp at hw; rcases hw with rfl | rfl | rfl | rfl <;> rfl
            · intro p' c' h₁₀ mv10 k10 g10
              refine gZ ?_
              refine t_again (hY2 (mq - (j + 1)) _ _ (by omega) ⟨mv10, k10, j + 1, p', n + 1, c', ss ++ [⟨y, (i : Int), ⟨(window u x.day).first, x.day⟩⟩], ?_, by omega, rfl, by simp; omega, by rw [← List.append_assoc]; exact g10, by rw [hc7]; simp⟩)
              rw [wrap_id (by omega) (by omega)]; rfl
          · have b1' : decide (safe u land y x.day ≠ 1) = false := by simpa using b1
            rw [if_neg (by rw [b1']; simp)] at hc7
            refine t_again (hY2 (mq - (j + 1)) _ _ (by omega) ⟨mv7.trans mv8, k8, j + 1, p, n, c, ss, ?_, by omega, rfl, by omega, g8, hc7⟩)
            rw [wrap_id (by omega) (by omega)]; rfl
        · refine gZ ?_
          rw [List.drop_eq_nil_of_le (by omega)] at hc7
          refine t_again (next h₇ p n c _ mv7 k7 g7 ?_)
          rw [hc7]; simp
    · refine gZ ?_
      rw [List.drop_eq_nil_of_le (by omega), lacksGo, List.append_nil] at hc
      refine t_ret ⟨LH.le_trans le14 (Mv.le_of le5 hm mv), .inr ⟨h0, p, n, c, rfl, ?_⟩⟩
      rw [hc]
      refine g.sl LackEnc.len (by omega) LackEnc.e ?_
      have : rs.length ≤ u.requests.length * 6 := by
        have := hlen6
        unfold lacks at hc
        rw [hc] at this; exact this
      omega
def PaperEnc (h₀ : Cells) (x : Paper) (ws : List Value) : Prop := ∃ q m c, ws = [.int .i64 x.days.first, .int .i64 x.days.last, .int .i64 x.land, .slice q m c] ∧ Sl IntE 1 h₀ q m x.items
theorem PaperEnc.len {h₀ : Cells} : ∀ x ws, PaperEnc h₀ x ws → ws.length = 4 := by rintro x _ ⟨q, m, c, rfl, _⟩; rfl
theorem PaperEnc.e {h₀ h' : Cells} (hr : Rd h₀ h') : ∀ a x ws, PaperEnc h₀ x ws → (∀ (j : Nat) w, ws[j]? = some w → h'.cell? (a.add j) = some w) → PaperE h' a x := by
  rintro a x _ ⟨q, m, c, rfl, hs⟩ hc
  exact ⟨hc 0 _ rfl, hc 1 _ rfl, hc 2 _ rfl, q, m, c, hc 3 _ rfl, hs.rd IntE.grow hr⟩
def enoughB (u : UseFile) (land day : Int) (papers all : List Int) : Bool := decide (checkF (withP u papers) = 0) && coversB all (leftAll (withP u papers) land day)
theorem withP_take {u : UseFile} {pl : List Int} {i : Nat} {v : Int} {x : Paper} (hv : pl[i]? = some v) (hx : u.papers[v.toNat]? = some x) : (pl.take (i + 1)).filterMap (fun n => u.papers[n.toNat]?) = (pl.take i).filterMap (fun n => u.papers[n.toNat]?) ++ [x] := by
  obtain ⟨hlt, rfl⟩ := List.getElem?_eq_some_iff.1 hv
  rw [List.take_succ_eq_append_getElem hlt, List.filterMap_append]
  simp [hx]
theorem c71 {h : LH} {f : FileC} {u : UseFile} (hp : Parts h.get) (hu : FileR h.get f u) (land day : Int) {pp : Option Addr} {pn pc : Nat} {pl : List Int} (hpl : Sl IntE 1 h.get pp pn pl) (hin : ∀ v ∈ pl, 0 ≤ v ∧ v < (u.papers.length : Int)) (hpl8 : pl.length ≤ 8)
    {ap : Option Addr} {an ac : Nat} {all : List Int} (hal : Sl IntE 1 h.get ap an all) (halen : all.length = u.items.toNat) : Gr Tryd.prog 67 #[fileV f u, .int .i64 land, .int .i64 day, .slice pp pn pc, .slice ap an ac] h fun r _ => r = .bool (enoughB u land day pl all) := by
  refine w71 _ _ _ _ _ _ _ _ _ _ _ _ _ _ _ _ _ _ _ _ _ X0_ok ?_
  unfold n71
  have hn := hpl.1
  have hn5 := hu.papers.1
  refine t_loop (fun mm vs h' => h.le h' ∧ ∃ (i : Nat) (p : Option Addr) (n c : Nat), vs = [.int .i64 i, .int .i64 u.items, .int .i64 u.lands, .int .i64 u.from_, .int .i64 u.idle, .slice f.p4 f.n4 f.c4, .slice p n c, .slice f.p6 f.n6 f.c6] ∧ i ≤ pn ∧ mm = pn - i ∧
      Growing (PaperEnc h.get) 105 4 h.get h'.get p n c ((pl.take i).filterMap fun n => u.papers[n.toNat]?)) ⟨LH.le_refl _, 0, none, 0, 0, rfl, Nat.zero_le _, rfl, Growing.nil⟩ ?_
  rintro Y mm vs h₁ hY ⟨hle, i, p, n, c, rfl, hi, rfl, g⟩
  refine gZ ?_
  refine t_if (fun e1 => ?_) (fun e1 => ?_)
  · obtain ⟨v, a, hv, ha, e2⟩ := hpl.at (i := i) (by omega)
    unfold IntE at e2
    have e2 := Cells.cell?_le hle.1 e2
    have hvr := hin v (List.mem_of_getElem? hv)
    have hvn : ((v.toNat : Nat) : Int) = v := by omega
    obtain ⟨x, b, hx, hb, e3, e4, e5, q, mq, cq, e6, e7⟩ := hu.papers.at (i := v.toNat) (by omega)
    have e3 := Cells.cell?_le hle.1 e3
    have e4 := Cells.cell?_le hle.1 e4
    have e5 := Cells.cell?_le hle.1 e5
    have e6 := Cells.cell?_le hle.1 e6
    have hnv : 0 ≤ v ∧ v < (f.n5 : Int) := by omega
    refine gZ ?_
    refine t_build und23 inf69 (by decide) (by decide) (cells := #[.int .i64 x.days.first, .int .i64 x.days.last, .int .i64 x.land, .slice q mq cq]) (by kernel_rfl) fun r hr => ?_
    have le2 : h₁.le _ := LH.upd_le (x := (true, .cells #[.int .i64 x.days.first, .int .i64 x.days.last, .int .i64 x.land, .slice q mq cq] 105 (0, 0))) hr
    have hng := g.count PaperEnc.len (by omega)
    have hlen : ((pl.take i).filterMap fun n => u.papers[n.toNat]?).length ≤ 8 := Nat.le_trans (List.length_filterMap_le _ _) (by rw [List.length_take]; omega)
    refine gZ ?_
    refine t_grow (x := x) (ws := [.int .i64 x.days.first, .int .i64 x.days.last, .int .i64 x.land, .slice q mq cq]) rfl rfl und23 und23 inf69 rfl (by omega) (by omega) (g.le le2.1) (LH.le_trans hle le2) ⟨q, mq, cq, rfl, e7⟩ rfl ?_ ?_ ?_
    · intro j w hj
      rw [add_plain, Nat.zero_add]
      exact cell_upd (by simpa using hj)
    · intro w hw; simp at hw; rcases hw with rfl | rfl | rfl | rfl <;> rfl
    · intro p' c' h₂ hle2 _ g2
      refine gZ ?_
      refine t_again (hY (pn - (i + 1)) _ _ (by omega) ⟨hle2, i + 1, p', n + 1, c', ?_, by omega, rfl, by rw [withP_take hv hx]; exact g2⟩)
      rw [wrap_id (by omega) (by omega)]; rfl
  · refine gZ ?_
    have hpi : pl.take i = pl := List.take_of_length_le (by omega)
    rw [hpi] at g
    have hlen : (pl.filterMap fun n => u.papers[n.toNat]?).length ≤ 8 := Nat.le_trans (List.length_filterMap_le _ _) hpl8
    have hsl := g.sl PaperEnc.len (by omega) (PaperEnc.e (Rd.of_le hle.1)) (by omega)
    have hu' : FileR h₁.get { f with p5 := p, n5 := n, c5 := c } (withP u pl) := ⟨hu.excuses.le SpanE.grow hle.1, hsl, hu.requests.le RequestE.grow hle.1⟩
    refine t_call (c53 (f := { f with p5 := p, n5 := n, c5 := c }) (u := withP u pl) (l := []) (hp.le hle.1) hu' ⟨rfl, by show 0 < _; omega, fun i g hg => by simp at hg⟩) ?_
    rintro v h₂ ⟨le2, ⟨hne, rfl⟩ | ⟨h0, d, m, rfl, hd, hm, k⟩⟩
    · refine gZ ?_
      refine t_cond (fun _ => ?_) (fun e => absurd (by simpa using e) hne)
      refine t_ret ⟨LH.le_trans hle le2, ?_⟩
      have : checkF (withP u pl) ≠ 0 := by
        intro hc
        apply hne
        rw [openF, if_neg (by simp [hc])]; rfl
      unfold enoughB
      rw [decide_eq_false this]; rfl
    · refine gZ ?_
      refine t_cond (fun e => by cases e) (fun _ => ?_)
      have hck := (open_num h0).2
      refine t_de (c63 k hck land day) ?_
      rintro _ h₃ mv k3 ⟨p3, n3, c3, rfl, g3⟩
      refine gZ ?_
      have hitn := (num_ok (open_num h0).1).1
      have hitn' : (withP u pl).items = u.items := rfl
      rw [hitn'] at hitn
      have hll : (leftAll (withP u pl) land day).length = u.items.toNat := by unfold leftAll; rw [List.length_map, List.length_range, hitn']
      have hs3 := g3.sl IntEnc.len (by omega) IntEnc.e (by omega)
      have hle3 := Mv.le_of (LH.le_trans hle le2) (by
        cases hx : h.get m with
        | none => rfl
        | some y => rw [hle.1 _ _ hx] at hm; cases hm) mv
      have hal3 := hal.le IntE.grow hle3.1
      have hn3 := hs3.1
      have han := hal3.1
      refine t_loop (fun mm vs h' => h₃ = h' ∧ ∃ j : Nat, vs = [.bool false, .int .i64 j] ∧ j ≤ n3 ∧ mm = n3 - j ∧ coversB all (leftAll (withP u pl) land day) = coversB (all.drop j) ((leftAll (withP u pl) land day).drop j)) ⟨rfl, 0, rfl, Nat.zero_le _, rfl, rfl⟩ ?_
      rintro Y2 mm vs _ hY2 ⟨rfl, j, rfl, hj, rfl, hc⟩
      refine gZ ?_
      have hfin : ∀ b, coversB all (leftAll (withP u pl) land day) = b → Value.bool b = .bool (enoughB u land day pl all) := by
        intro b hb
        unfold enoughB
        rw [decide_eq_true hck, hb]; rfl
      refine t_if (fun e6 => ?_) (fun e6 => ?_)
      · obtain ⟨y, a1, hy, ha1, e7⟩ := hs3.at (i := j) (by omega)
        obtain ⟨z, a2, hz, ha2, e8⟩ := hal3.at (i := j) (by omega)
        unfold IntE at e7 e8
        rw [drop_of hy, drop_of hz, coversB] at hc
        refine gZ ?_
        have next : (!decide (z = 1) || decide (y = 1)) = true → Y2 [.bool false, .int .i64 (IntKind.wrap .i64 ((j : Int) + 1))] h₃ := by
          intro hh
          rw [hh, Bool.true_and] at hc
          refine hY2 (n3 - (j + 1)) _ _ (by omega) ⟨rfl, j + 1, ?_, by omega, rfl, hc⟩
          rw [wrap_id (by omega) (by omega)]; rfl
        refine t_cond (fun b1 => ?_) (fun b1 => ?_)
        · have b1' : z = 1 := by simpa using b1
          refine t_cond (fun b2 => ?_) (fun b2 => ?_)
          · have b2' : y ≠ 1 := by simpa using b2
            refine gZ ?_
            refine t_ret ⟨hle3, hfin false ?_⟩
            rw [hc]; simp [b1', b2']
          · have b2' : y = 1 := by simpa using b2
            exact t_again (next (by simp [b2']))
        · have b1' : z ≠ 1 := by simpa using b1
          exact t_again (next (by simp [b1']))
      · refine gZ ?_
        refine t_ret ⟨hle3, hfin true ?_⟩
        rw [hc, List.drop_eq_nil_of_le (show (leftAll (withP u pl) land day).length ≤ j by omega)]
        cases all.drop j <;> rfl
theorem c69 {h : LH} {f : FileC} {u : UseFile} (hu5 : f.n5 = u.papers.length) (hub : (u.papers.length : Int) < 4611686018427387904) {z : Addr} {p : Option Addr} {n c : Nat} {l : List Int} (hz : h.get.cell? z = some (.slice p n c)) (hl : Sl IntE 1 h.get p n l) : Gr Tryd.prog 69 #[fileV f u, .pointer (some z)] h fun r _ => r = .int .i64 (risesF l u.papers.length) := by
  refine w69 _ _ _ _ _ _ _ _ _ _ _ _ _ _ X0_ok ?_
  unfold n69
  refine gL1 hz ?_
  rw [hu5]
  refine t_gr (c70 hl (by unfold IsI; omega)) ?_
  rintro _ h' hle rfl
  refine gZ ?_
  exact t_ret ⟨hle, rfl⟩
theorem rises_in {l : List Int} {b : Int} (h : risesF l b = 0) : ∀ v ∈ l, 0 ≤ v ∧ v < b := by
  intro v hv
  obtain ⟨i, hi, rfl⟩ := List.getElem_of_mem hv
  have := rises_len h i hi
  omega
def enoughQ (u : UseFile) (land day : Int) (papers : List Int) : List Int := [landQ u land, dayQ day, risesF papers u.papers.length]
def enoughR (u : UseFile) (land day : Int) (papers : List Int) : Value :=
  if openF u (enoughQ u land day papers) ≠ 0 then .tuple #[.bool false, .int .i64 (openF u (enoughQ u land day papers))] else .tuple #[.bool (enoughB u land day papers (leftAll u land day)), .int .i64 0]
theorem c31 {h : LH} {f : FileC} {u : UseFile} (hp : Parts h.get) (hu : FileR h.get f u) (land day : Int) {pp : Option Addr} {pn pc : Nat} {pl : List Int} (hpl : Sl IntE 1 h.get pp pn pl) : Gr Tryd.prog 28 #[fileV f u, .int .i64 land, .int .i64 day, .slice pp pn pc] h fun r _ => r = enoughR u land day pl := by
  refine w31 _ _ _ _ _ _ _ _ _ _ _ _ _ _ _ _ _ _ X0_ok ?_
  unfold n31
  refine t_new fun r hr => ?_
  have le0 : h.le _ := LH.upd_le (x := (true, .cells #[.slice pp pn pc] 28 (0, 0))) hr
  have z0 : Cells.cell? (h.get.upd r (true, .cells #[.slice pp pn pc] 28 (0, 0))) ⟨r, 0, none⟩ = some (.slice pp pn pc) := cell_upd rfl
  refine t_gr (c58 u land) ?_
  rintro v0 h₁ le1 ⟨q0, a0⟩
  refine gZ ?_
  refine t_gr (c54 u day) ?_
  rintro v1 h₂ le2 ⟨q1, a1⟩
  refine gZ ?_
  have le02 := LH.le_trans (LH.le_trans le0 le1) le2
  have hub := hu.papers.2.1
  have z2 := Cells.cell?_le (LH.le_trans le1 le2).1 z0
  have a2 : Asks (.func (.func 69) #[] #[.pointer (some ⟨r, 0, none⟩)]) h₂ u (risesF pl u.papers.length) := by
    intro _ f' h' hle hu'
    exact cv_fw X0_ok (by rfl) (c69 hu'.papers.1 (by omega) (Cells.cell?_le hle.1 z2) (hpl.le IntE.grow (LH.le_trans le02 hle).1))
  refine asks3 q0 (a0.le le2) q1 a1 ⟨_, _, _, rfl⟩ a2 fun r' h₄ le4 hs => ?_
  refine gZ ?_
  have le14 := LH.le_trans le02 le4
  refine t_call (c53 (f := f) (hp.le le14.1) (hu.le le14.1) hs) ?_
  rintro v h₅ ⟨le5, ⟨hne, rfl⟩ | ⟨h0, d, m, rfl, hd, hm, k⟩⟩
  · refine gZ ?_
    refine t_cond (fun _ => ?_) (fun e => absurd (by simpa using e) hne)
    refine t_ret ⟨LH.le_trans le14 le5, ?_⟩
    show _ = enoughR u land day pl
    rw [enoughR, if_pos (show openF u (enoughQ u land day pl) ≠ 0 from hne)]; rfl
  · refine gZ ?_
    refine t_cond (fun e => by cases e) (fun _ => ?_)
    have le25 := LH.le_trans le4 le5
    have z5 := Cells.cell?_le le25.1 z2
    refine gL1 z5 ?_
    have hck := (open_num h0).2
    refine t_de (c63 k hck land day) ?_
    rintro _ h₆ mv k6 ⟨p, n, c, rfl, g⟩
    refine gZ ?_
    have z6 := mv.rd k.isMap _ _ z5
    refine gL1 z6 ?_
    refine gZ ?_
    have hm0 : h.get m = none := by
      cases hx : h.get m with
      | none => rfl
      | some x => rw [le14.1 _ _ hx] at hm; cases hm
    have le6 := Mv.le_of (LH.le_trans le14 le5) hm0 mv
    have hrise : risesF pl u.papers.length = 0 := open_zero h0 _ (by simp)
    have hpap := (check_papers hck).1
    have hpl8 := rises_len' hrise (by omega)
    have hitn := (num_ok (open_num h0).1).1
    have hll : (leftAll u land day).length = u.items.toNat := by unfold leftAll; rw [List.length_map, List.length_range]
    refine t_gr (c71 (hp.le le6.1) (hu.le le6.1) land day (hpl.le IntE.grow le6.1) (rises_in hrise) (by omega) (g.sl IntEnc.len (by omega) IntEnc.e (by omega)) hll) ?_
    rintro _ h₇ le7 rfl
    refine gZ ?_
    refine t_ret ⟨LH.le_trans le6 le7, ?_⟩
    show _ = enoughR u land day pl
    rw [enoughR, if_neg (by unfold enoughQ; simpa using h0)]
def cmpI (x y : Int) : Int := if x < y then -1 else if x > y then 1 else 0
def cmpL : List Int → List Int → Int
  | [], [] => 0
  | [], _ :: _ => -1
  | _ :: _, [] => 1
  | x :: xs, y :: ys => if cmpI x y ≠ 0 then cmpI x y else cmpL xs ys
def fewerF (a b : List Int) : Int := if a.length ≠ b.length then (a.length : Int) - b.length else cmpL a b
theorem c109 {h : LH} (x : Int) : Pu Tryd.prog 135 #[.int .i64 x] h (.bool false) := by
  refine w109 _ X0_ok ?_
  unfold n109
  refine t_ret ⟨?_, rfl⟩
  simp
theorem c105 {h : LH} (x y : Int) : Pu Tryd.prog 124 #[.int .i64 x, .int .i64 y] h (.int .i64 (cmpI x y)) := by
  refine w105 _ _ X0_ok ?_
  unfold n105
  refine t_pu (c109 _) ?_
  refine gZ ?_
  refine t_pu (c109 _) ?_
  refine gZ ?_
  refine t_cond (fun e => by cases e) (fun _ => ?_)
  refine t_cond (fun e => by cases e) (fun _ => ?_)
  refine t_if (fun e => ?_) (fun e => ?_)
  · refine t_ret ⟨?_, rfl⟩; rw [cmpI, if_pos e]
  · refine t_if (fun e' => ?_) (fun e' => ?_) <;> refine t_ret ⟨?_, rfl⟩ <;> simp [cmpI, e, e']
theorem c97 {h : LH} {p q : Option Addr} {n c m d : Nat} {a b : List Int} (ha : Sl IntE 1 h.get p n a) (hb : Sl IntE 1 h.get q m b) : Pu Tryd.prog 103 #[.slice p n c, .slice q m d] h (.int .i64 (cmpL a b)) := by
  refine w97 _ _ _ _ _ _ X0_ok ?_
  unfold n97
  have hn := ha.1
  have hm := hb.1
  have hbn := ha.2.1
  have hbm := hb.2.1
  refine t_loop (fun mm vs h' => h = h' ∧ ∃ i : Nat, vs = [.int .i64 0, .int .i64 i] ∧ i ≤ n ∧ i ≤ m ∧ mm = n - i ∧ cmpL a b = cmpL (a.drop i) (b.drop i)) ⟨rfl, 0, rfl, Nat.zero_le _, Nat.zero_le _, rfl, rfl⟩ ?_
  rintro Y mm vs _ hY ⟨rfl, i, rfl, hi, hi', rfl, hc⟩
  refine gZ ?_
  refine t_if (fun e1 => ?_) (fun e1 => ?_)
  · obtain ⟨x, a1, hx, ha1, e2⟩ := ha.at (i := i) (by omega)
    unfold IntE at e2
    rw [drop_of hx] at hc
    refine gZ ?_
    refine t_if (fun e3 => ?_) (fun e3 => ?_)
    · refine gZ ?_
      rw [List.drop_eq_nil_of_le (show b.length ≤ i by omega), cmpL] at hc
      exact t_ret ⟨by rw [hc], rfl⟩
    · obtain ⟨y, b1, hy, hb1, e4⟩ := hb.at (i := i) (by omega)
      unfold IntE at e4
      rw [drop_of hy, cmpL] at hc
      refine gZ ?_
      refine t_pu (c105 _ _) ?_
      refine gZ ?_
      refine t_cond (fun e5 => ?_) (fun e5 => ?_)
      · refine gZ ?_
        rw [if_pos (by simpa using e5)] at hc
        exact t_ret ⟨by rw [hc], rfl⟩
      · rw [if_neg (by simpa using e5)] at hc
        refine t_again (hY (n - (i + 1)) _ _ (by omega) ⟨rfl, i + 1, ?_, by omega, by omega, rfl, hc⟩)
        rw [wrap_id (by omega) (by omega)]; rfl
  · refine gZ ?_
    rw [List.drop_eq_nil_of_le (show a.length ≤ i by omega)] at hc
    refine t_if (fun e3 => ?_) (fun e3 => ?_)
    · obtain ⟨y, hy⟩ : ∃ y, b[i]? = some y := ⟨b[i]'(by omega), List.getElem?_eq_getElem (by omega)⟩
      rw [drop_of hy, cmpL] at hc
      exact t_ret ⟨by rw [hc], rfl⟩
    · rw [List.drop_eq_nil_of_le (show b.length ≤ i by omega), cmpL] at hc
      exact t_ret ⟨by rw [hc], rfl⟩
theorem c75 {h : LH} {p q : Option Addr} {n c m d : Nat} {a b : List Int} (ha : Sl IntE 1 h.get p n a) (hb : Sl IntE 1 h.get q m b) : Pu Tryd.prog 68 #[.slice p n c, .slice q m d] h (.int .i64 (fewerF a b)) := by
  refine w75 _ _ _ _ _ _ X0_ok ?_
  unfold n75
  have hn := ha.1
  have hm := hb.1
  have hbn := ha.2.1
  have hbm := hb.2.1
  refine t_cond (fun e => ?_) (fun e => ?_)
  · have e' : a.length ≠ b.length := by simp at e; omega
    rw [wrap_id (by omega) (by omega)]
    refine t_ret ⟨?_, rfl⟩
    rw [fewerF, if_pos e', hn, hm]
  · have e' : ¬ a.length ≠ b.length := by simp at e; omega
    refine t_pu (c97 ha hb) ?_
    refine gZ ?_
    refine t_ret ⟨?_, rfl⟩
    rw [fewerF, if_neg e']
end Go.Proofs.YtldamlcehbdkdaaDoor
end

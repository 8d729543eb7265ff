/- Contracts and laws for the proof, joined by a program. No condition. -/
import Derived.Test.YtgljffachdhigaaGreatDoorM3
set_option linter.all false
section
namespace Go.Proofs.YtgljffachdhigaaGreatDoor
open Go Go.TM Go.Proofs Go.ChangeShapes Go.WideShapes Go.RowKit
set_option maxRecDepth 100000
end Go.Proofs.YtgljffachdhigaaGreatDoor
namespace Go.Proofs.YtgljffachdhigaaGreatDoor.Tre
open Go Go.TM Go.Proofs Go.ChangeShapes Go.WideShapes Go.RowKit
set_option maxRecDepth 100000
theorem own : ownKnob Tryz.prog.godebug = none := by kernel_rfl
theorem lo : laidOutB Tryz.prog = true := by kernel_rfl
theorem TT : TreatyTy Tryz.prog 3 30 61 63 58 60 where
 int := by kernel_rfl
 int1 := by kernel_rfl
 kind := by kernel_rfl
 kind1 := by kernel_rfl
 bytes := ⟨of_decide_eq_true (by kernel_rfl), of_decide_eq_true (by kernel_rfl)⟩
 ints := by kernel_rfl
 ints1 := by kernel_rfl
 ev := ⟨_, Tryz.underlying63, rfl⟩
 ev5 := by kernel_rfl
 evs := by kernel_rfl
 evs1 := by kernel_rfl
 file := ⟨_, Tryz.underlying60, rfl⟩
 file7 := by kernel_rfl
theorem und57 : Tryz.prog.underlying 27 = some (.int .u16) := by kernel_rfl
theorem und5 : Tryz.prog.underlying 5 = some (.int .u8) := by kernel_rfl
theorem wf_u16 {n : Int} (h : (Lit.int .u16 n).wf = true) : 0 <= n /\ n <= 65535 := by simpa [Lit.wf, IntKind.min, IntKind.max, IntKind.signed, IntKind.bits] using h
theorem wf_u8 {n : Int} (h : (Lit.int .u8 n).wf = true) : 0 <= n /\ n <= 255 := by simpa [Lit.wf, IntKind.min, IntKind.max, IntKind.signed, IntKind.bits] using h
theorem ints_arg {H : Type} {enc : TypeId × Value -> H} {W : World} {base b0 : Nat} {sp : Nat -> Bool} {held : Bool} {r : Reach} {v : Value} {d : DataW H} {ps : List MemPlace}
  (hv : Value.okWide Tryz.prog W r b0 30 v) (hz : Light Tryz.prog 30 d) (h : DataW.Trod enc Tryz.prog W base sp held 30 v d ps) : ∃ p n c l, v = .slice p n c /\ n <= c /\ Sl IntE 1 (getW W) p n l := by
 obtain ⟨a, len, cap, rfl⟩ := WideShapes.okWide_slice TT.ints hv
 obtain ⟨fuel, hf⟩ := h
 obtain ⟨p, n, c, l, e, hk, s⟩ := t_ints TT hz hf
 have e' : [Value.slice a len cap] = [.slice p n c] := e
 simp at e'
 obtain ⟨rfl, rfl, rfl⟩ := e'
 exact ⟨_, _, _, l, rfl, hk, s⟩
def kindsN : String := "touchmark/treaty.kinds"
def boundN : String := "touchmark/treaty.bound"
theorem gKinds : Tryz.prog.globalNamed kindsN = some 1 := by kernel_rfl
theorem gBound : Tryz.prog.globalNamed boundN = some 3 := by kernel_rfl
theorem tKinds : (Tryz.prog.globals[1]?).map (·.type) = some 221 := by kernel_rfl
theorem tBound : (Tryz.prog.globals[3]?).map (·.type) = some 218 := by kernel_rfl
theorem uses_of {H : Type} {enc : TypeId × Value -> H} {W : World} {sp : Nat -> Bool} {held : Bool} {fuel : Nat} {cs : List Value} {x : DataW H × List MemPlace} {a b : Bool} (h : DataW.trod enc Tryz.prog W 0 sp held fuel 218 cs = some x) (hx : x.1 = .agg [.lit (.bool a), .lit (.bool b)]) : cs = [.bool a, .bool b] := by
 obtain ⟨ys, n, _, rfl, hl, hlen, hf⟩ := DataW.trod_struct Tryz.underlying218 h
 rw [show Tryz.prog.cellsOf 218 = 2 by kernel_rfl] at hl
 match cs, hl, ys, hlen with
 | [v0, v1], _, [y0, y1], _ =>
  have h0 : DataW.trod enc Tryz.prog W 0 sp held n 4 (([v0, v1].drop 0).take (Tryz.prog.cellsOf 4)) = some y0 := hf 0 _ rfl
  have h1 : DataW.trod enc Tryz.prog W 0 sp held n 4 (([v0, v1].drop 1).take (Tryz.prog.cellsOf 4)) = some y1 := hf 1 _ rfl
  rw [show Tryz.prog.cellsOf 4 = 1 by kernel_rfl] at h0 h1
  obtain ⟨b0, e0, g0⟩ := DataW.trod_bool Tryz.underlying4 h0
  obtain ⟨b1, e1, g1⟩ := DataW.trod_bool Tryz.underlying4 h1
  simp at e0 e1
  simp [g0, g1] at hx
  rw [e0, e1, hx.1, hx.2]
theorem kind_of {W : World} {sp : Nat -> Bool} {fuel : Nat} {cs : List Value} {x : DataW (List UInt8) × List MemPlace} {s : List UInt8} {a b : Bool} {c : UInt8} {r : List UInt8} {f0 : FuncId} (hone : ((List.range Tryz.prog.funcs.size).filter fun f => (Tryz.prog.funcs[f]?).any (·.name.toUTF8.data.toList == c :: r)) = [f0])
  (h : DataW.trod (funcToken Tryz.prog) Tryz.prog W 0 sp true fuel 220 cs = some x) (hx : x.1 = .agg [.lit (.string s), .agg [.lit (.bool a), .lit (.bool b)], .held (c :: r)]) : ∃ v0, cs = [v0, .bool a, .bool b, .func (.func f0) #[] #[]] := by
 obtain ⟨ys, n, _, rfl, hl, hlen, hf⟩ := DataW.trod_struct Tryz.underlying220 h
 rw [show Tryz.prog.cellsOf 220 = 4 by kernel_rfl] at hl
 match cs, hl, ys, hlen with
 | [v0, v1, v2, v3], _, [y0, y1, y2], _ =>
  have h1 : DataW.trod (funcToken Tryz.prog) Tryz.prog W 0 sp true n 218 (([v0, v1, v2, v3].drop 1).take (Tryz.prog.cellsOf 218)) = some y1 := hf 1 _ rfl
  have h2 : DataW.trod (funcToken Tryz.prog) Tryz.prog W 0 sp true n 41 (([v0, v1, v2, v3].drop 3).take (Tryz.prog.cellsOf 41)) = some y2 := hf 2 _ rfl
  rw [show Tryz.prog.cellsOf 218 = 2 by kernel_rfl] at h1
  rw [show Tryz.prog.cellsOf 41 = 1 by kernel_rfl] at h2
  simp only [List.map_cons, List.map_nil, DataW.agg.injEq, List.cons.injEq, and_true] at hx
  obtain ⟨_, hx1, hx2⟩ := hx
  obtain ⟨d1, q1⟩ := y1
  obtain ⟨d2, q2⟩ := y2
  simp only at hx1 hx2
  subst hx1; subst hx2
  have e1 := uses_of h1 rfl
  simp at e1
  rw [e1.1, e1.2]
  refine ⟨v0, ?_⟩
  have e2 : v3 = .func (.func f0) #[] #[] := Go.func_of_trod (P := Tryz.prog) Tryz.underlying41 hone h2
  rw [e2]
theorem yes_one : ((List.range Tryz.prog.funcs.size).filter fun f => (Tryz.prog.funcs[f]?).any (·.name.toUTF8.data.toList == [116, 111, 117, 99, 104, 109, 97, 114, 107, 47, 116, 114, 101, 97, 116, 121, 46, 121, 101, 115])) = [211] := by kernel_rfl
theorem no_one : ((List.range Tryz.prog.funcs.size).filter fun f => (Tryz.prog.funcs[f]?).any (·.name.toUTF8.data.toList == [116, 111, 117, 99, 104, 109, 97, 114, 107, 47, 116, 114, 101, 97, 116, 121, 46, 110, 111])) = [212] := by kernel_rfl
theorem array7 {α : Type} : ∀ {l : List α}, l.length = 7 -> ∃ a b c d e f g, l = [a, b, c, d, e, f, g]
 | [a, b, c, d, e, f, g], _ => ⟨a, b, c, d, e, f, g, rfl⟩
theorem four_cells {cs : List Value} {i : Nat} {v0 v1 v2 v3 : Value} (h : (cs.drop (i * 4)).take 4 = [v0, v1, v2, v3]) : cs[i * 4 + 1]? = some v1 /\ cs[i * 4 + 2]? = some v2 /\ cs[i * 4 + 3]? = some v3 := by
 have key : ∀ j, j < 4 -> cs[i * 4 + j]? = [v0, v1, v2, v3][j]? := by
  intro j hj
  rw [<- h, List.getElem?_take, if_pos hj, List.getElem?_drop]
 exact ⟨key 1 (by omega), key 2 (by omega), key 3 (by omega)⟩
theorem laid_at {P : Program} {w : World} {n : String} {d : DataW Unit} : ∀ {l : List (String × DataW Unit)} {ps : List MemPlace}, DataW.LaidVars P w l ps -> (n, d) ∈ l -> ∃ g t cs fuel p, P.globalNamed n = some g /\ (P.globals[g]?).map (·.type) = some t /\ w.var? P n = some cs /\ DataW.trod (fun _ => ()) P w 0 (fun _ => true) false fuel t cs.toList = some (d, p)
 | [], _, _, h => by simp at h
 | (m, e) :: r, ps, h, hm => by
  obtain ⟨g, t, cs, fuel, p, q, h1, h2, h3, h4, h5, _⟩ := h
  rcases List.mem_cons.1 hm with h6 | h6
  ·cases h6
   exact ⟨g, t, cs, fuel, p, h1, h2, h3, h4⟩
  ·exact laid_at h5 h6
theorem kinds_of_laid {l : List (String × DataW Unit)} {W : World} (h : laidMetH Tryz.prog l W) (hk : (kindsN, Rows.laid_touchmark_treaty_kinds) ∈ l) (hbm : (boundN, Rows.laid_touchmark_treaty_bound) ∈ l) : Kinds (getW W) := by
 obtain ⟨g, t, cs, fuel, p, hg, ht, hv, hd⟩ := laidMetH.funcs h (n := kindsN) hk
 obtain rfl := Option.some.inj (gKinds.symm.trans hg)
 obtain rfl := Option.some.inj (tKinds.symm.trans ht)
 obtain ⟨xs, m, _, hx, hl, hn, hel⟩ := DataW.trod_array Tryz.underlying221 hd
 have hcell : ∀ j : Nat, W.cell? ⟨1, j, none⟩ = cs[j]? := World.var?_cell gKinds hv
 obtain ⟨x0, x1, x2, x3, x4, x5, x6, rfl⟩ := array7 hn
 have e4 : Tryz.prog.cellsOf 220 = 4 := by kernel_rfl
 simp only [Prod.mk.injEq] at hx
 obtain ⟨hx, _⟩ := hx
 simp only [DataW.funcsOut, DataW.funcsOutAll, List.map_cons, List.map_nil, DataW.agg.injEq, List.cons.injEq, beq_self_eq_true, if_true, and_true] at hx
 obtain ⟨g0, g1, g2, g3, g4, g5, g6⟩ := hx
 rw [e4] at hel
 have key : ∀ i, i < 7 -> ∃ v0, (cs.toList.drop (i * 4)).take 4 = [v0, .bool (landK i), .bool (sinceK i), .func (.func (if givesK i then 211 else 212)) #[] #[]] := by
  intro i hi
  have hi' := hel i hi
  match i, hi with
  | 0, _ => exact kind_of yes_one hi' g0.symm
  | 1, _ => exact kind_of no_one hi' g1.symm
  | 2, _ => exact kind_of yes_one hi' g2.symm
  | 3, _ => exact kind_of no_one hi' g3.symm
  | 4, _ => exact kind_of no_one hi' g4.symm
  | 5, _ => exact kind_of yes_one hi' g5.symm
  | 6, _ => exact kind_of no_one hi' g6.symm
 have cell : ∀ i, i < 7 -> cs[i * 4 + 1]? = some (.bool (landK i)) /\ cs[i * 4 + 2]? = some (.bool (sinceK i)) /\ cs[i * 4 + 3]? = some (.func (.func (if givesK i then 211 else 212)) #[] #[]) := by
  intro i hi
  obtain ⟨v0, h0⟩ := key i hi
  have := four_cells h0
  simpa using this
 obtain ⟨ps, hL, _⟩ := (laidMetH_iff.1 h).1
 obtain ⟨g', t', cs', fuel', p', hg', ht', hv', hd'⟩ := laid_at hL (List.mem_filter.2 ⟨hbm, rfl⟩)
 obtain rfl := Option.some.inj (gBound.symm.trans hg')
 obtain rfl := Option.some.inj (tBound.symm.trans ht')
 have hb := uses_of hd' rfl
 have hcell' : ∀ j : Nat, W.cell? ⟨3, j, none⟩ = cs'[j]? := World.var?_cell gBound hv'
 have hb' : ∀ j : Nat, cs'[j]? = [Value.bool true, .bool false][j]? := fun j => by rw [<- hb]; simp
 exact ⟨fun i hi => getW_cell (by rw [hcell]; exact (cell i hi).1), fun i hi => getW_cell (by rw [hcell]; exact (cell i hi).2.1), fun i hi => getW_cell (by rw [hcell]; exact (cell i hi).2.2), getW_cell (by rw [hcell', hb']; rfl), getW_cell (by rw [hcell', hb']; rfl)⟩
def noTreaty : Value := .agg #[.int .i64 0, .int .i64 0, .int .i64 0, .int .i64 0, .int .i64 0, .int .i64 0, .slice none 0 0]
theorem bytesEv : Tryz.prog.bytesOf 63 = 56 := by kernel_rfl
theorem treaty_argB {H : Type} {enc : TypeId × Value -> H} {W : World} {base b0 : Nat} {sp : Nat -> Bool} {held : Bool} {r : Reach} {v : Value} {d : DataW H} {ps : List MemPlace}
  (hv : Value.okWide Tryz.prog W r b0 60 v) (hz : Light Tryz.prog 60 d) (h : DataW.Trod enc Tryz.prog W base sp held 60 v d ps) : ∃ f y, v = treatyV f y /\ TreatyR (getW W) f y /\ y.events.length * 56 <= 2 ^ 47 := by
 obtain ⟨f, y, rfl, hr⟩ := treaty_arg TT hv hz h
 refine ⟨f, y, rfl, hr, ?_⟩
 obtain ⟨fuel, hf⟩ := h
 obtain ⟨_, n, hfl⟩ := field_of TT.file hz hf
 obtain ⟨y6, h6, zh6⟩ := hfl 6 58 6 rfl
 rw [TT.evs1] at h6
 have h6 : DataW.trod enc Tryz.prog W base sp held n 58 [.slice f.p f.n f.c] = some y6 := h6
 rw [<- hr.2.1]
 rcases DataW.trod_slice TT.evs h6 with ⟨e, _⟩ | ⟨a, len, cap, elems, rest, k, _, e, he, _, hl, hm, hlen, _, _⟩
 ·simp at e
  rw [e.2.1]; omega
 ·have := zh6 ((elems.length + rest.length) * Tryz.prog.bytesOf 63) (by rw [he]; simp [DataW.weights, TT.evs])
  rw [bytesEv] at this
  simp only [reachBytes] at this
  simp at e
  have h1 : f.n = elems.length := by rw [e.2.1]; omega
  rw [h1]
  have h2 : elems.length * 56 <= (elems.length + rest.length) * 56 := Nat.mul_le_mul_right _ (Nat.le_add_right _ _)
  omega
end Go.Proofs.YtgljffachdhigaaGreatDoor.Tre
end
section
namespace Go.TM
open Go
def letterB (c : UInt8) : Bool := decide (97 <= c.toNat) && decide (c.toNat <= 122)
def digitB (c : UInt8) : Bool := decide (48 <= c.toNat) && decide (c.toNat <= 57)
structure NameOk (s : ByteArray) : Prop where
 size : 1 <= s.size /\ s.size <= 10
 all : ∀ (i : Nat) c, s.data[i]? = some c -> letterB c = true \/ (digitB c = true /\ i ≠ 0)
section
variable {H : Type} {enc : TypeId × Value -> H} {P : Program} {W : World} {base : Nat} {sp : Nat -> Bool} {held : Bool} {fuel : Nat} {t : TypeId} {cs : List Value} {x : DataW H × List MemPlace}
variable {tI tS tItem tItems tEd tEds tMv tMvs tKn tKns tTab : TypeId}
end
end Go.TM
end
section
namespace Go.TM
open Go Go.Conc
def LsE (h : Cells) (a : Addr) (l : List Int) : Prop := ∃ q n c, h.cell? a = some (.slice q n c) /\ Sl IntE 1 h q n l
theorem LsE.grow : Grow LsE := fun _ _ _ _ hl ⟨q, n, c, h1, h2⟩ => ⟨q, n, c, hl _ _ h1, h2.rd IntE.grow hl⟩
structure RvCase where
 name : ByteArray
 against : Int
 grounds : List (List Int)
 after : List Int
structure RvBook where
 rights : List ByteArray
 cases : List RvCase
def StrE (h : Cells) (a : Addr) (s : ByteArray) : Prop := h.cell? a = some (.string s)
theorem StrE.grow : Grow StrE := fun _ _ _ _ hl h => hl _ _ h
def CaseE (h : Cells) (a : Addr) (x : RvCase) : Prop := h.cell? (a.add 0) = some (.string x.name) /\ h.cell? (a.add 1) = some (.int .i64 x.against) /\
 (∃ q n c, h.cell? (a.add 2) = some (.slice q n c) /\ Sl LsE 1 h q n x.grounds) /\ ∃ q n c, h.cell? (a.add 3) = some (.slice q n c) /\ Sl IntE 1 h q n x.after
theorem CaseE.grow : Grow CaseE := fun _ _ _ _ hl ⟨h1, h2, ⟨q, n, c, h3, h4⟩, q', n', c', h5, h6⟩ => ⟨hl _ _ h1, hl _ _ h2, ⟨q, n, c, hl _ _ h3, h4.rd LsE.grow hl⟩, q', n', c', hl _ _ h5, h6.rd IntE.grow hl⟩
structure BookC where
 p0 : Option Addr
 n0 : Nat
 c0 : Nat
 p1 : Option Addr
 n1 : Nat
 c1 : Nat
def bookV (f : BookC) : Value := .agg #[.slice f.p0 f.n0 f.c0, .slice f.p1 f.n1 f.c1]
structure BookR (h : Cells) (f : BookC) (b : RvBook) : Prop where
 rights : Sl StrE 1 h f.p0 f.n0 b.rights
 cases : Sl CaseE 4 h f.p1 f.n1 b.cases
 caps : f.n0 <= f.c0 /\ f.n1 <= f.c1
theorem BookR.rd {h h' : Cells} {f : BookC} {b : RvBook} (hl : Rd h h') (r : BookR h f b) : BookR h' f b := ⟨r.rights.rd StrE.grow hl, r.cases.rd CaseE.grow hl, r.caps⟩
theorem BookR.le {h h' : Cells} {f : BookC} {b : RvBook} (hl : h.le h') (r : BookR h f b) : BookR h' f b := r.rd (Rd.of_le hl)
section
variable {H : Type} {enc : TypeId × Value -> H} {P : Program} {W : World} {base : Nat} {sp : Nat -> Bool} {held : Bool} {fuel : Nat} {t : TypeId} {cs : List Value} {x : DataW H × List MemPlace}
structure RivalTy (P : Program) (tI tS tInts tLists tCase tCases tStrs tBook : TypeId) : Prop where
 int : P.underlying tI = some (.int .i64)
 int1 : P.cellsOf tI = 1
 str : P.underlying tS = some .string
 str1 : P.cellsOf tS = 1
 bytes : 0 < P.bytesOf tI /\ 0 < P.bytesOf tS /\ 0 < P.bytesOf tInts /\ 0 < P.bytesOf tCase
 ints : P.underlying tInts = some (.slice tI)
 ints1 : P.cellsOf tInts = 1
 lists : P.underlying tLists = some (.slice tInts)
 lists1 : P.cellsOf tLists = 1
 case : FieldsAre P tCase [(tS, 0), (tI, 1), (tLists, 2), (tInts, 3)]
 case4 : P.cellsOf tCase = 4
 cases : P.underlying tCases = some (.slice tCase)
 cases1 : P.cellsOf tCases = 1
 strs : P.underlying tStrs = some (.slice tS)
 strs1 : P.cellsOf tStrs = 1
 book : FieldsAre P tBook [(tStrs, 0), (tCases, 1)]
 book2 : P.cellsOf tBook = 2
variable {tI tS tInts tLists tCase tCases tStrs tBook : TypeId}
theorem rv_ints (T : RivalTy P tI tS tInts tLists tCase tCases tStrs tBook) (hz : Light P tInts x.1) (h : DataW.trod enc P W base sp held fuel tInts cs = some x) : ∃ p n c l, cs = [.slice p n c] /\ Sl IntE 1 (getW W) p n l := by
 refine sl_of_trod T.ints T.int1 T.bytes.1 hz ?_ h
 intro n a cs y hl hc hy hz
 match cs, hl with
 | [c0], _ =>
  obtain ⟨v, e0, _, _⟩ := DataW.trod_int T.int hy
  simp at e0
  subst e0
  exact ⟨v, hc 0 _ rfl⟩
theorem rv_lists (T : RivalTy P tI tS tInts tLists tCase tCases tStrs tBook) (hz : Light P tLists x.1) (h : DataW.trod enc P W base sp held fuel tLists cs = some x) : ∃ p n c l, cs = [.slice p n c] /\ Sl LsE 1 (getW W) p n l := by
 refine sl_of_trod T.lists T.ints1 T.bytes.2.2.1 hz ?_ h
 intro n a cs y hl hc hy hz
 match cs, hl with
 | [c0], _ =>
  obtain ⟨p, k, c, l, e0, s⟩ := rv_ints T hz hy
  simp at e0
  subst e0
  exact ⟨l, p, k, c, hc 0 _ rfl, s⟩
theorem rv_strs (T : RivalTy P tI tS tInts tLists tCase tCases tStrs tBook) (hz : Light P tStrs x.1) (h : DataW.trod enc P W base sp held fuel tStrs cs = some x) : ∃ p n c l, cs = [.slice p n c] /\ n <= c /\ Sl StrE 1 (getW W) p n l := by
 refine sl_of_trodR T.strs T.str1 T.bytes.2.1 hz ?_ h
 intro n a cs y hl hc hy hz
 match cs, hl with
 | [c0], _ =>
  obtain ⟨s, e0, _⟩ := DataW.trod_string T.str hy
  simp at e0
  subst e0
  exact ⟨s, hc 0 _ rfl⟩
theorem rv_cases (T : RivalTy P tI tS tInts tLists tCase tCases tStrs tBook) (hz : Light P tCases x.1) (h : DataW.trod enc P W base sp held fuel tCases cs = some x) : ∃ p n c l, cs = [.slice p n c] /\ n <= c /\ Sl CaseE 4 (getW W) p n l := by
 refine sl_of_trodR T.cases T.case4 T.bytes.2.2.2 hz ?_ h
 intro n a cs y hl hc hy hz
 obtain ⟨_, m, hf⟩ := field_of T.case hz hy
 match cs, hl with
 | [c0, c1, c2, c3], _ =>
  obtain ⟨y0, h0, _⟩ := hf 0 tS 0 rfl
  obtain ⟨y1, h1, _⟩ := hf 1 tI 1 rfl
  obtain ⟨y2, h2, z2⟩ := hf 2 tLists 2 rfl
  obtain ⟨y3, h3, z3⟩ := hf 3 tInts 3 rfl
  rw [T.str1] at h0; rw [T.int1] at h1; rw [T.lists1] at h2; rw [T.ints1] at h3
  obtain ⟨s, e0, _⟩ := DataW.trod_string T.str h0
  obtain ⟨v, e1, _, _⟩ := DataW.trod_int T.int h1
  obtain ⟨p2, n2, k2, l2, e2, s2⟩ := rv_lists T z2 h2
  obtain ⟨p3, n3, k3, l3, e3, s3⟩ := rv_ints T z3 h3
  simp at e0 e1 e2 e3
  subst e0; subst e1; subst e2; subst e3
  exact ⟨⟨s, v, l2, l3⟩, hc 0 _ rfl, hc 1 _ rfl, ⟨p2, n2, k2, hc 2 _ rfl, s2⟩, p3, n3, k3, hc 3 _ rfl, s3⟩
theorem book_arg (T : RivalTy P tI tS tInts tLists tCase tCases tStrs tBook) {r : Reach} {b0 : Nat} {v : Value} {d : DataW H} {ps : List MemPlace}
  (hv : Value.okWide P W r b0 tBook v) (hz : Light P tBook d) (h : DataW.Trod enc P W base sp held tBook v d ps) : ∃ f y, v = bookV f /\ BookR (getW W) f y := by
 obtain ⟨fs, hu, _⟩ := T.book
 obtain ⟨cs, rfl, _⟩ := WideShapes.okWide_struct hu hv
 obtain ⟨fuel, hf⟩ := h
 obtain ⟨hl, m, hg⟩ := field_of T.book hz hf
 rw [T.book2] at hl
 have hl : cs.toList.length = 2 := hl
 have hcs : ∃ a b, cs.toList = [a, b] := by
  match cs.toList, hl with
  | [a, b], _ => exact ⟨a, b, rfl⟩
 obtain ⟨a, b, hcs⟩ := hcs
 have hc : (Value.agg cs).cells.toList = [a, b] := hcs
 rw [hc] at hg
 obtain ⟨y0, h0, zh0⟩ := hg 0 tStrs 0 rfl
 obtain ⟨y1, h1, zh1⟩ := hg 1 tCases 1 rfl
 rw [T.strs1] at h0; rw [T.cases1] at h1
 obtain ⟨p0, n0, k0, l0, e0, m0, s0⟩ := rv_strs T zh0 h0
 obtain ⟨p1, n1, k1, l1, e1, m1, s1⟩ := rv_cases T zh1 h1
 simp at e0 e1
 subst e0; subst e1
 exact ⟨⟨p0, n0, k0, p1, n1, k1⟩, ⟨l0, l1⟩, agg_of hc, s0, s1, m0, m1⟩
end
end Go.TM
end
section
namespace Go.TM.Rv
def mustG (A : Nat -> List Nat) : Nat -> Nat -> Nat -> Bool
 | 0, _, _ => false
 | n + 1, one, two => (A one).any fun x => x == two || mustG A n x two
theorem must_more (A : Nat -> List Nat) : ∀ (n one two : Nat), mustG A n one two = true -> mustG A (n + 1) one two = true := by
 intro n
 induction n with
 | zero => intro one two h; cases h
 | succ n ih =>
  intro one two h
  unfold mustG at h ⊢
  rw [List.any_eq_true] at h ⊢
  obtain ⟨x, hx, h⟩ := h
  refine ⟨x, hx, ?_⟩
  rw [Bool.or_eq_true] at h ⊢
  exact h.imp_right (ih x two)
theorem must_le (A : Nat -> List Nat) {n m one two : Nat} (hnm : n <= m) (h : mustG A n one two = true) : mustG A m one two = true := by
 induction hnm with
 | refl => exact h
 | step _ ih => exact must_more A _ _ _ ih
theorem must_walk (A : Nat -> List Nat) {f : Nat -> Nat} (hf : ∀ j, f (j + 1) ∈ A (f j)) : ∀ k a, mustG A (k + 1) (f a) (f (a + k + 1)) = true := by
 intro k
 induction k with
 | zero =>
  intro a
  unfold mustG
  rw [List.any_eq_true]
  exact ⟨_, hf a, by simp⟩
 | succ k ih =>
  intro a
  unfold mustG
  rw [List.any_eq_true]
  refine ⟨_, hf a, ?_⟩
  rw [Bool.or_eq_true]
  refine .inr ?_
  have := ih (a + 1)
  rw [show a + 1 + k + 1 = a + (k + 1) + 1 by omega] at this
  exact this
theorem pigeon : ∀ (n : Nat) (f : Nat -> Nat), (∀ j, j <= n -> f j < n) -> ∃ a b, a < b /\ b <= n /\ f a = f b := by
 intro n
 induction n with
 | zero => intro f h; exact absurd (h 0 (Nat.le_refl _)) (Nat.not_lt_zero _)
 | succ n ih =>
  intro f h
  by_cases hv : ∃ a, a <= n /\ f a = f (n + 1)
  ·obtain ⟨a, h1, h2⟩ := hv
   exact ⟨a, n + 1, by omega, Nat.le_refl _, h2⟩
  ·have hne : ∀ a, a <= n -> f a ≠ f (n + 1) := fun a h1 h2 => hv ⟨a, h1, h2⟩
   obtain ⟨a, b, h1, h2, h3⟩ := ih (fun j => if f j > f (n + 1) then f j - 1 else f j) fun j hj => by
    have e1 := h j (by omega)
    have e2 := h (n + 1) (Nat.le_refl _)
    have e3 := hne j hj
    show (if f j > f (n + 1) then f j - 1 else f j) < n
    split <;> omega
   refine ⟨a, b, h1, by omega, ?_⟩
   have e1 := hne a (by omega)
   have e2 := hne b h2
   split at h3 <;> split at h3 <;> omega
def cnt (D : Nat -> Bool) : Nat -> Nat
 | 0 => 0
 | n + 1 => cnt D n + (if D n then 1 else 0)
theorem cnt_le (D : Nat -> Bool) : ∀ n, cnt D n <= n
 | 0 => Nat.le_refl _
 | n + 1 => by have := cnt_le D n; unfold cnt; split <;> omega
theorem cnt_full {D : Nat -> Bool} : ∀ {n}, cnt D n = n -> ∀ i, i < n -> D i = true
 | 0, _, i, hi => absurd hi (Nat.not_lt_zero _)
 | n + 1, h, i, hi => by
  have h1 := cnt_le D n
  unfold cnt at h
  split at h
  ·rename_i hd
   by_cases e : i = n
   ·subst e; exact hd
   ·exact cnt_full (n := n) (by omega) i (by omega)
  ·omega
theorem cnt_up {D E : Nat -> Bool} (h : ∀ i, D i = true -> E i = true) : ∀ n, cnt D n <= cnt E n
 | 0 => Nat.le_refl _
 | n + 1 => by
  have := cnt_up h n
  unfold cnt
  by_cases hd : D n = true
  ·rw [if_pos hd, if_pos (h n hd)]; omega
  ·rw [if_neg hd]; split <;> omega
theorem cnt_lt {D E : Nat -> Bool} (h : ∀ i, D i = true -> E i = true) : ∀ {n i}, i < n -> D i = false -> E i = true -> cnt D n < cnt E n
 | 0, i, hi, _, _ => absurd hi (Nat.not_lt_zero _)
 | n + 1, i, hi, hd, he => by
  unfold cnt
  by_cases e : i = n
  ·subst e
   have := cnt_up h i
   rw [if_neg (by rw [hd]; simp), if_pos he]; omega
  ·have := cnt_lt h (n := n) (i := i) (by omega) hd he
   by_cases hdn : D n = true
   ·rw [if_pos hdn, if_pos (h n hdn)]; omega
   ·rw [if_neg hdn]; split <;> omega
def look (A : Nat -> List Nat) (i : Nat) (D : Nat -> Bool) : Nat -> Bool := if (A i).all D then fun j => D j || j == i else D
def part (A : Nat -> List Nat) : Nat -> (Nat -> Bool) -> Nat -> Bool
 | 0, D => D
 | i + 1, D => look A i (part A i D)
def rounds (A : Nat -> List Nat) (n : Nat) : Nat -> (Nat -> Bool) -> Nat -> Bool
 | 0, D => D
 | k + 1, D => part A n (rounds A n k D)
theorem look_up (A : Nat -> List Nat) (i : Nat) (D : Nat -> Bool) {j : Nat} (h : D j = true) : look A i D j = true := by
 unfold look
 split
 ·simp [h]
 ·exact h
theorem part_up (A : Nat -> List Nat) : ∀ (i : Nat) (D : Nat -> Bool) {j : Nat}, D j = true -> part A i D j = true
 | 0, _, _, h => h
 | i + 1, D, _, h => look_up A i _ (part_up A i D h)
theorem part_sub (A : Nat -> List Nat) {n m : Nat} (h : n <= m) (D : Nat -> Bool) {j : Nat} (hj : part A n D j = true) : part A m D j = true := by
 induction h with
 | refl => exact hj
 | step _ ih => exact look_up A _ _ ih
theorem part_has (A : Nat -> List Nat) {n i : Nat} (hi : i < n) (D : Nat -> Bool) (h : ∀ x ∈ A i, D x = true) : part A n D i = true := by
 refine part_sub A (show i + 1 <= n from hi) D ?_
 show look A i (part A i D) i = true
 unfold look
 rw [if_pos]
 ·simp
 ·rw [List.all_eq_true]
  exact fun x hx => part_up A i D (h x hx)
theorem round_grows {A : Nat -> List Nat} {n : Nat} (hA : ∀ i, i < n -> ∀ x ∈ A i, x < n) (hno : ∀ i, i < n -> mustG A n i i = false) (D : Nat -> Bool) :
  (∀ i, i < n -> D i = true) \/ cnt D n < cnt (part A n D) n := by
 by_cases hall : ∀ i, i < n -> D i = true
 ·exact .inl hall
 refine .inr ?_
 by_cases hp : ∃ i, i < n /\ D i = false /\ ∀ x ∈ A i, D x = true
 ·obtain ⟨i, h1, h2, h3⟩ := hp
  exact cnt_lt (fun j h => part_up A n D h) h1 h2 (part_has A h1 D h3)
 exfalso
 have hstep : ∀ i, i < n -> D i = false -> ∃ x, x ∈ A i /\ x < n /\ D x = false := fun i h1 h2 => by
  refine Classical.byContradiction fun hx => hp ⟨i, h1, h2, fun x hm => ?_⟩
  cases hd : D x with
  | true => rfl
  | false => exact absurd ⟨x, hm, hA i h1 x hm, hd⟩ hx
 obtain ⟨i0, h0, hd0⟩ : ∃ i, i < n /\ D i = false := by
  refine Classical.byContradiction fun hx => hall fun i hi => ?_
  cases hd : D i with
  | true => rfl
  | false => exact absurd ⟨i, hi, hd⟩ hx
 let nx : { i : Nat // i < n /\ D i = false } -> { i : Nat // i < n /\ D i = false } := fun i =>
  ⟨Classical.choose (hstep i.1 i.2.1 i.2.2), (Classical.choose_spec (hstep i.1 i.2.1 i.2.2)).2⟩
 let w : Nat -> { i : Nat // i < n /\ D i = false } := fun j => Nat.rec ⟨i0, h0, hd0⟩ (fun _ x => nx x) j
 have hw : ∀ j, (w (j + 1)).1 ∈ A (w j).1 := fun j => (Classical.choose_spec (hstep (w j).1 (w j).2.1 (w j).2.2)).1
 obtain ⟨a, b, hab, hbn, he⟩ := pigeon n (fun j => (w j).1) fun j _ => (w j).2.1
 have hm := must_walk A (f := fun j => (w j).1) hw (b - a - 1) a
 rw [show a + (b - a - 1) + 1 = b by omega] at hm
 have hm' : mustG A n (w a).1 (w a).1 = true := must_le A (n := b - a - 1 + 1) (by omega) (by
  have he' : (w a).1 = (w b).1 := he
  rw [<- he'] at hm
  exact hm)
 rw [hno _ (w a).2.1] at hm'
 cases hm'
theorem all_done {A : Nat -> List Nat} {n : Nat} (hA : ∀ i, i < n -> ∀ x ∈ A i, x < n) (hno : ∀ i, i < n -> mustG A n i i = false) (D : Nat -> Bool) : ∀ i, i < n -> rounds A n n D i = true := by
 have key : ∀ k, (∀ i, i < n -> rounds A n k D i = true) \/ k <= cnt (rounds A n k D) n := by
  intro k
  induction k with
  | zero => exact .inr (Nat.zero_le _)
  | succ k ih =>
   rcases ih with h | h
   ·exact .inl fun i hi => part_up A n _ (h i hi)
   ·rcases round_grows hA hno (rounds A n k D) with h2 | h2
    ·exact .inl fun i hi => part_up A n _ (h2 i hi)
    ·refine .inr ?_
     show k + 1 <= cnt (part A n (rounds A n k D)) n
     omega
 rcases key n with h | h
 ·exact h
 ·exact cnt_full (Nat.le_antisymm (cnt_le _ n) h)
end Go.TM.Rv
end
section
namespace Go.TM.Rv
open Go Go.TM
def bitsT (l : List Int) : Nat := l.foldl (fun s n => s ||| 2 ^ n.toNat) 0
theorem bits_acc (l : List Int) : ∀ (s i : Nat), (l.foldl (fun s n => s ||| 2 ^ n.toNat) s).testBit i = (s.testBit i || l.any fun v => v.toNat == i) := by
 induction l with
 | nil => intro s i; simp
 | cons v l ih =>
  intro s i
  rw [List.foldl_cons, ih, Nat.testBit_or, Nat.testBit_two_pow, List.any_cons, Bool.or_assoc]
  rfl
theorem bits_test (l : List Int) (i : Nat) : (bitsT l).testBit i = l.any fun v => v.toNat == i := by
 unfold bitsT
 rw [bits_acc]
 simp
theorem bits_mem {l : List Int} (hl : ∀ v ∈ l, 0 <= v) (i : Nat) : (bitsT l).testBit i = true ↔ (i : Int) ∈ l := by
 rw [bits_test, List.any_eq_true]
 constructor
 ·rintro ⟨v, hv, e⟩
  have h0 := hl v hv
  have e' : v.toNat = i := by simpa using e
  have : v = (i : Int) := by omega
  exact this ▸ hv
 ·intro h
  exact ⟨_, h, by simp⟩
theorem bits_lt {l : List Int} {k : Nat} (h : ∀ v ∈ l, v.toNat < k) : bitsT l < 2 ^ k := by
 refine Nat.lt_pow_two_of_testBit _ fun i hi => ?_
 rw [bits_test, Bool.eq_false_iff]
 intro e
 rw [List.any_eq_true] at e
 obtain ⟨v, hv, e⟩ := e
 have := h v hv
 have e' : v.toNat = i := by simpa using e
 omega
theorem bits_step {l : List Int} {i : Nat} {v : Int} (h : l[i]? = some v) : bitsT (l.take (i + 1)) = bitsT (l.take i) ||| 2 ^ v.toNat := by
 unfold bitsT
 rw [List.take_add_one, h, List.foldl_append]
 rfl
/-! ### Books -/
def afterN (b : RvBook) (i : Nat) : List Nat := ((b.cases[i]?.map (·.after)).getD []).map Int.toNat
def Acyc (b : RvBook) : Prop := ∃ rank : Nat -> Nat, ∀ i, i < b.cases.length -> ∀ x ∈ afterN b i, rank x < rank i
structure BookShape (b : RvBook) : Prop where
 rights : b.rights.length <= 6
 cases : b.cases.length <= 5
 against : ∀ c ∈ b.cases, 0 <= c.against /\ c.against < (b.rights.length : Int)
 grounds : ∀ c ∈ b.cases, c.grounds.length <= 3 /\ ∀ g ∈ c.grounds, g.length <= 3 /\ g.Pairwise (· < ·) /\ ∀ v ∈ g, 0 <= v /\ v < (b.rights.length : Int)
 after : ∀ c ∈ b.cases, c.after.Pairwise (· < ·) /\ ∀ v ∈ c.after, 0 <= v /\ v < (b.cases.length : Int)
structure BookOk (b : RvBook) : Prop extends BookShape b where
 names : ∀ s ∈ b.rights, NameOk s
 fresh : b.rights.Nodup
 cnames : ∀ c ∈ b.cases, NameOk c.name
 cfresh : (b.cases.map (·.name)).Nodup
 acyc : Acyc b
theorem BookShape.afterN {b : RvBook} (o : BookShape b) : ∀ i, i < b.cases.length -> ∀ x ∈ afterN b i, x < b.cases.length := by
 intro i hi x hx
 unfold Rv.afterN at hx
 rw [List.getElem?_eq_getElem hi] at hx
 obtain ⟨v, hv, rfl⟩ := List.mem_map.1 hx
 have := (o.after _ (List.getElem_mem hi)).2 v hv
 omega
theorem must_rank {A : Nat -> List Nat} {n : Nat} (hA : ∀ i, i < n -> ∀ x ∈ A i, x < n) {rank : Nat -> Nat} (hr : ∀ i, i < n -> ∀ x ∈ A i, rank x < rank i) : ∀ k i j, i < n -> mustG A k i j = true -> rank j < rank i := by
 intro k
 induction k with
 | zero => intro i j _ h; cases h
 | succ k ih =>
  intro i j hi h
  unfold mustG at h
  rw [List.any_eq_true] at h
  obtain ⟨x, hx, h⟩ := h
  rw [Bool.or_eq_true] at h
  have h1 := hr i hi x hx
  rcases h with h | h
  ·have : x = j := by simpa using h
   exact this ▸ h1
  ·exact Nat.lt_trans (ih x j (hA i hi x hx) h) h1
theorem no_must {b : RvBook} (o : BookShape b) (h : Acyc b) : ∀ i, i < b.cases.length -> mustG (afterN b) b.cases.length i i = false := by
 obtain ⟨rank, hr⟩ := h
 intro i hi
 cases e : mustG (afterN b) b.cases.length i i with
 | false => rfl
 | true => exact absurd (must_rank o.afterN hr _ _ _ hi e) (Nat.lt_irrefl _)
theorem part_new {A : Nat -> List Nat} : ∀ (m : Nat) (D : Nat -> Bool) (i : Nat), part A m D i = true -> D i = false -> i < m /\ ∀ x ∈ A i, part A i D x = true
 | 0, D, i, h, h0 => by have h : D i = true := h; rw [h] at h0; cases h0
 | m + 1, D, i, h, h0 => by
  have h : look A m (part A m D) i = true := h
  unfold look at h
  split at h
  ·rename_i hall
   rw [Bool.or_eq_true] at h
   rcases h with h | h
   ·obtain ⟨h1, h2⟩ := part_new m D i h h0
    exact ⟨Nat.lt_succ_of_lt h1, h2⟩
   ·have e : i = m := by simpa using h
    subst e
    exact ⟨Nat.lt_succ_self _, fun x hx => List.all_eq_true.1 hall x hx⟩
  ·obtain ⟨h1, h2⟩ := part_new m D i h h0
   exact ⟨Nat.lt_succ_of_lt h1, h2⟩
def firstR (A : Nat -> List Nat) (n : Nat) (D : Nat -> Bool) (i : Nat) : Nat -> Nat
 | 0 => 0
 | k + 1 => if rounds A n k D i then firstR A n D i k else k + 1
theorem firstR_spec {A : Nat -> List Nat} {n : Nat} {D : Nat -> Bool} {i : Nat} (h0 : D i = false) : ∀ k, rounds A n k D i = true -> ∃ j, firstR A n D i k = j + 1 /\ j < k /\ rounds A n j D i = false /\ rounds A n (j + 1) D i = true := by
 intro k
 induction k with
 | zero => intro h; have h : D i = true := h; rw [h0] at h; cases h
 | succ k ih =>
  intro h
  unfold firstR
  split
  ·rename_i hk
   obtain ⟨j, h1, h2, h3, h4⟩ := ih hk
   exact ⟨j, h1, by omega, h3, h4⟩
  ·rename_i hk
   exact ⟨k, rfl, Nat.lt_succ_self _, by simpa using hk, h⟩
theorem rounds_le {A : Nat -> List Nat} {n : Nat} {D : Nat -> Bool} {i j k : Nat} (hjk : j <= k) (h : rounds A n j D i = true) : rounds A n k D i = true := by
 induction hjk with
 | refl => exact h
 | step _ ih => exact part_up A n _ ih
theorem firstR_least {A : Nat -> List Nat} {n : Nat} {D : Nat -> Bool} {i : Nat} : ∀ {k j}, j <= k -> rounds A n j D i = true -> firstR A n D i k <= j := by
 intro k
 induction k with
 | zero => intro j _ _; exact Nat.zero_le _
 | succ k ih =>
  intro j hj h
  unfold firstR
  split
  ·by_cases e : j = k + 1
   ·rename_i hk
    have := ih (Nat.le_refl k) hk
    omega
   ·exact ih (by omega) h
  ·rename_i hk
   by_cases e : j = k + 1
   ·omega
   ·exact absurd (rounds_le (show j <= k by omega) h) hk
theorem rank_of {A : Nat -> List Nat} {n : Nat} (hA : ∀ i, i < n -> ∀ x ∈ A i, x < n) (hno : ∀ i, i < n -> mustG A n i i = false) : ∃ rank : Nat -> Nat, ∀ i, i < n -> ∀ x ∈ A i, rank x < rank i := by
 have hall := all_done hA hno fun _ => false
 refine ⟨fun i => firstR A n (fun _ => false) i n * n + i, fun i hi x hx => ?_⟩
 obtain ⟨k, h1, h2, h3, h4⟩ := firstR_spec (A := A) (n := n) (i := i) (D := fun _ => false) rfl n (hall i hi)
 have hxn := hA i hi x hx
 obtain ⟨_, h5⟩ := part_new (A := A) n (rounds A n k fun _ => false) i h4 h3
 have h6 := h5 x hx
 show firstR A n (fun _ => false) x n * n + x < firstR A n (fun _ => false) i n * n + i
 rw [h1]
 cases hk : rounds A n k (fun _ => false) x with
 | true =>
  have := firstR_least (i := x) (D := fun _ => false) (Nat.le_of_lt h2) hk
  have := Nat.mul_le_mul_right n this
  rw [Nat.add_mul]
  omega
 | false =>
  obtain ⟨h7, _⟩ := part_new (A := A) i (rounds A n k fun _ => false) x h6 hk
  have h8 : rounds A n (k + 1) (fun _ => false) x = true := part_sub A (Nat.le_of_lt hi) _ h6
  have := firstR_least (i := x) (D := fun _ => false) (show k + 1 <= n by omega) h8
  have := Nat.mul_le_mul_right n this
  omega
theorem acyc_of {b : RvBook} (o : BookShape b) (hno : ∀ i, i < b.cases.length -> mustG (afterN b) b.cases.length i i = false) : Acyc b := rank_of o.afterN hno
/-! ### Orders -/
structure RvRun where
 order : List Int
 s : List Bool
 won : Nat
def winsT (c : RvCase) (s : List Bool) : Bool := c.grounds.any fun g => g.all fun r => s.getD r.toNat false
def endedT (x : RvRun) (i : Nat) (c : RvCase) : RvRun :=
 if winsT c x.s then ⟨x.order ++ [(i : Int)], x.s.set c.against.toNat false, x.won ||| 2 ^ i⟩ else ⟨x.order ++ [(i : Int)], x.s, x.won⟩
def canT (order : List Int) (i : Nat) (c : RvCase) : Bool := !(bitsT order).testBit i && c.after.all fun v => (bitsT order).testBit v.toNat
def stepT (b : RvBook) (f : RvRun -> List RvRun) (x : RvRun) (i : Nat) : List RvRun := match b.cases[i]? with
 | some c => if canT x.order i c then f (endedT x i c) else []
 | none => []
def runsT (b : RvBook) : Nat -> RvRun -> List RvRun
 | 0, x => [x]
 | k + 1, x => (List.range b.cases.length).flatMap (stepT b (runsT b k) x)
def startT (b : RvBook) : RvRun := ⟨[], (List.range 6).map fun j => decide (j < b.rights.length), 0⟩
def allRuns (b : RvBook) : List RvRun := runsT b b.cases.length (startT b)
def sayT (some all : Nat) : Int := if some = all then 1 else if some = 0 then 2 else 0
def fateT (b : RvBook) (r : Nat) : Int := sayT ((allRuns b).countP fun x => x.s.getD r false) (allRuns b).length
def fatesT (b : RvBook) : List Int := (List.range b.rights.length).map (fateT b)
theorem ended_s {x : RvRun} {i : Nat} {c : RvCase} : (endedT x i c).s.length = x.s.length := by
 unfold endedT
 split <;> simp
theorem ended_order {x : RvRun} {i : Nat} {c : RvCase} : (endedT x i c).order = x.order ++ [(i : Int)] := by
 unfold endedT
 split <;> rfl
theorem flat_le {α β : Type} {f : α -> List β} {m : Nat} : ∀ {l : List α}, (∀ a ∈ l, (f a).length <= m) -> (l.flatMap f).length <= l.length * m
 | [], _ => by simp
 | a :: l, h => by
  have h1 := h a (by simp)
  have h2 := flat_le (l := l) fun b hb => h b (by simp [hb])
  rw [List.flatMap_cons, List.length_append, List.length_cons, Nat.add_mul]
  omega
theorem runs_len (b : RvBook) (hn : b.cases.length <= 5) : ∀ k x, (runsT b k x).length <= 5 ^ k
 | 0, x => by simp [runsT]
 | k + 1, x => by
  have h := flat_le (f := stepT b (runsT b k) x) (m := 5 ^ k) (l := List.range b.cases.length) fun i _ => by
   unfold stepT
   split
   ·split
    ·exact runs_len b hn k _
    ·simp
   ·simp
  rw [List.length_range] at h
  rw [runsT, Nat.pow_succ]
  have := Nat.mul_le_mul_right (5 ^ k) hn
  omega
theorem all_len {b : RvBook} (hn : b.cases.length <= 5) : (allRuns b).length <= 3125 := by
 have h := runs_len b hn b.cases.length (startT b)
 have h2 : 5 ^ b.cases.length <= 5 ^ 5 := Nat.pow_le_pow_right (by omega) hn
 unfold allRuns
 omega
theorem runs_s (b : RvBook) : ∀ k x, ∀ y ∈ runsT b k x, y.s.length = x.s.length
 | 0, x, y, h => by simp [runsT] at h; rw [h]
 | k + 1, x, y, h => by
  rw [runsT, List.mem_flatMap] at h
  obtain ⟨i, _, h⟩ := h
  unfold stepT at h
  split at h
  ·split at h
   ·rw [runs_s b k _ y h, ended_s]
   ·cases h
  ·cases h
theorem all_s (b : RvBook) : ∀ y ∈ allRuns b, y.s.length = 6 := fun y h => by rw [runs_s b _ _ y h]; simp [startT]
def outT (b : RvBook) : RvRun -> List Int -> RvRun
 | x, [] => x
 | x, i :: l => match b.cases[i.toNat]? with
  | some c => outT b (endedT x i.toNat c) l
  | none => x
def goesT (b : RvBook) : RvRun -> List Int -> Prop
 | _, [] => True
 | x, i :: l => ∃ c, 0 <= i /\ b.cases[i.toNat]? = some c /\ canT x.order i.toNat c = true /\ goesT b (endedT x i.toNat c) l
theorem out_mem (b : RvBook) : ∀ (l : List Int) (x : RvRun), goesT b x l -> outT b x l ∈ runsT b l.length x
 | [], x, _ => by simp [outT, runsT]
 | i :: l, x, h => by
  obtain ⟨c, h0, h1, h2, h3⟩ := h
  rw [List.length_cons, runsT, List.mem_flatMap]
  refine ⟨i.toNat, List.mem_range.2 (List.getElem?_eq_some_iff.1 h1).1, ?_⟩
  unfold outT stepT
  simp only [h1, h2, if_true]
  exact out_mem b l _ h3
theorem say_always {b : RvBook} {r : Nat} (h : fateT b r = 1) : ∀ x ∈ allRuns b, x.s.getD r false = true := by
 unfold fateT sayT at h
 split at h
 ·rename_i e
  exact List.countP_eq_length.1 e
 ·split at h <;> omega
theorem say_never {b : RvBook} {r : Nat} (h : fateT b r = 2) : ∀ x ∈ allRuns b, x.s.getD r false = false := by
 unfold fateT sayT at h
 split at h
 ·omega
 ·split at h
  ·rename_i e
   intro x hx
   have := List.countP_eq_zero.1 e x hx
   simpa using this
  ·omega
end Go.TM.Rv
end
section
namespace Go.TM.Rv
open Go Go.TM
theorem bv_nat {x : Nat} (h : x < 4611686018427387904) : (BitVec.ofInt IntKind.i64.bits (x : Int)).toNat = x := by
 show (BitVec.ofInt 64 (x : Int)).toNat = x
 rw [BitVec.ofInt_natCast, BitVec.toNat_ofNat]
 exact Nat.mod_eq_of_lt (by omega)
theorem or_small {x y : Nat} (hx : x < 64) (hy : y < 64) : x ||| y < 64 := Nat.or_lt_two_pow (n := 6) hx hy
theorem or_nat {x y : Nat} (hx : x < 64) (hy : y < 64) : IntKind.i64.wrap (((BitVec.ofInt IntKind.i64.bits (x : Int)) ||| (BitVec.ofInt IntKind.i64.bits (y : Int))).toNat : Int) = ((x ||| y : Nat) : Int) := by
 rw [BitVec.toNat_or, bv_nat (by omega), bv_nat (by omega)]
 have := or_small hx hy
 exact wrap_id (by omega) (by omega)
theorem shl_one {n : Nat} (hn : n < 6) : IntKind.i64.wrap (1 * 2 ^ (min ((n : Int)).toNat IntKind.i64.bits)) = ((2 ^ n : Nat) : Int) := by
 have : ∀ m : Fin 6, IntKind.i64.wrap (1 * 2 ^ (min (((m : Nat) : Int)).toNat IntKind.i64.bits)) = ((2 ^ (m : Nat) : Nat) : Int) := by decide
 exact this ⟨n, hn⟩
def subB (x y : Nat) : Bool := (x &&& y) == x
theorem sub_iff {x y : Nat} : subB x y = true ↔ ∀ i, x.testBit i = true -> y.testBit i = true := by
 unfold subB
 rw [beq_iff_eq]
 constructor
 ·intro h i hi
  rw [<- h, Nat.testBit_and, Bool.and_eq_true] at hi
  exact hi.2
 ·intro h
  refine Nat.eq_of_testBit_eq fun i => ?_
  rw [Nat.testBit_and]
  cases hi : x.testBit i with
  | false => rfl
  | true => rw [h i hi]; rfl
theorem sub_bits {l : List Int} {y : Nat} : subB (bitsT l) y = l.all fun v => y.testBit v.toNat := by
 rw [Bool.eq_iff_iff, sub_iff, List.all_eq_true]
 constructor
 ·intro h v hv
  refine h _ ?_
  rw [bits_test, List.any_eq_true]
  exact ⟨v, hv, by simp⟩
 ·intro h i hi
  rw [bits_test, List.any_eq_true] at hi
  obtain ⟨v, hv, e⟩ := hi
  have e : v.toNat = i := by simpa using e
  exact e ▸ h v hv
theorem can_bits {order : List Int} {i : Nat} {c : RvCase} : canT order i c = (!(bitsT order).testBit i && subB (bitsT c.after) (bitsT order)) := by
 unfold canT
 rw [sub_bits]
theorem bv_nat' {x : Nat} (h : x < 4611686018427387904) : (BitVec.ofInt 64 (x : Int)).toNat = x := bv_nat h
theorem or_shl {x n : Nat} (hx : x < 64) (hn : n < 6) : IntKind.i64.wrap (((BitVec.ofInt 64 (x : Int)) ||| (BitVec.ofInt 64 (IntKind.i64.wrap (1 * 2 ^ (min ((n : Int)).toNat 64))))).toNat : Int) = ((x ||| 2 ^ n : Nat) : Int) := by
 have e : IntKind.i64.wrap (1 * 2 ^ (min ((n : Int)).toNat 64)) = ((2 ^ n : Nat) : Int) := shl_one hn
 rw [e]
 have h2 : 2 ^ n < 64 := Nat.pow_lt_pow_right (n := 6) (a := 2) (by omega) hn
 exact or_nat hx h2
theorem bit_at {x i : Nat} (hx : x < 64) (hi : i < 64) : (IntKind.i64.wrap (((BitVec.ofInt 64 (Int.fdiv (x : Int) (2 ^ (min ((i : Int)).toNat 64)))) &&& (BitVec.ofInt 64 1)).toNat : Int) == 1) = x.testBit i := by
 have e1 : min ((i : Int)).toNat 64 = i := by omega
 have e2 : Int.fdiv (x : Int) (2 ^ i) = ((x / 2 ^ i : Nat) : Int) := by
  rw [Int.fdiv_eq_ediv_of_nonneg _ (Int.pow_nonneg (by omega))]
  simp
 rw [e1, e2]
 have h3 : x / 2 ^ i < 64 := Nat.lt_of_le_of_lt (Nat.div_le_self _ _) hx
 rw [BitVec.toNat_and, bv_nat' (by omega)]
 have e4 : (BitVec.ofInt 64 1).toNat = 1 := by decide
 rw [e4, Nat.and_one_is_mod]
 have h5 : x / 2 ^ i % 2 < 2 := Nat.mod_lt _ (by omega)
 rw [wrap_id (by omega) (by omega), Nat.testBit_eq_decide_div_mod_eq]
 rw [Bool.eq_iff_iff, beq_iff_eq, decide_eq_true_eq]
 omega
theorem sub_at {x y : Nat} (hx : x < 64) (hy : y < 64) : (IntKind.i64.wrap (((BitVec.ofInt 64 (x : Int)) &&& ~~~(BitVec.ofInt 64 (y : Int))).toNat : Int) != 0) = !subB x y := by
 have e1 : ((BitVec.ofInt 64 (x : Int)) &&& ~~~(BitVec.ofInt 64 (y : Int))).toNat = x &&& (2 ^ 64 - (y + 1)) := by
  rw [BitVec.toNat_and, BitVec.toNat_not, bv_nat' (by omega), bv_nat' (by omega)]
  congr 1
  omega
 have h2 : x &&& (2 ^ 64 - (y + 1)) < 64 := Nat.lt_of_le_of_lt Nat.and_le_left hx
 rw [e1, wrap_id (by omega) (by omega)]
 have key : (x &&& (2 ^ 64 - (y + 1)) = 0) ↔ subB x y = true := by
  rw [sub_iff]
  constructor
  ·intro h i hi
   have h3 : (x &&& (2 ^ 64 - (y + 1))).testBit i = false := by rw [h, Nat.zero_testBit]
   rw [Nat.testBit_and, hi, Bool.true_and, Nat.testBit_two_pow_sub_succ (by omega)] at h3
   have h4 : i < 64 := by
    refine Decidable.byContradiction fun hge => ?_
    have := Nat.testBit_lt_two_pow (x := x) (i := i) (Nat.lt_of_lt_of_le hx (show 64 <= 2 ^ i from Nat.le_trans (show 64 <= 2 ^ 6 by decide) (Nat.pow_le_pow_right (by omega) (by omega))))
    rw [hi] at this; cases this
   rw [decide_eq_true h4, Bool.true_and] at h3
   simpa using h3
  ·intro h
   refine Nat.eq_of_testBit_eq fun i => ?_
   rw [Nat.zero_testBit, Nat.testBit_and]
   cases hi : x.testBit i with
   | false => rfl
   | true => rw [Nat.testBit_two_pow_sub_succ (by omega), h i hi]; simp
 cases hs : subB x y with
 | true => rw [key.2 hs]; rfl
 | false =>
  have hne : ¬ (x &&& (2 ^ 64 - (y + 1)) = 0) := fun e => by rw [key.1 e] at hs; cases hs
  generalize x &&& (2 ^ 64 - (y + 1)) = z at hne
  simp only [Bool.not_false, bne_iff_ne, ne_eq]
  omega
end Go.TM.Rv
end
section
namespace Go.TM.Rv
open Go Go.Conc Go.TM
attribute [local irreducible] T.wp CV FWK
structure Tn (r : Nat) (h h' : LH) : Prop where
 keep : ∀ b, b ≠ r -> h'.get b = h.get b
 rest : h'.chans = h.chans /\ h'.pend = h.pend /\ h'.todo = h.todo
theorem Tn.le {r : Nat} {h₀ h h' : LH} (t : Tn r h h') (hl : h₀.le h) (hr : h₀.get r = none) : h₀.le h' :=
 ⟨fun b y hb => by
  have : b ≠ r := by rintro rfl; rw [hr] at hb; cases hb
  rw [t.keep b this]; exact hl.1 b y hb, by rw [t.rest.1]; exact hl.2.1, by rw [t.rest.2.1]; exact hl.2.2.1, by rw [t.rest.2.2]; exact hl.2.2.2⟩
theorem Tn.refl (r : Nat) (h : LH) : Tn r h h := ⟨fun _ _ => rfl, rfl, rfl, rfl⟩
theorem Tn.trans {r : Nat} {h h' h'' : LH} (a : Tn r h h') (b : Tn r h' h'') : Tn r h h'' :=
 ⟨fun x hx => (b.keep x hx).trans (a.keep x hx), b.rest.1.trans a.rest.1, b.rest.2.1.trans a.rest.2.1, b.rest.2.2.trans a.rest.2.2⟩
theorem t_storeC {P : Program} {X : XP} {Q : Leaf -> LH -> Prop} {h : LH} {r j : Nat} {el : TypeId} {cs : Array Value} {a : Addr} {v : Value} {k : T} (ha : a = ⟨r, j, none⟩) (hr : h.get r = some (true, .cells cs el (0, 0))) (hj : j < cs.size) (one : isOne v = true)
  (hk : ∀ h', Tn r h h' -> h'.get r = some (true, .cells (cs.setIfInBounds j v) el (0, 0)) -> k.wp X P Q h') : (T.store a v k).wp X P Q h := by
 subst ha
 refine t_store (v₀ := cs[j]) one ⟨_, hr⟩ ?_ (by simp [Cells.frozen?, hr]) ?_
 ·unfold Cells.cell?
  simp [hr, hj]
 ·have hset : h.get.setCell ⟨r, j, none⟩ v = h.get.upd r (true, .cells (cs.setIfInBounds j v) el (0, 0)) := by
   funext b
   unfold Cells.setCell Cells.upd
   by_cases e : b = r
   ·subst e; simp [hr]
   ·simp [e]
  rw [hset]
  exact hk _ ⟨fun b hb => Cells.upd_ne _ _ hb, rfl, rfl, rfl⟩ (Cells.upd_self _ _ _)
theorem le_updNew0 {h h' : LH} {m : Nat} {x : Bool × Obj} (hl : h.le h') (hm : h.get m = none) : h.le { h' with get := h'.get.upd m x } := ⟨fun b y hb => by
 have : b ≠ m := by rintro rfl; rw [hm] at hb; cases hb
 show h'.get.upd m x b = _
 rw [Cells.upd_ne _ _ this]; exact hl.1 b y hb, hl.2⟩
def BoolsV (s : List Bool) : Array Value := (s.map Value.bool).toArray
theorem boolsV_size (s : List Bool) : (BoolsV s).size = s.length := by simp [BoolsV]
theorem boolsV_set (s : List Bool) (j : Nat) (b : Bool) : (BoolsV s).setIfInBounds j (.bool b) = BoolsV (s.set j b) := by
 unfold BoolsV
 rw [List.setIfInBounds_toArray, List.map_set]
theorem boolsV_at {s : List Bool} {j : Nat} {b : Bool} (h : s[j]? = some b) : (BoolsV s)[j]? = some (.bool b) := by
 simp [BoolsV, h]
theorem bools_cell {h : Cells} {r j : Nat} {el : TypeId} {s : List Bool} {m : Bool} {b : Bool} (hr : h r = some (m, .cells (BoolsV s) el (0, 0))) (hb : s[j]? = some b) : h.cell? (Addr.add ⟨r, 0, none⟩ j) = some (.bool b) := by
 rw [add_plain, Nat.zero_add]
 unfold Cells.cell?
 rw [hr]
 exact boolsV_at hb
/-! ### Halves -/
def diff (h h' : Cells) : Cells := fun r => match h r with
 | some _ => none
 | none => h' r
theorem diff_disj (h h' : Cells) : Disj h (diff h h') := fun r => by
 unfold diff
 cases h r with
 | none => exact .inl rfl
 | some x => exact .inr rfl
theorem diff_get {h h' : Cells} (hl : h.le h') : h.add (diff h h') = h' := by
 funext r
 unfold Cells.add diff
 cases e : h r with
 | none => rfl
 | some x => exact (hl r x e).symm
theorem diff_add {h h' : LH} (hl : h.le h') : h.add (diff h.get h'.get) = h' := by
 obtain ⟨h1, h2, h3, h4⟩ := hl
 show ({ h with get := h.get.add (diff h.get h'.get) } : LH) = h'
 rw [diff_get h1]
 cases h; cases h'
 simp only at h2 h3 h4
 subst h2; subst h3; subst h4
 rfl
theorem Disj.diff {h h' M : Cells} (d : Disj h' M) : Disj (diff h h') M := fun r => by
 unfold Rv.diff
 cases h r with
 | some _ => exact .inl rfl
 | none => exact d r
theorem whole {h₀ a : LH} {M : Cells} (hl : h₀.le a) (d : Disj a.get M) : a.add M = (h₀.add M).add (diff h₀.get a.get) := by
 have e : (h₀.add (diff h₀.get a.get)).add M = (h₀.add M).add (diff h₀.get a.get) := by
  show ({ h₀ with get := (h₀.get.add _).add M } : LH) = { h₀ with get := (h₀.get.add M).add _ }
  rw [Cells.add_swap (Disj.diff d)]
 rw [diff_add hl] at e
 exact e
theorem whole_disj {h₀ a : LH} {M : Cells} (d : Disj a.get M) : Disj (h₀.add M).get (diff h₀.get a.get) :=
 Disj.add (diff_disj _ _) (Disj.diff d).symm
theorem le_add (h : LH) (k : Cells) : h.le (h.add k) := ⟨fun _ _ hx => Cells.add_left hx, rfl, rfl, rfl⟩
theorem halves {h₀ a h' : LH} (hl : h₀.le a) (hl' : h₀.le h') (d : Disj h'.get (diff h₀.get a.get)) : Disj a.get (diff h₀.get h'.get) /\ h'.add (diff h₀.get a.get) = a.add (diff h₀.get h'.get) := by
 have d1 : Disj a.get (diff h₀.get h'.get) := fun r => by
  unfold Rv.diff
  cases e : h₀.get r with
  | some x => exact .inr rfl
  | none =>
   rcases d r with d | d
   ·exact .inr d
   ·unfold Rv.diff at d
    rw [e] at d
    exact .inl d
 refine ⟨d1, ?_⟩
 rw [whole hl d1, diff_add hl']
section
variable {P : Program} {X : XP} {Q : Leaf -> LH -> Prop}
theorem t_grF {f : FuncId} {args : Array Value} {k : Value -> T} {V : Value -> LH -> Prop} {a : LH} {M : Cells} (d : Disj a.get M) (c : Gr P f args a V)
  (hk : ∀ v a', a.le a' -> Disj a'.get M -> V v a' -> (k v).wp X P Q (a'.add M)) : (T.call false f args k).wp X P Q (a.add M) := by
 refine t_call (FW.top (FW.frame X0_ok c d)) ?_
 rintro v _ ⟨h', d', rfl, hl, hv⟩
 exact hk v h' hl d' hv
theorem t_puF {f : FuncId} {args : Array Value} {k : Value -> T} {v : Value} {a : LH} {M : Cells} (d : Disj a.get M) (c : Pu P f args a v)
  (hk : (k v).wp X P Q (a.add M)) : (T.call false f args k).wp X P Q (a.add M) := by
 refine t_call (FW.top (FW.frame X0_ok c d)) ?_
 rintro v _ ⟨h', d', rfl, rfl, rfl⟩
 exact hk
theorem upd_add {h k : Cells} {r : Nat} {x : Bool × Obj} (hn : k r = none) : (h.add k).upd r x = (h.upd r x).add k := by
 funext b
 by_cases e : b = r
 ·subst e
  rw [Cells.upd_self]
  unfold Cells.add
  rw [Cells.upd_self]
 ·rw [Cells.upd_ne _ _ e]
  unfold Cells.add
  rw [Cells.upd_ne _ _ e]
theorem disj_upd {h k : Cells} {r : Nat} {x : Bool × Obj} (d : Disj h k) (hn : k r = none) : Disj (h.upd r x) k := fun b => by
 by_cases e : b = r
 ·subst e; exact .inr hn
 ·rw [Cells.upd_ne _ _ e]; exact d b
theorem t_newF {e : TypeId} {cs : Array Value} {k : Nat -> T} {a : LH} {M : Cells} (d : Disj a.get M) (hk : ∀ r a', a.get r = none -> a.le a' -> Disj a'.get M -> a'.get r = some (true, .cells cs e (0, 0)) -> (∀ b, b ≠ r -> a'.get b = a.get b) -> (k r).wp X P Q (a'.add M)) :
  (T.new e cs k).wp X P Q (a.add M) := by
 refine t_new fun r hr => ?_
 have h1 : a.get r = none := by
  cases e' : a.get r with
  | none => rfl
  | some x => have hr : a.get.add M r = none := hr; rw [Cells.add_left e'] at hr; cases hr
 have h2 : M r = none := by have hr : a.get.add M r = none := hr; rwa [Cells.add_right h1] at hr
 have := hk r { a with get := a.get.upd r (true, .cells cs e (0, 0)) } h1 (LH.upd_le h1) (disj_upd d h2) (Cells.upd_self _ _ _) fun b hb => Cells.upd_ne _ _ hb
 have e2 : ({ a.add M with get := (a.add M).get.upd r (true, .cells cs e (0, 0)) } : LH) = LH.add { a with get := a.get.upd r (true, .cells cs e (0, 0)) } M := by
  show ({ a with get := (a.get.add M).upd r _ } : LH) = { a with get := (a.get.upd r _).add M }
  rw [upd_add h2]
 rw [e2]
 exact this
theorem t_storeF {a : LH} {M : Cells} (d : Disj a.get M) {r j : Nat} {el : TypeId} {cs : Array Value} {ad : Addr} {v : Value} {k : T} (ha : ad = ⟨r, j, none⟩) (hr : a.get r = some (true, .cells cs el (0, 0))) (hj : j < cs.size) (one : isOne v = true)
  (hk : ∀ a', Tn r a a' -> a'.get r = some (true, .cells (cs.setIfInBounds j v) el (0, 0)) -> Disj a'.get M -> k.wp X P Q (a'.add M)) : (T.store ad v k).wp X P Q (a.add M) := by
 have hM : M r = none := (d r).resolve_left (by rw [hr]; simp)
 refine t_storeC (h := a.add M) ha (Cells.add_left hr) hj one fun h' t e => ?_
 have := hk { a with get := a.get.upd r (true, .cells (cs.setIfInBounds j v) el (0, 0)) } ⟨fun b hb => Cells.upd_ne _ _ hb, rfl, rfl, rfl⟩ (Cells.upd_self _ _ _) (disj_upd d hM)
 have e2 : h' = LH.add { a with get := a.get.upd r (true, .cells (cs.setIfInBounds j v) el (0, 0)) } M := by
  obtain ⟨g, c, p, q⟩ := h'
  obtain ⟨h1, h2, h3, h4⟩ := t
  simp only at h1 h2 h3 h4 e
  subst h2; subst h3; subst h4
  unfold LH.add
  simp only
  congr 1
  funext b
  by_cases eb : b = r
  ·subst eb
   rw [e, Cells.add_left (Cells.upd_self _ _ _)]
  ·rw [h1 b eb]
   show a.get.add M b = _
   unfold Cells.add
   rw [Cells.upd_ne _ _ eb]
 rw [e2]
 exact this
theorem none_le {h h' : LH} (hl : h.le h') {b : Nat} (hb : h'.get b = none) : h.get b = none := by
 cases e : h.get b with
 | none => rfl
 | some x => rw [hl.1 b x e] at hb; cases hb
theorem t_yield (hX : XOK X) {h₀ a : LH} {M : Cells} {y : Value} {args : Array Value} {k : Value -> T} {V : Value -> LH -> Prop} (hl : h₀.le a) (d : Disj a.get M)
  (c : CV X P y args (h₀.add M) fun b h' => h₀.le h' /\ V b h') (hk : ∀ b M', Disj a.get M' -> V b (h₀.add M') -> (k b).wp X P Q (a.add M')) : (T.callv false y args k).wp X P Q (a.add M) := by
 rw [whole hl d]
 refine t_callv (CV.frame hX c (whole_disj d)) ?_
 rintro b _ ⟨h', d', rfl, hl', hv⟩
 obtain ⟨d2, e⟩ := halves hl hl' d'
 rw [e]
 refine hk b _ d2 ?_
 rw [diff_add hl']
 exact hv
end
end Go.TM.Rv
end
section
namespace Go.TM.Rv
open Go Go.Conc Go.TM
theorem rows_ints (l : List Int) : Rows IntEnc (l.map (Value.int .i64)) l := by
 have key : ∀ m : List Int, Rows IntEnc (m.reverse.map (Value.int .i64)) m.reverse := by
  intro m
  induction m with
  | nil => exact .nil
  | cons x m ih =>
   rw [List.reverse_cons, List.map_append]
   exact .snoc ih rfl
 have := key l.reverse
 rwa [List.reverse_reverse] at this
section
variable {P : Program} {X : XP} {Q : Leaf -> LH -> Prop}
theorem t_slice3 {h : LH} {K : Value -> T} {t el : TypeId} {s b : Nat} {z : Option Value} {p : Option Addr} {n c i : Nat} (hu : P.underlying t = some (.slice el)) (hi : (P.info? el).map (fun i => (i.size, i.bytes, i.zero)) = some (s, b, z)) (hin : i <= c)
  (hk : (K (.slice p i i)).wp X P Q h) : (T.sem false (Instr.sliceAt t (.slice p n c) none (some (.int .i64 (i : Int))) (some (.int .i64 (i : Int)))) K).wp X P Q h := by
 obtain ⟨inf, g1, g2, _, _⟩ := info_of hi
 refine t_sem (A := fun v h' => v = .slice p i i /\ h' = h.get) ?_ (by rintro v h' ⟨rfl, rfl⟩; exact hk)
 unfold Instr.sliceAt
 simp only [lwp_bind, lwp_underlying hu]
 unfold Instr.slice
 simp only [lwp_bind, lwp_underlying hu]
 unfold Instr.sliceBounds Instr.sliceBound
 simp only [lwp_bind, lwp_pure, asIntOf]
 rw [if_pos (show 0 <= (i : Int) /\ (i : Int) <= (c : Int) by omega)]
 simp only [lwp_pure, lwp_bind, Int.toNat_natCast]
 rw [if_pos (show 0 <= (i : Int) /\ (i : Int) <= (i : Int) by omega)]
 simp only [lwp_pure, lwp_sizeOf g1, Int.toNat_natCast, g2, Nat.zero_mul, Nat.sub_zero]
 have e : (p.map fun x : Addr => x.add 0) = p := by cases p <;> simp [Addr.add]
 rw [e]
 simp
theorem t_appendFull {h : LH} {K : Value -> T} {ts : Array TypeId} {ty sT xT el xe : TypeId} {by_ : Nat} {p : Option Addr} {n mc : Nat} {b : Addr} {l : List Int} {x : Int} (h0 : ts[0]? = some sT) (h1 : ts[1]? = some xT) (hu : P.underlying sT = some (.slice el)) (hx : P.underlying xT = some (.slice xe))
  (hi : (P.info? el).map (fun i => (i.size, i.bytes, i.zero)) = some (1, by_, some (.int .i64 0))) (hb : by_ <= 1024) (hn : n + 1 <= 2 ^ 30) (hl : Sl IntE 1 h.get p n l) (hc : h.get.cell? (b.add 0) = some (.int .i64 x))
  (hk : ∀ r c' h', h.get r = none -> h.le h' -> n + 1 <= c' -> Growing IntEnc el 1 h.get h'.get (some ⟨r, 0, none⟩) (n + 1) c' (l ++ [x]) -> (K (.slice (some ⟨r, 0, none⟩) (n + 1) c')).wp X P Q h') : (T.sem false (Builtin.append_ ts ty #[.slice p n n, .slice (some b) 1 mc]) K).wp X P Q h := by
 obtain ⟨inf, g1, g2, g3, g4⟩ := info_of hi
 refine t_sem (A := fun v h' => (K v).wp X P Q { h with get := h' }) ?_ (by intro v h' hh; exact hh)
 unfold Builtin.append_
 rw [h0, h1]
 simp only [List.getElem?_toArray, List.getElem?_cons_zero, List.getElem?_cons_succ]
 simp only [lwp_bind, lwp_underlying hu, lwp_sizeOf g1, lwp_underlying hx, lwp_pure, Bool.false_eq_true, if_false, Bool.not_false, if_true, Builtin.lenOf]
 have hroom : ¬ n + 1 <= n := by omega
 have hnot : ¬ ((((n + 1 : Nat) : Int) > IntKind.i64.max) /\ (False \/ inf.bytes = 0)) := by
  rintro ⟨h1, _⟩
  have e : IntKind.i64.max = 9223372036854775807 := rfl
  rw [e] at h1; omega
 have hcap := nextslicecap_le (Nat.lt_of_not_le hroom)
 have hbytes : ¬ (Builtin.nextslicecap (n + 1) n * inf.bytes > 2 ^ 48) := by
  have := Nat.mul_le_mul hcap (show inf.bytes <= 1024 by omega)
  have h2 : (2 * (n + 1) + 400) * 1024 <= (2 * 2 ^ 30 + 400) * 1024 := Nat.mul_le_mul_right _ (by omega)
  have : (2 * 2 ^ 30 + 400) * 1024 <= 2 ^ 48 := by decide
  omega
 simp only [if_neg hroom, lwp_bind, lwp_typeInfo g1, if_neg hnot, if_neg hbytes, lwp_pure]
 have hch : ∀ {K : Nat -> Cells -> Prop}, (∀ a, n + 1 <= a -> K a h.get) -> Sem.lwp P (choose (Question.appendCap (n + 1) n el)) K (fun _ _ => False) h.get := by
  intro K hK
  show (if _ then _ else _)
  split
  ·rename_i hf; simp [Question.forced] at hf
  ·intro t; exact hK _ (Nat.le_add_right _ _)
 refine hch fun a ha => ?_
 have hroom' : ∀ {K : Unit -> Cells -> Prop}, K () h.get -> Sem.lwp P (askRoom (a * inf.bytes)) K (fun _ _ => False) h.get := by
  intro K hK
  unfold askRoom
  split
  ·exact ⟨rfl, hK⟩
  ·exact hK
 refine hroom' ?_
 have hlen := hl.1
 have hold : ∀ {K : Array Value -> Cells -> Prop}, (∀ old : Array Value, old.toList = l.map (Value.int .i64) -> K old h.get) -> Sem.lwp P (Builtin.firstCells inf.size n (Value.slice p n n)) K (fun _ _ => False) h.get := by
  intro K hK
  rw [g2]
  match p, hl with
  | none, hl =>
   have : l = [] := by
    cases l with
    | nil => rfl
    | cons y l => obtain ⟨a, ha, _⟩ := hl.2.2 0 y rfl; cases ha
   simp only [Builtin.firstCells, lwp_pure]
   exact hK #[] (by rw [this]; rfl)
  | some p, hl =>
   simp only [Builtin.firstCells]
   refine lwp_loads (l := l.map (Value.int .i64)) (by rw [List.length_map]; omega) (fun j v hj => ?_) (hK _ rfl)
   rw [List.getElem?_map] at hj
   cases e : l[j]? with
   | none => rw [e] at hj; cases hj
   | some y =>
    rw [e] at hj
    cases hj
    obtain ⟨a, ha, he⟩ := hl.2.2 j y e
    cases ha
    have he : h.get.cell? ((p.add (j * 1)).add 0) = _ := he
    rw [Nat.mul_one] at he
    have e2 : (p.add j).add 0 = p.add j := by simp [Addr.add]
    rwa [e2] at he
 refine hold fun old hold => ?_
 simp only [Builtin.firstCells]
 refine lwp_loads (l := [Value.int .i64 x]) (by rw [g2]; rfl) (fun j v hj => ?_) ?_
 ·match j, hj with
  | 0, hj => cases hj; exact hc
 simp only [lwp_zeroValue g1 g4]
 refine lwp_newRow fun r hr => ?_
 have e1 : old.size = n := by rw [<- Array.length_toList, hold, List.length_map, hlen]
 have hzs : (Builtin.zeroCells (Value.int .i64 0).cells (a - (n + 1))).size = a - (n + 1) := by simp [Builtin.zeroCells, Value.cells]
 refine hk r a _ hr (LH.upd_le hr) ha ⟨⟨(l ++ [x]).map (Value.int .i64), ⟨by simp [hlen], .inr ⟨r, _, rfl, Cells.upd_self _ _ _, ?_, ha, fun j v hj => ?_⟩⟩, ?_⟩, ?_⟩
 ·simp only [Array.size_append, e1, hzs]
  show n + 1 + (a - (n + 1)) = a * 1
  omega
 ·have hlt : j < ((l ++ [x]).map (Value.int .i64)).length := (List.getElem?_eq_some_iff.1 hj).1
  rw [<- Array.getElem?_toList, Array.toList_append, Array.toList_append, hold]
  rw [show l.map (Value.int .i64) ++ [Value.int .i64 x] = (l ++ [x]).map (Value.int .i64) by rw [List.map_append]; rfl, List.getElem?_append_left hlt]
  exact hj
 ·exact rows_ints _
 ·intro a ha; cases ha; exact hr
end
end Go.TM.Rv
end
section
namespace Go.TM
open Go Go.Conc
variable {P : Program} {E : Halt -> Cells -> Prop}
theorem lwp_pure' {α : Type} {a : α} {Q : α -> Cells -> Prop} {h : Cells} : Sem.lwp P (Sem.pure a) Q E h = Q a h := rfl
structure Keys (es : Array MapEntry) (c : Nat) (l : List Int) : Prop where
 keys : es.toList.map (·.key) = l.map (Value.int .i64)
 nodup : l.Nodup
 born : (es.toList.map (·.born)).Nodup
 lt : ∀ e ∈ es.toList, e.born < c
def MapOf (h : Cells) (m : Nat) (l : List Int) : Prop := ∃ es c, h m = some (true, .map es c) /\ Keys es c l
theorem Keys.nil : Keys #[] 0 [] := ⟨rfl, List.nodup_nil, List.nodup_nil, fun e he => by simp at he⟩
theorem Keys.isKey {es : Array MapEntry} {c : Nat} {l : List Int} (k : Keys es c l) {kt : TypeId} (ht : isI64 P kt = true) : ∀ e ∈ es.toList, IsKey P kt e.key := by
 intro e he
 have : e.key ∈ es.toList.map (·.key) := List.mem_map.2 ⟨e, he, rfl⟩
 rw [k.keys] at this
 obtain ⟨n, _, hn⟩ := List.mem_map.1 this
 exact .inl ⟨ht, n, hn.symm⟩
variable {X : XP} {Q : Leaf -> LH -> Prop}
theorem t_putKey {h : LH} {K : Value -> T} {t kt et : TypeId} {m : Nat} {l : List Int} {k : Int} {v : Value} (hu : P.underlying t = some (.map kt et)) (ht : isI64 P kt = true) (hm : MapOf h.get m l)
  (hq : ∀ es c l', (h.get.upd m (true, .map es c)) m = some (true, .map es c) -> Keys es c l' -> (∀ x, x ∈ l' ↔ x = k \/ x ∈ l) -> (K undef).wp X P Q { h with get := h.get.upd m (true, .map es c) }) : (T.sem false (Sem.bind (Instr.mapUpdate t (.map (some m)) (.int .i64 k) v) fun _ => pure (.tuple #[])) K).wp X P Q h := by
 obtain ⟨es, c, hmc, hK⟩ := hm
 refine t_sem (A := fun v h' => v = undef /\ (K undef).wp X P Q { h with get := h' }) (Sem.lwp_bind _ _ ?_) (by rintro v h' ⟨rfl, hw⟩; exact hw)
 unfold Instr.mapUpdate
 rw [lwp_bind, lwp_underlying hu]
 simp only [lwp_bind]
 refine ⟨_, _, hmc, trivial, ?_⟩
 show Sem.lwp P (_ >>= _) _ _ _
 rw [lwp_bind]
 have hkey : IsKey P kt (.int .i64 k) := .inl ⟨ht, k, rfl⟩
 refine lwp_checkKey hkey ?_
 rw [lwp_bind]
 refine lwp_findKey hkey (hK.isKey ht) (fun j e he hek => ?_) fun hno => ?_
 ·have he' : es[j]? = some e := by rw [<- Array.getElem?_toList]; exact he
  simp only [lwp_bind, Instr.keyThatStays, he', Option.map_some, Option.getD_some, hek, sameBits_key hkey, if_true, lwp_pure]
  refine ⟨⟨_, hmc, trivial⟩, ?_⟩
  have hlist : (es.modify j fun e => { e with key := .int .i64 k, val := v }).toList = es.toList.modify j fun e => { e with key := .int .i64 k, val := v } := by simp
  have hjl : j < es.toList.length := (List.getElem?_eq_some_iff.1 he).1
  have keys' : ((es.modify j fun e => { e with key := .int .i64 k, val := v }).toList).map (·.key) = es.toList.map (·.key) := by
   rw [hlist]
   refine List.ext_getElem? fun i => ?_
   rw [List.getElem?_map, List.getElem?_map, List.getElem?_modify]
   by_cases hij : j = i
   ·subst hij; simp [he, hek]
   ·simp [hij]
  have born' : ((es.modify j fun e => { e with key := .int .i64 k, val := v }).toList).map (·.born) = es.toList.map (·.born) := by
   rw [hlist]
   refine List.ext_getElem? fun i => ?_
   rw [List.getElem?_map, List.getElem?_map, List.getElem?_modify]
   by_cases hij : j = i
   ·subst hij; simp [he]
   ·simp [hij]
  refine ⟨rfl, hq _ _ l (Cells.upd_self _ _ _) ⟨keys'.trans hK.keys, hK.nodup, by rw [born']; exact hK.born, fun e2 he2 => ?_⟩ fun x => ?_⟩
  ·have : e2.born ∈ es.toList.map (·.born) := by rw [<- born']; exact List.mem_map.2 ⟨e2, he2, rfl⟩
   obtain ⟨e3, h3, h4⟩ := List.mem_map.1 this
   rw [<- h4]; exact hK.lt e3 h3
  ·have : Value.int .i64 k ∈ l.map (Value.int .i64) := by rw [<- hK.keys]; exact List.mem_map.2 ⟨e, List.mem_of_getElem? he, hek⟩
   obtain ⟨n, h1, h2⟩ := List.mem_map.1 this
   cases h2
   exact ⟨.inr, fun h => h.elim (fun e => e ▸ h1) id⟩
 ·refine ⟨⟨_, hmc, trivial⟩, rfl, hq _ _ (l ++ [k]) (Cells.upd_self _ _ _) ⟨?_, ?_, ?_, ?_⟩ fun x => ?_⟩
  ·simp [hK.keys]
  ·refine List.nodup_append.2 ⟨hK.nodup, by simp, fun a ha b hb e => ?_⟩
   simp at hb; subst hb; subst e
   have : Value.int .i64 a ∈ es.toList.map (·.key) := by rw [hK.keys]; exact List.mem_map.2 ⟨a, ha, rfl⟩
   obtain ⟨e, h1, h2⟩ := List.mem_map.1 this
   exact hno e h1 h2
  ·simp only [Array.toList_push, List.map_append, List.map_cons, List.map_nil]
   refine List.nodup_append.2 ⟨hK.born, by simp, fun a ha b hb e => ?_⟩
   simp at hb; subst hb; subst e
   obtain ⟨e, h1, h2⟩ := List.mem_map.1 ha
   have := hK.lt e h1
   omega
  ·intro e he
   simp only [Array.toList_push, List.mem_append, List.mem_singleton] at he
   rcases he with he | rfl
   ·have := hK.lt e he; omega
   ·exact Nat.lt_succ_self _
  ·simp [or_comm]
def NextKey (es : Array MapEntry) (seen : Array Nat) (xs : List Value) (seen' : Array Nat) : Prop := ∃ e ∈ es.toList, e.born ∉ seen.toList /\ xs = [e.key] /\ seen' = seen.push e.born
def AllSeen (es : Array MapEntry) (seen : Array Nat) : Prop := ∀ e ∈ es.toList, e.born ∈ seen.toList
theorem t_range {h : LH} {K : Value -> T} {t kt et : TypeId} {m c : Nat} {es : Array MapEntry} {b : Bool} (hu : P.underlying t = some (.map kt et)) (hm : h.get m = some (b, .map es c))
  (hk : ∀ r, h.get r = none -> (K (.pointer (some ⟨r, 0, none⟩))).wp X P Q { h with get := h.get.upd r (true, .mapIter (some m) c #[] c) }) : (T.sem false (Instr.range t (.map (some m))) K).wp X P Q h := by
 refine t_sem (A := fun v h' => ∃ r, h.get r = none /\ v = .pointer (some ⟨r, 0, none⟩) /\ h' = h.get.upd r (true, .mapIter (some m) c #[] c)) ?_ (by rintro v h' ⟨r, hr, rfl, rfl⟩; exact hk r hr)
 unfold Instr.range
 simp only [lwp_bind, lwp_underlying hu]
 refine ⟨_, _, hm, trivial, ?_⟩
 show Sem.lwp P (pure _) _ _ _
 rw [lwp_pure]
 intro r hr
 exact ⟨r, hr, rfl, rfl⟩
theorem t_next {h : LH} {K : Value -> T} {ty : TypeId} {m r c : Nat} {es : Array MapEntry} {seen : Array Nat} {b : Bool} (hr : h.get r = some (true, .mapIter (some m) c seen c)) (hm : h.get m = some (b, .map es c)) (hlt : ∀ e ∈ es.toList, e.born < c)
  (hend : AllSeen es seen -> (K (.tuple #[.bool false])).wp X P Q h)
  (hk : ∀ e ∈ es.toList, e.born ∉ seen.toList -> (K (.tuple #[.bool true, e.key, e.val])).wp X P Q { h with get := h.get.upd r (true, .mapIter (some m) c (seen.push e.born) c) }) : (T.sem false (Instr.next (.pointer (some ⟨r, 0, none⟩)) false ty) K).wp X P Q h := by
 refine t_sem (A := fun v h' => (K v).wp X P Q { h with get := h' }) ?_ (fun v h' hw => hw)
 unfold Instr.next
 simp only [lwp_bind]
 refine ⟨_, _, hr, trivial, ?_⟩
 show Sem.lwp P (_ >>= _) _ _ _
 rw [lwp_bind]
 refine ⟨_, _, hm, trivial, ?_⟩
 have hall : (!seen.isEmpty && !es.isEmpty && es.all fun x => decide (x.born >= c)) = false := by
  cases he : es.toList with
  | nil =>
   have : es = #[] := by rw [<- Array.toList_inj, he]
   simp [this]
  | cons e l =>
   have h1 := hlt e (by rw [he]; simp)
   have h2 : (es.all fun x => decide (x.born >= c)) = false := by
    rw [<- Array.all_toList, he]
    simp; omega
   simp [h2]
 simp only [lwp_pure', hall, Bool.false_eq_true, if_false, lwp_bind, lwp_pure]
 have hold : ((es.filter fun e => !seen.contains e.born).filter fun x => decide (x.born < c)) = es.filter fun e => !seen.contains e.born := by
  rw [Array.filter_eq_self]
  intro e he
  have := hlt e (Array.mem_toList_iff.2 (Array.mem_filter.1 he).1)
  simp [this]
 have hnew : ((es.filter fun e => !seen.contains e.born).filter fun x => decide (x.born >= c)) = #[] := by
  rw [Array.filter_filter]
  refine Array.filter_eq_empty_iff.2 fun e he => ?_
  have := hlt e (Array.mem_toList_iff.2 he)
  simp; omega
 rw [hold, hnew, Array.append_empty]
 by_cases hL : (es.filter fun e => !seen.contains e.born).isEmpty = true
 ·have hL' : (es.filter fun e => !seen.contains e.born) = #[] := Array.isEmpty_iff.1 hL
  rw [hL']
  simp only [Array.isEmpty_empty, if_true, Array.map_empty, Array.append_empty]
  show Sem.lwp P (choose (Question.mapNext 1)) _ _ _
  show (if _ then _ else _)
  rw [if_pos (by rfl)]
  refine hend fun e he => ?_
  have := Array.filter_eq_empty_iff.1 hL' e (Array.mem_toList_iff.1 he)
  simpa using this
 ·rw [Bool.not_eq_true] at hL
  simp only [hL, Bool.false_eq_true, if_false, Array.empty_append, Array.size_map]
  have hpos : 0 < (es.filter fun e => !seen.contains e.born).size := by
   rcases Nat.eq_zero_or_pos (es.filter fun e => !seen.contains e.born).size with h0 | h0
   ·rw [Array.size_eq_zero_iff] at h0; rw [h0] at hL; cases hL
   ·exact h0
  have fin : ∀ i, i < (es.filter fun e => !seen.contains e.born).size -> Sem.lwp P (match (Array.map some (es.filter fun e => !seen.contains e.born))[i]? with
   | some (some e) => do
    setObj r (.mapIter (some m) c (seen.push e.born) c)
    pure (.tuple #[.bool true, e.key, e.val])
   | some none => pure (.tuple #[.bool false])
   | none => stuck "Next: no such candidate" : Sem Value) (fun v h' => (K v).wp X P Q { h with get := h' }) (fun _ _ => False) h.get := by
   intro i hi
   have hmem : (es.filter fun e => !seen.contains e.born)[i] ∈ es.filter fun e => !seen.contains e.born := Array.getElem_mem hi
   rw [Array.mem_filter] at hmem
   have hget : (Array.map some (es.filter fun e => !seen.contains e.born))[i]? = some (some (es.filter fun e => !seen.contains e.born)[i]) := by simp [hi]
   rw [hget]
   simp only [lwp_bind]
   refine ⟨⟨_, hr, trivial⟩, ?_⟩
   simp only [lwp_pure', lwp_pure]
   refine hk _ (Array.mem_toList_iff.2 hmem.1) ?_
   have := hmem.2
   simpa using this
  show (if _ then _ else _)
  split
  ·exact fin 0 hpos
  ·exact fun t => fin _ (Nat.mod_lt _ hpos)
theorem t_entry {h : LH} {K : Value -> T} {m r c : Nat} {es : Array MapEntry} {seen : Array Nat} {e : MapEntry} {b : Bool} (hr : h.get r = some (true, .mapIter (some m) c (seen.push e.born) c)) (hm : h.get m = some (b, .map es c)) (he : e ∈ es.toList) (hb : (es.toList.map (·.born)).Nodup)
  (hk : (K (.tuple #[e.key, e.val])).wp X P Q h) : (T.sem false (Instr.entry (.pointer (some ⟨r, 0, none⟩))) K).wp X P Q h := by
 refine t_sem (A := fun v h' => v = .tuple #[e.key, e.val] /\ h' = h.get) ?_ (by rintro v h' ⟨rfl, rfl⟩; exact hk)
 unfold Instr.entry
 simp only [lwp_bind]
 refine ⟨_, _, hr, trivial, ?_⟩
 simp only [lwp_pure', Array.back?_push, lwp_bind]
 refine ⟨_, _, hm, trivial, ?_⟩
 have hf : es.find? (fun x => x.born == e.born) = some e := by
  rw [<- Array.find?_toList]
  have : ∀ l : List MapEntry, e ∈ l -> (l.map (·.born)).Nodup -> l.find? (fun x => x.born == e.born) = some e := by
   intro l
   induction l with
   | nil => intro h; simp at h
   | cons a l ih =>
    intro h1 h2
    simp only [List.map_cons, List.nodup_cons] at h2
    rw [List.find?_cons]
    rcases List.mem_cons.1 h1 with rfl | h1
    ·simp
    ·have hne : (a.born == e.born) = false := by
      cases hb : (a.born == e.born) with
      | false => rfl
      | true => exact absurd (List.mem_map.2 ⟨e, h1, (eq_of_beq hb).symm⟩) h2.1
     rw [hne]; exact ih h1 h2.2
  exact this _ he hb
 simp only [lwp_pure', bne_self_eq_false, Bool.false_eq_true, if_false, lwp_bind, lwp_pure, hf]
 exact ⟨trivial, trivial⟩
end Go.TM
end
section
namespace Go.TM
open Go Go.Conc
variable {P : Program} {E : Halt -> Cells -> Prop} {h : Cells}
theorem str_beq (a b : ByteArray) : (a == b) = true ↔ a = b := by
 obtain ⟨x⟩ := a
 obtain ⟨y⟩ := b
 show (x == y) = true ↔ _
 rw [beq_iff_eq]
 constructor
 ·rintro rfl; rfl
 ·intro e; cases e; rfl
def isBas (P : Program) (t : TypeId) (v : Value) : Prop := (P.underlying t = some (.int .i64) /\ ∃ n, v = .int .i64 n) \/ (P.underlying t = some .bool /\ ∃ b, v = .bool b) \/ (P.underlying t = some .string /\ ∃ s, v = .string s)
theorem isBas.agg {t : TypeId} {v : Value} (b : isBas P t v) : ∃ d, P.underlying t = some d /\ isAggT P t = false := by
 rcases b with ⟨hu, _⟩ | ⟨hu, _⟩ | ⟨hu, _⟩ <;> exact ⟨_, hu, by unfold isAggT; rw [hu]⟩
theorem lwp_partF {Q : Value -> Cells -> Prop} {t : TypeId} {cs : Array Value} {o : Nat} {v : Value} (b : isBas P t v) (hv : cs[o]? = some v) (hq : Q v h) : Sem.lwp P (part t cs o) Q E h := by
 obtain ⟨d, hu, ha⟩ := b.agg
 unfold part
 rw [lwp_bind, lwp_isAgg_false hu ha]
 simp only [Bool.false_eq_true, if_false, hv]
 exact hq
theorem lwp_equalF {Q : Bool -> Cells -> Prop} {t : TypeId} {d : Nat} {a b : Value} (ha : isBas P t a) (hb : isBas P t b) (hq : ∀ c : Bool, (c = true ↔ a = b) -> Q c h) : Sem.lwp P (Op.equalIn (d + 1) t a b) Q E h := by
 unfold Op.equalIn
 rcases ha with ⟨hu, n, rfl⟩ | ⟨hu, n, rfl⟩ | ⟨hu, n, rfl⟩ <;> rcases hb with ⟨hu', m, rfl⟩ | ⟨hu', m, rfl⟩ | ⟨hu', m, rfl⟩ <;> (rw [hu] at hu'; first | cases hu' | skip)
 ·rw [lwp_bind, lwp_underlying hu]; exact hq _ (by simp)
 ·rw [lwp_bind, lwp_underlying hu]; exact hq _ (by simp)
 ·rw [lwp_bind, lwp_underlying hu]; exact hq _ (by rw [str_beq]; simp)
theorem lwp_all {α σ : Type} {s0 s1 : σ} {body : α -> σ -> Sem (ForInStep σ)} {c : α -> Bool} : ∀ {l : List α} {Q : σ -> Cells -> Prop}, (∀ f ∈ l, ∀ {Q : ForInStep σ -> Cells -> Prop}, Q (if c f then .yield s0 else .done s1) h -> Sem.lwp P (body f s0) Q E h) -> Q (if l.all c then s0 else s1) h -> Sem.lwp P (forIn l s0 body) Q E h
 | [], Q, _, hq => by
  rw [List.forIn_nil]
  exact hq
 | f :: l, Q, hb, hq => by
  rw [List.forIn_cons, lwp_bind]
  refine hb f (by simp) ?_
  cases hc : c f with
  | true =>
   simp only [if_true]
   refine lwp_all (fun g hg => hb g (by simp [hg])) ?_
   simpa [hc] using hq
  | false =>
   simp only [Bool.false_eq_true, if_false, lwp_pure]
   simpa [hc] using hq
inductive FlatAgg (P : Program) (t : TypeId) (vs : List Value) : Prop where
 | str (fs : Array Field) (hu : P.underlying t = some (.struct fs)) (hs : P.stoodInHeld t = false) (hl : fs.toList.length = vs.length) (hf : ∀ (i : Nat) f v, fs.toList[i]? = some f -> vs[i]? = some v -> f.name ≠ "_" /\ f.offset = i /\ isBas P f.type v)
 | arr (n : Nat) (el : TypeId) (inf : TypeInfo) (hu : P.underlying t = some (.array n el)) (hi : P.info? el = some inf) (h1 : inf.size = 1) (hl : vs.length = n) (hf : ∀ v ∈ vs, isBas P el v)
def FKey (P : Program) (t : TypeId) (v : Value) : Prop := isBas P t v \/ ∃ vs, v = .agg vs.toArray /\ FlatAgg P t vs
theorem list_all_eq {α : Type} {a b : List α} (hl : a.length = b.length) (h : ∀ (i : Nat) x y, a[i]? = some x -> b[i]? = some y -> x = y) : a = b := by
 refine List.ext_getElem? fun i => ?_
 by_cases hi : i < a.length
 ·have ha := List.getElem?_eq_getElem hi
  have hb := List.getElem?_eq_getElem (l := b) (i := i) (by omega)
  rw [ha, hb, h i _ _ ha hb]
 ·rw [List.getElem?_eq_none (by omega), List.getElem?_eq_none (by omega)]
open Classical in
theorem lwp_equalA {Q : Bool -> Cells -> Prop} {t : TypeId} {d : Nat} {ys bs : List Value} (ha : FlatAgg P t ys) (hb : FlatAgg P t bs) (hq : ∀ c : Bool, (c = true ↔ ys = bs) -> Q c h) : Sem.lwp P (Op.equalIn (d + 1 + 1) t (.agg ys.toArray) (.agg bs.toArray)) Q E h := by
 cases ha with
 | str fs hu hs hl hf =>
  cases hb with
  | arr n el inf hu' => rw [hu] at hu'; cases hu'
  | str fs' hu' hs' hl' hf' =>
   rw [hu] at hu'; cases hu'
   have key : (fs.toList.all fun f => decide (ys[f.offset]? = bs[f.offset]?)) = true ↔ ys = bs := by
    rw [List.all_eq_true]
    constructor
    ·intro hall
     refine list_all_eq (by omega) fun i x y hx hy => ?_
     have hi : i < fs.toList.length := by rw [hl]; exact (List.getElem?_eq_some_iff.1 hx).1
     have hfi := List.getElem?_eq_getElem hi
     have h1 := of_decide_eq_true (hall _ (List.mem_of_getElem? hfi))
     rw [(hf i _ x hfi hx).2.1, hx, hy] at h1
     exact Option.some.inj h1
    ·rintro rfl f _
     simp
   unfold Op.equalIn
   rw [lwp_bind, lwp_underlying hu]
   simp only [lwp_bind, lwp_program, hs, Bool.false_eq_true, if_false, <- Array.forIn_toList]
   refine lwp_all (s1 := ⟨some false, ()⟩) (c := fun f => decide (ys[f.offset]? = bs[f.offset]?)) ?_ ?_
   ·intro f hfm Q hQ
    obtain ⟨i, hi⟩ := List.mem_iff_getElem?.1 hfm
    have hil : i < fs.toList.length := (List.getElem?_eq_some_iff.1 hi).1
    have hx := List.getElem?_eq_getElem (l := ys) (i := i) (by omega)
    have hy := List.getElem?_eq_getElem (l := bs) (i := i) (by omega)
    obtain ⟨n1, o1, b1⟩ := hf i f _ hi hx
    obtain ⟨_, _, b2⟩ := hf' i f _ hi hy
    rw [if_pos n1]
    simp only [lwp_bind]
    refine lwp_partF b1 (by rw [o1]; simpa using hx) (lwp_partF b2 (by rw [o1]; simpa using hy) (lwp_equalF b1 b2 fun c hc => ?_))
    rw [o1, hx, hy] at hQ
    cases c with
    | true =>
     have : ys[i] = bs[i] := hc.1 rfl
     simp only [this, decide_true, if_true] at hQ
     simpa [lwp_pure] using hQ
    | false =>
     have : ¬ ys[i] = bs[i] := fun e => by cases hc.2 e
     have h2 : ¬ some ys[i] = some bs[i] := fun e => this (Option.some.inj e)
     simp only [h2, decide_false, Bool.false_eq_true, if_false] at hQ
     simpa [lwp_pure] using hQ
   ·cases hall : (fs.toList.all fun f => decide (ys[f.offset]? = bs[f.offset]?)) with
    | true => simpa [lwp_pure] using hq true (by simpa [hall] using key)
    | false => simpa [lwp_pure] using hq false (by simpa [hall] using key)
 | arr n el inf hu hi h1 hl hf =>
  cases hb with
  | str fs' hu' => rw [hu] at hu'; cases hu'
  | arr n' el' inf' hu' hi' h1' hl' hf' =>
   rw [hu] at hu'; cases hu'
   rw [hi] at hi'; cases hi'
   have key : ((List.range' 0 n).all fun i => decide (ys[i]? = bs[i]?)) = true ↔ ys = bs := by
    rw [List.all_eq_true]
    constructor
    ·intro hall
     refine list_all_eq (by omega) fun i x y hx hy => ?_
     have hi : i < n := by rw [<- hl]; exact (List.getElem?_eq_some_iff.1 hx).1
     have h1 := of_decide_eq_true (hall i (by simp [hi]))
     rw [hx, hy] at h1
     exact Option.some.inj h1
    ·rintro rfl f _
     simp
   unfold Op.equalIn
   rw [lwp_bind, lwp_underlying hu]
   simp only [lwp_bind, lwp_sizeOf hi, h1, Nat.mul_one, Std.Legacy.Range.forIn_eq_forIn_range']
   have hr : List.range' 0 ([:n] : Std.Legacy.Range).size = List.range' 0 n := by simp [Std.Legacy.Range.size]
   have hr' : ([:n] : Std.Legacy.Range).start = 0 /\ ([:n] : Std.Legacy.Range).step = 1 := ⟨rfl, rfl⟩
   refine lwp_all (s1 := ⟨some false, ()⟩) (c := fun i => decide (ys[i]? = bs[i]?)) ?_ ?_
   ·intro i him Q hQ
    have hin : i < n := by
     have := him
     simp [Std.Legacy.Range.size] at this
     omega
    have hx := List.getElem?_eq_getElem (l := ys) (i := i) (by omega)
    have hy := List.getElem?_eq_getElem (l := bs) (i := i) (by omega)
    have b1 := hf _ (List.mem_of_getElem? hx)
    have b2 := hf' _ (List.mem_of_getElem? hy)
    simp only [lwp_bind]
    refine lwp_partF (v := ys[i]) b1 ?_ ?_
    ·rw [List.getElem?_toArray]; exact hx
    refine lwp_partF (v := bs[i]) b2 ?_ ?_
    ·rw [List.getElem?_toArray]; exact hy
    refine lwp_equalF b1 b2 fun c hc => ?_
    rw [hx, hy] at hQ
    cases c with
    | true =>
     have : ys[i] = bs[i] := hc.1 rfl
     simp only [this, decide_true, if_true] at hQ
     simpa [lwp_pure] using hQ
    | false =>
     have : ¬ ys[i] = bs[i] := fun e => by cases hc.2 e
     have h2 : ¬ some ys[i] = some bs[i] := fun e => this (Option.some.inj e)
     simp only [h2, decide_false, Bool.false_eq_true, if_false] at hQ
     simpa [lwp_pure] using hQ
   ·have hall' : (List.range' ([:n] : Std.Legacy.Range).start ([:n] : Std.Legacy.Range).size ([:n] : Std.Legacy.Range).step) = List.range' 0 n := by simp [Std.Legacy.Range.size]
    rw [hall']
    cases hall : ((List.range' 0 n).all fun i => decide (ys[i]? = bs[i]?)) with
    | true => simpa [lwp_pure] using hq true (by simpa [hall] using key)
    | false => simpa [lwp_pure] using hq false (by simpa [hall] using key)
theorem agg_inj {ys bs : List Value} : Value.agg ys.toArray = .agg bs.toArray ↔ ys = bs := by
 constructor
 ·intro e
  injection e with e
  simpa using e
 ·rintro rfl; rfl
theorem lwp_equalK {Q : Bool -> Cells -> Prop} {t : TypeId} {a b : Value} (ha : FKey P t a) (hb : FKey P t b) (hq : ∀ c : Bool, (c = true ↔ a = b) -> Q c h) : Sem.lwp P (Op.equal t a b) Q E h := by
 have hmd : Op.maxDepth = 9998 + 1 + 1 := rfl
 unfold Op.equal
 rw [hmd]
 rcases ha with ha | ⟨ys, rfl, ha⟩ <;> rcases hb with hb | ⟨bs, rfl, hb⟩
 ·exact lwp_equalF ha hb hq
 ·obtain ⟨d, hu, hn⟩ := ha.agg
  cases hb <;> (unfold isAggT at hn; rename_i hu'; first | (rw [‹P.underlying t = some (.struct _)›] at hn; cases hn) | (rw [‹P.underlying t = some (.array _ _)›] at hn; cases hn))
 ·obtain ⟨d, hu, hn⟩ := hb.agg
  cases ha <;> (unfold isAggT at hn; first | (rw [‹P.underlying t = some (.struct _)›] at hn; cases hn) | (rw [‹P.underlying t = some (.array _ _)›] at hn; cases hn))
 ·exact lwp_equalA ha hb fun c hc => hq c (by rw [agg_inj]; exact hc)
theorem lwp_checkKeyK {Q : Unit -> Cells -> Prop} {e : Bool} {kt : TypeId} {v : Value} (hk : FKey P kt v) (hq : Q () h) : Sem.lwp P (Instr.checkKey e 10000 kt v) Q E h := by
 have one : ∀ {Q : Unit -> Cells -> Prop} {d : Nat} {t : TypeId} {v : Value}, isBas P t v -> Q () h -> Sem.lwp P (Instr.checkKey e (d + 1) t v) Q E h := by
  intro Q d t v hb hq
  unfold Instr.checkKey
  rcases hb with ⟨hu, n, rfl⟩ | ⟨hu, n, rfl⟩ | ⟨hu, n, rfl⟩ <;> (rw [lwp_bind, lwp_underlying hu]; exact hq)
 rcases hk with hb | ⟨vs, rfl, hf⟩
 ·exact one (d := 9999) hb hq
 ·rw [show (10000 : Nat) = 9998 + 1 + 1 from rfl, Instr.checkKey]
  cases hf with
  | str fs hu hs hl hf =>
   rw [lwp_bind, lwp_underlying hu]
   simp only [lwp_bind, <- Array.forIn_toList]
   refine lwp_all (s1 := ()) (c := fun _ => true) ?_ (by simpa [lwp_pure] using hq)
   intro f hfm Q hQ
   obtain ⟨i, hi⟩ := List.mem_iff_getElem?.1 hfm
   have hil : i < fs.toList.length := (List.getElem?_eq_some_iff.1 hi).1
   have hx := List.getElem?_eq_getElem (l := vs) (i := i) (by omega)
   obtain ⟨n1, o1, b1⟩ := hf i f _ hi hx
   rw [if_pos n1]
   simp only [lwp_bind]
   refine lwp_partF (v := vs[i]) b1 (by rw [o1]; simpa using hx) (one b1 ?_)
   simpa [lwp_pure] using hQ
  | arr n el inf hu hi h1 hl hf =>
   rw [lwp_bind, lwp_underlying hu]
   simp only [lwp_bind, Std.Legacy.Range.forIn_eq_forIn_range']
   refine lwp_all (s1 := ()) (c := fun _ => true) ?_ (by simpa [lwp_pure] using hq)
   intro i him Q hQ
   have hin : i < n := by
    have := him
    simp [Std.Legacy.Range.size] at this
    omega
   have hx := List.getElem?_eq_getElem (l := vs) (i := i) (by omega)
   have b1 := hf _ (List.mem_of_getElem? hx)
   simp only [lwp_bind, lwp_sizeOf hi, h1, Nat.mul_one]
   refine lwp_partF (v := vs[i]) b1 ?_ ?_
   ·rw [List.getElem?_toArray]; exact hx
   refine one b1 ?_
   simpa [lwp_pure] using hQ
theorem sameNow_iff {kd : TypeDesc} {a b : Value} {c : Bool} (h : Instr.sameNow kd a b = some c) : c = true ↔ a = b := by
 unfold Instr.sameNow at h
 split at h
 ·split at h
  ·rename_i e; cases h; subst e; simp
  ·cases h
 ·cases h; simp [str_beq]
 ·cases h; simp
 ·cases h
theorem findNow_spec {kd : TypeDesc} {k : Value} : ∀ (es : List MapEntry) (i : Nat) (r : Option (Nat × Value)), Instr.findNow kd k es i = some r ->
  (∃ j e, es[j]? = some e /\ e.key = k /\ r = some (i + j, e.val)) \/ ((∀ e ∈ es, e.key ≠ k) /\ r = none)
 | [], i, r, h => by cases h; exact .inr ⟨fun e he => by simp at he, rfl⟩
 | e :: es, i, r, h => by
  unfold Instr.findNow at h
  split at h
  ·rename_i hs
   cases h
   exact .inl ⟨0, e, rfl, ((sameNow_iff hs).1 rfl).symm, rfl⟩
  ·rename_i hs
   have hne : e.key ≠ k := fun hh => by have := (sameNow_iff hs).2 hh.symm; cases this
   rcases findNow_spec es (i + 1) r h with ⟨j, e', h1, h2, h3⟩ | ⟨h1, h2⟩
   ·exact .inl ⟨j + 1, e', by simpa using h1, h2, by rw [h3]; congr 2; omega⟩
   ·refine .inr ⟨fun e' he' => ?_, h2⟩
    rcases List.mem_cons.1 he' with rfl | he'
    ·exact hne
    ·exact h1 e' he'
  ·cases h
theorem lwp_findAskingK {Q : Option (Nat × Value) -> Cells -> Prop} {kt : TypeId} {k : Value} (hk : FKey P kt k) : ∀ (es : List MapEntry) (i : Nat), (∀ e ∈ es, FKey P kt e.key) ->
  (∀ j e, es[j]? = some e -> e.key = k -> Q (some (i + j, e.val)) h) -> ((∀ e ∈ es, e.key ≠ k) -> Q none h) -> Sem.lwp P (Instr.findAsking kt k es i) Q E h
 | [], i, _, _, h2 => h2 fun e he => by simp at he
 | e :: es, i, hes, h1, h2 => by
  unfold Instr.findAsking
  rw [lwp_bind]
  refine lwp_equalK hk (hes e (by simp)) fun c hc => ?_
  cases c with
  | true =>
   simp only [if_true, lwp_pure]
   have := h1 0 e rfl (hc.1 rfl).symm
   simpa using this
  | false =>
   have hne : e.key ≠ k := fun hh => by have := hc.2 hh.symm; cases this
   simp only [Bool.false_eq_true, if_false]
   refine lwp_findAskingK hk es (i + 1) (fun e' he' => hes e' (by simp [he'])) (fun j e' he' hk' => ?_) fun hno => h2 fun e' he' => ?_
   ·have := h1 (j + 1) e' (by simpa using he') hk'
    rw [show i + 1 + j = i + (j + 1) by omega]; exact this
   ·rcases List.mem_cons.1 he' with rfl | he'
    ·exact hne
    ·exact hno e' he'
theorem FKey.und {kt : TypeId} {k : Value} (hk : FKey P kt k) : ∃ d, P.underlying kt = some d := by
 rcases hk with hb | ⟨vs, rfl, hf⟩
 ·obtain ⟨d, hu, _⟩ := hb.agg; exact ⟨d, hu⟩
 ·cases hf <;> exact ⟨_, ‹P.underlying kt = some _›⟩
theorem lwp_findKeyK {Q : Option (Nat × Value) -> Cells -> Prop} {kt : TypeId} {k : Value} {es : List MapEntry} (hk : FKey P kt k) (hes : ∀ e ∈ es, FKey P kt e.key) (h1 : ∀ j e, es[j]? = some e -> e.key = k -> Q (some (j, e.val)) h) (h2 : (∀ e ∈ es, e.key ≠ k) -> Q none h) : Sem.lwp P (Instr.findKey kt k es) Q E h := by
 unfold Instr.findKey
 obtain ⟨d, hu⟩ := hk.und
 rw [lwp_bind, lwp_underlying hu]
 cases hr : Instr.findNow d k es 0 with
 | some r =>
  simp only [lwp_pure]
  rcases findNow_spec es 0 r hr with ⟨j, e, g1, g2, g3⟩ | ⟨g1, g2⟩
  ·rw [g3]
   have := h1 j e g1 g2
   simpa using this
  ·rw [g2]; exact h2 g1
 | none =>
  exact lwp_findAskingK hk es 0 hes (fun j e he hke => by have := h1 j e he hke; simpa using this) h2
theorem sameBits_bas {t : TypeId} {v : Value} (b : isBas P t v) (d : Nat) : Instr.sameBits d v v = true := by
 rcases b with ⟨_, n, rfl⟩ | ⟨_, n, rfl⟩ | ⟨_, n, rfl⟩ <;> unfold Instr.sameBits <;> simp [str_beq]
theorem sameBits_all : ∀ {l : List Value}, (∀ v ∈ l, Instr.sameBits 9999 v v = true) -> ((l.zip l).all fun (x, y) => Instr.sameBits 9999 x y) = true
 | [], _ => rfl
 | v :: l, hl => by
  simp only [List.zip_cons_cons, List.all_cons, Bool.and_eq_true]
  exact ⟨hl v (by simp), sameBits_all fun w hw => hl w (by simp [hw])⟩
theorem sameBits_flat {kt : TypeId} {k : Value} (hk : FKey P kt k) : Instr.sameBits 10000 k k = true := by
 rcases hk with hb | ⟨vs, rfl, hf⟩
 ·exact sameBits_bas hb _
 ·rw [show (10000 : Nat) = 9999 + 1 from rfl]
  unfold Instr.sameBits
  simp only [beq_self_eq_true, Bool.true_and]
  refine sameBits_all fun v hv => ?_
  cases hf with
  | str fs hu hs hl hf =>
   obtain ⟨i, hi⟩ := List.mem_iff_getElem?.1 (show v ∈ vs by simpa using hv)
   have hil : i < vs.length := (List.getElem?_eq_some_iff.1 hi).1
   exact sameBits_bas (hf i _ v (List.getElem?_eq_getElem (by omega)) hi).2.2 _
  | arr n el inf hu hi h1 hl hf => exact sameBits_bas (hf v (by simpa using hv)) _
theorem lwp_lookupK {Q : Value -> Cells -> Prop} {t kt et : TypeId} {s b : Nat} {z : Value} {m : Nat} {es : Array MapEntry} {k : Value} {ok : Bool} (hu : P.underlying t = some (.map kt et)) (hi : (P.info? et).map (fun i => (i.size, i.bytes, i.zero)) = some (s, b, some z)) (hm : MapAt h m es) (hk : FKey P kt k) (hes : ∀ e ∈ es.toList, FKey P kt e.key)
  (h1 : ∀ e ∈ es.toList, e.key = k -> Q (if ok then .tuple #[e.val, .bool true] else e.val) h) (h2 : (∀ e ∈ es.toList, e.key ≠ k) -> Q (if ok then .tuple #[z, .bool false] else z) h) : Sem.lwp P (Instr.lookup t (.map (some m)) k ok) Q E h := by
 obtain ⟨inf, g1, _, _, g4⟩ := info_of hi
 obtain ⟨c, hmc⟩ := hm
 unfold Instr.lookup
 rw [lwp_bind, lwp_underlying hu]
 simp only [lwp_bind]
 refine ⟨_, _, hmc, trivial, ?_⟩
 show Sem.lwp P (_ >>= _) Q E h
 rw [lwp_bind, lwp_pure, lwp_bind]
 refine lwp_checkKeyK hk ?_
 rw [lwp_bind]
 refine lwp_findKeyK hk hes (fun j e he hek => ?_) fun hno => ?_
 ·simp only [lwp_pure, lwp_bind]
  have := h1 e (List.mem_of_getElem? he) hek
  cases ok <;> exact this
 ·simp only [lwp_bind, lwp_zeroValue g1 g4, lwp_pure]
  have := h2 hno
  cases ok <;> exact this
variable {X : XP} {Q : Leaf -> LH -> Prop}
theorem t_eqK {h : LH} {K : Value -> T} {t : TypeId} {x y : Operand} {ys bs : List Value} (ha : FlatAgg P t ys) (hb : FlatAgg P t bs) (hg : P.eqGuardType P.depth t = false) (hk : ∀ c : Bool, (c = true ↔ ys = bs) -> (K (.bool c)).wp X P Q h) :
  (T.sem false (Sem.bind (eqGuard .eql t x y (.agg ys.toArray) (.agg bs.toArray)) fun _ => binOp .eql t (.agg ys.toArray) (.agg bs.toArray)) K).wp X P Q h := by
 refine t_sem (A := fun w h' => h' = h.get /\ (K w).wp X P Q h) (Sem.lwp_bind _ _ ?_) (by rintro w h' ⟨rfl, hw⟩; exact hw)
 unfold eqGuard
 simp only [Bool.not_true, Bool.false_eq_true, if_false, lwp_bind, lwp_program, hg, Bool.not_false, if_true, lwp_pure]
 unfold binOp
 rw [lwp_bind]
 refine lwp_equalK (.inr ⟨_, rfl, ha⟩) (.inr ⟨_, rfl, hb⟩) fun c hc => ⟨rfl, hk c (by rw [hc, agg_inj])⟩
theorem str_list (a b : ByteArray) : (a.toList == b.toList) = true ↔ a = b := by
 rw [beq_iff_eq, ByteArray.toList_eq, ByteArray.toList_eq]
 obtain ⟨x⟩ := a
 obtain ⟨y⟩ := b
 constructor
 ·intro e
  have : x = y := by apply Array.ext'; simpa using e
  rw [this]
 ·intro e; cases e; rfl
theorem t_eqStr {h : LH} {K : Value -> T} {t : TypeId} {x y : Operand} {a b : ByteArray} (hu : P.underlying t = some .string) (hk : ∀ c : Bool, (c = true ↔ a = b) -> (K (.bool c)).wp X P Q h) :
  (T.sem false (Sem.bind (eqGuard .eql t x y (.string a) (.string b)) fun _ => binOp .eql t (.string a) (.string b)) K).wp X P Q h := by
 refine t_sem (A := fun w h' => h' = h.get /\ (K w).wp X P Q h) (Sem.lwp_bind _ _ ?_) (by rintro w h' ⟨rfl, hw⟩; exact hw)
 unfold eqGuard
 simp only [Bool.not_true, Bool.false_eq_true, if_false, lwp_pure]
 unfold binOp
 show Sem.lwp P (Op.stringOp .eql a b) _ _ _
 unfold Op.stringOp
 rw [lwp_pure]
 exact ⟨rfl, hk _ (str_list a b)⟩
theorem t_lenStr {h : LH} {K : Value -> T} {t t' : TypeId} {s : ByteArray} (hu : P.underlying t = some .string) (hk : (K (.int .i64 (s.size : Int))).wp X P Q h) : (T.sem false (Builtin.len_ #[t] t' #[.string s]) K).wp X P Q h := by
 refine t_sem (A := fun w h' => h' = h.get /\ (K w).wp X P Q h) ?_ (by rintro w h' ⟨rfl, hw⟩; exact hw)
 unfold Builtin.len_
 change Sem.lwp P (underlying t >>= _) _ _ _
 rw [lwp_bind, lwp_underlying hu]
 exact ⟨rfl, hk⟩
end Go.TM
end
section
namespace Go.TM
open Go Go.Conc
variable {P : Program} {E : Halt -> Cells -> Prop} {h : Cells}
def ByteE (h : Cells) (a : Addr) (c : UInt8) : Prop := h.cell? (a.add 0) = some (.int .u8 (c.toNat : Int))
theorem freeze_upd {h : Cells} {r : Nat} {cs : Array Value} {el : TypeId} {k : Nat} : (h.upd r (true, .cells cs el (0, 0))).freeze { block := r, off := k } 1 = h.upd r (true, .cells cs el (k, k + 1)) := by
 funext r'
 unfold Cells.freeze Cells.upd
 by_cases e : r' = r
 ·subst e; simp [frzO]
 ·simp [e]
theorem lwp_bytes {Q : Value -> Cells -> Prop} {el : TypeId} {s : ByteArray} (hq : ∀ r cap, h r = none -> s.size <= cap -> ∀ cs : Array Value, (∀ (i : Nat) c, s.data[i]? = some c -> cs[i]? = some (.int .u8 (c.toNat : Int))) -> Q (.slice (some ⟨r, 0, none⟩) s.size cap) (h.upd r (true, .cells cs el (cs.size, cs.size + 1)))) : Sem.lwp P (Conv.stringToBytes el s) Q E h := by
 unfold Conv.stringToBytes
 rw [lwp_bind]
 show (if _ then _ else _)
 split
 ·rename_i hf; simp [Question.forced] at hf
 ·intro t
  simp only [lwp_bind]
  refine lwp_newRow fun r hr => ?_
  unfold markStringish
  rw [lwp_bind]
  refine ⟨⟨_, Cells.upd_self _ _ _⟩, ?_⟩
  have hs : ∀ (cs : Array Value), (h.upd r (true, .cells cs el (0, 0))).shape? r = some (el, cs.size) := by
   intro cs; unfold Cells.shape?; rw [Cells.upd_self]
  simp only [hs]
  refine ⟨by decide, ⟨_, Cells.upd_self _ _ _⟩, ?_⟩
  rw [freeze_upd]
  refine hq r _ hr (Nat.le_add_right _ _) _ fun i c hc => ?_
  have hi : i < s.data.size := (Array.getElem?_eq_some_iff.1 hc).1
  rw [Array.getElem?_append_left (by simpa using hi), Array.getElem?_map, hc]; rfl
variable {X : XP} {Q : Leaf -> LH -> Prop}
theorem t_bytes {h : LH} {K : Value -> T} {src dst el : TypeId} {s : ByteArray} (h1 : P.underlying src = some .string) (h2 : P.underlying dst = some (.slice el)) (h3 : P.underlying el = some (.int .u8)) (hs : s.size < 4611686018427387904)
  (hk : ∀ r cap h', h.le h' -> Sl ByteE 1 h'.get (some ⟨r, 0, none⟩) s.size s.data.toList -> (K (.slice (some ⟨r, 0, none⟩) s.size cap)).wp X P Q h') : (T.sem false (convert src dst (.string s)) K).wp X P Q h := by
 refine t_sem (A := fun w h' => ∃ r cap, w = .slice (some ⟨r, 0, none⟩) s.size cap /\ h.get.le h' /\ Sl ByteE 1 h' (some ⟨r, 0, none⟩) s.size s.data.toList) ?_ (by rintro w h' ⟨r, cap, rfl, hl, hsl⟩; exact hk r cap _ ⟨hl, rfl, rfl, rfl⟩ hsl)
 unfold convert
 simp only [lwp_bind, lwp_underlying h1, lwp_underlying h2, lwp_underlying h3]
 refine lwp_bytes fun r cap hr hcap cs hcs => ⟨r, cap, rfl, Cells.le_upd _ hr, ?_⟩
 refine ⟨by rw [Array.length_toList]; rfl, by rw [Array.length_toList]; exact hs, fun i c hc => ⟨_, rfl, ?_⟩⟩
 unfold ByteE
 rw [add_plain, add_plain]
 simp only [Nat.zero_add, Nat.mul_one, Nat.add_zero]
 unfold Cells.cell?
 rw [Cells.upd_self]
 exact hcs i c (by simpa using hc)
theorem t_indexS {h : LH} {K : Value -> T} {t : TypeId} {s : ByteArray} {i : Nat} {c : UInt8} (hu : P.underlying t = some .string) (hc : s.data[i]? = some c) (hk : (K (.int .u8 (c.toNat : Int))).wp X P Q h) : (T.sem false (Instr.index t (.string s) (.int .i64 (i : Int))) K).wp X P Q h := by
 refine t_sem (A := fun w h' => h' = h.get /\ w = .int .u8 (c.toNat : Int)) ?_ (by rintro w h' ⟨rfl, rfl⟩; exact hk)
 unfold Instr.index
 simp only [asIntOf, lwp_bind, lwp_pure, lwp_underlying hu]
 have hi : i < s.size := (Array.getElem?_eq_some_iff.1 hc).1
 have h1 : s[(i : Int).toNat]? = some c := by
  rw [Int.toNat_natCast, getElem?_pos s i hi]
  have := Array.getElem?_eq_getElem (xs := s.data) (i := i) hi
  rw [this] at hc
  exact hc
 rw [if_pos (by omega), h1]
 exact ⟨rfl, rfl⟩
end Go.TM
end
section
namespace Go.Proofs.YtgljffachdhigaaGreatDoor
open Go Go.TM Go.Proofs
attribute [local irreducible] T.wp CV FWK
def indexF (x : Int) : Nat -> List Int -> Int
 | _, [] => -1
 | i, y :: l => if x == y then i else indexF x (i + 1) l
theorem indexF_ge (x : Int) : ∀ (l : List Int) (i : Nat), decide (indexF x i l >= 0) = l.contains x := by
 intro l
 induction l with
 | nil => intro i; rfl
 | cons y l ih =>
  intro i
  rw [indexF, List.contains_cons]
  split
  ·rename_i h; rw [h]; simp
  ·rename_i h
   have h' : (x == y) = false := by simpa using h
   rw [ih, h', Bool.false_or]
theorem c106 {h : LH} {p : Option Addr} {n c : Nat} {l : List Int} (hl : Sl IntE 1 h.get p n l) (x : Int) : Pu Tryz.prog 108 #[.slice p n c, .int .i64 x] h (.int .i64 (indexF x 0 l)) := by
 refine w106 _ _ _ _ X0_ok ?_
 unfold n106
 have hn := hl.1
 have hb := hl.2.1
 refine t_loop (fun m vs h' => h' = h /\ ∃ i : Nat, vs = [.int .i64 0, .int .i64 i] /\ i <= n /\ m = n - i /\ indexF x 0 l = indexF x i (l.drop i)) ⟨rfl, 0, rfl, Nat.zero_le _, rfl, rfl⟩ ?_
 rintro Y m vs _ hY ⟨rfl, i, rfl, hi, rfl, hc⟩
 refine gZ ?_
 refine t_if (fun e1 => ?_) (fun e1 => ?_)
 ·obtain ⟨y, a, hx, ha, e2⟩ := hl.at (i := i) (by omega)
  unfold IntE at e2
  refine gZ ?_
  rw [drop_of hx, indexF] at hc
  refine t_cond (fun e3 => ?_) (fun e3 => ?_)
  ·refine gZ ?_
   refine t_ret ⟨?_, rfl⟩
   rw [hc, if_pos e3]
  ·refine t_again (hY (n - (i + 1)) _ _ (by omega) ⟨rfl, i + 1, ?_, by omega, rfl, ?_⟩)
   ·rw [wrap_id (by omega) (by omega)]; rfl
   ·rw [hc, if_neg (by simp [e3])]
 ·refine gZ ?_
  refine t_ret ⟨?_, rfl⟩
  rw [hc, List.drop_eq_nil_of_le (by omega)]; rfl
theorem c100 {h : LH} {p : Option Addr} {n c : Nat} {l : List Int} (hl : Sl IntE 1 h.get p n l) (x : Int) : Pu Tryz.prog 68 #[.slice p n c, .int .i64 x] h (.bool (l.contains x)) := by
 refine w100 _ _ _ _ X0_ok ?_
 unfold n100
 refine t_pu (c106 hl x) ?_
 refine gZ ?_
 refine t_ret ⟨?_, rfl⟩
 rw [indexF_ge]
def placeF {α : Type} (f : α -> Bool) : Nat -> List α -> Int
 | _, [] => -1
 | i, y :: l => if f y then i else placeF f (i + 1) l
theorem placeF_ge {α : Type} (f : α -> Bool) : ∀ (l : List α) (i : Nat), decide (placeF f i l >= 0) = l.any f := by
 intro l
 induction l with
 | nil => intro i; rfl
 | cons y l ih =>
  intro i
  rw [placeF, List.any_cons]
  split
  ·rename_i h; rw [h]; simp
  ·rename_i h
   have h' : f y = false := by simpa using h
   rw [ih, h', Bool.false_or]
end Go.Proofs.YtgljffachdhigaaGreatDoor
end
section
namespace Go.Proofs.YtgljffachdhigaaGreatDoor
open Go Go.TM Go.Proofs
attribute [local irreducible] T.wp CV FWK
theorem c49 {h : LH} (n a b : Int) : Pu Tryz.prog 55 #[.int .i64 n, .int .i64 a, .int .i64 b] h (.bool (isIn n a b)) := by
 refine w49 _ _ _ X0_ok ?_
 unfold n49
 refine t_if (fun e => ?_) (fun e => ?_) <;> refine t_ret ⟨?_, rfl⟩ <;> simp [isIn, e]
end Go.Proofs.YtgljffachdhigaaGreatDoor
end
section
namespace Go.Proofs.YtgljffachdhigaaGreatDoor
open Go Go.TM Go.Proofs
set_option linter.unusedVariables false
set_option maxRecDepth 100000
variable {X : XP} {h : LH} {A : Value -> LH -> Prop}
noncomputable def n3140 (s : ByteArray) : T := .blk (.sem false (Builtin.len_ #[9] 3 #[.string s]) fun v => .unI .i64 v fun n => bif n == 0 then .leaf (.retn [.bool false]) else .sem false (Builtin.len_ #[9] 3 #[.string s]) fun v => .unI .i64 v fun n => bif decide (n > 10) then .leaf (.retn [.bool false]) else .leaf (.again [.bool false])) (fun vs => .popB vs fun b vs => .unNil vs (.loop [.bool b, .int .i64 0] (fun vs => .popB vs fun b vs => .popI .i64 vs fun n vs => .unNil vs (.sem false (Builtin.len_ #[9] 3 #[.string s]) fun v => .unI .i64 v fun n_1 => bif decide (n < n_1) then .blk (.both (.sem false (Instr.index 9 (.string s) (.int .i64 n)) fun v => .unI .u8 v fun n_2 => .nd (.int .i64 n) (.nd (.string s) (.both (.call false 55 #[.int .i64 (IntKind.wrap .i64 n_2), .int .i64 97, .int .i64 122] fun v => .unB v fun b => .nd (.int .i64 n) (.nd (.string s) (.sem false (Instr.index 9 (.string s) (.int .i64 n)) fun v => .unI .u8 v fun n => .call false 55 #[.int .i64 (IntKind.wrap .i64 n), .int .i64 48, .int .i64 57] fun v => .unB v fun b_1 => .leaf (.again [.bool b, .bool b_1])))) (.sem false (Instr.index 9 (.string s) (.int .i64 n)) fun v => .unI .u8 v fun n => .nd (.int .i64 (IntKind.wrap .i64 n_2)) (.call false 55 #[.int .i64 (IntKind.wrap .i64 n_2), .int .i64 97, .int .i64 122] fun v => .unB v fun b => .nd (.int .i64 (IntKind.wrap .i64 n)) (.call false 55 #[.int .i64 (IntKind.wrap .i64 n), .int .i64 48, .int .i64 57] fun v => .unB v fun b_1 => .leaf (.again [.bool b, .bool b_1]))))))) (.sem false (Instr.index 9 (.string s) (.int .i64 n)) fun v => .unI .u8 v fun n_2 => .nd (.int .i64 n) (.nd (.string s) (.sem false (Instr.index 9 (.string s) (.int .i64 n)) fun v => .unI .u8 v fun n => .nd (.int .i64 (IntKind.wrap .i64 n_2)) (.call false 55 #[.int .i64 (IntKind.wrap .i64 n), .int .i64 97, .int .i64 122] fun v => .unB v fun b => .nd (.int .i64 (IntKind.wrap .i64 n_2)) (.call false 55 #[.int .i64 (IntKind.wrap .i64 n_2), .int .i64 48, .int .i64 57] fun v => .unB v fun b_1 => .leaf (.again [.bool b, .bool b_1]))))))) (fun vs => .popB vs fun b_1 vs => .popB vs fun b_2 vs => .unNil vs (bif !b_1 then bif !b_2 then .leaf (.retn [.bool false, .int .i64 n]) else bif n == 0 then .leaf (.retn [.bool false, .int .i64 n]) else .leaf (.again [.bool b, .int .i64 (IntKind.wrap .i64 (n + 1))]) else .leaf (.again [.bool b, .int .i64 (IntKind.wrap .i64 (n + 1))]))) (fun vs => .popB vs fun b_1 vs => .popB vs fun b_2 vs => .unNil vs (.leaf (.retn [.bool b, .int .i64 n]))) fun x x_1 => .fail else .leaf (.brk [.bool b, .int .i64 n]))) (fun vs => .popB vs fun b vs => .popI .i64 vs fun n vs => .unNil vs (.leaf (.ret (.bool true)))) (fun vs => .popB vs fun b vs => .popI .i64 vs fun n vs => .unNil vs (.leaf (.ret (.bool b)))) fun x x_1 => .fail)) (fun vs => .popB vs fun b vs => .unNil vs (.leaf (.ret (.bool b)))) fun x x_1 => .fail
theorem w3140 (s : ByteArray) (hX : XOK X) (hw : (n3140 s).wp X Tryz.prog (retQ A) h) : FWK X Tryz.prog .normal 28 #[.string s] h A := fwk_neat (priv := []) (loops := [{ id := 0, slots := [(2, .bool), (3, .int .i64)], ro := [], outs := [] }]) (joins := [{ id := 7, slots := [(4, .bool), (5, .bool)], ro := [], outs := [] }, { id := 3, slots := [(2, .bool)], ro := [], outs := [] }]) (fd := Tryz.f28) (by kernel_rfl) (by simp) (by kernel_rfl) (by kernel_rfl) hX hw
noncomputable def n3239 (sp : Option Addr) (sn sc : Nat) (f : Value) : T := .call false 209 #[.slice sp sn sc, f] fun v => .unI .i64 v fun n => .leaf (.ret (.bool (decide (n >= 0))))
theorem w3239 (sp : Option Addr) (sn sc : Nat) (f : Value) (hX : XOK X) (hw : (n3239 sp sn sc f).wp X Tryz.prog (retQ A) h) : FWK X Tryz.prog .normal 207 #[.slice sp sn sc, f] h A := fwk_neat (priv := []) (loops := []) (joins := []) (fd := Tryz.f207) (by kernel_rfl) (by simp) (by kernel_rfl) (by kernel_rfl) hX hw
noncomputable def n3247 (sp : Option Addr) (sn sc : Nat) (f : Value) : T := .loop [.int .i64 0, .int .i64 0] (fun vs => .popI .i64 vs fun n vs => .popI .i64 vs fun n_1 vs => .unNil vs (bif decide (n_1 < (↑sn : Int)) then .need (0 <= n_1 /\ n_1 < (↑sn : Int)) (.someA sp fun a => .loadI .u8 (a.add (n_1.toNat * 1)) fun n_2 => .callv false f #[.int .u8 n_2] fun v => .unB v fun b => bif b then .leaf (.retn [.int .i64 n_1, .int .i64 n_1]) else .leaf (.again [.int .i64 n, .int .i64 (IntKind.wrap .i64 (n_1 + 1))])) else .leaf (.brk [.int .i64 n, .int .i64 n_1]))) (fun vs => .popI .i64 vs fun n vs => .popI .i64 vs fun n vs => .unNil vs (.leaf (.ret (.int .i64 (-1))))) (fun vs => .popI .i64 vs fun n vs => .popI .i64 vs fun n_1 vs => .unNil vs (.leaf (.ret (.int .i64 n)))) fun x x_1 => .fail
theorem w3247 (sp : Option Addr) (sn sc : Nat) (f : Value) (hX : XOK X) (hw : (n3247 sp sn sc f).wp X Tryz.prog (retQ A) h) : FWK X Tryz.prog .normal 209 #[.slice sp sn sc, f] h A := fwk_neat (priv := []) (loops := [{ id := 0, slots := [(4, .int .i64), (8, .int .i64)], ro := [], outs := [] }]) (joins := []) (fd := Tryz.f209) (by kernel_rfl) (by simp) (by kernel_rfl) (by kernel_rfl) hX hw
end Go.Proofs.YtgljffachdhigaaGreatDoor
end
section
namespace Go.Proofs.YtgljffachdhigaaGreatDoor
open Go Go.TM Go.Proofs
attribute [local irreducible] T.wp CV FWK
theorem und9 : Tryz.prog.underlying 9 = some .string := by kernel_rfl
theorem und1275 : Tryz.prog.underlying 285 = some (.slice 5) := by kernel_rfl
theorem undU8 : Tryz.prog.underlying 5 = some (.int .u8) := by kernel_rfl
/-! ### Names -/
theorem letter_in (c : UInt8) : isIn (c.toNat : Int) 97 122 = letterB c := by
 unfold isIn letterB
 congr 1 <;> rw [decide_eq_decide] <;> omega
theorem digit_in (c : UInt8) : isIn (c.toNat : Int) 48 57 = digitB c := by
 unfold isIn digitB
 congr 1 <;> rw [decide_eq_decide] <;> omega
theorem byte_lt (c : UInt8) : c.toNat < 256 := c.toNat_lt
theorem c3247 {h : LH} {p : Option Addr} {n c : Nat} {l : List UInt8} {fv : Value} {g : UInt8 -> Bool} (hl : Sl ByteE 1 h.get p n l) (hf : ∀ x : UInt8, CV X0 Tryz.prog fv #[.int .u8 (x.toNat : Int)] h fun r h' => r = .bool (g x) /\ h' = h) :
  Pu Tryz.prog 209 #[.slice p n c, fv] h (.int .i64 (placeF g 0 l)) := by
 refine w3247 _ _ _ _ X0_ok ?_
 unfold n3247
 have hn := hl.1
 have hb := hl.2.1
 refine t_loop (fun m vs h' => h' = h /\ ∃ i : Nat, vs = [.int .i64 0, .int .i64 i] /\ i <= n /\ m = n - i /\ placeF g 0 l = placeF g i (l.drop i)) ⟨rfl, 0, rfl, Nat.zero_le _, rfl, rfl⟩ ?_
 rintro Y m vs _ hY ⟨rfl, i, rfl, hi, rfl, hc⟩
 refine gZ ?_
 refine t_if (fun e1 => ?_) (fun e1 => ?_)
 ·obtain ⟨x, a, hx, ha, e2⟩ := hl.at (i := i) (by omega)
  unfold ByteE at e2
  refine gZ ?_
  refine t_callv (hf x) ?_
  rintro _ _ ⟨rfl, rfl⟩
  refine gZ ?_
  rw [drop_of hx, placeF] at hc
  refine t_cond (fun e3 => ?_) (fun e3 => ?_)
  ·refine gZ ?_
   refine t_ret ⟨?_, rfl⟩
   rw [hc, if_pos e3]
  ·refine t_again (hY (n - (i + 1)) _ _ (by omega) ⟨rfl, i + 1, ?_, by omega, rfl, ?_⟩)
   ·rw [wrap_id (by omega) (by omega)]; rfl
   ·rw [hc, if_neg (by simp [e3])]
 ·refine gZ ?_
  refine t_ret ⟨?_, rfl⟩
  rw [hc, List.drop_eq_nil_of_le (by omega)]; rfl
theorem c3239 {h : LH} {p : Option Addr} {n c : Nat} {l : List UInt8} {fv : Value} {g : UInt8 -> Bool} (hl : Sl ByteE 1 h.get p n l) (hf : ∀ x : UInt8, CV X0 Tryz.prog fv #[.int .u8 (x.toNat : Int)] h fun r h' => r = .bool (g x) /\ h' = h) :
  Pu Tryz.prog 207 #[.slice p n c, fv] h (.bool (l.any g)) := by
 refine w3239 _ _ _ _ X0_ok ?_
 unfold n3239
 refine t_pu (c3247 hl hf) ?_
 refine gZ ?_
 refine t_ret ⟨?_, rfl⟩
 rw [placeF_ge]
theorem c3140 {h : LH} (s : ByteArray) : FW X0 Tryz.prog 28 #[.string s] h fun r h' => h = h' /\ ∃ b, r = .bool b /\ (b = true -> NameOk s) := by
 refine w3140 _ X0_ok ?_
 unfold n3140
 refine t_blk (fun vs h' => vs = [.bool false] /\ h = h' /\ 1 <= s.size /\ s.size <= 10) ?_ ?_
 ·refine t_lenStr und9 ?_
  refine gZ ?_
  refine t_cond (fun _ => ?_) (fun e1 => ?_)
  ·refine gI ?_
   refine gZ ?_
   exact t_ret ⟨rfl, false, rfl, fun e => by cases e⟩
  refine t_lenStr und9 ?_
  refine gZ ?_
  refine t_if (fun _ => ?_) (fun e2 => ?_)
  ·refine gI ?_
   refine gZ ?_
   exact t_ret ⟨rfl, false, rfl, fun e => by cases e⟩
  ·refine t_again ⟨rfl, rfl, ?_, by omega⟩
   have : ¬ s.size = 0 := by simpa using e1
   omega
 rintro vs _ ⟨rfl, rfl, hs1, hs2⟩
 refine gZ ?_
 refine t_loop (fun mm vs h' => h = h' /\ ∃ i : Nat, vs = [.bool false, .int .i64 i] /\ i <= s.size /\ mm = s.size - i /\ ∀ (j : Nat) c, j < i -> s.data[j]? = some c -> letterB c = true \/ (digitB c = true /\ j ≠ 0)) ⟨rfl, 0, rfl, Nat.zero_le _, rfl, fun j c hj => absurd hj (Nat.not_lt_zero _)⟩ ?_
 rintro Y mm vs _ hY ⟨rfl, i, rfl, hi, rfl, hall⟩
 refine gZ ?_
 refine t_lenStr und9 ?_
 refine gZ ?_
 refine t_if (fun e1 => ?_) (fun e1 => ?_)
 ·have hlt : i < s.data.size := by show i < s.size; omega
  have hc := Array.getElem?_eq_getElem (xs := s.data) (i := i) hlt
  generalize s.data[i] = c at hc
  have hw : IntKind.wrap .i64 (c.toNat : Int) = (c.toNat : Int) := wrap_id (by omega) (by have := byte_lt c; omega)
  have i1 := letter_in c
  have i2 := digit_in c
  have next : (letterB c = true \/ (digitB c = true /\ i ≠ 0)) -> Y [.bool false, .int .i64 (IntKind.wrap .i64 ((i : Int) + 1))] h := fun hok => by
   refine hY (s.size - (i + 1)) _ _ (by omega) ⟨rfl, i + 1, ?_, by omega, rfl, fun j c' hj hc' => ?_⟩
   ·rw [wrap_id (by omega) (by omega)]; rfl
   ·by_cases e : j = i
    ·subst e; rw [hc] at hc'; cases hc'; exact hok
    ·exact hall j c' (by omega) hc'
  refine t_blk (fun vs h' => vs = [.bool (letterB c), .bool (digitB c)] /\ h = h') ?_ ?_
  ·refine t_both ?_ ?_
   ·refine t_indexS und9 hc ?_
    refine gZ ?_
    refine t_both ?_ ?_
    ·rw [hw]
     refine t_pu (c49 _ _ _) ?_
     rw [i1]
     refine gZ ?_
     refine t_indexS und9 hc ?_
     refine gZ ?_
     rw [hw]
     refine t_pu (c49 _ _ _) ?_
     rw [i2]
     refine gZ ?_
     exact t_again ⟨rfl, rfl⟩
    ·refine t_indexS und9 hc ?_
     refine gZ ?_
     rw [hw]
     refine t_pu (c49 _ _ _) ?_
     rw [i1]
     refine gZ ?_
     refine t_pu (c49 _ _ _) ?_
     rw [i2]
     refine gZ ?_
     exact t_again ⟨rfl, rfl⟩
   ·refine t_indexS und9 hc ?_
    refine gZ ?_
    refine t_indexS und9 hc ?_
    refine gZ ?_
    rw [hw]
    refine t_pu (c49 _ _ _) ?_
    rw [i1]
    refine gZ ?_
    refine t_pu (c49 _ _ _) ?_
    rw [i2]
    refine gZ ?_
    exact t_again ⟨rfl, rfl⟩
  rintro vs _ ⟨rfl, rfl⟩
  refine gZ ?_
  refine t_cond (fun b1 => ?_) (fun b1 => ?_)
  ·refine t_cond (fun _ => ?_) (fun b2 => ?_)
   ·refine gI ?_
    refine gZ ?_
    exact t_ret ⟨rfl, false, rfl, fun e => by cases e⟩
   refine t_cond (fun _ => ?_) (fun b3 => ?_)
   ·refine gI ?_
    refine gZ ?_
    exact t_ret ⟨rfl, false, rfl, fun e => by cases e⟩
   ·refine t_again (next (.inr ⟨by simpa using b2, ?_⟩))
    intro e0
    subst e0
    simp at b3
  ·exact t_again (next (.inl (by simpa using b1)))
 ·refine gZ ?_
  refine t_ret ⟨rfl, true, rfl, fun _ => ⟨⟨hs1, hs2⟩, fun j c hc => hall j c ?_ hc⟩⟩
  have : j < s.data.size := (Array.getElem?_eq_some_iff.1 hc).1
  have h2 : s.data.size = s.size := rfl
  omega
end Go.Proofs.YtgljffachdhigaaGreatDoor
end
section
namespace Go.Proofs.YtgljffachdhigaaGreatDoor
open Go Go.TM Go.Proofs
set_option linter.unusedVariables false
set_option maxRecDepth 100000
variable {X : XP} {h : LH} {A : Value -> LH -> Prop}
noncomputable def n3134 (sp : Option Addr) (sn sc : Nat) (f : Value) : T := .loop [.int .i64 0, .int .i64 0] (fun vs => .popI .i64 vs fun n vs => .popI .i64 vs fun n_1 vs => .unNil vs (bif decide (n_1 < (↑sn : Int)) then .need (0 <= n_1 /\ n_1 < (↑sn : Int)) (.someA sp fun a => .loadI .i64 (a.add (n_1.toNat * 1)) fun n_2 => .callv false f #[.int .i64 n_2] fun v => .unB v fun b => bif b then .leaf (.retn [.int .i64 n_1, .int .i64 n_1]) else .leaf (.again [.int .i64 n, .int .i64 (IntKind.wrap .i64 (n_1 + 1))])) else .leaf (.brk [.int .i64 n, .int .i64 n_1]))) (fun vs => .popI .i64 vs fun n vs => .popI .i64 vs fun n vs => .unNil vs (.leaf (.ret (.int .i64 (-1))))) (fun vs => .popI .i64 vs fun n vs => .popI .i64 vs fun n_1 vs => .unNil vs (.leaf (.ret (.int .i64 n)))) fun x x_1 => .fail
theorem w3134 (sp : Option Addr) (sn sc : Nat) (f : Value) (hX : XOK X) (hw : (n3134 sp sn sc f).wp X Tryz.prog (retQ A) h) : FWK X Tryz.prog .normal 159 #[.slice sp sn sc, f] h A := fwk_neat (priv := []) (loops := [{ id := 0, slots := [(4, .int .i64), (8, .int .i64)], ro := [], outs := [] }]) (joins := []) (fd := Tryz.f159) (by kernel_rfl) (by simp) (by kernel_rfl) (by kernel_rfl) hX hw
end Go.Proofs.YtgljffachdhigaaGreatDoor
end
section
namespace Go.Proofs.YtgljffachdhigaaGreatDoor
open Go Go.TM Go.Proofs
set_option linter.unusedVariables false
set_option maxRecDepth 100000
variable {X : XP} {h : LH} {A : Value -> LH -> Prop}
noncomputable def n3126 (b_0p : Option Addr) (b_0n b_0c : Nat) (b_1p : Option Addr) (b_1n b_1c : Nat) (orderp : Option Addr) (ordern orderc : Nat) : T := .call false 51 #[.agg #[.slice b_0p b_0n b_0c, .slice b_1p b_1n b_1c]] fun v => .unI .i64 v fun n => bif n != 0 then .leaf (.ret (.tuple #[.slice none 0 0, .slice none 0 0, .int .i64 n])) else bif (↑ordern : Int) != (↑b_1n : Int) then .leaf (.ret (.tuple #[.slice none 0 0, .slice none 0 0, .int .i64 2])) else .call false 66 #[.agg #[.slice b_0p b_0n b_0c, .slice b_1p b_1n b_1c]] fun v => .unAgg v fun l => .popB l fun b vs => .popB vs fun b_1 vs => .popB vs fun b_2 vs => .popB vs fun b_3 vs => .popB vs fun b_4 vs => .popB vs fun b_5 vs => .unNil vs (.new 131 #[.slice none 0 0, .bool false, .bool false, .bool false, .bool false, .bool false, .bool false, .int .i64 0] fun r => .store (Addr.add { block := r, off := 0 } 0) (.slice none 0 0) (.store (Addr.add { block := r, off := 0 } 1) (.bool b) (.store (Addr.add { block := r, off := 0 } 2) (.bool b_1) (.store (Addr.add { block := r, off := 0 } 3) (.bool b_2) (.store (Addr.add { block := r, off := 0 } 4) (.bool b_3) (.store (Addr.add { block := r, off := 0 } 5) (.bool b_4) (.store (Addr.add { block := r, off := 0 } 6) (.bool b_5) (.store (Addr.add { block := r, off := 0 } 7) (.int .i64 0) (.loop [.slice none 0 0, .slice none 0 0, .int .i64 0, .int .i64 0] (fun vs => .popS vs fun a n c vs => .popS vs fun a_1 n_1 c_1 vs => .popI .i64 vs fun n_2 vs => .popI .i64 vs fun n_3 vs => .unNil vs (bif decide (n_3 < (↑ordern : Int)) then .need (0 <= n_3 /\ n_3 < (↑ordern : Int)) (.someA orderp fun a_2 => .loadI .i64 (a_2.add (n_3.toNat * 1)) fun n_4 => .call false 67 #[.int .i64 n_4, .int .i64 0, .int .i64 (IntKind.wrap .i64 ((↑b_1n : Int) - 1))] fun v => .unB v fun b => bif !b then .leaf (.retn [.slice none 0 0, .slice none 0 0, .int .i64 6, .int .i64 n_3]) else .loadS (Addr.add { block := r, off := 0 } 0) fun p n_5 c_2 => .call false 68 #[.slice p n_5 c_2, .int .i64 n_4] fun v => .unB v fun b => bif b then .leaf (.retn [.slice none 0 0, .slice none 0 0, .int .i64 5, .int .i64 n_3]) else .need (0 <= n_4 /\ n_4 < (↑b_1n : Int)) (.someA b_1p fun a_3 => .loadS ((a_3.add (n_4.toNat * 4)).add 3) fun p n_6 c_3 => .loadS (Addr.add { block := r, off := 0 } 0) fun p_1 n_7 c_4 => .call false 50 #[.slice p n_6 c_3] fun v => .unI .i64 v fun n_8 => .loadS (Addr.add { block := r, off := 0 } 0) fun p n_9 c_5 => .need (AV.val (.slice p n_9 c_5) = AV.val (.slice p_1 n_7 c_4)) (.nd (.pointer (some (Addr.add { block := r, off := 0 } 0))) (.nd (.pointer (some ((a_3.add (n_4.toNat * 4)).add 3))) (.need (0 <= n_4 /\ n_4 < (↑b_1n : Int)) (.someA b_1p fun a_4 => .need (AV.val (.pointer (some (a_4.add (n_4.toNat * 4)))) = AV.val (.pointer (some (a_3.add (n_4.toNat * 4))))) (.nd (.int .i64 n_4) (.nd (.slice b_1p b_1n b_1c) (.need (AV.pp 2 1 = AV.pp 2 1) (.call false 50 #[.slice p_1 n_7 c_4] fun v => .unI .i64 v fun n_10 => .nd (.pointer (some (Addr.add { block := r, off := 0 } 0))) (.nd (.pointer (some ((a_3.add (n_4.toNat * 4)).add 3))) (.need (0 <= n_4 /\ n_4 < (↑b_1n : Int)) (.someA b_1p fun a_5 => .need (AV.val (.pointer (some (a_5.add (n_4.toNat * 4)))) = AV.val (.pointer (some (a_3.add (n_4.toNat * 4))))) (.nd (.int .i64 n_4) (.nd (.slice b_1p b_1n b_1c) (.need (AV.pp 2 1 = AV.pp 2 1) (.nd (.int .i64 (IntKind.wrap .i64 (↑(BitVec.toNat (BitVec.ofInt 64 n_8 &&& ~~~BitVec.ofInt 64 n_10)) : Int))) (.nd (.pointer (some (Addr.add { block := r, off := 0 } 0))) (.nd (.pointer (some ((a_3.add (n_4.toNat * 4)).add 3))) (.need (0 <= n_4 /\ n_4 < (↑b_1n : Int)) (.someA b_1p fun a_6 => .need (AV.val (.pointer (some (a_6.add (n_4.toNat * 4)))) = AV.val (.pointer (some (a_3.add (n_4.toNat * 4))))) (.nd (.int .i64 n_4) (.nd (.slice b_1p b_1n b_1c) (.need (AV.pp 2 1 = AV.pp 2 1) (bif IntKind.wrap .i64 (↑(BitVec.toNat (BitVec.ofInt 64 n_8 &&& ~~~BitVec.ofInt 64 n_10)) : Int) != 0 then .leaf (.retn [.slice none 0 0, .slice none 0 0, .int .i64 7, .int .i64 n_3]) else .loadS (Addr.add { block := r, off := 0 } 0) fun p n_11 c_6 => .loadB (Addr.add { block := r, off := 0 } 1) fun b => .loadB (Addr.add { block := r, off := 0 } 2) fun b_6 => .loadB (Addr.add { block := r, off := 0 } 3) fun b_7 => .loadB (Addr.add { block := r, off := 0 } 4) fun b_8 => .loadB (Addr.add { block := r, off := 0 } 5) fun b_9 => .loadB (Addr.add { block := r, off := 0 } 6) fun b_10 => .loadI .i64 (Addr.add { block := r, off := 0 } 7) fun n_12 => .call false 69 #[.agg #[.slice b_0p b_0n b_0c, .slice b_1p b_1n b_1c], .agg #[.slice p n_11 c_6, .bool b, .bool b_6, .bool b_7, .bool b_8, .bool b_9, .bool b_10, .int .i64 n_12], .int .i64 n_4] fun v => .unAgg v fun l => .popS l fun a_7 n_13 c_7 vs => .popB vs fun b vs => .popB vs fun b_11 vs => .popB vs fun b_12 vs => .popB vs fun b_13 vs => .popB vs fun b_14 vs => .popB vs fun b_15 vs => .popI .i64 vs fun n_14 vs => .unNil vs (.store (Addr.add { block := r, off := 0 } 0) (.slice a_7 n_13 c_7) (.store (Addr.add { block := r, off := 0 } 1) (.bool b) (.store (Addr.add { block := r, off := 0 } 2) (.bool b_11) (.store (Addr.add { block := r, off := 0 } 3) (.bool b_12) (.store (Addr.add { block := r, off := 0 } 4) (.bool b_13) (.store (Addr.add { block := r, off := 0 } 5) (.bool b_14) (.store (Addr.add { block := r, off := 0 } 6) (.bool b_15) (.store (Addr.add { block := r, off := 0 } 7) (.int .i64 n_14) (.leaf (.again [.slice a n c, .slice a_1 n_1 c_1, .int .i64 n_2, .int .i64 (IntKind.wrap .i64 (n_3 + 1))]))))))))))))))))))))))))))))))))))) else .leaf (.brk [.slice a n c, .slice a_1 n_1 c_1, .int .i64 n_2, .int .i64 n_3]))) (fun vs => .popS vs fun a n c vs => .popS vs fun a n c vs => .popI .i64 vs fun n vs => .popI .i64 vs fun n vs => .unNil vs (.loadI .i64 (Addr.add { block := r, off := 0 } 7) fun n => .sem false (Instr.sliceAt 128 (.pointer (some (Addr.add { block := r, off := 0 } 1))) none (some (.int .i64 (↑b_0n : Int))) none) fun w => .unS w fun a n_1 c => .nd (.int .i64 (↑b_1n : Int)) (.nd (.slice b_1p b_1n b_1c) (.need (AV.pp 2 1 = AV.pp 2 1) (.loadI .i64 (Addr.add { block := r, off := 0 } 7) fun n_2 => .need (AV.val (.int .i64 n_2) = AV.val (.int .i64 n)) (.nd (.pointer (some (Addr.add { block := r, off := 0 } 7))) (.nd (.slice b_0p b_0n b_0c) (.need (AV.pp 2 0 = AV.pp 2 0) (.sem false (Builtin.append_ #[68, 68] 68 #[.slice none 0 0, .slice a n_1 c]) fun v => .unS v fun a n_3 c => .nd (.int .i64 (↑b_1n : Int)) (.nd (.slice b_1p b_1n b_1c) (.need (AV.pp 2 1 = AV.pp 2 1) (.loadI .i64 (Addr.add { block := r, off := 0 } 7) fun n_4 => .need (AV.val (.int .i64 n_4) = AV.val (.int .i64 n)) (.nd (.pointer (some (Addr.add { block := r, off := 0 } 7))) (.nd (.slice b_0p b_0n b_0c) (.need (AV.pp 2 0 = AV.pp 2 0) (.call false 70 #[.int .i64 n, .int .i64 (↑b_1n : Int)] fun v => .unS v fun a_1 n c_1 => .nd (.slice b_1p b_1n b_1c) (.need (AV.pp 2 1 = AV.pp 2 1) (.nd (.pointer (some (Addr.add { block := r, off := 0 } 7))) (.nd (.slice b_0p b_0n b_0c) (.need (AV.pp 2 0 = AV.pp 2 0) (.nd (.slice b_1p b_1n b_1c) (.need (AV.pp 2 1 = AV.pp 2 1) (.nd (.pointer (some (Addr.add { block := r, off := 0 } 7))) (.leaf (.ret (.tuple #[.slice a n_3 c, .slice a_1 n c_1, .int .i64 0])))))))))))))))))))))))))) (fun vs => .popS vs fun a n c vs => .popS vs fun a_1 n_1 c_1 vs => .popI .i64 vs fun n_2 vs => .popI .i64 vs fun n_3 vs => .unNil vs (.leaf (.ret (.tuple #[.slice a n c, .slice a_1 n_1 c_1, .int .i64 n_2])))) fun x x_1 => .fail)))))))))
theorem w3126 (b_0p : Option Addr) (b_0n b_0c : Nat) (b_1p : Option Addr) (b_1n b_1c : Nat) (orderp : Option Addr) (ordern orderc : Nat) (hX : XOK X) (hw : (n3126 b_0p b_0n b_0c b_1p b_1n b_1c orderp ordern orderc).wp X Tryz.prog (retQ A) h) : FWK X Tryz.prog .normal 22 #[.agg #[.slice b_0p b_0n b_0c, .slice b_1p b_1n b_1c], .slice orderp ordern orderc] h A := fwk_neat (priv := [2, 8]) (loops := [{ id := 0, slots := [(4, .slice), (5, .slice), (6, .int .i64), (30, .int .i64)], ro := [2, 8], outs := [] }]) (joins := []) (fd := Tryz.f22) (by kernel_rfl) (by simp) (by kernel_rfl) (by kernel_rfl) hX hw
noncomputable def n3150 (lp : Option Addr) (ln lc : Nat) : T := .loop [.int .i64 0, .int .i64 0] (fun vs => .popI .i64 vs fun n vs => .popI .i64 vs fun n_1 vs => .unNil vs (bif decide (n_1 < (↑ln : Int)) then .need (0 <= n_1 /\ n_1 < (↑ln : Int)) (.someA lp fun a => .loadI .i64 (a.add (n_1.toNat * 1)) fun n_2 => .need (0 <= n_2) (.leaf (.again [.int .i64 (IntKind.wrap .i64 (↑(BitVec.toNat (BitVec.ofInt 64 n ||| BitVec.ofInt 64 (IntKind.wrap .i64 (1 * 2 ^ min (n_2.toNat) 64)))) : Int)), .int .i64 (IntKind.wrap .i64 (n_1 + 1))]))) else .leaf (.brk [.int .i64 n, .int .i64 n_1]))) (fun vs => .popI .i64 vs fun n vs => .popI .i64 vs fun n_1 vs => .unNil vs (.leaf (.ret (.int .i64 n)))) (fun vs => .popI .i64 vs fun n vs => .popI .i64 vs fun n vs => .unNil vs (.leaf (.ret (.int .i64 0)))) fun x x_1 => .fail
theorem w3150 (lp : Option Addr) (ln lc : Nat) (hX : XOK X) (hw : (n3150 lp ln lc).wp X Tryz.prog (retQ A) h) : FWK X Tryz.prog .normal 50 #[.slice lp ln lc] h A := fwk_neat (priv := []) (loops := [{ id := 0, slots := [(3, .int .i64), (8, .int .i64)], ro := [], outs := [] }]) (joins := []) (fd := Tryz.f50) (by kernel_rfl) (by simp) (by kernel_rfl) (by kernel_rfl) hX hw
noncomputable def n3151 (b_0p : Option Addr) (b_0n b_0c : Nat) (b_1p : Option Addr) (b_1n b_1c : Nat) : T := .loadV (Addr.add { block := 0, off := 0 } 0) fun v => .loadV (Addr.add { block := 0, off := 0 } 1) fun v_1 => .loadV (Addr.add { block := 0, off := 0 } 2) fun v_2 => .loop [.int .i64 0, .int .i64 0] (fun vs => .popI .i64 vs fun n vs => .popI .i64 vs fun n_1 vs => .unNil vs (bif decide (n_1 < 3) then .sem false (Instr.index 160 (.agg #[v, v_1, v_2]) (.int .i64 n_1)) fun v => .callv false v #[.agg #[.slice b_0p b_0n b_0c, .slice b_1p b_1n b_1c]] fun v => .unI .i64 v fun n_2 => bif n_2 != 0 then .leaf (.retn [.int .i64 n_2, .int .i64 n_1]) else .leaf (.again [.int .i64 n, .int .i64 (IntKind.wrap .i64 (n_1 + 1))]) else .leaf (.brk [.int .i64 n, .int .i64 n_1]))) (fun vs => .popI .i64 vs fun n vs => .popI .i64 vs fun n vs => .unNil vs (.leaf (.ret (.int .i64 0)))) (fun vs => .popI .i64 vs fun n vs => .popI .i64 vs fun n_1 vs => .unNil vs (.leaf (.ret (.int .i64 n)))) fun x x_1 => .fail
theorem w3151 (b_0p : Option Addr) (b_0n b_0c : Nat) (b_1p : Option Addr) (b_1n b_1c : Nat) (hX : XOK X) (hw : (n3151 b_0p b_0n b_0c b_1p b_1n b_1c).wp X Tryz.prog (retQ A) h) : FWK X Tryz.prog .normal 51 #[.agg #[.slice b_0p b_0n b_0c, .slice b_1p b_1n b_1c]] h A := fwk_neat (priv := [1]) (loops := [{ id := 0, slots := [(2, .int .i64), (7, .int .i64)], ro := [1], outs := [] }]) (joins := []) (fd := Tryz.f51) (by kernel_rfl) (by simp) (by kernel_rfl) (by kernel_rfl) hX hw
noncomputable def n3153 (lp : Option Addr) (ln lc : Nat) (below : Int) : T := .loop [.int .i64 0, .int .i64 0] (fun vs => .popI .i64 vs fun n vs => .popI .i64 vs fun n_1 vs => .unNil vs (bif decide (n_1 < (↑ln : Int)) then .need (0 <= n_1 /\ n_1 < (↑ln : Int)) (.someA lp fun a => .loadI .i64 (a.add (n_1.toNat * 1)) fun n_2 => .call false 67 #[.int .i64 n_2, .int .i64 0, .int .i64 (IntKind.wrap .i64 (below - 1))] fun v => .unB v fun b => bif !b then .leaf (.retn [.int .i64 6, .int .i64 n_1]) else bif decide (n_1 > 0) then .need (0 <= IntKind.wrap .i64 (n_1 - 1) /\ IntKind.wrap .i64 (n_1 - 1) < (↑ln : Int)) (.someA lp fun a => .loadI .i64 (a.add ((IntKind.wrap .i64 (n_1 - 1)).toNat * 1)) fun n_3 => bif decide (n_2 <= n_3) then .leaf (.retn [.int .i64 7, .int .i64 n_1]) else .leaf (.again [.int .i64 n, .int .i64 (IntKind.wrap .i64 (n_1 + 1))])) else .leaf (.again [.int .i64 n, .int .i64 (IntKind.wrap .i64 (n_1 + 1))])) else .leaf (.brk [.int .i64 n, .int .i64 n_1]))) (fun vs => .popI .i64 vs fun n vs => .popI .i64 vs fun n vs => .unNil vs (.leaf (.ret (.int .i64 0)))) (fun vs => .popI .i64 vs fun n vs => .popI .i64 vs fun n_1 vs => .unNil vs (.leaf (.ret (.int .i64 n)))) fun x x_1 => .fail
theorem w3153 (lp : Option Addr) (ln lc : Nat) (below : Int) (hX : XOK X) (hw : (n3153 lp ln lc below).wp X Tryz.prog (retQ A) h) : FWK X Tryz.prog .normal 53 #[.slice lp ln lc, .int .i64 below] h A := fwk_neat (priv := []) (loops := [{ id := 0, slots := [(4, .int .i64), (9, .int .i64)], ro := [], outs := [] }]) (joins := []) (fd := Tryz.f53) (by kernel_rfl) (by simp) (by kernel_rfl) (by kernel_rfl) hX hw
noncomputable def n3156 (b_0p : Option Addr) (b_0n b_0c : Nat) (b_1p : Option Addr) (b_1n b_1c : Nat) : T := .new 128 #[.bool false, .bool false, .bool false, .bool false, .bool false, .bool false] fun r => .loop [.int .i64 0] (fun vs => .popI .i64 vs fun n vs => .unNil vs (bif decide (n < (↑b_0n : Int)) then .need (0 <= n /\ n < (↑6 : Int)) (.store ((Addr.add { block := r, off := 0 } (n.toNat * 1)).add 0) (.bool true) (.leaf (.again [.int .i64 (IntKind.wrap .i64 (n + 1))]))) else .leaf (.brk [.int .i64 n]))) (fun vs => .popI .i64 vs fun n vs => .unNil vs (.loadB (Addr.add { block := r, off := 0 } 0) fun b => .loadB (Addr.add { block := r, off := 0 } 1) fun b_1 => .loadB (Addr.add { block := r, off := 0 } 2) fun b_2 => .loadB (Addr.add { block := r, off := 0 } 3) fun b_3 => .loadB (Addr.add { block := r, off := 0 } 4) fun b_4 => .loadB (Addr.add { block := r, off := 0 } 5) fun b_5 => .leaf (.ret (.agg #[.bool b, .bool b_1, .bool b_2, .bool b_3, .bool b_4, .bool b_5])))) (fun vs => .popI .i64 vs fun n vs => .unNil vs (.leaf (.ret (.agg #[.bool false, .bool false, .bool false, .bool false, .bool false, .bool false])))) fun x x_1 => .fail
theorem w3156 (b_0p : Option Addr) (b_0n b_0c : Nat) (b_1p : Option Addr) (b_1n b_1c : Nat) (hX : XOK X) (hw : (n3156 b_0p b_0n b_0c b_1p b_1n b_1c).wp X Tryz.prog (retQ A) h) : FWK X Tryz.prog .normal 66 #[.agg #[.slice b_0p b_0n b_0c, .slice b_1p b_1n b_1c]] h A := fwk_neat (priv := [1, 2]) (loops := [{ id := 0, slots := [(9, .int .i64)], ro := [1, 2], outs := [] }]) (joins := []) (fd := Tryz.f66) (by kernel_rfl) (by simp) (by kernel_rfl) (by kernel_rfl) hX hw
noncomputable def n3157 (n low high : Int) : T := bif decide (low <= n) then .leaf (.ret (.bool (decide (n <= high)))) else .leaf (.ret (.bool false))
theorem w3157 (n low high : Int) (hX : XOK X) (hw : (n3157 n low high).wp X Tryz.prog (retQ A) h) : FWK X Tryz.prog .normal 67 #[.int .i64 n, .int .i64 low, .int .i64 high] h A := fwk_neat (priv := []) (loops := []) (joins := []) (fd := Tryz.f67) (by kernel_rfl) (by simp) (by kernel_rfl) (by kernel_rfl) hX hw
noncomputable def n3158 (b_0p : Option Addr) (b_0n b_0c : Nat) (b_1p : Option Addr) (b_1n b_1c : Nat) (x_0p : Option Addr) (x_0n x_0c : Nat) (x_1 x_2 x_3 x_4 x_5 x_6 : Bool) (x_7 i : Int) : T := .new 131 #[.slice x_0p x_0n x_0c, .bool x_1, .bool x_2, .bool x_3, .bool x_4, .bool x_5, .bool x_6, .int .i64 x_7] fun r => .loadS (Addr.add { block := r, off := 0 } 0) fun p n c => .loadS (Addr.add { block := r, off := 0 } 0) fun p_1 n_1 c_1 => .loadS (Addr.add { block := r, off := 0 } 0) fun p_2 n_2 c_2 => .sem false (Instr.sliceAt 30 (.slice p n c) none (some (.int .i64 (↑n_1 : Int))) (some (.int .i64 (↑n_2 : Int)))) fun w => .unS w fun a n c => .sem false (Instr.buildSlice 30 1 #[(0, .int .i64 i)]) fun v => .unS v fun a_1 n_3 c_3 => .sem false (Builtin.append_ #[30, 30] 30 #[.slice a n c, .slice a_1 n_3 c_3]) fun v => .unS v fun a n c => .store ((Addr.add { block := r, off := 0 } 0).add 0) (.slice a n c) (.need (0 <= i /\ i < (↑b_1n : Int)) (.someA b_1p fun a => .loadStr ((a.add (i.toNat * 4)).add 0) fun s => .loadI .i64 ((a.add (i.toNat * 4)).add 1) fun n => .loadS ((a.add (i.toNat * 4)).add 2) fun p n_4 c => .loadS ((a.add (i.toNat * 4)).add 3) fun p_3 n_5 c_4 => .loadB ((Addr.add { block := r, off := 0 } 1).add 0) fun b => .loadB ((Addr.add { block := r, off := 0 } 1).add 1) fun b_1 => .loadB ((Addr.add { block := r, off := 0 } 1).add 2) fun b_2 => .loadB ((Addr.add { block := r, off := 0 } 1).add 3) fun b_3 => .loadB ((Addr.add { block := r, off := 0 } 1).add 4) fun b_4 => .loadB ((Addr.add { block := r, off := 0 } 1).add 5) fun b_5 => .call false 109 #[.agg #[.slice b_0p b_0n b_0c, .slice b_1p b_1n b_1c], .agg #[.string s, .int .i64 n, .slice p n_4 c, .slice p_3 n_5 c_4], .agg #[.bool b, .bool b_1, .bool b_2, .bool b_3, .bool b_4, .bool b_5]] fun v => .unB v fun b => bif b then .loadI .i64 (Addr.add { block := r, off := 0 } 7) fun n_6 => .need (0 <= i) (.store ((Addr.add { block := r, off := 0 } 7).add 0) (.int .i64 (IntKind.wrap .i64 (↑(BitVec.toNat (BitVec.ofInt 64 n_6 ||| BitVec.ofInt 64 (IntKind.wrap .i64 (1 * 2 ^ min (i.toNat) 64)))) : Int))) (.need (0 <= n /\ n < (↑6 : Int)) (.store (((Addr.add { block := r, off := 0 } 1).add (n.toNat * 1)).add 0) (.bool false) (.loadS (Addr.add { block := r, off := 0 } 0) fun p n c => .loadB (Addr.add { block := r, off := 0 } 1) fun b => .loadB (Addr.add { block := r, off := 0 } 2) fun b_6 => .loadB (Addr.add { block := r, off := 0 } 3) fun b_7 => .loadB (Addr.add { block := r, off := 0 } 4) fun b_8 => .loadB (Addr.add { block := r, off := 0 } 5) fun b_9 => .loadB (Addr.add { block := r, off := 0 } 6) fun b_10 => .loadI .i64 (Addr.add { block := r, off := 0 } 7) fun n_7 => .leaf (.ret (.agg #[.slice p n c, .bool b, .bool b_6, .bool b_7, .bool b_8, .bool b_9, .bool b_10, .int .i64 n_7])))))) else .loadS (Addr.add { block := r, off := 0 } 0) fun p n c => .loadB (Addr.add { block := r, off := 0 } 1) fun b => .loadB (Addr.add { block := r, off := 0 } 2) fun b_6 => .loadB (Addr.add { block := r, off := 0 } 3) fun b_7 => .loadB (Addr.add { block := r, off := 0 } 4) fun b_8 => .loadB (Addr.add { block := r, off := 0 } 5) fun b_9 => .loadB (Addr.add { block := r, off := 0 } 6) fun b_10 => .loadI .i64 (Addr.add { block := r, off := 0 } 7) fun n_6 => .leaf (.ret (.agg #[.slice p n c, .bool b, .bool b_6, .bool b_7, .bool b_8, .bool b_9, .bool b_10, .int .i64 n_6]))))
theorem w3158 (b_0p : Option Addr) (b_0n b_0c : Nat) (b_1p : Option Addr) (b_1n b_1c : Nat) (x_0p : Option Addr) (x_0n x_0c : Nat) (x_1 x_2 x_3 x_4 x_5 x_6 : Bool) (x_7 i : Int) (hX : XOK X) (hw : (n3158 b_0p b_0n b_0c b_1p b_1n b_1c x_0p x_0n x_0c x_1 x_2 x_3 x_4 x_5 x_6 x_7 i).wp X Tryz.prog (retQ A) h) : FWK X Tryz.prog .normal 69 #[.agg #[.slice b_0p b_0n b_0c, .slice b_1p b_1n b_1c], .agg #[.slice x_0p x_0n x_0c, .bool x_1, .bool x_2, .bool x_3, .bool x_4, .bool x_5, .bool x_6, .int .i64 x_7], .int .i64 i] h A := fwk_neat (priv := [3, 6, 7]) (loops := []) (joins := []) (fd := Tryz.f69) (by kernel_rfl) (by simp) (by kernel_rfl) (by kernel_rfl) hX hw
noncomputable def n3159 (set many : Int) : T := .loop [.slice none 0 0, .int .i64 0] (fun vs => .popS vs fun a n c vs => .popI .i64 vs fun n_1 vs => .unNil vs (bif decide (n_1 < many) then .need (0 <= n_1) (.sem false (Instr.buildSlice 68 1 #[(0, .bool (IntKind.wrap .i64 (↑(BitVec.toNat (BitVec.ofInt 64 (Int.fdiv set (2 ^ min (n_1.toNat) 64)) &&& BitVec.ofInt 64 1)) : Int) == 1))]) fun v => .unS v fun a_1 n_2 c_1 => .sem false (Builtin.append_ #[68, 68] 68 #[.slice a n c, .slice a_1 n_2 c_1]) fun v => .unS v fun a n c => .leaf (.again [.slice a n c, .int .i64 (IntKind.wrap .i64 (n_1 + 1))])) else .leaf (.brk [.slice a n c, .int .i64 n_1]))) (fun vs => .popS vs fun a n c vs => .popI .i64 vs fun n_1 vs => .unNil vs (.leaf (.ret (.slice a n c)))) (fun vs => .popS vs fun a n c vs => .popI .i64 vs fun n vs => .unNil vs (.leaf (.ret (.slice none 0 0)))) fun x x_1 => .fail
theorem w3159 (set many : Int) (hX : XOK X) (hw : (n3159 set many).wp X Tryz.prog (retQ A) h) : FWK X Tryz.prog .normal 70 #[.int .i64 set, .int .i64 many] h A := fwk_neat (priv := []) (loops := [{ id := 0, slots := [(5, .slice), (8, .int .i64)], ro := [], outs := [] }]) (joins := []) (fd := Tryz.f70) (by kernel_rfl) (by simp) (by kernel_rfl) (by kernel_rfl) hX hw
noncomputable def n3176 (some all : Int) : T := bif some == all then .leaf (.ret (.int .i64 1)) else bif some == 0 then .leaf (.ret (.int .i64 2)) else .leaf (.ret (.int .i64 0))
theorem w3176 (some all : Int) (hX : XOK X) (hw : (n3176 some all).wp X Tryz.prog (retQ A) h) : FWK X Tryz.prog .normal 95 #[.int .i64 some, .int .i64 all] h A := fwk_neat (priv := []) (loops := []) (joins := []) (fd := Tryz.f95) (by kernel_rfl) (by simp) (by kernel_rfl) (by kernel_rfl) hX hw
noncomputable def n3179 (b_0p : Option Addr) (b_0n b_0c : Nat) (b_1p : Option Addr) (b_1n b_1c : Nat) (c_0 : ByteArray) (c_1 : Int) (c_2p : Option Addr) (c_2n c_2c : Nat) (c_3p : Option Addr) (c_3n c_3c : Nat) (s_0 s_1 s_2 s_3 s_4 s_5 : Bool) : T := .new 128 #[.bool s_0, .bool s_1, .bool s_2, .bool s_3, .bool s_4, .bool s_5] fun r => .call false 141 #[.slice c_2p c_2n c_2c, .func (Fn.func 142) #[] #[.pointer (some { block := r, off := 0 })]] fun v => .unB v fun b => .leaf (.ret (.bool b))
theorem w3179 (b_0p : Option Addr) (b_0n b_0c : Nat) (b_1p : Option Addr) (b_1n b_1c : Nat) (c_0 : ByteArray) (c_1 : Int) (c_2p : Option Addr) (c_2n c_2c : Nat) (c_3p : Option Addr) (c_3n c_3c : Nat) (s_0 s_1 s_2 s_3 s_4 s_5 : Bool) (hX : XOK X) (hw : (n3179 b_0p b_0n b_0c b_1p b_1n b_1c c_0 c_1 c_2p c_2n c_2c c_3p c_3n c_3c s_0 s_1 s_2 s_3 s_4 s_5).wp X Tryz.prog (retQ A) h) : FWK X Tryz.prog .normal 109 #[.agg #[.slice b_0p b_0n b_0c, .slice b_1p b_1n b_1c], .agg #[.string c_0, .int .i64 c_1, .slice c_2p c_2n c_2c, .slice c_3p c_3n c_3c], .agg #[.bool s_0, .bool s_1, .bool s_2, .bool s_3, .bool s_4, .bool s_5]] h A := fwk_neat (priv := [3, 4]) (loops := []) (joins := []) (fd := Tryz.f109) (by kernel_rfl) (by simp) (by kernel_rfl) (by kernel_rfl) hX hw
noncomputable def n3204 (sp : Option Addr) (sn sc : Nat) (f : Value) : T := .call false 158 #[.slice sp sn sc, f] fun v => .unI .i64 v fun n => .leaf (.ret (.bool (decide (n >= 0))))
theorem w3204 (sp : Option Addr) (sn sc : Nat) (f : Value) (hX : XOK X) (hw : (n3204 sp sn sc f).wp X Tryz.prog (retQ A) h) : FWK X Tryz.prog .normal 141 #[.slice sp sn sc, f] h A := fwk_neat (priv := []) (loops := []) (joins := []) (fd := Tryz.f141) (by kernel_rfl) (by simp) (by kernel_rfl) (by kernel_rfl) hX hw
noncomputable def n3205 (gp : Option Addr) (gn gc : Nat) (z0 : Addr) : T := .call false 143 #[.slice gp gn gc, .func (Fn.func 144) #[] #[.pointer (some z0)]] fun v => .unB v fun b => .leaf (.ret (.bool !b))
theorem w3205 (gp : Option Addr) (gn gc : Nat) (z0 : Addr) (hX : XOK X) (hw : (n3205 gp gn gc z0).wp X Tryz.prog (retQ A) h) : FWK X Tryz.prog .normal 142 #[.slice gp gn gc, .pointer (some z0)] h A := fwk_neat (priv := []) (loops := []) (joins := []) (fd := Tryz.f142) (by kernel_rfl) (by simp) (by kernel_rfl) (by kernel_rfl) hX hw
noncomputable def n3206 (sp : Option Addr) (sn sc : Nat) (f : Value) : T := .call false 159 #[.slice sp sn sc, f] fun v => .unI .i64 v fun n => .leaf (.ret (.bool (decide (n >= 0))))
theorem w3206 (sp : Option Addr) (sn sc : Nat) (f : Value) (hX : XOK X) (hw : (n3206 sp sn sc f).wp X Tryz.prog (retQ A) h) : FWK X Tryz.prog .normal 143 #[.slice sp sn sc, f] h A := fwk_neat (priv := []) (loops := []) (joins := []) (fd := Tryz.f143) (by kernel_rfl) (by simp) (by kernel_rfl) (by kernel_rfl) hX hw
noncomputable def n3207 (r : Int) (z0 : Addr) : T := .need (0 <= r /\ r < (↑6 : Int)) (.loadB (z0.add (r.toNat * 1)) fun b => .leaf (.ret (.bool !b)))
theorem w3207 (r : Int) (z0 : Addr) (hX : XOK X) (hw : (n3207 r z0).wp X Tryz.prog (retQ A) h) : FWK X Tryz.prog .normal 144 #[.int .i64 r, .pointer (some z0)] h A := fwk_neat (priv := []) (loops := []) (joins := []) (fd := Tryz.f144) (by kernel_rfl) (by simp) (by kernel_rfl) (by kernel_rfl) hX hw
noncomputable def n3238 (sp : Option Addr) (sn sc : Nat) (f : Value) : T := .loop [.int .i64 0, .int .i64 0] (fun vs => .popI .i64 vs fun n vs => .popI .i64 vs fun n_1 vs => .unNil vs (bif decide (n_1 < (↑sn : Int)) then .need (0 <= n_1 /\ n_1 < (↑sn : Int)) (.someA sp fun a => .loadS (a.add (n_1.toNat * 1)) fun p n_2 c => .callv false f #[.slice p n_2 c] fun v => .unB v fun b => bif b then .leaf (.retn [.int .i64 n_1, .int .i64 n_1]) else .leaf (.again [.int .i64 n, .int .i64 (IntKind.wrap .i64 (n_1 + 1))])) else .leaf (.brk [.int .i64 n, .int .i64 n_1]))) (fun vs => .popI .i64 vs fun n vs => .popI .i64 vs fun n vs => .unNil vs (.leaf (.ret (.int .i64 (-1))))) (fun vs => .popI .i64 vs fun n vs => .popI .i64 vs fun n_1 vs => .unNil vs (.leaf (.ret (.int .i64 n)))) fun x x_1 => .fail
theorem w3238 (sp : Option Addr) (sn sc : Nat) (f : Value) (hX : XOK X) (hw : (n3238 sp sn sc f).wp X Tryz.prog (retQ A) h) : FWK X Tryz.prog .normal 158 #[.slice sp sn sc, f] h A := fwk_neat (priv := []) (loops := [{ id := 0, slots := [(4, .int .i64), (8, .int .i64)], ro := [], outs := [] }]) (joins := []) (fd := Tryz.f158) (by kernel_rfl) (by simp) (by kernel_rfl) (by kernel_rfl) hX hw
noncomputable def n3248 (b_0p : Option Addr) (b_0n b_0c : Nat) (b_1p : Option Addr) (b_1n b_1c : Nat) : T := bif decide ((↑b_0n : Int) > 6) then .leaf (.ret (.int .i64 2)) else .sem false (Instr.makeMap 281 none) fun v => .unM v fun a => .loop [.int .i64 0, .int .i64 0] (fun vs => .popI .i64 vs fun n vs => .popI .i64 vs fun n_1 vs => .unNil vs (bif decide (n_1 < (↑b_0n : Int)) then .need (0 <= n_1 /\ n_1 < (↑b_0n : Int)) (.someA b_0p fun a_1 => .loadStr (a_1.add (n_1.toNat * 1)) fun s => .call false 204 #[.map a, .string s, .int .i64 n_1] fun v => .unI .i64 v fun n_2 => bif n_2 != 0 then .leaf (.retn [.int .i64 n_2, .int .i64 n_1]) else .leaf (.again [.int .i64 n, .int .i64 (IntKind.wrap .i64 (n_1 + 1))])) else .leaf (.brk [.int .i64 n, .int .i64 n_1]))) (fun vs => .popI .i64 vs fun n vs => .popI .i64 vs fun n vs => .unNil vs (.leaf (.ret (.int .i64 0)))) (fun vs => .popI .i64 vs fun n vs => .popI .i64 vs fun n_1 vs => .unNil vs (.leaf (.ret (.int .i64 n)))) fun x x_1 => .fail
theorem w3248 (b_0p : Option Addr) (b_0n b_0c : Nat) (b_1p : Option Addr) (b_1n b_1c : Nat) (hX : XOK X) (hw : (n3248 b_0p b_0n b_0c b_1p b_1n b_1c).wp X Tryz.prog (retQ A) h) : FWK X Tryz.prog .normal 201 #[.agg #[.slice b_0p b_0n b_0c, .slice b_1p b_1n b_1c]] h A := fwk_neat (priv := [1]) (loops := [{ id := 0, slots := [(2, .int .i64), (17, .int .i64)], ro := [1], outs := [] }]) (joins := []) (fd := Tryz.f201) (by kernel_rfl) (by simp) (by kernel_rfl) (by kernel_rfl) hX hw
noncomputable def n3249 (b_0p : Option Addr) (b_0n b_0c : Nat) (b_1p : Option Addr) (b_1n b_1c : Nat) : T := bif decide ((↑b_1n : Int) > 5) then .leaf (.ret (.int .i64 2)) else .sem false (Instr.makeMap 281 none) fun v => .unM v fun a => .loop [.int .i64 0, .int .i64 0] (fun vs => .popI .i64 vs fun n vs => .popI .i64 vs fun n_1 vs => .unNil vs (bif decide (n_1 < (↑b_1n : Int)) then .need (0 <= n_1 /\ n_1 < (↑b_1n : Int)) (.someA b_1p fun a_1 => .loadStr ((a_1.add (n_1.toNat * 4)).add 0) fun s => .loadI .i64 ((a_1.add (n_1.toNat * 4)).add 1) fun n_2 => .loadS ((a_1.add (n_1.toNat * 4)).add 2) fun p n_3 c => .loadS ((a_1.add (n_1.toNat * 4)).add 3) fun p_1 n_4 c_1 => .call false 204 #[.map a, .string s, .int .i64 n_1] fun v => .unI .i64 v fun n_5 => bif n_5 != 0 then .leaf (.retn [.int .i64 n_5, .int .i64 n_1]) else .call false 67 #[.int .i64 n_2, .int .i64 0, .int .i64 (IntKind.wrap .i64 ((↑b_0n : Int) - 1))] fun v => .unB v fun b => bif !b then .leaf (.retn [.int .i64 6, .int .i64 n_1]) else .call false 205 #[.agg #[.slice b_0p b_0n b_0c, .slice b_1p b_1n b_1c], .slice p n_3 c] fun v => .unI .i64 v fun n_6 => bif n_6 != 0 then .leaf (.retn [.int .i64 n_6, .int .i64 n_1]) else .call false 53 #[.slice p_1 n_4 c_1, .int .i64 (↑b_1n : Int)] fun v => .unI .i64 v fun n_7 => bif n_7 != 0 then .leaf (.retn [.int .i64 n_7, .int .i64 n_1]) else .leaf (.again [.int .i64 n, .int .i64 (IntKind.wrap .i64 (n_1 + 1))])) else .leaf (.brk [.int .i64 n, .int .i64 n_1]))) (fun vs => .popI .i64 vs fun n vs => .popI .i64 vs fun n vs => .unNil vs (.leaf (.ret (.int .i64 0)))) (fun vs => .popI .i64 vs fun n vs => .popI .i64 vs fun n_1 vs => .unNil vs (.leaf (.ret (.int .i64 n)))) fun x x_1 => .fail
theorem w3249 (b_0p : Option Addr) (b_0n b_0c : Nat) (b_1p : Option Addr) (b_1n b_1c : Nat) (hX : XOK X) (hw : (n3249 b_0p b_0n b_0c b_1p b_1n b_1c).wp X Tryz.prog (retQ A) h) : FWK X Tryz.prog .normal 202 #[.agg #[.slice b_0p b_0n b_0c, .slice b_1p b_1n b_1c]] h A := fwk_neat (priv := [1, 5]) (loops := [{ id := 0, slots := [(2, .int .i64), (19, .int .i64)], ro := [1], outs := [] }]) (joins := []) (fd := Tryz.f202) (by kernel_rfl) (by simp) (by kernel_rfl) (by kernel_rfl) hX hw
noncomputable def n3250 (b_0p : Option Addr) (b_0n b_0c : Nat) (b_1p : Option Addr) (b_1n b_1c : Nat) : T := .loop [.int .i64 0, .int .i64 0] (fun vs => .popI .i64 vs fun n vs => .popI .i64 vs fun n_1 vs => .unNil vs (bif decide (n_1 < (↑b_1n : Int)) then .loop [.int .i64 n, .int .i64 0] (fun vs => .popI .i64 vs fun n vs => .popI .i64 vs fun n_2 vs => .unNil vs (bif decide (n_2 < (↑b_1n : Int)) then .need (0 <= n_2 /\ n_2 < (↑b_1n : Int)) (.someA b_1p fun a => .loadStr ((a.add (n_2.toNat * 4)).add 0) fun s => .loadI .i64 ((a.add (n_2.toNat * 4)).add 1) fun n_3 => .loadS ((a.add (n_2.toNat * 4)).add 2) fun p n_4 c => .loadS ((a.add (n_2.toNat * 4)).add 3) fun p n_5 c => .call false 50 #[.slice p n_5 c] fun v => .unI .i64 v fun n_6 => bif IntKind.wrap .i64 (↑(BitVec.toNat (BitVec.ofInt 64 n_6 &&& ~~~BitVec.ofInt 64 n)) : Int) == 0 then .need (0 <= n_2) (.leaf (.again [.int .i64 (IntKind.wrap .i64 (↑(BitVec.toNat (BitVec.ofInt 64 n ||| BitVec.ofInt 64 (IntKind.wrap .i64 (1 * 2 ^ min (n_2.toNat) 64)))) : Int)), .int .i64 (IntKind.wrap .i64 (n_2 + 1))])) else .leaf (.again [.int .i64 n, .int .i64 (IntKind.wrap .i64 (n_2 + 1))])) else .leaf (.brk [.int .i64 n, .int .i64 n_2]))) (fun vs => .popI .i64 vs fun n vs => .popI .i64 vs fun n_2 vs => .unNil vs (.leaf (.again [.int .i64 n, .int .i64 (IntKind.wrap .i64 (n_1 + 1))]))) (fun vs => .popI .i64 vs fun n vs => .popI .i64 vs fun n_2 vs => .unNil vs (.leaf (.retn [.int .i64 n, .int .i64 n_1]))) fun x x_1 => .fail else .leaf (.brk [.int .i64 n, .int .i64 n_1]))) (fun vs => .popI .i64 vs fun n vs => .popI .i64 vs fun n_1 vs => .unNil vs (.need (0 <= (↑b_1n : Int)) (bif n != IntKind.wrap .i64 (IntKind.wrap .i64 (1 * 2 ^ min (Int.toNat (↑b_1n : Int)) 64) - 1) then .leaf (.ret (.int .i64 8)) else .leaf (.ret (.int .i64 0))))) (fun vs => .popI .i64 vs fun n vs => .popI .i64 vs fun n vs => .unNil vs (.leaf (.ret (.int .i64 0)))) fun x x_1 => .fail
theorem w3250 (b_0p : Option Addr) (b_0n b_0c : Nat) (b_1p : Option Addr) (b_1n b_1c : Nat) (hX : XOK X) (hw : (n3250 b_0p b_0n b_0c b_1p b_1n b_1c).wp X Tryz.prog (retQ A) h) : FWK X Tryz.prog .normal 203 #[.agg #[.slice b_0p b_0n b_0c, .slice b_1p b_1n b_1c]] h A := fwk_neat (priv := [1, 5]) (loops := [{ id := 2, slots := [(3, .int .i64), (16, .int .i64)], ro := [1], outs := [] }, { id := 0, slots := [(3, .int .i64), (10, .int .i64)], ro := [1], outs := [] }]) (joins := []) (fd := Tryz.f203) (by kernel_rfl) (by simp) (by kernel_rfl) (by kernel_rfl) hX hw
noncomputable def n3251 (n : Option Nat) (s : ByteArray) (at0 : Int) : T := .call false 206 #[.string s] fun v => .unB v fun b => bif !b then .leaf (.ret (.int .i64 4)) else .sem false (Instr.lookup 281 (.map n) (.string s) true) fun v => .unTup v fun l => .unCons l fun v vs => .unI .i64 v fun n_1 => .unCons vs fun v vs => .unB v fun b => .unNil vs (bif b then .leaf (.ret (.int .i64 5)) else .sem false (Sem.bind (Instr.mapUpdate 281 (.map n) (.string s) (.int .i64 at0)) fun __r => pure (.tuple #[])) fun x => .leaf (.ret (.int .i64 0)))
theorem w3251 (n : Option Nat) (s : ByteArray) (at0 : Int) (hX : XOK X) (hw : (n3251 n s at0).wp X Tryz.prog (retQ A) h) : FWK X Tryz.prog .normal 204 #[.map n, .string s, .int .i64 at0] h A := fwk_neat (priv := []) (loops := []) (joins := []) (fd := Tryz.f204) (by kernel_rfl) (by simp) (by kernel_rfl) (by kernel_rfl) hX hw
noncomputable def n3252 (b_0p : Option Addr) (b_0n b_0c : Nat) (b_1p : Option Addr) (b_1n b_1c : Nat) (lp : Option Addr) (ln lc : Nat) : T := bif decide ((↑ln : Int) > 3) then .leaf (.ret (.int .i64 2)) else .loop [.int .i64 0, .int .i64 0] (fun vs => .popI .i64 vs fun n vs => .popI .i64 vs fun n_1 vs => .unNil vs (bif decide (n_1 < (↑ln : Int)) then .need (0 <= n_1 /\ n_1 < (↑ln : Int)) (.someA lp fun a => .loadS (a.add (n_1.toNat * 1)) fun p n_2 c => bif decide ((↑n_2 : Int) > 3) then .leaf (.retn [.int .i64 2, .int .i64 n_1]) else .call false 53 #[.slice p n_2 c, .int .i64 (↑b_0n : Int)] fun v => .unI .i64 v fun n_3 => bif n_3 != 0 then .leaf (.retn [.int .i64 n_3, .int .i64 n_1]) else .leaf (.again [.int .i64 n, .int .i64 (IntKind.wrap .i64 (n_1 + 1))])) else .leaf (.brk [.int .i64 n, .int .i64 n_1]))) (fun vs => .popI .i64 vs fun n vs => .popI .i64 vs fun n vs => .unNil vs (.leaf (.ret (.int .i64 0)))) (fun vs => .popI .i64 vs fun n vs => .popI .i64 vs fun n_1 vs => .unNil vs (.leaf (.ret (.int .i64 n)))) fun x x_1 => .fail
theorem w3252 (b_0p : Option Addr) (b_0n b_0c : Nat) (b_1p : Option Addr) (b_1n b_1c : Nat) (lp : Option Addr) (ln lc : Nat) (hX : XOK X) (hw : (n3252 b_0p b_0n b_0c b_1p b_1n b_1c lp ln lc).wp X Tryz.prog (retQ A) h) : FWK X Tryz.prog .normal 205 #[.agg #[.slice b_0p b_0n b_0c, .slice b_1p b_1n b_1c], .slice lp ln lc] h A := fwk_neat (priv := [2]) (loops := [{ id := 0, slots := [(4, .int .i64), (13, .int .i64)], ro := [2], outs := [] }]) (joins := []) (fd := Tryz.f205) (by kernel_rfl) (by simp) (by kernel_rfl) (by kernel_rfl) hX hw
noncomputable def n3253 (s : ByteArray) : T := .sem false (Builtin.len_ #[9] 3 #[.string s]) fun v => .unI .i64 v fun n => .call false 67 #[.int .i64 n, .int .i64 1, .int .i64 10] fun v => .unB v fun b => bif !b then .leaf (.ret (.bool false)) else .sem false (Instr.index 9 (.string s) (.int .i64 0)) fun v => .unI .u8 v fun n => bif decide (n < 97) then .leaf (.ret (.bool false)) else .sem false (Instr.index 9 (.string s) (.int .i64 0)) fun v => .unI .u8 v fun n => bif decide (n > 122) then .leaf (.ret (.bool false)) else .sem false (convert 9 285 (.string s)) fun v => .unS v fun a n c => .call false 207 #[.slice a n c, .func (Fn.func 208) #[] #[]] fun v => .unB v fun b => .leaf (.ret (.bool !b))
theorem w3253 (s : ByteArray) (hX : XOK X) (hw : (n3253 s).wp X Tryz.prog (retQ A) h) : FWK X Tryz.prog .normal 206 #[.string s] h A := fwk_neat (priv := []) (loops := []) (joins := []) (fd := Tryz.f206) (by kernel_rfl) (by simp) (by kernel_rfl) (by kernel_rfl) hX hw
noncomputable def n3254 (c : Int) : T := bif decide (c < 97) then bif decide (c < 48) then .leaf (.ret (.bool true)) else .leaf (.ret (.bool (decide (c > 57)))) else bif decide (c > 122) then bif decide (c < 48) then .leaf (.ret (.bool true)) else .leaf (.ret (.bool (decide (c > 57)))) else .leaf (.ret (.bool false))
theorem w3254 (c : Int) (hX : XOK X) (hw : (n3254 c).wp X Tryz.prog (retQ A) h) : FWK X Tryz.prog .normal 208 #[.int .u8 c] h A := fwk_neat (priv := []) (loops := []) (joins := []) (fd := Tryz.f208) (by kernel_rfl) (by simp) (by kernel_rfl) (by kernel_rfl) hX hw
end Go.Proofs.YtgljffachdhigaaGreatDoor
end
section
namespace Go.Proofs.YtgljffachdhigaaGreatDoor
open Go Go.TM Go.Proofs Go.TM.Rv
attribute [local irreducible] T.wp CV FWK
theorem c3150 {h : LH} {p : Option Addr} {n c : Nat} {l : List Int} (hl : Sl IntE 1 h.get p n l) (hin : ∀ v ∈ l, 0 <= v /\ v < 6) : Pu Tryz.prog 50 #[.slice p n c] h (.int .i64 (bitsT l : Nat)) := by
 refine w3150 _ _ _ X0_ok ?_
 unfold n3150
 have hn := hl.1
 have hb := hl.2.1
 refine t_loop (fun m vs h' => h' = h /\ ∃ i : Nat, vs = [.int .i64 ((bitsT (l.take i) : Nat) : Int), .int .i64 i] /\ i <= n /\ m = n - i) ⟨rfl, 0, rfl, Nat.zero_le _, rfl⟩ ?_
 rintro Y m vs _ hY ⟨rfl, i, rfl, hi, rfl⟩
 refine gZ ?_
 refine t_if (fun e1 => ?_) (fun e1 => ?_)
 ·obtain ⟨x, a, hx, ha, e2⟩ := hl.at (i := i) (by omega)
  unfold IntE at e2
  have hv := hin x (List.mem_of_getElem? hx)
  have hlt : bitsT (l.take i) < 64 := bits_lt (k := 6) fun v hm => by have := hin v (List.mem_of_mem_take hm); omega
  obtain ⟨k, rfl⟩ : ∃ k : Nat, x = (k : Int) := ⟨x.toNat, by omega⟩
  have eo := or_shl (n := k) hlt (by omega)
  refine gZ ?_
  rw [eo]
  refine t_again (hY (n - (i + 1)) _ _ (by omega) ⟨rfl, i + 1, ?_, by omega, rfl⟩)
  rw [wrap_id (n := (i : Int) + 1) (by omega) (by omega), bits_step hx, Int.toNat_natCast]; rfl
 ·refine gZ ?_
  refine t_ret ⟨?_, rfl⟩
  rw [List.take_of_length_le (by omega)]
theorem c3157 {h : LH} (n a b : Int) : Pu Tryz.prog 67 #[.int .i64 n, .int .i64 a, .int .i64 b] h (.bool (isIn n a b)) := by
 refine w3157 _ _ _ X0_ok ?_
 unfold n3157
 refine t_if (fun e => ?_) (fun e => ?_) <;> refine t_ret ⟨?_, rfl⟩ <;> simp [isIn, e]
theorem isIn_true {n a b : Int} (h : a <= n /\ n <= b) : isIn n a b = true := by unfold isIn; simp [h]
theorem c3153 {h : LH} {p : Option Addr} {n c : Nat} {l : List Int} (hl : Sl IntE 1 h.get p n l) {b : Int} (hb : 0 <= b /\ b < 100) (hp : l.Pairwise (· < ·)) (hin : ∀ v ∈ l, 0 <= v /\ v < b) : Pu Tryz.prog 53 #[.slice p n c, .int .i64 b] h (.int .i64 0) := by
 refine w3153 _ _ _ _ X0_ok ?_
 unfold n3153
 have hn := hl.1
 have hbb := hl.2.1
 rw [wrap_id (n := b - 1) (by omega) (by omega)]
 refine t_loop (fun m vs h' => h = h' /\ ∃ i : Nat, vs = [.int .i64 0, .int .i64 i] /\ i <= n /\ m = n - i) ⟨rfl, 0, rfl, Nat.zero_le _, rfl⟩ ?_
 rintro Y m vs _ hY ⟨rfl, i, rfl, hi, rfl⟩
 refine gZ ?_
 refine t_if (fun e1 => ?_) (fun e1 => ?_)
 ·obtain ⟨x, a, hx, ha, e2⟩ := hl.at (i := i) (by omega)
  unfold IntE at e2
  have hv := hin x (List.mem_of_getElem? hx)
  refine gZ ?_
  refine t_pu (c3157 _ _ _) ?_
  rw [isIn_true (by omega)]
  refine gZ ?_
  refine t_cond (fun e => by cases e) (fun _ => ?_)
  have next : Y [.int .i64 0, .int .i64 (IntKind.wrap .i64 ((i : Int) + 1))] h := hY (n - (i + 1)) _ _ (by omega) ⟨rfl, i + 1, by rw [wrap_id (by omega) (by omega)]; rfl, by omega, rfl⟩
  refine t_if (fun e3 => ?_) (fun e3 => ?_)
  ·obtain ⟨y, a', hy, ha', e4⟩ := hl.at (i := i - 1) (by omega)
   obtain rfl : a = a' := Option.some.inj (ha.symm.trans ha')
   unfold IntE at e4
   have ew : IntKind.wrap .i64 ((i : Int) - 1) = ((i - 1 : Nat) : Int) := by rw [wrap_id (by omega) (by omega)]; omega
   rw [ew]
   have hlt : y < x := by
    obtain ⟨h1, h2⟩ := List.getElem?_eq_some_iff.1 hx
    obtain ⟨h3, h4⟩ := List.getElem?_eq_some_iff.1 hy
    have := List.pairwise_iff_getElem.1 hp (i - 1) i h3 h1 (by omega)
    rw [h4, h2] at this
    exact this
   refine gZ ?_
   refine t_if (fun e => by omega) (fun _ => ?_)
   exact t_again next
  ·exact t_again next
 ·refine gZ ?_
  exact t_ret ⟨rfl, rfl⟩
theorem c3176 {h : LH} (some_ all : Nat) : Pu Tryz.prog 95 #[.int .i64 (some_ : Int), .int .i64 (all : Int)] h (.int .i64 (sayT some_ all)) := by
 refine w3176 _ _ X0_ok ?_
 unfold n3176
 unfold sayT
 refine t_cond (fun e => ?_) (fun e => ?_)
 ·have e' : some_ = all := by have := eq_of_beq e; omega
  rw [if_pos e']
  exact t_ret ⟨rfl, rfl⟩
 ·have e' : ¬ some_ = all := fun hh => by subst hh; simp at e
  rw [if_neg e']
  refine t_cond (fun e => ?_) (fun e => ?_)
  ·have e' : some_ = 0 := by have := eq_of_beq e; omega
   rw [if_pos e']
   exact t_ret ⟨rfl, rfl⟩
  ·have e' : ¬ some_ = 0 := fun hh => by subst hh; simp at e
   rw [if_neg e']
   exact t_ret ⟨rfl, rfl⟩
theorem p3134 {h : LH} {p : Option Addr} {n c : Nat} {l : List Int} {fv : Value} {g : Int -> Bool} (hl : Sl IntE 1 h.get p n l) (hf : ∀ x ∈ l, CV X0 Tryz.prog fv #[.int .i64 x] h fun r h' => r = .bool (g x) /\ h' = h) :
  Pu Tryz.prog 159 #[.slice p n c, fv] h (.int .i64 (placeF g 0 l)) := by
 refine w3134 _ _ _ _ X0_ok ?_
 unfold n3134
 have hn := hl.1
 have hb := hl.2.1
 refine t_loop (fun m vs h' => h' = h /\ ∃ i : Nat, vs = [.int .i64 0, .int .i64 i] /\ i <= n /\ m = n - i /\ placeF g 0 l = placeF g i (l.drop i)) ⟨rfl, 0, rfl, Nat.zero_le _, rfl, rfl⟩ ?_
 rintro Y m vs _ hY ⟨rfl, i, rfl, hi, rfl, hc⟩
 refine gZ ?_
 refine t_if (fun e1 => ?_) (fun e1 => ?_)
 ·obtain ⟨x, a, hx, ha, e2⟩ := hl.at (i := i) (by omega)
  unfold IntE at e2
  refine gZ ?_
  refine t_callv (hf x (List.mem_of_getElem? hx)) ?_
  rintro _ _ ⟨rfl, rfl⟩
  refine gZ ?_
  rw [drop_of hx, placeF] at hc
  refine t_cond (fun e3 => ?_) (fun e3 => ?_)
  ·refine gZ ?_
   refine t_ret ⟨?_, rfl⟩
   rw [hc, if_pos e3]
  ·refine t_again (hY (n - (i + 1)) _ _ (by omega) ⟨rfl, i + 1, ?_, by omega, rfl, ?_⟩)
   ·rw [wrap_id (by omega) (by omega)]; rfl
   ·rw [hc, if_neg (by simp [e3])]
 ·refine gZ ?_
  refine t_ret ⟨?_, rfl⟩
  rw [hc, List.drop_eq_nil_of_le (by omega)]; rfl
theorem c3206 {h : LH} {p : Option Addr} {n c : Nat} {l : List Int} {fv : Value} {g : Int -> Bool} (hl : Sl IntE 1 h.get p n l) (hf : ∀ x ∈ l, CV X0 Tryz.prog fv #[.int .i64 x] h fun r h' => r = .bool (g x) /\ h' = h) :
  Pu Tryz.prog 143 #[.slice p n c, fv] h (.bool (l.any g)) := by
 refine w3206 _ _ _ _ X0_ok ?_
 unfold n3206
 refine t_pu (p3134 hl hf) ?_
 refine gZ ?_
 refine t_ret ⟨?_, rfl⟩
 rw [placeF_ge]
theorem c3238 {h : LH} {p : Option Addr} {n c : Nat} {l : List (List Int)} {fv : Value} {g : List Int -> Bool} (hl : Sl LsE 1 h.get p n l) (hf : ∀ x ∈ l, ∀ q m k, Sl IntE 1 h.get q m x -> CV X0 Tryz.prog fv #[.slice q m k] h fun r h' => r = .bool (g x) /\ h' = h) :
  Pu Tryz.prog 158 #[.slice p n c, fv] h (.int .i64 (placeF g 0 l)) := by
 refine w3238 _ _ _ _ X0_ok ?_
 unfold n3238
 have hn := hl.1
 have hb := hl.2.1
 refine t_loop (fun m vs h' => h' = h /\ ∃ i : Nat, vs = [.int .i64 0, .int .i64 i] /\ i <= n /\ m = n - i /\ placeF g 0 l = placeF g i (l.drop i)) ⟨rfl, 0, rfl, Nat.zero_le _, rfl, rfl⟩ ?_
 rintro Y m vs _ hY ⟨rfl, i, rfl, hi, rfl, hc⟩
 refine gZ ?_
 refine t_if (fun e1 => ?_) (fun e1 => ?_)
 ·obtain ⟨x, a, hx, ha, q, m, k, e2, e4⟩ := hl.at (i := i) (by omega)
  refine gZ ?_
  refine t_callv (hf x (List.mem_of_getElem? hx) q m k e4) ?_
  rintro _ _ ⟨rfl, rfl⟩
  refine gZ ?_
  rw [drop_of hx, placeF] at hc
  refine t_cond (fun e3 => ?_) (fun e3 => ?_)
  ·refine gZ ?_
   refine t_ret ⟨?_, rfl⟩
   rw [hc, if_pos e3]
  ·refine t_again (hY (n - (i + 1)) _ _ (by omega) ⟨rfl, i + 1, ?_, by omega, rfl, ?_⟩)
   ·rw [wrap_id (by omega) (by omega)]; rfl
   ·rw [hc, if_neg (by simp [e3])]
 ·refine gZ ?_
  refine t_ret ⟨?_, rfl⟩
  rw [hc, List.drop_eq_nil_of_le (by omega)]; rfl
theorem c3204 {h : LH} {p : Option Addr} {n c : Nat} {l : List (List Int)} {fv : Value} {g : List Int -> Bool} (hl : Sl LsE 1 h.get p n l) (hf : ∀ x ∈ l, ∀ q m k, Sl IntE 1 h.get q m x -> CV X0 Tryz.prog fv #[.slice q m k] h fun r h' => r = .bool (g x) /\ h' = h) :
  Pu Tryz.prog 141 #[.slice p n c, fv] h (.bool (l.any g)) := by
 refine w3204 _ _ _ _ X0_ok ?_
 unfold n3204
 refine t_pu (c3238 hl hf) ?_
 refine gZ ?_
 refine t_ret ⟨?_, rfl⟩
 rw [placeF_ge]
def SixAt (h : Cells) (a : Addr) (s : List Bool) : Prop := s.length = 6 /\ ∀ (j : Nat) b, s[j]? = some b -> h.cell? (a.add j) = some (.bool b)
theorem c3207 {h : LH} {z0 : Addr} {s : List Bool} (hs : SixAt h.get z0 s) {r : Int} (hr : 0 <= r /\ r < 6) : Pu Tryz.prog 144 #[.int .i64 r, .pointer (some z0)] h (.bool (!s.getD r.toNat false)) := by
 refine w3207 _ _ X0_ok ?_
 unfold n3207
 have hlt : r.toNat < s.length := by rw [hs.1]; omega
 have e := hs.2 r.toNat s[r.toNat] (List.getElem?_eq_getElem hlt)
 have e1 : h.get.cell? (z0.add (r.toNat * 1)) = some (.bool (s.getD r.toNat false)) := by
  rw [Nat.mul_one, e, List.getD_eq_getElem?_getD, List.getElem?_eq_getElem hlt]; rfl
 have hr' : 0 <= r /\ r < ((6 : Nat) : Int) := by omega
 refine gZ ?_
 exact t_ret ⟨rfl, rfl⟩
theorem any_not_all {α : Type} (f : α -> Bool) : ∀ l : List α, (!(l.any fun r => !f r)) = l.all f
 | [] => rfl
 | v :: l => by
  have := any_not_all f l
  rw [List.any_cons, List.all_cons, <- this]
  cases f v <;> simp
theorem c3205 {h : LH} {z0 : Addr} {s : List Bool} (hs : SixAt h.get z0 s) {p : Option Addr} {n c : Nat} {l : List Int} (hl : Sl IntE 1 h.get p n l) (hin : ∀ v ∈ l, 0 <= v /\ v < 6) : Pu Tryz.prog 142 #[.slice p n c, .pointer (some z0)] h (.bool (l.all fun r => s.getD r.toNat false)) := by
 refine w3205 _ _ _ _ X0_ok ?_
 unfold n3205
 refine t_pu (c3206 hl (g := fun r => !s.getD r.toNat false) (fun x hx => ?_)) ?_
 ·exact CV.mono (cv_fw X0_ok (by rfl) (c3207 hs (hin x hx))) (by rintro v h' ⟨rfl, rfl⟩; exact ⟨rfl, rfl⟩)
 refine gZ ?_
 refine t_ret ⟨?_, rfl⟩
 rw [any_not_all]
theorem c3179 {h : LH} {p1 p2 p3 p4 : Option Addr} {n1 k1 n2 k2 n3 k3 n4 k4 : Nat} {nm : ByteArray} {ag : Int} {gs : List (List Int)} (hg : Sl LsE 1 h.get p3 n3 gs) (hin : ∀ g ∈ gs, ∀ v ∈ g, 0 <= v /\ v < 6) (s0 s1 s2 s3 s4 s5 : Bool) :
  Gr Tryz.prog 109 #[.agg #[.slice p1 n1 k1, .slice p2 n2 k2], .agg #[.string nm, .int .i64 ag, .slice p3 n3 k3, .slice p4 n4 k4], .agg #[.bool s0, .bool s1, .bool s2, .bool s3, .bool s4, .bool s5]] h fun r _ => r = .bool (gs.any fun g => g.all fun r => [s0, s1, s2, s3, s4, s5].getD r.toNat false) := by
 refine w3179 _ _ _ _ _ _ _ _ _ _ _ _ _ _ _ _ _ _ _ _ X0_ok ?_
 unfold n3179
 refine t_new fun r hr0 => ?_
 have le1 : h.le { h with get := h.get.upd r (true, .cells #[.bool s0, .bool s1, .bool s2, .bool s3, .bool s4, .bool s5] 128 (0, 0)) } := LH.upd_le hr0
 have y0 : SixAt (h.get.upd r (true, .cells #[.bool s0, .bool s1, .bool s2, .bool s3, .bool s4, .bool s5] 128 (0, 0))) ⟨r, 0, none⟩ [s0, s1, s2, s3, s4, s5] := ⟨rfl, fun j b hb => bools_cell (s := [s0, s1, s2, s3, s4, s5]) (Cells.upd_self _ _ _) hb⟩
 generalize hh1 : ({ h with get := h.get.upd r (true, .cells #[.bool s0, .bool s1, .bool s2, .bool s3, .bool s4, .bool s5] 128 (0, 0)) } : LH) = h1 at *
 have y1 : SixAt h1.get ⟨r, 0, none⟩ [s0, s1, s2, s3, s4, s5] := by rw [<- hh1]; exact y0
 refine t_pu (c3204 (hg.le LsE.grow le1.1) (g := fun g => g.all fun r => [s0, s1, s2, s3, s4, s5].getD r.toNat false) (fun x hx q m k hq => ?_)) ?_
 ·exact CV.mono (cv_fw X0_ok (by rfl) (c3205 y1 hq (hin x hx))) (by rintro v h' ⟨rfl, rfl⟩; exact ⟨rfl, rfl⟩)
 refine gZ ?_
 exact t_ret ⟨le1, rfl⟩
end Go.Proofs.YtgljffachdhigaaGreatDoor
end
section
namespace Go.TM.Rv
open Go Go.Conc Go.TM
variable {P : Program} {E : Halt -> Cells -> Prop} {κ : Type} [DecidableEq κ] {enc : κ -> Value}
def updK (F : κ -> Int) (k : κ) (v : Int) : κ -> Int := fun x => if x = k then v else F x
structure MapK (enc : κ -> Value) (es : Array MapEntry) (c : Nat) (ks : List κ) (F : κ -> Int) : Prop where
 pairs : es.toList.map (fun e => (e.key, e.val)) = ks.map fun k => (enc k, Value.int .i64 (F k))
 nodup : ks.Nodup
 born : (es.toList.map (·.born)).Nodup
 lt : ∀ e ∈ es.toList, e.born < c
omit [DecidableEq κ] in
theorem MapK.nil {F : κ -> Int} : MapK enc #[] 0 [] F := ⟨rfl, List.nodup_nil, List.nodup_nil, fun e he => by simp at he⟩
omit [DecidableEq κ] in
theorem MapK.at {es : Array MapEntry} {c : Nat} {ks : List κ} {F : κ -> Int} (M : MapK enc es c ks F) {j : Nat} {e : MapEntry} (he : es.toList[j]? = some e) : ∃ k, ks[j]? = some k /\ e.key = enc k /\ e.val = .int .i64 (F k) := by
 have h := congrArg (fun l => l[j]?) M.pairs
 simp only [List.getElem?_map, he, Option.map_some] at h
 cases hk : ks[j]? with
 | none => rw [hk] at h; cases h
 | some k =>
  rw [hk] at h
  simp only [Option.map_some, Option.some.injEq, Prod.mk.injEq] at h
  exact ⟨k, rfl, h.1, h.2⟩
omit [DecidableEq κ] in
theorem MapK.of {es : Array MapEntry} {c : Nat} {ks : List κ} {F : κ -> Int} (M : MapK enc es c ks F) {j : Nat} {k : κ} (hk : ks[j]? = some k) : ∃ e, es.toList[j]? = some e /\ e.key = enc k /\ e.val = .int .i64 (F k) := by
 have h := congrArg (fun l => l[j]?) M.pairs
 simp only [List.getElem?_map, hk, Option.map_some] at h
 cases he : es.toList[j]? with
 | none => rw [he] at h; cases h
 | some e =>
  rw [he] at h
  simp only [Option.map_some, Option.some.injEq, Prod.mk.injEq] at h
  exact ⟨e, rfl, h.1, h.2⟩
omit [DecidableEq κ] in
theorem MapK.mem {es : Array MapEntry} {c : Nat} {ks : List κ} {F : κ -> Int} (M : MapK enc es c ks F) {e : MapEntry} (he : e ∈ es.toList) : ∃ k, k ∈ ks /\ e.key = enc k /\ e.val = .int .i64 (F k) := by
 obtain ⟨j, hj⟩ := List.mem_iff_getElem?.1 he
 obtain ⟨k, h1, h2⟩ := M.at hj
 exact ⟨k, List.mem_of_getElem? h1, h2⟩
omit [DecidableEq κ] in
theorem nodup_idx {ks : List κ} (h : ks.Nodup) {i j : Nat} {k : κ} (hi : ks[i]? = some k) (hj : ks[j]? = some k) : i = j := by
 obtain ⟨h1, h2⟩ := List.getElem?_eq_some_iff.1 hi
 obtain ⟨h3, h4⟩ := List.getElem?_eq_some_iff.1 hj
 have hp := List.pairwise_iff_getElem.1 h
 rcases Nat.lt_trichotomy i j with e | e | e
 ·exact absurd (h2.trans h4.symm) (hp i j h1 h3 e)
 ·exact e
 ·exact absurd (h4.trans h2.symm) (hp j i h3 h1 e)
theorem MapK.modify {es es' : Array MapEntry} {c : Nat} {ks : List κ} {F : κ -> Int} (M : MapK enc es c ks F) {j : Nat} {k : κ} {v : Int} {f : MapEntry -> MapEntry} (hj : ks[j]? = some k)
  (hes : ∀ i : Nat, es'[i]? = if i = j then (es[i]?).map f else es[i]?) (hf : ∀ e, es[j]? = some e -> (f e).key = enc k /\ (f e).val = .int .i64 v /\ (f e).born = e.born) : MapK enc es' c ks (updK F k v) := by
 have hes' : ∀ i : Nat, es'.toList[i]? = if i = j then (es.toList[i]?).map f else es.toList[i]? := fun i => by simpa [Array.getElem?_toList] using hes i
 refine ⟨List.ext_getElem? fun i => ?_, M.nodup, ?_, ?_⟩
 ·have hp := congrArg (fun l => l[i]?) M.pairs
  simp only [List.getElem?_map] at hp ⊢
  rw [hes']
  by_cases e : i = j
  ·subst e
   rw [if_pos rfl, hj]
   obtain ⟨e0, h1, _⟩ := M.of hj
   obtain ⟨h2, h3, _⟩ := hf e0 (by rw [<- Array.getElem?_toList]; exact h1)
   rw [h1]
   simp [h2, h3, updK]
  ·rw [if_neg e, hp]
   cases hk : ks[i]? with
   | none => rfl
   | some x =>
    have hne : x ≠ k := fun hx => e (nodup_idx M.nodup (hx ▸ hk) hj)
    simp [updK, hne]
 ·have : es'.toList.map (·.born) = es.toList.map (·.born) := by
   refine List.ext_getElem? fun i => ?_
   simp only [List.getElem?_map]
   rw [hes']
   by_cases e : i = j
   ·subst e
    rw [if_pos rfl]
    cases h1 : es.toList[i]? with
    | none => rfl
    | some e0 =>
     obtain ⟨_, _, h2⟩ := hf e0 (by rw [<- Array.getElem?_toList]; exact h1)
     simp [h2]
   ·rw [if_neg e]
  rw [this]; exact M.born
 ·intro e he
  obtain ⟨i, hi⟩ := List.mem_iff_getElem?.1 he
  rw [hes'] at hi
  by_cases e1 : i = j
  ·subst e1
   rw [if_pos rfl] at hi
   cases h1 : es.toList[i]? with
   | none => rw [h1] at hi; cases hi
   | some e0 =>
    rw [h1] at hi
    simp only [Option.map_some, Option.some.injEq] at hi
    obtain ⟨_, _, h2⟩ := hf e0 (by rw [<- Array.getElem?_toList]; exact h1)
    rw [<- hi, h2]
    exact M.lt e0 (List.mem_of_getElem? h1)
  ·rw [if_neg e1] at hi
   exact M.lt e (List.mem_of_getElem? hi)
theorem MapK.push {es : Array MapEntry} {c : Nat} {ks : List κ} {F : κ -> Int} (M : MapK enc es c ks F) {k : κ} {v : Int} (hk : k ∉ ks) : MapK enc (es.push { key := enc k, val := .int .i64 v, born := c }) (c + 1) (ks ++ [k]) (updK F k v) := by
 refine ⟨?_, ?_, ?_, ?_⟩
 ·rw [Array.toList_push, List.map_append, M.pairs, List.map_append]
  congr 1
  ·refine List.map_congr_left fun x hx => ?_
   have hne : x ≠ k := fun e => hk (e ▸ hx)
   simp [updK, hne]
  ·simp [updK]
 ·rw [List.nodup_append]
  refine ⟨M.nodup, by simp, fun a ha b hb => ?_⟩
  rw [List.mem_singleton] at hb
  subst hb
  exact fun e => hk (e ▸ ha)
 ·rw [Array.toList_push, List.map_append, List.nodup_append]
  refine ⟨M.born, by simp, fun a ha b hb => ?_⟩
  obtain ⟨e, he, rfl⟩ := List.mem_map.1 ha
  have := M.lt e he
  simp at hb
  omega
 ·intro e he
  rw [Array.toList_push, List.mem_append, List.mem_singleton] at he
  rcases he with he | rfl
  ·have := M.lt e he; omega
  ·exact Nat.lt_succ_self c
theorem modify_get {es : Array MapEntry} {f : MapEntry -> MapEntry} (j : Nat) : ∀ i : Nat, (es.modify j f)[i]? = if i = j then (es[i]?).map f else es[i]? := by
 intro i
 rw [Array.getElem?_modify]
 by_cases hij : j = i
 ·subst hij; simp
 ·rw [if_neg hij, if_neg (Ne.symm hij)]
section
variable {kt : TypeId} {h : Cells} {es : Array MapEntry} {c m : Nat} {ks : List κ} {F : κ -> Int} {k : κ}
omit [DecidableEq κ] in
theorem MapK.keys (M : MapK enc es c ks F) (hf : ∀ x, x ∈ ks -> FKey P kt (enc x)) : ∀ e ∈ es.toList, FKey P kt e.key := fun e he => by
 obtain ⟨x, h1, h2, _⟩ := M.mem he
 rw [h2]; exact hf x h1
omit [DecidableEq κ] in
theorem MapK.found (inj : ∀ a b, enc a = enc b -> a = b) (M : MapK enc es c ks F) {j : Nat} {e : MapEntry} (he : es.toList[j]? = some e) (hek : e.key = enc k) : ks[j]? = some k /\ e.val = .int .i64 (F k) := by
 obtain ⟨x, h1, h2, h3⟩ := M.at he
 have : x = k := inj _ _ (h2.symm.trans hek)
 subst this
 exact ⟨h1, h3⟩
omit [DecidableEq κ] in
theorem MapK.none (M : MapK enc es c ks F) (hno : ∀ e ∈ es.toList, e.key ≠ enc k) : k ∉ ks := fun hk => by
 obtain ⟨j, hj⟩ := List.mem_iff_getElem?.1 hk
 obtain ⟨e, h1, h2, _⟩ := M.of hj
 exact hno e (List.mem_of_getElem? h1) h2
variable (inj : ∀ a b, enc a = enc b -> a = b)
include inj
theorem lwp_mapPut {Q : Unit -> Cells -> Prop} {t et : TypeId} {v : Int} (hu : P.underlying t = some (.map kt et)) (hm : h m = some (true, .map es c)) (M : MapK enc es c ks F) (hk : FKey P kt (enc k)) (hks : ∀ x, x ∈ ks -> FKey P kt (enc x))
  (hq : ∀ es' c' ks', MapK enc es' c' ks' (updK F k v) -> (∀ x, x ∈ ks' ↔ x = k \/ x ∈ ks) -> Q () (h.upd m (true, .map es' c'))) : Sem.lwp P (Instr.mapUpdate t (.map (some m)) (enc k) (.int .i64 v)) Q E h := by
 unfold Instr.mapUpdate
 rw [lwp_bind, lwp_underlying hu]
 simp only [lwp_bind]
 refine ⟨_, _, hm, trivial, ?_⟩
 show Sem.lwp P (_ >>= _) _ E h
 rw [lwp_bind]
 refine lwp_checkKeyK hk ?_
 rw [lwp_bind]
 refine lwp_findKeyK hk (M.keys hks) (fun j e he hek => ?_) fun hno => ?_
 ·have he' : es[j]? = some e := by rw [<- Array.getElem?_toList]; exact he
  obtain ⟨h1, _⟩ := M.found inj he hek
  simp only [lwp_bind, Instr.keyThatStays, he', Option.map_some, Option.getD_some, hek, sameBits_flat hk, if_true, lwp_pure]
  refine ⟨⟨_, hm, trivial⟩, hq _ _ ks (M.modify h1 (modify_get j) fun e0 he0 => ⟨rfl, rfl, rfl⟩) fun x => ⟨.inr, ?_⟩⟩
  rintro (rfl | hx)
  ·exact List.mem_of_getElem? h1
  ·exact hx
 ·refine ⟨⟨_, hm, trivial⟩, hq _ _ _ (M.push (M.none hno)) fun x => ?_⟩
  rw [List.mem_append, List.mem_singleton, or_comm]
omit [DecidableEq κ] in
theorem lwp_mapGet {Q : Value -> Cells -> Prop} {t et : TypeId} {s b : Nat} {ok : Bool} (hu : P.underlying t = some (.map kt et)) (hi : (P.info? et).map (fun i => (i.size, i.bytes, i.zero)) = some (s, b, some (.int .i64 0))) (hm : h m = some (true, .map es c)) (M : MapK enc es c ks F) (hk : FKey P kt (enc k)) (hks : ∀ x, x ∈ ks -> FKey P kt (enc x))
  (h1 : k ∈ ks -> Q (if ok then .tuple #[.int .i64 (F k), .bool true] else .int .i64 (F k)) h) (h2 : k ∉ ks -> Q (if ok then .tuple #[.int .i64 0, .bool false] else .int .i64 0) h) : Sem.lwp P (Instr.lookup t (.map (some m)) (enc k) ok) Q E h := by
 refine lwp_lookupK hu hi ⟨c, hm⟩ hk (M.keys hks) (fun e he hek => ?_) fun hno => h2 (M.none hno)
 obtain ⟨j, hj⟩ := List.mem_iff_getElem?.1 he
 obtain ⟨h3, h4⟩ := M.found inj hj hek
 rw [h4]
 exact h1 (List.mem_of_getElem? h3)
theorem lwp_mapEntry {Q : Value -> Cells -> Prop} {t et : TypeId} {s b : Nat} (hu : P.underlying t = some (.map kt et)) (hi : (P.info? et).map (fun i => (i.size, i.bytes, i.zero)) = some (s, b, some (.int .i64 0))) (hm : h m = some (true, .map es c)) (M : MapK enc es c ks F) (hk : FKey P kt (enc k)) (hks : ∀ x, x ∈ ks -> FKey P kt (enc x)) (h0 : k ∉ ks -> F k = 0)
  (hq : ∀ es' c' ks' (j : Nat) (e : MapEntry), MapK enc es' c' ks' F -> (∀ x, x ∈ ks' ↔ x = k \/ x ∈ ks) -> es'.toList[j]? = some e -> ks'[j]? = some k -> Q (.tuple #[.int .i64 (F k), goInt e.born]) (h.upd m (true, .map es' c'))) : Sem.lwp P (Instr.mapEntry t (.map (some m)) (enc k)) Q E h := by
 obtain ⟨inf, g1, _, _, g4⟩ := info_of hi
 unfold Instr.mapEntry
 rw [lwp_bind, lwp_underlying hu]
 simp only [lwp_bind]
 refine ⟨_, _, hm, trivial, ?_⟩
 show Sem.lwp P (_ >>= _) _ E h
 rw [lwp_bind]
 refine lwp_checkKeyK hk ?_
 rw [lwp_bind]
 have same : ∀ {ks' : List κ}, updK F k (F k) = F := by
  intro _; funext x; unfold updK; split
  ·rename_i e; rw [e]
  ·rfl
 refine lwp_findKeyK hk (M.keys hks) (fun j e he hek => ?_) fun hno => ?_
 ·have he' : es[j]? = some e := by rw [<- Array.getElem?_toList]; exact he
  obtain ⟨h1, h2⟩ := M.found inj he hek
  simp only [lwp_bind, Instr.keyThatStays, he', Option.map_some, Option.getD_some, hek, sameBits_flat hk, if_true, lwp_pure]
  refine ⟨⟨_, hm, trivial⟩, ?_⟩
  rw [h2]
  have M' : MapK enc (es.modify j fun e => { e with key := enc k }) c ks (updK F k (F k)) := M.modify h1 (modify_get j) fun e0 he0 => by
   rw [he'] at he0
   cases he0
   exact ⟨rfl, h2, rfl⟩
  rw [same (ks' := ks)] at M'
  have hg : (es.modify j fun e => { e with key := enc k }).toList[j]? = some { e with key := enc k } := by
   rw [Array.getElem?_toList, modify_get, if_pos rfl, he']; rfl
  refine hq _ _ ks j { e with key := enc k } M' (fun x => ⟨.inr, ?_⟩) hg h1
  rintro (rfl | hx)
  ·exact List.mem_of_getElem? h1
  ·exact hx
 ·have hn := M.none hno
  have M' := M.push (v := F k) hn
  rw [same (ks' := ks)] at M'
  simp only [lwp_bind, lwp_zeroValue g1 g4, lwp_pure]
  refine ⟨⟨_, hm, trivial⟩, ?_⟩
  have e0 := h0 hn
  have hl : ks.length = es.toList.length := by
   have := congrArg List.length M.pairs
   simpa using this.symm
  have := hq (es.push { key := enc k, val := .int .i64 (F k), born := c }) (c + 1) (ks ++ [k]) es.toList.length { key := enc k, val := .int .i64 (F k), born := c } M' (fun x => by rw [List.mem_append, List.mem_singleton, or_comm]) (by rw [Array.toList_push]; simp) (by rw [<- hl]; simp)
  rw [e0] at this
  exact this
omit inj in
theorem lwp_entryStore {Q : Unit -> Cells -> Prop} {t : TypeId} {j : Nat} {e : MapEntry} {v : Int} (hm : h m = some (true, .map es c)) (M : MapK enc es c ks F) (he : es.toList[j]? = some e) (hj : ks[j]? = some k)
  (hq : ∀ es', MapK enc es' c ks (updK F k v) -> Q () (h.upd m (true, .map es' c))) : Sem.lwp P (Instr.entryStore t (.map (some m)) (goInt e.born) (.int .i64 v)) Q E h := by
 unfold Instr.entryStore
 simp only [lwp_bind]
 refine ⟨_, _, hm, trivial, ?_⟩
 show Sem.lwp P (_ >>= _) _ E h
 have he' : es[j]? = some e := by rw [<- Array.getElem?_toList]; exact he
 have hf : es.findIdx? (fun x => (x.born : Int) == (e.born : Int)) = some j := by
  rw [Array.findIdx?_eq_some_iff_getElem]
  obtain ⟨h1, h2⟩ := Array.getElem?_eq_some_iff.1 he'
  refine ⟨h1, by rw [h2]; simp, fun i hi => ?_⟩
  have h3 : i < es.size := by omega
  intro hb
  have hb' : es[i].born = e.born := by
   have := eq_of_beq hb
   omega
  have hn := M.born
  have e1 : (es.toList.map (·.born))[i]? = some e.born := by simp [h3, hb']
  have e2 : (es.toList.map (·.born))[j]? = some e.born := by simp [h1, h2]
  have := nodup_idx hn e1 e2
  omega
 simp only [goInt, asInt, asIntOf, lwp_bind, lwp_pure]
 have hf2 : es.findIdx? (fun x => (x.born : Int) == ((IntKind.i64, (e.born : Int)) : IntKind × Int).snd) = some j := hf
 rw [hf2]
 refine ⟨⟨_, hm, trivial⟩, ?_⟩
 exact hq _ (M.modify hj (modify_get j) fun e0 he0 => by
  rw [he'] at he0
  cases he0
  obtain ⟨x, h1, h2, _⟩ := M.at he
  rw [hj] at h1
  cases h1
  exact ⟨h2, rfl, rfl⟩)
end
section
variable {X : XP} {Q : Leaf -> LH -> Prop} {h : LH} {kt t et : TypeId} {es : Array MapEntry} {c m : Nat} {ks : List κ} {F : κ -> Int} {kv : Value}
omit [DecidableEq κ] in
theorem t_mapGet {K : Value -> T} {s b : Nat} {ok : Bool} (k : κ) (hkv : kv = enc k) (inj : ∀ a b, enc a = enc b -> a = b) (hu : P.underlying t = some (.map kt et)) (hi : (P.info? et).map (fun i => (i.size, i.bytes, i.zero)) = some (s, b, some (.int .i64 0))) (hm : h.get m = some (true, .map es c)) (M : MapK enc es c ks F) (hk : ∀ x, x = k \/ x ∈ ks -> FKey P kt (enc x))
  (h1 : k ∈ ks -> (K (if ok then .tuple #[.int .i64 (F k), .bool true] else .int .i64 (F k))).wp X P Q h) (h2 : k ∉ ks -> (K (if ok then .tuple #[.int .i64 0, .bool false] else .int .i64 0)).wp X P Q h) : (T.sem false (Instr.lookup t (.map (some m)) kv ok) K).wp X P Q h := by
 subst hkv
 exact t_sem (A := fun v h' => h' = h.get /\ (K v).wp X P Q h) (lwp_mapGet inj hu hi hm M (hk k (.inl rfl)) (fun x hx => hk x (.inr hx)) (fun hh => ⟨rfl, h1 hh⟩) fun hh => ⟨rfl, h2 hh⟩) (by rintro v h' ⟨rfl, hw⟩; exact hw)
theorem t_mapPut {K : Value -> T} {v : Int} (k : κ) (hkv : kv = enc k) (inj : ∀ a b, enc a = enc b -> a = b) (hu : P.underlying t = some (.map kt et)) (hm : h.get m = some (true, .map es c)) (M : MapK enc es c ks F) (hk : ∀ x, x = k \/ x ∈ ks -> FKey P kt (enc x))
  (hq : ∀ es' c' ks', MapK enc es' c' ks' (updK F k v) -> (∀ x, x ∈ ks' ↔ x = k \/ x ∈ ks) -> (K (.tuple #[])).wp X P Q { h with get := h.get.upd m (true, .map es' c') }) : (T.sem false (Sem.bind (Instr.mapUpdate t (.map (some m)) kv (.int .i64 v)) fun _ => pure (.tuple #[])) K).wp X P Q h := by
 subst hkv
 exact t_sem (A := fun w h' => w = .tuple #[] /\ (K (.tuple #[])).wp X P Q { h with get := h' }) (Sem.lwp_bind _ _ (lwp_mapPut inj hu hm M (hk k (.inl rfl)) (fun x hx => hk x (.inr hx)) fun es' c' ks' M' hks => by rw [lwp_pure]; exact ⟨rfl, hq es' c' ks' M' hks⟩)) (by rintro w h' ⟨rfl, hw⟩; exact hw)
theorem t_mapEntry {K : Value -> T} {s b : Nat} (k : κ) (hkv : kv = enc k) (inj : ∀ a b, enc a = enc b -> a = b) (hu : P.underlying t = some (.map kt et)) (hi : (P.info? et).map (fun i => (i.size, i.bytes, i.zero)) = some (s, b, some (.int .i64 0))) (hm : h.get m = some (true, .map es c)) (M : MapK enc es c ks F) (hk : ∀ x, x = k \/ x ∈ ks -> FKey P kt (enc x)) (h0 : k ∉ ks -> F k = 0)
  (hq : ∀ es' c' ks' (j : Nat) (e : MapEntry), MapK enc es' c' ks' F -> (∀ x, x ∈ ks' ↔ x = k \/ x ∈ ks) -> es'.toList[j]? = some e -> ks'[j]? = some k -> (K (.tuple #[.int .i64 (F k), .int .i64 (e.born : Int)])).wp X P Q { h with get := h.get.upd m (true, .map es' c') }) : (T.sem false (Instr.mapEntry t (.map (some m)) kv) K).wp X P Q h := by
 subst hkv
 exact t_sem (A := fun v h' => (K v).wp X P Q { h with get := h' }) (lwp_mapEntry inj hu hi hm M (hk k (.inl rfl)) (fun x hx => hk x (.inr hx)) h0 fun es' c' ks' j e M' hks he hj => hq es' c' ks' j e M' hks he hj) (fun v h' hw => hw)
theorem t_entryStore {K : Value -> T} {j : Nat} {e : MapEntry} {k : κ} {v : Int} {b : Int} (hb : b = (e.born : Int)) (hm : h.get m = some (true, .map es c)) (M : MapK enc es c ks F) (he : es.toList[j]? = some e) (hj : ks[j]? = some k)
  (hq : ∀ es', MapK enc es' c ks (updK F k v) -> (K (.tuple #[])).wp X P Q { h with get := h.get.upd m (true, .map es' c) }) : (T.sem false (Sem.bind (Instr.entryStore t (.map (some m)) (.int .i64 b) (.int .i64 v)) fun _ => pure (.tuple #[])) K).wp X P Q h := by
 subst hb
 exact t_sem (A := fun w h' => w = .tuple #[] /\ (K (.tuple #[])).wp X P Q { h with get := h' }) (Sem.lwp_bind _ _ (lwp_entryStore hm M he hj fun es' M' => by rw [lwp_pure]; exact ⟨rfl, hq es' M'⟩)) (by rintro w h' ⟨rfl, hw⟩; exact hw)
end
end Go.TM.Rv
end
section
namespace Go.Proofs.YtgljffachdhigaaGreatDoor
open Go Go.TM Go.Proofs Go.TM.Rv
attribute [local irreducible] T.wp CV FWK
theorem c3254 {h : LH} (c : UInt8) : Pu Tryz.prog 208 #[.int .u8 (c.toNat : Int)] h (.bool (!(letterB c || digitB c))) := by
 refine w3254 _ X0_ok ?_
 unfold n3254
 unfold letterB digitB
 refine t_if (fun e1 => ?_) (fun e1 => ?_)
 ·refine t_if (fun e2 => ?_) (fun e2 => ?_) <;> refine t_ret ⟨?_, rfl⟩
  ·have h1 : ¬ 97 <= c.toNat := by omega
   have h2 : ¬ 48 <= c.toNat := by omega
   simp [h1, h2]
  ·have h1 : ¬ 97 <= c.toNat := by omega
   have h2 : 48 <= c.toNat := by omega
   by_cases h3 : c.toNat <= 57
   ·have : ¬ (c.toNat : Int) > 57 := by omega
    simp [h1, h2, h3, this]
   ·have : (c.toNat : Int) > 57 := by omega
    simp [h1, h2, h3, this]
 ·have h1 : 97 <= c.toNat := by omega
  refine t_if (fun e2 => ?_) (fun e2 => ?_)
  ·refine t_if (fun e3 => by omega) (fun e3 => ?_)
   refine t_ret ⟨?_, rfl⟩
   have h2 : ¬ c.toNat <= 122 := by omega
   have h3 : ¬ c.toNat <= 57 := by omega
   have : (c.toNat : Int) > 57 := by omega
   simp [h2, h3, this]
  ·refine t_ret ⟨?_, rfl⟩
   have h2 : c.toNat <= 122 := by omega
   simp [h1, h2]
theorem c3253 {h : LH} {s : ByteArray} (hs : NameOk s) : Gr Tryz.prog 206 #[.string s] h fun r _ => r = .bool true := by
 refine w3253 _ X0_ok ?_
 unfold n3253
 have hsz := hs.size
 have h0 : 0 < s.data.size := hsz.1
 have hc := Array.getElem?_eq_getElem (xs := s.data) (i := 0) h0
 generalize s.data[0] = c at hc
 have hl : letterB c = true := (hs.all 0 c hc).resolve_right (fun hh => hh.2 rfl)
 unfold letterB at hl
 simp only [Bool.and_eq_true, decide_eq_true_eq] at hl
 refine t_lenStr und9 ?_
 refine gZ ?_
 refine t_pu (c3157 _ _ _) ?_
 have e1 : isIn (s.size : Int) 1 10 = true := by unfold isIn; simp; omega
 rw [e1]
 refine gZ ?_
 refine t_cond (fun e => by cases e) (fun _ => ?_)
 refine t_indexS (i := 0) und9 hc ?_
 refine gZ ?_
 refine t_if (fun e => by omega) (fun _ => ?_)
 refine t_indexS (i := 0) und9 hc ?_
 refine gZ ?_
 refine t_if (fun e => by omega) (fun _ => ?_)
 refine t_bytes und9 und1275 undU8 (by omega) fun r cap h1 le1 hsl => ?_
 refine gZ ?_
 refine t_pu (c3239 hsl (g := fun c => !(letterB c || digitB c)) (fun x => ?_)) ?_
 ·exact CV.mono (cv_fw X0_ok (by rfl) (c3254 x)) (by rintro v h' ⟨rfl, rfl⟩; exact ⟨rfl, rfl⟩)
 have hany : (s.data.toList.any fun c => !(letterB c || digitB c)) = false := by
  rw [List.any_eq_false]
  intro c hc
  obtain ⟨i, hi⟩ := List.mem_iff_getElem?.1 hc
  rcases hs.all i c (by simpa using hi) with h1 | ⟨h1, _⟩ <;> simp [h1]
 rw [hany]
 refine gZ ?_
 exact t_ret ⟨le1, rfl⟩
theorem und1286 : Tryz.prog.underlying 281 = some (.map 9 3) := by kernel_rfl
theorem keyS (s : ByteArray) : FKey Tryz.prog 9 (.string s) := .inl (.inr (.inr ⟨und9, s, rfl⟩))
theorem str_inj : ∀ a b : ByteArray, Value.string a = .string b -> a = b := fun a b h => by cases h; rfl
def NamesR (h : Cells) (m : Nat) (l : List ByteArray) : Prop := ∃ es c ks F, h m = some (true, .map es c) /\ MapK Value.string es c ks F /\ ∀ s ∈ ks, s ∈ l
theorem NamesR.le {h h' : Cells} (hl : h.le h') {m : Nat} {l : List ByteArray} (r : NamesR h m l) : NamesR h' m l := by
 obtain ⟨es, c, ks, F, h1, h2⟩ := r
 exact ⟨es, c, ks, F, hl _ _ h1, h2⟩
theorem c3251 {h₀ h : LH} {m : Nat} {l : List ByteArray} (hle : h₀.le h) (hm0 : h₀.get m = none) (hm : NamesR h.get m l) {s : ByteArray} (hs : NameOk s) (hn : s ∉ l) (n : Int) :
  FW X0 Tryz.prog 204 #[.map (some m), .string s, .int .i64 n] h fun r h' => r = .int .i64 0 /\ h₀.le h' /\ NamesR h'.get m (l ++ [s]) := by
 refine w3251 _ _ _ X0_ok ?_
 unfold n3251
 refine t_gr (c3253 hs) ?_
 rintro _ h1 le1 rfl
 obtain ⟨es, c, ks, F, h2, M, hks⟩ := hm.le le1.1
 have le01 := LH.le_trans hle le1
 refine gZ ?_
 refine t_cond (fun e => by cases e) (fun _ => ?_)
 refine t_mapGet (enc := Value.string) s rfl str_inj und1286 inf3 h2 M (fun x _ => keyS x) (fun hk => absurd (hks s hk) hn) fun _ => ?_
 simp only [if_true]
 refine gZ ?_
 refine t_cond (fun e => by cases e) (fun _ => ?_)
 refine t_mapPut (enc := Value.string) s rfl str_inj und1286 h2 M (fun x _ => keyS x) fun es' c' ks' M' hk' => ?_
 have le2 := le_updNew0 (x := (true, .map es' c')) le01 hm0
 refine t_ret ⟨rfl, le2, es', c', ks', _, Cells.upd_self _ _ _, M', fun x hx => ?_⟩
 rw [List.mem_append, List.mem_singleton]
 rcases (hk' x).1 hx with rfl | hx
 ·exact .inr rfl
 ·exact .inl (hks x hx)
theorem take_nd {l : List ByteArray} (hd : l.Nodup) {i : Nat} {s : ByteArray} (hx : l[i]? = some s) : s ∉ l.take i := by
 intro hm
 obtain ⟨j, hj⟩ := List.mem_iff_getElem?.1 hm
 have hjl := (List.getElem?_eq_some_iff.1 hj).1
 rw [List.length_take] at hjl
 rw [List.getElem?_take_of_lt (by omega)] at hj
 have := nodup_idx hd hx hj
 omega
theorem take_snoc {l : List ByteArray} {i : Nat} {s : ByteArray} (hx : l[i]? = some s) : l.take (i + 1) = l.take i ++ [s] := by
 rw [List.take_add_one, hx]; rfl
theorem c3248 {h : LH} {f : BookC} {b : RvBook} (hr : BookR h.get f b) (ok : BookOk b) : Gr Tryz.prog 201 #[bookV f] h fun r _ => r = .int .i64 0 := by
 refine w3248 _ _ _ _ _ _ X0_ok ?_
 unfold n3248
 have hn0 := hr.rights.1
 have hb0 := hr.rights.2.1
 have hmany := ok.rights
 refine t_if (fun e => by omega) (fun _ => ?_)
 refine t_makeMap fun m hm => ?_
 refine gZ ?_
 refine t_loop (fun mm vs h' => h.le h' /\ ∃ i : Nat, vs = [.int .i64 0, .int .i64 i] /\ i <= f.n0 /\ mm = f.n0 - i /\ NamesR h'.get m (b.rights.take i))
  ⟨LH.upd_le hm, 0, rfl, Nat.zero_le _, rfl, #[], 0, [], fun _ => 0, Cells.upd_self _ _ _, MapK.nil, fun s hs => by cases hs⟩ ?_
 rintro Y mm vs h1 hY ⟨le1, i, rfl, hi, rfl, hme⟩
 refine gZ ?_
 refine t_if (fun e1 => ?_) (fun e1 => ?_)
 ·obtain ⟨s, a, hx, ha, e2⟩ := hr.rights.at (i := i) (by omega)
  have hin : 0 <= (i : Int) /\ (i : Int) < (f.n0 : Int) := by omega
  unfold StrE at e2
  have e2' := Cells.cell?_le le1.1 e2
  have hsm := List.mem_of_getElem? hx
  refine gZ ?_
  repeat ((first | refine t_loadStr (by assumption) ?_ | refine t_loadV (by assumption) ?_ | refine gL0 (by assumption) ?_); refine gZ ?_)
  refine t_call (FW.top (c3251 le1 hm hme (ok.names s hsm) (take_nd ok.fresh hx) _)) ?_
  rintro _ h2 ⟨rfl, le2, hme2⟩
  refine gZ ?_
  refine t_cond (fun e => by cases e) (fun _ => ?_)
  refine t_again (hY (f.n0 - (i + 1)) _ _ (by omega) ⟨le2, i + 1, ?_, by omega, rfl, by rw [take_snoc hx]; exact hme2⟩)
  rw [wrap_id (by omega) (by omega)]; rfl
 ·refine gZ ?_
  exact t_ret ⟨le1, rfl⟩
theorem c3252 {h : LH} {f : BookC} {b : RvBook} (hr : BookR h.get f b) (h6 : b.rights.length <= 6) {p : Option Addr} {n c : Nat} {gs : List (List Int)} (hg : Sl LsE 1 h.get p n gs)
  (hgs : gs.length <= 3 /\ ∀ g ∈ gs, g.length <= 3 /\ g.Pairwise (· < ·) /\ ∀ v ∈ g, 0 <= v /\ v < (b.rights.length : Int)) : Pu Tryz.prog 205 #[bookV f, .slice p n c] h (.int .i64 0) := by
 refine w3252 _ _ _ _ _ _ _ _ _ X0_ok ?_
 unfold n3252
 have hn := hg.1
 have hb := hg.2.1
 have hn0 := hr.rights.1
 refine t_if (fun e => by omega) (fun _ => ?_)
 refine t_loop (fun mm vs h' => h = h' /\ ∃ i : Nat, vs = [.int .i64 0, .int .i64 i] /\ i <= n /\ mm = n - i) ⟨rfl, 0, rfl, Nat.zero_le _, rfl⟩ ?_
 rintro Y mm vs _ hY ⟨rfl, i, rfl, hi, rfl⟩
 refine gZ ?_
 refine t_if (fun e1 => ?_) (fun e1 => ?_)
 ·obtain ⟨g, a, hx, ha, q, m, k, e2, e3⟩ := hg.at (i := i) (by omega)
  have hin : 0 <= (i : Int) /\ (i : Int) < (n : Int) := by omega
  obtain ⟨g1, g2, g3⟩ := hgs.2 g (List.mem_of_getElem? hx)
  have hm := e3.1
  refine gZ ?_
  refine t_if (fun e => by omega) (fun _ => ?_)
  refine t_pu (c3153 e3 (b := (f.n0 : Int)) (by omega) g2 (fun v hv => by rw [hn0]; exact g3 v hv)) ?_
  refine gZ ?_
  refine t_cond (fun e => by cases e) (fun _ => ?_)
  refine t_again (hY (n - (i + 1)) _ _ (by omega) ⟨rfl, i + 1, ?_, by omega, rfl⟩)
  rw [wrap_id (by omega) (by omega)]; rfl
 ·refine gZ ?_
  exact t_ret ⟨rfl, rfl⟩
theorem c3249 {h : LH} {f : BookC} {b : RvBook} (hr : BookR h.get f b) (ok : BookOk b) : Gr Tryz.prog 202 #[bookV f] h fun r _ => r = .int .i64 0 := by
 refine w3249 _ _ _ _ _ _ X0_ok ?_
 unfold n3249
 have hn0 := hr.rights.1
 have hn1 := hr.cases.1
 have hb0 := hr.rights.2.1
 have hb1 := hr.cases.2.1
 have h6 := ok.rights
 have h5 := ok.cases
 refine t_if (fun e => by omega) (fun _ => ?_)
 refine t_makeMap fun m hm => ?_
 refine gZ ?_
 refine t_loop (fun mm vs h' => h.le h' /\ ∃ i : Nat, vs = [.int .i64 0, .int .i64 i] /\ i <= f.n1 /\ mm = f.n1 - i /\ NamesR h'.get m ((b.cases.map (·.name)).take i))
  ⟨LH.upd_le hm, 0, rfl, Nat.zero_le _, rfl, #[], 0, [], fun _ => 0, Cells.upd_self _ _ _, MapK.nil, fun s hs => by cases hs⟩ ?_
 rintro Y mm vs h1 hY ⟨le1, i, rfl, hi, rfl, hme⟩
 refine gZ ?_
 refine t_if (fun e1 => ?_) (fun e1 => ?_)
 ·obtain ⟨c, a, hx, ha, e2, e3, ⟨q, n, k, e4, e5⟩, q', n', k', e6, e7⟩ := hr.cases.at (i := i) (by omega)
  have e2' := Cells.cell?_le le1.1 e2
  have e3' := Cells.cell?_le le1.1 e3
  have e4' := Cells.cell?_le le1.1 e4
  have e6' := Cells.cell?_le le1.1 e6
  have hin : 0 <= (i : Int) /\ (i : Int) < (f.n1 : Int) := by omega
  have hcm := List.mem_of_getElem? hx
  have hag := ok.against c hcm
  have haf := ok.after c hcm
  have hxn : (b.cases.map (·.name))[i]? = some c.name := by rw [List.getElem?_map, hx]; rfl
  refine gZ ?_
  repeat ((first | refine t_loadStr (by assumption) ?_ | refine t_loadV (by assumption) ?_ | refine gL0 (by assumption) ?_); refine gZ ?_)
  refine t_call (FW.top (c3251 le1 hm hme (ok.cnames c hcm) (take_nd ok.cfresh hxn) _)) ?_
  rintro _ h2 ⟨rfl, le2, hme2⟩
  refine gZ ?_
  refine t_cond (fun e => by cases e) (fun _ => ?_)
  rw [wrap_id (n := (f.n0 : Int) - 1) (by omega) (by omega)]
  refine t_pu (c3157 _ _ _) ?_
  rw [isIn_true (by omega)]
  refine gZ ?_
  refine t_cond (fun e => by cases e) (fun _ => ?_)
  refine t_pu (c3252 (hr.le le2.1) h6 (e5.le LsE.grow le2.1) (ok.grounds c hcm)) ?_
  refine gZ ?_
  refine t_cond (fun e => by cases e) (fun _ => ?_)
  refine t_pu (c3153 (e7.le IntE.grow le2.1) (b := (f.n1 : Int)) (by omega) haf.1 (fun v hv => by rw [hn1]; exact haf.2 v hv)) ?_
  refine gZ ?_
  refine t_cond (fun e => by cases e) (fun _ => ?_)
  refine t_again (hY (f.n1 - (i + 1)) _ _ (by omega) ⟨le2, i + 1, ?_, by omega, rfl, by rw [take_snoc hxn]; exact hme2⟩)
  rw [wrap_id (by omega) (by omega)]; rfl
 ·refine gZ ?_
  exact t_ret ⟨le1, rfl⟩
end Go.Proofs.YtgljffachdhigaaGreatDoor
end
section
namespace Go.Proofs.YtgljffachdhigaaGreatDoor
open Go Go.TM Go.Proofs
set_option linter.unusedVariables false
set_option maxRecDepth 100000
variable {X : XP} {h : LH} {A : Value -> LH -> Prop}
noncomputable def n3120 (b_0p : Option Addr) (b_0n b_0c : Nat) (b_1p : Option Addr) (b_1n b_1c : Nat) : T := .call false 51 #[.agg #[.slice b_0p b_0n b_0c, .slice b_1p b_1n b_1c]] fun v => .unI .i64 v fun n => bif n != 0 then .leaf (.ret (.tuple #[.slice none 0 0, .slice none 0 0, .int .i64 n])) else .call false 52 #[.agg #[.slice b_0p b_0n b_0c, .slice b_1p b_1n b_1c]] fun v => .unTup v fun l => .unCons l fun v vs => .unS v fun a n c => .unCons vs fun v vs => .unS v fun a_1 n_1 c_1 => .unNil vs (.leaf (.ret (.tuple #[.slice a n c, .slice a_1 n_1 c_1, .int .i64 0])))
theorem w3120 (b_0p : Option Addr) (b_0n b_0c : Nat) (b_1p : Option Addr) (b_1n b_1c : Nat) (hX : XOK X) (hw : (n3120 b_0p b_0n b_0c b_1p b_1n b_1c).wp X Tryz.prog (retQ A) h) : FWK X Tryz.prog .normal 14 #[.agg #[.slice b_0p b_0n b_0c, .slice b_1p b_1n b_1c]] h A := fwk_neat (priv := [1]) (loops := []) (joins := []) (fd := Tryz.f14) (by kernel_rfl) (by simp) (by kernel_rfl) (by kernel_rfl) hX hw
noncomputable def n3152 (b_0p : Option Addr) (b_0n b_0c : Nat) (b_1p : Option Addr) (b_1n b_1c : Nat) : T := .sem false (Instr.makeMap 161 none) fun v => .unM v fun a => .sem false (Instr.makeSlice 30 (.int .i64 (↑b_1n : Int)) (.int .i64 (↑b_1n : Int))) fun v => .unS v fun a_1 n c => .call false 94 #[.agg #[.slice b_0p b_0n b_0c, .slice b_1p b_1n b_1c]] fun v => .each v [.int .i64 0] (fun xs vs => .unCons xs fun v vs_1 => .unAgg v fun l => .popS l fun a_2 n_1 c vs_2 => .popB vs_2 fun b vs_3 => .popB vs_3 fun b_1 vs_4 => .popB vs_4 fun b_2 vs_5 => .popB vs_5 fun b_3 vs_6 => .popB vs_6 fun b_4 vs_7 => .popB vs_7 fun b_5 vs_8 => .popI .i64 vs_8 fun n_2 vs_9 => .unNil vs_9 (.unNil vs_1 (.popI .i64 vs fun n_3 vs => .unNil vs (.blk (.both (.sem false (Instr.lookup 161 (.map a) (.agg #[.bool b, .bool b_1, .bool b_2, .bool b_3, .bool b_4, .bool b_5]) false) fun v => .unI .i64 v fun n => .need (AV.pp 7 1 = AV.pp 7 1) (.sem false (Instr.mapEntry 161 (.map a) (.agg #[.bool b, .bool b_1, .bool b_2, .bool b_3, .bool b_4, .bool b_5])) fun v => .unTup v fun l => .unCons l fun v vs => .unCons vs fun v vs => .unI .i64 v fun n_4 => .unNil vs (.nd (.int .i64 (IntKind.wrap .i64 (n + 1))) (.sem false (Sem.bind (Instr.entryStore 161 (.map a) (.int .i64 n_4) (.int .i64 (IntKind.wrap .i64 (n + 1)))) fun __r => pure (.tuple #[])) fun x => .leaf (.again []))))) (.sem false (Instr.mapEntry 161 (.map a) (.agg #[.bool b, .bool b_1, .bool b_2, .bool b_3, .bool b_4, .bool b_5])) fun v => .unTup v fun l => .unCons l fun v vs => .unCons vs fun v vs => .unI .i64 v fun n => .unNil vs (.sem false (Instr.lookup 161 (.map a) (.agg #[.bool b, .bool b_1, .bool b_2, .bool b_3, .bool b_4, .bool b_5]) false) fun v => .unI .i64 v fun n_4 => .nd (.int .i64 n) (.sem false (Sem.bind (Instr.entryStore 161 (.map a) (.int .i64 n) (.int .i64 (IntKind.wrap .i64 (n_4 + 1)))) fun __r => pure (.tuple #[])) fun x => .leaf (.again []))))) (fun vs => .unNil vs (.loop [.int .i64 0] (fun vs => .popI .i64 vs fun n_4 vs => .unNil vs (bif decide (n_4 < (↑n : Int)) then .need (0 <= n_4 /\ n_4 < (↑n : Int)) (.someA a_1 fun a => .loadI .i64 (a.add (n_4.toNat * 1)) fun n_5 => .need (0 <= n_4) (.need (0 <= n_4 /\ n_4 < (↑n : Int)) (.someA a_1 fun a => .store ((a.add (n_4.toNat * 1)).add 0) (.int .i64 (IntKind.wrap .i64 (n_5 + IntKind.wrap .i64 (↑(BitVec.toNat (BitVec.ofInt 64 (Int.fdiv n_2 (2 ^ min (n_4.toNat) 64)) &&& BitVec.ofInt 64 1)) : Int)))) (.leaf (.again [.int .i64 (IntKind.wrap .i64 (n_4 + 1))]))))) else .leaf (.brk [.int .i64 n_4]))) (fun vs => .popI .i64 vs fun n vs => .unNil vs (.leaf (.again [.int .i64 (IntKind.wrap .i64 (n_3 + 1))]))) (fun vs => .popI .i64 vs fun n vs => .unNil vs (.leaf (.retn [.int .i64 (IntKind.wrap .i64 (n_3 + 1))]))) fun x x_1 => .fail)) (fun vs => .unNil vs (.leaf (.retn [.int .i64 (IntKind.wrap .i64 (n_3 + 1))]))) fun x x_1 => .fail)))) (fun vs => .popI .i64 vs fun n_1 vs => .unNil vs (.loop [.slice none 0 0, .int .i64 0] (fun vs => .popS vs fun a_2 n c vs => .popI .i64 vs fun n_2 vs => .unNil vs (bif decide (n_2 < (↑b_0n : Int)) then .sem false (Instr.range 161 (.map a)) fun v => .unP v fun a => .loop [.int .i64 0] (fun vs => .popI .i64 vs fun n vs => .unNil vs (.sem false (Instr.next (.pointer a) false 0) fun v => .unTup v fun l => .unCons l fun b l => .unB b fun b => bif b then .unCons l fun v vs => .unCons vs fun v vs => .unNil vs (.sem false (Instr.entry (.pointer a)) fun v => .unTup v fun l => .unCons l fun v vs => .unCons vs fun v_1 vs => .unNil vs (.unAgg v fun l => .popB l fun b vs => .popB vs fun b_1 vs => .popB vs fun b_2 vs => .popB vs fun b_3 vs => .popB vs fun b_4 vs => .popB vs fun b_5 vs => .unNil vs (.unI .i64 v_1 fun n_3 => .new 128 #[.bool false, .bool false, .bool false, .bool false, .bool false, .bool false] fun r => .store (Addr.add { block := r, off := 0 } 0) (.bool b) (.store (Addr.add { block := r, off := 0 } 1) (.bool b_1) (.store (Addr.add { block := r, off := 0 } 2) (.bool b_2) (.store (Addr.add { block := r, off := 0 } 3) (.bool b_3) (.store (Addr.add { block := r, off := 0 } 4) (.bool b_4) (.store (Addr.add { block := r, off := 0 } 5) (.bool b_5) (.need (0 <= n_2 /\ n_2 < (↑6 : Int)) (.store ((Addr.add { block := r, off := 0 } (n_2.toNat * 1)).add 0) (.bool true) (.loadB (Addr.add { block := r, off := 0 } 0) fun b_6 => .loadB (Addr.add { block := r, off := 0 } 1) fun b_7 => .loadB (Addr.add { block := r, off := 0 } 2) fun b_8 => .loadB (Addr.add { block := r, off := 0 } 3) fun b_9 => .loadB (Addr.add { block := r, off := 0 } 4) fun b_10 => .loadB (Addr.add { block := r, off := 0 } 5) fun b_11 => .sem false (Sem.bind (eqGuard BinOp.eql 128 (Operand.tmp 68) (Operand.tmp 69) (.agg #[.bool b, .bool b_1, .bool b_2, .bool b_3, .bool b_4, .bool b_5]) (.agg #[.bool b_6, .bool b_7, .bool b_8, .bool b_9, .bool b_10, .bool b_11])) fun __r => binOp BinOp.eql 128 (.agg #[.bool b, .bool b_1, .bool b_2, .bool b_3, .bool b_4, .bool b_5]) (.agg #[.bool b_6, .bool b_7, .bool b_8, .bool b_9, .bool b_10, .bool b_11])) fun v => .unB v fun b => bif b then .leaf (.again [.int .i64 (IntKind.wrap .i64 (n + n_3))]) else .leaf (.again [.int .i64 n])))))))))))) else .unNil l (.leaf (.brk [.int .i64 n])))) (fun vs => .popI .i64 vs fun n_3 vs => .unNil vs (.call false 95 #[.int .i64 n_3, .int .i64 n_1] fun v => .unI .i64 v fun n_4 => .sem false (Instr.buildSlice 50 1 #[(0, .int .i64 n_4)]) fun v => .unS v fun a n_5 c_1 => .sem false (Builtin.append_ #[50, 50] 50 #[.slice a_2 n c, .slice a n_5 c_1]) fun v => .unS v fun a n c => .leaf (.again [.slice a n c, .int .i64 (IntKind.wrap .i64 (n_2 + 1))]))) (fun vs => .popI .i64 vs fun n_3 vs => .unNil vs (.leaf (.retn [.slice a_2 n c, .int .i64 n_2]))) fun x x_1 => .fail else .leaf (.brk [.slice a_2 n c, .int .i64 n_2]))) (fun vs => .popS vs fun a n_2 c vs => .popI .i64 vs fun n_3 vs => .unNil vs (.loop [.slice none 0 0, .int .i64 0] (fun vs => .popS vs fun a n_4 c vs => .popI .i64 vs fun n_5 vs => .unNil vs (bif decide (n_5 < (↑n : Int)) then .need (0 <= n_5 /\ n_5 < (↑n : Int)) (.someA a_1 fun a_2 => .loadI .i64 (a_2.add (n_5.toNat * 1)) fun n => .call false 95 #[.int .i64 n, .int .i64 n_1] fun v => .unI .i64 v fun n => .sem false (Instr.buildSlice 50 1 #[(0, .int .i64 n)]) fun v => .unS v fun a_3 n c_1 => .sem false (Builtin.append_ #[50, 50] 50 #[.slice a n_4 c, .slice a_3 n c_1]) fun v => .unS v fun a n c => .leaf (.again [.slice a n c, .int .i64 (IntKind.wrap .i64 (n_5 + 1))])) else .leaf (.brk [.slice a n_4 c, .int .i64 n_5]))) (fun vs => .popS vs fun a_2 n c_1 vs => .popI .i64 vs fun n_4 vs => .unNil vs (.leaf (.ret (.tuple #[.slice a n_2 c, .slice a_2 n c_1])))) (fun vs => .popS vs fun a_2 n c_1 vs => .popI .i64 vs fun n_4 vs => .unNil vs (.leaf (.ret (.tuple #[.slice a n_2 c, .slice a_2 n c_1])))) fun x x_1 => .fail)) (fun vs => .popS vs fun a n c vs => .popI .i64 vs fun n_2 vs => .unNil vs (.leaf (.ret (.tuple #[.slice a n c, .slice none 0 0])))) fun x x_1 => .fail)) (fun vs => .popI .i64 vs fun n_1 vs => .unNil vs (.loop [.slice none 0 0, .int .i64 0] (fun vs => .popS vs fun a_2 n c vs => .popI .i64 vs fun n_2 vs => .unNil vs (bif decide (n_2 < (↑b_0n : Int)) then .sem false (Instr.range 161 (.map a)) fun v => .unP v fun a => .loop [.int .i64 0] (fun vs => .popI .i64 vs fun n vs => .unNil vs (.sem false (Instr.next (.pointer a) false 0) fun v => .unTup v fun l => .unCons l fun b l => .unB b fun b => bif b then .unCons l fun v vs => .unCons vs fun v vs => .unNil vs (.sem false (Instr.entry (.pointer a)) fun v => .unTup v fun l => .unCons l fun v vs => .unCons vs fun v_1 vs => .unNil vs (.unAgg v fun l => .popB l fun b vs => .popB vs fun b_1 vs => .popB vs fun b_2 vs => .popB vs fun b_3 vs => .popB vs fun b_4 vs => .popB vs fun b_5 vs => .unNil vs (.unI .i64 v_1 fun n_3 => .new 128 #[.bool false, .bool false, .bool false, .bool false, .bool false, .bool false] fun r => .store (Addr.add { block := r, off := 0 } 0) (.bool b) (.store (Addr.add { block := r, off := 0 } 1) (.bool b_1) (.store (Addr.add { block := r, off := 0 } 2) (.bool b_2) (.store (Addr.add { block := r, off := 0 } 3) (.bool b_3) (.store (Addr.add { block := r, off := 0 } 4) (.bool b_4) (.store (Addr.add { block := r, off := 0 } 5) (.bool b_5) (.need (0 <= n_2 /\ n_2 < (↑6 : Int)) (.store ((Addr.add { block := r, off := 0 } (n_2.toNat * 1)).add 0) (.bool true) (.loadB (Addr.add { block := r, off := 0 } 0) fun b_6 => .loadB (Addr.add { block := r, off := 0 } 1) fun b_7 => .loadB (Addr.add { block := r, off := 0 } 2) fun b_8 => .loadB (Addr.add { block := r, off := 0 } 3) fun b_9 => .loadB (Addr.add { block := r, off := 0 } 4) fun b_10 => .loadB (Addr.add { block := r, off := 0 } 5) fun b_11 => .sem false (Sem.bind (eqGuard BinOp.eql 128 (Operand.tmp 68) (Operand.tmp 69) (.agg #[.bool b, .bool b_1, .bool b_2, .bool b_3, .bool b_4, .bool b_5]) (.agg #[.bool b_6, .bool b_7, .bool b_8, .bool b_9, .bool b_10, .bool b_11])) fun __r => binOp BinOp.eql 128 (.agg #[.bool b, .bool b_1, .bool b_2, .bool b_3, .bool b_4, .bool b_5]) (.agg #[.bool b_6, .bool b_7, .bool b_8, .bool b_9, .bool b_10, .bool b_11])) fun v => .unB v fun b => bif b then .leaf (.again [.int .i64 (IntKind.wrap .i64 (n + n_3))]) else .leaf (.again [.int .i64 n])))))))))))) else .unNil l (.leaf (.brk [.int .i64 n])))) (fun vs => .popI .i64 vs fun n_3 vs => .unNil vs (.call false 95 #[.int .i64 n_3, .int .i64 n_1] fun v => .unI .i64 v fun n_4 => .sem false (Instr.buildSlice 50 1 #[(0, .int .i64 n_4)]) fun v => .unS v fun a n_5 c_1 => .sem false (Builtin.append_ #[50, 50] 50 #[.slice a_2 n c, .slice a n_5 c_1]) fun v => .unS v fun a n c => .leaf (.again [.slice a n c, .int .i64 (IntKind.wrap .i64 (n_2 + 1))]))) (fun vs => .popI .i64 vs fun n_3 vs => .unNil vs (.leaf (.retn [.slice a_2 n c, .int .i64 n_2]))) fun x x_1 => .fail else .leaf (.brk [.slice a_2 n c, .int .i64 n_2]))) (fun vs => .popS vs fun a n_2 c vs => .popI .i64 vs fun n_3 vs => .unNil vs (.loop [.slice none 0 0, .int .i64 0] (fun vs => .popS vs fun a n_4 c vs => .popI .i64 vs fun n_5 vs => .unNil vs (bif decide (n_5 < (↑n : Int)) then .need (0 <= n_5 /\ n_5 < (↑n : Int)) (.someA a_1 fun a_2 => .loadI .i64 (a_2.add (n_5.toNat * 1)) fun n => .call false 95 #[.int .i64 n, .int .i64 n_1] fun v => .unI .i64 v fun n => .sem false (Instr.buildSlice 50 1 #[(0, .int .i64 n)]) fun v => .unS v fun a_3 n c_1 => .sem false (Builtin.append_ #[50, 50] 50 #[.slice a n_4 c, .slice a_3 n c_1]) fun v => .unS v fun a n c => .leaf (.again [.slice a n c, .int .i64 (IntKind.wrap .i64 (n_5 + 1))])) else .leaf (.brk [.slice a n_4 c, .int .i64 n_5]))) (fun vs => .popS vs fun a_2 n c_1 vs => .popI .i64 vs fun n_4 vs => .unNil vs (.leaf (.ret (.tuple #[.slice a n_2 c, .slice a_2 n c_1])))) (fun vs => .popS vs fun a_2 n c_1 vs => .popI .i64 vs fun n_4 vs => .unNil vs (.leaf (.ret (.tuple #[.slice a n_2 c, .slice a_2 n c_1])))) fun x x_1 => .fail)) (fun vs => .popS vs fun a n c vs => .popI .i64 vs fun n_2 vs => .unNil vs (.leaf (.ret (.tuple #[.slice a n c, .slice none 0 0])))) fun x x_1 => .fail)) (fun vs => .popI .i64 vs fun n vs => .unNil vs (.leaf (.ret (.tuple #[.slice none 0 0, .slice none 0 0])))) fun x x_1 => .fail
theorem w3152 (b_0p : Option Addr) (b_0n b_0c : Nat) (b_1p : Option Addr) (b_1n b_1c : Nat) (hX : XOK X) (hw : (n3152 b_0p b_0n b_0c b_1p b_1n b_1c).wp X Tryz.prog (retQ A) h) : FWK X Tryz.prog .normal 52 #[.agg #[.slice b_0p b_0n b_0c, .slice b_1p b_1n b_1c]] h A := fwk_neat (priv := [1, 4, 5, 6, 7, 11]) (loops := [{ id := 2, slots := [(36, .int .i64)], ro := [1, 4, 5, 6, 7], outs := [] }, { id := 0, slots := [(28672, .int .i64)], ro := [1, 4, 5], outs := [], ps := [.agg [.slice, .bool, .bool, .bool, .bool, .bool, .bool, .int .i64]] }, { id := 6, slots := [(10, .int .i64)], ro := [1, 4, 5, 6], outs := [] }, { id := 4, slots := [(2, .slice), (55, .int .i64)], ro := [1, 4, 5, 6], outs := [] }, { id := 8, slots := [(3, .slice), (83, .int .i64)], ro := [1, 4, 5, 6], outs := [] }]) (joins := [{ id := 8, slots := [], ro := [1, 4, 5, 6, 7], outs := [] }]) (fd := Tryz.f52) (by kernel_rfl) (by simp) (by kernel_rfl) (by kernel_rfl) hX hw
noncomputable def n3175 (b_0p : Option Addr) (b_0n b_0c : Nat) (b_1p : Option Addr) (b_1n b_1c : Nat) : T := .new 102 #[.slice b_0p b_0n b_0c, .slice b_1p b_1n b_1c] fun r => .leaf (.ret (.func (Fn.func 130) #[] #[.pointer (some { block := r, off := 0 })]))
theorem w3175 (b_0p : Option Addr) (b_0n b_0c : Nat) (b_1p : Option Addr) (b_1n b_1c : Nat) (hX : XOK X) (hw : (n3175 b_0p b_0n b_0c b_1p b_1n b_1c).wp X Tryz.prog (retQ A) h) : FWK X Tryz.prog .normal 94 #[.agg #[.slice b_0p b_0n b_0c, .slice b_1p b_1n b_1c]] h A := fwk_neat (priv := []) (loops := []) (joins := []) (fd := Tryz.f94) (by kernel_rfl) (by simp) (by kernel_rfl) (by kernel_rfl) hX hw
noncomputable def n3196 (yield : Value) (z0 : Addr) : T := .new 202 (Value.cells yield) fun r => .new 202 #[Value.nilFunc] fun r_1 => .store (Addr.add { block := r_1, off := 0 } 0) (.func (Fn.func 131) #[] #[.pointer (some z0), .pointer (some { block := r, off := 0 }), .pointer (some { block := r_1, off := 0 })]) (.loadV { block := r_1, off := 0 } fun v => .loadS (z0.add 0) fun p n c => .loadS (z0.add 1) fun p_1 n_1 c_1 => .call false 66 #[.agg #[.slice p n c, .slice p_1 n_1 c_1]] fun v_1 => .unAgg v_1 fun l => .popB l fun b vs => .popB vs fun b_1 vs => .popB vs fun b_2 vs => .popB vs fun b_3 vs => .popB vs fun b_4 vs => .popB vs fun b_5 vs => .unNil vs (.loadV { block := r_1, off := 0 } fun v_2 => .need (AV.val v_2 = AV.val v) (.callv false v #[.agg #[.slice none 0 0, .bool b, .bool b_1, .bool b_2, .bool b_3, .bool b_4, .bool b_5, .int .i64 0]] fun v => .unB v fun b => .leaf (.ret (.tuple #[])))))
theorem w3196 (yield : Value) (z0 : Addr) (hX : XOK X) (hw : (n3196 yield z0).wp X Tryz.prog (retQ A) h) : FWK X Tryz.prog .normal 130 #[yield, .pointer (some z0)] h A := fwk_neat (priv := []) (loops := []) (joins := []) (fd := Tryz.f130) (by kernel_rfl) (by simp) (by kernel_rfl) (by kernel_rfl) hX hw
noncomputable def n3197 (x_0p : Option Addr) (x_0n x_0c : Nat) (x_1 x_2 x_3 x_4 x_5 x_6 : Bool) (x_7 : Int) (z0 z1 z2 : Addr) : T := .loadS ((z0.add 0).add 1) fun p n c => bif (↑x_0n : Int) == (↑n : Int) then .loadV z1 fun v => .callv false v #[.agg #[.slice x_0p x_0n x_0c, .bool x_1, .bool x_2, .bool x_3, .bool x_4, .bool x_5, .bool x_6, .int .i64 x_7]] fun v => .unB v fun b => .leaf (.ret (.bool b)) else .call false 50 #[.slice x_0p x_0n x_0c] fun v => .unI .i64 v fun n => .loadS ((z0.add 0).add 1) fun p n_1 c => .loop [.bool false, .int .i64 0] (fun vs => .popB vs fun b vs => .popI .i64 vs fun n_2 vs => .unNil vs (bif decide (n_2 < (↑n_1 : Int)) then .need (0 <= n_2 /\ n_2 < (↑n_1 : Int)) (.someA p fun a => .loadStr ((a.add (n_2.toNat * 4)).add 0) fun s => .loadI .i64 ((a.add (n_2.toNat * 4)).add 1) fun n_3 => .loadS ((a.add (n_2.toNat * 4)).add 2) fun p n_4 c => .loadS ((a.add (n_2.toNat * 4)).add 3) fun p n_5 c => .need (0 <= n_2) (bif IntKind.wrap .i64 (↑(BitVec.toNat (BitVec.ofInt 64 (Int.fdiv n (2 ^ min (n_2.toNat) 64)) &&& BitVec.ofInt 64 1)) : Int) == 1 then .leaf (.again [.bool b, .int .i64 (IntKind.wrap .i64 (n_2 + 1))]) else .call false 50 #[.slice p n_5 c] fun v => .unI .i64 v fun n_6 => bif IntKind.wrap .i64 (↑(BitVec.toNat (BitVec.ofInt 64 n_6 &&& ~~~BitVec.ofInt 64 n)) : Int) != 0 then .leaf (.again [.bool b, .int .i64 (IntKind.wrap .i64 (n_2 + 1))]) else .loadV z2 fun v => .loadS (z0.add 0) fun p n c => .loadS (z0.add 1) fun p_1 n_7 c_1 => .call false 69 #[.agg #[.slice p n c, .slice p_1 n_7 c_1], .agg #[.slice x_0p x_0n x_0c, .bool x_1, .bool x_2, .bool x_3, .bool x_4, .bool x_5, .bool x_6, .int .i64 x_7], .int .i64 n_2] fun v_1 => .unAgg v_1 fun l => .popS l fun a n c vs => .popB vs fun b_1 vs => .popB vs fun b_2 vs => .popB vs fun b_3 vs => .popB vs fun b_4 vs => .popB vs fun b_5 vs => .popB vs fun b_6 vs => .popI .i64 vs fun n_8 vs => .unNil vs (.loadV z2 fun v_2 => .need (AV.val v_2 = AV.val v) (.callv false v #[.agg #[.slice a n c, .bool b_1, .bool b_2, .bool b_3, .bool b_4, .bool b_5, .bool b_6, .int .i64 n_8]] fun v => .unB v fun b_7 => bif !b_7 then .leaf (.retn [.bool false, .int .i64 n_2]) else .leaf (.again [.bool b, .int .i64 (IntKind.wrap .i64 (n_2 + 1))]))))) else .leaf (.brk [.bool b, .int .i64 n_2]))) (fun vs => .popB vs fun b vs => .popI .i64 vs fun n vs => .unNil vs (.leaf (.ret (.bool true)))) (fun vs => .popB vs fun b vs => .popI .i64 vs fun n vs => .unNil vs (.leaf (.ret (.bool b)))) fun x x_8 => .fail
theorem w3197 (x_0p : Option Addr) (x_0n x_0c : Nat) (x_1 x_2 x_3 x_4 x_5 x_6 : Bool) (x_7 : Int) (z0 z1 z2 : Addr) (hX : XOK X) (hw : (n3197 x_0p x_0n x_0c x_1 x_2 x_3 x_4 x_5 x_6 x_7 z0 z1 z2).wp X Tryz.prog (retQ A) h) : FWK X Tryz.prog .normal 131 #[.agg #[.slice x_0p x_0n x_0c, .bool x_1, .bool x_2, .bool x_3, .bool x_4, .bool x_5, .bool x_6, .int .i64 x_7], .pointer (some z0), .pointer (some z1), .pointer (some z2)] h A := fwk_neat (priv := [4, 8]) (loops := [{ id := 0, slots := [(5, .bool), (27, .int .i64)], ro := [4], outs := [] }]) (joins := []) (fd := Tryz.f131) (by kernel_rfl) (by simp) (by kernel_rfl) (by kernel_rfl) hX hw
end Go.Proofs.YtgljffachdhigaaGreatDoor
end
section
namespace Go.Proofs.YtgljffachdhigaaGreatDoor
open Go Go.TM Go.Proofs Go.TM.Rv
attribute [local irreducible] T.wp CV FWK
theorem look_bits {b : RvBook} {i : Nat} {c : RvCase} (hc : b.cases[i]? = some c) {D : Nat} {p : Nat -> Bool} (hp : ∀ j, D.testBit j = p j) : (afterN b i).all p = subB (bitsT c.after) D := by
 rw [sub_bits]
 unfold afterN
 rw [hc]
 show (c.after.map Int.toNat).all p = _
 rw [List.all_map]
 congr 1
 funext v
 exact (hp _).symm
theorem after_in {b : RvBook} (o : BookShape b) {c : RvCase} (hc : c ∈ b.cases) : ∀ v ∈ c.after, 0 <= v /\ v < 6 := fun v hv => by
 have h1 := (o.after c hc).2 v hv
 have h2 := o.cases
 omega
theorem bits_after {b : RvBook} (o : BookShape b) {c : RvCase} (hc : c ∈ b.cases) : bitsT c.after < 64 := bits_lt (k := 6) fun v hv => by have := after_in o hc v hv; omega
theorem pow_le6 {n : Nat} (h : n <= 5) : 2 ^ n <= 32 := by
 have : 2 ^ n <= 2 ^ 5 := Nat.pow_le_pow_right (by omega) h
 omega
theorem full_bits {n D : Nat} (h1 : D < 2 ^ n) (h2 : ∀ i, i < n -> D.testBit i = true) : D = 2 ^ n - 1 := by
 refine Nat.eq_of_testBit_eq fun i => ?_
 rw [Nat.testBit_two_pow_sub_one]
 by_cases e : i < n
 ·rw [h2 i e, decide_eq_true e]
 ·rw [decide_eq_false e, Nat.testBit_lt_two_pow (Nat.lt_of_lt_of_le h1 (Nat.pow_le_pow_right (by omega) (by omega)))]
theorem c3250 {h : LH} {f : BookC} {b : RvBook} (hr : BookR h.get f b) (o : BookShape b) (hac : Acyc b) : Pu Tryz.prog 203 #[bookV f] h (.int .i64 0) := by
 refine w3250 _ _ _ _ _ _ X0_ok ?_
 unfold n3250
 have hn1 := hr.cases.1
 have hb1 := hr.cases.2.1
 have h5 := o.cases
 have hp6 := pow_le6 h5
 refine t_loop (fun mm vs h' => h = h' /\ ∃ (k D : Nat), vs = [.int .i64 (D : Int), .int .i64 k] /\ k <= f.n1 /\ mm = f.n1 - k /\ D < 2 ^ b.cases.length /\ ∀ j, D.testBit j = rounds (afterN b) b.cases.length k (fun _ => false) j)
  ⟨rfl, 0, 0, rfl, Nat.zero_le _, rfl, Nat.pow_pos (by omega), fun j => Nat.zero_testBit j⟩ ?_
 rintro Y mm vs _ hY ⟨rfl, k, D, rfl, hk, rfl, hD, hbits⟩
 refine gZ ?_
 refine t_if (fun e1 => ?_) (fun e1 => ?_)
 ·refine t_loop (fun mm vs h' => h = h' /\ ∃ (i D' : Nat), vs = [.int .i64 (D' : Int), .int .i64 i] /\ i <= f.n1 /\ mm = f.n1 - i /\ D' < 2 ^ b.cases.length /\ ∀ j, D'.testBit j = Rv.part (afterN b) i (rounds (afterN b) b.cases.length k fun _ => false) j)
   ⟨rfl, 0, D, rfl, Nat.zero_le _, rfl, hD, hbits⟩ ?_
  rintro Y2 mm vs _ hY2 ⟨rfl, i, D', rfl, hi, rfl, hD', hbits'⟩
  refine gZ ?_
  refine t_if (fun e2 => ?_) (fun e2 => ?_)
  ·obtain ⟨c, a, hx, ha, g2, g3, ⟨q, n, k', g4, g5⟩, q', n', k2, g6, g7⟩ := hr.cases.at (i := i) (by omega)
   have hin : 0 <= (i : Int) /\ (i : Int) < (f.n1 : Int) := by omega
   have hcm := List.mem_of_getElem? hx
   have hlook := look_bits hx hbits'
   have hsub := sub_at (bits_after o hcm) (show D' < 64 by omega)
   have hor := or_shl (x := D') (n := i) (by omega) (by omega)
   have hi5 : i < b.cases.length := by omega
   refine gZ ?_
   repeat ((first | refine t_loadStr (by assumption) ?_ | refine t_loadV (by assumption) ?_ | refine gL0 (by assumption) ?_); refine gZ ?_)
   refine t_pu (c3150 g7 (after_in o hcm)) ?_
   have hsub' : (IntKind.i64.wrap (((BitVec.ofInt 64 ((bitsT c.after : Nat) : Int)) &&& ~~~(BitVec.ofInt 64 (D' : Int))).toNat : Int) == 0) = subB (bitsT c.after) D' := by
    have := hsub
    cases hs : subB (bitsT c.after) D' with
    | true => rw [hs] at this; simpa using this
    | false => rw [hs] at this; simpa using this
   refine gZ ?_
   rw [hsub']
   refine t_cond (fun g => ?_) (fun g => ?_)
   ·refine gZ ?_
    rw [hor]
    refine t_again (hY2 (f.n1 - (i + 1)) _ _ (by omega) ⟨rfl, i + 1, D' ||| 2 ^ i, ?_, by omega, rfl, Nat.or_lt_two_pow hD' (Nat.pow_lt_pow_right (by omega) hi5), fun j => ?_⟩)
    ·rw [wrap_id (n := (i : Int) + 1) (by omega) (by omega)]; rfl
    ·show _ = Rv.look (afterN b) i (Rv.part (afterN b) i _) j
     unfold Rv.look
     rw [hlook, g, if_pos rfl, Nat.testBit_or, hbits', Nat.testBit_two_pow]
     congr 1
     rw [Bool.eq_iff_iff, decide_eq_true_eq, beq_iff_eq]
     exact eq_comm
   ·refine t_again (hY2 (f.n1 - (i + 1)) _ _ (by omega) ⟨rfl, i + 1, D', ?_, by omega, rfl, hD', fun j => ?_⟩)
    ·rw [wrap_id (n := (i : Int) + 1) (by omega) (by omega)]; rfl
    ·show _ = Rv.look (afterN b) i (Rv.part (afterN b) i _) j
     unfold Rv.look
     rw [hlook, g, if_neg (by simp), hbits']
  ·refine gZ ?_
   have : i = b.cases.length := by omega
   subst this
   refine t_again (hY (f.n1 - (k + 1)) _ _ (by omega) ⟨rfl, k + 1, D', ?_, by omega, rfl, hD', hbits'⟩)
   rw [wrap_id (n := (k : Int) + 1) (by omega) (by omega)]; rfl
 ·refine gZ ?_
  have hkn : k = b.cases.length := by omega
  have hfull := full_bits hD fun i hi => by
   rw [hbits, hkn]
   exact all_done o.afterN (no_must o hac) _ i hi
  have e2 : IntKind.i64.wrap (1 * 2 ^ (min ((f.n1 : Int)).toNat 64)) = ((2 ^ f.n1 : Nat) : Int) := shl_one (by omega)
  rw [e2, wrap_id (n := ((2 ^ f.n1 : Nat) : Int) - 1) (by rw [hn1]; omega) (by rw [hn1]; omega)]
  have e3 : (((D : Nat) : Int) != ((2 ^ f.n1 : Nat) : Int) - 1) = false := by
   have hpos : 0 < 2 ^ b.cases.length := Nat.pow_pos (by omega)
   rw [hfull, hn1]
   simp only [bne_eq_false_iff_eq]
   omega
  rw [e3]
  refine t_cond (fun e => by cases e) (fun _ => ?_)
  exact t_ret ⟨rfl, rfl⟩
def Checks (h : Cells) : Prop := h.cell? ⟨0, 0, none⟩ = some (.func (.func 201) #[] #[]) /\ h.cell? ⟨0, 1, none⟩ = some (.func (.func 202) #[] #[]) /\ h.cell? ⟨0, 2, none⟩ = some (.func (.func 203) #[] #[])
theorem Checks.rd {h h' : Cells} (hl : Rd h h') (c : Checks h) : Checks h' := ⟨hl _ _ c.1, hl _ _ c.2.1, hl _ _ c.2.2⟩
theorem Checks.le {h h' : Cells} (hl : h.le h') (c : Checks h) : Checks h' := c.rd (Rd.of_le hl)
theorem und1207 : Tryz.prog.underlying 160 = some (.array 3 159) := by kernel_rfl
theorem inf1206 : (Tryz.prog.info? 159).map (fun i => (i.size, i.bytes, i.zero)) = some (1, 8, some .nilFunc) := by kernel_rfl
theorem agg1206 : isAggT Tryz.prog 159 = false := by kernel_rfl
theorem undF1206 : ∃ d, Tryz.prog.underlying 159 = some d := by
 have h : (Tryz.prog.underlying 159).isSome = true := by kernel_rfl
 exact Option.isSome_iff_exists.1 h
theorem c3151 {h : LH} (hc : Checks h.get) {f : BookC} {b : RvBook} (hr : BookR h.get f b) (ok : BookOk b) : Gr Tryz.prog 51 #[bookV f] h fun r _ => r = .int .i64 0 := by
 refine w3151 _ _ _ _ _ _ X0_ok ?_
 unfold n3151
 obtain ⟨c0, c1, c2⟩ := hc
 have z0 : h.get.cell? (Addr.add { block := 0, off := 0 } 0) = some (.func (.func 201) #[] #[]) := c0
 have z1 : h.get.cell? (Addr.add { block := 0, off := 0 } 1) = some (.func (.func 202) #[] #[]) := c1
 have z2 : h.get.cell? (Addr.add { block := 0, off := 0 } 2) = some (.func (.func 203) #[] #[]) := c2
 obtain ⟨d, hd⟩ := undF1206
 refine t_loadV z0 ?_
 refine t_loadV z1 ?_
 refine t_loadV z2 ?_
 refine t_loop (fun mm vs h' => h.le h' /\ ∃ i : Nat, vs = [.int .i64 0, .int .i64 i] /\ i <= 3 /\ mm = 3 - i) ⟨LH.le_refl _, 0, rfl, by omega, rfl⟩ ?_
 rintro Y mm vs h2 hY ⟨le2, i, rfl, hi, rfl⟩
 have hr2 := hr.le le2.1
 refine gZ ?_
 refine t_if (fun e2 => ?_) (fun e2 => ?_)
 ·have next : ∀ h3 : LH, h2.le h3 -> Y [.int .i64 0, .int .i64 (IntKind.wrap .i64 ((i : Int) + 1))] h3 := fun h3 le3 => by
   refine hY (3 - (i + 1)) _ _ (by omega) ⟨LH.le_trans le2 le3, i + 1, ?_, by omega, rfl⟩
   rw [wrap_id (by omega) (by omega)]; rfl
  have run : ∀ (fid : FuncId), Gr Tryz.prog fid #[bookV f] h2 (fun r _ => r = .int .i64 0) -> CV X0 Tryz.prog (.func (.func fid) #[] #[]) #[bookV f] h2 fun r h' => h2.le h' /\ r = .int .i64 0 := fun fid hg => cv_fw X0_ok (by rfl) hg
  match i, e2, next with
  | 0, _, next =>
   refine t_index (i := 0) und1207 inf1206 hd agg1206 (by omega) rfl ?_
   refine t_callv (run _ (c3248 hr2 ok)) ?_
   rintro _ h3 ⟨le3, rfl⟩
   refine gZ ?_
   refine t_cond (fun e => by cases e) (fun _ => ?_)
   exact t_again (next h3 le3)
  | 1, _, next =>
   refine t_index (i := 1) und1207 inf1206 hd agg1206 (by omega) rfl ?_
   refine t_callv (run _ (c3249 hr2 ok)) ?_
   rintro _ h3 ⟨le3, rfl⟩
   refine gZ ?_
   refine t_cond (fun e => by cases e) (fun _ => ?_)
   exact t_again (next h3 le3)
  | 2, _, next =>
   refine t_index (i := 2) und1207 inf1206 hd agg1206 (by omega) rfl ?_
   refine t_callv (run _ (FW.mono (c3250 hr2 ok.toBookShape ok.acyc) ?_)) ?_
   ·rintro v h' ⟨rfl, rfl⟩; exact ⟨LH.le_refl _, rfl⟩
   rintro _ h3 ⟨le3, rfl⟩
   refine gZ ?_
   refine t_cond (fun e => by cases e) (fun _ => ?_)
   exact t_again (next h3 le3)
 ·refine gZ ?_
  exact t_ret ⟨le2, rfl⟩
end Go.Proofs.YtgljffachdhigaaGreatDoor
end
section
namespace Go.Proofs.YtgljffachdhigaaGreatDoor
open Go Go.TM Go.Proofs Go.TM.Rv
attribute [local irreducible] T.wp CV FWK
def firstB (i : Nat) : List Bool := (List.range 6).map fun j => decide (j < i)
theorem firstB_at (i : Nat) {j : Nat} (hj : j < 6) : (firstB i)[j]? = some (decide (j < i)) := by
 show ((List.range 6).map _)[j]? = _
 rw [List.getElem?_map, List.getElem?_range hj]; rfl
theorem firstB_set {i : Nat} (hi : i < 6) : (firstB i).set i true = firstB (i + 1) := by
 have : ∀ k : Fin 6, (firstB k).set k true = firstB (k + 1) := by decide
 exact this ⟨i, hi⟩
theorem c3156 {h : LH} {f : BookC} {b : RvBook} (hr : BookR h.get f b) (h6 : b.rights.length <= 6) : Gr Tryz.prog 66 #[bookV f] h fun r _ => r = .agg #[.bool (decide (0 < b.rights.length)), .bool (decide (1 < b.rights.length)), .bool (decide (2 < b.rights.length)), .bool (decide (3 < b.rights.length)), .bool (decide (4 < b.rights.length)), .bool (decide (5 < b.rights.length))] := by
 refine w3156 _ _ _ _ _ _ X0_ok ?_
 unfold n3156
 have hn := hr.rights.1
 refine t_new fun r hr0 => ?_
 refine t_loop (fun mm vs h' => h.le h' /\ ∃ i : Nat, vs = [.int .i64 i] /\ i <= f.n0 /\ mm = f.n0 - i /\ h'.get r = some (true, .cells (BoolsV (firstB i)) 128 (0, 0)))
  ⟨LH.upd_le hr0, 0, rfl, Nat.zero_le _, rfl, Cells.upd_self _ _ _⟩ ?_
 rintro Y mm vs h1 hY ⟨le1, i, rfl, hi, rfl, e1⟩
 refine gZ ?_
 refine t_if (fun e2 => ?_) (fun e2 => ?_)
 ·have hin : 0 <= (i : Int) /\ (i : Int) < ((6 : Nat) : Int) := by omega
  refine gZ ?_
  refine t_storeC (j := i) (by rw [add_plain, add_plain]; simp) e1 (by rw [boolsV_size]; simp [firstB]; omega) rfl fun h2 t2 e3 => ?_
  rw [boolsV_set, firstB_set (by omega)] at e3
  refine t_again (hY (f.n0 - (i + 1)) _ _ (by omega) ⟨t2.le le1 hr0, i + 1, ?_, by omega, rfl, e3⟩)
  rw [wrap_id (by omega) (by omega)]; rfl
 ·have hi2 : i = b.rights.length := by omega
  subst hi2
  have l0 := bools_cell e1 (firstB_at b.rights.length (j := 0) (by omega))
  have l1 := bools_cell e1 (firstB_at b.rights.length (j := 1) (by omega))
  have l2 := bools_cell e1 (firstB_at b.rights.length (j := 2) (by omega))
  have l3 := bools_cell e1 (firstB_at b.rights.length (j := 3) (by omega))
  have l4 := bools_cell e1 (firstB_at b.rights.length (j := 4) (by omega))
  have l5 := bools_cell e1 (firstB_at b.rights.length (j := 5) (by omega))
  refine gZ ?_
  exact t_ret ⟨le1, rfl⟩
def runCells (p : Option Addr) (n c : Nat) (s0 s1 s2 s3 s4 s5 : Bool) (w : Int) : Array Value := #[.slice p n c, .bool s0, .bool s1, .bool s2, .bool s3, .bool s4, .bool s5, .int .i64 w]
theorem run_cell {h : Cells} {r : Nat} {el : TypeId} {p : Option Addr} {n c : Nat} {s0 s1 s2 s3 s4 s5 : Bool} {w : Int} (hr : h r = some (true, .cells (runCells p n c s0 s1 s2 s3 s4 s5 w) el (0, 0))) {j : Nat} {v : Value} (hv : (runCells p n c s0 s1 s2 s3 s4 s5 w)[j]? = some v) : h.cell? (Addr.add ⟨r, 0, none⟩ j) = some v := by
 rw [add_plain, Nat.zero_add]
 unfold Cells.cell?
 rw [hr]
 exact hv
theorem grow_tn {α : Type} {Enc : α -> List Value -> Prop} {el : TypeId} {k : Nat} {h₀ : Cells} {h h' : LH} {p : Option Addr} {n c : Nat} {l : List α} {r : Nat} (t : Tn r h h') (hne : ∀ a, p = some a -> a.block ≠ r) (g : Growing Enc el k h₀ h.get p n c l) : Growing Enc el k h₀ h'.get p n c l := by
 obtain ⟨vs, ⟨h1, h2⟩, h3⟩ := g.row
 refine ⟨⟨vs, ⟨h1, ?_⟩, h3⟩, g.new⟩
 rcases h2 with h2 | ⟨r', cs, e1, e2, e3⟩
 ·exact .inl h2
 ·exact .inr ⟨r', cs, e1, by rw [t.keep _ (hne _ e1)]; exact e2, e3⟩
theorem sl_tn {h h' : LH} {r r' n : Nat} {l : List Int} (t : Tn r h h') (hne : r' ≠ r) (s : Sl IntE 1 h.get (some ⟨r', 0, none⟩) n l) : Sl IntE 1 h'.get (some ⟨r', 0, none⟩) n l := by
 refine ⟨s.1, s.2.1, fun i x hx => ?_⟩
 obtain ⟨a, ha, he⟩ := s.2.2 i x hx
 cases ha
 refine ⟨_, rfl, ?_⟩
 unfold IntE at he ⊢
 rw [add_plain, add_plain] at he ⊢
 unfold Cells.cell? at he ⊢
 rw [t.keep _ hne]
 exact he
theorem book_at {h : Cells} {f : BookC} {b : RvBook} (hr : BookR h f b) {i : Nat} {c : RvCase} (hc : b.cases[i]? = some c) : ∃ a, f.p1 = some a /\ CaseE h (a.add (i * 4)) c := hr.cases.2.2 i c hc
theorem run_set {p : Option Addr} {n c : Nat} {w : Int} (s0 s1 s2 s3 s4 s5 : Bool) (j : Nat) (hj : j < 6) : ∃ t0 t1 t2 t3 t4 t5, (runCells p n c s0 s1 s2 s3 s4 s5 w).setIfInBounds (1 + j) (.bool false) = runCells p n c t0 t1 t2 t3 t4 t5 w /\ [s0, s1, s2, s3, s4, s5].set j false = [t0, t1, t2, t3, t4, t5] :=
 match j, hj with
 | 0, _ => ⟨_, _, _, _, _, _, rfl, rfl⟩
 | 1, _ => ⟨_, _, _, _, _, _, rfl, rfl⟩
 | 2, _ => ⟨_, _, _, _, _, _, rfl, rfl⟩
 | 3, _ => ⟨_, _, _, _, _, _, rfl, rfl⟩
 | 4, _ => ⟨_, _, _, _, _, _, rfl, rfl⟩
 | 5, _ => ⟨_, _, _, _, _, _, rfl, rfl⟩
theorem c3158 {h : LH} {f : BookC} {b : RvBook} (hr : BookR h.get f b) (o : BookShape b) {i : Nat} {c : RvCase} (hc : b.cases[i]? = some c) {order : List Int} {w : Nat} {p : Option Addr} {n k : Nat} (hnk : n <= k) (hx : Sl IntE 1 h.get p n order) (hlen : order.length <= 100) (hw : w < 64) (s0 s1 s2 s3 s4 s5 : Bool) :
  Gr Tryz.prog 69 #[bookV f, .agg #[.slice p n k, .bool s0, .bool s1, .bool s2, .bool s3, .bool s4, .bool s5, .int .i64 w], .int .i64 i] h fun r h' => ∃ p' n' k' t0 t1 t2 t3 t4 t5, r = .agg #[.slice p' n' k', .bool t0, .bool t1, .bool t2, .bool t3, .bool t4, .bool t5, .int .i64 ((endedT ⟨order, [s0, s1, s2, s3, s4, s5], w⟩ i c).won : Nat)] /\
   (endedT ⟨order, [s0, s1, s2, s3, s4, s5], w⟩ i c).s = [t0, t1, t2, t3, t4, t5] /\ n' <= k' /\ Sl IntE 1 h'.get p' n' (endedT ⟨order, [s0, s1, s2, s3, s4, s5], w⟩ i c).order /\ ∃ r', p' = some ⟨r', 0, none⟩ /\ h.get r' = none := by
 refine w3158 _ _ _ _ _ _ _ _ _ _ _ _ _ _ _ _ _ X0_ok ?_
 unfold n3158
 have hn := hx.1
 have hn1 := hr.cases.1
 have hil := (List.getElem?_eq_some_iff.1 hc).1
 have h5 := o.cases
 have hcm := List.mem_of_getElem? hc
 have hag := o.against c hcm
 have h6 := o.rights
 refine t_new fun r hr0 => ?_
 have le1 : h.le { h with get := h.get.upd r (true, .cells #[.slice p n k, .bool s0, .bool s1, .bool s2, .bool s3, .bool s4, .bool s5, .int .i64 w] 131 (0, 0)) } := LH.upd_le hr0
 have e1 : (h.get.upd r (true, .cells #[.slice p n k, .bool s0, .bool s1, .bool s2, .bool s3, .bool s4, .bool s5, .int .i64 w] 131 (0, 0))) r = some (true, .cells (runCells p n k s0 s1 s2 s3 s4 s5 w) 131 (0, 0)) := Cells.upd_self _ _ _
 generalize hh1 : ({ h with get := h.get.upd r (true, .cells #[.slice p n k, .bool s0, .bool s1, .bool s2, .bool s3, .bool s4, .bool s5, .int .i64 w] 131 (0, 0)) } : LH) = h1 at *
 replace e1 : h1.get r = some (true, .cells (runCells p n k s0 s1 s2 s3 s4 s5 w) 131 (0, 0)) := by rw [<- hh1]; exact e1
 have l0 := run_cell e1 (j := 0) rfl
 refine gZ ?_
 refine t_slice3 und50 inf3 hnk ?_
 refine gZ ?_
 refine t_build und50 inf3 (by decide) (by decide) (cells := #[.int .i64 i]) (by kernel_rfl) fun r2 hr2 => ?_
 have le2 := LH.upd_le (h := h1) (x := (true, .cells #[.int .i64 (i : Int)] 3 (0, 0))) hr2
 have z2 : (h1.get.upd r2 (true, .cells #[.int .i64 (i : Int)] 3 (0, 0))).cell? (Addr.add ⟨r2, 0, none⟩ 0) = some (.int .i64 (i : Int)) := cell_upd rfl
 generalize hh2 : ({ h1 with get := h1.get.upd r2 (true, .cells #[.int .i64 (i : Int)] 3 (0, 0)) } : LH) = h2 at *
 replace z2 : h2.get.cell? (Addr.add ⟨r2, 0, none⟩ 0) = some (.int .i64 (i : Int)) := by rw [<- hh2]; exact z2
 have le02 := LH.le_trans le1 le2
 refine gZ ?_
 refine t_appendFull rfl rfl und50 und50 inf3 (by decide) (by omega) (hx.le IntE.grow le02.1) z2 fun r3 k3 h3 hr3 le3 hk3 g3 => ?_
 have le03 := LH.le_trans le02 le3
 have e3 := le3.1 _ _ (le2.1 _ _ e1)
 have hne : r3 ≠ r := fun e => by rw [e, le2.1 _ _ e1] at hr3; cases hr3
 refine gZ ?_
 refine t_storeC (j := 0) (by rw [add_plain, add_plain]) e3 (by show 0 < 8; omega) rfl fun h4 t4 e4 => ?_
 have le04 := t4.le le03 hr0
 have g4 := grow_tn t4 (fun a ha => by cases ha; exact hne) g3
 have e4' : h4.get r = some (true, .cells (runCells (some ⟨r3, 0, none⟩) (n + 1) k3 s0 s1 s2 s3 s4 s5 w) 131 (0, 0)) := e4
 obtain ⟨a, ha, x0, x1, ⟨q, m, kq, x2, x3⟩, q', m', k', x6, x7⟩ := book_at (hr.le le04.1) hc
 have m1 := run_cell e4' (j := 1) rfl
 have m2 := run_cell e4' (j := 2) rfl
 have m3 := run_cell e4' (j := 3) rfl
 have m4 := run_cell e4' (j := 4) rfl
 have m5 := run_cell e4' (j := 5) rfl
 have m6 := run_cell e4' (j := 6) rfl
 have hin : 0 <= (i : Int) /\ (i : Int) < (f.n1 : Int) := by omega
 refine gZ ?_
 repeat ((first | refine t_loadStr (by assumption) ?_ | refine t_loadV (by assumption) ?_ | refine gL0 (by assumption) ?_); refine gZ ?_)
 refine t_gr (c3179 x3 (gs := c.grounds) (fun g hg v hv => by have := ((o.grounds c hcm).2 g hg).2.2 v hv; omega) s0 s1 s2 s3 s4 s5) ?_
 rintro _ h5' le5 rfl
 have le05 := LH.le_trans le04 le5
 have e5 := le5.1 _ _ e4'
 have g5 := g4.le le5.1
 have sl5 := fun (h' : LH) (t : Tn r h5' h') => (grow_tn t (fun a ha => by cases ha; exact hne) g5).sl IntEnc.len (by omega) IntEnc.e (by simp; omega)
 refine gZ ?_
 refine t_cond (fun g => ?_) (fun g => ?_)
 ·have n7 := run_cell e5 (j := 7) rfl
  have hwins : winsT c [s0, s1, s2, s3, s4, s5] = true := g
  have hor := or_shl (x := w) (n := i) hw (by omega)
  have hag6 : 0 <= c.against /\ c.against < ((6 : Nat) : Int) := by omega
  refine gZ ?_
  rw [hor]
  refine t_storeC (j := 7) (by rw [add_plain, add_plain]) e5 (by show 7 < 8; omega) rfl fun h6' t6 e6 => ?_
  have e6' : h6'.get r = some (true, .cells (runCells (some ⟨r3, 0, none⟩) (n + 1) k3 s0 s1 s2 s3 s4 s5 ((w ||| 2 ^ i : Nat) : Int)) 131 (0, 0)) := e6
  refine gZ ?_
  refine t_storeC (j := 1 + c.against.toNat) (by rw [add_plain, add_plain, add_plain]; simp) e6' (by show _ < 8; omega) rfl fun h7 t7 e7 => ?_
  obtain ⟨t0, t1, t2, t3, t4, t5, q1, q2⟩ := run_set (p := some ⟨r3, 0, none⟩) (n := n + 1) (c := k3) (w := ((w ||| 2 ^ i : Nat) : Int)) s0 s1 s2 s3 s4 s5 c.against.toNat (by omega)
  rw [q1] at e7
  have t57 := t6.trans t7
  have n0 := run_cell e7 (j := 0) rfl
  have n1 := run_cell e7 (j := 1) rfl
  have n2 := run_cell e7 (j := 2) rfl
  have n3 := run_cell e7 (j := 3) rfl
  have n4 := run_cell e7 (j := 4) rfl
  have n5 := run_cell e7 (j := 5) rfl
  have n6 := run_cell e7 (j := 6) rfl
  have n7' := run_cell e7 (j := 7) rfl
  refine gZ ?_
  refine t_ret ⟨t57.le le05 hr0, some ⟨r3, 0, none⟩, n + 1, k3, t0, t1, t2, t3, t4, t5, ?_, ?_, hk3, ?_, r3, rfl, none_le le02 hr3⟩
  ·unfold endedT; rw [if_pos hwins]
  ·unfold endedT; rw [if_pos hwins]; exact q2
  ·unfold endedT; rw [if_pos hwins]; exact sl5 _ t57
 ·have n0 := run_cell e5 (j := 0) rfl
  have n1 := run_cell e5 (j := 1) rfl
  have n2 := run_cell e5 (j := 2) rfl
  have n3 := run_cell e5 (j := 3) rfl
  have n4 := run_cell e5 (j := 4) rfl
  have n5 := run_cell e5 (j := 5) rfl
  have n6 := run_cell e5 (j := 6) rfl
  have n7 := run_cell e5 (j := 7) rfl
  have hwins : winsT c [s0, s1, s2, s3, s4, s5] = false := g
  refine gZ ?_
  refine t_ret ⟨le05, some ⟨r3, 0, none⟩, n + 1, k3, s0, s1, s2, s3, s4, s5, ?_, ?_, hk3, ?_, r3, rfl, none_le le02 hr3⟩
  ·unfold endedT; rw [if_neg (by rw [hwins]; simp)]
  ·unfold endedT; rw [if_neg (by rw [hwins]; simp)]
  ·unfold endedT; rw [if_neg (by rw [hwins]; simp)]; exact sl5 _ (Tn.refl _ _)
end Go.Proofs.YtgljffachdhigaaGreatDoor
end
section
namespace Go.Proofs.YtgljffachdhigaaGreatDoor
open Go Go.TM Go.Proofs Go.TM.Rv
attribute [local irreducible] T.wp CV FWK
theorem cv_one {P : Program} {y : Value} {args : Array Value} {h : LH} {Q : Value -> LH -> Prop} (c : CV X0 P y args h Q) : y.cells = #[y] := by
 cases y with
 | agg cs =>
  exfalso
  unfold CV at c
  have := c true (fun _ _ => True) ⟨⟨fun _ _ _ _ _ _ => trivial, fun _ _ _ _ _ => trivial⟩, trivial⟩ default [] fun _ _ _ _ _ => trivial
  exact this
 | _ => rfl
theorem drop_range {n i : Nat} (h : i < n) : (List.range n).drop i = i :: (List.range n).drop (i + 1) := by
 rw [List.drop_eq_getElem_cons (by rw [List.length_range]; exact h), List.getElem_range]
theorem ended_won {x : RvRun} {i : Nat} {c : RvCase} (hw : x.won < 64) (hi : i < 6) : (endedT x i c).won < 64 := by
 unfold endedT
 split
 ·exact Nat.or_lt_two_pow (n := 6) hw (Nat.pow_lt_pow_right (by omega) hi)
 ·exact hw
def runV (p : Option Addr) (n c : Nat) (s : List Bool) (w : Nat) : Value := .agg ((Value.slice p n c :: s.map Value.bool) ++ [Value.int .i64 w]).toArray
def NextRun (s : List RvRun) (xs : List Value) (s' : List RvRun) : Prop := ∃ x p n c, s = x :: s' /\ xs = [runV p n c x.s x.won]
structure NextM (h : Cells) (f : BookC) (z0 z1 z2 : Addr) (y : Value) : Prop where
 b0 : h.cell? (z0.add 0) = some (.slice f.p0 f.n0 f.c0)
 b1 : h.cell? (z0.add 1) = some (.slice f.p1 f.n1 f.c1)
 b2 : h.cell? ((z0.add 0).add 1) = some (.slice f.p1 f.n1 f.c1)
 y : y.cells = #[y] -> h.cell? z1 = some y
 nx : h.cell? z2 = some (.func (.func 131) #[] #[.pointer (some z0), .pointer (some z1), .pointer (some z2)])
theorem NextM.le {h h' : Cells} {f : BookC} {z0 z1 z2 : Addr} {y : Value} (hl : h.le h') (m : NextM h f z0 z1 z2 y) : NextM h' f z0 z1 z2 y :=
 ⟨Cells.cell?_le hl m.b0, Cells.cell?_le hl m.b1, Cells.cell?_le hl m.b2, fun e => Cells.cell?_le hl (m.y e), Cells.cell?_le hl m.nx⟩
set_option maxRecDepth 10000 in
theorem next_ok {h₀ : LH} {f : BookC} {b : RvBook} (hr : BookR h₀.get f b) (o : BookShape b) {z0 z1 z2 : Addr} {y : Value} {J : List RvRun -> LH -> Prop} {E : LH -> Prop}
  (hyield : ∀ s h xs s', h₀.le h -> NextRun s xs s' -> J s h -> CV X0 Tryz.prog y xs.toArray h fun b h' => h₀.le h' /\ ((b = .bool true /\ J s' h') \/ (b = .bool false /\ E h'))) :
  ∀ (k : Nat) (order : List Int) (s0 s1 s2 s3 s4 s5 : Bool) (w : Nat) (a : LH) (M : Cells) (rest : List RvRun) (p : Option Addr) (n c : Nat), order.length + k = b.cases.length -> (∀ v ∈ order, 0 <= v /\ v < 6) -> w < 64 -> n <= c -> Sl IntE 1 a.get p n order -> NextM a.get f z0 z1 z2 y -> h₀.le a -> Disj a.get M ->
   J (runsT b k ⟨order, [s0, s1, s2, s3, s4, s5], w⟩ ++ rest) (h₀.add M) ->
   FW X0 Tryz.prog 131 #[.agg #[.slice p n c, .bool s0, .bool s1, .bool s2, .bool s3, .bool s4, .bool s5, .int .i64 w], .pointer (some z0), .pointer (some z1), .pointer (some z2)] (a.add M) fun r h' => ∃ a' M', h' = a'.add M' /\ a.le a' /\ Disj a'.get M' /\ ((r = .bool true /\ J rest (h₀.add M')) \/ (r = .bool false /\ E (h₀.add M'))) := by
 intro k
 induction k with
 | zero =>
  intro order s0 s1 s2 s3 s4 s5 w a M rest p n c hlen hin hw hnc hs m hla d hJ
  refine w3197 _ _ _ _ _ _ _ _ _ _ _ _ _ X0_ok ?_
  unfold n3197
  have m' := m.le (le_add a M).1
  have hn := hs.1
  have hn1 := hr.cases.1
  have b0 := m'.b0
  have b1 := m'.b1
  have b2 := m'.b2
  refine gZ ?_
  refine t_cond (fun _ => ?_) (fun e => ?_)
  ·have hcv := hyield _ _ [runV p n c [s0, s1, s2, s3, s4, s5] w] rest (le_add _ _) ⟨_, p, n, c, rfl, rfl⟩ hJ
   refine t_loadV (m'.y (cv_one hcv)) ?_
   refine t_yield X0_ok hla d hcv ?_
   rintro bv M' d' (⟨rfl, hJ'⟩ | ⟨rfl, hE'⟩)
   ·refine gZ ?_
    exact t_ret ⟨a, M', rfl, LH.le_refl _, d', .inl ⟨rfl, hJ'⟩⟩
   ·refine gZ ?_
    exact t_ret ⟨a, M', rfl, LH.le_refl _, d', .inr ⟨rfl, hE'⟩⟩
  ·exfalso
   have : ((n : Int) == (f.n1 : Int)) = true := by rw [beq_iff_eq]; omega
   rw [this] at e; cases e
 | succ k ih =>
  intro order s0 s1 s2 s3 s4 s5 w a M rest p n c hlen hin hw hnc hs m hla d hJ
  refine w3197 _ _ _ _ _ _ _ _ _ _ _ _ _ X0_ok ?_
  unfold n3197
  have m' := m.le (le_add a M).1
  have hn := hs.1
  have hn1 := hr.cases.1
  have hb1 := hr.cases.2.1
  have h5 := o.cases
  have b0 := m'.b0
  have b1 := m'.b1
  have b2 := m'.b2
  refine gZ ?_
  refine t_cond (fun e => ?_) (fun _ => ?_)
  ·exfalso
   have := eq_of_beq e
   omega
  refine t_puF d (c3150 hs hin) ?_
  have hbl : bitsT order < 64 := bits_lt (k := 6) fun v hv => by have := hin v hv; omega
  refine gZ ?_
  refine t_loop (fun mm vs h' => ∃ (i : Nat) (a' : LH) (M' : Cells), vs = [.bool false, .int .i64 i] /\ i <= f.n1 /\ mm = f.n1 - i /\ h' = a'.add M' /\ a.le a' /\ Disj a'.get M' /\ J (((List.range b.cases.length).drop i).flatMap (Rv.stepT b (runsT b k) ⟨order, [s0, s1, s2, s3, s4, s5], w⟩) ++ rest) (h₀.add M'))
   ⟨0, a, M, rfl, Nat.zero_le _, rfl, rfl, LH.le_refl _, d, hJ⟩ ?_
  rintro Y mm vs _ hY ⟨i, a1, M1, rfl, hi, rfl, rfl, la1, d1, hJ1⟩
  refine gZ ?_
  refine t_if (fun e1 => ?_) (fun e1 => ?_)
  ·have hla1 := LH.le_trans hla la1
   have le1 := le_add a1 M1
   obtain ⟨cs, ad, hx, had, x0, x1, ⟨q, mq, kq, x2, x3⟩, q', mq', kq', x6, x7⟩ := (hr.le hla1.1).cases.at (i := i) (by omega)
   have y0 := Cells.cell?_le le1.1 x0
   have y1 := Cells.cell?_le le1.1 x1
   have y2 := Cells.cell?_le le1.1 x2
   have y6 := Cells.cell?_le le1.1 x6
   have hin' : 0 <= (i : Int) /\ (i : Int) < (f.n1 : Int) := by omega
   have hcm := List.mem_of_getElem? hx
   rw [drop_range (show i < b.cases.length by omega), List.flatMap_cons, List.append_assoc] at hJ1
   have hbit := bit_at (x := bitsT order) (i := i) hbl (by omega)
   have skip : canT order i cs = false -> Y [.bool false, .int .i64 (IntKind.wrap .i64 ((i : Int) + 1))] (a1.add M1) := fun hc => by
    refine hY (f.n1 - (i + 1)) _ _ (by omega) ⟨i + 1, a1, M1, ?_, by omega, rfl, rfl, la1, d1, ?_⟩
    ·rw [wrap_id (by omega) (by omega)]; rfl
    ·have : Rv.stepT b (runsT b k) ⟨order, [s0, s1, s2, s3, s4, s5], w⟩ i = [] := by
      unfold Rv.stepT; rw [hx]; exact if_neg (by rw [hc]; simp)
     rw [this, List.nil_append] at hJ1
     exact hJ1
   refine gZ ?_
   repeat ((first | refine t_loadStr (by assumption) ?_ | refine t_loadV (by assumption) ?_ | refine gL0 (by assumption) ?_); refine gZ ?_)
   rw [hbit]
   refine t_cond (fun g1 => ?_) (fun g1 => ?_)
   ·refine t_again (skip ?_)
    rw [can_bits, g1]; rfl
   refine t_puF d1 (c3150 x7 (after_in o hcm)) ?_
   have hsub := sub_at (bits_after o hcm) hbl
   refine gZ ?_
   rw [hsub]
   refine t_cond (fun g2 => ?_) (fun g2 => ?_)
   ·refine t_again (skip ?_)
    rw [can_bits, g1]
    simpa using g2
   have hcan : canT order i cs = true := by
    rw [can_bits, g1]
    simpa using g2
   have mA := m.le la1.1
   have mW := mA.le le1.1
   have w0 := mW.b0
   have w1 := mW.b1
   refine t_loadV mW.nx ?_
   refine gZ ?_
   refine t_grF d1 (c3158 (f := f) (hr.le hla1.1) o hx hnc (hs.le IntE.grow la1.1) (by omega) hw s0 s1 s2 s3 s4 s5) ?_
   rintro _ a2 la2 d2 ⟨p', n', k', t0, t1, t2, t3, t4, t5, rfl, hsx, hnk', hs2, _⟩
   have mW2 := (mA.le la2.1).le (le_add a2 M1).1
   refine gZ ?_
   refine t_loadV mW2.nx ?_
   have hst : Rv.stepT b (runsT b k) ⟨order, [s0, s1, s2, s3, s4, s5], w⟩ i = runsT b k (endedT ⟨order, [s0, s1, s2, s3, s4, s5], w⟩ i cs) := by
    unfold Rv.stepT; rw [hx]; exact if_pos hcan
   rw [hst] at hJ1
   have hxe : endedT ⟨order, [s0, s1, s2, s3, s4, s5], w⟩ i cs = ⟨(endedT ⟨order, [s0, s1, s2, s3, s4, s5], w⟩ i cs).order, [t0, t1, t2, t3, t4, t5], (endedT ⟨order, [s0, s1, s2, s3, s4, s5], w⟩ i cs).won⟩ := by rw [<- hsx]
   have hord := ended_order (x := ⟨order, [s0, s1, s2, s3, s4, s5], w⟩) (i := i) (c := cs)
   have hw2 := ended_won (x := ⟨order, [s0, s1, s2, s3, s4, s5], w⟩) (i := i) (c := cs) hw (by omega)
   generalize endedT ⟨order, [s0, s1, s2, s3, s4, s5], w⟩ i cs = x2 at *
   rw [hxe] at hJ1
   have hcall := ih x2.order t0 t1 t2 t3 t4 t5 x2.won a2 M1 _ p' n' k' (by rw [hord]; simp; omega) (fun v hv => by
    rw [hord] at hv
    rcases List.mem_append.1 hv with hv | hv
    ·exact hin v hv
    ·simp at hv; omega) hw2 hnk' hs2 (mA.le la2.1) (LH.le_trans hla1 la2) d2 hJ1
   refine gZ ?_
   refine t_callv (cv_fw (first := #[]) (args := #[.agg #[.slice p' n' k', .bool t0, .bool t1, .bool t2, .bool t3, .bool t4, .bool t5, .int .i64 (x2.won : Int)]]) (cap := #[.pointer (some z0), .pointer (some z1), .pointer (some z2)]) X0_ok rfl hcall) ?_
   rintro _ _ ⟨a3, M3, rfl, la3, d3, ⟨rfl, hJ3⟩ | ⟨rfl, hE3⟩⟩
   ·refine gZ ?_
    refine t_cond (fun e => by cases e) (fun _ => ?_)
    refine t_again (hY (f.n1 - (i + 1)) _ _ (by omega) ⟨i + 1, a3, M3, ?_, by omega, rfl, rfl, LH.le_trans la1 (LH.le_trans la2 la3), d3, hJ3⟩)
    rw [wrap_id (by omega) (by omega)]; rfl
   ·refine gZ ?_
    refine t_cond (fun _ => ?_) (fun e => by cases e)
    refine gI ?_
    refine gZ ?_
    exact t_ret ⟨a3, M3, rfl, LH.le_trans la1 (LH.le_trans la2 la3), d3, .inr ⟨rfl, hE3⟩⟩
  ·refine gZ ?_
   have hd : (List.range b.cases.length).drop i = [] := List.drop_eq_nil_of_le (by rw [List.length_range]; omega)
   rw [hd] at hJ1
   exact t_ret ⟨a1, M1, rfl, la1, d1, .inl ⟨rfl, hJ1⟩⟩
def NoRun (s : List RvRun) : Prop := s = []
theorem next_less : ∀ s xs s', NextRun s xs s' -> s'.length < s.length := by
 rintro s xs s' ⟨x, p, n, c, rfl, rfl⟩
 simp
def bookC (r : Nat) (el : TypeId) (f : BookC) : Cells := oneC r (.cells #[.slice f.p0 f.n0 f.c0, .slice f.p1 f.n1 f.c1] el (0, 0))
set_option maxRecDepth 10000 in
theorem hands3196 {h₀ : LH} {f : BookC} {b : RvBook} (hr : BookR h₀.get f b) (o : BookShape b) {r : Nat} {el : TypeId} (hr0 : h₀.get r = none) :
  HandsF X0 Tryz.prog (.func (.func 130) #[] #[.pointer (some ⟨r, 0, none⟩)]) h₀ (bookC r el f) NextRun NoRun (allRuns b) := by
 intro y J E hJ hE hyield h hle hJ0 hdk
 have hh : h = h₀.add (diff h₀.get h.get) := (diff_add hle).symm
 generalize hM : diff h₀.get h.get = M at hh
 have dM0 : Disj h₀.get M := by rw [<- hM]; exact diff_disj _ _
 subst hh
 -- one's own half
 have d0 : Disj h₀.get (bookC r el f) := disj_oneC hr0
 have dMk : Disj M (bookC r el f) := Disj.of_add_right dM0 hdk
 have e0 : (h₀.add M).add (bookC r el f) = (h₀.add (bookC r el f)).add M := by unfold LH.add; simp only; rw [Cells.add_swap dMk]
 rw [e0]
 have ld : h₀.le (h₀.add (bookC r el f)) := le_add _ _
 have dA : Disj (h₀.add (bookC r el f)).get M := Disj.add dM0 dMk.symm
 have hrow : (h₀.add (bookC r el f)).get r = some (true, .cells #[.slice f.p0 f.n0 f.c0, .slice f.p1 f.n1 f.c1] el (0, 0)) := add_oneC_get hr0
 generalize h₀.add (bookC r el f) = a at *
 refine cv_fw X0_ok (by rfl) (?_ : FW X0 Tryz.prog 130 #[y, .pointer (some ⟨r, 0, none⟩)] (a.add M) _)
 refine w3196 _ _ X0_ok ?_
 unfold n3196
 have hra : h₀.get r = none := hr0
 refine t_newF dA fun r1 a1 hr1 la1 d1 e1 keep1 => ?_
 refine t_newF d1 fun r2 a2 hr2 la2 d2 e2 keep2 => ?_
 refine t_storeF d2 (j := 0) (by rw [add_plain]) e2 (by show 0 < 1; omega) rfl fun a3 t3 e3 d3 => ?_
 have hr2a : a.get r2 = none := none_le la1 hr2
 have la3 : a.le a3 := t3.le (LH.le_trans la1 la2) hr2a
 have ld3 := LH.le_trans ld la3
 have h12 : r1 ≠ r2 := by rintro rfl; rw [e1] at hr2; cases hr2
 have e1' : a3.get r1 = some (true, .cells y.cells 202 (0, 0)) := by rw [t3.keep _ h12, keep2 _ h12]; exact e1
 have er : a3.get r = some (true, .cells #[.slice f.p0 f.n0 f.c0, .slice f.p1 f.n1 f.c1] el (0, 0)) := la3.1 _ _ hrow
 have m : NextM a3.get f ⟨r, 0, none⟩ ⟨r1, 0, none⟩ ⟨r2, 0, none⟩ y := by
  refine ⟨?_, ?_, ?_, fun ey => ?_, ?_⟩
  ·rw [add_plain]; unfold Cells.cell?; rw [er]; rfl
  ·rw [add_plain]; unfold Cells.cell?; rw [er]; rfl
  ·rw [add_plain, add_plain]; unfold Cells.cell?; rw [er]; rfl
  ·unfold Cells.cell?; rw [e1', ey]; rfl
  ·unfold Cells.cell?; rw [e3]; rfl
 have m3 := m.le (le_add a3 M).1
 have b0 := m3.b0
 have b1 := m3.b1
 refine t_loadV m3.nx ?_
 refine gZ ?_
 refine t_grF d3 (c3156 (f := f) (hr.le ld3.1) o.rights) ?_
 rintro _ a4 la4 d4 rfl
 have m4 := (m.le la4.1)
 refine gZ ?_
 refine t_loadV (m4.le (le_add a4 M).1).nx ?_
 refine gZ ?_
 have hJ1 : J (allRuns b ++ []) (h₀.add M) := by rw [List.append_nil]; exact hJ0
 have hcall := next_ok hr o hyield b.cases.length [] (decide (0 < b.rights.length)) (decide (1 < b.rights.length)) (decide (2 < b.rights.length)) (decide (3 < b.rights.length)) (decide (4 < b.rights.length)) (decide (5 < b.rights.length)) 0 a4 M [] none 0 0 (by simp) (fun v hv => by cases hv) (by omega) (Nat.le_refl _) Sl.nil m4 (LH.le_trans ld3 la4) d4 hJ1
 refine t_callv (cv_fw (first := #[]) (args := #[.agg #[.slice none 0 0, .bool (decide (0 < b.rights.length)), .bool (decide (1 < b.rights.length)), .bool (decide (2 < b.rights.length)), .bool (decide (3 < b.rights.length)), .bool (decide (4 < b.rights.length)), .bool (decide (5 < b.rights.length)), .int .i64 0]]) (cap := #[.pointer (some ⟨r, 0, none⟩), .pointer (some ⟨r1, 0, none⟩), .pointer (some ⟨r2, 0, none⟩)]) X0_ok rfl hcall) ?_
 rintro _ _ ⟨a5, M5, rfl, la5, d5, hres⟩
 have l05 := LH.le_trans (LH.le_trans ld3 la4) la5
 have hlast : h₀.le (a5.add M5) := LH.le_trans l05 (le_add _ _)
 have hw := whole l05 d5
 have hwd := whole_disj (h₀ := h₀) d5
 rcases hres with ⟨rfl, hJ5⟩ | ⟨rfl, hE5⟩
 ·refine gZ ?_
  refine t_ret ⟨hlast, .inl ⟨[], rfl, ?_⟩⟩
  rw [hw]
  exact hJ _ _ _ hJ5 hwd
 ·refine gZ ?_
  refine t_ret ⟨hlast, .inr ?_⟩
  rw [hw]
  exact hE _ _ hE5 hwd
theorem c3175 {h : LH} (f : BookC) : FW X0 Tryz.prog 94 #[bookV f] h fun v h' => ∃ r, h.get r = none /\ v = .func (.func 130) #[] #[.pointer (some ⟨r, 0, none⟩)] /\ h' = h.add (bookC r 102 f) := by
 refine w3175 _ _ _ _ _ _ X0_ok ?_
 unfold n3175
 refine t_new fun r hr0 => ?_
 refine t_ret ⟨r, hr0, rfl, ?_⟩
 have : h.get.upd r (true, .cells #[.slice f.p0 f.n0 f.c0, .slice f.p1 f.n1 f.c1] 102 (0, 0)) = h.get.add (bookC r 102 f) := by
  funext b
  unfold Cells.upd Cells.add bookC oneC
  by_cases e : b = r
  ·subst e; simp [hr0]
  ·simp only [if_neg e]; cases h.get b <;> rfl
 show ({ h with get := _ } : LH) = _
 rw [this]
 rfl
end Go.Proofs.YtgljffachdhigaaGreatDoor
end
section
namespace Go.TM.Rv
open Go Go.TM
def unseen (es : Array MapEntry) (seen : Array Nat) : Nat := (es.toList.filter fun e => !(seen.toList.contains e.born)).length
def sumSeen (W : MapEntry -> Int) (es : Array MapEntry) (seen : Array Nat) : Int := ((es.toList.filter fun e => seen.toList.contains e.born).map W).sum
theorem push_has (seen : Array Nat) (b x : Nat) : (seen.push b).toList.contains x = (seen.toList.contains x || x == b) := by
 rw [Array.toList_push, Bool.eq_iff_iff]
 simp
theorem unseen_go {seen : Array Nat} {e : MapEntry} (hb : e.born ∉ seen.toList) : ∀ {l : List MapEntry}, e ∈ l -> (l.filter fun x => !((seen.push e.born).toList.contains x.born)).length < (l.filter fun x => !(seen.toList.contains x.born)).length := by
 intro l
 have mono : ∀ l : List MapEntry, (l.filter fun x => !((seen.push e.born).toList.contains x.born)).length <= (l.filter fun x => !(seen.toList.contains x.born)).length := by
  intro l
  induction l with
  | nil => exact Nat.le_refl _
  | cons a l ih =>
   rw [List.filter_cons, List.filter_cons, push_has]
   generalize (l.filter fun x => !((seen.push e.born).toList.contains x.born)) = A at *
   generalize (l.filter fun x => !(seen.toList.contains x.born)) = B at *
   cases seen.toList.contains a.born with
   | true => simpa using ih
   | false =>
    cases (a.born == e.born) with
    | true => simp; omega
    | false => simpa using ih
 induction l with
 | nil => intro h; cases h
 | cons a l ih =>
  intro h
  rw [List.filter_cons, List.filter_cons, push_has]
  rcases List.mem_cons.1 h with rfl | h
  ·have h1 : seen.toList.contains e.born = false := by
    cases hc : seen.toList.contains e.born with
    | false => rfl
    | true => exact absurd (by simpa using hc) hb
   have := mono l
   generalize (l.filter fun x => !((seen.push e.born).toList.contains x.born)) = A at *
   generalize (l.filter fun x => !(seen.toList.contains x.born)) = B at *
   simp only [h1, Bool.false_or, beq_self_eq_true, Bool.not_true, Bool.not_false, if_true, List.length_cons]
   simp
   omega
  ·have := ih h
   generalize (l.filter fun x => !((seen.push e.born).toList.contains x.born)) = A at *
   generalize (l.filter fun x => !(seen.toList.contains x.born)) = B at *
   cases seen.toList.contains a.born with
   | true => simpa using this
   | false =>
    cases (a.born == e.born) with
    | true => simp; omega
    | false => simpa using this
theorem unseen_less {es : Array MapEntry} {seen : Array Nat} {e : MapEntry} (he : e ∈ es.toList) (hb : e.born ∉ seen.toList) : unseen es (seen.push e.born) < unseen es seen := unseen_go hb he
theorem sum_go {W : MapEntry -> Int} {seen : Array Nat} {e : MapEntry} (hb : e.born ∉ seen.toList) : ∀ {l : List MapEntry}, (l.map (·.born)).Nodup -> e ∈ l -> ((l.filter fun x => (seen.push e.born).toList.contains x.born).map W).sum = ((l.filter fun x => seen.toList.contains x.born).map W).sum + W e := by
 intro l
 have none : ∀ l : List MapEntry, e.born ∉ l.map (·.born) -> (l.filter fun x => (seen.push e.born).toList.contains x.born) = l.filter fun x => seen.toList.contains x.born := by
  intro l hl
  refine List.filter_congr fun x hx => ?_
  rw [push_has]
  have : (x.born == e.born) = false := by
   cases hc : (x.born == e.born) with
   | false => rfl
   | true => exact absurd (List.mem_map.2 ⟨x, hx, eq_of_beq hc⟩) hl
  rw [this, Bool.or_false]
 induction l with
 | nil => intro _ h; cases h
 | cons a l ih =>
  intro hn h
  simp only [List.map_cons, List.nodup_cons] at hn
  rw [List.filter_cons, List.filter_cons, push_has]
  rcases List.mem_cons.1 h with rfl | h
  ·have h1 : seen.toList.contains e.born = false := by
    cases hc : seen.toList.contains e.born with
    | false => rfl
    | true => exact absurd (by simpa using hc) hb
   rw [none l hn.1]
   simp only [h1, Bool.false_or, beq_self_eq_true, if_true, List.map_cons, List.sum_cons]
   simp
   omega
  ·have ih := ih hn.2 h
   have hne : (a.born == e.born) = false := by
    cases hc : (a.born == e.born) with
    | false => rfl
    | true => exact absurd (List.mem_map.2 ⟨e, h, (eq_of_beq hc).symm⟩) hn.1
   rw [hne, Bool.or_false]
   cases seen.toList.contains a.born with
   | true =>
    simp only [if_true, List.map_cons, List.sum_cons, ih]
    omega
   | false =>
    simp only [Bool.false_eq_true, if_false]
    exact ih
theorem sum_step {W : MapEntry -> Int} {es : Array MapEntry} {seen : Array Nat} {e : MapEntry} (hn : (es.toList.map (·.born)).Nodup) (he : e ∈ es.toList) (hb : e.born ∉ seen.toList) : sumSeen W es (seen.push e.born) = sumSeen W es seen + W e := sum_go hb hn he
theorem sum_all {W : MapEntry -> Int} {es : Array MapEntry} {seen : Array Nat} (h : AllSeen es seen) : sumSeen W es seen = (es.toList.map W).sum := by
 unfold sumSeen
 rw [List.filter_eq_self.2]
 intro e he
 simpa using h e he
theorem sum_none {W : MapEntry -> Int} {es : Array MapEntry} : sumSeen W es #[] = 0 := by
 unfold sumSeen
 rw [List.filter_eq_nil_iff.2]
 ·rfl
 ·intro e _; simp
theorem sum_filter {W : MapEntry -> Int} {p : MapEntry -> Bool} : ∀ {l : List MapEntry}, (∀ e ∈ l, 0 <= W e) -> 0 <= ((l.filter p).map W).sum /\ ((l.filter p).map W).sum <= (l.map W).sum
 | [], _ => by simp
 | a :: l, h => by
  have ih := sum_filter (p := p) (l := l) fun e he => h e (List.mem_cons_of_mem _ he)
  have h1 := h a List.mem_cons_self
  rw [List.filter_cons, List.map_cons, List.sum_cons]
  cases p a with
  | true => simp only [if_true, List.map_cons, List.sum_cons]; omega
  | false => simp only [Bool.false_eq_true, if_false]; omega
variable {κ : Type} [DecidableEq κ]
theorem sum_zero {α : Type} : ∀ (l : List α), (l.map fun _ => (0 : Int)).sum = 0
 | [] => rfl
 | _ :: l => by rw [List.map_cons, List.sum_cons, sum_zero l]; rfl
theorem sum_add' {α : Type} (f g : α -> Int) : ∀ (l : List α), (l.map fun x => f x + g x).sum = (l.map f).sum + (l.map g).sum
 | [] => rfl
 | x :: l => by
  rw [List.map_cons, List.map_cons, List.map_cons, List.sum_cons, List.sum_cons, List.sum_cons, sum_add' f g l]
  omega
theorem sum_one (v : Int) (x : κ) : ∀ {ks : List κ}, ks.Nodup -> x ∈ ks -> (ks.map fun k => if k = x then v else 0).sum = v := by
 intro ks
 have none : ∀ ks : List κ, x ∉ ks -> (ks.map fun k => if k = x then v else 0).sum = 0 := by
  intro ks
  induction ks with
  | nil => intro _; rfl
  | cons a l ih =>
   intro h
   rw [List.map_cons, List.sum_cons, ih (fun hh => h (List.mem_cons_of_mem _ hh)), if_neg (fun e : a = x => h (by rw [e]; exact List.mem_cons_self))]
   rfl
 induction ks with
 | nil => intro _ h; cases h
 | cons a l ih =>
  intro hn h
  rw [List.nodup_cons] at hn
  rw [List.map_cons, List.sum_cons]
  by_cases e : a = x
  ·subst e
   rw [if_pos rfl, none l hn.1]; omega
  ·rw [if_neg e, ih hn.2 ((List.mem_cons.1 h).resolve_left fun hh => e hh.symm)]; omega
theorem count_sum (p : κ -> Bool) {ks : List κ} (hn : ks.Nodup) : ∀ {L : List κ}, (∀ x ∈ L, x ∈ ks) -> (ks.map fun k => if p k then (L.count k : Int) else 0).sum = (L.countP p : Int)
 | [], _ => by
  have : (ks.map fun k => if p k then (([] : List κ).count k : Int) else 0) = ks.map fun _ => (0 : Int) := List.map_congr_left fun k _ => by simp
  rw [this, sum_zero]; rfl
 | x :: L, h => by
  have ih := count_sum p hn (L := L) fun y hy => h y (List.mem_cons_of_mem _ hy)
  have : (ks.map fun k => if p k then ((x :: L).count k : Int) else 0) = ks.map fun k => (if p k then (L.count k : Int) else 0) + (if k = x then (if p x then 1 else 0) else 0) := by
   refine List.map_congr_left fun k _ => ?_
   rw [List.count_cons]
   by_cases e : k = x
   ·subst e
    cases p k <;> simp
   ·have : (x == k) = false := by simpa using fun hh => e hh.symm
    rw [this, if_neg e]
    cases p k <;> simp
  rw [this, sum_add', ih, sum_one _ x hn (h x List.mem_cons_self), List.countP_cons]
  cases p x <;> simp
end Go.TM.Rv
end
section
namespace Go.Proofs.YtgljffachdhigaaGreatDoor
open Go Go.TM Go.Proofs
attribute [local irreducible] T.wp CV FWK
theorem c41 {h : LH} {p : Option Addr} {n c : Nat} {l : List Int} (hl : Sl IntE 1 h.get p n l) (v : Int) : Pu Tryz.prog 16 #[.slice p n c, .int .i64 v] h (.bool (l.contains v)) := by
 refine w41 _ _ _ _ X0_ok ?_
 unfold n41
 have hn := hl.1
 have hbn := hl.2.1
 refine t_loop (fun mm vs h' => h = h' /\ ∃ i : Nat, vs = [.bool false, .int .i64 i] /\ i <= n /\ mm = n - i /\ l.contains v = (l.drop i).contains v) ⟨rfl, 0, rfl, Nat.zero_le _, rfl, rfl⟩ ?_
 rintro Y mm vs _ hY ⟨rfl, i, rfl, hi, rfl, hc⟩
 refine gZ ?_
 refine t_if (fun e => ?_) (fun e => ?_)
 ·obtain ⟨x, a, hx, ha, e1⟩ := hl.at (i := i) (by omega)
  unfold IntE at e1
  rw [drop_of hx, List.contains_cons] at hc
  refine gZ ?_
  refine t_cond (fun b => ?_) (fun b => ?_)
  ·refine gZ ?_
   have b' : x = v := by simpa using b
   exact t_ret ⟨by rw [hc, b']; simp, rfl⟩
  ·have b' : (v == x) = false := by simp at b ⊢; omega
   refine t_again (hY (n - (i + 1)) _ _ (by omega) ⟨rfl, i + 1, ?_, by omega, rfl, by rw [hc, b', Bool.false_or]⟩)
   rw [wrap_id (by omega) (by omega)]; rfl
 ·refine gZ ?_
  rw [List.drop_eq_nil_of_le (by omega)] at hc
  exact t_ret ⟨by rw [hc]; rfl, rfl⟩
end Go.Proofs.YtgljffachdhigaaGreatDoor
end
section
namespace Go.Proofs.YtgljffachdhigaaGreatDoor
open Go Go.TM Go.Proofs
attribute [local irreducible] T.wp CV FWK
theorem t_pushS {X : XP} {Q : Leaf -> LH -> Prop} {h h₀ : LH} {k : Value -> T} {p : Option Addr} {n c : Nat} {l : List Int} {x : Int} (g : Growing IntEnc 56 1 h₀.get h.get p n c l) (hle : h₀.le h) (hn : n + 1 <= 2 ^ 30)
  (hk : ∀ p' c' h', h₀.le h' -> Growing IntEnc 56 1 h₀.get h'.get p' (n + 1) c' (l ++ [x]) -> (k (.slice p' (n + 1) c')).wp X Tryz.prog Q h') :
  (T.sem false (Instr.buildSlice 50 1 #[(0, .int .i64 x)]) fun v => T.unS v fun a m c2 => T.sem false (Builtin.append_ #[50, 50] 50 #[.slice p n c, .slice a m c2]) k).wp X Tryz.prog Q h := by
 refine t_build und40 inf34 (by decide) (by decide) (cells := #[.int .i64 x]) (by kernel_rfl) fun r hr => ?_
 have le2 : h.le _ := LH.upd_le (x := (true, .cells #[.int .i64 x] 56 (0, 0))) hr
 refine gG ?_
 refine t_grow (h₀ := h₀) (x := x) (ws := [.int .i64 x]) rfl rfl und40 und40 inf34 rfl (by omega) hn (g.le le2.1) (LH.le_trans hle le2) rfl rfl ?_ ?_ ?_
 ·intro j w hj
  rw [add_plain, Nat.zero_add]
  exact cell_upd (by simpa using hj)
 ·intro w hw; simp at hw; subst hw; rfl
 ·intro p' c' h₂ hle2 _ g2
  exact hk p' c' h₂ hle2 g2
end Go.Proofs.YtgljffachdhigaaGreatDoor
end
